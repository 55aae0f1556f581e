/- Part 3 of a proof: closed runs of the given program, and the readings of its code that they use. -/
import Derived.Test.YtjkgcifieggcpaaGreatP01
set_option linter.constructorNameAsVariable false
set_option linter.unusedVariables false
set_option linter.unusedSimpArgs false
set_option linter.unusedSectionVars false
namespace Pv
open Go Tw
section
variable {X:iR} {P:Program} {A:Nat->Prop} {m m':List MB} {h h':List HB} {H H':List (PB X.Γ)}
theorem HR.next (hr:HR X P A m H h) (hF:Fr m h m' h') (hU:Up m m') (hl:m'.length=H'.length) (hn:(aK m').Nodup)
  (Ij:∀ (i:Nat) b,H'[i]? = some b->(∃ mb,H[i]? = some b∧m[i]? = some mb∧m'[i]? = some mb∧∀ c,mb.own=some c->h'[c]? = h[c]?)∨∃ mb,m'[i]? = some mb∧BR X P (AA A m') m' h' b mb):HR X P A m' H' h':=by
 refine⟨hl,fun i b hb=>?_,hn,fun b hb=>hr.up b (by have:=hF.len;omega),fun b hb=>?_⟩
 ·rcases Ij i b hb with⟨mb,h1,h2,h3,h4⟩ | h1
  ·obtain⟨BP,g1,g2⟩:=hr.at_ i b h1;rw[h2] at g1;cases g1;exact⟨mb,h3,g2.step hF hU h4⟩
  ·exact h1
 ·rcases hF.new b hb with h1 | h1
  ·exact hr.yK b h1
  ·exact hr.up b h1
theorem BR.has {B:Nat->Prop} {b:PB X.Γ} {mb:MB} {c:Nat} (hb:BR X P B m h b mb) (ho:mb.own=some c):c<h.length:=by
 have key:∀ {y},h[c]? = some y->c<h.length:=fun e=>(List.getElem?_eq_some_iff.1 e).1;cases b with
 | cells cs=>
  cases mb with
  | cO b=>cases ho;obtain⟨_,h1,_⟩:=hb;exact key h1
  | _=>exact hb.elim
 | fG cs=>
  cases mb with
  | cZ b=>cases ho
  | _=>exact hb.elim
 | list k ex t l=>
  cases mb with
  | bK x=>
   cases (hb:LR X P B m h k ex t l x) with
   | nil=>cases ho
   | emp=>simp[MB.own] at ho
   | some h1 _ _ h4=>
    simp only[MB.own] at ho;split at ho
    ·cases ho
    cases ho;exact key h4
  | _=>exact hb.elim
 | map es=>
  cases mb with
  | cO b=>cases ho;obtain⟨_,h1,_⟩:=hb;exact key h1
  | _=>exact hb.elim
 | rV cs=>
  cases mb with
  | cO b=>cases ho;obtain⟨_,h1,_⟩:=hb;exact key h1
  | _=>exact hb.elim
 | vV es=>
  cases mb with
  | cZ b=>cases ho
  | _=>exact hb.elim
 | bn r n seen=>
  cases mb with
  | cO b=>cases ho;obtain⟨_,h1,_⟩:=hb;exact key h1
  | _=>exact hb.elim
 | mark=>
  cases mb with
  | cO b=>cases ho;exact key hb
  | _=>exact hb.elim
 | loop=>
  cases mb with
  | cO b=>cases ho;obtain⟨_,h1,_⟩:=hb;exact key h1
  | _=>exact hb.elim
 | gone=>
  cases mb with
  | gone=>cases ho
  | _=>exact hb.elim
theorem HR.inb (hr:HR X P A m H h) {c:Nat} (hc:c∈aK m):c<h.length:=by
 obtain⟨mb,hm,ho⟩:=List.mem_filterMap.1 hc;obtain⟨i,hi⟩:=List.getElem?_of_mem hm;have:i<H.length:=by rw[<-hr.len];exact (List.getElem?_eq_some_iff.1 hi).1
 obtain⟨BP,h1,h2⟩:=hr.at_ i H[i] (List.getElem?_eq_getElem this);rw[hi] at h1;cases h1;exact h2.has ho
theorem dK (a b:List MB):aK (a++b)=aK a++aK b:=List.filterMap_append ..
theorem fH (mb:MB):aK [mb]=mb.own.toList:=by unfold aK;simp[List.filterMap_cons];cases mb.own<;>rfl
theorem nC (ms:List MB):Up m (m++ms):=fun i mb hi=>.inl (by rw[List.getElem?_append_left (List.getElem?_eq_some_iff.1 hi).1];exact hi)
theorem HR.push (hr:HR X P A m H h) {pb:PB X.Γ} {hb:HB} {mb:MB} (ho:mb.own=some h.length∨mb.own=none) (rO:BR X P (AA A (m++[mb])) (m++[mb]) (h++[hb]) pb mb) :
  HR X P A (m++[mb]) (H++[pb]) (h++[hb])∧Fr m h (m++[mb]) (h++[hb])∧Up m (m++[mb]):=by
 have hF:Fr m h (m++[mb]) (h++[hb]):=by
  refine⟨by simp,fun b hb _=>by rw[List.getElem?_append_left hb],fun b hb=>?_,fun b cs hc=>⟨cs,?_,Nat.le_refl _⟩⟩
  ·rw[dK,List.mem_append,fH] at hb;rcases hb with hb | hb
   ·exact .inl hb
   ·rcases ho with ho | ho<;>rw[ho] at hb<;>simp at hb
    exact .inr (by omega)
  ·rw[cu (List.getElem?_append_left (bU hc)),hc]
 refine⟨hr.next hF (nC _) (by simp[hr.len]) ?_ fun i b hi=>?_,hF,nC _⟩
 ·rw[dK,fH];refine List.nodup_append.2 ⟨hr.nodup,?_,?_⟩
  ·cases mb.own<;>simp
  ·intro a ha b hb e;subst e;have:=hr.inb ha;rcases ho with ho | ho<;>rw[ho] at hb<;>simp at hb
   omega
 ·rcases Nat.lt_or_ge i H.length with aN | zF
  ·left;rw[List.getElem?_append_left aN] at hi;obtain⟨BP,h1,h2⟩:=hr.at_ i b hi;refine⟨BP,hi,h1,by rw[List.getElem?_append_left (by rw[hr.len];exact aN)];exact h1,fun c hc=>?_⟩;rw[List.getElem?_append_left (h2.has hc)]
  ·right;rw[List.getElem?_append_right zF] at hi;have:i-H.length=0:=by
    rcases Nat.eq_zero_or_pos (i-H.length) with h | h
    ·exact h
    ·rw[List.getElem?_eq_none (by simp;omega)] at hi;cases hi
   rw[this] at hi;simp only[List.getElem?_cons_zero,Option.some.injEq] at hi;subst hi;exact⟨mb,by rw[List.getElem?_append_right (by rw[hr.len];exact zF),hr.len,this];rfl,rO⟩
theorem HR.a0C (hr:HR X P A m H h) {pb:PB X.Γ} {mb:MB} (ho:mb.own=none) (rO:BR X P (AA A (m++[mb])) (m++[mb]) h pb mb) :
  HR X P A (m++[mb]) (H++[pb]) h∧Fr m h (m++[mb]) h∧Up m (m++[mb]):=by
 have mD:aK (m++[mb])=aK m:=by rw[dK,fH,ho];simp
 have hF:Fr m h (m++[mb]) h:=⟨Nat.le_refl _,fun _ _ _=>rfl,fun b hb=>.inl (mD▸hb),fun b cs hc=>⟨cs,hc,Nat.le_refl _⟩⟩;refine⟨hr.next hF (nC _) (by simp[hr.len]) (by rw[mD];exact hr.nodup) fun i b hi=>?_,hF,nC _⟩;rcases Nat.lt_or_ge i H.length with aN | zF
 ·left;rw[List.getElem?_append_left aN] at hi;obtain⟨BP,h1,h2⟩:=hr.at_ i b hi;exact⟨BP,hi,h1,by rw[List.getElem?_append_left (by rw[hr.len];exact aN)];exact h1,fun c hc=>rfl⟩
 ·right;rw[List.getElem?_append_right zF] at hi;have:i-H.length=0:=by
   rcases Nat.eq_zero_or_pos (i-H.length) with h | h
   ·exact h
   ·rw[List.getElem?_eq_none (by simp;omega)] at hi;cases hi
  rw[this] at hi;simp only[List.getElem?_cons_zero,Option.some.injEq] at hi;subst hi;exact⟨mb,by rw[List.getElem?_append_right (by rw[hr.len];exact zF),hr.len,this];rfl,rO⟩
theorem HR.set (hr:HR X P A m H h) {i c:Nat} {mb:MB} {pb:PB X.Γ} {hb:HB} (hi:m[i]? = some mb) (ho:mb.own=some c) (hg:∀ cs,aB h c=some cs->∃ cs',aB (h.set c hb) c=some cs'∧cs.length<=cs'.length)
  (rO:Fr m h m (h.set c hb)->BR X P (AA A m) m (h.set c hb) pb mb):HR X P A m (H.set i pb) (h.set c hb)∧Fr m h m (h.set c hb):=by
 have hF:Fr m h m (h.set c hb):=by
  refine⟨by simp,fun b hb hn=>?_,fun b hb=>.inl hb,fun b cs hc=>?_⟩
  ·rw[List.getElem?_set_ne];intro e;subst e;exact hn (aC hi ho)
  ·by_cases e:c=b
   ·subst e;exact hg cs hc
   ·exact⟨cs,by rw[cu (List.getElem?_set_ne e),hc],Nat.le_refl _⟩
 refine⟨hr.next hF .refl (by simp[hr.len]) hr.nodup fun j b hj=>?_,hF⟩;by_cases e:i=j
 ·subst e;rw[List.getElem?_set_self' ] at hj;right;have:H[i]?.isSome:=by
   have:i<H.length:=by rw[<-hr.len];exact (List.getElem?_eq_some_iff.1 hi).1
   simp[this]
  obtain⟨y,hy⟩:=Option.isSome_iff_exists.1 this;rw[hy] at hj;cases hj;exact⟨mb,hi,rO hF⟩
 ·rw[List.getElem?_set_ne e] at hj;left;obtain⟨BP,h1,h2⟩:=hr.at_ j b hj;refine⟨BP,hj,h1,h1,fun d hd=>List.getElem?_set_ne fun e2=>?_⟩;subst e2;exact e (dI hr.nodup hi h1 ho hd)
theorem wI {i:Nat}:∀ {m:List MB} {b:Nat},b∈aK (m.set i .gone)->b∈aK m:=by
 intro m b hb;obtain⟨mb,hm,ho⟩:=List.mem_filterMap.1 hb;obtain⟨j,hj⟩:=List.getElem?_of_mem hm;by_cases e:i=j
 ·subst e;rw[List.getElem?_set_self'] at hj;cases hx:m[i]? with
  | none=>rw[hx] at hj;cases hj
  | some y=>rw[hx] at hj;cases hj;cases ho
 rw[List.getElem?_set_ne e] at hj;exact aC hj ho
theorem Ew {i:Nat}:∀ {m:List MB},(aK m).Nodup->(aK (m.set i .gone)).Nodup:=by
 unfold aK;intro m
 induction m generalizing i with
 | nil=>intro h;simp
 | cons x r ih=>
  intro hn;cases i with
  | zero=>
   simp only[List.set_cons_zero,List.filterMap_cons,MB.own];simp only[List.filterMap_cons] at hn;split at hn
   ·exact hn
   exact (List.nodup_cons.1 hn).2
  | succ i=>
   simp only[List.set_cons_succ,List.filterMap_cons];simp only[List.filterMap_cons] at hn;split at hn
   ·exact ih hn
   refine List.nodup_cons.2 ⟨fun hb=>(List.nodup_cons.1 hn).1 ?_,ih (List.nodup_cons.1 hn).2⟩;exact wI (m:=r) hb
theorem PL {i:Nat}:Fr m h (m.set i .gone) h:=⟨Nat.le_refl _,fun _ _ _=>rfl,fun _ hb=>.inl (wI hb),fun _ cs hc=>⟨cs,hc,Nat.le_refl _⟩⟩
theorem PN {i:Nat}:Up m (m.set i .gone):=fun j mb hj=>by
 by_cases e:i=j
 ·subst e;right;rw[List.getElem?_set_self',hj];rfl
 ·left;rw[List.getElem?_set_ne e];exact hj
theorem HR.gone (hr:HR X P A m H h) (i:Nat):HR X P A (m.set i .gone) (H.set i .gone) h:=by
 refine hr.next PL PN (by simp[hr.len]) (Ew hr.nodup) fun j b hj=>?_;by_cases e:i=j
 ·subst e;right;rw[List.getElem?_set_self'] at hj;cases hx:H[i]? with
  | none=>rw[hx] at hj;cases hj
  | some y=>
   rw[hx] at hj;cases hj;obtain⟨mb,h1,_⟩:=hr.at_ i y hx;exact⟨.gone,by rw[List.getElem?_set_self',h1];rfl,trivial⟩
 rw[List.getElem?_set_ne e] at hj;left;obtain⟨mb,h1,_⟩:=hr.at_ j b hj;exact⟨mb,hj,h1,by rw[List.getElem?_set_ne e];exact h1,fun _ _=>rfl⟩
def aP:List Nat->List MB->List MB
 | [],m=>m
 | i::is,m=>aP is (m.set i .gone)
theorem eU:∀ (is:List Nat) (m:List MB),Fr m h (aP is m) h∧Up m (aP is m)
 | [],m=>⟨.refl,.refl⟩
 | i::is,m=>⟨PL.trans (eU is _).1,PN.trans (eU is _).2⟩
theorem HR.aI:∀ (is:List Nat) {m:List MB} {H:List (PB X.Γ)},HR X P A m H h->HR X P A (aP is m) (aI is H) h
 | [],_,_,hr=>hr
 | i::is,_,_,hr=>HR.aI is (hr.gone i)
theorem tY:∀ (is:List Nat) (H:List (PB X.Γ)),(Pv.aI is H).length=H.length
 | [],_=>rfl
 | i::is,H=>by rw[Pv.aI,tY is];simp[Kq]
theorem fV:∀ (is:List Nat) (m:List MB),(aP is m).length=m.length
 | [],_=>rfl
 | i::is,m=>by rw[aP,fV is];simp
theorem tZ:∀ (is:List Nat) {m:List MB} {i:Nat} {mb:MB},m[i]? = some mb->(aP is m)[i]? = some (if is.contains i then .gone else mb)
 | [],_,_,_,h=>by simpa[aP] using h
 | j::is,m,i,mb,h=>by
  rw[aP];by_cases e:j=i
  ·subst e;have:(m.set j .gone)[j]? = some .gone:=by rw[List.getElem?_set_self',h];rfl
   rw[tZ is this];simp
  rw[tZ is (by rw[List.getElem?_set_ne e];exact h)];have:(i==j)=false:=by simp;omega
  simp only[List.contains_cons,this,Bool.false_or]
end
section
variable {X:iR} {P:Program} {A:Nat->Prop} {m m':List MB} {h h':List HB} {H H':List (PB X.Γ)}
theorem aH.nil:aH X P A m h [] []:=⟨rfl,fun i x y hx=>by simp at hx⟩
theorem aH.cons {v:PV X.Γ} {x:TV} {vs:List (PV X.Γ)} {xs:List TV} (h1:VR X P A m h v x) (h2:aH X P A m h vs xs):aH X P A m h (v::vs) (x::xs):=by
 refine⟨by simp[h2.1],fun i a b ha hb=>?_⟩;cases i with
 | zero=>simp only[List.getElem?_cons_zero,Option.some.injEq] at ha hb;subst ha;subst hb;exact h1
 | succ i=>exact h2.2 i a b (by simpa using ha) (by simpa using hb)
theorem aH.inv {v:PV X.Γ} {vs:List (PV X.Γ)} {xs:List TV} (hv:aH X P A m h (v::vs) xs):∃ x r,xs=x::r∧VR X P A m h v x∧aH X P A m h vs r:=by
 cases xs with
 | nil=>have:=hv.1;simp at this
 | cons x r=>exact⟨x,r,rfl,hv.2 0 v x rfl rfl,by have:=hv.1;simpa using this,fun i a b ha hb=>hv.2 (i+1) a b (by simpa using ha) (by simpa using hb)⟩
theorem aH.inv0 {xs:List TV} (hv:aH X P A m h [] xs):xs=[]:=by have:=hv.1;cases xs<;>simp_all
theorem aH.app {a b:List (PV X.Γ)} {x y:List TV} (h1:aH X P A m h a x) (h2:aH X P A m h b y):aH X P A m h (a++b) (x++y):=by
 refine⟨by simp[h1.1,h2.1],fun i c d hc hd=>?_⟩;rcases Nat.lt_or_ge i a.length with hl | hl
 ·rw[List.getElem?_append_left hl] at hc;rw[List.getElem?_append_left (by rw[<-h1.1];exact hl)] at hd;exact h1.2 i c d hc hd
 rw[List.getElem?_append_right hl] at hc;rw[List.getElem?_append_right (by rw[<-h1.1];exact hl),<-h1.1] at hd;exact h2.2 _ c d hc hd
theorem aH.drop {a:List (PV X.Γ)} {x:List TV} (h1:aH X P A m h a x) (n:Nat):aH X P A m h (a.drop n) (x.drop n):=
 ⟨by simp[h1.1],fun i c d hc hd=>h1.2 (n+i) c d (by rw[<-hc,List.getElem?_drop]) (by rw[<-hd,List.getElem?_drop])⟩
theorem aH.take {a:List (PV X.Γ)} {x:List TV} (h1:aH X P A m h a x) (n:Nat):aH X P A m h (a.take n) (x.take n):=by
 refine⟨by simp[h1.1],fun i c d hc hd=>?_⟩;rw[List.getElem?_take] at hc hd;split at hc
 ·rename_i hl;rw[if_pos hl] at hd;exact h1.2 i c d hc hd
 cases hc
theorem aH.get {a:List (PV X.Γ)} {x:List TV} (h1:aH X P A m h a x) {i:Nat} {c:PV X.Γ} (hc:a[i]? = some c):∃ v,x[i]? = some v∧VR X P A m h c v:=by
 have hl:i<x.length:=by rw[<-h1.1];exact (List.getElem?_eq_some_iff.1 hc).1
 exact⟨x[i],List.getElem?_eq_getElem hl,h1.2 i c _ hc (List.getElem?_eq_getElem hl)⟩
theorem H8 {v:PV X.Γ} {x tv:TV} (hv:VR X P A m h v x) (hp:mY v=some tv):x=tv:=by
 cases hv with
 | gone hi _ _=>cases v<;>simp[aG] at hi<;>simp[mY] at hp
 | _=>first | (simp only[mY,Option.some.injEq] at hp;exact hp) | (simp[mY] at hp;done)
theorem Ey:∀ {vs:List (PV X.Γ)} {xs Rq:List TV},aH X P A m h vs xs->jW vs=some Rq->xs=Rq
 | [],xs,Rq,hv,hp=>by simp only[jW,Option.some.injEq] at hp;rw[hv.inv0,hp]
 | v::vs,xs,Rq,hv,hp=>by
  obtain⟨x,r,rfl,h1,h2⟩:=hv.inv;simp only[jW] at hp;split at hp
  ·rename_i a b ha hb;cases hp;rw[H8 h1 ha,Ey h2 hb]
  cases hp
theorem iP {v:PV X.Γ} {x tv:TV} (hv:VR X P A m h v x) (hp:tJ v=some tv):x=tv:=by
 cases v with
 | agg cs=>
  simp only[tJ,Option.map_eq_some_iff] at hp;obtain⟨Rq,h1,rfl⟩:=hp;cases hv with
  | agg h2 h3=>rw[Ey ⟨h2,h3⟩ h1]
  | gone hi _ _=>simp[aG] at hi
 | _=>exact H8 hv hp
theorem PO:∀ {vs:List (PV X.Γ)} {xs Rq:List TV},aH X P A m h vs xs->QZ vs=some Rq->xs=Rq
 | [],xs,Rq,hv,hp=>by simp only[QZ,Option.some.injEq] at hp;rw[hv.inv0,hp]
 | v::vs,xs,Rq,hv,hp=>by
  obtain⟨x,r,rfl,h1,h2⟩:=hv.inv;simp only[QZ] at hp;split at hp
  ·rename_i a b ha hb;cases hp;rw[iP h1 ha,PO h2 hb]
  cases hp
theorem UF {v:PV X.Γ} {x:TV} (hp:SQ x=some v):VR X P A m h v x:=by
 cases x<;>simp[SQ] at hp<;>subst hp<;>constructor
theorem J5:∀ {xs:List TV} {vs:List (PV X.Γ)},wM xs=some vs->aH X P A m h vs xs
 | [],vs,hp=>by simp only[wM,Option.some.injEq] at hp;subst hp;exact .nil
 | x::xs,vs,hp=>by
  simp only[wM] at hp;split at hp
  ·rename_i a b ha hb;cases hp;exact .cons (UF ha) (J5 hb)
  cases hp
theorem nD {v:PV X.Γ} {x:TV} (hp:Rf x=some v):VR X P A m h v x:=by
 cases x with
 | agg cs=>
  simp only[Rf,Option.map_eq_some_iff] at hp;obtain⟨vs,h1,rfl⟩:=hp;have:=J5 (X:=X) (P:=P) (A:=A) (m:=m) (h:=h) h1;exact .agg this.1 this.2
 | _=>exact UF hp
theorem H9 {v:PV X.Γ} {x:TV} (hp:mY v=some x):VR X P A m h v x:=by
 cases v<;>simp only[mY,Option.some.injEq,reduceCtorEq] at hp<;>subst hp
 ·exact .bool _
 ·exact .int _ _
 ·exact .str _
 exact .nil _
theorem Ez:∀ {vs:List (PV X.Γ)} {xs:List TV},jW vs=some xs->aH X P A m h vs xs
 | [],xs,hp=>by simp only[jW,Option.some.injEq] at hp;subst hp;exact .nil
 | v::vs,xs,hp=>by
  simp only[jW] at hp;split at hp
  ·rename_i a b ha hb;cases hp;exact .cons (H9 ha) (Ez hb)
  cases hp
theorem pI {v:PV X.Γ} {x:TV} (hp:tJ v=some x):VR X P A m h v x:=by
 cases v with
 | agg cs=>
  simp only[tJ,Option.map_eq_some_iff] at hp;obtain⟨vs,h1,rfl⟩:=hp;have:=Ez (X:=X) (P:=P) (A:=A) (m:=m) (h:=h) h1;exact .agg this.1 this.2
 | _=>exact H9 hp
theorem yN {v:PV X.Γ} {x:TV} (hv:VR X P A m h v x):VR X P A m h (Px v) x:=by
 cases v with
 | lit b=>
  cases hv with
  | lit=>exact .bool _
  | gone hi _ _=>simp[aG] at hi
 | _=>exact hv
theorem UG {v:PV X.Γ} {x:TV} (hv:VR X P A m h v x):bW x=Nj v:=by
 cases hv with
 | own _ o=>exact o
 | gone hi _ o=>rw[o];cases v<;>simp[aG] at hi<;>rfl
 | _=>rfl
theorem yO {v:PV X.Γ} {x:TV} (hv:VR X P A m h v x):aH X P A m h v.cells x.cells:=by
 have hq:=UG hv;cases v with
 | agg cs=>
  cases hv with
  | agg h1 h2=>exact⟨h1,h2⟩
  | gone hi _ _=>simp[aG] at hi
 | bH cs=>
  have WU:=hv;cases hv with
  | bH h1 h2=>exact .cons WU .nil
  | gone hi _ _=>simp[aG] at hi
 | _=>
  have:x.cells=[x]:=by
   cases x<;>first | rfl | (simp[bW,Nj] at hq;done)
  rw[this];exact .cons hv .nil
theorem vC:∀ {vs:List (PV X.Γ)} {xs:List TV},aH X P A m h vs xs->xs.all bW=vs.all Nj
 | [],xs,hv=>by rw[hv.inv0];rfl
 | v::vs,xs,hv=>by
  obtain⟨x,r,rfl,h1,h2⟩:=hv.inv;simp only[List.all_cons,UG h1,vC h2]
theorem a1N {cs:List (PV X.Γ)} {xs:List TV} (hv:aH X P A m h cs xs) {off n:Nat} {r:List (PV X.Γ)} (hs:a1C cs off n=some r):∃ r',sub xs off n=some r'∧aH X P A m h r r':=by
 unfold a1C at hs;split at hs
 ·rename_i hl;cases hs;exact⟨_,by unfold sub;rw[if_pos (by rw[<-hv.1];exact hl)],(hv.drop off).take n⟩
 cases hs
theorem yP {cs new:List (PV X.Γ)} {xs a5m:List TV} (hv:aH X P A m h cs xs) (hn:aH X P A m h new a5m) {off:Nat} {r:List (PV X.Γ)} (hs:En cs off new=some r):∃ r',lX xs off a5m=some r'∧aH X P A m h r r':=by
 unfold En at hs;split at hs
 ·rename_i hl;cases hs;refine⟨_,by unfold lX;rw[if_pos (by rw[<-hv.1,<-hn.1];exact hl)],?_⟩;rw[<-hn.1];exact ((hv.take off).app hn).app (hv.drop _)
 cases hs
theorem rF {cs:List (PV X.Γ)} {xs:List TV} (hv:aH X P A m h cs xs) {t:TypeId} {off:Nat} {v:PV X.Γ} (hs:yG P t cs off=some v):∃ x,l7 P t xs off=some x∧VR X P A m h v x:=by
 unfold yG at hs;unfold l7;split at hs
 ·rename_i n ha hn;simp only[Option.map_eq_some_iff] at hs;obtain⟨r,h1,rfl⟩:=hs;obtain⟨r',g1,g2⟩:=a1N hv h1;exact⟨.agg r',by simp only[ha,hn,g1,Option.map_some],.agg g2.1 g2.2⟩
 ·rename_i n ha hn;split at hs
  ·rename_i h1;obtain⟨x,g1,g2⟩:=hv.get hs;exact⟨x,by simp only[ha,hn,h1,if_true,g1],g2⟩
  cases hs
 cases hs
theorem yQ {t:TypeId} {z:List (PV X.Γ)} (hz:GY P t=some z):∃ z',xK P t=some z'∧aH X P A m h z z':=by
 unfold GY at hz;split at hz
 ·rename_i z' h1;exact⟨z',h1,J5 hz⟩
 cases hz
def XG (X:iR) (P:Program) (A:Nat->Prop) (m:List MB) (h:List HB) (ps:List (Nat×PV X.Γ)) (qs:List (Nat×TV)):Prop:=
 ps.length=qs.length∧∀ (i:Nat) a b,ps[i]? = some a->qs[i]? = some b->a.1=b.1∧VR X P A m h a.2 b.2
theorem XG.inv {a:Nat×PV X.Γ} {ps:List (Nat×PV X.Γ)} {qs:List (Nat×TV)} (hv:XG X P A m h (a::ps) qs):∃ x r,qs=(a.1,x)::r∧VR X P A m h a.2 x∧XG X P A m h ps r:=by
 cases qs with
 | nil=>have:=hv.1;simp at this
 | cons q r=>
  obtain⟨h1,h2⟩:=hv.2 0 a q rfl rfl;refine⟨q.2,r,by rw[h1],h2,by have:=hv.1;simpa using this,fun i x y hx hy=>hv.2 (i+1) x y (by simpa using hx) (by simpa using hy)⟩
theorem CV {pl:Nat->Option (Nat×Nat)}:∀ {ps:List (Nat×PV X.Γ)} {qs:List (Nat×TV)} {cs:List (PV X.Γ)} {xs:List TV},XG X P A m h ps qs->aH X P A m h cs xs->∀ {r:List (PV X.Γ)},Eo pl cs ps=some r->∃ r',kG pl xs qs=some r'∧aH X P A m h r r'
 | [],qs,cs,xs,hp,hv,r,hs=>by
  have:qs=[]:=by have:=hp.1;cases qs<;>simp_all
  subst this;simp only[Eo,Option.some.injEq] at hs;subst hs;exact⟨xs,rfl,hv⟩
 | (i,v)::ps,qs,cs,xs,hp,hv,r,hs=>by
  obtain⟨x,rest,rfl,h1,h2⟩:=hp.inv;have hc:=yO h1;simp only[Eo] at hs;split at hs
  ·rename_i off size qN;split at hs
   ·rename_i nR;split at hs
    ·rename_i cs' ho;obtain⟨xs',g1,g2⟩:=yP hv hc ho;obtain⟨r',g3,g4⟩:=CV h2 g2 hs;have a1m:x.cells.length=size:=by rw[<-hc.1];exact nR
     exact⟨r',by simp only[kG,qN,a1m,if_true,g1,g3],g4⟩
    cases hs
   cases hs
  cases hs
theorem UH {t:TypeId} {ps:List (Nat×PV X.Γ)} {qs:List (Nat×TV)} (hp:XG X P A m h ps qs) {v:PV X.Γ} (hs:Nl P t ps=some v):∃ x,zH P t qs=some x∧VR X P A m h v x:=by
 unfold Nl at hs;unfold zH;split at hs
 ·rename_i z fs hz hu;obtain⟨z',g1,g2⟩:=yQ (A:=A) (m:=m) (h:=h) hz;split at hs
  ·rename_i ha;simp only[Option.map_eq_some_iff] at hs;obtain⟨r,h1,rfl⟩:=hs;obtain⟨r',g3,g4⟩:=CV hp g2 h1;exact⟨.agg r',by simp only[g1,hu,ha,if_true,g3,Option.map_some],.agg g4.1 g4.2⟩
  cases hs
 ·rename_i z n e hz hu;obtain⟨z',g1,g2⟩:=yQ (A:=A) (m:=m) (h:=h) hz;split at hs
  ·rename_i k hk;simp only[Option.map_eq_some_iff] at hs;obtain⟨r,h1,rfl⟩:=hs;obtain⟨r',g3,g4⟩:=CV hp g2 h1;exact⟨.agg r',by simp only[g1,hu,hk,g3,Option.map_some],.agg g4.1 g4.2⟩
  cases hs
 cases hs
theorem Kw {z:List (PV X.Γ)} {z':List TV} (hz:aH X P A m h z z'):∀ n,aH X P A m h (Nq z n) (times z' n)
 | 0=>.nil
 | n+1=>hz.app (Kw hz n)
section
variable {env:List (Nat×PE X.Γ)} {env':List (Nat×EV)}
theorem PS (he:gG X P A m h env env') {t:Nat}:(wE t env=none∧aT t env'=none)∨∃ v x,wE t env=some v∧aT t env'=some x∧CU X P A m h v x:=by
 induction he with
 | nil=>exact .inl ⟨rfl,rfl⟩
 | cons h1 _ ih=>
  rename_i k v x r r' _;simp only[wE,aT];by_cases e:k=t
  ·right;exact⟨v,x,by rw[if_pos e],by rw[if_pos e],h1⟩
  rw[if_neg e,if_neg e];exact ih
theorem iZ (he:gG X P A m h env env') {t:Nat} {v:PE X.Γ} (hl:wE t env=some v):∃ x,aT t env'=some x∧CU X P A m h v x:=by
 rcases PS he (t:=t) with⟨h1,_⟩ | ⟨w,x,h1,h2,h3⟩
 ·rw[hl] at h1;cases h1
 rw[hl] at h1;cases h1;exact⟨x,h2,h3⟩
theorem jE (he:gG X P A m h env env') {o:Operand} {v:PE X.Γ} (hl:zX env o=some v):∃ x,AL env' o=some x∧CU X P A m h v x:=by
 cases o with
 | tmp t=>exact iZ he hl
 | const c=>
  simp only[zX] at hl;split at hl
  ·rename_i b hb;cases hl;exact⟨.val (.bool b),by simp only[AL,hb,Option.map_some],VR.lit b⟩
  ·rename_i x _ hx;simp only[Option.map_eq_some_iff] at hl;obtain⟨w,h1,rfl⟩:=hl;exact⟨.val x,by simp only[AL,hx,Option.map_some],nD h1⟩
  cases hl
 | func f=>
  simp only[zX,Option.some.injEq] at hl;subst hl;exact⟨.val (.fn f [] []),rfl,.fn rfl (by simp) rfl (by simp)⟩
 | global g=>cases hl
theorem bV {v:PV X.Γ} {x:EV} (hp:CU X P A m h (.val v) x):∃ y,x=.val y∧VR X P A m h v y:=by
 cases x with
 | val y=>exact⟨y,rfl,hp⟩
 | _=>exact hp.elim
theorem vF {k o:Nat} {x:EV} (hp:CU X P A m h (.loc k o) x):x=.loc k o:=by
 cases x with
 | loc k' o'=>obtain⟨rfl,rfl⟩:=hp;rfl
 | _=>exact hp.elim
theorem Ac {x:EV} (hp:CU X P A m h .undef x):x=.undef:=by
 cases x with
 | undef=>rfl
 | _=>exact hp.elim
theorem Kz (he:gG X P A m h env env') {o:Operand} {v:PV X.Γ} (hl:Py env o=some v):∃ x,lJ env' o=some x∧VR X P A m h v x:=by
 unfold Py at hl;split at hl
 ·rename_i w hw;cases hl;obtain⟨x,h1,h2⟩:=jE he hw;obtain⟨y,rfl,h3⟩:=bV h2;exact⟨y,by simp only[lJ,h1],h3⟩
 cases hl
theorem fM (he:gG X P A m h env env') {o:Operand} {v:PV X.Γ} (hl:wF env o=some v):∃ x,lJ env' o=some x∧VR X P A m h v x:=by
 unfold wF at hl;split at hl
 ·rename_i w hw;cases hl;obtain⟨x,h1,h2⟩:=jE he hw;obtain⟨y,rfl,h3⟩:=bV h2;exact⟨y,by simp only[lJ,h1],yN h3⟩
 cases hl
theorem J6 (he:gG X P A m h env env'):∀ {os:List Operand} {vs:List (PV X.Γ)},Nk env os=some vs->∃ xs,Dh env' os=some xs∧aH X P A m h vs xs
 | [],vs,hl=>by simp only[Nk,Option.some.injEq] at hl;subst hl;exact⟨[],rfl,.nil⟩
 | o::os,vs,hl=>by
  simp only[Nk] at hl;split at hl
  ·rename_i v ws h1 h2;cases hl;obtain⟨x,g1,g2⟩:=fM he h1;obtain⟨xs,g3,g4⟩:=J6 he h2;exact⟨x::xs,by simp only[Dh,g1,g3],.cons g2 g4⟩
  cases hl
theorem NH (he:gG X P A m h env env'):∀ {os:List (Nat×Operand)} {vs:List (Nat×PV X.Γ)},Ri env os=some vs->∃ xs,FQ env' os=some xs∧XG X P A m h vs xs
 | [],vs,hl=>by simp only[Ri,Option.some.injEq] at hl;subst hl;exact⟨[],rfl,rfl,fun i a b ha=>by simp at ha⟩
 | (i,o)::os,vs,hl=>by
  simp only[Ri] at hl;split at hl
  ·rename_i v ws h1 h2;cases hl;obtain⟨x,g1,g2⟩:=fM he h1;obtain⟨xs,g3,g4⟩:=NH he h2;refine⟨(i,x)::xs,by simp only[FQ,g1,g3],by simp[g4.1],fun j a b ha hb=>?_⟩;cases j with
   | zero=>simp only[List.getElem?_cons_zero,Option.some.injEq] at ha hb;subst ha;subst hb;exact⟨rfl,g2⟩
   | succ j=>exact g4.2 j a b (by simpa using ha) (by simpa using hb)
  cases hl
def OR (X:iR) (P:Program) (A:Nat->Prop) (m:List MB) (h:List HB):Option (PV X.Γ)->Option TV->Prop
 | none,none=>True
 | some v,some x=>VR X P A m h v x
 | _,_=>False
theorem yR (he:gG X P A m h env env') {o:Option Operand} {v:Option (PV X.Γ)} (hl:Em env o=some v):∃ x,FT env' o=some x∧OR X P A m h v x:=by
 cases o with
 | none=>simp only[Em,Option.some.injEq] at hl;subst hl;exact⟨none,rfl,trivial⟩
 | some o=>
  simp only[Em] at hl;split at hl
  ·rename_i w hw;cases hl;obtain⟨x,g1,g2⟩:=fM he hw;exact⟨some x,by simp only[FT,g1],g2⟩
  cases hl
theorem J7 (he:gG X P A m h env env'):∀ live,gG X P A m h (iL live env) (pick live env')
 | []=>.nil
 | t::r=>by
  simp only[iL,pick];rcases PS he (t:=t) with⟨h1,h2⟩ | ⟨v,x,h1,h2,h3⟩
  ·rw[h1,h2];exact J7 he r
  rw[h1,h2];exact .cons h3 (J7 he r)
theorem XH (he:gG X P A m h env env') {t:Nat} {b:Bool} (hb:aT t env'=some (.val (.bool b))):gG X P A m h (Pv.sF t b env) env':=by
 induction he with
 | nil=>exact .nil
 | cons h1 h2 ih=>
  rename_i k v x r r';simp only[aT] at hb;simp only[Pv.sF];by_cases e:k=t
  ·rw[if_pos e] at hb ⊢;cases hb;exact .cons (VR.lit b) h2
  rw[if_neg e] at hb ⊢;exact .cons h1 (ih hb)
theorem a1O (he:gG X P A m h env env'):NG X env=vP env':=by
 induction he with
 | nil=>rfl
 | cons h1 _ ih=>
  rename_i k v x r r' _;cases v with
  | val v=>obtain⟨y,rfl,_⟩:=bV h1;simpa[NG,vP] using ih
  | loc a b=>rw[vF h1];simp only[NG,vP,ih]
  | undef=>rw[Ac h1];simpa[NG,vP] using ih
end
end
structure aU (X:iR) (P:Program):Prop where
 dec:∀ {t:Nat} {vs:List (PV X.Γ)} {a:X.Γ t},X.dec t vs=some a->∀ {A:Nat->Prop} {m:List MB} {h:List HB} {xs:List TV},aH X P A m h vs xs->aH X P A m h (X.enc t a) xs
 dW:∀ (t:Nat) (a:X.Γ t),dW.wH (X.enc t a)=true
section
variable {X:iR} {P:Program} {A B:Nat->Prop} {m m':List MB} {h h':List HB} {H H':List (PB X.Γ)}
theorem VR.mono (hAB:∀ b,A b->B b) {v:PV X.Γ} {x:TV} (hv:VR X P A m h v x):VR X P B m h v x:=by
 induction hv with
 | bool=>exact .bool _
 | lit=>exact .lit _
 | int=>exact .int _ _
 | str=>exact .str _
 | nil=>exact .nil _
 | ptr e=>exact .ptr e
 | slc e=>exact .slc e
 | own e o=>exact .own e o
 | win e q q' q2=>exact .win e q q' q2
 | ql e=>exact .ql e
 | map e=>exact .map e
 | iter e=>exact .iter e
 | fn h1 _ h3 _ i2 i4=>exact .fn h1 i2 h3 i4
 | jk e=>exact .jk e
 | agg h1 _ i2=>exact .agg h1 i2
 | bH h1 _ i2=>exact .bH h1 i2
 | jZ=>exact .jZ
 | bK a c c2 s z o k f e _ ih=>exact .bK (hAB _ a) c c2 s z o k f e ih
 | el a c l o e q _ ih=>exact .el (hAB _ a) c l o e q ih
 | row e j q=>exact .row e j q
 | gone i e o=>exact .gone i e o
theorem aH.mono (hAB:∀ b,A b->B b) {v:List (PV X.Γ)} {x:List TV} (hv:aH X P A m h v x):aH X P B m h v x:=⟨hv.1,fun i a b ha hb=>(hv.2 i a b ha hb).mono hAB⟩
theorem bG:∀ {vs:List (PV X.Γ)} {i:Nat} {v:PV X.Γ},dW.wH vs=true->vs[i]? = some v->dW v=true
 | [],_,_,_,h=>by simp at h
 | a::vs,i,v,hc,h=>by
  simp only[dW.wH,Bool.and_eq_true] at hc;cases i with
  | zero=>simp only[List.getElem?_cons_zero,Option.some.injEq] at h;subst h;exact hc.1
  | succ i=>exact bG hc.2 (by simpa using h)
theorem VR.dW (hX:aU X P) {v:PV X.Γ} {x:TV} (hv:VR X P A m h v x) (hc:Pv.dW v=true):VR X P A m' h v x:=by
 induction hv with
 | bool=>exact .bool _
 | lit=>exact .lit _
 | int=>exact .int _ _
 | str=>exact .str _
 | nil=>exact .nil _
 | fn h1 _ h3 _ i2 i4=>
  simp only[Pv.dW,Bool.and_eq_true] at hc;exact .fn h1 (fun i x y hx hy=>i2 i x y hx hy (bG hc.1 hx)) h3 (fun i x y hx hy=>i4 i x y hx hy (bG hc.2 hx))
 | agg h1 _ i2=>
  simp only[Pv.dW] at hc;exact .agg h1 (fun i x y hx hy=>i2 i x y hx hy (bG hc hx))
 | bH h1 _ i2=>
  simp only[Pv.dW] at hc;exact .bH h1 (fun i x y hx hy=>i2 i x y hx hy (bG hc hx))
 | jZ=>exact .jZ
 | bK a c c2 s z o k f e _ ih=>exact .bK a c c2 s z o k f e fun j y i d v h1 h2 h3=>ih j y i d v h1 h2 h3 (bG (hX.dW _ _) h2)
 | el a c l o e q _ ih=>exact .el a c l o e q fun i d v h1 h2=>ih i d v h1 h2 (bG (hX.dW _ _) h1)
 | gone i e o=>rename_i v _ _;cases v<;>simp[aG] at i<;>simp[Pv.dW] at hc
 | _=>simp[Pv.dW] at hc
theorem aH.dW (hX:aU X P) {v:List (PV X.Γ)} {x:List TV} (hv:aH X P A m h v x) (hc:dW.wH v=true):aH X P A m' h v x:=
 ⟨hv.1,fun i a b ha hb=>(hv.2 i a b ha hb).dW hX (bG hc ha)⟩
theorem aX.dW (hX:aU X P) {t:Nat} {l:List (X.Γ t)} {cs:List TV} {off sz:Nat} (hv:aX X P A m h t l cs off sz):aX X P A m' h t l cs off sz:=
 ⟨hv.1,hv.2.1,fun j a i c v h1 h2 h3=>(hv.2.2 j a i c v h1 h2 h3).dW hX (bG (hX.dW _ _) h2)⟩
theorem aX.mono (hAB:∀ b,A b->B b) {t:Nat} {l:List (X.Γ t)} {cs:List TV} {off sz:Nat} (hv:aX X P A m h t l cs off sz):aX X P B m h t l cs off sz:=
 ⟨hv.1,hv.2.1,fun j a i c v h1 h2 h3=>(hv.2.2 j a i c v h1 h2 h3).mono hAB⟩
theorem VR.move (hX:aU X P) (hA:∀ q cs,A q->aB h q=some cs->B q∧h'[q]? = h[q]?) {v:PV X.Γ} {x:TV} (hv:VR X P A m h v x) (hc:Pv.dW v=true):VR X P B m' h' v x:=by
 induction hv with
 | bool=>exact .bool _
 | lit=>exact .lit _
 | int=>exact .int _ _
 | str=>exact .str _
 | nil=>exact .nil _
 | fn h1 _ h3 _ i2 i4=>
  simp only[Pv.dW,Bool.and_eq_true] at hc;exact .fn h1 (fun i x y hx hy=>i2 i x y hx hy (bG hc.1 hx)) h3 (fun i x y hx hy=>i4 i x y hx hy (bG hc.2 hx))
 | agg h1 _ i2=>
  simp only[Pv.dW] at hc;exact .agg h1 (fun i x y hx hy=>i2 i x y hx hy (bG hc hx))
 | bH h1 _ i2=>
  simp only[Pv.dW] at hc;exact .bH h1 (fun i x y hx hy=>i2 i x y hx hy (bG hc hx))
 | jZ=>exact .jZ
 | bK a c c2 s z o k f e _ ih=>obtain⟨a',c'⟩:=hA _ _ a c;exact .bK a' ((cu c').trans c) (fun hl=>(oG c').trans (c2 hl)) s z o k f e fun j y i d v h1 h2 h3=>ih j y i d v h1 h2 h3 (bG (hX.dW _ _) h2)
 | el a c l o e q _ ih=>obtain⟨a',c'⟩:=hA _ _ a (ru c);exact .el a' ((oG c').trans c) l o e q fun i d v h1 h2=>ih i d v h1 h2 (bG (hX.dW _ _) h1)
 | gone i e o=>rename_i v _ _;cases v<;>simp[aG] at i<;>simp[Pv.dW] at hc
 | _=>simp[Pv.dW] at hc
theorem aX.move (hX:aU X P) (hA:∀ q cs,A q->aB h q=some cs->B q∧h'[q]? = h[q]?) {t:Nat} {l:List (X.Γ t)} {cs:List TV} {off sz:Nat} (hv:aX X P A m h t l cs off sz):aX X P B m' h' t l cs off sz:=
 ⟨hv.1,hv.2.1,fun j a i c v h1 h2 h3=>(hv.2.2 j a i c v h1 h2 h3).move hX hA (bG (hX.dW _ _) h2)⟩
def FA (A:Nat->Prop) (m:List MB) (is:List Nat):Nat->Prop:=fun b=>AA A m b∨∃ i mb,i∈is∧m[i]? = some mb∧mb.own=some b
theorem FA.mono {is js:List Nat} (hs:∀ i,i∈is->i∈js) {b:Nat} (hb:FA A m is b):FA A m js b:=by
 rcases hb with h | ⟨i,mb,h1,h2,h3⟩
 ·exact .inl h
 exact .inr ⟨i,mb,hs i h1,h2,h3⟩
theorem EC:∀ (is:List Nat) {m:List MB} {i:Nat} {mb:MB},(aP is m)[i]? = some mb->mb.own≠none->i∉is∧m[i]? = some mb
 | [],_,_,_,h,_=>⟨by simp,h⟩
 | j::is,m,i,mb,h,hn=>by
  obtain⟨h1,h2⟩:=EC is (m:=m.set j .gone) h hn;by_cases e:j=i
  ·subst e;rw[List.getElem?_set_self'] at h2;cases hx:m[j]? with
   | none=>rw[hx] at h2;cases h2
   | some y=>rw[hx] at h2;cases h2;exact absurd rfl hn
  rw[List.getElem?_set_ne e] at h2;exact⟨by simp[h1,Ne.symm e],h2⟩
theorem nG {is:List Nat} {m:List MB} {b:Nat} (hb:b∈aK (aP is m)):∃ i mb,i∉is∧m[i]? = some mb∧mb.own=some b:=by
 obtain⟨mb,hm,ho⟩:=List.mem_filterMap.1 hb;obtain⟨i,hi⟩:=List.getElem?_of_mem hm;obtain⟨h1,h2⟩:=EC is hi (by rw[ho];simp);exact⟨i,mb,h1,h2,ho⟩
theorem FA.gone (hr:HR X P A m H h) {is:List Nat} {b:Nat} (hb:FA A m is b):AA A (aP is m) b:=by
 rcases hb with hb | ⟨i,mb,h1,h2,h3⟩
 ·refine⟨hb.1,fun hm=>?_⟩;obtain⟨i,mb,_,h2,h3⟩:=nG hm;exact hb.2 (aC h2 h3)
 refine⟨hr.yK b (aC h2 h3),fun hm=>?_⟩;obtain⟨j,BP,g1,g2,g3⟩:=nG hm;have:=dI hr.nodup h2 g2 h3 g3;exact g1 (this▸h1)
theorem He (hX:aU X P) (hr:HR X P A m H h) {k ex:Bool} {t i:Nat} {l:List (X.Γ t)} {x:TV} (hl:LR X P (AA A m) m h k ex t l x) (hi:m[i]? = some (.bK x)) {is:List Nat} (hs:i∈is):VR X P (FA A m is) m' h (.bK t l false) x:=by
 cases hl with
 | nil=>exact .jZ
 | emp h0 h1 h2 h3 h4=>exact .bK (.inl h0) h1 (fun e=>absurd rfl e) h3 h4 (by simpa using h2) (Nat.le_refl _) (by simp) (fun j a hj=>by simp at hj) (fun j a i c v hj=>by simp at hj)
 | some h1 h2 h3 h4 h5 h6 h7 h8 h9=>
  refine .bK (cs:=_) (.inr ⟨i,_,hs,hi,?_⟩) (by unfold aB;rw[h4]) (fun _=>ny h4 (by omega)) h2 h3 (by omega) (Nat.le_refl _) (by simp) h9.1 ?_
  ·simp only[MB.own];rw[if_neg (by simpa using h1)]
  intro j a q c v e1 e2 e3;exact ((h9.2.2 j a q c v e1 e2 e3).mono fun b hb=>.inl hb).dW hX (bG (hX.dW _ _) e2)
theorem VR.part {F:Nat->Prop} {t:Nat} {l:List (X.Γ t)} {fu:Bool} {b off len cap sz:Nat} {ex:Bool} (hv:VR X P F m h (.bK t l fu) (.slc b off len cap sz ex)) {o n cap':Nat} {SC fu':Bool} (hn:o+n<=len) (hc:n<=cap') (hw:n=0∨o+cap'=cap) (hfu:fu'=true->SC=true∧cap'=n) :
  VR X P F m h (.bK t ((l.drop o).take n) fu') (.slc b (off+o*sz) n cap' sz SC):=by
 cases hv with
 | bK a c c2 s z ol k f e r=>
  have hlen:((l.drop o).take n).length=n:=by rw[List.length_take,List.length_drop];omega
  have:=@VR.bK X P F m h t ((l.drop o).take n) fu' b (off+o*sz) cap' sz SC _ a c (fun dZ=>by
   have h1:n≠0:=fun e=>dZ (by subst e;simp);have h2:=hw.resolve_left h1;have h3:off+o*sz+cap'*sz=off+cap*sz:=by rw[<-h2,Nat.add_mul];omega
   rw[h3];exact c2 (fun e=>by subst e;simp at hlen;omega)) s z (by
   rw[hlen];have:(o+n)*sz<=l.length*sz:=Nat.mul_le_mul_right sz hn;rw[Nat.add_mul] at this;omega) (by rw[hlen];exact hc) (by rw[hlen];exact hfu) (fun j y hy=>by
    rw[List.getElem?_take] at hy;split at hy
    ·rw[List.getElem?_drop] at hy;exact e _ _ hy
    ·cases hy) (fun j y i d v hy h2 h3=>by
    rw[List.getElem?_take] at hy;split at hy
    ·rw[List.getElem?_drop] at hy;refine r _ _ i d v hy h2 ?_;rw[<-h3];congr 1;rw[Nat.add_mul];omega
    ·cases hy)
  rwa [hlen] at this
 | gone hi _ _=>simp[aG] at hi
mutual
theorem PU (hX:aU X P) (hr:HR X P A m H h):∀ {v w:PV X.Γ} {x:TV},VR X P (AA A m) m h v x->view H v=some w->∀ {is:List Nat},(∀ i,i∈oW v->i∈is)->VR X P (FA A m is) m' h w x
 | .own i,w,x,hv,hw,is,hs=>by
  simp only[view] at hw;split at hw
  ·rename_i k ex t l hH;cases hw;obtain⟨mb,h1,h2⟩:=hr.at_ i _ hH;cases mb with
   | bK y=>
    cases hv with
    | own e o=>rw[h1] at e;cases e;exact He hX hr h2 h1 (hs i (by simp[oW]))
    | gone hi e o=>simp only[aG,Option.some.injEq] at hi;subst hi;rw[h1] at e;cases e
   | _=>exact h2.elim
  cases hw
 | .win i o n,w,x,hv,hw,is,hs=>by
  simp only[view] at hw;split at hw
  ·rename_i k ex t l hH;cases hw;obtain⟨mb,h1,h2⟩:=hr.at_ i _ hH;cases mb with
   | bK y=>
    have h2':LR X P (AA A m) m h k ex t l y:=h2;have hfz:VR X P (FA A m is) m' h (.bK t l false) y:=He hX hr h2' h1 (hs i (by simp[oW]));cases hv with
    | win e q q' q2=>
     rw[h1] at e;cases e;exact hfz.part q q' (.inr q2) (by simp)
    | ql e=>
     rw[h1] at e;cases e;cases h2' with
     | nil=>simp only[List.drop_nil,List.take_nil];exact .jZ
    | gone hi e o=>simp only[aG,Option.some.injEq] at hi;subst hi;rw[h1] at e;cases e
   | _=>exact h2.elim
  cases hw
 | .fn f a c,w,x,hv,hw,is,hs=>by
  simp only[view] at hw;split at hw
  ·rename_i a' c' h1 h2;cases hw;cases hv with
   | fn e1 e2 e3 e4=>
    have g1:=ku hX hr ⟨e1,e2⟩ h1 (is:=is) fun i hi=>hs i (by simp[oW,hi]);have g2:=ku hX hr ⟨e3,e4⟩ h2 (is:=is) fun i hi=>hs i (by simp[oW,hi]);exact .fn g1.1 g1.2 g2.1 g2.2
   | gone hi _ _=>simp[aG] at hi
  cases hw
 | .agg cs,w,x,hv,hw,is,hs=>by
  simp only[view,Option.map_eq_some_iff] at hw;obtain⟨cs',h1,rfl⟩:=hw;cases hv with
  | agg e1 e2=>have g1:=ku hX hr ⟨e1,e2⟩ h1 (is:=is) fun i hi=>hs i (by simp[oW,hi]);exact .agg g1.1 g1.2
  | gone hi _ _=>simp[aG] at hi
 | .bH cs,w,x,hv,hw,is,hs=>by
  simp only[view,Option.map_eq_some_iff] at hw;obtain⟨cs',h1,rfl⟩:=hw;cases hv with
  | bH e1 e2=>have g1:=ku hX hr ⟨e1,e2⟩ h1 (is:=is) fun i hi=>hs i (by simp[oW,hi]);exact .bH g1.1 g1.2
  | gone hi _ _=>simp[aG] at hi
 | .bool b,w,x,hv,hw,is,hs=>by simp only[view,Option.some.injEq] at hw;subst hw;exact (hv.mono fun b hb=>.inl hb).dW hX rfl
 | .lit b,w,x,hv,hw,is,hs=>by
  simp only[view,Option.some.injEq] at hw;subst hw;cases hv with
  | lit=>exact .bool _
  | gone hi _ _=>simp[aG] at hi
 | .int k n,w,x,hv,hw,is,hs=>by simp only[view,Option.some.injEq] at hw;subst hw;exact (hv.mono fun b hb=>.inl hb).dW hX rfl
 | .str b,w,x,hv,hw,is,hs=>by simp only[view,Option.some.injEq] at hw;subst hw;exact (hv.mono fun b hb=>.inl hb).dW hX rfl
 | .nil b,w,x,hv,hw,is,hs=>by simp only[view,Option.some.injEq] at hw;subst hw;exact (hv.mono fun b hb=>.inl hb).dW hX rfl
 | .bK t l f,w,x,hv,hw,is,hs=>by simp only[view,Option.some.injEq] at hw;subst hw;exact (hv.mono fun b hb=>.inl hb).dW hX rfl
 | .ptr _ _ _,w,x,hv,hw,is,hs=>by simp[view] at hw
 | .slc _ _ _ _ _ _,w,x,hv,hw,is,hs=>by simp[view] at hw
 | .map _,w,x,hv,hw,is,hs=>by simp[view] at hw
 | .jk _,w,x,hv,hw,is,hs=>by simp[view] at hw
 | .el _ _ _,w,x,hv,hw,is,hs=>by simp[view] at hw
 | .row _ _ _,w,x,hv,hw,is,hs=>by simp[view] at hw
theorem ku (hX:aU X P) (hr:HR X P A m H h):∀ {vs ws:List (PV X.Γ)} {xs:List TV},aH X P (AA A m) m h vs xs->views H vs=some ws->∀ {is:List Nat},(∀ i,i∈oW.mZ vs->i∈is)->aH X P (FA A m is) m' h ws xs
 | [],ws,xs,hv,hw,is,hs=>by simp only[view.views,Option.some.injEq] at hw;subst hw;rw[hv.inv0];exact .nil
 | v::vs,ws,xs,hv,hw,is,hs=>by
  obtain⟨x,r,rfl,h1,h2⟩:=hv.inv;simp only[view.views] at hw;split at hw
  ·rename_i w FK g1 g2;cases hw;exact .cons (PU hX hr h1 g1 fun i hi=>hs i (by simp[oW.mZ,hi])) (ku hX hr h2 g2 fun i hi=>hs i (by simp[oW.mZ,hi]))
  cases hw
end
end
open Go Tw
section
variable {X:iR} {P:Program} {A B F:Nat->Prop} {m m':List MB} {h h':List HB} {H H':List (PB X.Γ)}
theorem PW (hX:aU X P) (hr:HR X P A m H h) {t:Nat} {cs:List (PV X.Γ)} {xs:List TV} (hv:aH X P (AA A m) m h cs xs) {a:X.Γ t} {is:List Nat} (hd:XC X H t cs=some (a,is)):aH X P (FA A m is) m' h (X.enc t a) xs:=by
 unfold XC at hd;split at hd
 ·rename_i vs h1;split at hd
  ·rename_i b h2;simp only[Option.some.injEq,Prod.mk.injEq] at hd;obtain⟨rfl,rfl⟩:=hd;exact hX.dec h2 (ku hX hr hv h1 fun i hi=>hi)
  cases hd
 cases hd
theorem rG (hX:aU X P) (hr:HR X P A m H h) {t sz:Nat}:∀ {n:Nat} {cs:List (PV X.Γ)} {xs:List TV},aH X P (AA A m) m h cs xs->∀ {l:List (X.Γ t)} {is:List Nat},qY X H t sz n cs=some (l,is)->l.length=n∧aX X P (FA A m is) m' h t l xs 0 sz
 | 0,cs,xs,hv,l,is,hd=>by
  simp only[qY,Option.some.injEq,Prod.mk.injEq] at hd;obtain⟨rfl,rfl⟩:=hd;exact⟨rfl,fun j a hj=>by simp at hj,by simp,fun j a i c v hj=>by simp at hj⟩
 | n+1,cs,xs,hv,l,is,hd=>by
  simp only[qY] at hd;split at hd
  rotate_left
  ·cases hd
  rename_i nR;split at hd
  rotate_left
  ·cases hd
  rename_i a js l' ks h1 h2;simp only[Option.some.injEq,Prod.mk.injEq] at hd;obtain⟨rfl,rfl⟩:=hd;have g1:=(PW (m':=m') hX hr (hv.take sz) h1).mono fun b hb=>FA.mono (js:=js++ks) (fun i hi=>List.mem_append_left _ hi) hb;obtain⟨e2,g2⟩:=rG hX hr (hv.drop sz) h2;have g2:=g2.mono fun b hb=>FA.mono (js:=js++ks) (fun i hi=>List.mem_append_right _ hi) hb;have hl:(X.enc t a).length=sz:=by rw[g1.1,List.length_take,<-hv.1];omega
  refine⟨by simp[e2],fun j b hj=>?_,?_,fun j b i c v hj hi hx=>?_⟩
  ·cases j with
   | zero=>simp only[List.getElem?_cons_zero,Option.some.injEq] at hj;subst hj;exact hl
   | succ j=>exact g2.1 j b (by simpa using hj)
  ·have:=g2.2.1;rw[List.length_drop] at this;have h3:=hv.1;simp only[List.length_cons,Nat.add_mul];omega
  cases j with
  | zero=>
   simp only[List.getElem?_cons_zero,Option.some.injEq] at hj;subst hj;have aN:i<sz:=by rw[<-hl];exact (List.getElem?_eq_some_iff.1 hi).1
   refine g1.2 i c v hi ?_;rw[List.getElem?_take,if_pos aN,<-hx];simp
  | succ j=>
   refine g2.2.2 j b i c v (by simpa using hj) hi ?_;rw[List.getElem?_drop,<-hx];congr 1;rw[Nat.add_mul];omega
def SlR (X:iR) (P:Program) (F:Nat->Prop) (m:List MB) (h:List HB) (t sz:Nat) (l:List (X.Γ t)) (x:TV):Prop:=
 (x=.nil .slc∧l=[])∨∃ b off cap ex cs,x=.slc b off l.length cap sz ex∧l.length<=cap∧aB h b=some cs∧(l≠[]->iw h b (off+cap*sz)=some cs)∧aX X P F m h t l cs off sz
theorem PX {t sz:Nat} {l:List (X.Γ t)} {fu:Bool} {x:TV} (hv:VR X P F m h (.bK t l fu) x) (hz:aZ P t=some sz):SlR X P F m h t sz l x:=by
 cases hv with
 | jZ=>exact .inl ⟨rfl,rfl⟩
 | bK a c c2 s z o k f e r=>
  rw[hz] at s;cases s;exact .inr ⟨_,_,_,_,_,rfl,k,c,c2,e,o,r⟩
 | gone hi _ _=>simp[aG] at hi
theorem UJ {k ex:Bool} {t sz:Nat} {l:List (X.Γ t)} {x:TV} (hv:LR X P F m h k ex t l x) (hz:aZ P t=some sz):SlR X P F m h t sz l x:=by
 cases hv with
 | nil=>exact .inl ⟨rfl,rfl⟩
 | emp h0 h1 h2 h3 h4=>
  rw[hz] at h3;cases h3;exact .inr ⟨_,_,_,_,_,rfl,Nat.le_refl _,h1,fun e=>absurd rfl e,fun j a hj=>by simp at hj,by simpa using h2,fun j a i c v hj=>by simp at hj⟩
 | some h1 h2 h3 h4 h5 h6 h7 h8 h9=>
  rw[hz] at h2;cases h2;exact .inr ⟨_,_,_,_,_,rfl,Nat.le_refl _,by unfold aB;rw[h4],fun _=>ny h4 (by omega),h9⟩
theorem aX.part {t sz:Nat} {l:List (X.Γ t)} {cs:List TV} {off o n:Nat} (hv:aX X P F m h t l cs off sz) (hn:o+n<=l.length):aX X P F m h t ((l.drop o).take n) cs (off+o*sz) sz:=by
 have hlen:((l.drop o).take n).length=n:=by rw[List.length_take,List.length_drop];omega
 refine⟨fun j y hy=>?_,?_,fun j y i c v hy h2 h3=>?_⟩
 ·rw[List.getElem?_take] at hy;split at hy
  ·rw[List.getElem?_drop] at hy;exact hv.1 _ _ hy
  cases hy
 ·have:=hv.2.1;have h2:(o+n)*sz<=l.length*sz:=Nat.mul_le_mul_right sz hn;rw[hlen];rw[Nat.add_mul] at h2;omega
 rw[List.getElem?_take] at hy;split at hy
 ·rw[List.getElem?_drop] at hy;refine hv.2.2 _ y i c v hy h2 ?_;rw[<-h3];congr 1;rw[Nat.add_mul];omega
 cases hy
theorem aX.take {t sz:Nat} {l:List (X.Γ t)} {cs:List TV} {off:Nat} (hv:aX X P F m h t l cs off sz):aX X P F m h t l ((cs.drop off).take (l.length*sz)) 0 sz:=by
 refine⟨hv.1,?_,fun j a i c v h1 h2 h3=>?_⟩
 ·have:=hv.2.1;rw[List.length_take,List.length_drop];omega
 rw[List.getElem?_take] at h3;split at h3
 ·rw[List.getElem?_drop] at h3;exact hv.2.2 j a i c v h1 h2 (by rw[<-h3];congr 1;omega)
 cases h3
theorem SlR.src {t sz:Nat} {l:List (X.Γ t)} {x:TV} (hv:SlR X P F m h t sz l x):∃ new,aS sz h x=some (l.length,new)∧new.length=l.length*sz∧aX X P F m h t l new 0 sz:=by
 rcases hv with⟨rfl,rfl⟩ | ⟨b,off,cap,ex,cs,rfl,hk,hc,Gs,hw⟩
 ·exact⟨[],rfl,by simp,fun j a hj=>by simp at hj,by simp,fun j a i c v hj=>by simp at hj⟩
 refine⟨(cs.drop off).take (l.length*sz),?_,?_,hw.take⟩
 ·have:=hw.2.1;simp only[aS,if_true,sub];by_cases h0:l.length=0
  ·rw[if_pos h0,h0];simp
  rw[if_neg h0,Gs (fun e=>h0 (by rw[e];rfl))];simp only;rw[if_pos this];rfl
 have:=hw.2.1;rw[List.length_take,List.length_drop];omega
theorem aX.app {t sz:Nat} {l r:List (X.Γ t)} {a b:List TV} (h1:aX X P F m h t l a 0 sz) (h2:aX X P F m h t r b 0 sz) (ha:a.length=l.length*sz):aX X P F m h t (l++r) (a++b) 0 sz:=by
 refine⟨fun j y hy=>?_,?_,fun j y i c v hy hi hx=>?_⟩
 ·rcases Nat.lt_or_ge j l.length with hl | hl
  ·rw[List.getElem?_append_left hl] at hy;exact h1.1 j y hy
  rw[List.getElem?_append_right hl] at hy;exact h2.1 _ y hy
 ·have:=h2.2.1;simp only[List.length_append,Nat.add_mul];omega
 rcases Nat.lt_or_ge j l.length with hl | hl
 ·rw[List.getElem?_append_left hl] at hy;have aN:i<sz:=by rw[<-h1.1 j y hy];exact (List.getElem?_eq_some_iff.1 hi).1
  have:(j+1)*sz<=l.length*sz:=Nat.mul_le_mul_right sz hl;rw[Nat.add_mul] at this;rw[List.getElem?_append_left (by omega)] at hx;exact h1.2.2 j y i c v hy hi hx
 rw[List.getElem?_append_right hl] at hy;have:l.length*sz<=j*sz:=Nat.mul_le_mul_right sz hl;rw[List.getElem?_append_right (by omega)] at hx;refine h2.2.2 _ y i c v hy hi ?_;rw[<-hx];congr 1;rw[ha,Nat.sub_mul];omega
theorem jm {Γ:Nat->Type} {t t':Nat} {l:List (Γ t')} {r:List (Γ t)} (h:qc t t' l=some r):∃ e:t'=t,r=e▸l:=by
 unfold qc at h;split at h
 ·rename_i e;cases h;exact⟨e,rfl⟩
 cases h
theorem yT (hX:aU X P) (hr:HR X P A m H h) {e sz:Nat} {x:PV X.Γ} {tx:TV} (hv:VR X P (AA A m) m h x tx) (hz:aZ P e=some sz) {rows:List (X.Γ e)} {is:List Nat} (hs:oZ X H e sz x=some (rows,is)) :
  ∃ new,aS sz h tx=some (rows.length,new)∧new.length=rows.length*sz∧aX X P (FA A m is) m' h e rows new 0 sz:=by
 have up:∀ {l:List (X.Γ e)} {y:TV},SlR X P (AA A m) m h e sz l y->∃ new,aS sz h y=some (l.length,new)∧new.length=l.length*sz∧aX X P (FA A m []) m' h e l new 0 sz:=by
  intro l y hy;obtain⟨new,h1,h2,h3⟩:=hy.src;exact⟨new,h1,h2,(h3.mono fun b hb=>.inl hb).dW hX⟩
 cases x with
 | nil k=>
  cases k<;>simp only[oZ] at hs<;>try (cases hs;done)
  simp only[Option.some.injEq,Prod.mk.injEq] at hs;obtain⟨rfl,rfl⟩:=hs;cases hv with
  | nil=>exact up (.inl ⟨rfl,rfl⟩)
  | gone hi _ _=>simp[aG] at hi
 | bK t l fu=>
  simp only[oZ,Option.map_eq_some_iff,Prod.mk.injEq] at hs;obtain⟨r,h1,rfl,rfl⟩:=hs;obtain⟨rfl,rfl⟩:=jm h1;exact up (PX hv hz)
 | own i=>
  simp only[oZ] at hs;split at hs
  ·rename_i k ex t l hH;simp only[Option.map_eq_some_iff,Prod.mk.injEq] at hs;obtain⟨r,h1,rfl,rfl⟩:=hs;obtain⟨rfl,rfl⟩:=jm h1;obtain⟨mb,g1,g2⟩:=hr.at_ i _ hH;cases mb with
   | bK y=>
    cases hv with
    | own e' o=>rw[g1] at e';cases e';exact up (UJ g2 hz)
    | gone hi e' o=>simp only[aG,Option.some.injEq] at hi;subst hi;rw[g1] at e';cases e'
   | _=>exact g2.elim
  ·cases hs
 | win i o n=>
  simp only[oZ] at hs;split at hs
  ·rename_i k ex t l hH;simp only[Option.map_eq_some_iff,Prod.mk.injEq] at hs;obtain⟨r,h1,rfl,rfl⟩:=hs;obtain⟨rfl,rfl⟩:=jm h1;obtain⟨mb,g1,g2⟩:=hr.at_ i _ hH;cases mb with
   | bK y=>
    have hsl:=UJ g2 hz;cases hv with
    | win e' q q' q2=>
     rw[g1] at e';cases e';rcases hsl with⟨h,_⟩ | ⟨b,off,cap,SC,cs,he,hk,hc,Gs,hw⟩
     ·cases h
     ·cases he;have hlen:n=((r.drop o).take n).length:=by rw[List.length_take,List.length_drop];omega
      refine up (.inr ⟨_,_,_,_,cs,congrArg (fun k=>TV.slc _ _ k _ _ _) hlen,hlen▸q',hc,fun dZ=>?_,hw.part q⟩);have h1:n≠0:=fun e=>dZ (by subst e;simp);have h2:=q2;rw[<-Gs (fun e=>dZ (by rw[e];simp)),<-h2];congr 1;rw[Nat.add_mul];omega
    | ql e'=>
     rw[g1] at e';cases e';refine up (.inl ⟨rfl,by simp⟩)
    | gone hi e' o=>simp only[aG,Option.some.injEq] at hi;subst hi;rw[g1] at e';cases e'
   | _=>exact g2.elim
  ·cases hs
 | slc b off len cap X3 ex=>
  simp only[oZ] at hs;split at hs
  ·rename_i cs hH;split at hs
   ·rename_i nR;obtain⟨nR,a1P⟩:=nR;subst nR;obtain⟨mb,g1,g2⟩:=hr.at_ b _ hH;cases mb with
    | cO c=>
     obtain⟨cs',g3,g4⟩:=g2;cases hv with
     | slc e'=>
      rw[g1] at e';cases e';obtain⟨hl,hw⟩:=rG (m':=m') hX hr (g4.drop off) hs;subst hl;rw[g4.1] at a1P;refine⟨(cs'.drop off).take (rows.length*X3),?_,by rw[List.length_take,List.length_drop];omega,by simpa using hw.take⟩;simp only[aS,if_true,rE g3 (by simp),sub];split
      ·rename_i h0;rw[h0,Nat.zero_mul,List.take_zero]
      ·simp only[a1P,if_true,Option.map_some]
     | gone hi e' o=>simp only[aG,Option.some.injEq] at hi;subst hi;rw[g1] at e';cases e'
    | _=>exact g2.elim
   ·cases hs
  ·cases hs
 | _=>simp[oZ] at hs
end
open Go Tw
def xJ (m:List MB) (i b:Nat):Prop:=∃ mb,m[i]? = some mb∧mb.own=some b
structure IR (m:List MB) (h:List HB) (p:PI) (t:gy):Prop where
 all:t.all=true->p.i.all=true
 tl:∀ k,.l k∈t.ts->.l k∈p.i.ts
 wl:∀ k,.l k∈t.ws->.l k∈p.i.ws
 wh:∀ b,.h b∈t.ws->(∃ i,.h i∈p.i.ws∧xJ m i b)∨(p.wall=true∧b∈aK m)
 th:∀ b,.h b∈t.ts->((∃ i,.h i∈p.i.ts∧xJ m i b)∨b∉aK m)∧b<h.length
 hp:p.hp=false->t.all=false∧(∀ b,.h b∉t.ts)∧∀ b,.h b∉t.ws
theorem IR.none {m:List MB} {h:List HB} {p:PI}:IR m h p aA:=⟨fun h=>(by cases h),fun _ h=>(by cases h),fun _ h=>(by cases h),fun _ h=>(by cases h),fun _ h=>(by cases h),fun _=>⟨rfl,fun _ h=>(by cases h),fun _ h=>(by cases h)⟩⟩
section
variable {X:iR} {P:Program} {A F:Nat->Prop} {m m':List MB} {h h':List HB} {H H':List (PB X.Γ)}
structure nS (X:iR) (P:Program) (A:Nat->Prop) (m:List MB) (ps:aW X.Γ) (ts:St):Prop where
 heap:HR X P A m ps.heap ts.heap
 llen:ps.loc.length=ts.loc.length
 loc:∀ (k:Nat) cs,ps.loc[k]? = some cs->∃ cs',ts.loc[k]? = some cs'∧aH X P (AA A m) m ts.heap cs cs'
 env:gG X P (AA A m) m ts.heap ps.env ts.env
theorem nS.step {ps:aW X.Γ} {ts:St} (hR:nS X P A m ps ts) {H1:List (PB X.Γ)} {h1:List HB} (hr:HR X P A m' H1 h1) (hF:Fr m ts.heap m' h1) (hU:Up m m'):nS X P A m' { ps with heap:=H1 } { ts with heap:=h1 }:=
 ⟨hr,hR.llen,fun k cs hk=>let ⟨cs',g1,g2⟩:=hR.loc k cs hk;⟨cs',g1,g2.step hF hU⟩,hR.env.step hF hU⟩
def OpR (X:iR) (P:Program) (A:Nat->Prop) (m:List MB) (call:ay) (site:Nat->Bool) (ts:St) (o:Oper) (pe:PE X.Γ) (fK:aW X.Γ) (pi:PI):Prop:=
 ∃ ev dX ti m1,jq P call site ts o=some (ev,dX,ti)∧dX.env=ts.env∧dX.ws=ts.ws∧nS X P A m1 fK dX∧CU X P (AA A m1) m1 dX.heap pe ev∧Fr m ts.heap m1 dX.heap∧Up m m1∧IR m ts.heap pi ti∧∀ b,.h b∈ti.ws->b∈aK m
theorem nH {call:ay} {site:Nat->Bool} {ps:aW X.Γ} {ts:St} {o:Oper} {pe:PE X.Γ} {ev:EV} {pi:PI} (hR:nS X P A m ps ts) (h:jq P call site ts o=some (ev,ts,aA)) (hp:CU X P (AA A m) m ts.heap pe ev):OpR X P A m call site ts o pe ps pi:=
 ⟨ev,ts,aA,m,h,rfl,rfl,hR,hp,.refl,.refl,.none,fun b hb=>by cases hb⟩
theorem nS.sF {ps:aW X.Γ} {ts:St} (hR:nS X P A m ps ts) {x:Operand} {b:Bool} (hb:lJ ts.env x=some (.bool b)):nS X P A m (ps.sF x b) ts:=by
 cases x with
 | tmp t=>
  refine⟨hR.heap,hR.llen,hR.loc,XH hR.env ?_⟩;simp only[lJ,AL] at hb;split at hb
  ·rename_i v hv;cases hb;exact hv
  cases hb
 | _=>exact hR
theorem Hf {ps:aW X.Γ} {ts:St} (hR:nS X P A m ps ts) {site:Bool} {cs:List (PV X.Γ)} {cs':List TV} (hc:aH X P (AA A m) m ts.heap cs cs') :
  ∃ m1,(jh site ts cs').2.env=ts.env∧(jh site ts cs').2.ws=ts.ws∧nS X P A m1 (vk site ps cs).2 (jh site ts cs').2∧CU X P (AA A m1) m1 (jh site ts cs').2.heap (vk site ps cs).1 (jh site ts cs').1∧Fr m ts.heap m1 (jh site ts cs').2.heap∧Up m m1:=by
 cases site with
 | true=>
  have hp:=hR.heap.push (pb:=.cells cs) (hb:=.cells .own cs') (mb:=.cO ts.heap.length) (.inl rfl) ?_
  ·refine⟨m++[.cO ts.heap.length],rfl,rfl,hR.step hp.1 hp.2.1 hp.2.2,?_,hp.2.1,hp.2.2⟩;show VR X P _ _ _ (.ptr ps.heap.length 0 cs.length) (.ptr ts.heap.length 0 cs'.length);rw[hc.1];exact .ptr (by rw[<-hR.heap.len];simp)
  ·refine⟨cs',by simp,hc.step ?_ (nC _)⟩;refine⟨by simp,fun b hb _=>by rw[List.getElem?_append_left hb],fun b hb=>?_,fun b cs hc=>⟨cs,by rw[cu (List.getElem?_append_left (bU hc)),hc],Nat.le_refl _⟩⟩;rw[dK,List.mem_append,fH] at hb;rcases hb with hb | hb
   ·exact .inl hb
   ·simp[MB.own] at hb;exact .inr (by omega)
 | false=>
  refine⟨m,rfl,rfl,⟨hR.heap,by simp[vk,jh,hR.llen],fun k ds hk=>?_,hR.env⟩,?_,.refl,.refl⟩
  ·simp only[vk,jh,Bool.false_eq_true,if_false] at hk ⊢;rcases Nat.lt_or_ge k ps.loc.length with hl | hl
   ·rw[List.getElem?_append_left hl] at hk;obtain⟨ds',g1,g2⟩:=hR.loc k ds hk;exact⟨ds',by rw[List.getElem?_append_left (by rw[<-hR.llen];exact hl)];exact g1,g2⟩
   ·rw[List.getElem?_append_right hl] at hk;have:k-ps.loc.length=0:=by
     rcases Nat.eq_zero_or_pos (k-ps.loc.length) with e | e
     ·exact e
     ·rw[List.getElem?_eq_none (by simp;omega)] at hk;cases hk
    rw[this] at hk;simp only[List.getElem?_cons_zero,Option.some.injEq] at hk;subst hk;exact⟨cs',by rw[List.getElem?_append_right (by rw[<-hR.llen];exact hl),<-hR.llen,this];rfl,hc⟩
  ·exact⟨hR.llen,rfl⟩
theorem dw {i:Nat} {mb:MB} {b:Nat} (h1:m[i]? = some mb) (h2:mb.own=some b):xJ m i b:=⟨mb,h1,h2⟩
theorem NI {i b:Nat} (h:xJ m i b):b∈aK m:=let ⟨_,h1,h2⟩:=h;aC h1 h2
theorem IR.rdH {i b:Nat} (h0:xJ m i b) (hl:b<h.length):IR m h ⟨nT (.h i),false,false,true⟩ (nT (.h b)):=
 ⟨fun h=>(by cases h),fun k hk=>(by simp[nT] at hk),fun k hk=>(by simp[nT] at hk),fun b hb=>(by simp[nT] at hb),fun c hc=>(by simp[nT] at hc;subst hc;exact⟨.inl ⟨i,by simp[nT],h0⟩,hl⟩),fun h=>(by cases h)⟩
theorem IR.wrH {i b:Nat} (h0:xJ m i b) (hl:b<h.length):IR m h ⟨lF (.h i),false,false,true⟩ (lF (.h b)):=
 ⟨fun h=>(by cases h),fun k hk=>(by simp[lF] at hk),fun k hk=>(by simp[lF] at hk),fun c hc=>(by simp[lF] at hc;subst hc;exact .inl ⟨i,by simp[lF],h0⟩),fun c hc=>(by simp[lF] at hc;subst hc;exact⟨.inl ⟨i,by simp[lF],h0⟩,hl⟩),fun h=>(by cases h)⟩
theorem IR.loc {k:Nat}:IR m h ⟨nT (.l k),false,false,false⟩ (nT (.l k)):=
 ⟨fun h=>(by cases h),fun j hj=>by simpa[nT] using hj,fun k hk=>(by simp[nT] at hk),fun b hb=>(by simp[nT] at hb),fun c hc=>(by simp[nT] at hc),fun _=>⟨rfl,fun b hb=>(by simp[nT] at hb),fun b hb=>(by simp[nT] at hb)⟩⟩
theorem IR.a9t {k:Nat}:IR m h ⟨lF (.l k),false,false,false⟩ (lF (.l k)):=
 ⟨fun h=>(by cases h),fun j hj=>by simpa[lF] using hj,fun j hj=>by simpa[lF] using hj,fun c hc=>(by simp[lF] at hc),fun c hc=>(by simp[lF] at hc),fun _=>⟨rfl,fun b hb=>(by simp[lF] at hb),fun b hb=>(by simp[lF] at hb)⟩⟩
theorem KA {t:TypeId} {cs:List TV} {o sz off n:Nat} {x:TV} (ho:o+sz<=cs.length) (hp:l7 P t ((cs.drop o).take sz) off=some x) (hn:aZ P t=some n):l7 P t cs (o+off)=some x∧off+n<=sz∧o+off+n<=cs.length:=by
 unfold l7 at hp ⊢;split at hp
 ·rename_i k ha hk;rw[hn] at hk;cases hk;simp only[Option.map_eq_some_iff] at hp;obtain⟨r,h1,rfl⟩:=hp;unfold sub at h1;split at h1
  ·rename_i hl;rw[List.length_take,List.length_drop] at hl;refine⟨?_,by omega,by omega⟩;cases h1;simp only[ha,hn,sub];rw[if_pos (by omega)];simp only[Option.map_some,Option.some.injEq,TV.agg.injEq];rw[List.drop_take,List.drop_drop,List.take_take,Nat.min_eq_left (by omega)]
  cases h1
 ·rename_i k ha hk;rw[hn] at hk;cases hk;split at hp
  ·rename_i h1;subst h1;rw[List.getElem?_take] at hp;split at hp
   ·rename_i h2;rw[List.getElem?_drop] at hp;have:=(List.getElem?_eq_some_iff.1 hp).1;refine⟨by simp only[ha,hn,if_true];exact hp,by omega,by omega⟩
   cases hp
  cases hp
 cases hp
theorem Hl {t:TypeId} {cs:List TV} {off:Nat} {x:TV} (hp:l7 P t cs off=some x):∃ n,aZ P t=some n:=by
 unfold l7 at hp;split at hp
 ·rename_i n _ hn;exact⟨n,hn⟩
 ·rename_i n _ hn;exact⟨n,hn⟩
 cases hp
theorem aX.row {t sz:Nat} {l:List (X.Γ t)} {cs:List TV} {off j:Nat} {a:X.Γ t} (hw:aX X P F m h t l cs off sz) (hj:l[j]? = some a):aH X P F m h (X.enc t a) ((cs.drop (off+j*sz)).take sz)∧off+j*sz+sz<=cs.length:=by
 have hlen:=hw.1 j a hj;have aN:j<l.length:=(List.getElem?_eq_some_iff.1 hj).1;have h2:(j+1)*sz<=l.length*sz:=Nat.mul_le_mul_right sz aN;have h3:=hw.2.1;rw[Nat.add_mul] at h2;refine⟨⟨by rw[hlen,List.length_take,List.length_drop];omega,fun i c v hc hv=>?_⟩,by omega⟩;rw[List.getElem?_take] at hv;split at hv
 ·rw[List.getElem?_drop] at hv;exact hw.2.2 j a i c v hj hc hv
 cases hv
theorem oH {t:Nat} {l:List (X.Γ t)} {j:Nat} (hj:j<l.length):l[j]? = some (l.getD j (X.d0 t)):=by
 rw[List.getD_eq_getElem?_getD,List.getElem?_eq_getElem hj];rfl
theorem xR (hX:aU X P) {ps:aW X.Γ} {ts:St} (hR:nS X P A m ps ts) {t:TypeId} {pa:PE X.Γ} {ea:EV} (ha:CU X P (AA A m) m ts.heap pa ea) {v:PV X.Γ} {pi:gy} (hl:qZ X P t ps pa=some (v,pi)) :
  ∃ x ti,loadT P t ts ea=some (x,ti)∧VR X P (AA A m) m ts.heap v x∧IR m ts.heap ⟨pi,false,false,!IW pa⟩ ti∧ti.ws=[]:=by
 cases pa with
 | loc k off=>
  rw[vF ha];simp only[qZ] at hl;split at hl
  ·rename_i cs hk;simp only[Option.map_eq_some_iff,Prod.mk.injEq] at hl;obtain⟨w,h1,rfl,rfl⟩:=hl;obtain⟨cs',g1,g2⟩:=hR.loc k cs hk;obtain⟨x,g3,g4⟩:=rF g2 h1;exact⟨x,nT (.l k),by simp only[loadT,g1,g3,Option.map_some],g4,.loc,rfl⟩
  ·cases hl
 | undef=>simp[qZ] at hl
 | val a=>
  obtain⟨y,rfl,hy⟩:=bV ha;cases a with
  | ptr b off lim=>
   simp only[qZ] at hl;split at hl
   ·rename_i cs n hb hn;split at hl
    ·rename_i BL;simp only[Option.map_eq_some_iff,Prod.mk.injEq] at hl;obtain⟨w,h1,rfl,rfl⟩:=hl;obtain⟨mb,g1,g2⟩:=hR.heap.at_ b _ hb;cases mb with
     | cO c=>
      obtain⟨cs',g3,g4⟩:=g2;cases hy with
      | ptr e=>
       rw[g1] at e;cases e;obtain⟨x,g5,g6⟩:=rF g4 h1;refine⟨x,nT (.h c),?_,g6,.rdH (dw g1 rfl) (List.getElem?_eq_some_iff.1 g3).1,rfl⟩;simp only[loadT,rE g3 (show BK.own≠.last by simp),hn,BL,if_true,g5,Option.map_some]
      | gone hi e _=>simp only[aG,Option.some.injEq] at hi;subst hi;rw[g1] at e;cases e
     | _=>exact g2.elim
    ·cases hl
   ·rename_i cs n hb hn;split at hl
    ·rename_i BL;simp only[Option.map_eq_some_iff,Prod.mk.injEq] at hl;obtain⟨w,h1,rfl,rfl⟩:=hl;obtain⟨mb,g1,g2⟩:=hR.heap.at_ b _ hb;cases mb with
     | cZ c=>
      obtain⟨g0,cs',g3,g4⟩:=g2;cases hy with
      | ptr e=>rw[g1] at e;cases e
      | gone hi e _=>
       simp only[aG,Option.some.injEq] at hi;subst hi;rw[g1] at e;cases e with
       | r _ e=>
        simp only[XF,Option.some.injEq] at e;subst e;obtain⟨x,g5,g6⟩:=rF g4 h1;refine⟨x,nT (.h c),?_,g6,⟨fun h=>(by cases h),fun k hk=>(by simp[nT] at hk),fun k hk=>(by simp[nT] at hk),fun b hb=>(by simp[nT] at hb),fun d hd=>?_,fun h=>(by cases h)⟩,rfl⟩
        ·simp only[loadT,rE g3 (show BK.own≠.last by simp),hn,BL,if_true,g5,Option.map_some]
        ·simp[nT] at hd;subst hd;exact⟨.inr g0,(List.getElem?_eq_some_iff.1 g3).1⟩
     | _=>exact g2.elim
    ·cases hl
   ·cases hl
  | row b j off=>
   simp only[qZ] at hl;split at hl
   ·rename_i k ex e l hb;simp only[Option.map_eq_some_iff,Prod.mk.injEq] at hl;obtain⟨w,h1,rfl,rfl⟩:=hl;obtain⟨mb,g1,g2⟩:=hR.heap.at_ b _ hb;cases mb with
    | bK z=>
     cases hy with
     | row e' hj hq=>
      rw[g1] at e';cases e';cases (g2:LR X P _ _ _ _ _ _ _ _) with
      | emp=>omega
      | some q1 q2 q3 q4 q5 q6 q7 q8 q9=>
       have oV:=q9.row (oH hj);obtain⟨x,g5,g6⟩:=rF oV.1 h1;obtain⟨n,hn⟩:=Hl g5;obtain⟨g7,g8,_⟩:=KA oV.2 g5 hn;rw[Nat.zero_add] at g7;refine⟨x,nT (.h _),?_,g6,.rdH (dw g1 (by simp only[MB.own];rw[if_neg (by simpa using q1)])) (List.getElem?_eq_some_iff.1 q4).1,rfl⟩;have LD:=oV.2;simp only[loadT,ny q4 q8.symm,hn];rw[if_pos (by omega),g7];rfl
     | gone hi e' _=>simp only[aG,Option.some.injEq] at hi;subst hi;rw[g1] at e';cases e'
    | _=>exact g2.elim
   ·cases hl
  | el e a off=>
   simp only[qZ,Option.map_eq_some_iff,Prod.mk.injEq] at hl;obtain⟨w,h1,rfl,rfl⟩:=hl;cases hy with
   | el q1 q2 q2' q3 q4 q5 q6=>
    rename_i b o sz lim cs;have oV:aH X P (AA A m) m ts.heap (X.enc e a) ((cs.drop o).take sz):=by
     refine⟨by rw[q4,List.length_take,List.length_drop];omega,fun i c v hc hv=>?_⟩;rw[List.getElem?_take] at hv;split at hv
     ·rw[List.getElem?_drop] at hv;exact q6 i c v hc hv
     ·cases hv
    obtain⟨x,g5,g6⟩:=rF oV h1;obtain⟨n,hn⟩:=Hl g5;obtain⟨g7,g8,_⟩:=KA q3 g5 hn;refine⟨x,nT (.h b),?_,g6,⟨fun h=>(by cases h),fun k hk=>(by simp[nT] at hk),fun k hk=>(by simp[nT] at hk),fun b hb=>(by simp[nT] at hb),fun c hc=>?_,fun h=>(by cases h)⟩,rfl⟩
    ·simp only[loadT,q2,hn];rw[if_pos (by omega),g7];rfl
    ·simp[nT] at hc;subst hc;exact⟨.inr q1.2,Ro q2⟩
   | gone hi e' _=>simp[aG] at hi
  | _=>simp[qZ] at hl
end
open Go Tw
section
variable {X:iR} {P:Program} {A F:Nat->Prop} {m m':List MB} {h h':List HB} {H H':List (PB X.Γ)}
theorem ED {cs new:List TV} {o sz off:Nat} {r:List TV} (ho:o+sz<=cs.length) (hr:lX ((cs.drop o).take sz) off new=some r):lX cs (o+off) new=some (cs.take o++r++cs.drop (o+sz))∧r.length=sz:=by
 unfold lX at hr ⊢;split at hr
 rotate_left
 ·cases hr
 rename_i hl;have kF:=hl;rw[List.length_take,List.length_drop] at hl;cases hr;refine⟨?_,?_⟩
 ·rw[if_pos (by omega)];simp only[Option.some.injEq];apply List.ext_getElem?;intro i;simp only[List.getElem?_append,List.length_append,List.length_take,List.length_drop,List.getElem?_take,List.getElem?_drop];rcases Nat.lt_or_ge i o with h1 | h1
  ·simp (disch:=omega) only [Nat.min_eq_left,if_pos]
  rcases Nat.lt_or_ge i (o+off) with h2 | h2
  ·rw[if_pos (by omega),if_pos (by omega),if_pos (by omega),if_pos (by omega),if_neg (by omega),if_pos (by omega),if_pos (by omega),if_pos (by omega),if_pos (by omega)];congr 1;omega
  rcases Nat.lt_or_ge i (o+off+new.length) with h3 | h3
  ·rw[if_pos (by omega),if_neg (by omega),if_pos (by omega),if_neg (by omega),if_pos (by omega),if_neg (by omega)];congr 1;omega
  rcases Nat.lt_or_ge i (o+sz) with h4 | h4
  ·rw[if_neg (by omega),if_pos (by omega),if_neg (by omega),if_neg (by omega),if_pos (by omega)];congr 1;omega
  rw[if_neg (by omega),if_neg (by omega)];congr 1;omega
 simp only[List.length_append,List.length_take,List.length_drop];omega
theorem aX.set {t sz j:Nat} {l:List (X.Γ t)} {cs r:List TV} {a:X.Γ t} (hw:aX X P F m h t l cs 0 sz) (hr:aH X P F m h (X.enc t a) r) (hl:r.length=sz) (hj:j<l.length) :
  aX X P F m h t (l.set j a) (cs.take (j*sz)++r++cs.drop (j*sz+sz)) 0 sz:=by
 have h2:(j+1)*sz<=l.length*sz:=Nat.mul_le_mul_right sz hj;rw[Nat.add_mul] at h2;have h3:=hw.2.1;refine⟨fun k y hy=>?_,?_,fun k y i c v hy hi hx=>?_⟩
 ·rw[List.getElem?_set] at hy;split at hy
  ·cases hy;rw[hr.1,hl]
  ·exact hw.1 k y hy
 ·simp only[List.length_append,List.length_take,List.length_drop,List.length_set];omega
 ·rw[List.getElem?_set] at hy;split at hy
  ·rename_i e;subst e;cases hy;have aN:i<sz:=by rw[<-hl,<-hr.1];exact (List.getElem?_eq_some_iff.1 hi).1
   refine hr.2 i c v hi ?_;rw[List.getElem?_append_left (by simp only[List.length_append,List.length_take];omega),List.getElem?_append_right (by rw[List.length_take];omega),List.length_take] at hx;rw[<-hx];congr 1;omega
  ·rename_i e;have hlen:=hw.1 k y hy;have aN:i<sz:=by rw[<-hlen];exact (List.getElem?_eq_some_iff.1 hi).1
   have hk:k<l.length:=(List.getElem?_eq_some_iff.1 hy).1;refine hw.2.2 k y i c v hy hi ?_;rw[<-hx];rcases Nat.lt_or_ge k j with h4 | h4
   ·have:(k+1)*sz<=j*sz:=Nat.mul_le_mul_right sz h4;rw[Nat.add_mul] at this;rw[List.getElem?_append_left (by simp only[List.length_append,List.length_take];omega),List.getElem?_append_left (by rw[List.length_take];omega),List.getElem?_take,if_pos (by omega)]
   ·have h5:j+1<=k:=(by omega);have:(j+1)*sz<=k*sz:=Nat.mul_le_mul_right sz h5;rw[Nat.add_mul] at this;rw[List.getElem?_append_right (by simp only[List.length_append,List.length_take];omega),List.getElem?_drop];congr 1;simp only[List.length_append,List.length_take];omega
theorem Bf {b:Nat} {pb:PB X.Γ}:∀ {is:List Nat} {H:List (PB X.Γ)},is.contains b=false->aI is (H.set b pb)=(aI is H).set b pb
 | [],_,_=>rfl
 | i::is,H,hn=>by
  simp only[List.contains_cons,Bool.or_eq_false_iff,beq_eq_false_iff_ne,ne_eq] at hn;simp only[aI,Kq];rw[List.set_comm _ _ hn.1,Bf hn.2]
theorem pV (hX:aU X P) {ps fK:aW X.Γ} {ts:St} (hR:nS X P A m ps ts) {t:TypeId} {pa:PE X.Γ} {ea:EV} (ha:CU X P (AA A m) m ts.heap pa ea) {v:PV X.Γ} {x:TV} (hv:VR X P (AA A m) m ts.heap v x) {pi:gy} (hl:IL X P t ps pa v=some (fK,pi)) :
  ∃ dX ti m1,storeT P t ts ea x=some (dX,ti)∧dX.env=ts.env∧dX.ws=ts.ws∧nS X P A m1 fK dX∧Fr m ts.heap m1 dX.heap∧Up m m1∧IR m ts.heap ⟨pi,false,false,!IW pa⟩ ti∧∀ b,.h b∈ti.ws->b∈aK m:=by
 have hc:=yO hv;unfold IL at hl;split at hl
 ·rename_i n hn;split at hl
  ·rename_i DK;have XI:x.cells.length=n∧x.cells.all bW=true:=⟨by rw[<-hc.1];exact DK.1,by rw[vC hc];exact DK.2⟩;cases pa with
   | loc k off=>
    rw[vF ha];simp only at hl;split at hl
    ·rename_i cs hk;simp only[Option.map_eq_some_iff,Prod.mk.injEq] at hl;obtain⟨Jq,h1,rfl,rfl⟩:=hl;obtain⟨cs',g1,g2⟩:=hR.loc k cs hk;obtain⟨Ad,g3,g4⟩:=yP g2 hc h1;refine⟨{ ts with loc:=ts.loc.set k Ad },lF (.l k),m,?_,rfl,rfl,⟨hR.heap,by simp[hR.llen],fun j ds hj=>?_,hR.env⟩,.refl,.refl,.a9t,fun b hb=>by simp[lF] at hb⟩
     ·simp only[storeT,hn,XI,and_self,if_true,g1,g3,Option.map_some]
     ·by_cases e:k=j
      ·subst e;rw[List.getElem?_set_self'] at hj;rw[hk] at hj;cases hj;exact⟨Ad,by rw[List.getElem?_set_self',g1];rfl,g4⟩
      ·rw[List.getElem?_set_ne e] at hj;obtain⟨ds',q1,q2⟩:=hR.loc j ds hj;exact⟨ds',by rw[List.getElem?_set_ne e];exact q1,q2⟩
    ·cases hl
   | undef=>simp at hl
   | val a=>
    obtain⟨y,rfl,hy⟩:=bV ha;cases a with
    | ptr b off lim=>
     simp only at hl;split at hl
     ·rename_i BL;split at hl
      ·rename_i cs hb;simp only[Option.map_eq_some_iff,Prod.mk.injEq] at hl;obtain⟨Jq,h1,rfl,rfl⟩:=hl;obtain⟨mb,g1,g2⟩:=hR.heap.at_ b _ hb;cases mb with
       | cO c=>
        obtain⟨cs',g3,g4⟩:=g2;cases hy with
        | ptr e=>
         rw[g1] at e;cases e;obtain⟨Ad,g5,g6⟩:=yP g4 hc h1;have hlen:Ad.length=cs'.length:=by
          unfold lX at g5;split at g5
          ·cases g5;simp only[List.length_append,List.length_take,List.length_drop];omega
          ·cases g5
         have aN:=(List.getElem?_eq_some_iff.1 g3).1;obtain⟨hr1,hF⟩:=hR.heap.set (pb:=.cells Jq) (hb:=.cells .own Ad) g1 (c:=c) rfl (fun X5 KC=>⟨Ad,by simp[aB,aN],by
          simp only[aB,g3,Option.some.injEq] at KC;subst KC;omega⟩) fun hF=>⟨Ad,by simp[aN],g6.step hF .refl⟩
         refine⟨{ ts with heap:=ts.heap.set c (.cells .own Ad) },lF (.h c),m,?_,rfl,rfl,hR.step hr1 hF .refl,hF,.refl,.wrH (dw g1 rfl) aN,fun b hb=>?_⟩
         ·simp only[storeT,hn,XI,and_self,if_true,BL,Kv g3,g5,Option.map_some]
         ·simp[lF] at hb;subst hb;exact aC g1 rfl
        | gone hi e _=>simp only[aG,Option.some.injEq] at hi;subst hi;rw[g1] at e;cases e
       | _=>exact g2.elim
      ·cases hl
     ·cases hl
    | row b j off=>
     simp only at hl;split at hl
     ·rename_i k0 ex e l hb;split at hl
      ·rename_i Jq h1;split at hl
       ·rename_i a is hd;split at hl
        ·cases hl
        ·rename_i LC;simp only[Option.some.injEq,Prod.mk.injEq] at hl;obtain⟨rfl,rfl⟩:=hl;obtain⟨mb,g1,g2⟩:=hR.heap.at_ b _ hb;cases mb with
         | bK z=>
          cases hy with
          | row e' hj hq=>
           rw[g1] at e';cases e';cases (g2:LR X P _ _ _ _ _ _ _ _) with
           | emp=>omega
           | some q1 q2 q3 q4 q5 q6 q7 q8 q9=>
            rename_i c sz xx kk cs;obtain⟨oN,qM,hkr,hko⟩:=Aa q5;have jc:(MB.bK (TV.slc c 0 l.length l.length sz xx)).own=some c:=by simp only[MB.own];rw[if_neg (by simpa using q1)]
            have oV:=q9.row (oH hj);simp only[Nat.zero_add] at oV;obtain⟨r,g3,g4⟩:=yP oV.1 hc h1;obtain⟨g5,g6⟩:=ED oV.2 g3;have a9u:=PW (m':=aP is m) hX hR.heap g4 hd;have UK:=hR.heap.aI is;have FN:=eU (h:=ts.heap) is m;have a5r:is.contains b=false:=(by simpa using LC);have Io:(aP is m)[b]? = some (.bK (.slc c 0 l.length l.length sz xx)):=by rw[tZ is g1,a5r];rfl
            have aN:=(List.getElem?_eq_some_iff.1 q4).1;have SA:(cs.take (j*sz)++r++cs.drop (j*sz+sz)).length=cs.length:=by
             simp only[List.length_append,List.length_take,List.length_drop];omega
            obtain⟨hr1,hF⟩:=UK.set (pb:=.list k0 ex e (l.set j a)) (hb:=.cells oN (cs.take (j*sz)++r++cs.drop (j*sz+sz))) Io jc (fun X5 KC=>⟨cs.take (j*sz)++r++cs.drop (j*sz+sz),by simp[aB,aN],by
             simp only[aB,q4,Option.some.injEq] at KC;subst KC;omega⟩) fun hF=>by
              have hw:=(q9.step FN.1 FN.2).set (a9u.mono fun b hb=>hb.gone hR.heap) g6 hj;have:=LR.some (X:=X) (P:=P) (A:=AA A (aP is m)) (m:=aP is m) (h:=ts.heap.set c (.cells oN (cs.take (j*sz)++r++cs.drop (j*sz+sz)))) (k:=k0) (ex:=ex) (t:=e) (l:=l.set j a) (b:=c) (sz:=sz) (e:=xx) (kk:=oN) (cs:=cs.take (j*sz)++r++cs.drop (j*sz+sz))
               (by intro e0;apply q1;have:=congrArg List.length e0;rw[List.length_set] at this;exact List.length_eq_zero_iff.1 this) q2 q3 (by simp[aN]) hkr (fun e0=>hko (q6 e0)) q7 (by rw[SA,List.length_set];exact q8) (hw.step hF .refl)
              rw[List.length_set] at this;exact this
            rw[<-Bf a5r] at hr1;have MX:=FN.1.trans hF;refine⟨{ ts with heap:=ts.heap.set c (.cells oN (cs.take (j*sz)++r++cs.drop (j*sz+sz))) },lF (.h c),aP is m,?_,rfl,rfl,hR.step hr1 MX FN.2,MX,FN.2,.wrH (dw g1 jc) aN,fun b hb=>?_⟩
            ·have h9:j*sz+off+n<=l.length*sz:=by
              have h8:=oV.2;unfold lX at g3;split at g3
              ·rename_i h0;rw[List.length_take,List.length_drop,XI.1] at h0;omega
              ·cases g3
             simp only[storeT,hn,XI,and_self,if_true,h9,J4 q4 qM q8.symm,g5,Option.map_some]
            ·simp[lF] at hb;subst hb;exact aC g1 jc
          | gone hi e' _=>simp only[aG,Option.some.injEq] at hi;subst hi;rw[g1] at e';cases e'
         | _=>exact g2.elim
       ·cases hl
      ·cases hl
     ·cases hl
    | _=>simp at hl
  ·cases hl
 ·cases hl
end
open Go Tw
section
variable {X:iR} {P:Program} {A F:Nat->Prop} {m m':List MB} {h h':List HB} {H H':List (PB X.Γ)}
theorem iQ {v:PV X.Γ} {x:TV} (hv:VR X P A m h v x):CU X P A m h (.val v) (.val x):=hv
theorem Dz {ps:aW X.Γ} {ts:St} (hR:nS X P A m ps ts) {o:Nat} {pa pb:PE X.Γ} {ea:EV} (ha:CU X P (AA A m) m ts.heap pa ea) (hl:yI X ps o pa=some pb):∃ eb,Di o ea=some eb∧CU X P (AA A m) m ts.heap pb eb:=by
 cases pa with
 | loc k off=>
  rw[vF ha];simp only[yI,Option.some.injEq] at hl;subst hl;exact⟨.loc k (off+o),rfl,rfl,rfl⟩
 | undef=>simp[yI] at hl
 | val a=>
  obtain⟨y,rfl,hy⟩:=bV ha;cases a with
  | ptr b off lim=>
   simp only[yI] at hl;split at hl
   ·rename_i cs hb;split at hl
    ·rename_i hle;cases hl;obtain⟨mb,g1,g2⟩:=hR.heap.at_ b _ hb;cases mb with
     | cO c=>
      cases hy with
      | ptr e=>exact⟨.val (.ptr _ (off+o) lim),by simp only[Di,hle,if_true],VR.ptr e⟩
      | gone hi e q=>simp only[aG,Option.some.injEq] at hi;subst hi;rw[g1] at e;cases e
     | _=>exact g2.elim
    cases hl
   ·rename_i cs hb;split at hl
    ·rename_i hle;cases hl;obtain⟨mb,g1,g2⟩:=hR.heap.at_ b _ hb;cases mb with
     | cZ c=>
      cases hy with
      | ptr e=>rw[g1] at e;cases e
      | gone hi e q=>
       simp only[aG,Option.some.injEq] at hi;subst hi;rw[g1] at e;cases e with
       | r _ e=>simp only[XF,Option.some.injEq] at e;subst e;exact⟨.val (.ptr _ (off+o) lim),by simp only[Di,hle,if_true],VR.gone rfl (.X4 g1 rfl) rfl⟩
     | _=>exact g2.elim
    cases hl
   cases hl
  | el t a off=>
   simp only[yI] at hl;split at hl
   ·rename_i hle;cases hl;cases hy with
    | el q1 q2 q2' q3 q4 q5 q6=>
     rename_i b o0 sz lim cs;rw[q4] at hle;refine⟨.val (.ptr b (o0+off+o) lim),by simp only[Di];rw[if_pos (by omega)],?_⟩;rw[Nat.add_assoc];exact VR.el q1 q2 q2' q3 q4 hle q6
    | gone hi _ _=>simp[aG] at hi
   cases hl
  | row b j off=>
   simp only[yI,a4Y] at hl;split at hl
   rotate_left
   ·cases hl
   rename_i n hn;split at hn
   rotate_left
   ·cases hn
   rename_i k ex e l hb;cases hn;split at hl
   ·rename_i hle;cases hl;obtain⟨mb,g1,g2⟩:=hR.heap.at_ b _ hb;cases mb with
    | bK z=>
     cases hy with
     | row e' hj hq=>
      rw[g1] at e';cases e';cases (g2:LR X P _ _ _ _ _ _ _ _) with
      | emp=>omega
      | some q1 q2 q3 q4 q5 q6 q7 q8 q9=>
       rw[q9.1 j _ (oH hj)] at hle;have oV:=(q9.row (oH hj)).2;refine⟨.val (.ptr _ (j*_+off+o) (l.length*_)),by simp only[Di];rw[if_pos (by omega)],?_⟩;rw[Nat.add_assoc];exact VR.row g1 hj hle
     | gone hi e' _=>simp only[aG,Option.some.injEq] at hi;subst hi;rw[g1] at e';cases e'
    | _=>exact g2.elim
   cases hl
  | _=>simp[yI] at hl
theorem XJ {ps:aW X.Γ} {ts:St} (hR:nS X P A m ps ts) {b:Nat} {k ex:Bool} {e:Nat} {l:List (X.Γ e)} (hb:ps.heap[b]? = some (.list k ex e l)) {y:TV} (hy:VR X P (AA A m) m ts.heap (.own b) y) (hl:l≠[]) :
  ∃ c sz x,y=.slc c 0 l.length l.length sz x∧m[b]? = some (.bK y)∧aZ P e=some sz∧0<sz:=by
 obtain⟨mb,g1,g2⟩:=hR.heap.at_ b _ hb;cases mb with
 | bK z=>
  cases hy with
  | own e' o=>
   rw[g1] at e';cases e';cases (g2:LR X P _ _ _ _ _ _ _ _) with
   | nil=>exact absurd rfl hl
   | emp=>exact absurd rfl hl
   | some q1 q2 q3=>exact⟨_,_,_,rfl,g1,q2,q3⟩
  | gone hi e' _=>simp only[aG,Option.some.injEq] at hi;subst hi;rw[g1] at e';cases e'
 | _=>exact g2.elim
theorem qO {ps:aW X.Γ} {ts:St} (hR:nS X P A m ps ts) {t:TypeId} {px pb:PE X.Γ} {ex:EV} (hx:CU X P (AA A m) m ts.heap px ex) {i:PV X.Γ} {ti:TV} (hi:VR X P (AA A m) m ts.heap i ti) {qs:List Prop} (hl:xB X P t ps px i=some (pb,qs)) (hq:∀ q∈qs,q) :
  ∃ eb,eF P t ex ti=some eb∧CU X P (AA A m) m ts.heap pb eb:=by
 have IB:∀ {k:IntKind} {iv:Int} {n:Nat},CO iv n->idx n (.int k iv)=some iv.toNat∧iv.toNat<n:=by
  intro k iv n hn;unfold CO at hn;refine⟨by simp only[idx];rw[if_pos hn],by omega⟩
 have hpi:∀ {n j:Nat},Rj X n i=some j->idx n ti=some j:=by
  intro n j hj;cases i<;>simp only[Rj] at hj<;>try (cases hj;done)
  cases hi with
  | int=>exact hj
  | gone e _ _=>simp[aG] at e
 unfold xB at hl;split at hl
 ·rename_i e hu;split at hl
  ·rename_i n t' l fu k iv hn;split at hl
   ·rename_i ht;subst ht;simp only[Option.some.injEq,Prod.mk.injEq] at hl;obtain⟨rfl,rfl⟩:=hl;have hr:=IB (k:=k) (hq _ List.mem_cons_self);have:ti=.int k iv:=by
     cases hi with
     | int=>rfl
     | gone e _ _=>simp[aG] at e
    subst this;obtain⟨y,rfl,hy⟩:=bV hx;rcases PX hy hn with⟨rfl,rfl⟩ | ⟨b,off,cap,SC,cs,rfl,hk,hc,Gs,hw⟩
    ·have:=hr.2;simp at this
    ·have oV:=hw.row (oH hr.2);have hA:AA A m b:=by
      cases hy with
      | bK a=>exact a
      | gone e _ _=>simp[aG] at e
     have DK:=Gs (by intro e0;rw[e0] at hr;have:=hr.2;simp at this);have hle:off+iv.toNat*n+n<=off+cap*n:=by
      have h1:(iv.toNat+1)*n<=cap*n:=Nat.mul_le_mul_right n (by have:=hr.2;omega);rw[Nat.add_mul,Nat.one_mul] at h1;omega
     refine⟨.val (.ptr b (off+iv.toNat*n) (off+cap*n)),?_,?_⟩
     ·simp only[eF,hu,hn,if_true,hr.1,Option.map_some]
     ·have:=VR.el (X:=X) (P:=P) (A:=AA A m) (m:=m) (h:=ts.heap) (t:=t') (a:=l.getD iv.toNat (X.d0 t')) (off:=0) (o:=off+iv.toNat*n) hA DK hle oV.2 (hw.1 _ _ (oH hr.2)) (Nat.zero_le _) (fun i c v h1 h2=>hw.2.2 _ _ i c v (oH hr.2) h1 h2);exact iQ (by simpa using this)
   ·cases hl
  ·rename_i n b k iv hn;split at hl
   ·rename_i w SC t' l hb;split at hl
    ·rename_i ht;subst ht;simp only[Option.some.injEq,Prod.mk.injEq] at hl;obtain⟨rfl,rfl⟩:=hl;have hr:=IB (k:=k) (hq _ List.mem_cons_self);have:ti=.int k iv:=by
      cases hi with
      | int=>rfl
      | gone e _ _=>simp[aG] at e
     subst this;obtain⟨y,rfl,hy⟩:=bV hx;obtain⟨c,sz,x',rfl,g1,g2,g3⟩:=XJ hR hb hy (by intro e0;rw[e0] at hr;have:=hr.2;simp at this);rw[hn] at g2;cases g2;refine⟨.val (.ptr c (iv.toNat*n) (l.length*n)),?_,?_⟩
     ·simp only[eF,hu,hn,if_true,hr.1,Option.map_some,Nat.zero_add]
     ·have:=VR.row (X:=X) (P:=P) (A:=AA A m) (m:=m) (h:=ts.heap) (off:=0) g1 hr.2 (Nat.zero_le n);exact iQ (by simpa using this)
    ·cases hl
   ·cases hl
  ·rename_i n b o q k iv hn;split at hl
   ·rename_i w SC t' l hb;split at hl
    ·rename_i ht;subst ht;simp only[Option.some.injEq,Prod.mk.injEq] at hl;obtain⟨rfl,rfl⟩:=hl;have hr:=IB (k:=k) (hq _ List.mem_cons_self);have:ti=.int k iv:=by
      cases hi with
      | int=>rfl
      | gone e _ _=>simp[aG] at e
     subst this;obtain⟨y,rfl,hy⟩:=bV hx;obtain⟨mb,g1,g2⟩:=hR.heap.at_ b _ hb;cases mb with
     | bK z=>
      cases hy with
      | win e' w1 w2 w3=>
       rw[g1] at e';cases e';cases (g2:LR X P _ _ _ _ _ _ _ _) with
       | emp=>have:=hr.2;omega
       | some q1 q2 q3=>
        rw[hn] at q2;cases q2;have hp:=iQ (VR.row (X:=X) (P:=P) (A:=AA A m) (m:=m) (h:=ts.heap) (j:=o+iv.toNat) (off:=0) g1 (by have:=hr.2;omega) (Nat.zero_le n));refine⟨_,?_,hp⟩;have h3:=w3;simp only[eF,hu,hn,if_true,hr.1,Option.map_some,Nat.zero_add,Nat.add_mul,Nat.add_zero,<-h3]
      | ql e'=>have:=hr.2;omega
      | gone hi e' _=>simp only[aG,Option.some.injEq] at hi;subst hi;rw[g1] at e';cases e'
     | _=>exact g2.elim
    ·cases hl
   ·cases hl
  ·rename_i n b off len cap sz SC hn;split at hl
   ·rename_i cs hb;split at hl
    ·rename_i nR;subst nR;simp only[Option.map_eq_some_iff,Prod.mk.injEq] at hl;obtain⟨j,h1,rfl,rfl⟩:=hl;obtain⟨y,rfl,hy⟩:=bV hx;obtain⟨mb,g1,g2⟩:=hR.heap.at_ b _ hb;cases mb with
     | cO c=>
      cases hy with
      | slc e=>
       have:=hpi h1;rw[g1] at e;cases e;exact⟨.val (.ptr c (off+j*n) (off+cap*n)),by simp only[eF,hu,hn,if_true,this,Option.map_some],VR.ptr g1⟩
      | gone nP e' _=>simp only[aG,Option.some.injEq] at nP;subst nP;rw[g1] at e';cases e'
     | _=>exact g2.elim
    ·cases hl
   ·cases hl
  ·cases hl
 ·rename_i len e hu;split at hl
  ·rename_i n hn;split at hl
   ·rename_i j hj;simp only[Option.map_eq_some_iff,Prod.mk.injEq] at hl;obtain⟨pa,h1,rfl,rfl⟩:=hl;obtain⟨eb,g1,g2⟩:=Dz hR hx h1;exact⟨eb,by simp only[eF,hu,hn,hpi hj,g1],g2⟩
   ·cases hl
  ·cases hl
 ·cases hl
end
open Go Tw
section
variable {X:iR} {P:Program} {A F:Nat->Prop} {m m':List MB} {h h':List HB} {H H':List (PB X.Γ)}
theorem LZ (hr:HR X P A m H h) {at_:Array TypeId} {x:PV X.Γ} {tx:TV} (hx:VR X P (AA A m) m h x tx) {v:PV X.Γ} {pi:gy} (hl:a1D X P at_ H x=some (v,pi)) :
  ∃ w ti,LK P at_ h tx=some (w,ti)∧VR X P (AA A m) m h v w∧IR m h ⟨pi,false,false,true⟩ ti∧ti.ws=[]:=by
 unfold a1D at hl;split at hl
 ·rename_i t ht;unfold LK;simp only[ht];split at hl
  ·rename_i s hu;cases hl;cases hx with
   | str=>exact⟨_,_,by first | (simp only[hu];done) | (simp only[hu];rfl),.int _ _,.none,rfl⟩
   | gone hi _ _=>simp[aG] at hi
  ·rename_i n e _ hu;cases hl;exact⟨_,_,by first | (simp only[hu];done) | (simp only[hu];rfl),.int _ _,.none,rfl⟩
  ·rename_i e b off len cap sz ex hu;split at hl
   ·rename_i cs hb;cases hl;obtain⟨mb,g1,g2⟩:=hr.at_ b _ hb;cases mb with
    | cO c=>
     cases hx with
     | slc e'=>exact⟨_,_,by first | (simp only[hu];done) | (simp only[hu];rfl),.int _ _,.none,rfl⟩
     | gone hi e' _=>simp only[aG,Option.some.injEq] at hi;subst hi;rw[g1] at e';cases e'
    | _=>exact g2.elim
   ·cases hl
  ·rename_i e hu;cases hl;cases hx with
   | nil=>exact⟨_,_,by first | (simp only[hu];done) | (simp only[hu];rfl),.int _ _,.none,rfl⟩
   | gone hi _ _=>simp[aG] at hi
  ·rename_i e t' l fu hu;cases hl;cases hx with
   | jZ=>exact⟨_,_,by first | (simp only[hu];done) | (simp only[hu];rfl),.int _ _,.none,rfl⟩
   | bK=>exact⟨_,_,by first | (simp only[hu];done) | (simp only[hu];rfl),.int _ _,.none,rfl⟩
   | gone hi _ _=>simp[aG] at hi
  ·rename_i e b hu;split at hl
   ·rename_i k ex t' l hb;cases hl;obtain⟨mb,g1,g2⟩:=hr.at_ b _ hb;cases mb with
    | bK z=>
     cases hx with
     | own e' _=>
      rw[g1] at e';cases e';cases (g2:LR X P _ _ _ _ _ _ _ _) with
      | nil=>exact⟨_,_,by first | (simp only[hu];done) | (simp only[hu];rfl),.int _ _,.none,rfl⟩
      | emp=>exact⟨_,_,by first | (simp only[hu];done) | (simp only[hu];rfl),.int _ _,.none,rfl⟩
      | some=>exact⟨_,_,by first | (simp only[hu];done) | (simp only[hu];rfl),.int _ _,.none,rfl⟩
     | gone hi e' _=>simp only[aG,Option.some.injEq] at hi;subst hi;rw[g1] at e';cases e'
    | _=>exact g2.elim
   ·cases hl
  ·rename_i e b o n hu;split at hl
   ·rename_i k ex t' l hb;cases hl;obtain⟨mb,g1,g2⟩:=hr.at_ b _ hb;cases mb with
    | bK z=>
     cases hx with
     | win=>exact⟨_,_,by first | (simp only[hu];done) | (simp only[hu];rfl),.int _ _,.none,rfl⟩
     | ql=>exact⟨_,_,by first | (simp only[hu];done) | (simp only[hu];rfl),.int _ _,.none,rfl⟩
     | gone hi e' _=>simp only[aG,Option.some.injEq] at hi;subst hi;rw[g1] at e';cases e'
    | _=>exact g2.elim
   ·cases hl
  ·rename_i kt e hu;cases hl;cases hx with
   | nil=>exact⟨_,_,by first | (simp only[hu];done) | (simp only[hu];rfl),.int _ _,.none,rfl⟩
   | gone hi _ _=>simp[aG] at hi
  ·rename_i kt e r hu;split at hl
   ·rename_i es hb;cases hl;obtain⟨mb,g1,g2⟩:=hr.at_ r _ hb;cases mb with
    | cO c=>
     obtain⟨fU,g3,g4,g5⟩:=g2;cases hx with
     | map e'=>
      rw[g1] at e';cases e';exact⟨_,_,by first | (simp only[hu,g3];done) | (simp only[hu,g3];rfl),by rw[g4];exact .int _ _,.rdH (dw g1 rfl) (List.getElem?_eq_some_iff.1 g3).1,rfl⟩
     | gone hi e' _=>simp only[aG,Option.some.injEq] at hi;subst hi;rw[g1] at e';cases e'
    | _=>exact g2.elim
   ·cases hl
  ·cases hl
 ·cases hl
def UL:BinOp->Option TV
 | .eql=>some (.bool false)
 | .neq=>some (.bool true)
 | _=>none
theorem LX {op:BinOp} {t:TypeId} {x y:Operand} {a b:PV X.Γ} {ta tb:TV} (ha:VR X P A m h a ta) (hb:VR X P A m h b tb) {v:PV X.Γ} (hl:a1F X P op t x y a b=some v):∃ w,kH P op t x y ta tb=some w∧VR X P A m h v w:=by
 unfold a1F at hl;split at hl
 ·rename_i u w h1 h2;split at hl
  ·rename_i r hr;rw[iP ha h1,iP hb h2];exact⟨r,hr,nD hl⟩
  cases hl
 rename_i hno;split at hl
 rotate_left
 ·cases hl
 rename_i hn;have key:∃ k,AP P t=some k∧((ta=.nil k∧AO tb=some k∧tb.rW=none)∨(tb=.nil k∧AO ta=some k∧ta.rW=none)):=by
  unfold Pz at hn;split at hn
  rotate_left
  ·cases hn
  rename_i k hk;refine⟨k,hk,?_⟩;simp only[Bool.or_eq_true,Bool.and_eq_true,beq_iff_eq] at hn;have a5s:∀ {z:PV X.Γ} {tz:TV},VR X P A m h z tz->z=.nil k->tz=.nil k:=by
   intro z tz hz e;subst e;cases hz with
   | nil=>rfl
   | gone hi _ _=>simp[aG] at hi
  have a0E:∀ {z:PV X.Γ} {tz:TV},VR X P A m h z tz->(match z with | .fn _ _ _=>some NK.fn | .el _ _ _=>some NK.ptr | _=>none)=some k->AO tz=some k∧tz.rW=none:=by
   intro z tz hz e;cases hz with
   | fn=>exact⟨e,rfl⟩
   | el=>exact⟨e,rfl⟩
   | gone hi _ _=>cases z<;>simp[aG] at hi<;>simp at e
   | _=>simp at e
  have a5t:∀ {z:PV X.Γ},(match z with | .nil k=>some k | _=>none)=some k->z=.nil k:=by
   intro z e;cases z<;>simp at e
   rw[e]
  rcases hn with⟨h1,h2⟩ | ⟨h1,h2⟩
  ·have:=a0E hb h2;exact .inl ⟨a5s ha (a5t h1),this.1,this.2⟩
  have:=a0E ha h1;exact .inr ⟨a5s hb (a5t h2),this.1,this.2⟩
 obtain⟨k,hk,hc⟩:=key;have a9v:kH P op t x y ta tb=UL op:=by
  rcases hc with⟨rfl,h2,h3⟩ | ⟨rfl,h2,h3⟩
  ·have hnn:sQ P t (.nil k) tb=true:=by unfold sQ;rw[hk];simp[LM,h2]
   unfold kH;rw[h3];cases (TV.nil k).rW<;>simp only[hnn,if_true]<;>cases op<;>rfl
  have hnn:sQ P t ta (.nil k)=true:=by unfold sQ;rw[hk];simp[LM,h2]
  unfold kH;rw[h3];simp only[hnn,if_true];cases op<;>rfl
 rw[a9v];cases op<;>simp only at hl ⊢<;>try (cases hl;done)
 ·cases hl;exact⟨_,rfl,.bool _⟩
 cases hl;exact⟨_,rfl,.bool _⟩
theorem EF {op:BinOp} {t:TypeId} {x y:Operand} {b:PV X.Γ} {ta tb:TV} (hb:VR X P A m h b tb) {v:PV X.Γ} {q q':Prop} (hl:CP X P op t b q=some (v,q')) (hq:q') (h2:q->AO ta=some .slc∧ta.rW=none):∃ w,kH P op t x y ta tb=some w∧VR X P A m h v w:=by
 unfold CP at hl;split at hl
 ·rename_i hk;have h1:tb=.nil .slc:=by
   cases hb with
   | nil=>rfl
   | gone hi _ _=>simp[aG] at hi
  subst h1;have key:q->kH P op t x y ta (.nil .slc)=UL op:=fun hq=>by
   obtain⟨h2,h3⟩:=h2 hq;have hnn:sQ P t ta (.nil .slc)=true:=by unfold sQ;rw[hk];simp[LM,h2]
   unfold kH;rw[h3];simp only[hnn,if_true];cases op<;>rfl
  split at hl
  ·cases hl;rw[key hq];exact⟨_,rfl,.bool _⟩
  ·cases hl;rw[key hq];exact⟨_,rfl,.bool _⟩
  cases hl
 cases hl
theorem Rt (hr:HR X P A m H h) {op:BinOp} {t:TypeId} {x y:Operand} {a b:PV X.Γ} {ta tb:TV} (ha:VR X P (AA A m) m h a ta) (hb:VR X P (AA A m) m h b tb) {v:PV X.Γ} {q:Prop} (hl:IU X P op t H a b=some (v,q)) (hq:q):∃ w,kH P op t x y ta tb=some w∧VR X P (AA A m) m h v w:=by
 unfold IU at hl;split at hl
 ·rename_i l fu;refine EF hb hl hq (fun dZ=>?_);cases ha with
  | jZ=>exact absurd rfl dZ
  | bK=>exact⟨rfl,rfl⟩
  | gone hi _ _=>simp[aG] at hi
 ·rename_i i;split at hl
  ·rename_i k ex t' l hi;refine EF hb hl hq (fun dZ=>?_);obtain⟨mb,g1,g2⟩:=hr.at_ i _ hi;cases ha with
   | own e o=>
    rw[g1] at e;cases e;cases g2 with
    | nil=>exact absurd rfl dZ
    | emp=>exact absurd rfl dZ
    | some=>exact⟨rfl,rfl⟩
   | gone hi e _=>simp only[aG,Option.some.injEq] at hi;subst hi;rw[g1] at e;cases e<;>exact g2.elim
  cases hl
 cases hl
theorem dR {op:UnOp} {a:PV X.Γ} {ta:TV} (ha:VR X P A m h a ta) {v:PV X.Γ} (hl:pun X P op a=some v):∃ w,unT P op ta=some w∧VR X P A m h v w:=by
 unfold pun at hl;split at hl
 ·rename_i u h1;split at hl
  ·rename_i r hr;rw[iP ha h1];exact⟨r,hr,nD hl⟩
  cases hl
 cases hl
theorem Il {s d:TypeId} {a:PV X.Γ} {ta:TV} (ha:VR X P A m h a ta) {v:PV X.Γ} (hl:Ur X P s d a=some v):∃ w,Dj P s d ta=some w∧VR X P A m h v w:=by
 unfold Ur at hl;split at hl
 ·rename_i u h1;split at hl
  ·rename_i r hr;rw[iP ha h1];exact⟨r,hr,nD hl⟩
  cases hl
 cases hl
theorem pY {mx:Bool} {at_:Array TypeId} {t:TypeId} {az:List (PV X.Γ)} {ts:List TV} (ha:aH X P A m h az ts) {v:PV X.Γ} (hl:CQ X P mx at_ t az=some v):∃ w,uT P mx at_ t ts=some w∧VR X P A m h v w:=by
 unfold CQ at hl;split at hl
 ·rename_i u h1;split at hl
  ·rename_i r hr;rw[PO ha h1];exact⟨r,hr,nD hl⟩
  cases hl
 cases hl
theorem DC {t:TypeId} {x:PV X.Γ} {tx:TV} (hx:VR X P A m h x tx) {i:Nat} {v:PV X.Γ} (hl:Ns X P t x i=some v):∃ w,zJ P t tx i=some w∧VR X P A m h v w:=by
 unfold Ns at hl;split at hl
 ·rename_i fs cs hu;split at hl
  ·rename_i f hf;cases hx with
   | agg h1 h2=>
    obtain⟨w,g1,g2⟩:=rF ⟨h1,h2⟩ hl;exact⟨w,by simp only[zJ,hu,hf,g1],g2⟩
   | gone hi _ _=>simp[aG] at hi
  cases hl
 cases hl
theorem DF {t:TypeId} {x i:PV X.Γ} {tx ti:TV} (hx:VR X P A m h x tx) (hi:VR X P A m h i ti) {v:PV X.Γ} (hl:Nu X P t x i=some v):∃ w,wP P t tx ti=some w∧VR X P A m h v w:=by
 unfold Nu at hl;split at hl
 ·rename_i len e cs hu;split at hl
  ·rename_i n j hn hj;have:idx len ti=some j:=by
    cases i<;>simp only[Rj] at hj<;>try (cases hj;done)
    cases hi with
    | int=>exact hj
    | gone e _ _=>simp[aG] at e
   cases hx with
   | agg h1 h2=>
    obtain⟨w,g1,g2⟩:=rF ⟨h1,h2⟩ hl;exact⟨w,by simp only[wP,hu,hn,this,g1],g2⟩
   | gone hi _ _=>simp[aG] at hi
  cases hl
 cases hl
end
open Go Tw
section
variable {X:iR} {P:Program} {A F:Nat->Prop} {m m':List MB} {h h':List HB} {H H':List (PB X.Γ)}
theorem yU:∀ {is:List Nat} {H:List (PB X.Γ)} {i:Nat} {pb:PB X.Γ},(aI is H)[i]? = some pb->(i∈is∧pb=.gone)∨(i∉is∧H[i]? = some pb)
 | [],_,_,_,h=>.inr ⟨by simp,h⟩
 | j::is,H,i,pb,h=>by
  rcases yU (is:=is) (H:=Kq j H) h with⟨h1,h2⟩ | ⟨h1,h2⟩
  ·exact .inl ⟨List.mem_cons_of_mem _ h1,h2⟩
  unfold Kq at h2;by_cases e:j=i
  ·subst e;rw[List.getElem?_set_self'] at h2;cases hx:H[j]? with
   | none=>rw[hx] at h2;cases h2
   | some y=>rw[hx] at h2;cases h2;exact .inl ⟨List.mem_cons_self,rfl⟩
  rw[List.getElem?_set_ne e] at h2;exact .inr ⟨by simp[h1,Ne.symm e],h2⟩
theorem gW (hr:HR X P A m H h) (is:List Nat) {k ex x:Bool} {e size:Nat} {rows:List (X.Γ e)} {cs:List TV} (hw:aX X P (FA A m is) (aP is m) h e rows cs 0 size) (hc:cs.length=rows.length*size) (hn:rows≠[]) (hz:aZ P e=some size) (h0:0<size) (hx:ex=true->x=true) :
  ∃ m1,HR X P A m1 (aI is H++[.list k ex e rows]) (h++[.cells .own cs])∧Fr m h m1 (h++[.cells .own cs])∧Up m m1∧VR X P (AA A m1) m1 (h++[.cells .own cs]) (.own H.length) (.slc h.length 0 rows.length rows.length size x):=by
 have UK:=hr.aI is;have FN:=eU (h:=h) is m;have jc:(MB.bK (.slc h.length 0 rows.length rows.length size x)).own=some h.length:=by simp only[MB.own];rw[if_neg (by simpa using hn)]
 have hF:Fr (aP is m) h (aP is m++[.bK (.slc h.length 0 rows.length rows.length size x)]) (h++[.cells .own cs]):=by
  refine⟨by simp,fun b hb _=>by rw[List.getElem?_append_left hb],fun b hb=>?_,fun b cs hc=>⟨cs,by rw[cu (List.getElem?_append_left (bU hc)),hc],Nat.le_refl _⟩⟩;rw[dK,List.mem_append,fH,jc] at hb;rcases hb with hb | hb
  ·exact .inl hb
  ·simp at hb;exact .inr (by omega)
 obtain⟨h1,h2,h3⟩:=UK.push (pb:=.list k ex e rows) (hb:=.cells .own cs) (.inl jc)
  (LR.some (kk:=.own) hn hz h0 (by simp) (by simp) (fun _=>rfl) hx hc ((hw.mono fun b hb=>hb.gone hr).step hF (nC _)))
 refine⟨_,h1,FN.1.trans h2,FN.2.trans h3,.own ?_ rfl⟩;rw[<-hr.len,<-fV is m];simp
theorem Ho (hr:HR X P A m H h) (is:List Nat) {k ex:Bool} {e:Nat} {y:TV} (hy:(MB.bK y).own=none) (ho:bW y=true) (hl:LR X P (AA A (aP is m++[.bK y])) (aP is m++[.bK y]) h k ex e [] y) :
  ∃ m1,HR X P A m1 (aI is H++[.list k ex e []]) h∧Fr m h m1 h∧Up m m1∧VR X P (AA A m1) m1 h (.own H.length) y:=by
 have FN:=eU (h:=h) is m;obtain⟨h1,h2,h3⟩:=(hr.aI is).a0C (pb:=.list k ex e []) hy hl;refine⟨_,h1,FN.1.trans h2,FN.2.trans h3,.own ?_ ho⟩;rw[<-hr.len,<-fV is m];simp
theorem XK (hr:HR X P A m H h) {is:List Nat} {y:TV} (hy:(MB.bK y).own=none) {b:Nat} (hb:FA A m is b):AA A (aP is m++[.bK y]) b:=by
 have:=hb.gone hr;refine⟨this.1,fun hm=>this.2 ?_⟩;rw[dK,List.mem_append,fH,hy] at hm;simpa using hm
theorem push_empty (hr:HR X P A m H h) (is:List Nat) {k ex:Bool} {e size b off:Nat} {cs:List TV} (hz:aZ P e=some size) (h0:0<size) (ha:FA A m is b) (hb:aB h b=some cs) (ho:off<=cs.length) :
  ∃ m1,HR X P A m1 (aI is H++[.list k ex e []]) h∧Fr m h m1 h∧Up m m1∧VR X P (AA A m1) m1 h (.own H.length) (.slc b off 0 0 size true):=
 Ho hr is rfl rfl (LR.emp (XK hr rfl ha) hb ho hz h0)
theorem EG (hr:HR X P A m H h) (is:List Nat) {k ex:Bool} {e:Nat} :
  ∃ m1,HR X P A m1 (aI is H++[.list k ex e []]) h∧Fr m h m1 h∧Up m m1∧VR X P (AA A m1) m1 h (.own H.length) (.nil .slc):=
 Ho hr is rfl rfl .nil
theorem xH (hr:HR X P A m H h) {b c:Nat} (is:List Nat) {mb BP:MB} {pb:PB X.Γ} {h1:List HB} (hb:m[b]? = some mb) (ho:mb.own=some c) (ho':BP.own=some c) (hlen:h1.length=h.length) (hs:∀ d,d≠c->h1[d]? = h[d]?)
  (hg:∀ cs,aB h c=some cs->∃ cs',aB h1 c=some cs'∧cs.length<=cs'.length)
  (rO:Fr m h (aP (b::is) m++[BP]) h1->Up m (aP (b::is) m++[BP])->BR X P (AA A (aP (b::is) m++[BP])) (aP (b::is) m++[BP]) h1 pb BP) :
  ∃ m1,m1=aP (b::is) m++[BP]∧HR X P A m1 (aI (b::is) H++[pb]) h1∧Fr m h m1 h1∧Up m m1∧m1[H.length]? = some BP:=by
 have FN:=eU (h:=h) (b::is) m;have UK:=hr.aI (b::is);have hnc:c∉aK (aP (b::is) m):=fun hm=>by
  obtain⟨j,mbj,g1,g2,g3⟩:=nG hm;have:=dI hr.nodup hb g2 ho g3;exact g1 (by rw[<-this];exact List.mem_cons_self)
 have mD:∀ d,d∈aK (aP (b::is) m++[BP])↔d∈aK (aP (b::is) m)∨d=c:=by
  intro d;rw[dK,List.mem_append,fH,ho'];simp
 have SH:c∈aK m:=aC hb ho;have hF:Fr m h (aP (b::is) m++[BP]) h1:=by
  refine⟨by omega,fun d hd hn=>hs d fun e=>hn (e▸SH),fun d hd=>?_,fun d cs hc=>?_⟩
  ·rcases (mD d).1 hd with hd | rfl
   ·exact FN.1.new d hd
   ·exact .inl SH
  ·by_cases e:d=c
   ·subst e;exact hg cs hc
   ·exact⟨cs,by rw[cu (hs d e),hc],Nat.le_refl _⟩
 have hU:Up m (aP (b::is) m++[BP]):=FN.2.trans (nC _);refine⟨_,rfl,?_,hF,hU,?_⟩
 ·refine hr.next hF hU (by simp[fV,tY,hr.len]) ?_ fun i pbi hi=>?_
  ·rw[dK,fH,ho'];refine List.nodup_append.2 ⟨UK.nodup,by simp,fun a ha b' vZ e=>?_⟩;simp at vZ;subst vZ;subst e;exact hnc ha
  ·rcases Nat.lt_or_ge i (aI (b::is) H).length with aN | zF
   ·rw[List.getElem?_append_left aN] at hi;have a5u:i<(aP (b::is) m).length:=by rw[UK.len];exact aN
    rcases yU hi with⟨e1,rfl⟩ | ⟨e1,e2⟩
    ·obtain⟨mbi,g1,g2⟩:=UK.at_ i _ hi;cases mbi with
     | gone=>exact .inr ⟨.gone,by rw[List.getElem?_append_left a5u];exact g1,trivial⟩
     | _=>exact g2.elim
    ·obtain⟨mbi,g1,_⟩:=hr.at_ i _ e2;left;have hm:=tZ (b::is) g1;rw[show (b::is).contains i=false by simpa using e1] at hm;refine⟨mbi,e2,g1,by rw[List.getElem?_append_left a5u];simpa using hm,fun d hd=>hs d fun e=>?_⟩;subst e;have:=dI hr.nodup hb g1 ho hd;exact e1 (by rw[<-this];exact List.mem_cons_self)
   ·rw[List.getElem?_append_right zF] at hi;have:i-(aI (b::is) H).length=0:=by
     rcases Nat.eq_zero_or_pos (i-(aI (b::is) H).length) with h | h
     ·exact h
     ·rw[List.getElem?_eq_none (by simp;omega)] at hi;cases hi
    rw[this] at hi;simp only[List.getElem?_cons_zero,Option.some.injEq] at hi;subst hi;exact .inr ⟨BP,by rw[List.getElem?_append_right (by rw[UK.len];exact zF),UK.len,this];rfl,rO hF hU⟩
 ·have:H.length=(aP (b::is) m).length:=by rw[fV,hr.len]
  rw[this];simp
end
open Go Tw
section
variable {X:iR} {P:Program} {A F:Nat->Prop} {m m':List MB} {h h':List HB} {H H':List (PB X.Γ)}
def G5 (X:iR) (P:Program) (A:Nat->Prop) (m:List MB) (ts:St) (r:Option (TV×St×gy)) (v:PV X.Γ) (H1:List (PB X.Γ)) (pi:PI):Prop:=
 ∃ w h1 ti m1,r=some (w,{ ts with heap:=h1 },ti)∧HR X P A m1 H1 h1∧VR X P (AA A m1) m1 h1 v w∧Fr m ts.heap m1 h1∧Up m m1∧IR m ts.heap pi ti∧∀ b,.h b∈ti.ws->b∈aK m
theorem dQ {e:TypeId} {n k:Nat} (hb:jK P e n=true) (hk:k<=n):jK P e k=true:=by
 unfold jK at hb ⊢;split at hb
 ·rename_i i hi;simp only[Bool.and_eq_true,decide_eq_true_eq] at hb ⊢;obtain⟨⟨⟨⟨h1,h2⟩,h3⟩,h4⟩,h5⟩:=hb;have:=Nat.mul_le_mul_right i.bytes hk;exact⟨⟨⟨⟨by omega,by omega⟩,h3⟩,h4⟩,h5⟩
 cases hb
theorem fJ {t e:TypeId} {n:Nat} (hs:dM P t=some (e,n)):aZ P e=some n∧0<n:=by
 unfold dM at hs;split at hs
 ·split at hs
  ·rename_i k hk;split at hs
   ·cases hs
   rename_i h0;simp only[Option.some.injEq,Prod.mk.injEq] at hs;obtain⟨rfl,rfl⟩:=hs;exact⟨hk,by omega⟩
  cases hs
 cases hs
theorem jd (hr:HR X P A m H h) {e sz:Nat} {x:PV X.Γ} {tx:TV} (hv:VR X P (AA A m) m h x tx) (hz:aZ P e=some sz) {rows:List (X.Γ e)} {is:List Nat} (hs:oZ X H e sz x=some (rows,is)) {b:Nat} (hb:.h b∈aF tx):((∃ i,.h i∈pq X x∧xJ m i b)∨b∉aK m)∧b<h.length:=by
 have lr:∀ {i:Nat} {k ex:Bool} {t:Nat} {l:List (X.Γ t)} {c off len cap s:Nat} {e':Bool},H[i]? = some (.list k ex t l)->m[i]? = some (.bK (.slc c off len cap s e'))->(xJ m i c∨c∉aK m)∧c<h.length:=by
  intro i k ex t l c off len cap s e' hH hm;obtain⟨mb,g1,g2⟩:=hr.at_ i _ hH;rw[hm] at g1;cases g1;cases (g2:LR X P _ _ _ _ _ _ _ _) with
  | emp h0 h1=>exact⟨.inr h0.2,bU h1⟩
  | some q1 q2 q3 q4=>exact⟨.inl (dw hm (by simp only[MB.own];rw[if_neg (by simpa using q1)])),(List.getElem?_eq_some_iff.1 q4).1⟩
 cases x with
 | nil k=>
  cases hv with
  | nil=>simp[aF] at hb
  | gone hi _ _=>simp[aG] at hi
 | bK t l fu=>
  cases hv with
  | jZ=>simp[aF] at hb
  | bK a ac=>simp[aF] at hb;subst hb;exact⟨.inr a.2,bU ac⟩
  | gone hi _ _=>simp[aG] at hi
 | own i=>
  simp only[oZ] at hs;split at hs
  ·rename_i k ex t l hH;cases hv with
   | own e' o=>
    cases tx<;>simp[aF] at hb
    subst hb;obtain⟨h1,h2⟩:=lr hH e';rcases h1 with h1 | h1
    ·exact⟨.inl ⟨i,by simp[pq],h1⟩,h2⟩
    exact⟨.inr h1,h2⟩
   | gone hi e' _=>
    simp only[aG,Option.some.injEq] at hi;subst hi;obtain⟨mb,g1,g2⟩:=hr.at_ i _ hH;rw[g1] at e';cases e'<;>exact g2.elim
  cases hs
 | win i o n=>
  simp only[oZ] at hs;split at hs
  ·rename_i k ex t l hH;cases hv with
   | win e' q q'=>
    simp[aF] at hb;subst hb;obtain⟨h1,h2⟩:=lr hH e';rcases h1 with h1 | h1
    ·exact⟨.inl ⟨i,by simp[pq],h1⟩,h2⟩
    exact⟨.inr h1,h2⟩
   | ql=>simp[aF] at hb
   | gone hi e' _=>
    simp only[aG,Option.some.injEq] at hi;subst hi;obtain⟨mb,g1,g2⟩:=hr.at_ i _ hH;rw[g1] at e';cases e'<;>exact g2.elim
  cases hs
 | slc c off len cap s ex=>
  simp only[oZ] at hs;split at hs
  ·rename_i cs hH;cases hv with
   | slc e'=>
    simp[aF] at hb;subst hb;obtain⟨mb,g1,g2⟩:=hr.at_ c _ hH;rw[e'] at g1;cases g1;exact⟨.inl ⟨c,by simp[pq],dw e' rfl⟩,g2.has rfl⟩
   | gone hi e' _=>
    simp only[aG,Option.some.injEq] at hi;subst hi;obtain⟨mb,g1,g2⟩:=hr.at_ c _ hH;rw[g1] at e';cases e'<;>exact g2.elim
  cases hs
 | _=>simp[oZ] at hs
theorem IR.reads {p:PI} {ks:List Key} (hp:p.hp=true) (hk:∀ b,.h b∈ks->((∃ i,.h i∈p.i.ts∧xJ m i b)∨b∉aK m)∧b<h.length) (hl:∀ k,.l k∉ks):IR m h p (bY ks):=
 ⟨fun h=>(by cases h),fun k h=>absurd h (hl k),fun k h=>(by cases h),fun b h=>(by cases h),hk,fun h=>(by rw[hp] at h;cases h)⟩
theorem fE {tx:TV} {k:Nat}:Key.l k∉aF tx:=by cases tx<;>simp[aF]
theorem zU (hX:aU X P) {ps:aW X.Γ} {ts:St} (hR:nS X P A m ps ts) {at_:Array TypeId} {d x:PV X.Γ} {td tx:TV} (hd:VR X P (AA A m) m ts.heap d td) (hx:VR X P (AA A m) m ts.heap x tx) {v:PV X.Γ} {H1:List (PB X.Γ)} {pi:gy} {qs:List Prop}
  (hl:IQ X P at_ ps.heap d x=some (v,H1,pi,qs)) (hq:∀ q∈qs,q):G5 X P A m ts (bQ P at_ ts td tx) v H1 ⟨pi,false,false,true⟩:=by
 have hr:=hR.heap;unfold IQ at hl;split at hl
 ·rename_i st xt jT sJ;split at hl
  ·cases hl
  ·rename_i hint;split at hl
   ·rename_i e size lT;split at hl
    ·rename_i su;obtain⟨hz,h0⟩:=fJ lT;split at hl
     ·rename_i rows is hs;obtain⟨new,s1,s2,s3⟩:=yT (m':=aP is m) hX hr hx hz hs;have hk0:IR m ts.heap ⟨bY (pq X x),false,false,true⟩ (bY (aF tx)):=IR.reads rfl (fun b hb=>jd hr hx hz hs hb) fun k=>fE;have KD:rows.length=0↔rows=[]:=List.length_eq_zero_iff;split at hl
      ·-- nil
       simp only[Option.some.injEq,Prod.mk.injEq] at hl;obtain⟨rfl,rfl,rfl,rfl⟩:=hl;have lS:rows.length<=aO:=hq _ List.mem_cons_self;have:td=.nil .slc:=by
        cases hd with
        | nil=>rfl
        | gone hi _ _=>simp[aG] at hi
       subst this;by_cases hn:rows=[]
       ·subst hn;obtain⟨m1,g1,g2,g3,g4⟩:=EG hr is (k:=true) (ex:=false) (e:=e);exact⟨_,ts.heap,_,m1,by unfold bQ;simp only[jT,sJ,hint,if_false,lT,s1,List.length_nil,if_true,Bool.false_eq_true],g1,g4,g2,g3,hk0,fun b hb=>by simp[bY] at hb⟩
       ·obtain⟨m1,g1,g2,g3,g4⟩:=gW hr is (k:=true) (ex:=false) (x:=false) s3 s2 hn hz h0 (by simp);refine⟨_,ts.heap++[.cells .own new],_,m1,?_,g1,g4,g2,g3,hk0,fun b hb=>by simp[bY] at hb⟩;unfold bQ;simp only[jT,sJ,hint,if_false,lT,s1,Bool.false_eq_true,KD,hn,s2,if_true,dQ su lS]
      ·-- an own list
       rename_i b;split at hl
       ·rename_i k ex t' l hb;split at hl
        ·cases hl
        rename_i LC;split at hl
        ·rename_i l2 uf;obtain⟨rfl,rfl⟩:=jm uf;simp only[Option.some.injEq,Prod.mk.injEq] at hl;obtain⟨rfl,rfl,rfl,rfl⟩:=hl;have lS:l2.length+rows.length<=aO:=hq _ List.mem_cons_self;obtain⟨mb,g1,g2⟩:=hr.at_ b _ hb;have Lr:∀ {c:Nat},xJ m b c∨c∉aK m->c<ts.heap.length->IR m ts.heap ⟨⟨false,.h b::pq X x,[.h b]⟩,false,false,true⟩ (bY (.h c::aF tx)):=fun {c} hc aN=>IR.reads rfl (fun d hd=>by
          rcases List.mem_cons.1 hd with e0 | e0
          ·cases e0;rcases hc with hc | hc
           ·exact⟨.inl ⟨b,List.mem_cons_self,hc⟩,aN⟩
           ·exact⟨.inr hc,aN⟩
          ·obtain⟨h0,h9⟩:=jd hr hx hz hs e0;rcases h0 with⟨i,h1,h2⟩ | h1
           ·exact⟨.inl ⟨i,List.mem_cons_of_mem _ h1,h2⟩,h9⟩
           ·exact⟨.inr h1,h9⟩) fun j hj=>by
            rcases List.mem_cons.1 hj with e0 | e0
            ·cases e0
            ·exact fE e0
         have Cb:IR m ts.heap ⟨⟨false,.h b::pq X x,[.h b]⟩,false,false,true⟩ (bY (aF tx)):=IR.reads rfl (fun d hd=>by
          obtain⟨h0,h9⟩:=jd hr hx hz hs hd;rcases h0 with⟨i,h1,h2⟩ | h1
          ·exact⟨.inl ⟨i,List.mem_cons_of_mem _ h1,h2⟩,h9⟩
          ·exact⟨.inr h1,h9⟩) fun j hj=>fE hj
         cases mb with
         | bK z=>
          cases hd with
          | gone hi e' _=>simp only[aG,Option.some.injEq] at hi;subst hi;rw[g1] at e';cases e'
          | own e' o=>
           rw[g1] at e';cases e';have hlr:LR X P (AA A m) m ts.heap k ex t' l2 td:=g2;have zG:aX X P (FA A m (b::is)) (aP (b::is) m) ts.heap t' rows new 0 size:=(s3.mono fun c hc=>FA.mono (fun i hi=>List.mem_cons_of_mem _ hi) hc).dW hX;cases hlr with
           | nil=>
            simp only[List.nil_append];by_cases hn:rows=[]
            ·subst hn;obtain⟨m1,f1,f2,f3,f4⟩:=EG hr (b::is) (k:=k&&ex) (ex:=false) (e:=t');exact⟨_,ts.heap,_,m1,by unfold bQ;simp only[jT,sJ,hint,if_false,lT,s1,List.length_nil,if_true,Bool.false_eq_true],f1,f4,f2,f3,Cb,fun c hc=>by simp[bY] at hc⟩
            ·obtain⟨m1,f1,f2,f3,f4⟩:=gW hr (b::is) (k:=k&&ex) (ex:=false) (x:=false) zG s2 hn hz h0 (by simp);refine⟨_,ts.heap++[.cells .own new],_,m1,?_,f1,f4,f2,f3,Cb,fun c hc=>by simp[bY] at hc⟩;unfold bQ;simp only[jT,sJ,hint,if_false,lT,s1,Bool.false_eq_true,KD,hn,s2,if_true,dQ su (show rows.length<=aO by omega)]
           | emp p0 p1 p2 p3 p4=>
            rename_i c off sz cs;rw[hz] at p3;cases p3;simp only[List.nil_append];by_cases hn:rows=[]
            ·subst hn;obtain⟨m1,f1,f2,f3,f4⟩:=push_empty hr (b::is) (k:=k&&ex) (ex:=false) hz h0 (.inl p0) p1 p2;exact⟨_,ts.heap,_,m1,by unfold bQ;simp only[jT,sJ,hint,if_false,lT,s1,List.length_nil,if_true,Bool.false_eq_true],f1,f4,f2,f3,Cb,fun c hc=>by simp[bY] at hc⟩
            ·obtain⟨m1,f1,f2,f3,f4⟩:=gW hr (b::is) (k:=k&&ex) (ex:=false) (x:=false) zG s2 hn hz h0 (by simp);refine⟨_,ts.heap++[.cells .own new],_,m1,?_,f1,f4,f2,f3,Lr (c:=c) (.inr p0.2) (bU p1),fun c hc=>by simp[bY] at hc⟩;have ji:aS size ts.heap (.slc c off 0 0 size true)=some (0,[]):=(by simp[aS]);unfold bQ;simp only[jT,sJ,hint,if_false,lT,s1,Bool.false_eq_true,KD,hn,s2,if_true,Nat.zero_add,Nat.le_zero_eq,dQ su (show rows.length<=aO by omega),ji,Option.map_some,List.nil_append]
           | some p1 p2 p3 p4 p5 p6 p7 p8 p9=>
            rename_i c sz xx kk cs;rw[hz] at p2;cases p2;have jc:(MB.bK (TV.slc c 0 l2.length l2.length size xx)).own=some c:=by simp only[MB.own];rw[if_neg (by simpa using p1)]
            by_cases hn:rows=[]
            ·subst hn;simp only[List.append_nil];obtain⟨m1,f0,f1,f2,f3,f4⟩:=xH (pb:=.list (k&&ex) false t' l2) hr is g1 jc jc rfl (fun _ _=>rfl) (fun cs hc=>⟨cs,hc,Nat.le_refl _⟩) (fun hF hU=>LR.some p1 hz p3 p4 p5 (fun hk=>p6 (by simp at hk;exact hk.1)) (by simp) p8 (p9.step hF hU));exact⟨_,ts.heap,_,m1,by unfold bQ;simp only[jT,sJ,hint,if_false,lT,s1,List.length_nil,if_true,Bool.false_eq_true],f1,.own f4 rfl,f2,f3,Cb,fun c hc=>by simp[bY] at hc⟩
            ·have hle:¬l2.length+rows.length<=l2.length:=by
              have:rows.length≠0:=fun e0=>hn (KD.1 e0);omega
             have dZ:l2++rows≠[]:=(by simp[p1]);cases xx with
             | true=>
              have hold:aS size ts.heap (.slc c 0 l2.length l2.length size true)=some (l2.length,cs):=by
               simp only[aS,if_true];rw[if_neg (fun e0=>p1 (List.length_eq_zero_iff.1 e0)),ny p4 (by omega)];simp only[sub];rw[if_pos (by omega),List.drop_zero,List.take_of_length_le (by omega)];rfl
              have hw1:aX X P (FA A m (b::is)) (aP (b::is) m) ts.heap t' l2 cs 0 size:=(p9.mono fun c hc=>.inl hc).dW hX;obtain⟨m1,f1,f2,f3,f4⟩:=gW hr (b::is) (k:=k&&ex) (ex:=false) (x:=false) (hw1.app zG p8) (by rw[List.length_append,List.length_append,Nat.add_mul,p8,s2]) dZ hz h0 (by simp);refine⟨_,ts.heap++[.cells .own (cs++new)],_,m1,?_,f1,f4,f2,f3,Lr (c:=c) (.inl (dw g1 jc)) (List.getElem?_eq_some_iff.1 p4).1,fun c hc=>by simp[bY] at hc⟩;unfold bQ;simp only[jT,sJ,hint,if_false,lT,s1,Bool.false_eq_true,KD,hn,s2,if_true,hle,dQ su lS,hold,Option.map_some,List.length_append]
             | false=>
              have hex:ex=false:=by cases ex with
               | true=>exact absurd (p7 rfl) (by simp)
               | false=>rfl
              subst hex;have aN:=(List.getElem?_eq_some_iff.1 p4).1;obtain⟨m1,f0,f1,f2,f3,f4⟩:=xH (pb:=.list (k&&false) false t' (l2++rows)) (h1:=ts.heap.set c (.cells kk.more (cs++new))) (BP:=.bK (.slc c 0 (l2.length+rows.length) (l2.length+rows.length) size false)) hr is g1 jc
               (by simp only[MB.own];rw[if_neg (by omega)]) (by simp) (fun d hd=>List.getElem?_set_ne (Ne.symm hd)) (fun X5 Gs=>⟨cs++new,by simp[aB,aN],by
                simp only[aB,p4,Option.some.injEq] at Gs;subst Gs;simp⟩) (fun hF hU=>by
                have FN:=eU (h:=ts.heap) (b::is) m;have DJ:∀ q cs',FA A m is q->aB ts.heap q=some cs'->AA A (aP (b::is) m++[.bK (.slc c 0 (l2.length+rows.length) (l2.length+rows.length) size false)]) q∧(ts.heap.set c (.cells kk.more (cs++new)))[q]? = ts.heap[q]?:=fun q cs' hq hc=>by
                 have Qx:q≠c:=fun e0=>by
                  subst e0;rcases hq with hq | ⟨i,mb,e1,e2,e3⟩
                  ·exact hq.2 (aC g1 jc)
                  ·have:=dI hr.nodup g1 e2 jc e3;subst this;exact LC (by simpa using e1)
                 have hg:=FA.gone hr (FA.mono (js:=b::is) (fun i hi=>List.mem_cons_of_mem _ hi) hq);refine⟨⟨hg.1,fun hm=>?_⟩,List.getElem?_set_ne (Ne.symm Qx)⟩;rw[dK,List.mem_append,fH] at hm;rcases hm with hm | hm
                 ·exact hg.2 hm
                 ·simp only[MB.own] at hm;rw[if_neg (by omega)] at hm;simp at hm;exact Qx hm
                have:=LR.some (X:=X) (P:=P) (A:=AA A (aP (b::is) m++[.bK (.slc c 0 (l2.length+rows.length) (l2.length+rows.length) size false)])) (m:=aP (b::is) m++[.bK (.slc c 0 (l2.length+rows.length) (l2.length+rows.length) size false)]) (h:=ts.heap.set c (.cells kk.more (cs++new))) (k:=k&&false) (ex:=false) (t:=t') (l:=l2++rows) (b:=c) (sz:=size) (e:=false) (kk:=kk.more) (cs:=cs++new)
                 dZ hz h0 (by simp[aN]) (by cases kk<;>simp[BK.more]) (by simp) (by simp) (by rw[List.length_append,List.length_append,Nat.add_mul,p8,s2]) ((p9.step hF hU).app (s3.move hX DJ) p8)
                rw[List.length_append] at this;exact this)
              refine⟨_,ts.heap.set c (.cells kk.more (cs++new)),⟨false,.h c::aF tx,[.h c]⟩,m1,?_,f1,.own f4 rfl,f2,f3,⟨fun h=>(by cases h),fun j hj=>?_,fun j hj=>(by simp at hj),fun d hd=>?_,fun d hd=>?_,fun h=>(by cases h)⟩,fun d hd=>?_⟩
              ·unfold bQ;simp only[jT,sJ,hint,if_false,lT,s1,Bool.false_eq_true,KD,hn,s2,if_true,hle,dQ su lS,p4,ne_eq,not_true_eq_false,p5,p8,List.length_eq_zero_iff,p1,or_self]
              ·rcases List.mem_cons.1 hj with e0 | e0
               ·cases e0
               ·exact absurd e0 fE
              ·simp at hd;subst hd;exact .inl ⟨b,by simp,dw g1 jc⟩
              ·rcases List.mem_cons.1 hd with e0 | e0
               ·cases e0;exact⟨.inl ⟨b,List.mem_cons_self,dw g1 jc⟩,aN⟩
               ·obtain⟨h0,h9⟩:=jd hr hx hz hs e0;rcases h0 with⟨i,h1,h2⟩ | h1
                ·exact⟨.inl ⟨i,List.mem_cons_of_mem _ h1,h2⟩,h9⟩
                ·exact⟨.inr h1,h9⟩
              ·simp at hd;subst hd;exact aC g1 jc
         | _=>exact g2.elim
        ·cases hl
       ·cases hl
      ·-- a full frozen list
       rename_i t' l;split at hl
       ·rename_i l2 uf;obtain⟨rfl,rfl⟩:=jm uf;simp only[Option.some.injEq,Prod.mk.injEq] at hl;obtain⟨rfl,rfl,rfl,rfl⟩:=hl;have lS:l2.length+rows.length<=aO:=hq _ List.mem_cons_self;have FM:l2=[]∨rows≠[]:=hq _ (List.mem_cons_of_mem _ List.mem_cons_self);cases hd with
        | gone hi _ _=>simp[aG] at hi
        | jZ=>
         simp only[List.nil_append];by_cases hn:rows=[]
         ·subst hn;obtain⟨m1,f1,f2,f3,f4⟩:=EG hr is (k:=true) (ex:=false) (e:=t');exact⟨_,ts.heap,_,m1,by unfold bQ;simp only[jT,sJ,hint,if_false,lT,s1,List.length_nil,if_true,Bool.false_eq_true],f1,f4,f2,f3,hk0,fun c hc=>by simp[bY] at hc⟩
         ·obtain⟨m1,f1,f2,f3,f4⟩:=gW hr is (k:=true) (ex:=false) (x:=false) s3 s2 hn hz h0 (by simp);refine⟨_,ts.heap++[.cells .own new],_,m1,?_,f1,f4,f2,f3,hk0,fun c hc=>by simp[bY] at hc⟩;unfold bQ;simp only[jT,sJ,hint,if_false,lT,s1,Bool.false_eq_true,KD,hn,s2,if_true,dQ su (show rows.length<=aO by omega)]
        | bK p1 p2 p2' p3 p4 p5 p6 p7 p8 p9=>
         rename_i c off cap sz xx cs;rw[hz] at p3;cases p3;obtain⟨rfl,rfl⟩:=p7 rfl;have hk3:IR m ts.heap ⟨bY (pq X x),false,false,true⟩ (bY (.h c::aF tx)):=IR.reads rfl (fun d hd=>by
          rcases List.mem_cons.1 hd with e0 | e0
          ·cases e0;exact⟨.inr p1.2,bU p2⟩
          ·exact jd hr hx hz hs e0) fun j hj=>by
           rcases List.mem_cons.1 hj with e0 | e0
           ·cases e0
           ·exact fE e0
         by_cases hn:rows=[]
         ·have kF:l2=[]:=by rcases FM with h1 | h1;exact h1;exact absurd hn h1
          subst hn;subst kF;obtain⟨m1,f1,f2,f3,f4⟩:=push_empty hr is (k:=true) (ex:=false) hz h0 (.inl p1) p2 (by simpa using p5);exact⟨_,ts.heap,_,m1,by unfold bQ;simp only[jT,sJ,hint,if_false,lT,s1,List.length_nil,if_true,Bool.false_eq_true],f1,f4,f2,f3,hk0,fun c hc=>by simp[bY] at hc⟩
         ·have hle:¬l2.length+rows.length<=l2.length:=by
           have:rows.length≠0:=fun e0=>hn (KD.1 e0);omega
          have hw1:aX X P (FA A m is) (aP is m) ts.heap t' l2 ((cs.drop off).take (l2.length*size)) 0 size:=by
           have hh:aX X P (AA A m) m ts.heap t' l2 cs off size:=⟨p8,p5,p9⟩;exact (hh.take.mono fun c hc=>.inl hc).dW hX
          have hlen:((cs.drop off).take (l2.length*size)).length=l2.length*size:=by rw[List.length_take,List.length_drop];omega
          obtain⟨m1,f1,f2,f3,f4⟩:=gW hr is (k:=true) (ex:=false) (x:=false) (hw1.app s3 hlen) (by rw[List.length_append,List.length_append,Nat.add_mul,hlen,s2]) (by simp[hn]) hz h0 (by simp);refine⟨_,ts.heap++[.cells .own ((cs.drop off).take (l2.length*size)++new)],_,m1,?_,f1,f4,f2,f3,hk3,fun c hc=>by simp[bY] at hc⟩;have ji:aS size ts.heap (.slc c off l2.length l2.length size true)=some (l2.length,(cs.drop off).take (l2.length*size)):=by
           simp only[aS,if_true,sub];by_cases kF:l2.length=0
           ·rw[if_pos kF,kF,Nat.zero_mul,List.take_zero]
           ·rw[if_neg kF,p2' (fun e0=>kF (by rw[e0];rfl))];simp only;rw[if_pos p5];rfl
          unfold bQ;simp only[jT,sJ,hint,if_false,lT,s1,Bool.false_eq_true,KD,hn,s2,if_true,hle,dQ su lS,ji,Option.map_some,List.length_append]
       ·cases hl
      ·cases hl
     ·cases hl
    ·cases hl
   ·cases hl
 ·cases hl
end
open Go Tw
theorem Bg {α:Type} {l rows:List α} {o k:Nat} (h:o+k<=l.length) (hk:k<=rows.length):(yJ l o k rows).length=l.length:=by
 unfold yJ;simp;omega
theorem Ru {α:Type} {l rows:List α} {o:Nat}:yJ l o 0 rows=l:=by unfold yJ;simp
section
variable {X:iR} {P:Program} {A F:Nat->Prop} {m m':List MB} {h h':List HB} {H H':List (PB X.Γ)}
theorem aX.put {t sz o k:Nat} {l rows:List (X.Γ t)} {cs new:List TV} (h1:aX X P F m h t l cs 0 sz) (h2:aX X P F m h t rows new 0 sz) (hc:cs.length=l.length*sz) (hn:new.length=rows.length*sz) (ho:o+k<=l.length) (hk:k<=rows.length) :
  aX X P F m h t (yJ l o k rows) (cs.take (o*sz)++new.take (k*sz)++cs.drop (o*sz+k*sz)) 0 sz:=by
 have a1:=(h1.part (o:=0) (n:=o) (by omega)).take;have a2:=(h2.part (o:=0) (n:=k) (by omega)).take;have a3:=(h1.part (o:=o+k) (n:=l.length-(o+k)) (by omega)).take;have l1:((l.drop 0).take o).length=o:=by simp;omega
 have l2:((rows.drop 0).take k).length=k:=by simp;omega
 have l3:((l.drop (o+k)).take (l.length-(o+k))).length=l.length-(o+k):=by simp
 rw[l1] at a1;rw[l2] at a2;rw[l3] at a3;simp only[Nat.zero_mul,Nat.add_zero,Nat.zero_add,List.drop_zero] at a1 a2 a3;have m1:o*sz<=cs.length:=by rw[hc];exact Nat.mul_le_mul_right _ (by omega)
 have m2:k*sz<=new.length:=by rw[hn];exact Nat.mul_le_mul_right _ hk
 have r:=(a1.app a2 (by rw[List.length_take,List.length_take];rw[Nat.min_eq_left m1,Nat.min_eq_left (by omega)])).app a3 (by
  simp only[List.length_append,List.length_take];rw[Nat.min_eq_left m1,Nat.min_eq_left m2,Nat.min_eq_left (by omega),Nat.min_eq_left hk,Nat.add_mul])
 have e1:l.drop (o+k)=(l.drop (o+k)).take (l.length-(o+k)):=by rw[List.take_of_length_le (by simp)]
 have e2:cs.drop (o*sz+k*sz)=(cs.drop ((o+k)*sz)).take ((l.length-(o+k))*sz):=by
  rw[Nat.add_mul,List.take_of_length_le];rw[List.length_drop,hc,Nat.sub_mul,Nat.add_mul];omega
 unfold yJ;rw[e1,e2];exact r
theorem vG (hX:aU X P) {ps:aW X.Γ} {ts:St} (hR:nS X P A m ps ts) {at_:Array TypeId} {st e size b o n:Nat} {k0 ex:Bool} {l rows:List (X.Γ e)} {x:PV X.Γ} {td tx:TV} (jT:at_[0]? = some st) (lT:dM P st=some (e,size)) (hx:VR X P (AA A m) m ts.heap x tx)
  (hs:oZ X ps.heap e size x=some (rows,[])) (hb:ps.heap[b]? = some (.list k0 ex e l)) {mb:MB} (g1:m[b]? = some mb) (g2:BR X P (AA A m) m ts.heap (.list k0 ex e l) mb)
  (htd:(∃ c X3 xx' xx cap,mb=.bK (.slc c 0 l.length l.length X3 xx')∧l≠[]∧td=.slc c (o*X3) n cap X3 xx∧(n=0∨o+cap=l.length))∨(n=0∧(td=.nil .slc∨∃ c f cap xx,td=.slc c f 0 cap size xx))) (hon:o+n<=l.length) (DL:isStr tx=false) :
  G5 X P A m ts (xO P at_ ts td tx) (.int .i64 ((min rows.length n:Nat):Int)) (ps.heap.set b (.list k0 ex e (yJ l o (min rows.length n) rows))) ⟨⟨false,.h b::pq X x,[.h b]⟩,false,false,true⟩:=by
 have hr:=hR.heap;obtain⟨hz,h0⟩:=fJ lT;obtain⟨new,s1,s2,s3⟩:=yT (m':=m) hX hr hx hz hs;have zG:aX X P (AA A m) m ts.heap e rows new 0 size:=s3.mono fun q hq=>by
  rcases hq with hq | ⟨i,_,hi,_⟩
  ·exact hq
  ·simp at hi
 have Cb:IR m ts.heap ⟨⟨false,.h b::pq X x,[.h b]⟩,false,false,true⟩ (bY (aF tx)):=IR.reads rfl (fun d hd=>by
  obtain⟨h0,h9⟩:=jd hr hx hz hs hd;rcases h0 with⟨i,h1,h2⟩ | h1
  ·exact⟨.inl ⟨i,List.mem_cons_of_mem _ h1,h2⟩,h9⟩
  ·exact⟨.inr h1,h9⟩) fun j hj=>fE hj
 have same:ps.heap.set b (.list k0 ex e l)=ps.heap:=by
  apply List.ext_getElem?;intro i;by_cases e:b=i
  ·subst e;rw[List.getElem?_set_self (List.getElem?_eq_some_iff.1 hb).1,hb]
  ·rw[List.getElem?_set_ne e]
 by_cases hk:min rows.length n=0
 ·rw[hk,Ru,same];refine⟨.int .i64 0,ts.heap,bY (aF tx),m,?_,hr,.int _ _,.refl,.refl,Cb,fun c hc=>by simp[bY] at hc⟩;unfold xO;simp only[jT,lT,s1,s2,DL,and_self,if_true];rcases htd with⟨c,X3,xx',xx,cap,rfl,dZ,rfl,qP⟩ | ⟨rfl,rfl | ⟨c,f,cap,xx,rfl⟩⟩
  ·have:X3=size:=by cases g2 with | some _ q2 _ _ _ _ _ _ _=>rw[hz] at q2;cases q2;rfl | emp=>exact absurd rfl dZ
   simp only[this,if_true,hk]
  ·rfl
  ·simp only[if_true,hk]
 ·rcases htd with⟨c,X3,xx',xx,cap,rfl,dZ,rfl,qP⟩ | ⟨rfl,_⟩
  ·cases g2 with
   | emp=>exact absurd rfl dZ
   | some p1 p2 p3 p4 p5 p6 p7 p8 p9=>
    rename_i kk cs;rw[hz] at p2;cases p2;obtain⟨oN,qM,a1R,hko⟩:=Aa p5;have UM:o*size+cap*size=cs.length:=by
     have:=qP.resolve_left (by omega);rw[p8,<-this,Nat.add_mul]
    have aN:=(List.getElem?_eq_some_iff.1 p4).1;have jc:(MB.bK (TV.slc c 0 l.length l.length size xx')).own=some c:=by simp only[MB.own];rw[if_neg (by simpa using p1)]
    have hkn:o+min rows.length n<=l.length:=(by omega);have hkr:min rows.length n<=rows.length:=Nat.min_le_left _ _;have m1:o*size+min rows.length n*size<=cs.length:=by rw[p8,<-Nat.add_mul];exact Nat.mul_le_mul_right _ hkn
    have m2:min rows.length n*size<=new.length:=by rw[s2];exact Nat.mul_le_mul_right _ hkr
    have m3:min (min rows.length n*size) (rows.length*size)=min rows.length n*size:=Nat.min_eq_left (by rw[<-s2];exact m2);have XL:=aX.put p9 zG p8 s2 hkn hkr;have pK:(cs.take (o*size)++new.take (min rows.length n*size)++cs.drop (o*size+min rows.length n*size)).length=cs.length:=by simp;omega
    have hl:=Bg (rows:=rows) hkn hkr;obtain⟨q1,q2⟩:=hr.set (i:=b) (c:=c) (pb:=.list k0 ex e (yJ l o (min rows.length n) rows)) (hb:=.cells oN (cs.take (o*size)++new.take (min rows.length n*size)++cs.drop (o*size+min rows.length n*size))) g1 jc
     (fun X5 Gs=>⟨_,by simp only[aB];rw[List.getElem?_set_self aN],by
      simp only[aB,p4,Option.some.injEq] at Gs;subst Gs;rw[pK];exact Nat.le_refl _⟩)
     (fun hF=>by
      have Xa:yJ l o (min rows.length n) rows≠[]:=fun e0=>by rw[e0] at hl;simp at hl;exact p1 (List.length_eq_zero_iff.1 hl.symm)
      have r:=LR.some (k:=k0) (ex:=ex) (e:=xx') Xa hz p3 (by rw[List.getElem?_set_self aN]) a1R (fun e0=>hko (p6 e0)) p7 (by rw[pK,hl,p8]) (XL.step hF .refl);rw[hl] at r;exact r)
    refine⟨.int .i64 ((min rows.length n:Nat):Int),_,⟨false,.h c::aF tx,[.h c]⟩,m,?_,q1,.int _ _,q2,.refl,?_,fun d hd=>?_⟩
    ·unfold xO;simp only[jT,lT,s1,s2,DL,and_self,if_true,hk,if_false,J4 p4 qM UM,lX,List.length_take,m3,m1,Option.map_some]
    ·refine⟨fun h=>(by cases h),fun k hk=>?_,fun k hk=>(by simp at hk),fun d hd=>?_,fun d hd=>?_,fun h=>(by cases h)⟩
     ·rcases List.mem_cons.1 hk with e0 | e0
      ·cases e0
      ·exact absurd e0 fE
     ·simp at hd;subst hd;exact .inl ⟨b,List.mem_cons_self,dw g1 jc⟩
     ·rcases List.mem_cons.1 hd with e0 | e0
      ·cases e0;exact⟨.inl ⟨b,List.mem_cons_self,dw g1 jc⟩,aN⟩
      ·obtain⟨h0,h9⟩:=jd hr hx hz hs e0;rcases h0 with⟨i,h1,h2⟩ | h1
       ·exact⟨.inl ⟨i,List.mem_cons_of_mem _ h1,h2⟩,h9⟩
       ·exact⟨.inr h1,h9⟩
    ·simp at hd;subst hd;exact aC g1 jc
  ·simp at hk
theorem UN (hr:HR X P A m H h) {e sz:Nat} {x:PV X.Γ} {tx:TV} (hv:VR X P (AA A m) m h x tx) {rows:List (X.Γ e)} {is:List Nat} (hs:oZ X H e sz x=some (rows,is)):isStr tx=false:=by
 cases hv with
 | own e' _=>
  unfold oZ at hs;simp only at hs;split at hs
  ·rename_i hb;obtain⟨mb,g1,g2⟩:=hr.at_ _ _ hb;rw[e'] at g1;cases g1;cases g2<;>rfl
  cases hs
 | gone hi e' _=>
  cases x<;>simp only[aG,Option.some.injEq] at hi<;>first | cases hi | skip
  all_goals (unfold oZ at hs;simp only at hs)
  all_goals first | (cases hs;done) | skip
  all_goals
   split at hs
   ·rename_i hb;obtain⟨mb,g1,g2⟩:=hr.at_ _ _ hb;rw[g1] at e';cases e'<;>exact g2.elim
   ·cases hs
 | str=>simp[oZ] at hs
 | _=>rfl
theorem aX.vrs {t sz:Nat}:∀ {l:List (X.Γ t)} {cs:List TV},aX X P F m h t l cs 0 sz->cs.length=l.length*sz->aH X P F m h (a1E X t l) cs
 | [],cs,_,hl=>by
  have:cs=[]:=List.length_eq_zero_iff.1 (by simpa using hl);subst this;exact .nil
 | a::r,cs,hw,hl=>by
  have h1:=hw.row (j:=0) (a:=a) rfl;have h2:=(hw.part (o:=1) (n:=r.length) (by simp;omega)).take;have e1:((a::r).drop 1).take r.length=r:=by simp
  rw[e1] at h2;have hl':cs.length=r.length*sz+sz:=by rw[hl,List.length_cons,Nat.add_mul,Nat.one_mul]
  have e2:(cs.drop (0+1*sz)).take (r.length*sz)=cs.drop sz:=by
   rw[Nat.zero_add,Nat.one_mul,List.take_of_length_le];rw[List.length_drop];omega
  rw[e2] at h2;have h3:=aX.vrs h2 (by rw[List.length_drop];omega);have h4:aH X P F m h (X.enc t a) (cs.take sz):=by
   have:=h1.1;simpa using this
  have:=h4.app h3;rw[List.take_append_drop] at this;exact this
theorem Ir (hX:aU X P) {ps:aW X.Γ} {ts:St} (hR:nS X P A m ps ts) {at_:Array TypeId} {d x:PV X.Γ} {td tx:TV} (hd:VR X P (AA A m) m ts.heap d td) (hx:VR X P (AA A m) m ts.heap x tx) {v:PV X.Γ} {H1:List (PB X.Γ)} {pi:gy}
  (hl:Uo X P at_ ps.heap d x=some (v,H1,pi)):G5 X P A m ts (xO P at_ ts td tx) v H1 ⟨pi,false,false,true⟩:=by
 have hr:=hR.heap;unfold Uo at hl;split at hl
 ·rename_i st jT;split at hl
  ·rename_i e size lT;obtain⟨hz,h0⟩:=fJ lT;split at hl
   ·rename_i rows hs;obtain⟨new,s1,s2,s3⟩:=yT (m':=m) hX hr hx hz hs;have DL:isStr tx=false:=UN hr hx hs;split at hl
    ·simp only[Option.some.injEq,Prod.mk.injEq] at hl;obtain⟨rfl,rfl,rfl⟩:=hl;have:td=.nil .slc:=by
      cases hd with
      | nil=>rfl
      | gone hi _ _=>simp[aG] at hi
     subst this;exact⟨_,ts.heap,_,m,by unfold xO;simp only[jT,lT,s1,s2,DL,and_self,if_true],hr,.int _ _,.refl,.refl,IR.reads rfl (fun b hb=>jd hr hx hz hs hb) fun k=>fE,fun b hb=>by simp[bY] at hb⟩
    ·rename_i b;split at hl
     ·rename_i k0 ex t' l hb;split at hl
      ·rename_i l2 uf;obtain⟨rfl,rfl⟩:=jm uf;simp only[Option.some.injEq,Prod.mk.injEq] at hl;obtain⟨rfl,rfl,rfl⟩:=hl;obtain⟨mb,g1,g2⟩:=hr.at_ b _ hb;refine vG (o:=0) (n:=l2.length) hX hR jT lT hx hs hb g1 g2 ?_ (by omega) DL;cases hd with
       | gone hi e' _=>simp only[aG,Option.some.injEq] at hi;subst hi;rw[g1] at e';cases e'<;>exact g2.elim
       | own e' o=>
        rw[g1] at e';cases e';cases g2 with
        | nil=>exact .inr ⟨rfl,.inl rfl⟩
        | emp q1 q2 q3 q4 q5=>rw[hz] at q4;cases q4;exact .inr ⟨rfl,.inr ⟨_,_,_,_,rfl⟩⟩
        | some q1 q2=>rw[hz] at q2;cases q2;exact .inl ⟨_,_,_,_,_,rfl,q1,by rw[Nat.zero_mul],.inr (Nat.zero_add _)⟩
      ·cases hl
     ·cases hl
    ·rename_i b o n;split at hl
     ·rename_i k0 ex t' l hb;split at hl
      ·rename_i l2 uf;obtain⟨rfl,rfl⟩:=jm uf;simp only[Option.some.injEq,Prod.mk.injEq] at hl;obtain⟨rfl,rfl,rfl⟩:=hl;obtain⟨mb,g1,g2⟩:=hr.at_ b _ hb;cases hd with
       | gone hi e' _=>simp only[aG,Option.some.injEq] at hi;subst hi;rw[g1] at e';cases e'<;>exact g2.elim
       | win e' o1 o2 o3=>
        rw[g1] at e';cases e';cases g2 with
        | emp q1 q2 q3 q4 q5=>
         rw[hz] at q4;cases q4;have:n=0:=(by omega);subst this;exact vG hX hR jT lT hx hs hb g1 (LR.emp q1 q2 q3 hz q5) (.inr ⟨rfl,.inr ⟨_,_,_,_,rfl⟩⟩) o1 DL
        | some q1 q2 q3 q4 q5 q6 q7 q8 q9=>exact vG hX hR jT lT hx hs hb g1 (LR.some q1 q2 q3 q4 q5 q6 q7 q8 q9) (.inl ⟨_,_,_,_,_,rfl,q1,by rw[Nat.zero_add],.inr o3⟩) o1 DL
       | ql e'=>
        rw[g1] at e';cases e';exact vG hX hR jT lT hx hs hb g1 g2 (.inr ⟨rfl,.inl rfl⟩) (by omega) DL
      ·cases hl
     ·cases hl
    ·rename_i b off len cap sz xx;split at hl
     ·rename_i cs hb;split at hl
      ·rename_i hc;obtain⟨Sm,Gs⟩:=hc;subst Sm;simp only[Option.map_eq_some_iff,Prod.mk.injEq] at hl;obtain⟨Jq,h1,rfl,rfl,rfl⟩:=hl;obtain⟨mb,g1,g2⟩:=hr.at_ b _ hb;cases mb with
       | cO c=>
        obtain⟨cs',g3,g4⟩:=g2;cases hd with
        | gone hi e _=>simp only[aG,Option.some.injEq] at hi;subst hi;rw[g1] at e;cases e
        | slc e=>
         rw[g1] at e;cases e;have zG:aX X P (AA A m) m ts.heap _ rows new 0 sz:=s3.mono fun q hq=>by
          rcases hq with hq | ⟨i,_,hi,_⟩
          ·exact hq
          ·simp at hi
         have hv:=(zG.vrs s2).take (min rows.length len*sz);obtain⟨Ad,g5,g6⟩:=yP g4 hv h1;have hlen:Ad.length=cs'.length:=by
          unfold lX at g5;split at g5
          ·cases g5;simp only[List.length_append,List.length_take,List.length_drop] at *;omega
          ·cases g5
         have aN:=(List.getElem?_eq_some_iff.1 g3).1;obtain⟨hr1,hF⟩:=hr.set (pb:=.cells Jq) (hb:=.cells .own Ad) g1 (c:=c) rfl (fun X5 KC=>⟨Ad,by simp[aB,aN],by
          simp only[aB,g3,Option.some.injEq] at KC;subst KC;omega⟩) fun hF=>⟨Ad,by simp[aN],g6.step hF .refl⟩
         refine⟨.int .i64 ((min rows.length len:Nat):Int),_,⟨false,.h c::aF tx,[.h c]⟩,m,?_,hr1,.int _ _,hF,.refl,?_,fun d hd=>?_⟩
         ·unfold xO;simp only[jT,lT,s1,s2,DL,and_self,if_true];rw[if_neg (by omega),Kv g3,g5];rfl
         ·refine⟨fun h=>(by cases h),fun k hk=>?_,fun k hk=>(by simp at hk),fun d hd=>?_,fun d hd=>?_,fun h=>(by cases h)⟩
          ·rcases List.mem_cons.1 hk with e0 | e0
           ·cases e0
           ·exact absurd e0 fE
          ·simp at hd;subst hd;exact .inl ⟨b,List.mem_cons_self,dw g1 rfl⟩
          ·rcases List.mem_cons.1 hd with e0 | e0
           ·cases e0;exact⟨.inl ⟨b,List.mem_cons_self,dw g1 rfl⟩,aN⟩
           ·obtain⟨h0,h9⟩:=jd hr hx hz hs e0;rcases h0 with⟨i,h1,h2⟩ | h1
            ·exact⟨.inl ⟨i,List.mem_cons_of_mem _ h1,h2⟩,h9⟩
            ·exact⟨.inr h1,h9⟩
         ·simp at hd;subst hd;exact aC g1 rfl
       | _=>exact g2.elim
      ·cases hl
     ·cases hl
    ·cases hl
   ·cases hl
  ·cases hl
 ·cases hl
end
open Go Tw
section
variable {X:iR} {P:Program} {A:Nat->Prop} {m:List MB}
theorem KE (hX:aU X P) {ps:aW X.Γ} {ts:St} (hR:nS X P A m ps ts) {at_:Array TypeId} {d x:PV X.Γ} {td tx:TV} (hd:VR X P (AA A m) m ts.heap d td) (hx:VR X P (AA A m) m ts.heap x tx) {v:PV X.Γ} {H1:List (PB X.Γ)} {pi:gy} {qs:List Prop}
  (hl:zY X P at_ ps.heap d x=some (v,H1,pi,qs)) (hq:∀ q∈qs,q):G5 X P A m ts (bQ P at_ ts td tx) v H1 ⟨pi,false,false,true⟩:=by
 have hr:=hR.heap;unfold zY at hl;split at hl
 ·rename_i st xt jT sJ;split at hl
  ·cases hl
  rename_i hint;split at hl
  ·rename_i e size lT;obtain⟨hz,h0⟩:=fJ lT;split at hl
   ·rename_i rows hs;obtain⟨new,s1,s2,s3⟩:=yT (m':=m) hX hr hx hz hs;split at hl
    ·rename_i b n;split at hl
     ·rename_i k0 ex t' l hb;split at hl
      ·rename_i l2 uf;obtain⟨rfl,rfl⟩:=jm uf;simp only[Option.some.injEq,Prod.mk.injEq] at hl;obtain⟨rfl,rfl,rfl,rfl⟩:=hl;have lS:rows≠[]:=hq _ List.mem_cons_self;have FM:n+rows.length<=l2.length:=hq _ (List.mem_cons_of_mem _ List.mem_cons_self);have WX:rows.length≠0:=fun e0=>lS (List.length_eq_zero_iff.1 e0);obtain⟨mb,g1,g2⟩:=hr.at_ b _ hb;have zG:aX X P (AA A m) m ts.heap t' rows new 0 size:=s3.mono fun q hq=>by
        rcases hq with hq | ⟨i,_,hi,_⟩
        ·exact hq
        ·simp at hi
       cases hd with
       | gone hi e' _=>simp only[aG,Option.some.injEq] at hi;subst hi;rw[g1] at e';cases e'<;>exact g2.elim
       | ql e'=>
        rw[g1] at e';cases e';cases g2 with
        | nil=>(simp only[List.length_nil] at FM;omega)
       | @win _ _ _ c off len cap0 cap sz xx e' o1 o2 o3=>
        rw[g1] at e';cases e';cases g2 with
        | emp q1 q2 q3 q4 q5=>(simp only[List.length_nil] at FM;omega)
        | some p1 p2 p3 p4 p5 p6 p7 p8 p9=>
         rename_i kk cs;rw[hz] at p2;cases p2;obtain⟨oN,qM,a1R,hko⟩:=Aa p5;have UM:0+0*size+cap*size=cs.length:=by rw[p8,<-o3];simp
         have aN:=(List.getElem?_eq_some_iff.1 p4).1;have jc:(MB.bK (TV.slc c 0 l2.length l2.length size xx)).own=some c:=by simp only[MB.own];rw[if_neg (by simpa using p1)]
         have m1:n*size+rows.length*size<=cs.length:=by rw[p8,<-Nat.add_mul];exact Nat.mul_le_mul_right _ FM
         have XL:=aX.put (k:=rows.length) p9 zG p8 s2 FM (Nat.le_refl _);rw[List.take_of_length_le (show new.length<=rows.length*size by omega)] at XL;have pK:(cs.take (n*size)++new++cs.drop (n*size+rows.length*size)).length=cs.length:=by simp;omega
         have hl:=Bg (rows:=rows) (k:=rows.length) FM (Nat.le_refl _);obtain⟨q1,q2⟩:=hr.set (i:=b) (c:=c) (pb:=.list k0 ex t' (yJ l2 n rows.length rows)) (hb:=.cells oN (cs.take (n*size)++new++cs.drop (n*size+rows.length*size))) g1 jc
          (fun X5 Gs=>⟨_,by simp only[aB];rw[List.getElem?_set_self aN],by
           simp only[aB,p4,Option.some.injEq] at Gs;subst Gs;rw[pK];exact Nat.le_refl _⟩)
          (fun hF=>by
           have Xa:yJ l2 n rows.length rows≠[]:=fun e0=>by rw[e0] at hl;simp at hl;exact p1 (List.length_eq_zero_iff.1 hl.symm)
           have r:=LR.some (k:=k0) (ex:=ex) (e:=xx) Xa hz p3 (by rw[List.getElem?_set_self aN]) a1R (fun e0=>hko (p6 e0)) p7 (by rw[pK,hl,p8]) (XL.step hF .refl);rw[hl] at r;exact r)
         refine⟨.slc c (0+0*size) (n+rows.length) cap size xx,_,⟨false,.h c::aF tx,[.h c]⟩,m,?_,q1,.win g1 (by omega) (by omega) o3,q2,.refl,?_,fun d hd=>?_⟩
         ·unfold bQ;simp only[jT,sJ,hint,if_false,lT,s1,Bool.false_eq_true,WX,s2,if_true];rw[if_pos (by omega),J4 p4 qM UM];have e1:0+0*size+n*size=n*size:=(by simp);rw[e1];unfold lX;rw[if_pos (by omega),s2];rfl
         ·refine⟨fun h=>(by cases h),fun k hk=>?_,fun k hk=>(by simp at hk),fun d hd=>?_,fun d hd=>?_,fun h=>(by cases h)⟩
          ·rcases List.mem_cons.1 hk with e0 | e0
           ·cases e0
           ·exact absurd e0 fE
          ·simp at hd;subst hd;exact .inl ⟨b,List.mem_cons_self,dw g1 jc⟩
          ·rcases List.mem_cons.1 hd with e0 | e0
           ·cases e0;exact⟨.inl ⟨b,List.mem_cons_self,dw g1 jc⟩,aN⟩
           ·obtain⟨h0,h9⟩:=jd hr hx hz hs e0;rcases h0 with⟨i,h1,h2⟩ | h1
            ·exact⟨.inl ⟨i,List.mem_cons_of_mem _ h1,h2⟩,h9⟩
            ·exact⟨.inr h1,h9⟩
         ·simp at hd;subst hd;exact aC g1 jc
      ·cases hl
     ·cases hl
    ·cases hl
   ·cases hl
  ·cases hl
 ·cases hl
theorem aX.upto {F:Nat->Prop} {h:List HB} {t sz n:Nat} {l:List (X.Γ t)} {cs:List TV} (hv:aX X P F m h t l cs 0 sz) (hn:n<=l.length):aX X P F m h t (l.take n) (cs.take (n*sz)) 0 sz:=by
 have h1:=(hv.part (o:=0) (n:=n) (by omega)).take;rw[List.drop_zero] at h1;have e1:(l.take n).length=n:=by rw[List.length_take];omega
 rw[e1,Nat.zero_mul,List.drop_zero] at h1;exact h1
theorem NJ (hX:aU X P) {ps:aW X.Γ} {ts:St} (hR:nS X P A m ps ts) {at_:Array TypeId} {d x:PV X.Γ} {td tx:TV} (hd:VR X P (AA A m) m ts.heap d td) (hx:VR X P (AA A m) m ts.heap x tx) {v:PV X.Γ} {H1:List (PB X.Γ)} {pi:gy} {qs:List Prop}
  (hl:Ep X P at_ ps.heap d x=some (v,H1,pi,qs)) (hq:∀ q∈qs,q):G5 X P A m ts (bQ P at_ ts td tx) v H1 ⟨pi,false,false,true⟩:=by
 have hr:=hR.heap;unfold Ep at hl;split at hl
 ·rename_i st xt jT sJ;split at hl
  ·cases hl
  rename_i hint;split at hl
  ·rename_i e size lT;split at hl
   ·rename_i su;obtain⟨hz,h0⟩:=fJ lT;split at hl
    ·rename_i rows is hs;obtain⟨new,s1,s2,s3⟩:=yT (m':=aP is m) hX hr hx hz hs;have KD:rows.length=0↔rows=[]:=List.length_eq_zero_iff;split at hl
     ·rename_i b n;split at hl
      ·rename_i k0 ex t' l hb;split at hl
       ·cases hl
       rename_i LC;split at hl
       ·rename_i l2 uf;obtain⟨rfl,rfl⟩:=jm uf;simp only[Option.some.injEq,Prod.mk.injEq] at hl;obtain⟨rfl,rfl,rfl,rfl⟩:=hl;have lS:l2.length<n+rows.length:=hq _ List.mem_cons_self;have FM:n+rows.length<=aO:=hq _ (List.mem_cons_of_mem _ List.mem_cons_self);have hq3:n=0->l2=[]:=hq _ (List.mem_cons_of_mem _ (List.mem_cons_of_mem _ List.mem_cons_self));obtain⟨mb,g1,g2⟩:=hr.at_ b _ hb;have Lr:∀ {c:Nat},xJ m b c∨c∉aK m->c<ts.heap.length->IR m ts.heap ⟨⟨false,.h b::pq X x,[.h b]⟩,false,false,true⟩ (bY (.h c::aF tx)):=fun {c} hc aN=>IR.reads rfl (fun d hd=>by
         rcases List.mem_cons.1 hd with e0 | e0
         ·cases e0;rcases hc with hc | hc
          ·exact⟨.inl ⟨b,List.mem_cons_self,hc⟩,aN⟩
          ·exact⟨.inr hc,aN⟩
         ·obtain⟨h0,h9⟩:=jd hr hx hz hs e0;rcases h0 with⟨i,h1,h2⟩ | h1
          ·exact⟨.inl ⟨i,List.mem_cons_of_mem _ h1,h2⟩,h9⟩
          ·exact⟨.inr h1,h9⟩) fun j hj=>by
           rcases List.mem_cons.1 hj with e0 | e0
           ·cases e0
           ·exact fE e0
        have Cb:IR m ts.heap ⟨⟨false,.h b::pq X x,[.h b]⟩,false,false,true⟩ (bY (aF tx)):=IR.reads rfl (fun d hd=>by
         obtain⟨h0,h9⟩:=jd hr hx hz hs hd;rcases h0 with⟨i,h1,h2⟩ | h1
         ·exact⟨.inl ⟨i,List.mem_cons_of_mem _ h1,h2⟩,h9⟩
         ·exact⟨.inr h1,h9⟩) fun j hj=>fE hj
        have zG:aX X P (FA A m (b::is)) (aP (b::is) m) ts.heap t' rows new 0 size:=(s3.mono fun c hc=>FA.mono (fun i hi=>List.mem_cons_of_mem _ hi) hc).dW hX;cases hd with
        | gone hi e' _=>simp only[aG,Option.some.injEq] at hi;subst hi;rw[g1] at e';cases e'<;>exact g2.elim
        | ql e'=>
         rw[g1] at e';cases e';cases g2 with
         | nil=>
          have hn:rows≠[]:=fun e0=>by subst e0;simp at lS
          simp only[List.take_nil,List.nil_append];obtain⟨m1,f1,f2,f3,f4⟩:=gW hr (b::is) (k:=false) (ex:=false) (x:=false) zG s2 hn hz h0 (by simp);refine⟨_,ts.heap++[.cells .own new],_,m1,?_,f1,f4,f2,f3,Cb,fun c hc=>by simp[bY] at hc⟩;unfold bQ;simp only[jT,sJ,hint,if_false,lT,s1,Bool.false_eq_true,KD,hn,s2,if_true,dQ su (show rows.length<=aO by omega)]
        | @win _ _ _ c off len cap0 cap sz xx e' o1 o2 o3=>
         rw[g1] at e';cases e';cases g2 with
         | emp p0 p1 p2 p3 p4=>
          rename_i cs;rw[hz] at p3;cases p3;have hn:rows≠[]:=fun e0=>by subst e0;simp at lS;omega
          have WX:rows.length≠0:=fun e0=>hn (KD.1 e0);have OC:n=0:=(by omega);subst OC;have XA:cap=0:=(by omega);subst XA;simp only[List.take_nil,List.nil_append];obtain⟨m1,f1,f2,f3,f4⟩:=gW hr (b::is) (k:=false) (ex:=false) (x:=false) zG s2 hn hz h0 (by simp);refine⟨_,ts.heap++[.cells .own new],_,m1,?_,f1,f4,f2,f3,Lr (c:=c) (.inr p0.2) (bU p1),fun c hc=>by simp[bY] at hc⟩;have ji:aS size ts.heap (.slc c (off+0*size) 0 0 size true)=some (0,[]):=(by simp[aS]);unfold bQ;simp only[jT,sJ,hint,if_false,lT,s1,Bool.false_eq_true,KD,hn,s2,if_true,Nat.zero_add,Nat.le_zero_eq,dQ su (show rows.length<=aO by omega),ji,Option.map_some,List.nil_append]
         | some p1 p2 p3 p4 p5 p6 p7 p8 p9=>
          rename_i kk cs;rw[hz] at p2;cases p2;have jc:(MB.bK (TV.slc c 0 l2.length l2.length size xx)).own=some c:=by simp only[MB.own];rw[if_neg (by simpa using p1)]
          have pK:cap=l2.length:=(by omega);subst pK;have OC:n≠0:=fun e0=>p1 (hq3 e0);have hn:rows≠[]:=fun e0=>by subst e0;simp at lS;omega
          have WX:rows.length≠0:=fun e0=>hn (KD.1 e0);have Sz:n<=l2.length:=(by omega);have hle:¬n+rows.length<=l2.length:=(by omega);have aN:=(List.getElem?_eq_some_iff.1 p4).1;have Io:n*size<=cs.length:=by rw[p8];exact Nat.mul_le_mul_right _ Sz
          have TK:(l2.take n).length=n:=by rw[List.length_take];omega
          have hcn:(cs.take (n*size)).length=n*size:=by rw[List.length_take];omega
          have dZ:l2.take n++rows≠[]:=fun e0=>hn (List.append_eq_nil_iff.1 e0).2;have p9n:=p9.upto Sz;have e00:0+0*size=0:=(by simp);cases xx with
          | true=>
           have hold:aS size ts.heap (.slc c (0+0*size) n l2.length size true)=some (n,cs.take (n*size)):=by
            simp only[aS,if_true];rw[if_neg OC,e00,ny p4 (by omega)];simp only[sub];rw[if_pos (by omega),List.drop_zero];rfl
           have hw1:aX X P (FA A m (b::is)) (aP (b::is) m) ts.heap t' (l2.take n) (cs.take (n*size)) 0 size:=(p9n.mono fun c hc=>.inl hc).dW hX;obtain⟨m1,f1,f2,f3,f4⟩:=gW hr (b::is) (k:=false) (ex:=false) (x:=false) (hw1.app zG (by rw[hcn,TK])) (by rw[List.length_append,List.length_append,Nat.add_mul,hcn,TK,s2]) dZ hz h0 (by simp);refine⟨_,ts.heap++[.cells .own (cs.take (n*size)++new)],_,m1,?_,f1,f4,f2,f3,Lr (c:=c) (.inl (dw g1 jc)) aN,fun c hc=>by simp[bY] at hc⟩;unfold bQ;simp only[jT,sJ,hint,if_false,lT,s1,Bool.false_eq_true,KD,hn,s2,if_true,hle,dQ su FM,hold,Option.map_some,List.length_append,TK]
          | false=>
           obtain⟨oN,cs',jH,Gi,hT⟩:∃ oN cs',oN≠BK.ro∧cs'=cs.take (n*size)++new∧bQ P at_ ts (.slc c (0+0*size) n l2.length size false) tx=some (.slc c 0 (n+rows.length) (n+rows.length) size false,{ ts with heap:=ts.heap.set c (.cells oN cs') },⟨false,.h c::aF tx,[.h c]⟩):=by
            by_cases hnL:n=l2.length
            ·refine⟨kk.more,_,by cases kk<;>simp[BK.more],rfl,?_⟩;rw[hnL,<-p8,List.take_length];have mQ:¬l2.length+rows.length<=l2.length:=(by omega);unfold bQ;simp only[jT,sJ,hint,if_false,lT,s1,Bool.false_eq_true,KD,hn,s2,if_true,mQ,dQ su (show l2.length+rows.length<=aO by omega),p4,e00,ne_eq,not_true_eq_false,p5,p8,List.length_eq_zero_iff,p1,or_self]
            ·refine⟨.last,_,by simp,rfl,?_⟩;unfold bQ;simp only[jT,sJ,hint,if_false,lT,s1,Bool.false_eq_true,KD,hn,s2,if_true,hle,dQ su FM,p4,e00];rw[if_pos (.inr (.inr (.inl hnL))),if_neg (by simp only[not_or,ne_eq,Decidable.not_not,Nat.not_le];exact⟨p5,trivial,by omega,p8,OC⟩)]
           subst Gi;have hex:ex=false:=by cases ex with
            | true=>exact absurd (p7 rfl) (by simp)
            | false=>rfl
           subst hex;have hgr:cs.length<=(cs.take (n*size)++new).length:=by
            rw[List.length_append,hcn,s2,p8,<-Nat.add_mul];exact Nat.mul_le_mul_right _ (by omega)
           obtain⟨m1,f0,f1,f2,f3,f4⟩:=xH (pb:=.list false false t' (l2.take n++rows)) (h1:=ts.heap.set c (.cells oN (cs.take (n*size)++new))) (BP:=.bK (.slc c 0 (n+rows.length) (n+rows.length) size false)) hr is g1 jc
            (by simp only[MB.own];rw[if_neg (by omega)]) (by simp) (fun d hd=>List.getElem?_set_ne (Ne.symm hd)) (fun X5 Gs=>⟨cs.take (n*size)++new,by simp[aB,aN],by
             simp only[aB,p4,Option.some.injEq] at Gs;subst Gs;exact hgr⟩) (fun hF hU=>by
             have FN:=eU (h:=ts.heap) (b::is) m;have DJ:∀ q cs',FA A m is q->aB ts.heap q=some cs'->AA A (aP (b::is) m++[.bK (.slc c 0 (n+rows.length) (n+rows.length) size false)]) q∧(ts.heap.set c (.cells oN (cs.take (n*size)++new)))[q]? = ts.heap[q]?:=fun q cs' hq hc=>by
              have Qx:q≠c:=fun e0=>by
               subst e0;rcases hq with hq | ⟨i,mb,e1,e2,e3⟩
               ·exact hq.2 (aC g1 jc)
               ·have:=dI hr.nodup g1 e2 jc e3;subst this;exact LC (by simpa using e1)
              have hg:=FA.gone hr (FA.mono (js:=b::is) (fun i hi=>List.mem_cons_of_mem _ hi) hq);refine⟨⟨hg.1,fun hm=>?_⟩,List.getElem?_set_ne (Ne.symm Qx)⟩;rw[dK,List.mem_append,fH] at hm;rcases hm with hm | hm
              ·exact hg.2 hm
              ·simp only[MB.own] at hm;rw[if_neg (by omega)] at hm;simp at hm;exact Qx hm
             have:=LR.some (X:=X) (P:=P) (A:=AA A (aP (b::is) m++[.bK (.slc c 0 (n+rows.length) (n+rows.length) size false)])) (m:=aP (b::is) m++[.bK (.slc c 0 (n+rows.length) (n+rows.length) size false)]) (h:=ts.heap.set c (.cells oN (cs.take (n*size)++new))) (k:=false) (ex:=false) (t:=t') (l:=l2.take n++rows) (b:=c) (sz:=size) (e:=false) (kk:=oN) (cs:=cs.take (n*size)++new)
              dZ hz h0 (by simp[aN]) jH (by simp) (by simp) (by rw[List.length_append,List.length_append,Nat.add_mul,hcn,TK,s2]) ((p9n.step hF hU).app (s3.move hX DJ) (by rw[hcn,TK]))
             rw[List.length_append,TK] at this;exact this)
           refine⟨_,ts.heap.set c (.cells oN (cs.take (n*size)++new)),⟨false,.h c::aF tx,[.h c]⟩,m1,hT,f1,.own f4 rfl,f2,f3,⟨fun h=>(by cases h),fun j hj=>?_,fun j hj=>(by simp at hj),fun d hd=>?_,fun d hd=>?_,fun h=>(by cases h)⟩,fun d hd=>?_⟩
           ·rcases List.mem_cons.1 hj with e0 | e0
            ·cases e0
            ·exact absurd e0 fE
           ·simp at hd;subst hd;exact .inl ⟨b,by simp,dw g1 jc⟩
           ·rcases List.mem_cons.1 hd with e0 | e0
            ·cases e0;exact⟨.inl ⟨b,List.mem_cons_self,dw g1 jc⟩,aN⟩
            ·obtain⟨h0,h9⟩:=jd hr hx hz hs e0;rcases h0 with⟨i,h1,h2⟩ | h1
             ·exact⟨.inl ⟨i,List.mem_cons_of_mem _ h1,h2⟩,h9⟩
             ·exact⟨.inr h1,h9⟩
           ·simp at hd;subst hd;exact aC g1 jc
       ·cases hl
      ·cases hl
     ·cases hl
    ·cases hl
   ·cases hl
  ·cases hl
 ·cases hl
end
open Go Tw
section
variable {X:iR} {P:Program} {A F:Nat->Prop} {m m':List MB} {h h':List HB} {H H':List (PB X.Γ)}
theorem XG.a1S {ps:List (Nat×PV X.Γ)} {qs:List (Nat×TV)} (hp:XG X P A m h ps qs):qs.all (fun p=>p.2.cells.all bW)=ps.all fun p=>p.2.cells.all Nj:=by
 induction ps generalizing qs with
 | nil=>
  have:=hp.1;cases qs with
  | nil=>rfl
  | cons=>simp at this
 | cons a ps ih=>
  obtain⟨x,r,rfl,h1,h2⟩:=hp.inv;simp only[List.all_cons,vC (yO h1),ih h2]
theorem KF {pl:Nat->Option (Nat×Nat)}:∀ {qs:List (Nat×TV)} {xs r:List TV},kG pl xs qs=some r->r.length=xs.length
 | [],xs,r,h=>by simp only[kG,Option.some.injEq] at h;rw[h]
 | (i,v)::qs,xs,r,h=>by
  simp only[kG] at h;split at h
  ·split at h
   ·split at h
    ·rename_i cs' ho;rw[KF h];unfold lX at ho;split at ho
     ·cases ho;simp only[List.length_append,List.length_take,List.length_drop];omega
     cases ho
    cases h
   cases h
  cases h
theorem iV {z:List TV}:∀ n,(times z n).length=n*z.length
 | 0=>by simp[times]
 | n+1=>by simp[times,iV n,Nat.add_mul];omega
theorem oP (hX:aU X P) {ps:aW X.Γ} {ts:St} (hR:nS X P A m ps ts) {t:TypeId} {len:Nat} {vs:List (Nat×PV X.Γ)} {xs:List (Nat×TV)} (hv:XG X P (AA A m) m ts.heap vs xs) {v:PV X.Γ} {H1:List (PB X.Γ)}
  (hl:tK X P t len ps.heap vs=some (v,H1)):G5 X P A m ts ((iJ P t len ts xs).map fun (v,s)=>(v,s,aA)) v H1 pO:=by
 have hr:=hR.heap;unfold tK at hl;split at hl
 ·rename_i e n lT;obtain⟨hz,h0⟩:=fJ lT;split at hl
  ·rename_i hc;split at hl
   ·rename_i z hzz;obtain⟨z',q1,q2⟩:=yQ (A:=AA A m) (m:=m) (h:=ts.heap) hzz;split at hl
    ·rename_i OD;split at hl
     ·rename_i cs hf;obtain⟨cs',q3,q4⟩:=CV hv (Kw q2 len) hf;have hlen:cs'.length=len*n:=(by rw[KF q3,iV,<-q2.1,OD]);have hT:∀ w h1,(w,h1)=(TV.slc ts.heap.length 0 len len n true,ts.heap++[HB.cells .own cs'])->(iJ P t len ts xs).map (fun (v,s)=>(v,s,aA))=some (w,{ ts with heap:=h1 },aA):=by
       intro w h1 e0;cases e0;simp only[iJ,lT,hv.a1S,hc,and_self,if_true,q1,<-q2.1,OD,q3,Option.map_some]
      split at hl
      ·rename_i rows is hd;cases hl;obtain⟨e1,hw⟩:=rG (m':=aP is m) hX hr q4 hd;by_cases hn:rows=[]
       ·subst hn;have e2:len=0:=(by simpa using e1.symm);subst e2;have QA:cs'=[]:=List.length_eq_zero_iff.1 (by omega);subst QA;have yV:HR X P A (aP is m++[.bK (.slc ts.heap.length 0 0 0 n true)]) (aI is ps.heap++[.list true true e []]) (ts.heap++[.cells .own []])∧_:=(hr.aI is).push (pb:=.list true true e []) (hb:=.cells .own []) (mb:=.bK (.slc ts.heap.length 0 0 0 n true)) (.inr rfl)
         (LR.emp (b:=ts.heap.length) (cs:=[]) ⟨hr.up _ (Nat.le_refl _),fun hm=>by
          rw[dK,List.mem_append,fH] at hm;simp[MB.own] at hm;have:=(hr.aI is).inb hm;omega⟩ (by simp[aB]) (Nat.le_refl _) hz h0)
        have FN:=eU (h:=ts.heap) is m;refine⟨_,_,_,_,hT _ _ rfl,yV.1,.own ?_ rfl,FN.1.trans yV.2.1,FN.2.trans yV.2.2,.none,fun b hb=>by cases hb⟩;rw[<-hr.len,<-fV is m];simp
       ·have yV:=gW hr is (k:=true) (ex:=true) (x:=true) hw (by rw[hlen,e1]) hn hz h0 (by simp);obtain⟨m1,g1,g2,g3,g4⟩:=yV;refine⟨_,_,_,m1,hT _ _ rfl,g1,?_,g2,g3,.none,fun b hb=>by cases hb⟩;rw[e1] at g4;exact g4
      ·cases hl;have hp:=hr.push (pb:=.cells cs) (hb:=.cells .own cs') (mb:=.cO ts.heap.length) (.inl rfl) ⟨cs',by simp,q4.step (by
        refine⟨by simp,fun b hb _=>by rw[List.getElem?_append_left hb],fun b hb=>?_,fun b cs hc=>⟨cs,by rw[cu (List.getElem?_append_left (bU hc)),hc],Nat.le_refl _⟩⟩;rw[dK,List.mem_append,fH] at hb;rcases hb with hb | hb
        ·exact .inl hb
        ·simp[MB.own] at hb;exact .inr (by omega)) (nC _)⟩
       exact⟨_,_,_,_,hT _ _ rfl,hp.1,.slc (by rw[<-hr.len];simp),hp.2.1,hp.2.2,.none,fun b hb=>by cases hb⟩
     ·cases hl
    ·cases hl
   ·cases hl
  ·cases hl
 ·cases hl
theorem EH {k:IntKind} {n:Int} {x:TV} (hv:VR X P A m h (.int k n) x):x=.int k n:=by
 cases hv with
 | int=>rfl
 | gone hi _ _=>simp[aG] at hi
theorem KG {t sz:Nat} {a:X.Γ t} {z:List TV} (ha:aH X P F m h (X.enc t a) z) (hz:z.length=sz):∀ n,aX X P F m h t (List.replicate n a) (times z n) 0 sz
 | 0=>⟨fun j a hj=>by simp at hj,by simp,fun j a i c v hj=>by simp at hj⟩
 | n+1=>by
  have h1:aX X P F m h t [a] z 0 sz:=by
   refine⟨fun j b hj=>?_,by simp[hz],fun j b i c v hj hi hx=>?_⟩
   ·cases j with
    | zero=>simp only[List.getElem?_cons_zero,Option.some.injEq] at hj;subst hj;rw[ha.1,hz]
    | succ j=>simp at hj
   cases j with
   | zero=>simp only[List.getElem?_cons_zero,Option.some.injEq] at hj;subst hj;exact ha.2 i c v hi (by simpa using hx)
   | succ j=>simp at hj
  have:=h1.app (KG ha hz n) (by simp[hz]);simpa[List.replicate_succ,times] using this
theorem qR (hX:aU X P) {ps:aW X.Γ} {ts:St} (hR:nS X P A m ps ts) {t:TypeId} {l c:PV X.Γ} {tl tc:TV} (hvl:VR X P (AA A m) m ts.heap l tl) (hvc:VR X P (AA A m) m ts.heap c tc) {v:PV X.Γ} {H1:List (PB X.Γ)} {qs:List Prop}
  (hl:xE X P t ps.heap l c=some (v,H1,qs)) (hq:∀ q∈qs,q):G5 X P A m ts ((jC P t ts tl tc).map fun (v,s)=>(v,s,aA)) v H1 pO:=by
 have hr:=hR.heap;unfold xE at hl;split at hl
 ·rename_i e n kl li kc ci lT;obtain⟨hz,h0⟩:=fJ lT;rw[EH hvl,EH hvc];split at hl
  ·rename_i su;split at hl
   ·rename_i z hzz;obtain⟨z',q1,q2⟩:=yQ (A:=AA A m) (m:=m) (h:=ts.heap) hzz;split at hl
    ·rename_i OD;split at hl
     ·rename_i a ha;cases hl;have e1:li=ci:=hq _ (by simp);have e2:0<=li:=hq _ (by simp);have e3:li<=(aO:Nat):=hq _ (by simp);subst e1;have hm:li.toNat<=aO:=(by omega);have hm2:aO=2^20:=rfl;have hz2:z'.length=n:=by rw[<-q2.1];exact OD
      have hT:∀ w h1,(w,h1)=(TV.slc ts.heap.length 0 li.toNat li.toNat n true,ts.heap++[HB.cells .own (times z' li.toNat)])->(jC P t ts (.int kl li) (.int kc li)).map (fun (v,s)=>(v,s,aA))=some (w,{ ts with heap:=h1 },aA):=by
       intro w h1 e0;cases e0;have hN:∀ k,Qs (.int k li)=some li.toNat:=fun k=>by
        have h9:li<=2^40:=by
         have:((2^20:Nat):Int)<=2^40:=(by decide);rw[hm2] at e3;omega
        simp only[Qs];rw[if_pos ⟨e2,h9⟩]
       simp only[jC,lT,hN,Nat.le_refl,true_and,dQ su hm,if_true,q1,hz2,Option.map_some]
      have oV:=KG (m:=m) (h:=ts.heap) (F:=AA A m) (hX.dec ha q2) hz2 li.toNat;have hlen:(times z' li.toNat).length=li.toNat*n:=(by rw[iV,hz2]);by_cases hn:li.toNat=0
      ·rw[hn] at hT ⊢;simp only[List.replicate_zero];have yV:=hr.push (pb:=.list true true e []) (hb:=.cells .own (times z' 0)) (mb:=.bK (.slc ts.heap.length 0 0 0 n true)) (.inr rfl)
         (LR.emp (b:=ts.heap.length) (cs:=times z' 0) ⟨hr.up _ (Nat.le_refl _),fun hm=>by
          rw[dK,List.mem_append,fH] at hm;simp[MB.own] at hm;have:=hr.inb hm;omega⟩ (by simp[aB]) (Nat.zero_le _) hz h0)
       exact⟨_,_,_,_,hT _ _ rfl,yV.1,.own (by rw[<-hr.len];simp) rfl,yV.2.1,yV.2.2,.none,fun b hb=>by cases hb⟩
      ·obtain⟨m1,g1,g2,g3,g4⟩:=gW hr [] (k:=true) (ex:=true) (x:=true) (rows:=List.replicate li.toNat a) (oV.mono fun b hb=>.inl hb) (by rw[List.length_replicate];exact hlen) (by intro e0;exact hn (by simpa using congrArg List.length e0)) hz h0 (by simp);refine⟨_,_,_,m1,hT _ _ rfl,g1,?_,g2,g3,.none,fun b hb=>by cases hb⟩;rw[List.length_replicate] at g4;exact g4
     ·cases hl
    ·cases hl
   ·cases hl
  ·cases hl
 ·cases hl
end
open Go Tw
section
variable {X:iR} {P:Program} {A F:Nat->Prop} {m m':List MB} {h h':List HB} {H H':List (PB X.Γ)}
theorem rH {o:Option (PV X.Γ)} {to:Option TV} (ho:OR X P A m h o to) {d n:Nat} {a:Int} (he:qg X d o=some a) (h0:0<=a) (h1:a<=n):eX n d to=some a.toNat:=by
 cases o with
 | none=>
  cases to with
  | none=>simp only[qg,Option.some.injEq] at he;subst he;simp[eX]
  | some=>exact ho.elim
 | some v=>
  cases to with
  | none=>exact ho.elim
  | some x=>
   cases v<;>simp only[qg] at he<;>try (cases he;done)
   cases he;rw[EH ho];simp only[eX,jJ];rw[if_pos ⟨h0,h1⟩]
theorem NM {k:IntKind} {n:Int} {to:Option TV} (ho:OR X P A m h (some (.int k n)) to):to=some (.int k n):=by
 cases to with
 | none=>exact ho.elim
 | some x=>rw[EH ho]
theorem kC {to:Option TV} (ho:OR X P A m h none to):to=none:=by
 cases to with
 | none=>rfl
 | some x=>exact ho.elim
theorem CW {v:PV X.Γ} {to:Option TV} (ho:OR X P A m h (some v) to):∃ x,to=some x:=by
 cases to with
 | none=>exact ho.elim
 | some x=>exact⟨x,rfl⟩
theorem a1T {t e:TypeId} {b off len cap sz:Nat} {ex:Bool} (hu:P.underlying t=some (.slice e)) (hz:aZ P e=some sz) {lo hi:Option (PV X.Γ)} {G6 G7:Option TV} (h1:OR X P A m h lo G6) (h2:OR X P A m h hi G7) {a z:Int} (e1:qg X 0 lo=some a) (e2:qg X len hi=some z)
  (q0:0<=a) (q1:a<=z) (q2:z<=len):jB P t (.slc b off len cap sz ex) G6 G7 none=some (.slc b (off+a.toNat*sz) (z.toNat-a.toNat) (cap-a.toNat) sz ex):=by
 have g1:=rH h1 e1 (n:=z.toNat) q0 (by omega);have g2:=rH h2 e2 (n:=len) (by omega) q2;simp only[jB,hu,hz,if_true,g2,g1]
theorem a9B {t e:TypeId} {b off len cap sz:Nat} {ex:Bool} (hu:P.underlying t=some (.slice e)) (hz:aZ P e=some sz) {lo hi:Option (PV X.Γ)} {G6 G7:Option TV} (h1:OR X P A m h lo G6) (h2:OR X P A m h hi G7) {a z:Int} (e1:qg X 0 lo=some a) (e2:qg X len hi=some z) (hs:hi.isSome)
  (q0:0<=a) (q1:a<=z) (q2:z<=len) (qP:len<=cap) {k:IntKind}:jB P t (.slc b off len cap sz ex) G6 G7 (some (.int k z))=some (.slc b (off+a.toNat*sz) (z.toNat-a.toNat) (z.toNat-a.toNat) sz true):=by
 have g1:=rH h1 e1 (n:=z.toNat) q0 (by omega);obtain⟨hv,rfl⟩:=Option.isSome_iff_exists.1 hs;obtain⟨x,rfl⟩:=CW h2;have g3:jJ cap (.int k z)=some z.toNat:=by simp only[jJ];rw[if_pos (by omega)]
 have g2:jJ (min z.toNat len) x=some z.toNat:=by
  cases hv<;>simp only[qg] at e2<;>try (cases e2;done)
  cases e2;rw[EH (show VR X P A m h _ x from h2)];simp only[jJ];rw[if_pos (by omega)]
 simp only[jB,hu,hz,if_true,g3,g2,g1]
theorem UO {t e:TypeId} {sz:Nat} (hu:P.underlying t=some (.slice e)) (hz:aZ P e=some sz) {lo hi:Option (PV X.Γ)} {G6 G7:Option TV} (h1:OR X P A m h lo G6) (h2:OR X P A m h hi G7) {a z:Int} (e1:qg X 0 lo=some a) (e2:qg X 0 hi=some z) (q0:a=0) (q1:z=0) :
  jB P t (.nil .slc) G6 G7 none=some (.nil .slc)∧∀ {k:IntKind},hi.isSome->jB P t (.nil .slc) G6 G7 (some (.int k 0))=some (.nil .slc):=by
 subst q0;subst q1;have g1:=rH h1 e1 (n:=0) (by omega) (by omega);have g2:=rH h2 e2 (n:=0) (by omega) (by omega);have g0:eX 0 0 none=some 0:=rfl;refine⟨by simp only[jB,hu,hz,g0,g1,g2];rfl,fun {k} hs=>?_⟩;obtain⟨hv,rfl⟩:=Option.isSome_iff_exists.1 hs;obtain⟨x,rfl⟩:=CW h2;have g3:eX 0 0 (some (.int k 0))=some 0:=rfl;simp only[jB,hu,hz,g1,g2,g3] ;rfl
theorem DI {ps:aW X.Γ} {ts:St} (hR:nS X P A m ps ts) {t:TypeId} {x:PV X.Γ} {tx:TV} (hx:VR X P (AA A m) m ts.heap x tx) {lo hi mx:Option (PV X.Γ)} {G6 G7 UQ:Option TV} (h1:OR X P (AA A m) m ts.heap lo G6) (h2:OR X P (AA A m) m ts.heap hi G7) (h3:OR X P (AA A m) m ts.heap mx UQ) {v:PV X.Γ} {qs:List Prop}
  (hl:Nr X P t ps.heap x lo hi mx=some (v,qs)) (hq:∀ q∈qs,q):∃ w,jB P t tx G6 G7 UQ=some w∧VR X P (AA A m) m ts.heap v w:=by
 have hr:=hR.heap;unfold Nr at hl;split at hl
 ·rename_i e t' l fu hu;split at hl
  ·rename_i n a z hz e1 e2;split at hl
   ·rename_i ht;subst ht;cases hl;have q0:0<=a:=hq _ (by simp);have q1:a<=z:=hq _ (by simp);have q2:z<=(l.length:Nat):=hq _ (by simp);rw[kC h3,List.drop_take];cases hx with
    | jZ=>
     have ea:a=0:=by simp at q2;omega
     have ez:z=0:=by simp at q2;omega
     exact⟨_,(UO hu hz h1 h2 e1 e2 ea ez).1,by simp only[List.drop_nil,List.take_nil];exact .jZ⟩
    | bK p1 p2 p2' p3 p4 p5 p6 p7 p8 p9=>
     rw[hz] at p3;cases p3;exact⟨_,a1T hu hz h1 h2 e1 e2 q0 q1 q2,(VR.bK p1 p2 p2' hz p4 p5 p6 p7 p8 p9).part (by omega) (by omega) (.inr (by omega)) (by simp)⟩
    | gone hi _ _=>simp[aG] at hi
   ·cases hl
  ·rename_i n a z k mv hz e1 e2;split at hl
   ·rename_i ht;obtain⟨ht,Gm⟩:=ht;subst ht;cases hl;have q0:0<=a:=hq _ (by simp);have q1:a<=z:=hq _ (by simp);have q2:z<=(l.length:Nat):=hq _ (by simp);have q3:mv=z:=hq _ (by simp);have q4:a=z:=hq _ (by simp);subst q3;rw[NM h3,List.drop_take];cases hx with
    | jZ=>
     have ea:a=0:=by simp at q2;omega
     have ez:mv=0:=by simp at q2;omega
     have:=(UO hu hz h1 h2 e1 e2 ea ez).2 (k:=k) Gm;rw[<-ez] at this;exact⟨_,this,by simp only[List.drop_nil,List.take_nil];exact .jZ⟩
    | bK p1 p2 p2' p3 p4 p5 p6 p7 p8 p9=>
     rw[hz] at p3;cases p3;exact⟨_,a9B hu hz h1 h2 e1 e2 Gm q0 q1 q2 p6,(VR.bK p1 p2 p2' hz p4 p5 p6 p7 p8 p9).part (by omega) (by omega) (.inl (by omega)) (by simp)⟩
    | gone hi _ _=>simp[aG] at hi
   ·cases hl
  ·cases hl
 ·rename_i e i hu;split at hl
  ·rename_i kk ex t' l hb;obtain⟨mb,g1,g2⟩:=hr.at_ i _ hb;cases mb with
   | bK y=>
    cases hx with
    | gone hi e' _=>simp only[aG,Option.some.injEq] at hi;subst hi;rw[g1] at e';cases e'
    | own e' o=>
     rw[g1] at e';cases e';have hlr:LR X P (AA A m) m ts.heap kk ex t' l tx:=g2;split at hl
     ·rename_i n a z hz e1 e2;split at hl
      ·rename_i ht;subst ht;cases hl;have q0:0<=a:=hq _ (by simp);have q1:a<=z:=hq _ (by simp);have q2:z<=(l.length:Nat):=hq _ (by simp);rw[kC h3];cases hlr with
       | nil=>
        have ea:a=0:=by simp at q2;omega
        have ez:z=0:=by simp at q2;omega
        refine⟨_,(UO hu hz h1 h2 e1 e2 ea ez).1,?_⟩;subst ea;subst ez;exact .ql g1
       | emp p0 p1 p2 p3 p4=>
        rw[hz] at p3;cases p3;exact⟨_,a1T (len:=0) hu hz h1 h2 e1 e2 q0 q1 q2,.win g1 (by simp at q2;omega) (by simp at q2;omega) (by simp at q2;omega)⟩
       | some p1 p2 p3 p4 p5 p6 p7 p8 p9=>
        rw[hz] at p2;cases p2;exact⟨_,a1T hu hz h1 h2 e1 e2 q0 q1 q2,.win g1 (by omega) (by omega) (by omega)⟩
      ·cases hl
     ·cases hl
   | _=>exact g2.elim
  ·cases hl
 ·rename_i e hu;have:tx=.nil .slc:=by
   cases hx with
   | nil=>rfl
   | gone hi _ _=>simp[aG] at hi
  subst this;split at hl
  ·rename_i n a z hz e1 e2;cases hl;have q0:a=0:=hq _ (by simp);have q1:z=0:=hq _ (by simp);rw[kC h3];exact⟨_,(UO hu hz h1 h2 e1 e2 q0 q1).1,.nil _⟩
  ·rename_i n a z k mv hz e1 e2;split at hl
   ·rename_i Gm;cases hl;have q0:a=0:=hq _ (by simp);have q1:z=0:=hq _ (by simp);have q2:mv=0:=hq _ (by simp);subst q2;rw[NM h3];exact⟨_,(UO hu hz h1 h2 e1 e2 q0 q1).2 Gm,.nil _⟩
   ·cases hl
  ·cases hl
 ·cases hl
theorem sU (hX:aU X P) {ps:aW X.Γ} {ts:St} (hR:nS X P A m ps ts) {t:TypeId} {x:PE X.Γ} {ex:EV} (hx:CU X P (AA A m) m ts.heap x ex) {lo hi mx:Option (PV X.Γ)} {G6 G7 UQ:Option TV} (h1:OR X P (AA A m) m ts.heap lo G6) (h2:OR X P (AA A m) m ts.heap hi G7) (h3:OR X P (AA A m) m ts.heap mx UQ) {v:PV X.Γ} {H1:List (PB X.Γ)} {qs:List Prop}
  (hl:zZ X P t ps.heap x lo hi mx=some (v,H1,qs)) (hq:∀ q∈qs,q):G5 X P A m ts ((iT P t ex G6 G7 UQ).map fun v=>(v,ts,aA)) v H1 pO:=by
 have hr:=hR.heap;unfold zZ at hl;split at hl
 ·rename_i n e b off lim hu;split at hl
  ·rename_i size hz;split at hl
   ·cases hl
   ·rename_i BL;split at hl
    ·cases hl
    ·rw[kC h3];obtain⟨y,rfl,hy⟩:=bV hx;split at hl
     ·split at hl
      ·rename_i cs hb;cases hl;rw[kC h1,kC h2];obtain⟨mb,g1,g2⟩:=hr.at_ b _ hb;cases mb with
       | cO c=>
        cases hy with
        | gone hi e' _=>simp only[aG,Option.some.injEq] at hi;subst hi;rw[g1] at e';cases e'
        | ptr e'=>
         rw[g1] at e';cases e';exact⟨.slc c off n n size true,ts.heap,aA,m,by simp[iT,hu,hz,BL,eX],hr,.slc g1,.refl,.refl,.none,fun d hd=>by cases hd⟩
       | _=>exact g2.elim
      ·cases hl
     ·rename_i LY nP _;split at hl
      ·rename_i cs a z hb e1 e2;split at hl
       ·cases hl
       rename_i a1P;split at hl
       ·rename_i rows is hd;cases hl;have q0:0<=a:=hq _ (by simp);have q1:a<=z:=hq _ (by simp);have q2:z<=(n:Nat):=hq _ (by simp);obtain⟨mb,g1,g2⟩:=hr.at_ b _ hb;cases mb with
        | cO c=>
         obtain⟨cs',g3,g4⟩:=g2;cases hy with
         | gone hi e' _=>simp only[aG,Option.some.injEq] at hi;subst hi;rw[g1] at e';cases e'
         | ptr e'=>
          rw[g1] at e';cases e';have f1:=rH h1 e1 (n:=z.toNat) q0 (by omega);have f2:=rH h2 e2 (n:=n) (by omega) q2;obtain⟨w1,w2⟩:=rG (m':=aP (b::is) m) hX hr (g4.drop off) hd;have w3:=w2.2.1;rw[List.length_drop] at w3;have UK:=hr.aI (b::is);have FN:=eU (h:=ts.heap) (b::is) m;have hnc:AA A (aP (b::is) m) c:=by
           refine FA.gone hr (.inr ⟨b,_,List.mem_cons_self,g1,rfl⟩)
          refine⟨.slc c (off+a.toNat*size) (z.toNat-a.toNat) (n-a.toNat) size true,ts.heap,aA,aP (b::is) m,?_,UK,?_,FN.1,FN.2,.none,fun d hd=>by cases hd⟩
          ·have f0:eX n n none=some n:=rfl;simp only[iT,hu,hz,BL,if_false,f0,f2,f1,Option.isSome_none,Bool.false_and,Bool.false_eq_true,Option.map_some]
          ·rw[List.drop_take];have a5A:VR X P (AA A (aP (b::is) m)) (aP (b::is) m) ts.heap (.bK e rows false) (.slc c off rows.length n size true):=by
            refine .bK hnc (by unfold aB;rw[g3]) (fun _=>rE g3 (by simp)) hz (by omega) ?_ (by omega) (by simp) w2.1 (fun j y i d v hj hi hx=>?_)
            ·rw[w1,<-g4.1];omega
            ·refine (w2.2.2 j y i d v hj hi ?_).mono fun q hq=>FA.gone hr (FA.mono (fun i hi=>List.mem_cons_of_mem _ hi) hq);rw[List.getElem?_drop,<-hx];congr 1;omega
           exact a5A.part (by omega) (by omega) (.inr (by omega)) (by simp)
        | _=>exact g2.elim
       ·cases hl
      ·cases hl
  ·cases hl
 ·cases hl
theorem J8 {ps:aW X.Γ} {ts:St} (hR:nS X P A m ps ts) {t:TypeId} {x:PE X.Γ} {ex:EV} (hx:CU X P (AA A m) m ts.heap x ex) {lo hi:Option (PV X.Γ)} {G6 G7 UQ:Option TV} (h1:OR X P (AA A m) m ts.heap lo G6) (h2:OR X P (AA A m) m ts.heap hi G7) (h3:OR X P (AA A m) m ts.heap none UQ) {v:PV X.Γ}
  (hl:xG X P t ps.heap x lo hi=some v):G5 X P A m ts ((iT P t ex G6 G7 UQ).map fun v=>(v,ts,aA)) v ps.heap pO:=by
 have hr:=hR.heap;unfold xG at hl;split at hl
 ·rename_i n e b off lim hu;split at hl
  ·rename_i size cs a z hz hb e1 e2;split at hl
   ·cases hl
   ·rename_i BL;split at hl
    ·rename_i hq;cases hl;rw[kC h3];obtain⟨y,rfl,hy⟩:=bV hx;obtain⟨mb,g1,g2⟩:=hr.at_ b _ hb;cases mb with
     | cO c=>
      cases hy with
      | gone hi e' _=>simp only[aG,Option.some.injEq] at hi;subst hi;rw[g1] at e';cases e'
      | ptr e'=>
       rw[g1] at e';cases e';have f1:=rH h1 e1 (n:=z.toNat) hq.1 (by omega);have f2:=rH h2 e2 (n:=n) (by omega) hq.2.2;refine⟨.slc c (off+a.toNat*size) (z.toNat-a.toNat) (n-a.toNat) size true,ts.heap,aA,m,?_,hr,.slc g1,.refl,.refl,.none,fun d hd=>by cases hd⟩;have f0:eX n n none=some n:=rfl;simp only[iT,hu,hz,BL,if_false,f0,f2,f1,Option.isSome_none,Bool.false_and,Bool.false_eq_true,Option.map_some]
     | _=>exact g2.elim
    ·cases hl
  ·cases hl
 ·cases hl
end
open Go Tw
section
variable {X:iR} {P:Program} {A B F:Nat->Prop} {m m':List MB} {h h':List HB} {H H':List (PB X.Γ)}
theorem mM:∀ {vs:List (PV X.Γ)} {i:Nat} {v:PV X.Γ},sG.yH vs=false->vs[i]? = some v->sG v=false
 | [],_,_,_,h=>by simp at h
 | a::vs,i,v,hc,h=>by
  simp only[sG.yH,Bool.or_eq_false_iff] at hc;cases i with
  | zero=>simp only[List.getElem?_cons_zero,Option.some.injEq] at h;subst h;exact hc.1
  | succ i=>exact mM hc.2 (by simpa using h)
theorem kQ {k:Nat}:∀ {vs:List (PV X.Γ)} {i:Nat} {v:PV X.Γ},(shift.shifts k vs)[i]? = some v->∃ u,vs[i]? = some u∧v=shift k u
 | [],_,_,h=>by simp[shift.shifts] at h
 | a::vs,i,v,h=>by
  cases i with
  | zero=>simp only[shift.shifts,List.getElem?_cons_zero,Option.some.injEq] at h;exact⟨a,rfl,h.symm⟩
  | succ i=>obtain⟨u,h1,h2⟩:=kQ (vs:=vs) (i:=i) (by simpa[shift.shifts] using h);exact⟨u,by simpa using h1,h2⟩
theorem kR {k:Nat}:∀ {vs:List (PV X.Γ)},(shift.shifts k vs).length=vs.length
 | []=>rfl
 | a::vs=>by simp[shift.shifts,kR (vs:=vs)]
theorem NP {k i:Nat} {v:PV X.Γ} (h:aG v=some i):aG (shift k v)=some (i+k):=by
 cases v<;>simp[aG] at h<;>subst h<;>rfl
theorem VR.shift (hX:aU X P) {m0:List MB} {v:PV X.Γ} {x:TV} (hv:VR X P A m h v x) (hq:(∀ b,A b->B b)∨sG v=false):VR X P B (m0++m) h (Pv.shift m0.length v) x:=by
 have XM:∀ {i:Nat} {mb:MB},m[i]? = some mb->(m0++m)[i+m0.length]? = some mb:=by
  intro i mb hi;rw[List.getElem?_append_right (by omega)];simpa using hi
 induction hv with
 | bool=>exact .bool _
 | lit=>exact .lit _
 | int=>exact .int _ _
 | str=>exact .str _
 | nil=>exact .nil _
 | ptr e=>exact .ptr (XM e)
 | slc e=>exact .slc (XM e)
 | own e o=>exact .own (XM e) o
 | win e q q' q2=>exact .win (XM e) q q' q2
 | ql e=>exact .ql (XM e)
 | map e=>exact .map (XM e)
 | iter e=>exact .iter (XM e)
 | fn h1 _ h3 _ i2 i4=>
  refine .fn (by rw[kR,h1]) (fun i x y hx hy=>?_) (by rw[kR,h3]) (fun i x y hx hy=>?_)
  ·obtain⟨u,g1,rfl⟩:=kQ hx;exact i2 i u y g1 hy (hq.imp_right fun hq=>by simp only[sG,Bool.or_eq_false_iff] at hq;exact mM hq.1 g1)
  obtain⟨u,g1,rfl⟩:=kQ hx;exact i4 i u y g1 hy (hq.imp_right fun hq=>by simp only[sG,Bool.or_eq_false_iff] at hq;exact mM hq.2 g1)
 | jk e=>exact .jk (XM e)
 | agg h1 _ i2=>
  refine .agg (by rw[kR,h1]) (fun i x y hx hy=>?_);obtain⟨u,g1,rfl⟩:=kQ hx;exact i2 i u y g1 hy (hq.imp_right fun hq=>by simp only[sG] at hq;exact mM hq g1)
 | bH h1 _ i2=>
  refine .bH (by rw[kR,h1]) (fun i x y hx hy=>?_);obtain⟨u,g1,rfl⟩:=kQ hx;exact i2 i u y g1 hy (hq.imp_right fun hq=>by simp only[sG] at hq;exact mM hq g1)
 | jZ=>exact .jZ
 | bK a c c2 s z o k f e r _=>
  rcases hq with hq | hq
  ·exact .bK (hq _ a) c c2 s z o k f e fun j y i d v h1 h2 h3=>((r j y i d v h1 h2 h3).mono hq).dW hX (bG (hX.dW _ _) h2)
  simp[sG] at hq
 | el a c l o e q r _=>
  rcases hq with hq | hq
  ·exact .el (hq _ a) c l o e q fun i d v h1 h2=>((r i d v h1 h2).mono hq).dW hX (bG (hX.dW _ _) h1)
  simp[sG] at hq
 | row e j q=>exact .row (XM e) j q
 | @gone v i x hi e o=>
  have e':(m0++m)[i+m0.length]? = m[i]?:=by rw[List.getElem?_append_right (by omega)];congr 1;omega
  exact .gone (NP hi) (by rw[e'];exact e.as fun c=>by cases v<;>rfl) o
theorem aH.shift (hX:aU X P) {m0:List MB} {v:List (PV X.Γ)} {x:List TV} (hv:aH X P A m h v x) (hq:(∀ b,A b->B b)∨sG.yH v=false):aH X P B (m0++m) h (Pv.shift.shifts m0.length v) x:=by
 refine⟨by rw[kR,hv.1],fun i a b ha hb=>?_⟩;obtain⟨u,g1,rfl⟩:=kQ ha;exact (hv.2 i u b g1 hb).shift hX (hq.imp_right fun hq=>mM hq g1)
theorem BR.shift (hX:aU X P) {m0:List MB} {b b':PB X.Γ} {mb:MB} (hb:BR X P A m h b mb) (hs:xA X m0.length b=some b') (hq:(∀ c,A c->B c)∨hasB X b=false):BR X P B (m0++m) h b' mb:=by
 cases b with
 | cells cs=>
  cases mb with
  | cO c=>
   simp only[xA,Option.some.injEq] at hs;subst hs;obtain⟨cs',h1,h2⟩:=hb;exact⟨cs',h1,h2.shift hX hq⟩
  | _=>exact hb.elim
 | list k ex t l=>
  cases mb with
  | bK y=>
   simp only[xA,Option.some.injEq] at hs;subst hs;rcases hq with hq | hq
   ·cases (hb:LR X P A m h k ex t l y) with
    | nil=>exact LR.nil
    | emp p0 p1 p2 p3 p4=>exact LR.emp (hq _ p0) p1 p2 p3 p4
    | some p1 p2 p3 p4 p5 p6 p7 p8 p9=>exact LR.some p1 p2 p3 p4 p5 p6 p7 p8 ((p9.mono hq).dW hX)
   simp[hasB] at hq
  | _=>exact hb.elim
 | gone=>
  cases mb with
  | gone=>simp only[xA,Option.some.injEq] at hs;subst hs;trivial
  | _=>exact hb.elim
 | _=>simp[xA] at hs
theorem Bh {k:Nat}:∀ {bs XO:List (PB X.Γ)} {i:Nat} {b':PB X.Γ},mF X k bs=some XO->XO[i]? = some b'->∃ b,bs[i]? = some b∧xA X k b=some b'
 | [],XO,i,b',h,hi=>by simp only[mF,Option.some.injEq] at h;subst h;simp at hi
 | b::bs,XO,i,b',h,hi=>by
  simp only[mF] at h;split at h
  ·rename_i c cs h1 h2;cases h;cases i with
   | zero=>simp only[List.getElem?_cons_zero,Option.some.injEq] at hi;subst hi;exact⟨b,rfl,h1⟩
   | succ i=>obtain⟨d,g1,g2⟩:=Bh h2 (i:=i) (by simpa using hi);exact⟨d,by simpa using g1,g2⟩
  cases h
theorem Bj {k:Nat}:∀ {bs XO:List (PB X.Γ)},mF X k bs=some XO->XO.length=bs.length
 | [],XO,h=>by simp only[mF,Option.some.injEq] at h;subst h;rfl
 | b::bs,XO,h=>by
  simp only[mF] at h;split at h
  ·rename_i c cs h1 h2;cases h;simp[Bj h2]
  cases h
def Con (X:iR) (P:Program) (call:ay) (f:FuncId) (vs:List (PV X.Γ)) (v:PV X.Γ) (ext:List (PB X.Γ)):Prop:=
 ∀ (A:Nat->Prop) (h:List HB) (first args cap:List TV),(∀ b,h.length<=b->A b)->aH X P A [] h vs (first++args++cap) ->
  ∃ w h' m',call (.fn f first cap) args h=some (w,h',[])∧HR X P A m' ext h'∧VR X P (AA A m') m' h' v w∧Fr [] h m' h'
theorem XP (hX:aU X P) {call:ay} {f:FuncId} {first xs cap vs:List (PV X.Γ)} {v:PV X.Γ} {ext ext':List (PB X.Γ)} (hc:Con X P call f vs v ext) (hr:HR X P A m H h) (hv:views H (first++xs++cap)=some vs) (hs:mF X H.length ext=some ext')
  {t1 t2 t3:List TV} (h1:aH X P (AA A m) m h first t1) (h2:aH X P (AA A m) m h xs t2) (h3:aH X P (AA A m) m h cap t3) :
  ∃ w h' m1,call (.fn f t1 t3) t2 h=some (w,h',[])∧HR X P A m1 ((if sG v||ext.any (hasB X) then aI (oW.mZ (first++xs++cap)) H else H)++ext') h'∧VR X P (AA A m1) m1 h' (shift H.length v) w∧Fr m h m1 h'∧Up m m1:=by
 have Jl:=ku (m':=[]) hX hr ((h1.app h2).app h3) hv (is:=oW.mZ (first++xs++cap)) fun i hi=>hi;generalize oW.mZ (first++xs++cap)=is at Jl ⊢;obtain⟨w,h',m',c1,c2,c3,c4⟩:=hc (fun b=>FA A m is b∨h.length<=b) h t1 t2 t3 (fun b hb=>.inr hb) (Jl.mono fun b hb=>.inl hb);have hold:∀ b,b<h.length->h'[b]? = h[b]?:=fun b hb=>c4.same b hb (by simp[aK]);have dh:∀ b,b∈aK m'->h.length<=b:=fun b hb=>by
  rcases c4.new b hb with h0 | h0
  ·simp[aK] at h0
  ·exact h0
 have key:∀ (m0:List MB) (H0:List (PB X.Γ)),HR X P A m0 H0 h->Fr m h m0 h->Up m m0->m0.length=H.length->((∀ b,FA A m is b->AA A m0 b)∨(sG v||ext.any (hasB X))=false) ->
   ∃ m1,HR X P A m1 (H0++ext') h'∧VR X P (AA A m1) m1 h' (shift H.length v) w∧Fr m h m1 h'∧Up m m1:=by
  intro m0 H0 XQ hF0 hU0 kF hq;have hF:Fr m0 h (m0++m') h':=by
   refine⟨c4.len,fun b hb _=>hold b hb,fun b hb=>?_,fun b cs hc=>⟨cs,by rw[cu (hold b (bU hc)),hc],Nat.le_refl _⟩⟩;rw[dK,List.mem_append] at hb;exact hb.imp_right fun hb=>dh b hb
  have hA:(∀ b,AA (fun b=>FA A m is b∨h.length<=b) m' b->AA A (m0++m') b)∨(sG v||ext.any (hasB X))=false:=by
   refine hq.imp_left fun hq b hb=>?_;refine⟨?_,fun hm=>?_⟩
   ·rcases hb.1 with h0 | h0
    ·exact (hq b h0).1
    ·exact hr.up b h0
   ·rw[dK,List.mem_append] at hm;rcases hm with hm | hm
    ·rcases hb.1 with h0 | h0
     ·exact (hq b h0).2 hm
     ·have:=XQ.inb hm;omega
    ·exact hb.2 hm
  refine⟨m0++m',?_,?_,hF0.trans hF,hU0.trans (nC _)⟩
  ·refine XQ.next hF (nC _) (by rw[List.length_append,List.length_append,XQ.len,Bj hs,c2.len]) ?_ fun i b hi=>?_
   ·rw[dK];refine List.nodup_append.2 ⟨XQ.nodup,c2.nodup,fun a ha b hb e=>?_⟩;subst e;have:=XQ.inb ha;have:=dh a hb;omega
   ·rcases Nat.lt_or_ge i H0.length with aN | zF
    ·left;rw[List.getElem?_append_left aN] at hi;obtain⟨mb,g1,g2⟩:=XQ.at_ i b hi;exact⟨mb,hi,g1,by rw[List.getElem?_append_left (by rw[XQ.len];exact aN)];exact g1,fun c hc=>hold c (g2.has hc)⟩
    ·right;rw[List.getElem?_append_right zF] at hi;obtain⟨b0,g1,g2⟩:=Bh hs hi;obtain⟨mb,g3,g4⟩:=c2.at_ _ _ g1;refine⟨mb,by rw[List.getElem?_append_right (by rw[XQ.len];exact zF),XQ.len];exact g3,?_⟩;rw[<-kF] at g2;refine g4.shift hX g2 (hA.imp_right fun hq=>?_);simp only[Bool.or_eq_false_iff,List.any_eq_false] at hq;simpa using hq.2 b0 (List.mem_of_getElem? g1)
  ·rw[<-kF];exact c3.shift hX (hA.imp_right fun hq=>by simp only[Bool.or_eq_false_iff] at hq;exact hq.1)
 refine⟨w,h',?_⟩;by_cases hL:(sG v||ext.any (hasB X))=true
 ·rw[if_pos hL];obtain⟨m1,e1,e2,e3,e4⟩:=key (aP is m) (aI is H) (hr.aI is) (eU (h:=h) is m).1 (eU (h:=h) is m).2 (by rw[fV,hr.len]) (.inl fun b hb=>hb.gone hr);exact⟨m1,c1,e1,e2,e3,e4⟩
 ·rw[if_neg hL];obtain⟨m1,e1,e2,e3,e4⟩:=key m H hr .refl .refl hr.len (.inr (by simpa using hL));exact⟨m1,c1,e1,e2,e3,e4⟩
end
open Go Tw
section
variable {X:iR} {P:Program} {A B F:Nat->Prop} {m m':List MB} {h h':List HB} {H H':List (PB X.Γ)}
def qH (X:iR) (P:Program) (call:ay):Rl X.Γ:=fun fv xs H v H1=>
 ∀ (A:Nat->Prop) (m:List MB) (h:List HB) (tf:TV) (nI:List TV),HR X P A m H h->VR X P (AA A m) m h fv tf->aH X P (AA A m) m h xs nI ->
  ∃ w h1 ws m1,call tf nI h=some (w,h1,ws)∧HR X P A m1 H1 h1∧VR X P (AA A m1) m1 h1 v w∧Fr m h m1 h1∧Up m m1∧∀ b∈ws,b∈aK m
def lC (X:iR) (P:Program) (call:ay) (kX:iO X.Γ):Prop:=∀ f vs v ext ps,kX f vs=some (v,ext,ps)->(∀ p∈ps,p)->Con X P call f vs v ext
theorem jo {ρ:Type} {y:ρ}:∀ {ps:List Prop} {x:OT ρ},(Uz ps x).Ends y->(∀ p∈ps,p)∧x.Ends y
 | [],x,h=>⟨by simp,h⟩
 | p::ps,x,h=>by
  have:=jo h.2;exact⟨fun q hq=>by rcases List.mem_cons.1 hq with rfl | hq;exact h.1;exact this.1 q hq,this.2⟩
theorem NQ {ρ:Type} {y:ρ} {u:PV X.Γ} {an:PT X.Γ} {k:Bool->PT X.Γ->OT ρ} (hk:(byB X u an k).Ends y) {tu:TV} (hu:VR X P A m h u tu):∃ t Bo,tu=.bool t∧(k t Bo).Ends y:=by
 cases u with
 | lit b=>
  have:tu=.bool b:=by
   cases hu with
   | lit=>rfl
   | gone hi _ _=>simp[aG] at hi
  exact⟨b,an,this,hk⟩
 | bool b=>
  have hb:tu=.bool b:=by
   cases hu with
   | bool=>rfl
   | gone hi _ _=>simp[aG] at hi
  subst hb;cases an with
  | s x z=>
   rcases hk with⟨h1,h2⟩ | ⟨h1,h2⟩
   ·subst h1;exact⟨true,x,rfl,h2⟩
   subst h1;exact⟨false,z,rfl,h2⟩
  | a x r=>
   cases x with
   | br t=>obtain⟨h1,h2⟩:=hk;subst h1;exact⟨_,r,rfl,h2⟩
   | _=>exact hk.elim
  | _=>exact hk.elim
 | _=>exact hk.elim
theorem qm:∀ {es:List (PV X.Γ×PV X.Γ)} {fU:List (TV×TV)} {ks:List TV},es.length=fU.length->(∀ (i:Nat) x y,es[i]? = some x->fU[i]? = some y->VR X P A m h x.1 y.1∧VR X P A m h x.2 y.2)->oz X es=some ks->fU.map (·.1)=ks
 | [],fU,ks,hl,_,hk=>by
  simp only[oz,Option.some.injEq] at hk;subst hk;cases fU with
  | nil=>rfl
  | cons=>simp at hl
 | (k,v)::es,fU,ks,hl,he,hk=>by
  cases fU with
  | nil=>simp at hl
  | cons y fU=>
   simp only[oz] at hk;split at hk
   ·rename_i a b h1 h2;cases hk;have:=iP (he 0 _ _ rfl rfl).1 h1;simp only[List.map_cons,this];rw[qm (by simpa using hl) (fun i x z hx hz=>he (i+1) x z (by simpa using hx) (by simpa using hz)) h2]
   cases hk
theorem KH:∀ {ks:List TV} {vs:List Value},rX ks=some vs->vs.length=ks.length
 | [],vs,h=>by simp only[rX,Option.some.injEq] at h;subst h;rfl
 | k::ks,vs,h=>by
  simp only[rX] at h;split at h
  ·rename_i v ws _ h2;cases h;simp[KH h2]
  cases h
theorem ug {kt:TypeId} {k:Value} {fU:List (TV×TV)}:xP P kt k fU=oC P kt k (fU.map (·.1)):=by
 unfold xP oC;cases hv:rX (fU.map (·.1)) with
 | none=>rfl
 | some vs=>
  have hl:=KH hv;have:fU.isEmpty=vs.isEmpty:=by
   cases fU<;>cases vs<;>simp at hl<;>rfl
  simp only[this]<;>rfl
def Ht:TV->List Key
 | .map r=>[.h r]
 | _=>[]
def Ry (h:List HB):TV->Option (List (TV×TV))
 | .nil .map=>some []
 | .map r=>match h[r]? with
  | some (.map es)=>some es
  | _=>none
 | _=>none
theorem Bq {t:TypeId} {h:List HB} {tm tk:TV} {ok:Bool} {kt e:TypeId} {kv:Value} {es:List (TV×TV)} (hu:P.underlying t=some (.map kt e)) (hk:tk.rW=some kv) (he:Ry h tm=some es) :
  lY P t h tm tk ok=match xP P kt kv es with
   | some (some i)=>match es[i]? with
    | some (_,v)=>some (if ok then .bH [v,.bool true] else v)
    | none=>none
   | some none=>match P.info? e with
    | some i=>match i.zero with
     | some z=>(TV.Jk z).map fun z=>if ok then .bH [z,.bool false] else z
     | none=>none
    | none=>none
   | none=>none:=by
 unfold lY;simp only[hu,hk];cases tm with
 | nil k=>
  cases k<;>simp only[Ry] at he<;>try (cases he;done)
  cases he;rfl
 | map r=>
  simp only[Ry] at he;split at he
  ·rename_i es0 hb;cases he;simp only[hb];rfl
  ·cases he
 | _=>simp[Ry] at he
theorem uh {H:List (PB X.Γ)} {h:List HB} (hr:HR X P A m H h) {r:Nat} {es:List (PV X.Γ×PV X.Γ)} (he:Es X H r=some es):∃ c fU,(m[r]? = some (.cO c)∨(m[r]? = some (.cZ c)∧c∉aK m))∧h[c]? = some (.map fU)∧es.length=fU.length ∧
  ∀ (i:Nat) x y,es[i]? = some x->fU[i]? = some y->tJ x.1=some y.1∧tJ x.2=some y.2:=by
 unfold Es at he;split at he
 ·rename_i es0 hb;cases he;obtain⟨mb,g1,g2⟩:=hr.at_ r _ hb;cases mb with
  | cO c=>obtain⟨fU,g3,g4,g5⟩:=g2;exact⟨c,fU,.inl g1,g3,g4,g5⟩
  | _=>exact g2.elim
 ·rename_i es0 hb;cases he;obtain⟨mb,g1,g2⟩:=hr.at_ r _ hb;cases mb with
  | cZ c=>obtain⟨g0,fU,g3,g4,g5⟩:=g2;exact⟨c,fU,.inr ⟨g1,g0⟩,g3,g4,g5⟩
  | _=>exact g2.elim
 ·cases he
theorem PY {B:Nat->Prop} {h:List HB} {r c:Nat} {tm:TV} (hm:VR X P B m h (.map r) tm) (hc:m[r]? = some (.cO c)∨(m[r]? = some (.cZ c)∧c∉aK m)):tm=.map c:=by
 cases hm with
 | map e=>
  rcases hc with h | ⟨h,_⟩<;>rw[h] at e<;>cases e
  rfl
 | gone hi e _=>
  simp only[aG,Option.some.injEq] at hi;subst hi;rcases hc with h | ⟨h,_⟩<;>rw[h] at e
  ·cases e
  cases e with
  | r c hv=>simp only[XF,Option.some.injEq] at hv;exact hv.symm
theorem Hu {r c:Nat} {ks:List Key} (hc:m[r]? = some (.cO c)∨(m[r]? = some (.cZ c)∧c∉aK m)):(∃ i,Key.h i∈Key.h r::ks∧xJ m i c)∨c∉aK m:=by
 rcases hc with h | ⟨_,h⟩
 ·exact .inl ⟨r,by simp,dw h rfl⟩
 exact .inr h
theorem a1V {ps:aW X.Γ} {ts:St} (hR:nS X P A m ps ts) {mv:PV X.Γ} {tm:TV} (hm:VR X P (AA A m) m ts.heap mv tm) {es:List (PV X.Γ×PV X.Γ)} (he:UA X ps.heap mv=some es) :
  ∃ fU,Ry ts.heap tm=some fU∧es.length=fU.length∧(∀ (i:Nat) x y,es[i]? = some x->fU[i]? = some y->VR X P (AA A m) m ts.heap x.1 y.1∧VR X P (AA A m) m ts.heap x.2 y.2) ∧
   IR m ts.heap ⟨bY (GZ X mv),false,false,true⟩ (bY (Ht tm)):=by
 cases mv with
 | nil k=>
  cases hm with
  | nil=>
   cases k<;>simp only[UA] at he<;>try (cases he;done)
   cases he;exact⟨[],rfl,rfl,fun i x y hx=>by simp at hx,IR.reads rfl (by simp[Ht]) (by simp[Ht])⟩
  | gone hi _ _=>simp[aG] at hi
 | map r=>
  simp only[UA] at he;obtain⟨c,fU,g0,g3,g4,g5⟩:=uh hR.heap he;have htm:=PY hm g0;subst htm;refine⟨fU,by simp only[Ry,g3],g4,fun i x y e1 e2=>⟨pI (g5 i x y e1 e2).1,pI (g5 i x y e1 e2).2⟩,IR.reads rfl (fun b hb=>?_) (by simp[Ht])⟩;simp[Ht] at hb;subst hb;exact⟨Hu g0,(List.getElem?_eq_some_iff.1 g3).1⟩
 | _=>simp[UA] at he
theorem CX {a b:PV X.Γ} {x y:TV} (h1:VR X P A m h a x) (h2:VR X P A m h b y):VR X P A m h (.bH [a,b]) (.bH [x,y]):=by
 have:=(aH.nil (X:=X) (P:=P) (A:=A) (m:=m) (h:=h)).cons h2 |>.cons h1
 exact .bH this.1 this.2
theorem UR {e:TypeId} {z:PV X.Γ} (h:H6 X P e=some z):∃ i z0 z1,P.info? e=some i∧i.zero=some z0∧TV.Jk z0=some z1∧Rf z1=some z:=by
 unfold H6 at h;split at h
 ·rename_i i hi;split at h
  ·rename_i z0 hz0;split at h
   ·rename_i z1 Xe;exact⟨i,z0,z1,hi,hz0,Xe,h⟩
   cases h
  cases h
 cases h
theorem XR {ρ:Type} {y:ρ} {ps:aW X.Γ} {ts:St} (hR:nS X P A m ps ts) {t:TypeId} {mv kv:PV X.Γ} {tm tk:TV} (hm:VR X P (AA A m) m ts.heap mv tm) (hk:VR X P (AA A m) m ts.heap kv tk) {ok:Bool} {an:PT X.Γ} {c:PE X.Γ->PI->PT X.Γ->OT ρ}
  (hl:(Nz X P t ps mv kv ok an c).Ends y):∃ v pi Bo w,lY P t ts.heap tm tk ok=some w∧VR X P (AA A m) m ts.heap v w∧(c (.val v) pi Bo).Ends y∧IR m ts.heap pi (bY (Ht tm)):=by
 unfold Nz at hl;split at hl
 ·rename_i kt e tk' es hu htk Gz;have:=iP hk htk;subst this;obtain⟨fU,f1,f2,f3,f4⟩:=a1V hR hm Gz;have fnd:∀ {qo ks j k0 v},tk.rW=some qo->oz X es=some ks->oC P kt qo ks=some (some j)->es[j]? = some (k0,v)->∃ w,lY P t ts.heap tm tk ok=some w∧VR X P (AA A m) m ts.heap (if ok then .bH [v,.bool true] else v) w:=by
   intro qo ks j k0 v NR DN EI hj;have uj:=qm f2 f3 DN;have aN:j<fU.length:=by rw[<-f2];exact (List.getElem?_eq_some_iff.1 hj).1
   have BJ:=List.getElem?_eq_getElem aN;have hv:=(f3 j _ _ hj BJ).2;refine⟨(if ok then .bH [fU[j].2,.bool true] else fU[j].2),?_,?_⟩
   ·rw[Bq hu NR f1];simp only[ug,uj,EI,BJ]
   ·cases ok with
    | true=>exact CX hv (.bool _)
    | false=>exact hv
  have non:∀ {qo ks z},tk.rW=some qo->oz X es=some ks->oC P kt qo ks=some none->H6 X P e=some z->∃ w,lY P t ts.heap tm tk ok=some w∧VR X P (AA A m) m ts.heap (if ok then .bH [z,.bool false] else z) w:=by
   intro qo ks z NR DN EI hz;have uj:=qm f2 f3 DN;obtain⟨i,z0,z1,hi,hz0,Xe,hz2⟩:=UR hz;refine⟨(if ok then .bH [z1,.bool false] else z1),?_,?_⟩
   ·rw[Bq hu NR f1];simp only[ug,uj,EI,hi,hz0,Xe,Option.map_some]
   ·cases ok with
    | true=>exact CX (nD hz2) (.bool _)
    | false=>exact nD hz2
  split at hl
  ·obtain⟨⟨qo,ks,j,k0,g1,g2,g3,g4⟩,hl⟩:=hl;obtain⟨w,w1,w2⟩:=fnd g1 g2 g3 g4;exact⟨_,_,_,w,w1,w2,hl,f4⟩
  ·split at hl
   ·rename_i z hz;obtain⟨⟨qo,ks,g1,g2,g3⟩,hl⟩:=hl;obtain⟨w,w1,w2⟩:=non g1 g2 g3 hz;exact⟨_,_,_,w,w1,w2,hl,f4⟩
   ·exact hl.elim
  ·split at hl
   ·rename_i z hz;obtain⟨⟨qo,ks,g1,g2,g3⟩,hl⟩:=hl;obtain⟨w,w1,w2⟩:=non g1 g2 g3 hz;exact⟨_,_,_,w,w1,w2,hl,f4⟩
   ·exact hl.elim
  ·split at hl
   ·rename_i qo ks NR DN;split at hl
    ·rename_i j r _ _;split at hl
     ·rename_i k0 v hj;obtain⟨EI,hl⟩:=hl;obtain⟨w,w1,w2⟩:=fnd NR DN EI hj;exact⟨_,_,_,w,w1,w2,hl,f4⟩
     ·exact hl.elim
    ·split at hl
     ·rename_i z hz;obtain⟨EI,hl⟩:=hl;obtain⟨w,w1,w2⟩:=non NR DN EI hz;exact⟨_,_,_,w,w1,w2,hl,f4⟩
     ·exact hl.elim
    ·exact hl.elim
   ·exact hl.elim
 ·exact hl.elim
theorem UU {ρ:Type} {y:ρ} {ps:aW X.Γ} {ts:St} (hR:nS X P A m ps ts) {t:TypeId} {mv kv v:PV X.Γ} {tm tk tv:TV} (hm:VR X P (AA A m) m ts.heap mv tm) (hk:VR X P (AA A m) m ts.heap kv tk) (hv:VR X P (AA A m) m ts.heap v tv) {an:PT X.Γ} {c:aW X.Γ->PI->PT X.Γ->OT ρ}
  (hl:(UC X P t ps mv kv v an c).Ends y):∃ fK pi Bo h1 ti,jL P t ts tm tk tv=some ({ ts with heap:=h1 },ti)∧nS X P A m fK { ts with heap:=h1 }∧Fr m ts.heap m h1∧(c fK pi Bo).Ends y∧IR m ts.heap pi ti∧∀ b,.h b∈ti.ws->b∈aK m:=by
 unfold UC at hl;split at hl
 ·rename_i kt e tk' r tv' hu htk htv;have:=iP hk htk;subst this;have:=iP hv htv;subst this;split at hl
  ·rename_i es hb;obtain⟨mb,g1,g2⟩:=hR.heap.at_ r _ hb;cases mb with
   | cO cb=>
    obtain⟨fU,f1,f2,f3⟩:=g2;have f3v:∀ (i:Nat) x y,es[i]? = some x->fU[i]? = some y->VR X P (AA A m) m ts.heap x.1 y.1∧VR X P (AA A m) m ts.heap x.2 y.2:=fun i x y e1 e2=>⟨pI (f3 i x y e1 e2).1,pI (f3 i x y e1 e2).2⟩;cases hm with
    | gone hi e' _=>simp only[aG,Option.some.injEq] at hi;subst hi;rw[g1] at e';cases e'
    | map e'=>
     rw[g1] at e';cases e';have aN:=(List.getElem?_eq_some_iff.1 f1).1;have wr:∀ (en:List (PV X.Γ×PV X.Γ)) (en':List (TV×TV)),en.length=en'.length->(∀ (i:Nat) x y,en[i]? = some x->en'[i]? = some y->tJ x.1=some y.1∧tJ x.2=some y.2) ->
       nS X P A m { ps with heap:=ps.heap.set r (.map en) } { ts with heap:=ts.heap.set cb (.map en') }∧Fr m ts.heap m (ts.heap.set cb (.map en')):=by
      intro en en' h1 h2;obtain⟨q1,q2⟩:=hR.heap.set (pb:=.map en) (hb:=.map en') g1 (c:=cb) rfl (fun cs hc=>by simp[aB,f1] at hc) fun hF=>⟨en',by simp[aN],h1,h2⟩;exact⟨hR.step q1 q2 .refl,q2⟩
     have new:∀ {qo ks},tk.rW=some qo->oz X es=some ks->au P (Instr.checkKey false 10000 kt qo)=some ()->oC P kt qo ks=some none ->
       jL P t ts (.map cb) tk tv=some ({ ts with heap:=ts.heap.set cb (.map (fU++[(tk,tv)])) },lF (.h cb))∧nS X P A m { ps with heap:=ps.heap.set r (.map (es++[(kv,v)])) } { ts with heap:=ts.heap.set cb (.map (fU++[(tk,tv)])) }∧Fr m ts.heap m (ts.heap.set cb (.map (fU++[(tk,tv)]))):=by
      intro qo ks NR DN c1 c2;have uj:=qm f2 f3v DN;obtain⟨w1,w2⟩:=wr (es++[(kv,v)]) (fU++[(tk,tv)]) (by simp[f2]) fun i a b ha rO=>by
       rcases Nat.lt_or_ge i es.length with aN | zF
       ·rw[List.getElem?_append_left aN] at ha;rw[List.getElem?_append_left (by rw[<-f2];exact aN)] at rO;exact f3 i a b ha rO
       ·rw[List.getElem?_append_right zF] at ha;rw[List.getElem?_append_right (by rw[<-f2];exact zF),<-f2] at rO;cases hx:i-es.length with
        | zero=>
         rw[hx] at ha rO;simp only[List.getElem?_cons_zero,Option.some.injEq] at ha rO;subst ha;subst rO;exact⟨htk,htv⟩
        | succ n=>rw[hx] at ha;simp at ha
      refine⟨?_,w1,w2⟩;unfold jL;simp only[hu,NR,f1,c1,ug,uj,c2]
     split at hl
     ·obtain⟨⟨qo,q1,c1⟩,⟨a5B,ks,q2,DN,c2⟩,hl⟩:=hl;rw[q1] at q2;cases q2;obtain⟨u1,u2,u3⟩:=new q1 DN c1 c2;exact⟨_,_,_,_,lF (.h cb),u1,u2,u3,hl,.wrH (dw g1 rfl) aN,fun b hb=>by simp[lF] at hb;subst hb;exact aC g1 rfl⟩
     ·obtain⟨⟨qo,q1,c1⟩,⟨a5B,ks,q2,DN,c2⟩,hl⟩:=hl;rw[q1] at q2;cases q2;obtain⟨u1,u2,u3⟩:=new q1 DN c1 c2;exact⟨_,_,_,_,lF (.h cb),u1,u2,u3,hl,.wrH (dw g1 rfl) aN,fun b hb=>by simp[lF] at hb;subst hb;exact aC g1 rfl⟩
     ·obtain⟨⟨qo,ks,j,old,ov,NR,c1,DN,c2,hj,hold,hov,c3⟩,hl⟩:=hl;have uj:=qm f2 f3v DN;have BJ:∃ y0,fU[j]? = some y0:=by
       have:j<fU.length:=by rw[<-f2];exact (List.getElem?_eq_some_iff.1 hj).1
       exact⟨_,List.getElem?_eq_getElem this⟩
      obtain⟨y0,X6⟩:=BJ;have hy1:y0.1=old:=by
       have:(fU.map (·.1))[j]? = some y0.1:=by rw[List.getElem?_map,X6];rfl
       rw[uj,hold] at this;exact (Option.some.inj this).symm
      obtain⟨w1,w2⟩:=wr es (fU.set j (tk,tv)) (by simp[f2]) fun i a b ha rO=>by
       by_cases e:j=i
       ·subst e;rw[List.getElem?_set_self'] at rO;rw[hj] at ha;rw[X6] at rO;cases ha;cases rO;exact⟨htk,htv⟩
       ·rw[List.getElem?_set_ne e] at rO;exact f3 i a b ha rO
      have JF:ps.heap.set r (.map es)=ps.heap:=by
       refine List.ext_getElem? fun i=>?_;by_cases e:r=i
       ·subst e;rw[List.getElem?_set_self (List.getElem?_eq_some_iff.1 hb).1,hb]
       ·rw[List.getElem?_set_ne e]
      rw[JF] at w1;refine⟨_,_,_,_,lF (.h cb),?_,w1,w2,hl,.wrH (dw g1 rfl) aN,fun b hb=>by simp[lF] at hb;subst hb;exact aC g1 rfl⟩;unfold jL;simp only[hu,NR,f1,c1,ug,uj,c2,X6,hy1,hov,c3,if_true]
     ·split at hl
      ·rename_i qo ks NR DN;have uj:=qm f2 f3v DN;split at hl
       ·rename_i j rest _ _ _;split at hl
        ·rename_i x0 old hj hold;split at hl
         ·rename_i ov hov;obtain⟨c1,c2,c3,hl⟩:=hl;have BJ:∃ y0,fU[j]? = some y0:=by
           have:j<fU.length:=by rw[<-f2];exact (List.getElem?_eq_some_iff.1 hj).1
           exact⟨_,List.getElem?_eq_getElem this⟩
          obtain⟨y0,X6⟩:=BJ;have hy1:y0.1=old:=by
           have:(fU.map (·.1))[j]? = some y0.1:=by rw[List.getElem?_map,X6];rfl
           rw[uj,hold] at this;exact (Option.some.inj this).symm
          obtain⟨w1,w2⟩:=wr (es.set j (kv,v)) (fU.set j (tk,tv)) (by simp[f2]) fun i a b ha rO=>by
           by_cases e:j=i
           ·subst e;rw[List.getElem?_set_self'] at ha rO;rw[hj] at ha;rw[X6] at rO;cases ha;cases rO;exact⟨htk,htv⟩
           ·rw[List.getElem?_set_ne e] at ha rO;exact f3 i a b ha rO
          refine⟨_,_,_,_,lF (.h cb),?_,w1,w2,hl,.wrH (dw g1 rfl) aN,fun b hb=>by simp[lF] at hb;subst hb;exact aC g1 rfl⟩;unfold jL;simp only[hu,NR,f1,c1,ug,uj,c2,X6,hy1,hov,c3,if_true]
         ·exact hl.elim
        ·exact hl.elim
       ·obtain⟨c1,c2,hl⟩:=hl;obtain⟨u1,u2,u3⟩:=new NR DN c1 c2;exact⟨_,_,_,_,lF (.h cb),u1,u2,u3,hl,.wrH (dw g1 rfl) aN,fun b hb=>by simp[lF] at hb;subst hb;exact aC g1 rfl⟩
       ·exact hl.elim
      ·exact hl.elim
   | _=>exact g2.elim
  ·exact hl.elim
 ·exact hl.elim
end
open Go Tw
theorem fZ {m:List MB} {b:Nat} (h:b∈aK m):∃ i,xJ m i b:=by
 obtain⟨mb,h1,h2⟩:=List.mem_filterMap.1 h;obtain⟨i,hi⟩:=List.getElem?_of_mem h1;exact⟨i,mb,hi,h2⟩
section
variable {X:iR} {P:Program} {A B:Nat->Prop} {m m1:List MB} {h:List HB} {g:Nat->Option Nat}
theorem eY:∀ {m:List MB},(∀ i j c,xJ m i c->xJ m j c->i=j)->(aK m).Nodup
 | [],_=>by simp[aK]
 | x::m,hu=>by
  have ih:(aK m).Nodup:=eY fun i j c h1 h2=>by
   have:=hu (i+1) (j+1) c (by obtain⟨mb,a,b⟩:=h1;exact⟨mb,by simpa using a,b⟩) (by obtain⟨mb,a,b⟩:=h2;exact⟨mb,by simpa using a,b⟩);omega
  unfold aK at ih ⊢;rw[List.filterMap_cons];split
  ·exact ih
  rename_i b hb;refine List.nodup_cons.2 ⟨fun hm=>?_,ih⟩;obtain⟨i,mb,h1,h2⟩:=fZ (m:=m) hm;have:=hu 0 (i+1) b ⟨x,rfl,hb⟩ ⟨mb,by simpa using h1,h2⟩;omega
theorem EJ:∀ {ks:List Nat} {i p:Nat},ni ks i=some p->ks[p]? = some i
 | [],i,p,h=>by cases h
 | a::ks,i,p,h=>by
  simp only[ni] at h;split at h
  ·rename_i e;cases h;simp[e]
  simp only[Option.map_eq_some_iff] at h;obtain⟨q,h1,rfl⟩:=h;simpa using EJ h1
section
variable {g:Nat->Option Nat} {m1:List MB}
theorem CY (hg:∀ i j,g i=some j->m1[j]? = m[i]?) {B:Nat->Prop} (hA:∀ b,A b->B b) (hX:aU X P) {v:PV X.Γ} {x:TV} (hv:VR X P A m h v x):∀ {w:PV X.Γ},bT g v=some w->VR X P B m1 h w x:=by
 have lists:∀ {vs:List (PV X.Γ)} {xs:List TV},vs.length=xs.length->(∀ (i:Nat) a b,vs[i]? = some a->xs[i]? = some b->∀ {w:PV X.Γ},bT g a=some w->VR X P B m1 h w b)->∀ {ws:List (PV X.Γ)},bT.jg g vs=some ws->ws.length=xs.length∧∀ (i:Nat) a b,ws[i]? = some a->xs[i]? = some b->VR X P B m1 h a b:=by
  intro vs
  induction vs with
  | nil=>
   intro xs hl _ ws hw;simp only[bT.jg,Option.some.injEq] at hw;subst hw;exact⟨hl,fun i a b ha=>by simp at ha⟩
  | cons v vs ih=>
   intro xs hl hh ws hw;cases xs with
   | nil=>simp at hl
   | cons x xs=>
    simp only[bT.jg] at hw;split at hw
    ·rename_i w FK h1 h2;cases hw;obtain⟨e1,e2⟩:=ih (xs:=xs) (by simpa using hl) (fun i a b ha hb=>hh (i+1) a b (by simpa using ha) (by simpa using hb)) h2;refine⟨by simp[e1],fun i a b ha hb=>?_⟩;cases i with
     | zero=>simp only[List.getElem?_cons_zero,Option.some.injEq] at ha hb;subst ha;subst hb;exact hh 0 v x rfl rfl h1
     | succ i=>exact e2 i a b (by simpa using ha) (by simpa using hb)
    cases hw
 induction hv with
 | bool=>intro w hw;simp only[bT,Option.some.injEq] at hw;subst hw;exact .bool _
 | lit=>intro w hw;simp only[bT,Option.some.injEq] at hw;subst hw;exact .lit _
 | int=>intro w hw;simp only[bT,Option.some.injEq] at hw;subst hw;exact .int _ _
 | str=>intro w hw;simp only[bT,Option.some.injEq] at hw;subst hw;exact .str _
 | nil=>intro w hw;simp only[bT,Option.some.injEq] at hw;subst hw;exact .nil _
 | ptr e=>intro w hw;simp only[bT,Option.map_eq_some_iff] at hw;obtain⟨j,h1,rfl⟩:=hw;exact .ptr (by rw[hg _ _ h1];exact e)
 | slc e=>intro w hw;simp only[bT,Option.map_eq_some_iff] at hw;obtain⟨j,h1,rfl⟩:=hw;exact .slc (by rw[hg _ _ h1];exact e)
 | own e o=>intro w hw;simp only[bT,Option.map_eq_some_iff] at hw;obtain⟨j,h1,rfl⟩:=hw;exact .own (by rw[hg _ _ h1];exact e) o
 | win e q q' q2=>intro w hw;simp only[bT,Option.map_eq_some_iff] at hw;obtain⟨j,h1,rfl⟩:=hw;exact .win (by rw[hg _ _ h1];exact e) q q' q2
 | ql e=>intro w hw;simp only[bT,Option.map_eq_some_iff] at hw;obtain⟨j,h1,rfl⟩:=hw;exact .ql (by rw[hg _ _ h1];exact e)
 | map e=>intro w hw;simp only[bT,Option.map_eq_some_iff] at hw;obtain⟨j,h1,rfl⟩:=hw;exact .map (by rw[hg _ _ h1];exact e)
 | iter e=>intro w hw;simp only[bT,Option.map_eq_some_iff] at hw;obtain⟨j,h1,rfl⟩:=hw;exact .iter (by rw[hg _ _ h1];exact e)
 | jk e=>intro w hw;simp only[bT,Option.map_eq_some_iff] at hw;obtain⟨j,h1,rfl⟩:=hw;exact .jk (by rw[hg _ _ h1];exact e)
 | row e j q=>intro w hw;simp only[bT,Option.map_eq_some_iff] at hw;obtain⟨j,h1,rfl⟩:=hw;exact .row (by rw[hg _ _ h1];exact e) (by assumption) q
 | fn h1 _ h3 _ i2 i4=>
  intro w hw;simp only[bT] at hw;split at hw
  ·rename_i a c ha hc;cases hw;obtain⟨e1,e2⟩:=lists h1 i2 ha;obtain⟨e3,e4⟩:=lists h3 i4 hc;exact .fn e1 e2 e3 e4
  cases hw
 | agg h1 _ i2=>
  intro w hw;simp only[bT,Option.map_eq_some_iff] at hw;obtain⟨cs,hc,rfl⟩:=hw;obtain⟨e1,e2⟩:=lists h1 i2 hc;exact .agg e1 e2
 | bH h1 _ i2=>
  intro w hw;simp only[bT,Option.map_eq_some_iff] at hw;obtain⟨cs,hc,rfl⟩:=hw;obtain⟨e1,e2⟩:=lists h1 i2 hc;exact .bH e1 e2
 | jZ=>intro w hw;simp only[bT,Option.some.injEq] at hw;subst hw;exact .jZ
 | bK a c c2 s z o k f e r _=>intro w hw;simp only[bT,Option.some.injEq] at hw;subst hw;exact .bK (hA _ a) c c2 s z o k f e fun j y i d v h1 h2 h3=>((r j y i d v h1 h2 h3).mono hA).dW hX (bG (hX.dW _ _) h2)
 | el a c l o e q r _=>intro w hw;simp only[bT,Option.some.injEq] at hw;subst hw;exact .el (hA _ a) c l o e q fun i d v h1 h2=>((r i d v h1 h2).mono hA).dW hX (bG (hX.dW _ _) h1)
 | gone i e o=>
  intro w hw;rename_i v _ x;have:∃ j,aG w=some j∧tX w x m1[j]?:=by
   cases v<;>simp[aG] at i<;>subst i<;>simp only[bT,Option.map_eq_some_iff] at hw<;>obtain⟨j,h1,rfl⟩:=hw<;>exact⟨j,rfl,by rw[hg _ _ h1];exact e.as fun c=>rfl⟩
  obtain⟨j,h1,h2⟩:=this;exact .gone h1 h2 o
variable {B:Nat->Prop}
theorem qp (hX:aU X P) (hg:∀ i j,g i=some j->m1[j]? = m[i]?) (hA:∀ b,A b->B b):∀ {vs:List (PV X.Γ)} {xs:List TV} {ws:List (PV X.Γ)},aH X P A m h vs xs->bT.jg g vs=some ws->aH X P B m1 h ws xs
 | [],xs,ws,hv,hw=>by simp only[bT.jg,Option.some.injEq] at hw;subst hw;rw[hv.inv0];exact .nil
 | v::vs,xs,ws,hv,hw=>by
  obtain⟨x,r,rfl,h1,h2⟩:=hv.inv;simp only[bT.jg] at hw;split at hw
  ·rename_i w FK g1 g2;cases hw;exact .cons (CY hg hA hX h1 g1) (qp hX hg hA h2 g2)
  cases hw
theorem EK (hX:aU X P) (hg:∀ i j,g i=some j->m1[j]? = m[i]?) (hA:∀ b,A b->B b) {env:List (Nat×PE X.Γ)} {env':List (Nat×EV)} (he:gG X P A m h env env'):∀ {r:List (Nat×PE X.Γ)},jG g env=some r->gG X P B m1 h r env':=by
 induction he with
 | nil=>intro r h;simp only[jG,Option.some.injEq] at h;subst h;exact .nil
 | cons h1 h2 ih=>
  rename_i k v x q q';intro r hr;simp only[jG] at hr;split at hr
  ·rename_i w r' e1 e2;cases hr;refine .cons ?_ (ih e2);cases v with
   | val v=>
    obtain⟨y,rfl,h3⟩:=bV h1;simp only[Nw,Option.map_eq_some_iff] at e1;obtain⟨u,e3,rfl⟩:=e1;exact iQ (CY hg hA hX h3 e3)
   | loc a b=>simp only[Nw,Option.some.injEq] at e1;subst e1;rw[vF h1];exact⟨rfl,rfl⟩
   | undef=>simp only[Nw,Option.some.injEq] at e1;subst e1;rw[Ac h1];trivial
  cases hr
theorem vH (hX:aU X P) (hg:∀ i j,g i=some j->m1[j]? = m[i]?) (hA:∀ b,A b->B b) {b b':PB X.Γ} {mb:MB} (hn:∀ c,mb=.cZ c->c∉aK m->c∉aK m1) (hb:BR X P A m h b mb) (hr:qh g b=some b'):BR X P B m1 h b' mb:=by
 cases b with
 | cells cs=>
  cases mb with
  | cO c=>
   simp only[qh,Option.map_eq_some_iff] at hr;obtain⟨cs',h1,rfl⟩:=hr;obtain⟨xs,h2,h3⟩:=hb;exact⟨xs,h2,qp hX hg hA h3 h1⟩
  | _=>exact hb.elim
 | fG cs=>
  cases mb with
  | cZ c=>
   simp only[qh,Option.map_eq_some_iff] at hr;obtain⟨cs',h1,rfl⟩:=hr;obtain⟨h0,xs,h2,h3⟩:=hb;exact⟨hn c rfl h0,xs,h2,qp hX hg hA h3 h1⟩
  | _=>exact hb.elim
 | list k ex t l=>
  cases mb with
  | bK y=>
   simp only[qh,Option.some.injEq] at hr;subst hr;cases (hb:LR X P A m h k ex t l y) with
   | nil=>exact LR.nil
   | emp p0 p1 p2 p3 p4=>exact LR.emp (hA _ p0) p1 p2 p3 p4
   | some p1 p2 p3 p4 p5 p6 p7 p8 p9=>exact LR.some p1 p2 p3 p4 p5 p6 p7 p8 ((p9.mono hA).dW hX)
  | _=>exact hb.elim
 | map es=>
  cases mb with
  | cO c=>
   simp only[qh,Option.some.injEq] at hr;subst hr;exact hb
  | _=>exact hb.elim
 | rV cs=>
  cases mb with
  | cO c=>
   simp only[qh,Option.some.injEq] at hr;subst hr;exact hb
  | _=>exact hb.elim
 | vV es=>
  cases mb with
  | cZ c=>
   simp only[qh,Option.some.injEq] at hr;subst hr;exact⟨hn c rfl hb.1,hb.2⟩
  | _=>exact hb.elim
 | bn r n seen=>
  cases mb with
  | cO b=>
   simp only[qh,Option.map_eq_some_iff] at hr;obtain⟨j,h1,rfl⟩:=hr;obtain⟨c,h2,h3,h4⟩:=hb;exact⟨c,h2,by rw[hg _ _ h1];exact h3,fun c' hc=>h4 c' (by rw[<-hg _ _ h1];exact hc)⟩
  | _=>exact hb.elim
 | mark=>
  cases mb with
  | cO c=>simp only[qh,Option.some.injEq] at hr;subst hr;exact hb
  | _=>exact hb.elim
 | loop rd f nt env ps a c gK=>
  cases mb with
  | cO cb=>
   simp only[qh,Option.map_eq_some_iff] at hr;obtain⟨aeD,h1,rfl⟩:=hr;obtain⟨xs,h2,h3⟩:=hb;exact⟨xs,h2,EK hX hg hA h3 h1⟩
  | _=>exact hb.elim
 | gone=>
  cases mb with
  | gone=>simp only[qh,Option.some.injEq] at hr;subst hr;trivial
  | _=>exact hb.elim
theorem kS:∀ {bs r:List (PB X.Γ)},iM g bs=some r->r.length=bs.length∧∀ {i:Nat} {b':PB X.Γ},r[i]? = some b'->∃ b,bs[i]? = some b∧qh g b=some b'
 | [],r,h=>by simp only[iM,Option.some.injEq] at h;subst h;exact⟨rfl,fun {i b'} hi=>by simp at hi⟩
 | b::bs,r,h=>by
  simp only[iM] at h;split at h
  ·rename_i c cs h1 h2;cases h;obtain⟨e1,e2⟩:=kS h2;refine⟨by simp[e1],fun {i b'} hi=>?_⟩;cases i with
   | zero=>simp only[List.getElem?_cons_zero,Option.some.injEq] at hi;subst hi;exact⟨b,rfl,h1⟩
   | succ i=>obtain⟨d,q1,q2⟩:=e2 (i:=i) (by simpa using hi);exact⟨d,by simpa using q1,q2⟩
  cases h
theorem EL:∀ {bs r:List (List (PV X.Γ))},Kt g bs=some r->r.length=bs.length∧∀ {i:Nat} {b':List (PV X.Γ)},r[i]? = some b'->∃ b,bs[i]? = some b∧bT.jg g b=some b'
 | [],r,h=>by simp only[Kt,Option.some.injEq] at h;subst h;exact⟨rfl,fun {i b'} hi=>by simp at hi⟩
 | b::bs,r,h=>by
  simp only[Kt] at h;split at h
  ·rename_i c cs h1 h2;cases h;obtain⟨e1,e2⟩:=EL h2;refine⟨by simp[e1],fun {i b'} hi=>?_⟩;cases i with
   | zero=>simp only[List.getElem?_cons_zero,Option.some.injEq] at hi;subst hi;exact⟨b,rfl,h1⟩
   | succ i=>obtain⟨d,q1,q2⟩:=e2 (i:=i) (by simpa using hi);exact⟨d,by simpa using q1,q2⟩
  cases h
theorem vI:∀ {ks:List Nat} {H r:List (PB X.Γ)},tV H ks=some r->r.length=ks.length∧∀ {i k:Nat},ks[i]? = some k->∃ b,H[k]? = some b∧r[i]? = some b
 | [],H,r,h=>by simp only[tV,Option.some.injEq] at h;subst h;exact⟨rfl,fun {i k} hi=>by simp at hi⟩
 | k::ks,H,r,h=>by
  simp only[tV] at h;split at h
  ·rename_i b rs h1 h2;cases h;obtain⟨e1,e2⟩:=vI h2;refine⟨by simp[e1],fun {i j} hi=>?_⟩;cases i with
   | zero=>simp only[List.getElem?_cons_zero,Option.some.injEq] at hi;subst hi;exact⟨b,h1,rfl⟩
   | succ i=>obtain⟨d,q1,q2⟩:=e2 (i:=i) (k:=j) (by simpa using hi);exact⟨d,q1,by simpa using q2⟩
  cases h
end
theorem kT {α:Type}:∀ {ks:List Nat} {bs l:List α},(putAt ks bs l).length=l.length
 | [],_,_=>rfl
 | _::_,[],_=>rfl
 | k::ks,b::bs,l=>by simp only[putAt];rw[kT,List.length_set]
theorem EM {α:Type}:∀ {ks:List Nat} {bs l:List α} {p i:Nat},ks.Nodup->(∀ k∈ks,k<l.length)->ks.length<=bs.length->ks[p]? = some i->(putAt ks bs l)[i]? = bs[p]?
 | [],_,_,p,i,_,_,_,h=>by simp at h
 | a::ks,[],_,_,_,_,_,hl,_=>by simp at hl
 | a::ks,b::bs,l,0,i,hn,hk,hl,h=>by
  simp only[List.getElem?_cons_zero,Option.some.injEq] at h;subst h;have hn:=List.nodup_cons.1 hn;simp only[putAt];have:∀ {ks:List Nat} {bs l:List α} {i:Nat},i∉ks->(putAt ks bs l)[i]? = l[i]?:=by
   intro ks
   induction ks with
   | nil=>intro bs l i _;rfl
   | cons c ks ih=>
    intro bs l i hi;simp only[List.mem_cons,not_or] at hi;cases bs with
    | nil=>rfl
    | cons b bs=>simp only[putAt];rw[ih hi.2,List.getElem?_set_ne (fun e=>hi.1 e.symm)]
  rw[this hn.1,List.getElem?_set_self (hk a (List.mem_cons_self ..))];rfl
 | a::ks,b::bs,l,p+1,i,hn,hk,hl,h=>by
  simp only[List.getElem?_cons_succ] at h;simp only[putAt];rw[EM (List.nodup_cons.1 hn).2 (fun k jH=>by rw[List.length_set];exact hk k (List.mem_cons_of_mem _ jH)) (by simpa using hl) h];rfl
theorem Ae {α:Type}:∀ {ks:List Nat} {bs l:List α} {i:Nat},i∉ks->(putAt ks bs l)[i]? = l[i]?
 | [],_,_,_,_=>rfl
 | a::ks,[],_,_,_=>rfl
 | a::ks,b::bs,l,i,hi=>by
  simp only[List.mem_cons,not_or] at hi;simp only[putAt];rw[Ae hi.2,List.getElem?_set_ne (fun e=>hi.1 e.symm)]
def KI (X:iR) (P:Program) (call:ay) (fv:PV X.Γ) (xs:List (PV X.Γ)) (H:List (PB X.Γ)) (v:PV X.Γ) (H1:List (PB X.Γ)) (W:Nat->Prop):Prop:=
 ∀ (A:Nat->Prop) (m:List MB) (h:List HB) (tf:TV) (nI:List TV),HR X P A m H h->VR X P (AA A m) m h fv tf->aH X P (AA A m) m h xs nI ->
  ∃ w h1 ws m1,call tf nI h=some (w,h1,ws)∧HR X P A m1 H1 h1∧VR X P (AA A m1) m1 h1 v w∧Fr m h m1 h1∧Up m m1∧∀ b∈ws,∃ k,W k∧xJ m k b
theorem qH.w {call:ay} {fv v:PV X.Γ} {xs:List (PV X.Γ)} {H H1:List (PB X.Γ)} (h:qH X P call fv xs H v H1):KI X P call fv xs H v H1 fun _=>True:=fun A m h0 tf nI a b c=>by
 obtain⟨w,h1,ws,m1,c1,c2,c3,c4,c5,c6⟩:=h A m h0 tf nI a b c;exact⟨w,h1,ws,m1,c1,c2,c3,c4,c5,fun b hb=>by obtain⟨i,hi⟩:=fZ (c6 b hb);exact⟨i,trivial,hi⟩⟩
theorem CZ:∀ {H:List (PB X.Γ)} {i:Nat} {b:PB X.Γ},A8 H=true->H[i]? = some b->A8 [b]=true
 | [],_,_,_,h=>by simp at h
 | a::H,0,b,hn,h=>by
  simp only[List.getElem?_cons_zero,Option.some.injEq] at h;subst h;cases a<;>simp_all [A8]
 | a::H,i+1,b,hn,h=>by
  have Td:A8 H=true:=by cases a<;>simp_all [A8]
  exact CZ Td (by simpa using h)
def SwM (m m':List MB):Prop:=∀ i:Nat,m'[i]? = m[i]?∨(∃ c,m[i]? = some (.cO c)∧m'[i]? = some (.cZ c))∨∃ c,m[i]? = some (.cZ c)∧m'[i]? = some (.cO c)
section
variable {m':List MB}
theorem VR.sw (hm:SwM m m') (hA:∀ b,A b->B b) {v:PV X.Γ} {x:TV} (hv:VR X P A m h v x):VR X P B m' h v x:=by
 have hl:∀ {i:Nat} {x:TV},m[i]? = some (.bK x)->m'[i]? = some (.bK x):=fun {i x} e=>by
  rcases hm i with g | ⟨c,g,_⟩ | ⟨c,g,_⟩
  ·rw[g,e]
  ·rw[e] at g;cases g
  rw[e] at g;cases g
 have hb:∀ {i c:Nat},m[i]? = some (.cO c)->m'[i]? = some (.cO c)∨m'[i]? = some (.cZ c):=fun {i c} e=>by
  rcases hm i with g | ⟨c',g,g2⟩ | ⟨c',g,_⟩
  ·exact .inl (by rw[g,e])
  ·rw[e] at g;cases g;exact .inr g2
  rw[e] at g;cases g
 induction hv with
 | bool=>exact .bool _
 | lit=>exact .lit _
 | int=>exact .int _ _
 | str=>exact .str _
 | nil=>exact .nil _
 | ptr e=>rcases hb e with e | e;exact .ptr e;exact .gone rfl (.X4 e rfl) rfl
 | slc e=>rcases hb e with e | e;exact .slc e;exact .gone rfl (.X4 e rfl) rfl
 | own e o=>exact .own (hl e) o
 | win e q q' q2=>exact .win (hl e) q q' q2
 | ql e=>exact .ql (hl e)
 | map e=>rcases hb e with e | e;exact .map e;exact .gone rfl (.X4 e rfl) rfl
 | iter e=>rcases hb e with e | e;exact .iter e;exact .gone rfl (.X4 e rfl) rfl
 | fn h1 _ h3 _ i2 i4=>exact .fn h1 i2 h3 i4
 | jk e=>rcases hb e with e | e;exact .jk e;exact .gone rfl (.X4 e rfl) rfl
 | agg h1 _ i2=>exact .agg h1 i2
 | bH h1 _ i2=>exact .bH h1 i2
 | jZ=>exact .jZ
 | bK a c c2 s z o k f e _ ih=>exact .bK (hA _ a) c c2 s z o k f e ih
 | el a c l o e q _ ih=>exact .el (hA _ a) c l o e q ih
 | row e j q=>exact .row (hl e) j q
 | @gone v i x hi e o=>
  generalize hq:m[i]? = q at e;cases e with
  | g=>
   rcases hm i with g | ⟨c,g,_⟩ | ⟨c,g,_⟩
   ·exact .gone hi (.of (by rw[g,hq])) o
   ·rw[hq] at g;cases g
   rw[hq] at g;cases g
  | r c hv=>
   rcases hm i with g | ⟨c',g,_⟩ | ⟨c',g,g2⟩
   ·exact .gone hi (.X4 (by rw[g,hq]) hv) o
   ·rw[hq] at g;cases g
   rw[hq] at g;cases g;cases v<;>simp only[XF,Option.some.injEq] at hv<;>first | cases hv;done | skip
   all_goals (subst hv;simp only[aG,Option.some.injEq] at hi;subst hi)
   ·exact .ptr g2
   ·exact .slc g2
   ·exact .map g2
   ·exact .jk g2
   exact .iter g2
theorem aH.sw (hm:SwM m m') (hA:∀ b,A b->B b) {v:List (PV X.Γ)} {x:List TV} (hv:aH X P A m h v x):aH X P B m' h v x:=
 ⟨hv.1,fun i a b ha hb=>(hv.2 i a b ha hb).sw hm hA⟩
theorem gG.sw (hm:SwM m m') (hA:∀ b,A b->B b) {v:List (Nat×PE X.Γ)} {x:List (Nat×EV)} (hv:gG X P A m h v x):gG X P B m' h v x:=by
 induction hv with
 | nil=>exact .nil
 | cons h1 _ ih=>
  refine .cons ?_ ih;rename_i v x _ _ _;cases v<;>cases x<;>first | exact VR.sw hm hA h1 | exact h1
theorem BR.sw (hm:SwM m m') (hA:∀ b,A b->B b) {b:PB X.Γ} {mb:MB} (hn:∀ c,mb=.cZ c->c∉aK m->c∉aK m') (hb:BR X P A m h b mb):BR X P B m' h b mb:=by
 cases b with
 | cells cs=>cases mb with
  | cO b=>obtain⟨cs',h1,h2⟩:=hb;exact⟨cs',h1,h2.sw hm hA⟩
  | _=>exact hb.elim
 | fG cs=>cases mb with
  | cZ b=>obtain⟨h0,cs',h1,h2⟩:=hb;exact⟨hn b rfl h0,cs',h1,h2.sw hm hA⟩
  | _=>exact hb.elim
 | list k ex t l=>cases mb with
  | bK x=>
   cases (hb:LR X P A m h k ex t l x) with
   | nil=>exact LR.nil
   | emp h0 h1 h2 h3 h4=>exact LR.emp (hA _ h0) h1 h2 h3 h4
   | some h1 h2 h3 h4 h5 h6 h7 h8 h9=>exact LR.some h1 h2 h3 h4 h5 h6 h7 h8 ⟨h9.1,h9.2.1,fun j a i c v a1 a2 a3=>(h9.2.2 j a i c v a1 a2 a3).sw hm hA⟩
  | _=>exact hb.elim
 | map es=>cases mb with
  | cO b=>exact hb
  | _=>exact hb.elim
 | rV cs=>cases mb with
  | cO b=>exact hb
  | _=>exact hb.elim
 | vV es=>cases mb with
  | cZ b=>exact⟨hn b rfl hb.1,hb.2⟩
  | _=>exact hb.elim
 | bn r n seen=>cases mb with
  | cO b=>
   obtain⟨c,h1,h2,h3⟩:=hb;refine⟨c,h1,?_,fun c' hc=>?_⟩
   ·rcases hm r with g | ⟨c',g,g2⟩ | ⟨c',g,g2⟩
    ·rw[g];exact h2
    ·rw[g2];rfl
    ·rw[g2];rfl
   ·rcases hm r with g | ⟨c2,g,g2⟩ | ⟨c2,g,g2⟩
    ·exact h3 c' (by rw[<-g];exact hc)
    ·rw[g2] at hc;simp at hc;subst hc;exact h3 c2 (.inl g)
    ·rw[g2] at hc;simp at hc;subst hc;exact h3 c2 (.inr g)
  | _=>exact hb.elim
 | mark=>cases mb with
  | cO b=>exact hb
  | _=>exact hb.elim
 | loop rd f nt env ps a c gK=>cases mb with
  | cO b=>obtain⟨e',h1,h2⟩:=hb;exact⟨e',h1,h2.sw hm hA⟩
  | _=>exact hb.elim
 | gone=>cases mb with
  | gone=>trivial
  | _=>exact hb.elim
end
theorem a1X {call:ay} {fv v:PV X.Γ} {xs:List (PV X.Γ)} {H H1:List (PB X.Γ)} {W:Nat->Prop} {r:Nat} {cs Jq:List (PV X.Γ)} (h0:H[r]? = some (.cells cs)) (h9:H1[r]? = some (.cells Jq)) (SE:A8 (H1.drop H.length)=true)
  (hs:KI X P call fv xs (H.set r (.fG cs)) v (H1.set r (.fG Jq)) W):KI X P call fv xs H v H1 fun k=>W k∧k≠r:=fun A m h tf nI hr hf hx=>by
 obtain⟨mb0,q1,q2⟩:=hr.at_ r _ h0;have WX:r<H.length:=(List.getElem?_eq_some_iff.1 h0).1;have XT:r<m.length:=by rw[hr.len];exact WX
 cases mb0 with
 | cO c=>
  obtain⟨cs',q3,q4⟩:=q2;have SH:c∈aK m:=aC q1 rfl;have hch:=(List.getElem?_eq_some_iff.1 q3).1;have hm:SwM m (m.set r (.cZ c)):=fun i=>by
   by_cases e:i=r
   ·subst e;exact .inr (.inl ⟨c,q1,by rw[List.getElem?_set_self XT]⟩)
   ·exact .inl (by rw[List.getElem?_set_ne (fun h=>e h.symm)])
  have old:∀ {i b:Nat},xJ (m.set r (.cZ c)) i b->i≠r∧xJ m i b:=fun {i b} ho=>by
   obtain⟨mb,a1,a2⟩:=ho;by_cases e:i=r
   ·subst e;rw[List.getElem?_set_self XT] at a1;cases a1;cases a2
   ·rw[List.getElem?_set_ne (fun h=>e h.symm)] at a1;exact⟨e,mb,a1,a2⟩
  have ji:∀ b,b∈aK (m.set r (.cZ c))->b∈aK m∧b≠c:=fun b hb=>by
   obtain⟨i,hi⟩:=fZ hb;obtain⟨e,mb,a1,a2⟩:=old hi;refine⟨aC a1 a2,fun e2=>?_⟩;subst e2;exact e (dI hr.nodup a1 q1 a2 rfl)
  have hA:∀ b,AA A m b->AA (fun b=>A b∧b≠c) (m.set r (.cZ c)) b:=fun b hb=>⟨⟨hb.1,fun e=>hb.2 (e▸SH)⟩,fun h=>hb.2 (ji b h).1⟩;have hr2:HR X P (fun b=>A b∧b≠c) (m.set r (.cZ c)) (H.set r (.fG cs)) h:=by
   refine⟨by simp[hr.len],fun i b hi=>?_,eY fun i j d a1 a2=>?_,fun b hb=>⟨hr.up b hb,by omega⟩,fun b hb=>⟨hr.yK b (ji b hb).1,(ji b hb).2⟩⟩
   ·by_cases e:i=r
    ·subst e;rw[List.getElem?_set_self WX] at hi;cases hi;exact⟨.cZ c,by rw[List.getElem?_set_self XT],fun h=>(ji c h).2 rfl,cs',q3,q4.sw hm hA⟩
    ·rw[List.getElem?_set_ne (fun h=>e h.symm)] at hi;obtain⟨mb,g1,g2⟩:=hr.at_ i b hi;exact⟨mb,by rw[List.getElem?_set_ne (fun h=>e h.symm)];exact g1,g2.sw hm hA fun d _ hn h=>hn (ji d h).1⟩
   ·obtain⟨_,ma,u1,u2⟩:=old a1;obtain⟨_,mc,v1,v2⟩:=old a2;exact dI hr.nodup u1 v1 u2 v2
  obtain⟨w,h1,ws,m1,c1,c2,c3,c4,c5,c6⟩:=hs (fun b=>A b∧b≠c) (m.set r (.cZ c)) h tf nI hr2 (hf.sw hm hA) (hx.sw hm hA)
  ·have a1Z:r<H1.length:=(List.getElem?_eq_some_iff.1 h9).1;obtain⟨mb1,e1,e2⟩:=c2.at_ r (.fG Jq) (by rw[List.getElem?_set_self a1Z]);have e3:=c5 r (.cZ c) (by rw[List.getElem?_set_self XT]);have e4:mb1=.cZ c:=by
    rcases e3 with e3 | e3<;>rw[e1] at e3<;>cases e3
    ·rfl
    ·exact e2.elim
   subst e4;obtain⟨p0,X5,p1,p2⟩:=e2;have Af:r<m1.length:=(List.getElem?_eq_some_iff.1 e1).1;have Io:SwM m1 (m1.set r (.cO c)):=fun i=>by
    by_cases e:i=r
    ·subst e;exact .inr (.inr ⟨c,e1,by rw[List.getElem?_set_self Af]⟩)
    ·exact .inl (by rw[List.getElem?_set_ne (fun h=>e h.symm)])
   have UW:∀ {i:Nat} {mb:MB},i≠r->(m1.set r (.cO c))[i]? = some mb->m1[i]? = some mb:=fun {i mb} e h=>by rw[List.getElem?_set_ne (fun h=>e h.symm)] at h;exact h
   have uU:∀ b,b∈aK (m1.set r (.cO c))->b=c∨b∈aK m1:=fun b hb=>by
    obtain⟨i,mb,a1,a2⟩:=fZ hb;by_cases e:i=r
    ·subst e;rw[List.getElem?_set_self Af] at a1;cases a1;cases a2;exact .inl rfl
    ·exact .inr (aC (UW e a1) a2)
   have hA1:∀ b,AA (fun b=>A b∧b≠c) m1 b->AA A (m1.set r (.cO c)) b:=fun b hb=>⟨hb.1.1,fun h=>by
    rcases uU b h with e | e
    ·exact hb.1.2 e
    ·exact hb.2 e⟩
   refine⟨w,h1,ws,m1.set r (.cO c),c1,⟨by rw[List.length_set,c2.len,List.length_set],fun i b hi=>?_,eY fun i j d a1 a2=>?_,fun b hb=>(c2.up b hb).1,fun b hb=>?_⟩,c3.sw Io hA1,⟨c4.len,fun b hb hn=>c4.same b hb fun h=>hn (ji b h).1,fun b hb=>?_,c4.grow⟩,fun i mb hi=>?_,fun b hb=>?_⟩
   ·by_cases e:i=r
    ·subst e;rw[h9] at hi;cases hi;exact⟨.cO c,by rw[List.getElem?_set_self Af],X5,p1,p2.sw Io hA1⟩
    ·obtain⟨mb,g1,g2⟩:=c2.at_ i b (by rw[List.getElem?_set_ne (fun h=>e h.symm)];exact hi);refine⟨mb,by rw[List.getElem?_set_ne (fun h=>e h.symm)];exact g1,g2.sw Io hA1 fun d hd hn hd2=>?_⟩;subst hd;rcases uU d hd2 with e5 | e5
     ·subst e5;rcases Nat.lt_or_ge i m.length with aN | zF
      ·have WS:(m.set r (.cZ d))[i]? = m[i]?:=(by rw[List.getElem?_set_ne (fun h=>e h.symm)]);have hmi:m[i]? = some (.cZ d):=by
        rcases c5 i m[i] (by rw[WS];exact List.getElem?_eq_getElem aN) with e6 | e6<;>rw[g1] at e6<;>simp only[Option.some.injEq] at e6
        ·rw[List.getElem?_eq_getElem aN,<-e6]
        ·cases e6
       have hlH:i<H.length:=by rw[<-hr.len];exact aN
       obtain⟨mb9,e7,e8⟩:=hr.at_ i _ (List.getElem?_eq_getElem hlH);rw[hmi] at e7;cases e7;generalize H[i]=b9 at e8;cases b9<;>first | exact e8.elim | exact e8.1 SH
      ·have e6:(H1.drop H.length)[i-H.length]? = some b:=by rw[List.getElem?_drop,<-hi];congr 1;rw[hr.len] at zF;omega
       have e7:=CZ SE e6;cases b<;>first | exact g2.elim | cases e7
     ·exact hn e5
   ·obtain⟨ma,u1,u2⟩:=a1;obtain⟨mc,v1,v2⟩:=a2;by_cases e:i=r<;>by_cases e':j=r
    ·rw[e,e']
    ·subst e;rw[List.getElem?_set_self Af] at u1;cases u1;cases u2;exact absurd (aC (UW e' v1) v2) p0
    ·subst e';rw[List.getElem?_set_self Af] at v1;cases v1;cases v2;exact absurd (aC (UW e u1) u2) p0
    ·exact dI c2.nodup (UW e u1) (UW e' v1) u2 v2
   ·rcases uU b hb with e | e
    ·subst e;exact hr.yK _ SH
    ·exact (c2.yK b e).1
   ·rcases uU b hb with e | e
    ·subst e;exact .inl SH
    ·rcases c4.new b e with g | g
     ·exact .inl (ji b g).1
     ·exact .inr g
   ·by_cases e:i=r
    ·subst e;rw[q1] at hi;cases hi;exact .inl (by rw[List.getElem?_set_self Af])
    ·rw[List.getElem?_set_ne (fun h=>e h.symm)];exact c5 i mb (by rw[List.getElem?_set_ne (fun h=>e h.symm)];exact hi)
   ·obtain⟨k,k1,k2⟩:=c6 b hb;obtain⟨k3,k4⟩:=old k2;exact⟨k,⟨k1,k3⟩,k4⟩
 | _=>exact q2.elim
theorem XU {call:ay} {fv v:PV X.Γ} {xs:List (PV X.Γ)} {H H1:List (PB X.Γ)} {W:Nat->Prop} {r:Nat} {es es1:List (PV X.Γ×PV X.Γ)} (h0:H[r]? = some (.map es)) (h9:H1[r]? = some (.map es1)) (SE:A8 (H1.drop H.length)=true)
  (hs:KI X P call fv xs (H.set r (.vV es)) v (H1.set r (.vV es1)) W):KI X P call fv xs H v H1 fun k=>W k∧k≠r:=fun A m h tf nI hr hf hx=>by
 obtain⟨mb0,q1,q2⟩:=hr.at_ r _ h0;have WX:r<H.length:=(List.getElem?_eq_some_iff.1 h0).1;have XT:r<m.length:=by rw[hr.len];exact WX
 cases mb0 with
 | cO c=>
  obtain⟨cs',q3,q4⟩:=q2;have SH:c∈aK m:=aC q1 rfl;have hch:=(List.getElem?_eq_some_iff.1 q3).1;have hm:SwM m (m.set r (.cZ c)):=fun i=>by
   by_cases e:i=r
   ·subst e;exact .inr (.inl ⟨c,q1,by rw[List.getElem?_set_self XT]⟩)
   ·exact .inl (by rw[List.getElem?_set_ne (fun h=>e h.symm)])
  have old:∀ {i b:Nat},xJ (m.set r (.cZ c)) i b->i≠r∧xJ m i b:=fun {i b} ho=>by
   obtain⟨mb,a1,a2⟩:=ho;by_cases e:i=r
   ·subst e;rw[List.getElem?_set_self XT] at a1;cases a1;cases a2
   ·rw[List.getElem?_set_ne (fun h=>e h.symm)] at a1;exact⟨e,mb,a1,a2⟩
  have ji:∀ b,b∈aK (m.set r (.cZ c))->b∈aK m∧b≠c:=fun b hb=>by
   obtain⟨i,hi⟩:=fZ hb;obtain⟨e,mb,a1,a2⟩:=old hi;refine⟨aC a1 a2,fun e2=>?_⟩;subst e2;exact e (dI hr.nodup a1 q1 a2 rfl)
  have hA:∀ b,AA A m b->AA (fun b=>A b∧b≠c) (m.set r (.cZ c)) b:=fun b hb=>⟨⟨hb.1,fun e=>hb.2 (e▸SH)⟩,fun h=>hb.2 (ji b h).1⟩;have hr2:HR X P (fun b=>A b∧b≠c) (m.set r (.cZ c)) (H.set r (.vV es)) h:=by
   refine⟨by simp[hr.len],fun i b hi=>?_,eY fun i j d a1 a2=>?_,fun b hb=>⟨hr.up b hb,by omega⟩,fun b hb=>⟨hr.yK b (ji b hb).1,(ji b hb).2⟩⟩
   ·by_cases e:i=r
    ·subst e;rw[List.getElem?_set_self WX] at hi;cases hi;exact⟨.cZ c,by rw[List.getElem?_set_self XT],fun h=>(ji c h).2 rfl,cs',q3,q4⟩
    ·rw[List.getElem?_set_ne (fun h=>e h.symm)] at hi;obtain⟨mb,g1,g2⟩:=hr.at_ i b hi;exact⟨mb,by rw[List.getElem?_set_ne (fun h=>e h.symm)];exact g1,g2.sw hm hA fun d _ hn h=>hn (ji d h).1⟩
   ·obtain⟨_,ma,u1,u2⟩:=old a1;obtain⟨_,mc,v1,v2⟩:=old a2;exact dI hr.nodup u1 v1 u2 v2
  obtain⟨w,h1,ws,m1,c1,c2,c3,c4,c5,c6⟩:=hs (fun b=>A b∧b≠c) (m.set r (.cZ c)) h tf nI hr2 (hf.sw hm hA) (hx.sw hm hA)
  ·have a1Z:r<H1.length:=(List.getElem?_eq_some_iff.1 h9).1;obtain⟨mb1,e1,e2⟩:=c2.at_ r (.vV es1) (by rw[List.getElem?_set_self a1Z]);have e3:=c5 r (.cZ c) (by rw[List.getElem?_set_self XT]);have e4:mb1=.cZ c:=by
    rcases e3 with e3 | e3<;>rw[e1] at e3<;>cases e3
    ·rfl
    ·exact e2.elim
   subst e4;obtain⟨p0,X5,p1,p2⟩:=e2;have Af:r<m1.length:=(List.getElem?_eq_some_iff.1 e1).1;have Io:SwM m1 (m1.set r (.cO c)):=fun i=>by
    by_cases e:i=r
    ·subst e;exact .inr (.inr ⟨c,e1,by rw[List.getElem?_set_self Af]⟩)
    ·exact .inl (by rw[List.getElem?_set_ne (fun h=>e h.symm)])
   have UW:∀ {i:Nat} {mb:MB},i≠r->(m1.set r (.cO c))[i]? = some mb->m1[i]? = some mb:=fun {i mb} e h=>by rw[List.getElem?_set_ne (fun h=>e h.symm)] at h;exact h
   have uU:∀ b,b∈aK (m1.set r (.cO c))->b=c∨b∈aK m1:=fun b hb=>by
    obtain⟨i,mb,a1,a2⟩:=fZ hb;by_cases e:i=r
    ·subst e;rw[List.getElem?_set_self Af] at a1;cases a1;cases a2;exact .inl rfl
    ·exact .inr (aC (UW e a1) a2)
   have hA1:∀ b,AA (fun b=>A b∧b≠c) m1 b->AA A (m1.set r (.cO c)) b:=fun b hb=>⟨hb.1.1,fun h=>by
    rcases uU b h with e | e
    ·exact hb.1.2 e
    ·exact hb.2 e⟩
   refine⟨w,h1,ws,m1.set r (.cO c),c1,⟨by rw[List.length_set,c2.len,List.length_set],fun i b hi=>?_,eY fun i j d a1 a2=>?_,fun b hb=>(c2.up b hb).1,fun b hb=>?_⟩,c3.sw Io hA1,⟨c4.len,fun b hb hn=>c4.same b hb fun h=>hn (ji b h).1,fun b hb=>?_,c4.grow⟩,fun i mb hi=>?_,fun b hb=>?_⟩
   ·by_cases e:i=r
    ·subst e;rw[h9] at hi;cases hi;exact⟨.cO c,by rw[List.getElem?_set_self Af],X5,p1,p2⟩
    ·obtain⟨mb,g1,g2⟩:=c2.at_ i b (by rw[List.getElem?_set_ne (fun h=>e h.symm)];exact hi);refine⟨mb,by rw[List.getElem?_set_ne (fun h=>e h.symm)];exact g1,g2.sw Io hA1 fun d hd hn hd2=>?_⟩;subst hd;rcases uU d hd2 with e5 | e5
     ·subst e5;rcases Nat.lt_or_ge i m.length with aN | zF
      ·have WS:(m.set r (.cZ d))[i]? = m[i]?:=(by rw[List.getElem?_set_ne (fun h=>e h.symm)]);have hmi:m[i]? = some (.cZ d):=by
        rcases c5 i m[i] (by rw[WS];exact List.getElem?_eq_getElem aN) with e6 | e6<;>rw[g1] at e6<;>simp only[Option.some.injEq] at e6
        ·rw[List.getElem?_eq_getElem aN,<-e6]
        ·cases e6
       have hlH:i<H.length:=by rw[<-hr.len];exact aN
       obtain⟨mb9,e7,e8⟩:=hr.at_ i _ (List.getElem?_eq_getElem hlH);rw[hmi] at e7;cases e7;generalize H[i]=b9 at e8;cases b9<;>first | exact e8.elim | exact e8.1 SH
      ·have e6:(H1.drop H.length)[i-H.length]? = some b:=by rw[List.getElem?_drop,<-hi];congr 1;rw[hr.len] at zF;omega
       have e7:=CZ SE e6;cases b<;>first | exact g2.elim | cases e7
     ·exact hn e5
   ·obtain⟨ma,u1,u2⟩:=a1;obtain⟨mc,v1,v2⟩:=a2;by_cases e:i=r<;>by_cases e':j=r
    ·rw[e,e']
    ·subst e;rw[List.getElem?_set_self Af] at u1;cases u1;cases u2;exact absurd (aC (UW e' v1) v2) p0
    ·subst e';rw[List.getElem?_set_self Af] at v1;cases v1;cases v2;exact absurd (aC (UW e u1) u2) p0
    ·exact dI c2.nodup (UW e u1) (UW e' v1) u2 v2
   ·rcases uU b hb with e | e
    ·subst e;exact hr.yK _ SH
    ·exact (c2.yK b e).1
   ·rcases uU b hb with e | e
    ·subst e;exact .inl SH
    ·rcases c4.new b e with g | g
     ·exact .inl (ji b g).1
     ·exact .inr g
   ·by_cases e:i=r
    ·subst e;rw[q1] at hi;cases hi;exact .inl (by rw[List.getElem?_set_self Af])
    ·rw[List.getElem?_set_ne (fun h=>e h.symm)];exact c5 i mb (by rw[List.getElem?_set_ne (fun h=>e h.symm)];exact hi)
   ·obtain⟨k,k1,k2⟩:=c6 b hb;obtain⟨k3,k4⟩:=old k2;exact⟨k,⟨k1,k3⟩,k4⟩
 | _=>exact q2.elim
theorem NS {call:ay} {fv v:PV X.Γ} {xs:List (PV X.Γ)} {W:Nat->Prop}:∀ {rs:List Nat} {H H1 Hr LH:List (PB X.Γ)},roB rs H H1=some (Hr,LH)->A8 (H1.drop H.length)=true->KI X P call fv xs Hr v LH W->KI X P call fv xs H v H1 fun k=>W k∧k∉rs
 | [],H,H1,Hr,LH,h1,hn,hs=>by
  simp only[roB,Option.some.injEq,Prod.mk.injEq] at h1;obtain⟨rfl,rfl⟩:=h1;intro A m h tf nI a b c;obtain⟨w,h1,ws,m1,c1,c2,c3,c4,c5,c6⟩:=hs A m h tf nI a b c;exact⟨w,h1,ws,m1,c1,c2,c3,c4,c5,fun b hb=>by obtain⟨k,k1,k2⟩:=c6 b hb;exact⟨k,⟨k1,by simp⟩,k2⟩⟩
 | r::rs,H,H1,Hr,LH,h1,hn,hs=>by
  simp only[roB] at h1;split at h1
  ·rename_i cs Jq e1 e2;have aN:r<H.length:=(List.getElem?_eq_some_iff.1 e1).1;have:=a1X e1 e2 hn (NS h1 (by rw[List.length_set,List.drop_set_of_lt aN];exact hn) hs);intro A m h tf nI a b c;obtain⟨w,h1,ws,m1,c1,c2,c3,c4,c5,c6⟩:=this A m h tf nI a b c;exact⟨w,h1,ws,m1,c1,c2,c3,c4,c5,fun b hb=>by obtain⟨k,⟨⟨k1,k3⟩,k4⟩,k2⟩:=c6 b hb;exact⟨k,⟨k1,by simp[k3,k4]⟩,k2⟩⟩
  ·rename_i cs Jq e1 e2;have aN:r<H.length:=(List.getElem?_eq_some_iff.1 e1).1;have:=XU e1 e2 hn (NS h1 (by rw[List.length_set,List.drop_set_of_lt aN];exact hn) hs);intro A m h tf nI a b c;obtain⟨w,h1,ws,m1,c1,c2,c3,c4,c5,c6⟩:=this A m h tf nI a b c;exact⟨w,h1,ws,m1,c1,c2,c3,c4,c5,fun b hb=>by obtain⟨k,⟨⟨k1,k3⟩,k4⟩,k2⟩:=c6 b hb;exact⟨k,⟨k1,by simp[k3,k4]⟩,k2⟩⟩
  cases h1
theorem KJ {α:Type} {rs:List Nat}:∀ {ks:List α} {i p:Nat} {k:α},ks[p]? = some k->i+p∉rs->k∈Rk rs i ks
 | [],_,_,_,h,_=>by simp at h
 | a::ks,i,0,k,h,hn=>by
  simp only[List.getElem?_cons_zero,Option.some.injEq] at h;subst h;simp only[Rk];rw[if_neg (by simpa using hn)];exact List.mem_cons_self
 | a::ks,i,p+1,k,h,hn=>by
  have:=KJ (ks:=ks) (i:=i+1) (p:=p) (k:=k) (by simpa using h) (by rwa [Nat.add_right_comm,Nat.add_assoc] );simp only[Rk];split
  ·exact this
  exact List.mem_cons_of_mem _ this
theorem Ag (hX:aU X P) {call:ay} {ks:List Nat} {H' Hp H H1 LH:List (PB X.Γ)} {fv fv' v v':PV X.Γ} {xs xs':List (PV X.Γ)} {W:Nat->Prop} (hs:KI X P call fv xs H v H1 W)
  (lH:ks.Nodup) (hp:tV H' ks=some Hp) (hH:iM (ni ks) Hp=some H) (hf:bT (ni ks) fv'=some fv) (hx:bT.jg (ni ks) xs'=some xs)
  (hv:bT (bk ks H'.length) v=some v') (hH1:iM (bk ks H'.length) H1=some LH) (SE:A8 (H1.drop ks.length)=true) :
  ∀ (A:Nat->Prop) (m':List MB) (h:List HB) (tf:TV) (nI:List TV),HR X P A m' H' h->VR X P (AA A m') m' h fv' tf->aH X P (AA A m') m' h xs' nI ->
  ∃ w h1 ws m1,call tf nI h=some (w,h1,ws)∧HR X P A m1 (putAt ks LH H'++LH.drop ks.length) h1∧VR X P (AA A m1) m1 h1 v' w∧Fr m' h m1 h1∧Up m' m1∧∀ b∈ws,∃ p k,ks[p]? = some k∧W p∧xJ m' k b:=by
 intro A m' h tf nI hr hf' FX;have hpg:=vI hp;have hHg:=kS hH;have hkH:∀ {p k:Nat},ks[p]? = some k->k<m'.length:=fun {p k} hk=>by
  obtain⟨b,q1,_⟩:=hpg.2 hk;rw[hr.len];exact (List.getElem?_eq_some_iff.1 q1).1
 have hkm:∀ k∈ks,k<m'.length:=fun k hk=>by
  obtain⟨i,hi⟩:=List.getElem?_of_mem hk;exact hkH hi
 let m:List MB:=ks.map fun k=>m'.getD k .gone
 have hm:∀ {p k:Nat},ks[p]? = some k->m[p]? = m'[k]?:=fun {p k} hk=>by
  show (ks.map _)[p]? = _;rw[List.getElem?_map,hk];have:=hkH hk;simp[List.getD_eq_getElem?_getD,this]
 have UY:m.length=ks.length:=List.length_map ..;have Hw:∀ {p:Nat} {mb:MB},m[p]? = some mb->∃ k,ks[p]? = some k∧m'[k]? = some mb:=fun {p mb} hpm=>by
  have:p<ks.length:=by rw[<-UY];exact (List.getElem?_eq_some_iff.1 hpm).1
  have hk:=List.getElem?_eq_getElem this;exact⟨_,hk,by rw[<-hm hk];exact hpm⟩
 have ji:∀ b,b∈aK m->b∈aK m':=fun b hb=>by
  obtain⟨j,mb,q1,q2⟩:=fZ hb;obtain⟨k,_,q3⟩:=Hw q1;exact aC q3 q2
 have a2b:∀ {i:Nat} {mb:MB} {b:Nat},i∉ks->m'[i]? = some mb->mb.own=some b->b∉aK m:=fun {i mb b} hi h1 h2 hb=>by
  obtain⟨j,mc,q1,q2⟩:=fZ hb;obtain⟨k,q3,q4⟩:=Hw q1;have:=dI hr.nodup h1 q4 h2 q2;subst this;exact hi (List.mem_of_getElem? q3)
 let A2:Nat->Prop:=fun b=>A b∧(b∈aK m'->b∈aK m)
 have hA:∀ b,AA A m' b->AA A2 m b:=fun b hb=>⟨⟨hb.1,fun h9=>absurd h9 hb.2⟩,fun h9=>hb.2 (ji b h9)⟩;have hg:∀ i j,ni ks i=some j->m[j]? = m'[i]?:=fun i j BN=>hm (EJ BN);have hr2:HR X P A2 m H h:=by
  refine⟨by rw[UY,hHg.1,hpg.1],fun j b hj=>?_,eY fun i j c q1 q2=>?_,fun b hb=>⟨hr.up b hb,fun h9=>absurd (hr.inb h9) (by omega)⟩,fun b hb=>⟨hr.yK b (ji b hb),fun _=>hb⟩⟩
  ·obtain⟨b0,q1,q2⟩:=hHg.2 hj;have LD:j<ks.length:=by rw[<-hpg.1];exact (List.getElem?_eq_some_iff.1 q1).1
   have hk:=List.getElem?_eq_getElem LD;obtain⟨b9,q5,q6⟩:=hpg.2 hk;rw[q1] at q6;cases q6;obtain⟨mb,q3,q4⟩:=hr.at_ _ _ q5;exact⟨mb,by rw[hm hk];exact q3,vH hX hg hA (fun c _ h9 h8=>h9 (ji c h8)) q4 q2⟩
  ·obtain⟨ma,a1,a2⟩:=q1;obtain⟨mc,c1,c2⟩:=q2;obtain⟨k,a3,a4⟩:=Hw a1;obtain⟨l,c3,c4⟩:=Hw c1;have e:=dI hr.nodup a4 c4 a2 c2;subst e;exact (List.getElem?_inj (List.getElem?_eq_some_iff.1 a3).1 lH).1 (by rw[a3,c3])
 obtain⟨w,h1,ws,m1,c1,c2,c3,c4,c5,c6⟩:=hs A2 m h tf nI hr2 (CY hg hA hX hf' hf) (qp hX hg hA FX hx);have UZ:ks.length<=m1.length:=by
  rcases Nat.eq_zero_or_pos ks.length with e | e
  ·omega
  ·have aN:ks.length-1<m.length:=(by omega);have:=c5 (ks.length-1) m[ks.length-1] (List.getElem?_eq_getElem aN);rcases this with g | g<;>(have:=(List.getElem?_eq_some_iff.1 g).1;omega)
 let SI:List MB:=putAt ks m1 m'++m1.drop ks.length
 have hn:m'.length=H'.length:=hr.len;have XV:(putAt ks m1 m').length=m'.length:=kT;have PZ:∀ {p k:Nat},ks[p]? = some k->SI[k]? = m1[p]?:=fun {p k} hk=>by
  show (putAt ks m1 m'++_)[k]? = _;rw[List.getElem?_append_left (by rw[XV];exact hkH hk),EM lH hkm UZ hk]
 have NT:∀ {i:Nat},i<m'.length->i∉ks->SI[i]? = m'[i]?:=fun {i} hi hk=>by
  show (putAt ks m1 m'++_)[i]? = _;rw[List.getElem?_append_left (by rw[XV];exact hi),Ae hk]
 have NU:∀ {j:Nat},ks.length<=j->SI[m'.length+(j-ks.length)]? = m1[j]?:=fun {j} hj=>by
  show (putAt ks m1 m'++_)[_]? = _;rw[List.getElem?_append_right (by rw[XV];omega),XV,Nat.add_sub_cancel_left,List.getElem?_drop];congr 1;omega
 have hgb:∀ j i,bk ks H'.length j=some i->SI[i]? = m1[j]?:=fun j i BN=>by
  unfold bk at BN;split at BN
  ·rename_i k hk;cases BN;exact PZ hk
  ·rename_i hk;cases BN;rw[<-hn];exact NU (by rw[List.getElem?_eq_none_iff] at hk;exact hk)
 have yt:∀ {i:Nat} {mb:MB},SI[i]? = some mb->(∃ p,ks[p]? = some i∧m1[p]? = some mb)∨(i<m'.length∧i∉ks∧m'[i]? = some mb)∨(∃ j,ks.length<=j∧i=m'.length+(j-ks.length)∧m1[j]? = some mb):=fun {i mb} hi=>by
  rcases Nat.lt_or_ge i m'.length with aN | zF
  ·by_cases hk:i∈ks
   ·obtain⟨p,hp⟩:=List.getElem?_of_mem hk;exact .inl ⟨p,hp,by rw[<-PZ hp];exact hi⟩
   ·exact .inr (.inl ⟨aN,hk,by rw[<-NT aN hk];exact hi⟩)
  ·refine .inr (.inr ⟨i-m'.length+ks.length,by omega,by omega,?_⟩);rw[<-NU (by omega)];rw[<-hi];congr 1;omega
 have mD:∀ {b:Nat},b∈aK SI->b∈aK m1∨∃ i mb,i∉ks∧m'[i]? = some mb∧mb.own=some b:=fun {b} hb=>by
  obtain⟨i,mb,q1,q2⟩:=fZ hb;rcases yt q1 with⟨p,_,q3⟩ | ⟨_,q3,q4⟩ | ⟨j,_,_,q3⟩
  ·exact .inl (aC q3 q2)
  ·exact .inr ⟨i,mb,q3,q4,q2⟩
  ·exact .inl (aC q3 q2)
 have XW:∀ {i b:Nat} {mb:MB},i∉ks->m'[i]? = some mb->mb.own=some b->b∉aK m1:=fun {i b mb} h1 h2 h3 h4=>by
  rcases c4.new b h4 with g | g
  ·exact a2b h1 h2 h3 g
  ·exact absurd (hr.inb (aC h2 h3)) (by omega)
 have hA3:∀ b,AA A2 m1 b->AA A SI b:=fun b hb=>⟨hb.1.1,fun h9=>by
  rcases mD h9 with g | ⟨i,mb,g1,g2,g3⟩
  ·exact hb.2 g
  ·exact a2b g1 g2 g3 (hb.1.2 (aC g2 g3))⟩
 have hF:Fr m' h SI h1:=⟨c4.len,fun b hb LC=>c4.same b hb fun h9=>LC (ji b h9),fun b hb=>by
  rcases mD hb with g | ⟨i,mb,g1,g2,g3⟩
  ·rcases c4.new b g with g | g
   ·exact .inl (ji b g)
   ·exact .inr g
  ·exact .inl (aC g2 g3),c4.grow⟩
 have hU:Up m' SI:=fun i mb hi=>by
  have aN:=(List.getElem?_eq_some_iff.1 hi).1;by_cases hk:i∈ks
  ·obtain⟨p,hp⟩:=List.getElem?_of_mem hk;rw[PZ hp];exact c5 p mb (by rw[hm hp];exact hi)
  ·exact .inl (by rw[NT aN hk];exact hi)
 have a2c:=kS hH1;have a5E:m1.length=H1.length:=c2.len;refine⟨w,h1,ws,SI,c1,⟨?_,fun i b hi=>?_,?_,fun b hb=>(c2.up b hb).1,fun b hb=>?_⟩,CY hgb hA3 hX c3 hv,hF,hU,fun b hb=>?_⟩
 ·show (putAt ks m1 m'++_).length=_;rw[List.length_append,List.length_append,kT,kT,List.length_drop,List.length_drop,a2c.1,a5E,hn]
 ·have a5F:ks.length<=LH.length:=by rw[a2c.1,<-a5E];exact UZ
  have a9O:∀ k∈ks,k<H'.length:=fun k hk=>by rw[<-hn];exact hkm k hk
  have back:∀ {j:Nat} {b:PB X.Γ},LH[j]? = some b->∃ mb,m1[j]? = some mb∧BR X P (AA A SI) SI h1 b mb:=fun {j b} hj=>by
   obtain⟨b0,q1,q2⟩:=a2c.2 hj;obtain⟨mb,q3,q4⟩:=c2.at_ j b0 q1;refine⟨mb,q3,vH hX hgb hA3 (fun c e h9 h8=>?_) q4 q2⟩;rcases mD h8 with g | ⟨i,BP,g1,g2,g3⟩
   ·exact h9 g
   ·subst e;rcases Nat.lt_or_ge j ks.length with hj1 | hj1
    ·have hk:=List.getElem?_eq_getElem hj1;have LD:j<m.length:=by rw[UY];exact hj1
     have hmj:m[j]? = some (.cZ c):=by
      rcases c5 j _ (List.getElem?_eq_getElem LD) with e | e<;>rw[q3] at e<;>simp only[Option.some.injEq] at e
      ·rw[List.getElem?_eq_getElem LD,<-e]
      ·cases e
     obtain⟨k,e1,e2⟩:=Hw hmj;obtain⟨b9,e3,_⟩:=hpg.2 e1;obtain⟨mb9,e4,e5⟩:=hr.at_ _ _ e3;rw[e2] at e4;cases e4;cases b9<;>first | exact e5.elim | exact e5.1 (aC g2 g3)
    ·have e1:(H1.drop ks.length)[j-ks.length]? = some b0:=by rw[List.getElem?_drop,<-q1];congr 1;omega
     have e2:=CZ SE e1;cases b0<;>first | exact q4.elim | cases e2
  rcases Nat.lt_or_ge i H'.length with aN | zF
  ·rw[List.getElem?_append_left (by rw[kT];exact aN)] at hi;by_cases hk:i∈ks
   ·obtain⟨p,hpk⟩:=List.getElem?_of_mem hk;rw[EM lH a9O a5F hpk] at hi;obtain⟨mb,q1,q2⟩:=back hi;exact⟨mb,by rw[PZ hpk];exact q1,q2⟩
   ·rw[Ae hk] at hi;obtain⟨mb,q1,q2⟩:=hr.at_ i b hi;refine⟨mb,by rw[NT (by rw[hn];exact aN) hk];exact q1,q2.step hF hU fun c hc=>?_⟩;exact c4.same c (hr.inb (aC q1 hc)) (a2b hk q1 hc)
  ·rw[List.getElem?_append_right (by rw[kT];exact zF),kT,List.getElem?_drop] at hi;obtain⟨mb,q1,q2⟩:=back hi;refine⟨mb,?_,q2⟩;have:=NU (j:=ks.length+(i-H'.length)) (by omega);rw[q1] at this;rw[<-this];congr 1;omega
 ·refine eY fun i j c q1 q2=>?_;obtain⟨ma,a1,a2⟩:=q1;obtain⟨mc,b1,b2⟩:=q2;rcases yt a1 with⟨p,a3,a4⟩ | ⟨a3,a4,a5⟩ | ⟨p,a3,a4,a5⟩<;>rcases yt b1 with⟨q,b3,b4⟩ | ⟨b3,b4,b5⟩ | ⟨q,b3,b4,b5⟩
  ·have:=dI c2.nodup a4 b4 a2 b2;subst this;rw[a3] at b3;cases b3;rfl
  ·exact absurd (aC a4 a2) (XW b4 b5 b2)
  ·have:=dI c2.nodup a4 b5 a2 b2;subst this;have:=(List.getElem?_eq_some_iff.1 a3).1;omega
  ·exact absurd (aC b4 b2) (XW a4 a5 a2)
  ·exact dI hr.nodup a5 b5 a2 b2
  ·exact absurd (aC b5 b2) (XW a4 a5 a2)
  ·have:=dI c2.nodup a5 b4 a2 b2;subst this;have:=(List.getElem?_eq_some_iff.1 b3).1;omega
  ·exact absurd (aC a5 a2) (XW b4 b5 b2)
  ·have:=dI c2.nodup a5 b5 a2 b2;subst this;omega
 ·rcases mD hb with g | ⟨i,mb,g1,g2,g3⟩
  ·exact (c2.yK b g).1
  ·exact hr.yK b (aC g2 g3)
 ·obtain⟨j,hw,mb,q1,q2⟩:=c6 b hb;obtain⟨k,q3,q4⟩:=Hw q1;exact⟨j,k,q3,hw,mb,q4,q2⟩
end
end Pv
