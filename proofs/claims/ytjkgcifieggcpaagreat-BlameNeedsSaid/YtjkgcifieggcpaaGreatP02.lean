/- Part 3 of a proof: closed runs of the given program, and the readings of its code that they use. -/
import Derived.Test.YtjkgcifieggcpaaGreatP01
set_option linter.constructorNameAsVariable false
set_option linter.unusedVariables false
set_option linter.unusedSimpArgs false
set_option linter.unusedSectionVars false
namespace Pv
open Go Tw
structure aT (X:gZ) (P:Program):Prop where
 dec:∀ {t:Nat} {vs:List (PV X.Γ)} {a:X.Γ t},X.dec t vs=some a→∀ {A:Nat→Prop} {m:List MB} {h:List HB} {xs:List TV},aG X P A m h vs xs→aG X P A m h (X.enc t a) xs
 dH:∀ (t:Nat) (a:X.Γ t),dH.sD (X.enc t a)=true
section
variable {X:gZ} {P:Program} {A B:Nat→Prop} {m m':List MB} {h h':List HB} {H H':List (PB X.Γ)}
theorem VR.mono (hAB:∀ b,A b→B b) {v:PV X.Γ} {x:TV} (hv:VR X P A m h v x):VR X P B m h v x:=by
 induction hv with
 | bool=>exact .bool _
 | lit=>exact .lit _
 | int=>exact .int _ _
 | str=>exact .str _
 | nil=>exact .nil _
 | ptr e=>exact .ptr e
 | slc e=>exact .slc e
 | own e o=>exact .own e o
 | win e q q' q2=>exact .win e q q' q2
 | nY e=>exact .nY e
 | map e=>exact .map e
 | iter e=>exact .iter e
 | fn h1 _ h3 _ i2 i4=>exact .fn h1 i2 h3 i4
 | iF e=>exact .iF e
 | agg h1 _ i2=>exact .agg h1 i2
 | bf h1 _ i2=>exact .bf h1 i2
 | jg=>exact .jg
 | lst a c c2 s z o k f e _ ih=>exact .lst (hAB _ a) c c2 s z o k f e ih
 | el a c l o e q _ ih=>exact .el (hAB _ a) c l o e q ih
 | row e j q=>exact .row e j q
 | gone i e o=>exact .gone i e o
theorem aG.mono (hAB:∀ b,A b→B b) {v:List (PV X.Γ)} {x:List TV} (hv:aG X P A m h v x):aG X P B m h v x:=⟨hv.1,fun i a b ha hb=>(hv.2 i a b ha hb).mono hAB⟩
theorem aY:∀ {vs:List (PV X.Γ)} {i:Nat} {v:PV X.Γ},dH.sD vs=true→vs[i]? = some v→dH v=true
 | [],_,_,_,h=>by simp at h
 | a::vs,i,v,hc,h=>by
  simp only[dH.sD,Bool.and_eq_true] at hc
  cases i with
  | zero=>simp only[List.getElem?_cons_zero,Option.some.injEq] at h;subst h;exact hc.1
  | succ i=>exact aY hc.2 (by simpa using h)
theorem VR.dH (hX:aT X P) {v:PV X.Γ} {x:TV} (hv:VR X P A m h v x) (hc:Pv.dH v=true):VR X P A m' h v x:=by
 induction hv with
 | bool=>exact .bool _
 | lit=>exact .lit _
 | int=>exact .int _ _
 | str=>exact .str _
 | nil=>exact .nil _
 | fn h1 _ h3 _ i2 i4=>
  simp only[Pv.dH,Bool.and_eq_true] at hc
  exact .fn h1 (fun i x y hx hy=>i2 i x y hx hy (aY hc.1 hx)) h3 (fun i x y hx hy=>i4 i x y hx hy (aY hc.2 hx))
 | agg h1 _ i2=>
  simp only[Pv.dH] at hc
  exact .agg h1 (fun i x y hx hy=>i2 i x y hx hy (aY hc hx))
 | bf h1 _ i2=>
  simp only[Pv.dH] at hc
  exact .bf h1 (fun i x y hx hy=>i2 i x y hx hy (aY hc hx))
 | jg=>exact .jg
 | lst a c c2 s z o k f e _ ih=>exact .lst a c c2 s z o k f e fun j y i d v h1 h2 h3=>ih j y i d v h1 h2 h3 (aY (hX.dH _ _) h2)
 | el a c l o e q _ ih=>exact .el a c l o e q fun i d v h1 h2=>ih i d v h1 h2 (aY (hX.dH _ _) h1)
 | gone i e o=>rename_i v _ _;cases v<;>simp[aF] at i<;>simp[Pv.dH] at hc
 | _=>simp[Pv.dH] at hc
theorem aG.dH (hX:aT X P) {v:List (PV X.Γ)} {x:List TV} (hv:aG X P A m h v x) (hc:dH.sD v=true):aG X P A m' h v x:=
 ⟨hv.1,fun i a b ha hb=>(hv.2 i a b ha hb).dH hX (aY hc ha)⟩
theorem aZ.dH (hX:aT X P) {t:Nat} {l:List (X.Γ t)} {cs:List TV} {off sz:Nat} (hv:aZ X P A m h t l cs off sz):aZ X P A m' h t l cs off sz:=
 ⟨hv.1,hv.2.1,fun j a i c v h1 h2 h3=>(hv.2.2 j a i c v h1 h2 h3).dH hX (aY (hX.dH _ _) h2)⟩
theorem aZ.mono (hAB:∀ b,A b→B b) {t:Nat} {l:List (X.Γ t)} {cs:List TV} {off sz:Nat} (hv:aZ X P A m h t l cs off sz):aZ X P B m h t l cs off sz:=
 ⟨hv.1,hv.2.1,fun j a i c v h1 h2 h3=>(hv.2.2 j a i c v h1 h2 h3).mono hAB⟩
theorem VR.move (hX:aT X P) (hA:∀ q cs,A q→aB h q=some cs→B q∧h'[q]? = h[q]?) {v:PV X.Γ} {x:TV} (hv:VR X P A m h v x) (hc:Pv.dH v=true):VR X P B m' h' v x:=by
 induction hv with
 | bool=>exact .bool _
 | lit=>exact .lit _
 | int=>exact .int _ _
 | str=>exact .str _
 | nil=>exact .nil _
 | fn h1 _ h3 _ i2 i4=>
  simp only[Pv.dH,Bool.and_eq_true] at hc
  exact .fn h1 (fun i x y hx hy=>i2 i x y hx hy (aY hc.1 hx)) h3 (fun i x y hx hy=>i4 i x y hx hy (aY hc.2 hx))
 | agg h1 _ i2=>
  simp only[Pv.dH] at hc
  exact .agg h1 (fun i x y hx hy=>i2 i x y hx hy (aY hc hx))
 | bf h1 _ i2=>
  simp only[Pv.dH] at hc
  exact .bf h1 (fun i x y hx hy=>i2 i x y hx hy (aY hc hx))
 | jg=>exact .jg
 | lst a c c2 s z o k f e _ ih=>obtain⟨a',c'⟩:=hA _ _ a c;exact .lst a' ((bI c').trans c) (fun hl=>(lQ c').trans (c2 hl)) s z o k f e fun j y i d v h1 h2 h3=>ih j y i d v h1 h2 h3 (aY (hX.dH _ _) h2)
 | el a c l o e q _ ih=>obtain⟨a',c'⟩:=hA _ _ a (nZ c);exact .el a' ((lQ c').trans c) l o e q fun i d v h1 h2=>ih i d v h1 h2 (aY (hX.dH _ _) h1)
 | gone i e o=>rename_i v _ _;cases v<;>simp[aF] at i<;>simp[Pv.dH] at hc
 | _=>simp[Pv.dH] at hc
theorem aZ.move (hX:aT X P) (hA:∀ q cs,A q→aB h q=some cs→B q∧h'[q]? = h[q]?) {t:Nat} {l:List (X.Γ t)} {cs:List TV} {off sz:Nat} (hv:aZ X P A m h t l cs off sz):aZ X P B m' h' t l cs off sz:=
 ⟨hv.1,hv.2.1,fun j a i c v h1 h2 h3=>(hv.2.2 j a i c v h1 h2 h3).move hX hA (aY (hX.dH _ _) h2)⟩
def FA (A:Nat→Prop) (m:List MB) (is:List Nat):Nat→Prop:=fun b=>AA A m b∨∃ i mb,i∈is∧m[i]? = some mb∧mb.own=some b
theorem FA.mono {is js:List Nat} (hs:∀ i,i∈is→i∈js) {b:Nat} (hb:FA A m is b):FA A m js b:=by
 rcases hb with h | ⟨i,mb,h1,h2,h3⟩
 ·exact .inl h
 ·exact .inr ⟨i,mb,hs i h1,h2,h3⟩
theorem Bf:∀ (is:List Nat) {m:List MB} {i:Nat} {mb:MB},(aS is m)[i]? = some mb→mb.own≠none→i∉is∧m[i]? = some mb
 | [],_,_,_,h,_=>⟨by simp,h⟩
 | j::is,m,i,mb,h,hn=>by
  obtain⟨h1,h2⟩:=Bf is (m:=m.set j .gone) h hn
  by_cases e:j=i
  ·subst e
   rw[List.getElem?_set_self'] at h2
   cases hx:m[j]? with
   | none=>rw[hx] at h2;cases h2
   | some y=>rw[hx] at h2;cases h2;exact absurd rfl hn
  ·rw[List.getElem?_set_ne e] at h2
   exact⟨by simp[h1,Ne.symm e],h2⟩
theorem oh {is:List Nat} {m:List MB} {b:Nat} (hb:b∈blks (aS is m)):∃ i mb,i∉is∧m[i]? = some mb∧mb.own=some b:=by
 obtain⟨mb,hm,ho⟩:=List.mem_filterMap.1 hb
 obtain⟨i,hi⟩:=List.getElem?_of_mem hm
 obtain⟨h1,h2⟩:=Bf is hi (by rw[ho];simp)
 exact⟨i,mb,h1,h2,ho⟩
theorem FA.gone (hr:HR X P A m H h) {is:List Nat} {b:Nat} (hb:FA A m is b):AA A (aS is m) b:=by
 rcases hb with hb | ⟨i,mb,h1,h2,h3⟩
 ·refine⟨hb.1,fun hm=>?_⟩
  obtain⟨i,mb,_,h2,h3⟩:=oh hm
  exact hb.2 (aC h2 h3)
 ·refine⟨hr.uS b (aC h2 h3),fun hm=>?_⟩
  obtain⟨j,mb',g1,g2,g3⟩:=oh hm
  have:=dw hr.nodup h2 g2 h3 g3
  exact g1 (this▸h1)
theorem DU (hX:aT X P) (hr:HR X P A m H h) {k ex:Bool} {t i:Nat} {l:List (X.Γ t)} {x:TV} (hl:LR X P (AA A m) m h k ex t l x) (hi:m[i]? = some (.lst x)) {is:List Nat} (hs:i∈is):VR X P (FA A m is) m' h (.lst t l false) x:=by
 cases hl with
 | nil=>exact .jg
 | emp h0 h1 h2 h3 h4=>exact .lst (.inl h0) h1 (fun e=>absurd rfl e) h3 h4 (by simpa using h2) (Nat.le_refl _) (by simp) (fun j a hj=>by simp at hj) (fun j a i c v hj=>by simp at hj)
 | some h1 h2 h3 h4 h5 h6 h7 h8 h9=>
  refine .lst (cs:=_) (.inr ⟨i,_,hs,hi,?_⟩) (by unfold aB;rw[h4]) (fun _=>o8 h4 (by omega)) h2 h3 (by omega) (Nat.le_refl _) (by simp) h9.1 ?_
  ·simp only[MB.own];rw[if_neg (by simpa using h1)]
  ·intro j a q c v e1 e2 e3
   exact ((h9.2.2 j a q c v e1 e2 e3).mono fun b hb=>.inl hb).dH hX (aY (hX.dH _ _) e2)
theorem VR.part {F:Nat→Prop} {t:Nat} {l:List (X.Γ t)} {fu:Bool} {b off len cap sz:Nat} {ex:Bool} (hv:VR X P F m h (.lst t l fu) (.slc b off len cap sz ex)) {o n cap':Nat} {ex' fu':Bool} (hn:o+n≤len) (hc:n≤cap') (hw:n=0∨o+cap'=cap) (hfu:fu'=true→ex'=true∧cap'=n) :
  VR X P F m h (.lst t ((l.drop o).take n) fu') (.slc b (off+o*sz) n cap' sz ex'):=by
 cases hv with
 | lst a c c2 s z ol k f e r=>
  have hlen:((l.drop o).take n).length=n:=by rw[List.length_take,List.length_drop];omega
  have:=@VR.lst X P F m h t ((l.drop o).take n) fu' b (off+o*sz) cap' sz ex' _ a c (fun hne=>by
   have h1:n≠0:=fun e=>hne (by subst e;simp)
   have h2:=hw.resolve_left h1
   have h3:off+o*sz+cap'*sz=off+cap*sz:=by rw[←h2,Nat.add_mul];omega
   rw[h3]
   exact c2 (fun e=>by subst e;simp at hlen;omega)) s z (by
   rw[hlen]
   have:(o+n)*sz≤l.length*sz:=Nat.mul_le_mul_right sz hn
   rw[Nat.add_mul] at this;omega) (by rw[hlen];exact hc) (by rw[hlen];exact hfu) (fun j y hy=>by
    rw[List.getElem?_take] at hy
    split at hy
    ·rw[List.getElem?_drop] at hy;exact e _ _ hy
    ·cases hy) (fun j y i d v hy h2 h3=>by
    rw[List.getElem?_take] at hy
    split at hy
    ·rw[List.getElem?_drop] at hy
     refine r _ _ i d v hy h2 ?_
     rw[←h3];congr 1;rw[Nat.add_mul];omega
    ·cases hy)
  rwa [hlen] at this
 | gone hi _ _=>simp[aF] at hi
mutual
theorem SS (hX:aT X P) (hr:HR X P A m H h):∀ {v w:PV X.Γ} {x:TV},VR X P (AA A m) m h v x→view H v=some w→∀ {is:List Nat},(∀ i,i∈owns v→i∈is)→VR X P (FA A m is) m' h w x
 | .own i,w,x,hv,hw,is,hs=>by
  simp only[view] at hw
  split at hw
  ·rename_i k ex t l hH
   cases hw
   obtain⟨mb,h1,h2⟩:=hr.at_ i _ hH
   cases mb with
   | lst y=>
    cases hv with
    | own e o=>rw[h1] at e;cases e;exact DU hX hr h2 h1 (hs i (by simp[owns]))
    | gone hi e o=>simp only[aF,Option.some.injEq] at hi;subst hi;rw[h1] at e;cases e
   | _=>exact h2.elim
  ·cases hw
 | .win i o n,w,x,hv,hw,is,hs=>by
  simp only[view] at hw
  split at hw
  ·rename_i k ex t l hH
   cases hw
   obtain⟨mb,h1,h2⟩:=hr.at_ i _ hH
   cases mb with
   | lst y=>
    have h2':LR X P (AA A m) m h k ex t l y:=h2
    have hfz:VR X P (FA A m is) m' h (.lst t l false) y:=DU hX hr h2' h1 (hs i (by simp[owns]))
    cases hv with
    | win e q q' q2=>
     rw[h1] at e;cases e
     exact hfz.part q q' q2 (by simp)
    | nY e=>
     rw[h1] at e;cases e
     cases h2' with
     | nil=>simp only[List.drop_nil,List.take_nil];exact .jg
    | gone hi e o=>simp only[aF,Option.some.injEq] at hi;subst hi;rw[h1] at e;cases e
   | _=>exact h2.elim
  ·cases hw
 | .fn f a c,w,x,hv,hw,is,hs=>by
  simp only[view] at hw
  split at hw
  ·rename_i a' c' h1 h2
   cases hw
   cases hv with
   | fn e1 e2 e3 e4=>
    have g1:=jh hX hr ⟨e1,e2⟩ h1 (is:=is) fun i hi=>hs i (by simp[owns,hi])
    have g2:=jh hX hr ⟨e3,e4⟩ h2 (is:=is) fun i hi=>hs i (by simp[owns,hi])
    exact .fn g1.1 g1.2 g2.1 g2.2
   | gone hi _ _=>simp[aF] at hi
  ·cases hw
 | .agg cs,w,x,hv,hw,is,hs=>by
  simp only[view,Option.map_eq_some_iff] at hw
  obtain⟨cs',h1,rfl⟩:=hw
  cases hv with
  | agg e1 e2=>have g1:=jh hX hr ⟨e1,e2⟩ h1 (is:=is) fun i hi=>hs i (by simp[owns,hi]);exact .agg g1.1 g1.2
  | gone hi _ _=>simp[aF] at hi
 | .bf cs,w,x,hv,hw,is,hs=>by
  simp only[view,Option.map_eq_some_iff] at hw
  obtain⟨cs',h1,rfl⟩:=hw
  cases hv with
  | bf e1 e2=>have g1:=jh hX hr ⟨e1,e2⟩ h1 (is:=is) fun i hi=>hs i (by simp[owns,hi]);exact .bf g1.1 g1.2
  | gone hi _ _=>simp[aF] at hi
 | .bool b,w,x,hv,hw,is,hs=>by simp only[view,Option.some.injEq] at hw;subst hw;exact (hv.mono fun b hb=>.inl hb).dH hX rfl
 | .lit b,w,x,hv,hw,is,hs=>by
  simp only[view,Option.some.injEq] at hw;subst hw
  cases hv with
  | lit=>exact .bool _
  | gone hi _ _=>simp[aF] at hi
 | .int k n,w,x,hv,hw,is,hs=>by simp only[view,Option.some.injEq] at hw;subst hw;exact (hv.mono fun b hb=>.inl hb).dH hX rfl
 | .str b,w,x,hv,hw,is,hs=>by simp only[view,Option.some.injEq] at hw;subst hw;exact (hv.mono fun b hb=>.inl hb).dH hX rfl
 | .nil b,w,x,hv,hw,is,hs=>by simp only[view,Option.some.injEq] at hw;subst hw;exact (hv.mono fun b hb=>.inl hb).dH hX rfl
 | .lst t l f,w,x,hv,hw,is,hs=>by simp only[view,Option.some.injEq] at hw;subst hw;exact (hv.mono fun b hb=>.inl hb).dH hX rfl
 | .ptr _ _ _,w,x,hv,hw,is,hs=>by simp[view] at hw
 | .slc _ _ _ _ _ _,w,x,hv,hw,is,hs=>by simp[view] at hw
 | .map _,w,x,hv,hw,is,hs=>by simp[view] at hw
 | .iF _,w,x,hv,hw,is,hs=>by simp[view] at hw
 | .el _ _ _,w,x,hv,hw,is,hs=>by simp[view] at hw
 | .row _ _ _,w,x,hv,hw,is,hs=>by simp[view] at hw
theorem jh (hX:aT X P) (hr:HR X P A m H h):∀ {vs ws:List (PV X.Γ)} {xs:List TV},aG X P (AA A m) m h vs xs→views H vs=some ws→∀ {is:List Nat},(∀ i,i∈owns.kR vs→i∈is)→aG X P (FA A m is) m' h ws xs
 | [],ws,xs,hv,hw,is,hs=>by simp only[view.views,Option.some.injEq] at hw;subst hw;rw[hv.inv0];exact .nil
 | v::vs,ws,xs,hv,hw,is,hs=>by
  obtain⟨x,r,rfl,h1,h2⟩:=hv.inv
  simp only[view.views] at hw
  split at hw
  ·rename_i w ws' g1 g2
   cases hw
   exact .cons (SS hX hr h1 g1 fun i hi=>hs i (by simp[owns.kR,hi])) (jh hX hr h2 g2 fun i hi=>hs i (by simp[owns.kR,hi]))
  ·cases hw
end
end
end Pv
namespace Pv
open Go Tw
section
variable {X:gZ} {P:Program} {A B F:Nat→Prop} {m m':List MB} {h h':List HB} {H H':List (PB X.Γ)}
theorem L8 (hX:aT X P) (hr:HR X P A m H h) {t:Nat} {cs:List (PV X.Γ)} {xs:List TV} (hv:aG X P (AA A m) m h cs xs) {a:X.Γ t} {is:List Nat} (hd:SG X H t cs=some (a,is)):aG X P (FA A m is) m' h (X.enc t a) xs:=by
 unfold SG at hd
 split at hd
 ·rename_i vs h1
  split at hd
  ·rename_i b h2
   simp only[Option.some.injEq,Prod.mk.injEq] at hd
   obtain⟨rfl,rfl⟩:=hd
   exact hX.dec h2 (jh hX hr hv h1 fun i hi=>hi)
  ·cases hd
 ·cases hd
theorem oq (hX:aT X P) (hr:HR X P A m H h) {t sz:Nat}:∀ {n:Nat} {cs:List (PV X.Γ)} {xs:List TV},aG X P (AA A m) m h cs xs→∀ {l:List (X.Γ t)} {is:List Nat},nU X H t sz n cs=some (l,is)→l.length=n∧aZ X P (FA A m is) m' h t l xs 0 sz
 | 0,cs,xs,hv,l,is,hd=>by
  simp only[nU,Option.some.injEq,Prod.mk.injEq] at hd
  obtain⟨rfl,rfl⟩:=hd
  exact⟨rfl,fun j a hj=>by simp at hj,by simp,fun j a i c v hj=>by simp at hj⟩
 | n+1,cs,xs,hv,l,is,hd=>by
  simp only[nU] at hd
  split at hd
  ·rename_i hsz
   split at hd
   ·rename_i a js l' ks h1 h2
    simp only[Option.some.injEq,Prod.mk.injEq] at hd
    obtain⟨rfl,rfl⟩:=hd
    have g1:=(L8 (m':=m') hX hr (hv.take sz) h1).mono fun b hb=>FA.mono (js:=js++ks) (fun i hi=>List.mem_append_left _ hi) hb
    obtain⟨e2,g2⟩:=oq hX hr (hv.drop sz) h2
    have g2:=g2.mono fun b hb=>FA.mono (js:=js++ks) (fun i hi=>List.mem_append_right _ hi) hb
    have hl:(X.enc t a).length=sz:=by rw[g1.1,List.length_take,←hv.1];omega
    refine⟨by simp[e2],fun j b hj=>?_,?_,fun j b i c v hj hi hx=>?_⟩
    ·cases j with
     | zero=>simp only[List.getElem?_cons_zero,Option.some.injEq] at hj;subst hj;exact hl
     | succ j=>exact g2.1 j b (by simpa using hj)
    ·have:=g2.2.1
     rw[List.length_drop] at this
     have h3:=hv.1
     simp only[List.length_cons,Nat.add_mul];omega
    ·cases j with
     | zero=>
      simp only[List.getElem?_cons_zero,Option.some.injEq] at hj;subst hj
      have hlt:i<sz:=by rw[←hl];exact (List.getElem?_eq_some_iff.1 hi).1
      refine g1.2 i c v hi ?_
      rw[List.getElem?_take,if_pos hlt,←hx];simp
     | succ j=>
      refine g2.2.2 j b i c v (by simpa using hj) hi ?_
      rw[List.getElem?_drop,←hx];congr 1;rw[Nat.add_mul];omega
   ·cases hd
  ·cases hd
def YH (X:gZ) (P:Program) (F:Nat→Prop) (m:List MB) (h:List HB) (t sz:Nat) (l:List (X.Γ t)) (x:TV):Prop:=
 (x=.nil .slc∧l=[])∨∃ b off cap ex cs,x=.slc b off l.length cap sz ex∧l.length≤cap∧aB h b=some cs∧(l≠[]→gq h b (off+cap*sz)=some cs)∧aZ X P F m h t l cs off sz
theorem L9 {t sz:Nat} {l:List (X.Γ t)} {fu:Bool} {x:TV} (hv:VR X P F m h (.lst t l fu) x) (hz:sizeT P t=some sz):YH X P F m h t sz l x:=by
 cases hv with
 | jg=>exact .inl ⟨rfl,rfl⟩
 | lst a c c2 s z o k f e r=>
  rw[hz] at s;cases s
  exact .inr ⟨_,_,_,_,_,rfl,k,c,c2,e,o,r⟩
 | gone hi _ _=>simp[aF] at hi
theorem Po {k ex:Bool} {t sz:Nat} {l:List (X.Γ t)} {x:TV} (hv:LR X P F m h k ex t l x) (hz:sizeT P t=some sz):YH X P F m h t sz l x:=by
 cases hv with
 | nil=>exact .inl ⟨rfl,rfl⟩
 | emp h0 h1 h2 h3 h4=>
  rw[hz] at h3;cases h3
  exact .inr ⟨_,_,_,_,_,rfl,Nat.le_refl _,h1,fun e=>absurd rfl e,fun j a hj=>by simp at hj,by simpa using h2,fun j a i c v hj=>by simp at hj⟩
 | some h1 h2 h3 h4 h5 h6 h7 h8 h9=>
  rw[hz] at h2;cases h2
  exact .inr ⟨_,_,_,_,_,rfl,Nat.le_refl _,by unfold aB;rw[h4],fun _=>o8 h4 (by omega),h9⟩
theorem aZ.part {t sz:Nat} {l:List (X.Γ t)} {cs:List TV} {off o n:Nat} (hv:aZ X P F m h t l cs off sz) (hn:o+n≤l.length):aZ X P F m h t ((l.drop o).take n) cs (off+o*sz) sz:=by
 have hlen:((l.drop o).take n).length=n:=by rw[List.length_take,List.length_drop];omega
 refine⟨fun j y hy=>?_,?_,fun j y i c v hy h2 h3=>?_⟩
 ·rw[List.getElem?_take] at hy
  split at hy
  ·rw[List.getElem?_drop] at hy;exact hv.1 _ _ hy
  ·cases hy
 ·have:=hv.2.1
  have h2:(o+n)*sz≤l.length*sz:=Nat.mul_le_mul_right sz hn
  rw[hlen];rw[Nat.add_mul] at h2;omega
 ·rw[List.getElem?_take] at hy
  split at hy
  ·rw[List.getElem?_drop] at hy
   refine hv.2.2 _ y i c v hy h2 ?_
   rw[←h3];congr 1;rw[Nat.add_mul];omega
  ·cases hy
theorem aZ.take {t sz:Nat} {l:List (X.Γ t)} {cs:List TV} {off:Nat} (hv:aZ X P F m h t l cs off sz):aZ X P F m h t l ((cs.drop off).take (l.length*sz)) 0 sz:=by
 refine⟨hv.1,?_,fun j a i c v h1 h2 h3=>?_⟩
 ·have:=hv.2.1;rw[List.length_take,List.length_drop];omega
 ·rw[List.getElem?_take] at h3
  split at h3
  ·rw[List.getElem?_drop] at h3
   exact hv.2.2 j a i c v h1 h2 (by rw[←h3];congr 1;omega)
  ·cases h3
theorem YH.src {t sz:Nat} {l:List (X.Γ t)} {x:TV} (hv:YH X P F m h t sz l x):∃ new,bg sz h x=some (l.length,new)∧new.length=l.length*sz∧aZ X P F m h t l new 0 sz:=by
 rcases hv with⟨rfl,rfl⟩ | ⟨b,off,cap,ex,cs,rfl,hk,hc,hc2,hw⟩
 ·exact⟨[],rfl,by simp,fun j a hj=>by simp at hj,by simp,fun j a i c v hj=>by simp at hj⟩
 ·refine⟨(cs.drop off).take (l.length*sz),?_,?_,hw.take⟩
  ·have:=hw.2.1
   simp only[bg,if_true,sub]
   by_cases h0:l.length=0
   ·rw[if_pos h0,h0];simp
   ·rw[if_neg h0,hc2 (fun e=>h0 (by rw[e];rfl))]
    simp only
    rw[if_pos this];rfl
  ·have:=hw.2.1;rw[List.length_take,List.length_drop];omega
theorem aZ.app {t sz:Nat} {l r:List (X.Γ t)} {a b:List TV} (h1:aZ X P F m h t l a 0 sz) (h2:aZ X P F m h t r b 0 sz) (ha:a.length=l.length*sz):aZ X P F m h t (l++r) (a++b) 0 sz:=by
 refine⟨fun j y hy=>?_,?_,fun j y i c v hy hi hx=>?_⟩
 ·rcases Nat.lt_or_ge j l.length with hl | hl
  ·rw[List.getElem?_append_left hl] at hy;exact h1.1 j y hy
  ·rw[List.getElem?_append_right hl] at hy;exact h2.1 _ y hy
 ·have:=h2.2.1;simp only[List.length_append,Nat.add_mul];omega
 ·rcases Nat.lt_or_ge j l.length with hl | hl
  ·rw[List.getElem?_append_left hl] at hy
   have hlt:i<sz:=by rw[←h1.1 j y hy];exact (List.getElem?_eq_some_iff.1 hi).1
   have:(j+1)*sz≤l.length*sz:=Nat.mul_le_mul_right sz hl
   rw[Nat.add_mul] at this
   rw[List.getElem?_append_left (by omega)] at hx
   exact h1.2.2 j y i c v hy hi hx
  ·rw[List.getElem?_append_right hl] at hy
   have:l.length*sz≤j*sz:=Nat.mul_le_mul_right sz hl
   rw[List.getElem?_append_right (by omega)] at hx
   refine h2.2.2 _ y i c v hy hi ?_
   rw[←hx];congr 1;rw[ha,Nat.sub_mul];omega
theorem jK {Γ:Nat→Type} {t t':Nat} {l:List (Γ t')} {r:List (Γ t)} (h:pJ t t' l=some r):∃ e:t'=t,r=e▸l:=by
 unfold pJ at h
 split at h
 ·rename_i e;cases h;exact⟨e,rfl⟩
 ·cases h
theorem EZ (hX:aT X P) (hr:HR X P A m H h) {e sz:Nat} {x:PV X.Γ} {tx:TV} (hv:VR X P (AA A m) m h x tx) (hz:sizeT P e=some sz) {rows:List (X.Γ e)} {is:List Nat} (hs:nV X H e sz x=some (rows,is)) :
  ∃ new,bg sz h tx=some (rows.length,new)∧new.length=rows.length*sz∧aZ X P (FA A m is) m' h e rows new 0 sz:=by
 have up:∀ {l:List (X.Γ e)} {y:TV},YH X P (AA A m) m h e sz l y→∃ new,bg sz h y=some (l.length,new)∧new.length=l.length*sz∧aZ X P (FA A m []) m' h e l new 0 sz:=by
  intro l y hy
  obtain⟨new,h1,h2,h3⟩:=hy.src
  exact⟨new,h1,h2,(h3.mono fun b hb=>.inl hb).dH hX⟩
 cases x with
 | nil k=>
  cases k<;>simp only[nV] at hs<;>try (cases hs;done)
  simp only[Option.some.injEq,Prod.mk.injEq] at hs
  obtain⟨rfl,rfl⟩:=hs
  cases hv with
  | nil=>exact up (.inl ⟨rfl,rfl⟩)
  | gone hi _ _=>simp[aF] at hi
 | lst t l fu=>
  simp only[nV,Option.map_eq_some_iff,Prod.mk.injEq] at hs
  obtain⟨r,h1,rfl,rfl⟩:=hs
  obtain⟨rfl,rfl⟩:=jK h1
  exact up (L9 hv hz)
 | own i=>
  simp only[nV] at hs
  split at hs
  ·rename_i k ex t l hH
   simp only[Option.map_eq_some_iff,Prod.mk.injEq] at hs
   obtain⟨r,h1,rfl,rfl⟩:=hs
   obtain⟨rfl,rfl⟩:=jK h1
   obtain⟨mb,g1,g2⟩:=hr.at_ i _ hH
   cases mb with
   | lst y=>
    cases hv with
    | own e' o=>rw[g1] at e';cases e';exact up (Po g2 hz)
    | gone hi e' o=>simp only[aF,Option.some.injEq] at hi;subst hi;rw[g1] at e';cases e'
   | _=>exact g2.elim
  ·cases hs
 | win i o n=>
  simp only[nV] at hs
  split at hs
  ·rename_i k ex t l hH
   simp only[Option.map_eq_some_iff,Prod.mk.injEq] at hs
   obtain⟨r,h1,rfl,rfl⟩:=hs
   obtain⟨rfl,rfl⟩:=jK h1
   obtain⟨mb,g1,g2⟩:=hr.at_ i _ hH
   cases mb with
   | lst y=>
    have hsl:=Po g2 hz
    cases hv with
    | win e' q q' q2=>
     rw[g1] at e';cases e'
     rcases hsl with⟨h,_⟩ | ⟨b,off,cap,ex',cs,he,hk,hc,hc2,hw⟩
     ·cases h
     ·cases he
      have hlen:n=((r.drop o).take n).length:=by rw[List.length_take,List.length_drop];omega
      refine up (.inr ⟨_,_,_,_,cs,congrArg (fun k=>TV.slc _ _ k _ _ _) hlen,hlen▸q',hc,fun hne=>?_,hw.part q⟩)
      have h1:n≠0:=fun e=>hne (by subst e;simp)
      have h2:=q2.resolve_left h1
      rw[←hc2 (fun e=>hne (by rw[e];simp)),←h2]
      congr 1
      rw[Nat.add_mul];omega
    | nY e'=>
     rw[g1] at e';cases e'
     refine up (.inl ⟨rfl,by simp⟩)
    | gone hi e' o=>simp only[aF,Option.some.injEq] at hi;subst hi;rw[g1] at e';cases e'
   | _=>exact g2.elim
  ·cases hs
 | slc b off len cap sz' ex=>
  simp only[nV] at hs
  split at hs
  ·rename_i cs hH
   split at hs
   ·rename_i hsz
    obtain⟨hsz,hoff⟩:=hsz
    subst hsz
    obtain⟨mb,g1,g2⟩:=hr.at_ b _ hH
    cases mb with
    | blk c=>
     obtain⟨cs',g3,g4⟩:=g2
     cases hv with
     | slc e'=>
      rw[g1] at e';cases e'
      obtain⟨hl,hw⟩:=oq (m':=m') hX hr (g4.drop off) hs
      subst hl
      rw[g4.1] at hoff
      refine⟨(cs'.drop off).take (rows.length*sz'),?_,by rw[List.length_take,List.length_drop];omega,by simpa using hw.take⟩
      simp only[bg,if_true,o9 g3 (by simp),sub]
      split
      ·rename_i h0;rw[h0,Nat.zero_mul,List.take_zero]
      ·simp only[hoff,if_true,Option.map_some]
     | gone hi e' o=>simp only[aF,Option.some.injEq] at hi;subst hi;rw[g1] at e';cases e'
    | _=>exact g2.elim
   ·cases hs
  ·cases hs
 | _=>simp[nV] at hs
end
end Pv
namespace Pv
open Go Tw
def Own (m:List MB) (i b:Nat):Prop:=∃ mb,m[i]? = some mb∧mb.own=some b
structure IR (m:List MB) (h:List HB) (p:PI) (t:Inf):Prop where
 all:t.all=true→p.i.all=true
 tl:∀ k,.l k∈t.ts→.l k∈p.i.ts
 wl:∀ k,.l k∈t.ws→.l k∈p.i.ws
 wh:∀ b,.h b∈t.ws→(∃ i,.h i∈p.i.ws∧Own m i b)∨(p.wall=true∧b∈blks m)
 th:∀ b,.h b∈t.ts→((∃ i,.h i∈p.i.ts∧Own m i b)∨b∉blks m)∧b<h.length
 hp:p.hp=false→t.all=false∧(∀ b,.h b∉t.ts)∧∀ b,.h b∉t.ws
theorem IR.none {m:List MB} {h:List HB} {p:PI}:IR m h p aA:=⟨fun h=>(by cases h),fun _ h=>(by cases h),fun _ h=>(by cases h),fun _ h=>(by cases h),fun _ h=>(by cases h),fun _=>⟨rfl,fun _ h=>(by cases h),fun _ h=>(by cases h)⟩⟩
section
variable {X:gZ} {P:Program} {A F:Nat→Prop} {m m':List MB} {h h':List HB} {H H':List (PB X.Γ)}
structure lS (X:gZ) (P:Program) (A:Nat→Prop) (m:List MB) (ps:aP X.Γ) (ts:St):Prop where
 heap:HR X P A m ps.heap ts.heap
 llen:ps.loc.length=ts.loc.length
 loc:∀ (k:Nat) cs,ps.loc[k]? = some cs→∃ cs',ts.loc[k]? = some cs'∧aG X P (AA A m) m ts.heap cs cs'
 env:fH X P (AA A m) m ts.heap ps.env ts.env
theorem lS.step {ps:aP X.Γ} {ts:St} (hR:lS X P A m ps ts) {H1:List (PB X.Γ)} {h1:List HB} (hr:HR X P A m' H1 h1) (hF:Fr m ts.heap m' h1) (hU:Up m m'):lS X P A m' { ps with heap:=H1 } { ts with heap:=h1 }:=
 ⟨hr,hR.llen,fun k cs hk=>let ⟨cs',g1,g2⟩:=hR.loc k cs hk;⟨cs',g1,g2.step hF hU⟩,hR.env.step hF hU⟩
def OpR (X:gZ) (P:Program) (A:Nat→Prop) (m:List MB) (call:ay) (site:Nat→Bool) (ts:St) (o:Oper) (pe:PE X.Γ) (ps1:aP X.Γ) (pi:PI):Prop:=
 ∃ ev dD ti m1,iH P call site ts o=some (ev,dD,ti)∧dD.env=ts.env∧dD.ws=ts.ws∧lS X P A m1 ps1 dD∧PER X P (AA A m1) m1 dD.heap pe ev∧Fr m ts.heap m1 dD.heap∧Up m m1∧IR m ts.heap pi ti∧∀ b,.h b∈ti.ws→b∈blks m
theorem kX {call:ay} {site:Nat→Bool} {ps:aP X.Γ} {ts:St} {o:Oper} {pe:PE X.Γ} {ev:EV} {pi:PI} (hR:lS X P A m ps ts) (h:iH P call site ts o=some (ev,ts,aA)) (hp:PER X P (AA A m) m ts.heap pe ev):OpR X P A m call site ts o pe ps pi:=
 ⟨ev,ts,aA,m,h,rfl,rfl,hR,hp,.refl,.refl,.none,fun b hb=>by cases hb⟩
theorem lS.know {ps:aP X.Γ} {ts:St} (hR:lS X P A m ps ts) {x:Operand} {b:Bool} (hb:jP ts.env x=some (.bool b)):lS X P A m (ps.know x b) ts:=by
 cases x with
 | tmp t=>
  refine⟨hR.heap,hR.llen,hR.loc,SQ hR.env ?_⟩
  simp only[jP,xZ] at hb
  split at hb
  ·rename_i v hv;cases hb;exact hv
  ·cases hb
 | _=>exact hR
theorem DV {ps:aP X.Γ} {ts:St} (hR:lS X P A m ps ts) {site:Bool} {cs:List (PV X.Γ)} {cs':List TV} (hc:aG X P (AA A m) m ts.heap cs cs') :
  ∃ m1,(iD site ts cs').2.env=ts.env∧(iD site ts cs').2.ws=ts.ws∧lS X P A m1 (qU site ps cs).2 (iD site ts cs').2∧PER X P (AA A m1) m1 (iD site ts cs').2.heap (qU site ps cs).1 (iD site ts cs').1∧Fr m ts.heap m1 (iD site ts cs').2.heap∧Up m m1:=by
 cases site with
 | true=>
  have hp:=hR.heap.push (pb:=.cells cs) (hb:=.cells .own cs') (mb:=.blk ts.heap.length) (.inl rfl) ?_
  ·refine⟨m++[.blk ts.heap.length],rfl,rfl,hR.step hp.1 hp.2.1 hp.2.2,?_,hp.2.1,hp.2.2⟩
   show VR X P _ _ _ (.ptr ps.heap.length 0 cs.length) (.ptr ts.heap.length 0 cs'.length)
   rw[hc.1]
   exact .ptr (by rw[←hR.heap.len];simp)
  ·refine⟨cs',by simp,hc.step ?_ (kU _)⟩
   refine⟨by simp,fun b hb _=>by rw[List.getElem?_append_left hb],fun b hb=>?_,fun b cs hc=>⟨cs,by rw[bI (List.getElem?_append_left (bQ hc)),hc],Nat.le_refl _⟩⟩
   rw[dF,List.mem_append,eU] at hb
   rcases hb with hb | hb
   ·exact .inl hb
   ·simp[MB.own] at hb;exact .inr (by omega)
 | false=>
  refine⟨m,rfl,rfl,⟨hR.heap,by simp[qU,iD,hR.llen],fun k ds hk=>?_,hR.env⟩,?_,.refl,.refl⟩
  ·simp only[qU,iD,Bool.false_eq_true,if_false] at hk ⊢
   rcases Nat.lt_or_ge k ps.loc.length with hl | hl
   ·rw[List.getElem?_append_left hl] at hk
    obtain⟨ds',g1,g2⟩:=hR.loc k ds hk
    exact⟨ds',by rw[List.getElem?_append_left (by rw[←hR.llen];exact hl)];exact g1,g2⟩
   ·rw[List.getElem?_append_right hl] at hk
    have:k-ps.loc.length=0:=by
     rcases Nat.eq_zero_or_pos (k-ps.loc.length) with e | e
     ·exact e
     ·rw[List.getElem?_eq_none (by simp;omega)] at hk;cases hk
    rw[this] at hk
    simp only[List.getElem?_cons_zero,Option.some.injEq] at hk;subst hk
    exact⟨cs',by rw[List.getElem?_append_right (by rw[←hR.llen];exact hl),←hR.llen,this];rfl,hc⟩
  ·exact⟨hR.llen,rfl⟩
theorem dO {i:Nat} {mb:MB} {b:Nat} (h1:m[i]? = some mb) (h2:mb.own=some b):Own m i b:=⟨mb,h1,h2⟩
theorem Jf {i b:Nat} (h:Own m i b):b∈blks m:=let ⟨_,h1,h2⟩:=h;aC h1 h2
theorem IR.rdH {i b:Nat} (h0:Own m i b) (hl:b<h.length):IR m h ⟨lu (.h i),false,false,true⟩ (lu (.h b)):=
 ⟨fun h=>(by cases h),fun k hk=>(by simp[lu] at hk),fun k hk=>(by simp[lu] at hk),fun b hb=>(by simp[lu] at hb),fun c hc=>(by simp[lu] at hc;subst hc;exact⟨.inl ⟨i,by simp[lu],h0⟩,hl⟩),fun h=>(by cases h)⟩
theorem IR.VP {i b:Nat} (h0:Own m i b) (hl:b<h.length):IR m h ⟨jO (.h i),false,false,true⟩ (jO (.h b)):=
 ⟨fun h=>(by cases h),fun k hk=>(by simp[jO] at hk),fun k hk=>(by simp[jO] at hk),fun c hc=>(by simp[jO] at hc;subst hc;exact .inl ⟨i,by simp[jO],h0⟩),fun c hc=>(by simp[jO] at hc;subst hc;exact⟨.inl ⟨i,by simp[jO],h0⟩,hl⟩),fun h=>(by cases h)⟩
theorem IR.loc {k:Nat}:IR m h ⟨lu (.l k),false,false,false⟩ (lu (.l k)):=
 ⟨fun h=>(by cases h),fun j hj=>by simpa[lu] using hj,fun k hk=>(by simp[lu] at hk),fun b hb=>(by simp[lu] at hb),fun c hc=>(by simp[lu] at hc),fun _=>⟨rfl,fun b hb=>(by simp[lu] at hb),fun b hb=>(by simp[lu] at hb)⟩⟩
theorem IR.a2x {k:Nat}:IR m h ⟨jO (.l k),false,false,false⟩ (jO (.l k)):=
 ⟨fun h=>(by cases h),fun j hj=>by simpa[jO] using hj,fun j hj=>by simpa[jO] using hj,fun c hc=>(by simp[jO] at hc),fun c hc=>(by simp[jO] at hc),fun _=>⟨rfl,fun b hb=>(by simp[jO] at hb),fun b hb=>(by simp[jO] at hb)⟩⟩
theorem Gt {t:TypeId} {cs:List TV} {o sz off n:Nat} {x:TV} (ho:o+sz≤cs.length) (hp:partT P t ((cs.drop o).take sz) off=some x) (hn:sizeT P t=some n):partT P t cs (o+off)=some x∧off+n≤sz∧o+off+n≤cs.length:=by
 unfold partT at hp ⊢
 split at hp
 ·rename_i k ha hk
  rw[hn] at hk;cases hk
  simp only[Option.map_eq_some_iff] at hp
  obtain⟨r,h1,rfl⟩:=hp
  unfold sub at h1
  split at h1
  ·rename_i hl
   rw[List.length_take,List.length_drop] at hl
   refine⟨?_,by omega,by omega⟩
   cases h1
   simp only[ha,hn,sub]
   rw[if_pos (by omega)]
   simp only[Option.map_some,Option.some.injEq,TV.agg.injEq]
   rw[List.drop_take,List.drop_drop,List.take_take,Nat.min_eq_left (by omega)]
  ·cases h1
 ·rename_i k ha hk
  rw[hn] at hk;cases hk
  split at hp
  ·rename_i h1
   subst h1
   rw[List.getElem?_take] at hp
   split at hp
   ·rename_i h2
    rw[List.getElem?_drop] at hp
    have:=(List.getElem?_eq_some_iff.1 hp).1
    refine⟨by simp only[ha,hn,if_true];exact hp,by omega,by omega⟩
   ·cases hp
  ·cases hp
 ·cases hp
theorem DW {t:TypeId} {cs:List TV} {off:Nat} {x:TV} (hp:partT P t cs off=some x):∃ n,sizeT P t=some n:=by
 unfold partT at hp
 split at hp
 ·rename_i n _ hn;exact⟨n,hn⟩
 ·rename_i n _ hn;exact⟨n,hn⟩
 ·cases hp
theorem aZ.row {t sz:Nat} {l:List (X.Γ t)} {cs:List TV} {off j:Nat} {a:X.Γ t} (hw:aZ X P F m h t l cs off sz) (hj:l[j]? = some a):aG X P F m h (X.enc t a) ((cs.drop (off+j*sz)).take sz)∧off+j*sz+sz≤cs.length:=by
 have hlen:=hw.1 j a hj
 have hlt:j<l.length:=(List.getElem?_eq_some_iff.1 hj).1
 have h2:(j+1)*sz≤l.length*sz:=Nat.mul_le_mul_right sz hlt
 have h3:=hw.2.1
 rw[Nat.add_mul] at h2
 refine⟨⟨by rw[hlen,List.length_take,List.length_drop];omega,fun i c v hc hv=>?_⟩,by omega⟩
 rw[List.getElem?_take] at hv
 split at hv
 ·rw[List.getElem?_drop] at hv
  exact hw.2.2 j a i c v hj hc hv
 ·cases hv
theorem getD_at {t:Nat} {l:List (X.Γ t)} {j:Nat} (hj:j<l.length):l[j]? = some (l.getD j (X.d0 t)):=by
 rw[List.getD_eq_getElem?_getD,List.getElem?_eq_getElem hj];rfl
theorem um (hX:aT X P) {ps:aP X.Γ} {ts:St} (hR:lS X P A m ps ts) {t:TypeId} {pa:PE X.Γ} {ea:EV} (ha:PER X P (AA A m) m ts.heap pa ea) {v:PV X.Γ} {pi:Inf} (hl:nX X P t ps pa=some (v,pi)) :
  ∃ x ti,loadT P t ts ea=some (x,ti)∧VR X P (AA A m) m ts.heap v x∧IR m ts.heap ⟨pi,false,false,!ES pa⟩ ti∧ti.ws=[]:=by
 cases pa with
 | loc k off=>
  rw[qX ha]
  simp only[nX] at hl
  split at hl
  ·rename_i cs hk
   simp only[Option.map_eq_some_iff,Prod.mk.injEq] at hl
   obtain⟨w,h1,rfl,rfl⟩:=hl
   obtain⟨cs',g1,g2⟩:=hR.loc k cs hk
   obtain⟨x,g3,g4⟩:=og g2 h1
   exact⟨x,lu (.l k),by simp only[loadT,g1,g3,Option.map_some],g4,.loc,rfl⟩
  ·cases hl
 | undef=>simp[nX] at hl
 | val a=>
  obtain⟨y,rfl,hy⟩:=bK ha
  cases a with
  | ptr b off lim=>
   simp only[nX] at hl
   split at hl
   ·rename_i cs n hb hn
    split at hl
    ·rename_i hlim
     simp only[Option.map_eq_some_iff,Prod.mk.injEq] at hl
     obtain⟨w,h1,rfl,rfl⟩:=hl
     obtain⟨mb,g1,g2⟩:=hR.heap.at_ b _ hb
     cases mb with
     | blk c=>
      obtain⟨cs',g3,g4⟩:=g2
      cases hy with
      | ptr e=>
       rw[g1] at e;cases e
       obtain⟨x,g5,g6⟩:=og g4 h1
       refine⟨x,lu (.h c),?_,g6,.rdH (dO g1 rfl) (List.getElem?_eq_some_iff.1 g3).1,rfl⟩
       simp only[loadT,o9 g3 (show BK.own≠.last by simp),hn,hlim,if_true,g5,Option.map_some]
      | gone hi e _=>simp only[aF,Option.some.injEq] at hi;subst hi;rw[g1] at e;cases e
     | _=>exact g2.elim
    ·cases hl
   ·rename_i cs n hb hn
    split at hl
    ·rename_i hlim
     simp only[Option.map_eq_some_iff,Prod.mk.injEq] at hl
     obtain⟨w,h1,rfl,rfl⟩:=hl
     obtain⟨mb,g1,g2⟩:=hR.heap.at_ b _ hb
     cases mb with
     | bM c=>
      obtain⟨g0,cs',g3,g4⟩:=g2
      cases hy with
      | ptr e=>rw[g1] at e;cases e
      | gone hi e _=>
       simp only[aF,Option.some.injEq] at hi;subst hi;rw[g1] at e
       cases e with
       | r _ e=>
        simp only[SL,Option.some.injEq] at e;subst e
        obtain⟨x,g5,g6⟩:=og g4 h1
        refine⟨x,lu (.h c),?_,g6,⟨fun h=>(by cases h),fun k hk=>(by simp[lu] at hk),fun k hk=>(by simp[lu] at hk),fun b hb=>(by simp[lu] at hb),fun d hd=>?_,fun h=>(by cases h)⟩,rfl⟩
        ·simp only[loadT,o9 g3 (show BK.own≠.last by simp),hn,hlim,if_true,g5,Option.map_some]
        ·simp[lu] at hd;subst hd;exact⟨.inr g0,(List.getElem?_eq_some_iff.1 g3).1⟩
     | _=>exact g2.elim
    ·cases hl
   ·cases hl
  | row b j off=>
   simp only[nX] at hl
   split at hl
   ·rename_i k ex e l hb
    simp only[Option.map_eq_some_iff,Prod.mk.injEq] at hl
    obtain⟨w,h1,rfl,rfl⟩:=hl
    obtain⟨mb,g1,g2⟩:=hR.heap.at_ b _ hb
    cases mb with
    | lst z=>
     cases hy with
     | row e' hj hq=>
      rw[g1] at e';cases e'
      cases (g2:LR X P _ _ _ _ _ _ _ _) with
      | emp=>omega
      | some q1 q2 q3 q4 q5 q6 q7 q8 q9=>
       have hrow:=q9.row (getD_at hj)
       obtain⟨x,g5,g6⟩:=og hrow.1 h1
       obtain⟨n,hn⟩:=DW g5
       obtain⟨g7,g8,_⟩:=Gt hrow.2 g5 hn
       rw[Nat.zero_add] at g7
       refine⟨x,lu (.h _),?_,g6,.rdH (dO g1 (by simp only[MB.own];rw[if_neg (by simpa using q1)])) (List.getElem?_eq_some_iff.1 q4).1,rfl⟩
       have hj2:=hrow.2
       simp only[loadT,o8 q4 q8.symm,hn]
       rw[if_pos (by omega),g7];rfl
     | gone hi e' _=>simp only[aF,Option.some.injEq] at hi;subst hi;rw[g1] at e';cases e'
    | _=>exact g2.elim
   ·cases hl
  | el e a off=>
   simp only[nX,Option.map_eq_some_iff,Prod.mk.injEq] at hl
   obtain⟨w,h1,rfl,rfl⟩:=hl
   cases hy with
   | el q1 q2 q2' q3 q4 q5 q6=>
    rename_i b o sz lim cs
    have hrow:aG X P (AA A m) m ts.heap (X.enc e a) ((cs.drop o).take sz):=by
     refine⟨by rw[q4,List.length_take,List.length_drop];omega,fun i c v hc hv=>?_⟩
     rw[List.getElem?_take] at hv
     split at hv
     ·rw[List.getElem?_drop] at hv;exact q6 i c v hc hv
     ·cases hv
    obtain⟨x,g5,g6⟩:=og hrow h1
    obtain⟨n,hn⟩:=DW g5
    obtain⟨g7,g8,_⟩:=Gt q3 g5 hn
    refine⟨x,lu (.h b),?_,g6,⟨fun h=>(by cases h),fun k hk=>(by simp[lu] at hk),fun k hk=>(by simp[lu] at hk),fun b hb=>(by simp[lu] at hb),fun c hc=>?_,fun h=>(by cases h)⟩,rfl⟩
    ·simp only[loadT,q2,hn]
     rw[if_pos (by omega),g7];rfl
    ·simp[lu] at hc;subst hc;exact⟨.inr q1.2,Nk q2⟩
   | gone hi e' _=>simp[aF] at hi
  | _=>simp[nX] at hl
end
end Pv
namespace Pv
open Go Tw
section
variable {X:gZ} {P:Program} {A F:Nat→Prop} {m m':List MB} {h h':List HB} {H H':List (PB X.Γ)}
theorem Bg {cs new:List TV} {o sz off:Nat} {r:List TV} (ho:o+sz≤cs.length) (hr:over ((cs.drop o).take sz) off new=some r):over cs (o+off) new=some (cs.take o++r++cs.drop (o+sz))∧r.length=sz:=by
 unfold over at hr ⊢
 split at hr
 ·rename_i hl
  have hl0:=hl
  rw[List.length_take,List.length_drop] at hl
  cases hr
  refine⟨?_,?_⟩
  ·rw[if_pos (by omega)]
   simp only[Option.some.injEq]
   apply List.ext_getElem?
   intro i
   simp only[List.getElem?_append,List.length_append,List.length_take,List.length_drop,List.getElem?_take,List.getElem?_drop]
   rcases Nat.lt_or_ge i o with h1 | h1
   ·simp (disch:=omega) only [Nat.min_eq_left,if_pos]
   ·rcases Nat.lt_or_ge i (o+off) with h2 | h2
    ·rw[if_pos (by omega),if_pos (by omega),if_pos (by omega),if_pos (by omega),if_neg (by omega),if_pos (by omega),if_pos (by omega),if_pos (by omega),if_pos (by omega)]
     congr 1;omega
    ·rcases Nat.lt_or_ge i (o+off+new.length) with h3 | h3
     ·rw[if_pos (by omega),if_neg (by omega),if_pos (by omega),if_neg (by omega),if_pos (by omega),if_neg (by omega)]
      congr 1;omega
     ·rcases Nat.lt_or_ge i (o+sz) with h4 | h4
      ·rw[if_neg (by omega),if_pos (by omega),if_neg (by omega),if_neg (by omega),if_pos (by omega)]
       congr 1;omega
      ·rw[if_neg (by omega),if_neg (by omega)]
       congr 1;omega
  ·simp only[List.length_append,List.length_take,List.length_drop];omega
 ·cases hr
theorem aZ.set {t sz j:Nat} {l:List (X.Γ t)} {cs r:List TV} {a:X.Γ t} (hw:aZ X P F m h t l cs 0 sz) (hr:aG X P F m h (X.enc t a) r) (hl:r.length=sz) (hj:j<l.length) :
  aZ X P F m h t (l.set j a) (cs.take (j*sz)++r++cs.drop (j*sz+sz)) 0 sz:=by
 have h2:(j+1)*sz≤l.length*sz:=Nat.mul_le_mul_right sz hj
 rw[Nat.add_mul] at h2
 have h3:=hw.2.1
 refine⟨fun k y hy=>?_,?_,fun k y i c v hy hi hx=>?_⟩
 ·rw[List.getElem?_set] at hy
  split at hy
  ·cases hy;rw[hr.1,hl]
  ·exact hw.1 k y hy
 ·simp only[List.length_append,List.length_take,List.length_drop,List.length_set];omega
 ·rw[List.getElem?_set] at hy
  split at hy
  ·rename_i e
   subst e
   cases hy
   have hlt:i<sz:=by rw[←hl,←hr.1];exact (List.getElem?_eq_some_iff.1 hi).1
   refine hr.2 i c v hi ?_
   rw[List.getElem?_append_left (by simp only[List.length_append,List.length_take];omega),List.getElem?_append_right (by rw[List.length_take];omega),List.length_take] at hx
   rw[←hx];congr 1;omega
  ·rename_i e
   have hlen:=hw.1 k y hy
   have hlt:i<sz:=by rw[←hlen];exact (List.getElem?_eq_some_iff.1 hi).1
   have hk:k<l.length:=(List.getElem?_eq_some_iff.1 hy).1
   refine hw.2.2 k y i c v hy hi ?_
   rw[←hx]
   rcases Nat.lt_or_ge k j with h4 | h4
   ·have:(k+1)*sz≤j*sz:=Nat.mul_le_mul_right sz h4
    rw[Nat.add_mul] at this
    rw[List.getElem?_append_left (by simp only[List.length_append,List.length_take];omega),List.getElem?_append_left (by rw[List.length_take];omega),List.getElem?_take,if_pos (by omega)]
   ·have h5:j+1≤k:=by omega
    have:(j+1)*sz≤k*sz:=Nat.mul_le_mul_right sz h5
    rw[Nat.add_mul] at this
    rw[List.getElem?_append_right (by simp only[List.length_append,List.length_take];omega),List.getElem?_drop]
    congr 1
    simp only[List.length_append,List.length_take];omega
theorem yx {b:Nat} {pb:PB X.Γ}:∀ {is:List Nat} {H:List (PB X.Γ)},is.contains b=false→aI is (H.set b pb)=(aI is H).set b pb
 | [],_,_=>rfl
 | i::is,H,hn=>by
  simp only[List.contains_cons,Bool.or_eq_false_iff,beq_eq_false_iff_ne,ne_eq] at hn
  simp only[aI,Gj]
  rw[List.set_comm _ _ hn.1,yx hn.2]
theorem mM (hX:aT X P) {ps ps1:aP X.Γ} {ts:St} (hR:lS X P A m ps ts) {t:TypeId} {pa:PE X.Γ} {ea:EV} (ha:PER X P (AA A m) m ts.heap pa ea) {v:PV X.Γ} {x:TV} (hv:VR X P (AA A m) m ts.heap v x) {pi:Inf} (hl:EL X P t ps pa v=some (ps1,pi)) :
  ∃ dD ti m1,storeT P t ts ea x=some (dD,ti)∧dD.env=ts.env∧dD.ws=ts.ws∧lS X P A m1 ps1 dD∧Fr m ts.heap m1 dD.heap∧Up m m1∧IR m ts.heap ⟨pi,false,false,!ES pa⟩ ti∧∀ b,.h b∈ti.ws→b∈blks m:=by
 have hc:=uU hv
 unfold EL at hl
 split at hl
 ·rename_i n hn
  split at hl
  ·rename_i hcc
   have SV:x.cells.length=n∧x.cells.all bJ=true:=⟨by rw[←hc.1];exact hcc.1,by rw[qW hc];exact hcc.2⟩
   cases pa with
   | loc k off=>
    rw[qX ha]
    simp only at hl
    split at hl
    ·rename_i cs hk
     simp only[Option.map_eq_some_iff,Prod.mk.injEq] at hl
     obtain⟨cs1,h1,rfl,rfl⟩:=hl
     obtain⟨cs',g1,g2⟩:=hR.loc k cs hk
     obtain⟨xk,g3,g4⟩:=uV g2 hc h1
     refine⟨{ ts with loc:=ts.loc.set k xk },jO (.l k),m,?_,rfl,rfl,⟨hR.heap,by simp[hR.llen],fun j ds hj=>?_,hR.env⟩,.refl,.refl,.a2x,fun b hb=>by simp[jO] at hb⟩
     ·simp only[storeT,hn,SV,and_self,if_true,g1,g3,Option.map_some]
     ·by_cases e:k=j
      ·subst e
       rw[List.getElem?_set_self'] at hj
       rw[hk] at hj;cases hj
       exact⟨xk,by rw[List.getElem?_set_self',g1];rfl,g4⟩
      ·rw[List.getElem?_set_ne e] at hj
       obtain⟨ds',q1,q2⟩:=hR.loc j ds hj
       exact⟨ds',by rw[List.getElem?_set_ne e];exact q1,q2⟩
    ·cases hl
   | undef=>simp at hl
   | val a=>
    obtain⟨y,rfl,hy⟩:=bK ha
    cases a with
    | ptr b off lim=>
     simp only at hl
     split at hl
     ·rename_i hlim
      split at hl
      ·rename_i cs hb
       simp only[Option.map_eq_some_iff,Prod.mk.injEq] at hl
       obtain⟨cs1,h1,rfl,rfl⟩:=hl
       obtain⟨mb,g1,g2⟩:=hR.heap.at_ b _ hb
       cases mb with
       | blk c=>
        obtain⟨cs',g3,g4⟩:=g2
        cases hy with
        | ptr e=>
         rw[g1] at e;cases e
         obtain⟨xk,g5,g6⟩:=uV g4 hc h1
         have hlen:xk.length=cs'.length:=by
          unfold over at g5
          split at g5
          ·cases g5;simp only[List.length_append,List.length_take,List.length_drop];omega
          ·cases g5
         have hlt:=(List.getElem?_eq_some_iff.1 g3).1
         obtain⟨hr1,hF⟩:=hR.heap.set (pb:=.cells cs1) (hb:=.cells .own xk) g1 (c:=c) rfl (fun cs2 hcs2=>⟨xk,by simp[aB,hlt],by
          simp only[aB,g3,Option.some.injEq] at hcs2;subst hcs2;omega⟩) fun hF=>⟨xk,by simp[hlt],g6.step hF .refl⟩
         refine⟨{ ts with heap:=ts.heap.set c (.cells .own xk) },jO (.h c),m,?_,rfl,rfl,hR.step hr1 hF .refl,hF,.refl,.VP (dO g1 rfl) hlt,fun b hb=>?_⟩
         ·simp only[storeT,hn,SV,and_self,if_true,hlim,Gp g3,g5,Option.map_some]
         ·simp[jO] at hb;subst hb;exact aC g1 rfl
        | gone hi e _=>simp only[aF,Option.some.injEq] at hi;subst hi;rw[g1] at e;cases e
       | _=>exact g2.elim
      ·cases hl
     ·cases hl
    | row b j off=>
     simp only at hl
     split at hl
     ·rename_i k0 ex e l hb
      split at hl
      ·rename_i cs1 h1
       split at hl
       ·rename_i a is hd
        split at hl
        ·cases hl
        ·rename_i hnb
         simp only[Option.some.injEq,Prod.mk.injEq] at hl
         obtain⟨rfl,rfl⟩:=hl
         obtain⟨mb,g1,g2⟩:=hR.heap.at_ b _ hb
         cases mb with
         | lst z=>
          cases hy with
          | row e' hj hq=>
           rw[g1] at e';cases e'
           cases (g2:LR X P _ _ _ _ _ _ _ _) with
           | emp=>omega
           | some q1 q2 q3 q4 q5 q6 q7 q8 q9=>
            rename_i c sz xx kk cs
            obtain⟨rU,hkk,hkr,hko⟩:=DN q5
            have hown:(MB.lst (TV.slc c 0 l.length l.length sz xx)).own=some c:=by simp only[MB.own];rw[if_neg (by simpa using q1)]
            have hrow:=q9.row (getD_at hj)
            simp only[Nat.zero_add] at hrow
            obtain⟨r,g3,g4⟩:=uV hrow.1 hc h1
            obtain⟨g5,g6⟩:=Bg hrow.2 g3
            have hdec:=L8 (m':=aS is m) hX hR.heap g4 hd
            have hgo:=hR.heap.aI is
            have CX:=fV (h:=ts.heap) is m
            have hnb':is.contains b=false:=by simpa using hnb
            have hm1:(aS is m)[b]? = some (.lst (.slc c 0 l.length l.length sz xx)):=by rw[pX is g1,hnb'];rfl
            have hlt:=(List.getElem?_eq_some_iff.1 q4).1
            have hl2:(cs.take (j*sz)++r++cs.drop (j*sz+sz)).length=cs.length:=by
             simp only[List.length_append,List.length_take,List.length_drop];omega
            obtain⟨hr1,hF⟩:=hgo.set (pb:=.list k0 ex e (l.set j a)) (hb:=.cells rU (cs.take (j*sz)++r++cs.drop (j*sz+sz))) hm1 hown (fun cs2 hcs2=>⟨cs.take (j*sz)++r++cs.drop (j*sz+sz),by simp[aB,hlt],by
             simp only[aB,q4,Option.some.injEq] at hcs2;subst hcs2;omega⟩) fun hF=>by
              have hw:=(q9.step CX.1 CX.2).set (hdec.mono fun b hb=>hb.gone hR.heap) g6 hj
              have:=LR.some (X:=X) (P:=P) (A:=AA A (aS is m)) (m:=aS is m) (h:=ts.heap.set c (.cells rU (cs.take (j*sz)++r++cs.drop (j*sz+sz)))) (k:=k0) (ex:=ex) (t:=e) (l:=l.set j a) (b:=c) (sz:=sz) (e:=xx) (kk:=rU) (cs:=cs.take (j*sz)++r++cs.drop (j*sz+sz))
               (by intro e0;apply q1;have:=congrArg List.length e0;rw[List.length_set] at this;exact List.length_eq_zero_iff.1 this) q2 q3 (by simp[hlt]) hkr (fun e0=>hko (q6 e0)) q7 (by rw[hl2,List.length_set];exact q8) (hw.step hF .refl)
              rw[List.length_set] at this
              exact this
            rw[←yx hnb'] at hr1
            have hfr:=CX.1.trans hF
            refine⟨{ ts with heap:=ts.heap.set c (.cells rU (cs.take (j*sz)++r++cs.drop (j*sz+sz))) },jO (.h c),aS is m,?_,rfl,rfl,hR.step hr1 hfr CX.2,hfr,CX.2,.VP (dO g1 hown) hlt,fun b hb=>?_⟩
            ·have h9:j*sz+off+n≤l.length*sz:=by
              have h8:=hrow.2
              unfold over at g3
              split at g3
              ·rename_i h0
               rw[List.length_take,List.length_drop,SV.1] at h0;omega
              ·cases g3
             simp only[storeT,hn,SV,and_self,if_true,h9,KU q4 hkk q8.symm,g5,Option.map_some]
            ·simp[jO] at hb;subst hb;exact aC g1 hown
          | gone hi e' _=>simp only[aF,Option.some.injEq] at hi;subst hi;rw[g1] at e';cases e'
         | _=>exact g2.elim
       ·cases hl
      ·cases hl
     ·cases hl
    | _=>simp at hl
  ·cases hl
 ·cases hl
end
end Pv
namespace Pv
open Go Tw
section
variable {X:gZ} {P:Program} {A F:Nat→Prop} {m m':List MB} {h h':List HB} {H H':List (PB X.Γ)}
theorem iE {v:PV X.Γ} {x:TV} (hv:VR X P A m h v x):PER X P A m h (.val v) (.val x):=hv
theorem zZ {ps:aP X.Γ} {ts:St} (hR:lS X P A m ps ts) {o:Nat} {pa pb:PE X.Γ} {ea:EV} (ha:PER X P (AA A m) m ts.heap pa ea) (hl:uQ X ps o pa=some pb):∃ eb,zM o ea=some eb∧PER X P (AA A m) m ts.heap pb eb:=by
 cases pa with
 | loc k off=>
  rw[qX ha]
  simp only[uQ,Option.some.injEq] at hl;subst hl
  exact⟨.loc k (off+o),rfl,rfl,rfl⟩
 | undef=>simp[uQ] at hl
 | val a=>
  obtain⟨y,rfl,hy⟩:=bK ha
  cases a with
  | ptr b off lim=>
   simp only[uQ] at hl
   split at hl
   ·rename_i cs hb
    split at hl
    ·rename_i hle
     cases hl
     obtain⟨mb,g1,g2⟩:=hR.heap.at_ b _ hb
     cases mb with
     | blk c=>
      cases hy with
      | ptr e=>exact⟨.val (.ptr _ (off+o) lim),by simp only[zM,hle,if_true],VR.ptr e⟩
      | gone hi e q=>simp only[aF,Option.some.injEq] at hi;subst hi;rw[g1] at e;cases e
     | _=>exact g2.elim
    ·cases hl
   ·rename_i cs hb
    split at hl
    ·rename_i hle
     cases hl
     obtain⟨mb,g1,g2⟩:=hR.heap.at_ b _ hb
     cases mb with
     | bM c=>
      cases hy with
      | ptr e=>rw[g1] at e;cases e
      | gone hi e q=>
       simp only[aF,Option.some.injEq] at hi;subst hi;rw[g1] at e
       cases e with
       | r _ e=>simp only[SL,Option.some.injEq] at e;subst e;exact⟨.val (.ptr _ (off+o) lim),by simp only[zM,hle,if_true],VR.gone rfl (.RH g1 rfl) rfl⟩
     | _=>exact g2.elim
    ·cases hl
   ·cases hl
  | el t a off=>
   simp only[uQ] at hl
   split at hl
   ·rename_i hle
    cases hl
    cases hy with
    | el q1 q2 q2' q3 q4 q5 q6=>
     rename_i b o0 sz lim cs
     rw[q4] at hle
     refine⟨.val (.ptr b (o0+off+o) lim),by simp only[zM];rw[if_pos (by omega)],?_⟩
     rw[Nat.add_assoc]
     exact VR.el q1 q2 q2' q3 q4 hle q6
    | gone hi _ _=>simp[aF] at hi
   ·cases hl
  | row b j off=>
   simp only[uQ,Yw] at hl
   split at hl
   ·rename_i n hn
    split at hn
    ·rename_i k ex e l hb
     cases hn
     split at hl
     ·rename_i hle
      cases hl
      obtain⟨mb,g1,g2⟩:=hR.heap.at_ b _ hb
      cases mb with
      | lst z=>
       cases hy with
       | row e' hj hq=>
        rw[g1] at e';cases e'
        cases (g2:LR X P _ _ _ _ _ _ _ _) with
        | emp=>omega
        | some q1 q2 q3 q4 q5 q6 q7 q8 q9=>
         rw[q9.1 j _ (getD_at hj)] at hle
         have hrow:=(q9.row (getD_at hj)).2
         refine⟨.val (.ptr _ (j*_+off+o) (l.length*_)),by simp only[zM];rw[if_pos (by omega)],?_⟩
         rw[Nat.add_assoc]
         exact VR.row g1 hj hle
       | gone hi e' _=>simp only[aF,Option.some.injEq] at hi;subst hi;rw[g1] at e';cases e'
      | _=>exact g2.elim
     ·cases hl
    ·cases hn
   ·cases hl
  | _=>simp[uQ] at hl
theorem SX {ps:aP X.Γ} {ts:St} (hR:lS X P A m ps ts) {b:Nat} {k ex:Bool} {e:Nat} {l:List (X.Γ e)} (hb:ps.heap[b]? = some (.list k ex e l)) {y:TV} (hy:VR X P (AA A m) m ts.heap (.own b) y) (hl:l≠[]) :
  ∃ c sz x,y=.slc c 0 l.length l.length sz x∧m[b]? = some (.lst y)∧sizeT P e=some sz∧0<sz:=by
 obtain⟨mb,g1,g2⟩:=hR.heap.at_ b _ hb
 cases mb with
 | lst z=>
  cases hy with
  | own e' o=>
   rw[g1] at e';cases e'
   cases (g2:LR X P _ _ _ _ _ _ _ _) with
   | nil=>exact absurd rfl hl
   | emp=>exact absurd rfl hl
   | some q1 q2 q3=>exact⟨_,_,_,rfl,g1,q2,q3⟩
  | gone hi e' _=>simp only[aF,Option.some.injEq] at hi;subst hi;rw[g1] at e';cases e'
 | _=>exact g2.elim
theorem nN {ps:aP X.Γ} {ts:St} (hR:lS X P A m ps ts) {t:TypeId} {px pb:PE X.Γ} {ex:EV} (hx:PER X P (AA A m) m ts.heap px ex) {i:PV X.Γ} {ti:TV} (hi:VR X P (AA A m) m ts.heap i ti) {qs:List Prop} (hl:tV X P t ps px i=some (pb,qs)) (hq:∀ q∈qs,q) :
  ∃ eb,dJ P t ex ti=some eb∧PER X P (AA A m) m ts.heap pb eb:=by
 have hidx:∀ {k:IntKind} {iv:Int} {n:Nat},zl iv n→idx n (.int k iv)=some iv.toNat∧iv.toNat<n:=by
  intro k iv n hn
  unfold zl at hn
  refine⟨by simp only[idx];rw[if_pos hn],by omega⟩
 have hpi:∀ {n j:Nat},Nc X n i=some j→idx n ti=some j:=by
  intro n j hj
  cases i<;>simp only[Nc] at hj<;>try (cases hj;done)
  cases hi with
  | int=>exact hj
  | gone e _ _=>simp[aF] at e
 unfold tV at hl
 split at hl
 ·rename_i e hu
  split at hl
  ·rename_i n t' l fu k iv hn
   split at hl
   ·rename_i ht
    subst ht
    simp only[Option.some.injEq,Prod.mk.injEq] at hl
    obtain⟨rfl,rfl⟩:=hl
    have hr:=hidx (k:=k) (hq _ List.mem_cons_self)
    have:ti=.int k iv:=by
     cases hi with
     | int=>rfl
     | gone e _ _=>simp[aF] at e
    subst this
    obtain⟨y,rfl,hy⟩:=bK hx
    rcases L9 hy hn with⟨rfl,rfl⟩ | ⟨b,off,cap,ex',cs,rfl,hk,hc,hc2,hw⟩
    ·have:=hr.2;simp at this
    ·have hrow:=hw.row (getD_at hr.2)
     have hA:AA A m b:=by
      cases hy with
      | lst a=>exact a
      | gone e _ _=>simp[aF] at e
     have hcc:=hc2 (by intro e0;rw[e0] at hr;have:=hr.2;simp at this)
     have hle:off+iv.toNat*n+n≤off+cap*n:=by
      have h1:(iv.toNat+1)*n≤cap*n:=Nat.mul_le_mul_right n (by have:=hr.2;omega)
      rw[Nat.add_mul,Nat.one_mul] at h1;omega
     refine⟨.val (.ptr b (off+iv.toNat*n) (off+cap*n)),?_,?_⟩
     ·simp only[dJ,hu,hn,if_true,hr.1,Option.map_some]
     ·have:=VR.el (X:=X) (P:=P) (A:=AA A m) (m:=m) (h:=ts.heap) (t:=t') (a:=l.getD iv.toNat (X.d0 t')) (off:=0) (o:=off+iv.toNat*n) hA hcc hle hrow.2 (hw.1 _ _ (getD_at hr.2)) (Nat.zero_le _) (fun i c v h1 h2=>hw.2.2 _ _ i c v (getD_at hr.2) h1 h2)
      exact iE (by simpa using this)
   ·cases hl
  ·rename_i n b k iv hn
   split at hl
   ·rename_i w ex' t' l hb
    split at hl
    ·rename_i ht
     subst ht
     simp only[Option.some.injEq,Prod.mk.injEq] at hl
     obtain⟨rfl,rfl⟩:=hl
     have hr:=hidx (k:=k) (hq _ List.mem_cons_self)
     have:ti=.int k iv:=by
      cases hi with
      | int=>rfl
      | gone e _ _=>simp[aF] at e
     subst this
     obtain⟨y,rfl,hy⟩:=bK hx
     obtain⟨c,sz,x',rfl,g1,g2,g3⟩:=SX hR hb hy (by intro e0;rw[e0] at hr;have:=hr.2;simp at this)
     rw[hn] at g2;cases g2
     refine⟨.val (.ptr c (iv.toNat*n) (l.length*n)),?_,?_⟩
     ·simp only[dJ,hu,hn,if_true,hr.1,Option.map_some,Nat.zero_add]
     ·have:=VR.row (X:=X) (P:=P) (A:=AA A m) (m:=m) (h:=ts.heap) (off:=0) g1 hr.2 (Nat.zero_le n)
      exact iE (by simpa using this)
    ·cases hl
   ·cases hl
  ·rename_i n b o q k iv hn
   split at hl
   ·rename_i w ex' t' l hb
    split at hl
    ·rename_i ht
     subst ht
     simp only[Option.some.injEq,Prod.mk.injEq] at hl
     obtain⟨rfl,rfl⟩:=hl
     have hr:=hidx (k:=k) (hq _ List.mem_cons_self)
     have:ti=.int k iv:=by
      cases hi with
      | int=>rfl
      | gone e _ _=>simp[aF] at e
     subst this
     obtain⟨y,rfl,hy⟩:=bK hx
     obtain⟨mb,g1,g2⟩:=hR.heap.at_ b _ hb
     cases mb with
     | lst z=>
      cases hy with
      | win e' w1 w2 w3=>
       rw[g1] at e';cases e'
       cases (g2:LR X P _ _ _ _ _ _ _ _) with
       | emp=>have:=hr.2;omega
       | some q1 q2 q3=>
        rw[hn] at q2;cases q2
        have hp:=iE (VR.row (X:=X) (P:=P) (A:=AA A m) (m:=m) (h:=ts.heap) (j:=o+iv.toNat) (off:=0) g1 (by have:=hr.2;omega) (Nat.zero_le n))
        refine⟨_,?_,hp⟩
        have h3:=w3.resolve_left (by have:=hr.2;omega)
        simp only[dJ,hu,hn,if_true,hr.1,Option.map_some,Nat.zero_add,Nat.add_mul,Nat.add_zero,←h3]
      | nY e'=>have:=hr.2;omega
      | gone hi e' _=>simp only[aF,Option.some.injEq] at hi;subst hi;rw[g1] at e';cases e'
     | _=>exact g2.elim
    ·cases hl
   ·cases hl
  ·rename_i n b off len cap sz ex' hn
   split at hl
   ·rename_i cs hb
    split at hl
    ·rename_i hsz
     subst hsz
     simp only[Option.map_eq_some_iff,Prod.mk.injEq] at hl
     obtain⟨j,h1,rfl,rfl⟩:=hl
     obtain⟨y,rfl,hy⟩:=bK hx
     obtain⟨mb,g1,g2⟩:=hR.heap.at_ b _ hb
     cases mb with
     | blk c=>
      cases hy with
      | slc e=>
       have:=hpi h1
       rw[g1] at e;cases e
       exact⟨.val (.ptr c (off+j*n) (off+cap*n)),by simp only[dJ,hu,hn,if_true,this,Option.map_some],VR.ptr g1⟩
      | gone hi' e' _=>simp only[aF,Option.some.injEq] at hi';subst hi';rw[g1] at e';cases e'
     | _=>exact g2.elim
    ·cases hl
   ·cases hl
  ·cases hl
 ·rename_i len e hu
  split at hl
  ·rename_i n hn
   split at hl
   ·rename_i j hj
    simp only[Option.map_eq_some_iff,Prod.mk.injEq] at hl
    obtain⟨pa,h1,rfl,rfl⟩:=hl
    obtain⟨eb,g1,g2⟩:=zZ hR hx h1
    exact⟨eb,by simp only[dJ,hu,hn,hpi hj,g1],g2⟩
   ·cases hl
  ·cases hl
 ·cases hl
end
end Pv
namespace Pv
open Go Tw
section
variable {X:gZ} {P:Program} {A F:Nat→Prop} {m m':List MB} {h h':List HB} {H H':List (PB X.Γ)}
theorem Il (hr:HR X P A m H h) {at_:Array TypeId} {x:PV X.Γ} {tx:TV} (hx:VR X P (AA A m) m h x tx) {v:PV X.Γ} {pi:Inf} (hl:VE X P at_ H x=some (v,pi)) :
  ∃ w ti,Ib P at_ h tx=some (w,ti)∧VR X P (AA A m) m h v w∧IR m h ⟨pi,false,false,true⟩ ti∧ti.ws=[]:=by
 unfold VE at hl
 split at hl
 ·rename_i t ht
  unfold Ib
  simp only[ht]
  split at hl
  ·rename_i s hu
   cases hl
   cases hx with
   | str=>exact⟨_,_,by first | (simp only[hu];done) | (simp only[hu];rfl),.int _ _,.none,rfl⟩
   | gone hi _ _=>simp[aF] at hi
  ·rename_i n e _ hu
   cases hl
   exact⟨_,_,by first | (simp only[hu];done) | (simp only[hu];rfl),.int _ _,.none,rfl⟩
  ·rename_i e b off len cap sz ex hu
   split at hl
   ·rename_i cs hb
    cases hl
    obtain⟨mb,g1,g2⟩:=hr.at_ b _ hb
    cases mb with
    | blk c=>
     cases hx with
     | slc e'=>exact⟨_,_,by first | (simp only[hu];done) | (simp only[hu];rfl),.int _ _,.none,rfl⟩
     | gone hi e' _=>simp only[aF,Option.some.injEq] at hi;subst hi;rw[g1] at e';cases e'
    | _=>exact g2.elim
   ·cases hl
  ·rename_i e hu
   cases hl
   cases hx with
   | nil=>exact⟨_,_,by first | (simp only[hu];done) | (simp only[hu];rfl),.int _ _,.none,rfl⟩
   | gone hi _ _=>simp[aF] at hi
  ·rename_i e t' l fu hu
   cases hl
   cases hx with
   | jg=>exact⟨_,_,by first | (simp only[hu];done) | (simp only[hu];rfl),.int _ _,.none,rfl⟩
   | lst=>exact⟨_,_,by first | (simp only[hu];done) | (simp only[hu];rfl),.int _ _,.none,rfl⟩
   | gone hi _ _=>simp[aF] at hi
  ·rename_i e b hu
   split at hl
   ·rename_i k ex t' l hb
    cases hl
    obtain⟨mb,g1,g2⟩:=hr.at_ b _ hb
    cases mb with
    | lst z=>
     cases hx with
     | own e' _=>
      rw[g1] at e';cases e'
      cases (g2:LR X P _ _ _ _ _ _ _ _) with
      | nil=>exact⟨_,_,by first | (simp only[hu];done) | (simp only[hu];rfl),.int _ _,.none,rfl⟩
      | emp=>exact⟨_,_,by first | (simp only[hu];done) | (simp only[hu];rfl),.int _ _,.none,rfl⟩
      | some=>exact⟨_,_,by first | (simp only[hu];done) | (simp only[hu];rfl),.int _ _,.none,rfl⟩
     | gone hi e' _=>simp only[aF,Option.some.injEq] at hi;subst hi;rw[g1] at e';cases e'
    | _=>exact g2.elim
   ·cases hl
  ·rename_i e b o n hu
   split at hl
   ·rename_i k ex t' l hb
    cases hl
    obtain⟨mb,g1,g2⟩:=hr.at_ b _ hb
    cases mb with
    | lst z=>
     cases hx with
     | win=>exact⟨_,_,by first | (simp only[hu];done) | (simp only[hu];rfl),.int _ _,.none,rfl⟩
     | nY=>exact⟨_,_,by first | (simp only[hu];done) | (simp only[hu];rfl),.int _ _,.none,rfl⟩
     | gone hi e' _=>simp only[aF,Option.some.injEq] at hi;subst hi;rw[g1] at e';cases e'
    | _=>exact g2.elim
   ·cases hl
  ·rename_i kt e hu
   cases hl
   cases hx with
   | nil=>exact⟨_,_,by first | (simp only[hu];done) | (simp only[hu];rfl),.int _ _,.none,rfl⟩
   | gone hi _ _=>simp[aF] at hi
  ·rename_i kt e r hu
   split at hl
   ·rename_i es hb
    cases hl
    obtain⟨mb,g1,g2⟩:=hr.at_ r _ hb
    cases mb with
    | blk c=>
     obtain⟨es',g3,g4,g5⟩:=g2
     cases hx with
     | map e'=>
      rw[g1] at e';cases e'
      exact⟨_,_,by first | (simp only[hu,g3];done) | (simp only[hu,g3];rfl),by rw[g4];exact .int _ _,.rdH (dO g1 rfl) (List.getElem?_eq_some_iff.1 g3).1,rfl⟩
     | gone hi e' _=>simp only[aF,Option.some.injEq] at hi;subst hi;rw[g1] at e';cases e'
    | _=>exact g2.elim
   ·cases hl
  ·cases hl
 ·cases hl
def Pq:BinOp→Option TV
 | .eql=>some (.bool false)
 | .neq=>some (.bool true)
 | _=>none
theorem Ik {op:BinOp} {t:TypeId} {x y:Operand} {a b:PV X.Γ} {ta tb:TV} (ha:VR X P A m h a ta) (hb:VR X P A m h b tb) {v:PV X.Γ} (hl:VF X P op t x y a b=some v):∃ w,jo P op t x y ta tb=some w∧VR X P A m h v w:=by
 unfold VF at hl
 split at hl
 ·rename_i u w h1 h2
  split at hl
  ·rename_i r hr
   rw[gQ ha h1,gQ hb h2]
   exact⟨r,hr,kW hl⟩
  ·cases hl
 ·rename_i hno
  split at hl
  ·rename_i hn
   have key:∃ k,y8 P t=some k∧((ta=.nil k∧y7 tb=some k∧tb.oJ=none)∨(tb=.nil k∧y7 ta=some k∧ta.oJ=none)):=by
    unfold KO at hn
    split at hn
    ·rename_i k hk
     refine⟨k,hk,?_⟩
     simp only[Bool.or_eq_true,Bool.and_eq_true,beq_iff_eq] at hn
     have YI:∀ {z:PV X.Γ} {tz:TV},VR X P A m h z tz→z=.nil k→tz=.nil k:=by
      intro z tz hz e;subst e
      cases hz with
      | nil=>rfl
      | gone hi _ _=>simp[aF] at hi
     have UR:∀ {z:PV X.Γ} {tz:TV},VR X P A m h z tz→(match z with | .fn _ _ _=>some NK.fn | .el _ _ _=>some NK.ptr | _=>none)=some k→y7 tz=some k∧tz.oJ=none:=by
      intro z tz hz e
      cases hz with
      | fn=>exact⟨e,rfl⟩
      | el=>exact⟨e,rfl⟩
      | gone hi _ _=>cases z<;>simp[aF] at hi<;>simp at e
      | _=>simp at e
     have YJ:∀ {z:PV X.Γ},(match z with | .nil k=>some k | _=>none)=some k→z=.nil k:=by
      intro z e
      cases z<;>simp at e
      rw[e]
     rcases hn with⟨h1,h2⟩ | ⟨h1,h2⟩
     ·have:=UR hb h2
      exact .inl ⟨YI ha (YJ h1),this.1,this.2⟩
     ·have:=UR ha h1
      exact .inr ⟨YI hb (YJ h2),this.1,this.2⟩
    ·cases hn
   obtain⟨k,hk,hc⟩:=key
   have a2y:jo P op t x y ta tb=Pq op:=by
    rcases hc with⟨rfl,h2,h3⟩ | ⟨rfl,h2,h3⟩
    ·have hnn:oQ P t (.nil k) tb=true:=by unfold oQ;rw[hk];simp[Ic,h2]
     unfold jo
     rw[h3]
     cases (TV.nil k).oJ<;>simp only[hnn,if_true]<;>cases op<;>rfl
    ·have hnn:oQ P t ta (.nil k)=true:=by unfold oQ;rw[hk];simp[Ic,h2]
     unfold jo
     rw[h3]
     simp only[hnn,if_true]
     cases op<;>rfl
   rw[a2y]
   cases op<;>simp only at hl ⊢<;>try (cases hl;done)
   ·cases hl;exact⟨_,rfl,.bool _⟩
   ·cases hl;exact⟨_,rfl,.bool _⟩
  ·cases hl
theorem Bh {op:BinOp} {t:TypeId} {x y:Operand} {b:PV X.Γ} {ta tb:TV} (hb:VR X P A m h b tb) {v:PV X.Γ} {q q':Prop} (hl:zn X P op t b q=some (v,q')) (hq:q') (h2:q→y7 ta=some .slc∧ta.oJ=none):∃ w,jo P op t x y ta tb=some w∧VR X P A m h v w:=by
 unfold zn at hl
 split at hl
 ·rename_i hk
  have h1:tb=.nil .slc:=by
   cases hb with
   | nil=>rfl
   | gone hi _ _=>simp[aF] at hi
  subst h1
  have key:q→jo P op t x y ta (.nil .slc)=Pq op:=fun hq=>by
   obtain⟨h2,h3⟩:=h2 hq
   have hnn:oQ P t ta (.nil .slc)=true:=by unfold oQ;rw[hk];simp[Ic,h2]
   unfold jo
   rw[h3]
   simp only[hnn,if_true]
   cases op<;>rfl
  split at hl
  ·cases hl;rw[key hq];exact⟨_,rfl,.bool _⟩
  ·cases hl;rw[key hq];exact⟨_,rfl,.bool _⟩
  ·cases hl
 ·cases hl
theorem Nq (hr:HR X P A m H h) {op:BinOp} {t:TypeId} {x y:Operand} {a b:PV X.Γ} {ta tb:TV} (ha:VR X P (AA A m) m h a ta) (hb:VR X P (AA A m) m h b tb) {v:PV X.Γ} {q:Prop} (hl:EO X P op t H a b=some (v,q)) (hq:q):∃ w,jo P op t x y ta tb=some w∧VR X P (AA A m) m h v w:=by
 unfold EO at hl
 split at hl
 ·rename_i l fu
  refine Bh hb hl hq (fun hne=>?_)
  cases ha with
  | jg=>exact absurd rfl hne
  | lst=>exact⟨rfl,rfl⟩
  | gone hi _ _=>simp[aF] at hi
 ·rename_i i
  split at hl
  ·rename_i k ex t' l hi
   refine Bh hb hl hq (fun hne=>?_)
   obtain⟨mb,g1,g2⟩:=hr.at_ i _ hi
   cases ha with
   | own e o=>
    rw[g1] at e;cases e
    cases g2 with
    | nil=>exact absurd rfl hne
    | emp=>exact absurd rfl hne
    | some=>exact⟨rfl,rfl⟩
   | gone hi e _=>simp only[aF,Option.some.injEq] at hi;subst hi;rw[g1] at e;cases e<;>exact g2.elim
  ·cases hl
 ·cases hl
theorem dn {op:UnOp} {a:PV X.Γ} {ta:TV} (ha:VR X P A m h a ta) {v:PV X.Γ} (hl:pun X P op a=some v):∃ w,XC P op ta=some w∧VR X P A m h v w:=by
 unfold pun at hl
 split at hl
 ·rename_i u h1
  split at hl
  ·rename_i r hr
   rw[gQ ha h1]
   exact⟨r,hr,kW hl⟩
  ·cases hl
 ·cases hl
theorem Et {s d:TypeId} {a:PV X.Γ} {ta:TV} (ha:VR X P A m h a ta) {v:PV X.Γ} (hl:OX X P s d a=some v):∃ w,zN P s d ta=some w∧VR X P A m h v w:=by
 unfold OX at hl
 split at hl
 ·rename_i u h1
  split at hl
  ·rename_i r hr
   rw[gQ ha h1]
   exact⟨r,hr,kW hl⟩
  ·cases hl
 ·cases hl
theorem mP {mx:Bool} {at_:Array TypeId} {t:TypeId} {az:List (PV X.Γ)} {ts:List TV} (ha:aG X P A m h az ts) {v:PV X.Γ} (hl:zo X P mx at_ t az=some v):∃ w,qM P mx at_ t ts=some w∧VR X P A m h v w:=by
 unfold zo at hl
 split at hl
 ·rename_i u h1
  split at hl
  ·rename_i r hr
   rw[KZ ha h1]
   exact⟨r,hr,kW hl⟩
  ·cases hl
 ·cases hl
theorem A8 {t:TypeId} {x:PV X.Γ} {tx:TV} (hx:VR X P A m h x tx) {i:Nat} {v:PV X.Γ} (hl:J5 X P t x i=some v):∃ w,wH P t tx i=some w∧VR X P A m h v w:=by
 unfold J5 at hl
 split at hl
 ·rename_i fs cs hu
  split at hl
  ·rename_i f hf
   cases hx with
   | agg h1 h2=>
    obtain⟨w,g1,g2⟩:=og ⟨h1,h2⟩ hl
    exact⟨w,by simp only[wH,hu,hf,g1],g2⟩
   | gone hi _ _=>simp[aF] at hi
  ·cases hl
 ·cases hl
theorem Aa {t:TypeId} {x i:PV X.Γ} {tx ti:TV} (hx:VR X P A m h x tx) (hi:VR X P A m h i ti) {v:PV X.Γ} (hl:J6 X P t x i=some v):∃ w,sN P t tx ti=some w∧VR X P A m h v w:=by
 unfold J6 at hl
 split at hl
 ·rename_i len e cs hu
  split at hl
  ·rename_i n j hn hj
   have:idx len ti=some j:=by
    cases i<;>simp only[Nc] at hj<;>try (cases hj;done)
    cases hi with
    | int=>exact hj
    | gone e _ _=>simp[aF] at e
   cases hx with
   | agg h1 h2=>
    obtain⟨w,g1,g2⟩:=og ⟨h1,h2⟩ hl
    exact⟨w,by simp only[sN,hu,hn,this,g1],g2⟩
   | gone hi _ _=>simp[aF] at hi
  ·cases hl
 ·cases hl
end
end Pv
namespace Pv
open Go Tw
section
variable {X:gZ} {P:Program} {A F:Nat→Prop} {m m':List MB} {h h':List HB} {H H':List (PB X.Γ)}
theorem uZ:∀ {is:List Nat} {H:List (PB X.Γ)} {i:Nat} {pb:PB X.Γ},(aI is H)[i]? = some pb→(i∈is∧pb=.gone)∨(i∉is∧H[i]? = some pb)
 | [],_,_,_,h=>.inr ⟨by simp,h⟩
 | j::is,H,i,pb,h=>by
  rcases uZ (is:=is) (H:=Gj j H) h with⟨h1,h2⟩ | ⟨h1,h2⟩
  ·exact .inl ⟨List.mem_cons_of_mem _ h1,h2⟩
  ·unfold Gj at h2
   by_cases e:j=i
   ·subst e
    rw[List.getElem?_set_self'] at h2
    cases hx:H[j]? with
    | none=>rw[hx] at h2;cases h2
    | some y=>rw[hx] at h2;cases h2;exact .inl ⟨List.mem_cons_self,rfl⟩
   ·rw[List.getElem?_set_ne e] at h2
    exact .inr ⟨by simp[h1,Ne.symm e],h2⟩
theorem iR (hr:HR X P A m H h) (is:List Nat) {k ex x:Bool} {e size:Nat} {rows:List (X.Γ e)} {cs:List TV} (hw:aZ X P (FA A m is) (aS is m) h e rows cs 0 size) (hc:cs.length=rows.length*size) (hn:rows≠[]) (hz:sizeT P e=some size) (h0:0<size) (hx:ex=true→x=true) :
  ∃ m1,HR X P A m1 (aI is H++[.list k ex e rows]) (h++[.cells .own cs])∧Fr m h m1 (h++[.cells .own cs])∧Up m m1∧VR X P (AA A m1) m1 (h++[.cells .own cs]) (.own H.length) (.slc h.length 0 rows.length rows.length size x):=by
 have hgo:=hr.aI is
 have CX:=fV (h:=h) is m
 have hown:(MB.lst (.slc h.length 0 rows.length rows.length size x)).own=some h.length:=by simp only[MB.own];rw[if_neg (by simpa using hn)]
 have hF:Fr (aS is m) h (aS is m++[.lst (.slc h.length 0 rows.length rows.length size x)]) (h++[.cells .own cs]):=by
  refine⟨by simp,fun b hb _=>by rw[List.getElem?_append_left hb],fun b hb=>?_,fun b cs hc=>⟨cs,by rw[bI (List.getElem?_append_left (bQ hc)),hc],Nat.le_refl _⟩⟩
  rw[dF,List.mem_append,eU,hown] at hb
  rcases hb with hb | hb
  ·exact .inl hb
  ·simp at hb;exact .inr (by omega)
 obtain⟨h1,h2,h3⟩:=hgo.push (pb:=.list k ex e rows) (hb:=.cells .own cs) (.inl hown)
  (LR.some (kk:=.own) hn hz h0 (by simp) (by simp) (fun _=>rfl) hx hc ((hw.mono fun b hb=>hb.gone hr).step hF (kU _)))
 refine⟨_,h1,CX.1.trans h2,CX.2.trans h3,.own ?_ rfl⟩
 rw[←hr.len,←eX is m];simp
theorem DX (hr:HR X P A m H h) (is:List Nat) {k ex:Bool} {e:Nat} {y:TV} (hy:(MB.lst y).own=none) (ho:bJ y=true) (hl:LR X P (AA A (aS is m++[.lst y])) (aS is m++[.lst y]) h k ex e [] y) :
  ∃ m1,HR X P A m1 (aI is H++[.list k ex e []]) h∧Fr m h m1 h∧Up m m1∧VR X P (AA A m1) m1 h (.own H.length) y:=by
 have CX:=fV (h:=h) is m
 obtain⟨h1,h2,h3⟩:=(hr.aI is).UQ (pb:=.list k ex e []) hy hl
 refine⟨_,h1,CX.1.trans h2,CX.2.trans h3,.own ?_ ho⟩
 rw[←hr.len,←eX is m];simp
theorem SY (hr:HR X P A m H h) {is:List Nat} {y:TV} (hy:(MB.lst y).own=none) {b:Nat} (hb:FA A m is b):AA A (aS is m++[.lst y]) b:=by
 have:=hb.gone hr
 refine⟨this.1,fun hm=>this.2 ?_⟩
 rw[dF,List.mem_append,eU,hy] at hm
 simpa using hm
theorem push_empty (hr:HR X P A m H h) (is:List Nat) {k ex:Bool} {e size b off:Nat} {cs:List TV} (hz:sizeT P e=some size) (h0:0<size) (ha:FA A m is b) (hb:aB h b=some cs) (ho:off≤cs.length) :
  ∃ m1,HR X P A m1 (aI is H++[.list k ex e []]) h∧Fr m h m1 h∧Up m m1∧VR X P (AA A m1) m1 h (.own H.length) (.slc b off 0 0 size true):=
 DX hr is rfl rfl (LR.emp (SY hr rfl ha) hb ho hz h0)
theorem Bj (hr:HR X P A m H h) (is:List Nat) {k ex:Bool} {e:Nat} :
  ∃ m1,HR X P A m1 (aI is H++[.list k ex e []]) h∧Fr m h m1 h∧Up m m1∧VR X P (AA A m1) m1 h (.own H.length) (.nil .slc):=
 DX hr is rfl rfl .nil
theorem Bo (hr:HR X P A m H h) {b c:Nat} (is:List Nat) {mb mb':MB} {pb:PB X.Γ} {h1:List HB} (hb:m[b]? = some mb) (ho:mb.own=some c) (ho':mb'.own=some c) (hlen:h1.length=h.length) (hs:∀ d,d≠c→h1[d]? = h[d]?)
  (hg:∀ cs,aB h c=some cs→∃ cs',aB h1 c=some cs'∧cs.length≤cs'.length)
  (hb':Fr m h (aS (b::is) m++[mb']) h1→Up m (aS (b::is) m++[mb'])→BR X P (AA A (aS (b::is) m++[mb'])) (aS (b::is) m++[mb']) h1 pb mb') :
  ∃ m1,m1=aS (b::is) m++[mb']∧HR X P A m1 (aI (b::is) H++[pb]) h1∧Fr m h m1 h1∧Up m m1∧m1[H.length]? = some mb':=by
 have CX:=fV (h:=h) (b::is) m
 have hgo:=hr.aI (b::is)
 have hnc:c∉blks (aS (b::is) m):=fun hm=>by
  obtain⟨j,mbj,g1,g2,g3⟩:=oh hm
  have:=dw hr.nodup hb g2 ho g3
  exact g1 (by rw[←this];exact List.mem_cons_self)
 have hbl:∀ d,d∈blks (aS (b::is) m++[mb'])↔d∈blks (aS (b::is) m)∨d=c:=by
  intro d;rw[dF,List.mem_append,eU,ho'];simp
 have hcm:c∈blks m:=aC hb ho
 have hF:Fr m h (aS (b::is) m++[mb']) h1:=by
  refine⟨by omega,fun d hd hn=>hs d fun e=>hn (e▸hcm),fun d hd=>?_,fun d cs hc=>?_⟩
  ·rcases (hbl d).1 hd with hd | rfl
   ·exact CX.1.new d hd
   ·exact .inl hcm
  ·by_cases e:d=c
   ·subst e;exact hg cs hc
   ·exact⟨cs,by rw[bI (hs d e),hc],Nat.le_refl _⟩
 have hU:Up m (aS (b::is) m++[mb']):=CX.2.trans (kU _)
 refine⟨_,rfl,?_,hF,hU,?_⟩
 ·refine hr.next hF hU (by simp[eX,pW,hr.len]) ?_ fun i pbi hi=>?_
  ·rw[dF,eU,ho']
   refine List.nodup_append.2 ⟨hgo.nodup,by simp,fun a ha b' hb2 e=>?_⟩
   simp at hb2;subst hb2;subst e;exact hnc ha
  ·rcases Nat.lt_or_ge i (aI (b::is) H).length with hlt | hge
   ·rw[List.getElem?_append_left hlt] at hi
    have hlt':i<(aS (b::is) m).length:=by rw[hgo.len];exact hlt
    rcases uZ hi with⟨e1,rfl⟩ | ⟨e1,e2⟩
    ·obtain⟨mbi,g1,g2⟩:=hgo.at_ i _ hi
     cases mbi with
     | gone=>exact .inr ⟨.gone,by rw[List.getElem?_append_left hlt'];exact g1,trivial⟩
     | _=>exact g2.elim
    ·obtain⟨mbi,g1,_⟩:=hr.at_ i _ e2
     left
     have hm:=pX (b::is) g1
     rw[show (b::is).contains i=false by simpa using e1] at hm
     refine⟨mbi,e2,g1,by rw[List.getElem?_append_left hlt'];simpa using hm,fun d hd=>hs d fun e=>?_⟩
     subst e
     have:=dw hr.nodup hb g1 ho hd
     exact e1 (by rw[←this];exact List.mem_cons_self)
   ·rw[List.getElem?_append_right hge] at hi
    have:i-(aI (b::is) H).length=0:=by
     rcases Nat.eq_zero_or_pos (i-(aI (b::is) H).length) with h | h
     ·exact h
     ·rw[List.getElem?_eq_none (by simp;omega)] at hi;cases hi
    rw[this] at hi
    simp only[List.getElem?_cons_zero,Option.some.injEq] at hi
    subst hi
    exact .inr ⟨mb',by rw[List.getElem?_append_right (by rw[hgo.len];exact hge),hgo.len,this];rfl,hb' hF hU⟩
 ·have:H.length=(aS (b::is) m).length:=by rw[eX,hr.len]
  rw[this];simp
end
end Pv
namespace Pv
open Go Tw
section
variable {X:gZ} {P:Program} {A F:Nat→Prop} {m m':List MB} {h h':List HB} {H H':List (PB X.Γ)}
def Gu (X:gZ) (P:Program) (A:Nat→Prop) (m:List MB) (ts:St) (r:Option (TV×St×Inf)) (v:PV X.Γ) (H1:List (PB X.Γ)) (pi:PI):Prop:=
 ∃ w h1 ti m1,r=some (w,{ ts with heap:=h1 },ti)∧HR X P A m1 H1 h1∧VR X P (AA A m1) m1 h1 v w∧Fr m ts.heap m1 h1∧Up m m1∧IR m ts.heap pi ti∧∀ b,.h b∈ti.ws→b∈blks m
theorem gU {e:TypeId} {n k:Nat} (hb:jD P e n=true) (hk:k≤n):jD P e k=true:=by
 unfold jD at hb ⊢
 split at hb
 ·rename_i i hi
  simp only[Bool.and_eq_true,decide_eq_true_eq] at hb ⊢
  obtain⟨⟨⟨⟨h1,h2⟩,h3⟩,h4⟩,h5⟩:=hb
  have:=Nat.mul_le_mul_right i.bytes hk
  exact⟨⟨⟨⟨by omega,by omega⟩,h3⟩,h4⟩,h5⟩
 ·cases hb
theorem gV {t e:TypeId} {n:Nat} (hs:dY P t=some (e,n)):sizeT P e=some n∧0<n:=by
 unfold dY at hs
 split at hs
 ·split at hs
  ·rename_i k hk
   split at hs
   ·cases hs
   ·rename_i h0
    simp only[Option.some.injEq,Prod.mk.injEq] at hs
    obtain⟨rfl,rfl⟩:=hs
    exact⟨hk,by omega⟩
  ·cases hs
 ·cases hs
theorem jZ (hr:HR X P A m H h) {e sz:Nat} {x:PV X.Γ} {tx:TV} (hv:VR X P (AA A m) m h x tx) (hz:sizeT P e=some sz) {rows:List (X.Γ e)} {is:List Nat} (hs:nV X H e sz x=some (rows,is)) {b:Nat} (hb:.h b∈aJ tx):((∃ i,.h i∈pK X x∧Own m i b)∨b∉blks m)∧b<h.length:=by
 have lr:∀ {i:Nat} {k ex:Bool} {t:Nat} {l:List (X.Γ t)} {c off len cap s:Nat} {e':Bool},H[i]? = some (.list k ex t l)→m[i]? = some (.lst (.slc c off len cap s e'))→(Own m i c∨c∉blks m)∧c<h.length:=by
  intro i k ex t l c off len cap s e' hH hm
  obtain⟨mb,g1,g2⟩:=hr.at_ i _ hH
  rw[hm] at g1;cases g1
  cases (g2:LR X P _ _ _ _ _ _ _ _) with
  | emp h0 h1=>exact⟨.inr h0.2,bQ h1⟩
  | some q1 q2 q3 q4=>exact⟨.inl (dO hm (by simp only[MB.own];rw[if_neg (by simpa using q1)])),(List.getElem?_eq_some_iff.1 q4).1⟩
 cases x with
 | nil k=>
  cases hv with
  | nil=>simp[aJ] at hb
  | gone hi _ _=>simp[aF] at hi
 | lst t l fu=>
  cases hv with
  | jg=>simp[aJ] at hb
  | lst a ac=>simp[aJ] at hb;subst hb;exact⟨.inr a.2,bQ ac⟩
  | gone hi _ _=>simp[aF] at hi
 | own i=>
  simp only[nV] at hs
  split at hs
  ·rename_i k ex t l hH
   cases hv with
   | own e' o=>
    cases tx<;>simp[aJ] at hb
    subst hb
    obtain⟨h1,h2⟩:=lr hH e'
    rcases h1 with h1 | h1
    ·exact⟨.inl ⟨i,by simp[pK],h1⟩,h2⟩
    ·exact⟨.inr h1,h2⟩
   | gone hi e' _=>
    simp only[aF,Option.some.injEq] at hi;subst hi
    obtain⟨mb,g1,g2⟩:=hr.at_ i _ hH
    rw[g1] at e';cases e'<;>exact g2.elim
  ·cases hs
 | win i o n=>
  simp only[nV] at hs
  split at hs
  ·rename_i k ex t l hH
   cases hv with
   | win e' q q'=>
    simp[aJ] at hb
    subst hb
    obtain⟨h1,h2⟩:=lr hH e'
    rcases h1 with h1 | h1
    ·exact⟨.inl ⟨i,by simp[pK],h1⟩,h2⟩
    ·exact⟨.inr h1,h2⟩
   | nY=>simp[aJ] at hb
   | gone hi e' _=>
    simp only[aF,Option.some.injEq] at hi;subst hi
    obtain⟨mb,g1,g2⟩:=hr.at_ i _ hH
    rw[g1] at e';cases e'<;>exact g2.elim
  ·cases hs
 | slc c off len cap s ex=>
  simp only[nV] at hs
  split at hs
  ·rename_i cs hH
   cases hv with
   | slc e'=>
    simp[aJ] at hb;subst hb
    obtain⟨mb,g1,g2⟩:=hr.at_ c _ hH
    rw[e'] at g1;cases g1
    exact⟨.inl ⟨c,by simp[pK],dO e' rfl⟩,g2.has rfl⟩
   | gone hi e' _=>
    simp only[aF,Option.some.injEq] at hi;subst hi
    obtain⟨mb,g1,g2⟩:=hr.at_ c _ hH
    rw[g1] at e';cases e'<;>exact g2.elim
  ·cases hs
 | _=>simp[nV] at hs
theorem IR.reads {p:PI} {ks:List Key} (hp:p.hp=true) (hk:∀ b,.h b∈ks→((∃ i,.h i∈p.i.ts∧Own m i b)∨b∉blks m)∧b<h.length) (hl:∀ k,.l k∉ks):IR m h p (bT ks):=
 ⟨fun h=>(by cases h),fun k h=>absurd h (hl k),fun k h=>(by cases h),fun b h=>(by cases h),hk,fun h=>(by rw[hp] at h;cases h)⟩
theorem iw {tx:TV} {k:Nat}:Key.l k∉aJ tx:=by cases tx<;>simp[aJ]
theorem wU (hX:aT X P) {ps:aP X.Γ} {ts:St} (hR:lS X P A m ps ts) {at_:Array TypeId} {d x:PV X.Γ} {td tx:TV} (hd:VR X P (AA A m) m ts.heap d td) (hx:VR X P (AA A m) m ts.heap x tx) {v:PV X.Γ} {H1:List (PB X.Γ)} {pi:Inf} {qs:List Prop}
  (hl:EM X P at_ ps.heap d x=some (v,H1,pi,qs)) (hq:∀ q∈qs,q):Gu X P A m ts (dN P at_ ts td tx) v H1 ⟨pi,false,false,true⟩:=by
 have hr:=hR.heap
 unfold EM at hl
 split at hl
 ·rename_i st xt hst hxt
  split at hl
  ·cases hl
  ·rename_i hint
   split at hl
   ·rename_i e size hse
    split at hl
    ·rename_i hbig
     obtain⟨hz,h0⟩:=gV hse
     split at hl
     ·rename_i rows is hs
      obtain⟨new,s1,s2,s3⟩:=EZ (m':=aS is m) hX hr hx hz hs
      have hk0:IR m ts.heap ⟨bT (pK X x),false,false,true⟩ (bT (aJ tx)):=IR.reads rfl (fun b hb=>jZ hr hx hz hs hb) fun k=>iw
      have hrn:rows.length=0↔rows=[]:=List.length_eq_zero_iff
      split at hl
      ·-- nil
       simp only[Option.some.injEq,Prod.mk.injEq] at hl
       obtain⟨rfl,rfl,rfl,rfl⟩:=hl
       have hq1:rows.length≤most:=hq _ List.mem_cons_self
       have:td=.nil .slc:=by
        cases hd with
        | nil=>rfl
        | gone hi _ _=>simp[aF] at hi
       subst this
       by_cases hn:rows=[]
       ·subst hn
        obtain⟨m1,g1,g2,g3,g4⟩:=Bj hr is (k:=true) (ex:=false) (e:=e)
        exact⟨_,ts.heap,_,m1,by unfold dN;simp only[hst,hxt,hint,if_false,hse,s1,List.length_nil,if_true,Bool.false_eq_true],g1,g4,g2,g3,hk0,fun b hb=>by simp[bT] at hb⟩
       ·obtain⟨m1,g1,g2,g3,g4⟩:=iR hr is (k:=true) (ex:=false) (x:=false) s3 s2 hn hz h0 (by simp)
        refine⟨_,ts.heap++[.cells .own new],_,m1,?_,g1,g4,g2,g3,hk0,fun b hb=>by simp[bT] at hb⟩
        unfold dN
        simp only[hst,hxt,hint,if_false,hse,s1,Bool.false_eq_true,hrn,hn,s2,if_true,gU hbig hq1]
      ·-- an own list
       rename_i b
       split at hl
       ·rename_i k ex t' l hb
        split at hl
        ·cases hl
        rename_i hnb
        split at hl
        ·rename_i l2 hcast
         obtain⟨rfl,rfl⟩:=jK hcast
         simp only[Option.some.injEq,Prod.mk.injEq] at hl
         obtain⟨rfl,rfl,rfl,rfl⟩:=hl
         have hq1:l2.length+rows.length≤most:=hq _ List.mem_cons_self
         obtain⟨mb,g1,g2⟩:=hr.at_ b _ hb
         have hk1:∀ {c:Nat},Own m b c∨c∉blks m→c<ts.heap.length→IR m ts.heap ⟨⟨false,.h b::pK X x,[.h b]⟩,false,false,true⟩ (bT (.h c::aJ tx)):=fun {c} hc hlt=>IR.reads rfl (fun d hd=>by
          rcases List.mem_cons.1 hd with e0 | e0
          ·cases e0
           rcases hc with hc | hc
           ·exact⟨.inl ⟨b,List.mem_cons_self,hc⟩,hlt⟩
           ·exact⟨.inr hc,hlt⟩
          ·obtain⟨h0,h9⟩:=jZ hr hx hz hs e0
           rcases h0 with⟨i,h1,h2⟩ | h1
           ·exact⟨.inl ⟨i,List.mem_cons_of_mem _ h1,h2⟩,h9⟩
           ·exact⟨.inr h1,h9⟩) fun j hj=>by
            rcases List.mem_cons.1 hj with e0 | e0
            ·cases e0
            ·exact iw e0
         have hk2:IR m ts.heap ⟨⟨false,.h b::pK X x,[.h b]⟩,false,false,true⟩ (bT (aJ tx)):=IR.reads rfl (fun d hd=>by
          obtain⟨h0,h9⟩:=jZ hr hx hz hs hd
          rcases h0 with⟨i,h1,h2⟩ | h1
          ·exact⟨.inl ⟨i,List.mem_cons_of_mem _ h1,h2⟩,h9⟩
          ·exact⟨.inr h1,h9⟩) fun j hj=>iw hj
         cases mb with
         | lst z=>
          cases hd with
          | gone hi e' _=>simp only[aF,Option.some.injEq] at hi;subst hi;rw[g1] at e';cases e'
          | own e' o=>
           rw[g1] at e';cases e'
           have hlr:LR X P (AA A m) m ts.heap k ex t' l2 td:=g2
           have s3':aZ X P (FA A m (b::is)) (aS (b::is) m) ts.heap t' rows new 0 size:=(s3.mono fun c hc=>FA.mono (fun i hi=>List.mem_cons_of_mem _ hi) hc).dH hX
           cases hlr with
           | nil=>
            simp only[List.nil_append]
            by_cases hn:rows=[]
            ·subst hn
             obtain⟨m1,f1,f2,f3,f4⟩:=Bj hr (b::is) (k:=k&&ex) (ex:=false) (e:=t')
             exact⟨_,ts.heap,_,m1,by unfold dN;simp only[hst,hxt,hint,if_false,hse,s1,List.length_nil,if_true,Bool.false_eq_true],f1,f4,f2,f3,hk2,fun c hc=>by simp[bT] at hc⟩
            ·obtain⟨m1,f1,f2,f3,f4⟩:=iR hr (b::is) (k:=k&&ex) (ex:=false) (x:=false) s3' s2 hn hz h0 (by simp)
             refine⟨_,ts.heap++[.cells .own new],_,m1,?_,f1,f4,f2,f3,hk2,fun c hc=>by simp[bT] at hc⟩
             unfold dN
             simp only[hst,hxt,hint,if_false,hse,s1,Bool.false_eq_true,hrn,hn,s2,if_true,gU hbig (show rows.length≤most by omega)]
           | emp p0 p1 p2 p3 p4=>
            rename_i c off sz cs
            rw[hz] at p3;cases p3
            simp only[List.nil_append]
            by_cases hn:rows=[]
            ·subst hn
             obtain⟨m1,f1,f2,f3,f4⟩:=push_empty hr (b::is) (k:=k&&ex) (ex:=false) hz h0 (.inl p0) p1 p2
             exact⟨_,ts.heap,_,m1,by unfold dN;simp only[hst,hxt,hint,if_false,hse,s1,List.length_nil,if_true,Bool.false_eq_true],f1,f4,f2,f3,hk2,fun c hc=>by simp[bT] at hc⟩
            ·obtain⟨m1,f1,f2,f3,f4⟩:=iR hr (b::is) (k:=k&&ex) (ex:=false) (x:=false) s3' s2 hn hz h0 (by simp)
             refine⟨_,ts.heap++[.cells .own new],_,m1,?_,f1,f4,f2,f3,hk1 (c:=c) (.inr p0.2) (bQ p1),fun c hc=>by simp[bT] at hc⟩
             have hsub:bg size ts.heap (.slc c off 0 0 size true)=some (0,[]):=by simp[bg]
             unfold dN
             simp only[hst,hxt,hint,if_false,hse,s1,Bool.false_eq_true,hrn,hn,s2,if_true,Nat.zero_add,Nat.le_zero_eq,gU hbig (show rows.length≤most by omega),hsub,Option.map_some,List.nil_append]
           | some p1 p2 p3 p4 p5 p6 p7 p8 p9=>
            rename_i c sz xx kk cs
            rw[hz] at p2;cases p2
            have hown:(MB.lst (TV.slc c 0 l2.length l2.length size xx)).own=some c:=by simp only[MB.own];rw[if_neg (by simpa using p1)]
            by_cases hn:rows=[]
            ·subst hn
             simp only[List.append_nil]
             obtain⟨m1,f0,f1,f2,f3,f4⟩:=Bo (pb:=.list (k&&ex) false t' l2) hr is g1 hown hown rfl (fun _ _=>rfl) (fun cs hc=>⟨cs,hc,Nat.le_refl _⟩) (fun hF hU=>LR.some p1 hz p3 p4 p5 (fun hk=>p6 (by simp at hk;exact hk.1)) (by simp) p8 (p9.step hF hU))
             exact⟨_,ts.heap,_,m1,by unfold dN;simp only[hst,hxt,hint,if_false,hse,s1,List.length_nil,if_true,Bool.false_eq_true],f1,.own f4 rfl,f2,f3,hk2,fun c hc=>by simp[bT] at hc⟩
            ·have hle:¬l2.length+rows.length≤l2.length:=by
              have:rows.length≠0:=fun e0=>hn (hrn.1 e0)
              omega
             have hne:l2++rows≠[]:=by simp[p1]
             cases xx with
             | true=>
              have hold:bg size ts.heap (.slc c 0 l2.length l2.length size true)=some (l2.length,cs):=by
               simp only[bg,if_true]
               rw[if_neg (fun e0=>p1 (List.length_eq_zero_iff.1 e0)),o8 p4 (by omega)]
               simp only[sub]
               rw[if_pos (by omega),List.drop_zero,List.take_of_length_le (by omega)];rfl
              have hw1:aZ X P (FA A m (b::is)) (aS (b::is) m) ts.heap t' l2 cs 0 size:=(p9.mono fun c hc=>.inl hc).dH hX
              obtain⟨m1,f1,f2,f3,f4⟩:=iR hr (b::is) (k:=k&&ex) (ex:=false) (x:=false) (hw1.app s3' p8) (by rw[List.length_append,List.length_append,Nat.add_mul,p8,s2]) hne hz h0 (by simp)
              refine⟨_,ts.heap++[.cells .own (cs++new)],_,m1,?_,f1,f4,f2,f3,hk1 (c:=c) (.inl (dO g1 hown)) (List.getElem?_eq_some_iff.1 p4).1,fun c hc=>by simp[bT] at hc⟩
              unfold dN
              simp only[hst,hxt,hint,if_false,hse,s1,Bool.false_eq_true,hrn,hn,s2,if_true,hle,gU hbig hq1,hold,Option.map_some,List.length_append]
             | false=>
              have hex:ex=false:=by cases ex with
               | true=>exact absurd (p7 rfl) (by simp)
               | false=>rfl
              subst hex
              have hlt:=(List.getElem?_eq_some_iff.1 p4).1
              obtain⟨m1,f0,f1,f2,f3,f4⟩:=Bo (pb:=.list (k&&false) false t' (l2++rows)) (h1:=ts.heap.set c (.cells kk.more (cs++new))) (mb':=.lst (.slc c 0 (l2.length+rows.length) (l2.length+rows.length) size false)) hr is g1 hown
               (by simp only[MB.own];rw[if_neg (by omega)]) (by simp) (fun d hd=>List.getElem?_set_ne (Ne.symm hd)) (fun cs2 hc2=>⟨cs++new,by simp[aB,hlt],by
                simp only[aB,p4,Option.some.injEq] at hc2;subst hc2;simp⟩) (fun hF hU=>by
                have CX:=fV (h:=ts.heap) (b::is) m
                have hmv:∀ q cs',FA A m is q→aB ts.heap q=some cs'→AA A (aS (b::is) m++[.lst (.slc c 0 (l2.length+rows.length) (l2.length+rows.length) size false)]) q∧(ts.heap.set c (.cells kk.more (cs++new)))[q]? = ts.heap[q]?:=fun q cs' hq hc=>by
                 have hqc:q≠c:=fun e0=>by
                  subst e0
                  rcases hq with hq | ⟨i,mb,e1,e2,e3⟩
                  ·exact hq.2 (aC g1 hown)
                  ·have:=dw hr.nodup g1 e2 hown e3
                   subst this
                   exact hnb (by simpa using e1)
                 have hg:=FA.gone hr (FA.mono (js:=b::is) (fun i hi=>List.mem_cons_of_mem _ hi) hq)
                 refine⟨⟨hg.1,fun hm=>?_⟩,List.getElem?_set_ne (Ne.symm hqc)⟩
                 rw[dF,List.mem_append,eU] at hm
                 rcases hm with hm | hm
                 ·exact hg.2 hm
                 ·simp only[MB.own] at hm
                  rw[if_neg (by omega)] at hm
                  simp at hm;exact hqc hm
                have:=LR.some (X:=X) (P:=P) (A:=AA A (aS (b::is) m++[.lst (.slc c 0 (l2.length+rows.length) (l2.length+rows.length) size false)])) (m:=aS (b::is) m++[.lst (.slc c 0 (l2.length+rows.length) (l2.length+rows.length) size false)]) (h:=ts.heap.set c (.cells kk.more (cs++new))) (k:=k&&false) (ex:=false) (t:=t') (l:=l2++rows) (b:=c) (sz:=size) (e:=false) (kk:=kk.more) (cs:=cs++new)
                 hne hz h0 (by simp[hlt]) (by cases kk<;>simp[BK.more]) (by simp) (by simp) (by rw[List.length_append,List.length_append,Nat.add_mul,p8,s2]) ((p9.step hF hU).app (s3.move hX hmv) p8)
                rw[List.length_append] at this
                exact this)
              refine⟨_,ts.heap.set c (.cells kk.more (cs++new)),⟨false,.h c::aJ tx,[.h c]⟩,m1,?_,f1,.own f4 rfl,f2,f3,⟨fun h=>(by cases h),fun j hj=>?_,fun j hj=>(by simp at hj),fun d hd=>?_,fun d hd=>?_,fun h=>(by cases h)⟩,fun d hd=>?_⟩
              ·unfold dN
               simp only[hst,hxt,hint,if_false,hse,s1,Bool.false_eq_true,hrn,hn,s2,if_true,hle,gU hbig hq1,p4,ne_eq,not_true_eq_false,p5,p8,List.length_eq_zero_iff,p1,or_self]
              ·rcases List.mem_cons.1 hj with e0 | e0
               ·cases e0
               ·exact absurd e0 iw
              ·simp at hd;subst hd;exact .inl ⟨b,by simp,dO g1 hown⟩
              ·rcases List.mem_cons.1 hd with e0 | e0
               ·cases e0;exact⟨.inl ⟨b,List.mem_cons_self,dO g1 hown⟩,hlt⟩
               ·obtain⟨h0,h9⟩:=jZ hr hx hz hs e0
                rcases h0 with⟨i,h1,h2⟩ | h1
                ·exact⟨.inl ⟨i,List.mem_cons_of_mem _ h1,h2⟩,h9⟩
                ·exact⟨.inr h1,h9⟩
              ·simp at hd;subst hd;exact aC g1 hown
         | _=>exact g2.elim
        ·cases hl
       ·cases hl
      ·-- a full frozen list
       rename_i t' l
       split at hl
       ·rename_i l2 hcast
        obtain⟨rfl,rfl⟩:=jK hcast
        simp only[Option.some.injEq,Prod.mk.injEq] at hl
        obtain⟨rfl,rfl,rfl,rfl⟩:=hl
        have hq1:l2.length+rows.length≤most:=hq _ List.mem_cons_self
        have hq2:l2=[]∨rows≠[]:=hq _ (List.mem_cons_of_mem _ List.mem_cons_self)
        cases hd with
        | gone hi _ _=>simp[aF] at hi
        | jg=>
         simp only[List.nil_append]
         by_cases hn:rows=[]
         ·subst hn
          obtain⟨m1,f1,f2,f3,f4⟩:=Bj hr is (k:=true) (ex:=false) (e:=t')
          exact⟨_,ts.heap,_,m1,by unfold dN;simp only[hst,hxt,hint,if_false,hse,s1,List.length_nil,if_true,Bool.false_eq_true],f1,f4,f2,f3,hk0,fun c hc=>by simp[bT] at hc⟩
         ·obtain⟨m1,f1,f2,f3,f4⟩:=iR hr is (k:=true) (ex:=false) (x:=false) s3 s2 hn hz h0 (by simp)
          refine⟨_,ts.heap++[.cells .own new],_,m1,?_,f1,f4,f2,f3,hk0,fun c hc=>by simp[bT] at hc⟩
          unfold dN
          simp only[hst,hxt,hint,if_false,hse,s1,Bool.false_eq_true,hrn,hn,s2,if_true,gU hbig (show rows.length≤most by omega)]
        | lst p1 p2 p2' p3 p4 p5 p6 p7 p8 p9=>
         rename_i c off cap sz xx cs
         rw[hz] at p3;cases p3
         obtain⟨rfl,rfl⟩:=p7 rfl
         have hk3:IR m ts.heap ⟨bT (pK X x),false,false,true⟩ (bT (.h c::aJ tx)):=IR.reads rfl (fun d hd=>by
          rcases List.mem_cons.1 hd with e0 | e0
          ·cases e0;exact⟨.inr p1.2,bQ p2⟩
          ·exact jZ hr hx hz hs e0) fun j hj=>by
           rcases List.mem_cons.1 hj with e0 | e0
           ·cases e0
           ·exact iw e0
         by_cases hn:rows=[]
         ·have hl0:l2=[]:=by rcases hq2 with h1 | h1;exact h1;exact absurd hn h1
          subst hn;subst hl0
          obtain⟨m1,f1,f2,f3,f4⟩:=push_empty hr is (k:=true) (ex:=false) hz h0 (.inl p1) p2 (by simpa using p5)
          exact⟨_,ts.heap,_,m1,by unfold dN;simp only[hst,hxt,hint,if_false,hse,s1,List.length_nil,if_true,Bool.false_eq_true],f1,f4,f2,f3,hk0,fun c hc=>by simp[bT] at hc⟩
         ·have hle:¬l2.length+rows.length≤l2.length:=by
           have:rows.length≠0:=fun e0=>hn (hrn.1 e0)
           omega
          have hw1:aZ X P (FA A m is) (aS is m) ts.heap t' l2 ((cs.drop off).take (l2.length*size)) 0 size:=by
           have hh:aZ X P (AA A m) m ts.heap t' l2 cs off size:=⟨p8,p5,p9⟩
           exact (hh.take.mono fun c hc=>.inl hc).dH hX
          have hlen:((cs.drop off).take (l2.length*size)).length=l2.length*size:=by rw[List.length_take,List.length_drop];omega
          obtain⟨m1,f1,f2,f3,f4⟩:=iR hr is (k:=true) (ex:=false) (x:=false) (hw1.app s3 hlen) (by rw[List.length_append,List.length_append,Nat.add_mul,hlen,s2]) (by simp[hn]) hz h0 (by simp)
          refine⟨_,ts.heap++[.cells .own ((cs.drop off).take (l2.length*size)++new)],_,m1,?_,f1,f4,f2,f3,hk3,fun c hc=>by simp[bT] at hc⟩
          have hsub:bg size ts.heap (.slc c off l2.length l2.length size true)=some (l2.length,(cs.drop off).take (l2.length*size)):=by
           simp only[bg,if_true,sub]
           by_cases hl0:l2.length=0
           ·rw[if_pos hl0,hl0,Nat.zero_mul,List.take_zero]
           ·rw[if_neg hl0,p2' (fun e0=>hl0 (by rw[e0];rfl))]
            simp only
            rw[if_pos p5];rfl
          unfold dN
          simp only[hst,hxt,hint,if_false,hse,s1,Bool.false_eq_true,hrn,hn,s2,if_true,hle,gU hbig hq1,hsub,Option.map_some,List.length_append]
       ·cases hl
      ·cases hl
     ·cases hl
    ·cases hl
   ·cases hl
 ·cases hl
end
end Pv
namespace Pv
open Go Tw
theorem Gv {α:Type} {l rows:List α} {o k:Nat} (h:o+k≤l.length) (hk:k≤rows.length):(AV l o k rows).length=l.length:=by
 unfold AV;simp;omega
theorem Nr {α:Type} {l rows:List α} {o:Nat}:AV l o 0 rows=l:=by unfold AV;simp
section
variable {X:gZ} {P:Program} {A F:Nat→Prop} {m m':List MB} {h h':List HB} {H H':List (PB X.Γ)}
theorem aZ.put {t sz o k:Nat} {l rows:List (X.Γ t)} {cs new:List TV} (h1:aZ X P F m h t l cs 0 sz) (h2:aZ X P F m h t rows new 0 sz) (hc:cs.length=l.length*sz) (hn:new.length=rows.length*sz) (ho:o+k≤l.length) (hk:k≤rows.length) :
  aZ X P F m h t (AV l o k rows) (cs.take (o*sz)++new.take (k*sz)++cs.drop (o*sz+k*sz)) 0 sz:=by
 have a1:=(h1.part (o:=0) (n:=o) (by omega)).take
 have a2:=(h2.part (o:=0) (n:=k) (by omega)).take
 have a3:=(h1.part (o:=o+k) (n:=l.length-(o+k)) (by omega)).take
 have l1:((l.drop 0).take o).length=o:=by simp;omega
 have l2:((rows.drop 0).take k).length=k:=by simp;omega
 have l3:((l.drop (o+k)).take (l.length-(o+k))).length=l.length-(o+k):=by simp
 rw[l1] at a1;rw[l2] at a2;rw[l3] at a3
 simp only[Nat.zero_mul,Nat.add_zero,Nat.zero_add,List.drop_zero] at a1 a2 a3
 have m1:o*sz≤cs.length:=by rw[hc];exact Nat.mul_le_mul_right _ (by omega)
 have m2:k*sz≤new.length:=by rw[hn];exact Nat.mul_le_mul_right _ hk
 have r:=(a1.app a2 (by rw[List.length_take,List.length_take];rw[Nat.min_eq_left m1,Nat.min_eq_left (by omega)])).app a3 (by
  simp only[List.length_append,List.length_take]
  rw[Nat.min_eq_left m1,Nat.min_eq_left m2,Nat.min_eq_left (by omega),Nat.min_eq_left hk,Nat.add_mul])
 have e1:l.drop (o+k)=(l.drop (o+k)).take (l.length-(o+k)):=by rw[List.take_of_length_le (by simp)]
 have e2:cs.drop (o*sz+k*sz)=(cs.drop ((o+k)*sz)).take ((l.length-(o+k))*sz):=by
  rw[Nat.add_mul,List.take_of_length_le]
  rw[List.length_drop,hc,Nat.sub_mul,Nat.add_mul];omega
 unfold AV
 rw[e1,e2]
 exact r
theorem qY (hX:aT X P) {ps:aP X.Γ} {ts:St} (hR:lS X P A m ps ts) {at_:Array TypeId} {st e size b o n:Nat} {k0 ex:Bool} {l rows:List (X.Γ e)} {x:PV X.Γ} {td tx:TV} (hst:at_[0]? = some st) (hse:dY P st=some (e,size)) (hx:VR X P (AA A m) m ts.heap x tx)
  (hs:nV X ps.heap e size x=some (rows,[])) (hb:ps.heap[b]? = some (.list k0 ex e l)) {mb:MB} (g1:m[b]? = some mb) (g2:BR X P (AA A m) m ts.heap (.list k0 ex e l) mb)
  (htd:(∃ c sz' YK xx cap,mb=.lst (.slc c 0 l.length l.length sz' YK)∧l≠[]∧td=.slc c (o*sz') n cap sz' xx∧(n=0∨o+cap=l.length))∨(n=0∧(td=.nil .slc∨∃ c f cap xx,td=.slc c f 0 cap size xx))) (hon:o+n≤l.length) (hstr:isStr tx=false) :
  Gu X P A m ts (uh P at_ ts td tx) (.int .i64 ((min rows.length n:Nat):Int)) (ps.heap.set b (.list k0 ex e (AV l o (min rows.length n) rows))) ⟨⟨false,.h b::pK X x,[.h b]⟩,false,false,true⟩:=by
 have hr:=hR.heap
 obtain⟨hz,h0⟩:=gV hse
 obtain⟨new,s1,s2,s3⟩:=EZ (m':=m) hX hr hx hz hs
 have s3':aZ X P (AA A m) m ts.heap e rows new 0 size:=s3.mono fun q hq=>by
  rcases hq with hq | ⟨i,_,hi,_⟩
  ·exact hq
  ·simp at hi
 have hk2:IR m ts.heap ⟨⟨false,.h b::pK X x,[.h b]⟩,false,false,true⟩ (bT (aJ tx)):=IR.reads rfl (fun d hd=>by
  obtain⟨h0,h9⟩:=jZ hr hx hz hs hd
  rcases h0 with⟨i,h1,h2⟩ | h1
  ·exact⟨.inl ⟨i,List.mem_cons_of_mem _ h1,h2⟩,h9⟩
  ·exact⟨.inr h1,h9⟩) fun j hj=>iw hj
 have same:ps.heap.set b (.list k0 ex e l)=ps.heap:=by
  apply List.ext_getElem?
  intro i
  by_cases e:b=i
  ·subst e;rw[List.getElem?_set_self (List.getElem?_eq_some_iff.1 hb).1,hb]
  ·rw[List.getElem?_set_ne e]
 by_cases hk:min rows.length n=0
 ·rw[hk,Nr,same]
  refine⟨.int .i64 0,ts.heap,bT (aJ tx),m,?_,hr,.int _ _,.refl,.refl,hk2,fun c hc=>by simp[bT] at hc⟩
  unfold uh
  simp only[hst,hse,s1,s2,hstr,and_self,if_true]
  rcases htd with⟨c,sz',YK,xx,cap,rfl,hne,rfl,hcap⟩ | ⟨rfl,rfl | ⟨c,f,cap,xx,rfl⟩⟩
  ·have:sz'=size:=by cases g2 with | some _ q2 _ _ _ _ _ _ _=>rw[hz] at q2;cases q2;rfl | emp=>exact absurd rfl hne
   simp only[this,if_true,hk]
  ·rfl
  ·simp only[if_true,hk]
 ·rcases htd with⟨c,sz',YK,xx,cap,rfl,hne,rfl,hcap⟩ | ⟨rfl,_⟩
  ·cases g2 with
   | emp=>exact absurd rfl hne
   | some p1 p2 p3 p4 p5 p6 p7 p8 p9=>
    rename_i kk cs
    rw[hz] at p2;cases p2
    obtain⟨rU,hkk,a2A,hko⟩:=DN p5
    have hcap':o*size+cap*size=cs.length:=by
     have:=hcap.resolve_left (by omega)
     rw[p8,←this,Nat.add_mul]
    have hlt:=(List.getElem?_eq_some_iff.1 p4).1
    have hown:(MB.lst (TV.slc c 0 l.length l.length size YK)).own=some c:=by simp only[MB.own];rw[if_neg (by simpa using p1)]
    have hkn:o+min rows.length n≤l.length:=by omega
    have hkr:min rows.length n≤rows.length:=Nat.min_le_left _ _
    have m1:o*size+min rows.length n*size≤cs.length:=by rw[p8,←Nat.add_mul];exact Nat.mul_le_mul_right _ hkn
    have m2:min rows.length n*size≤new.length:=by rw[s2];exact Nat.mul_le_mul_right _ hkr
    have m3:min (min rows.length n*size) (rows.length*size)=min rows.length n*size:=Nat.min_eq_left (by rw[←s2];exact m2)
    have hput:=aZ.put p9 s3' p8 s2 hkn hkr
    have hcl:(cs.take (o*size)++new.take (min rows.length n*size)++cs.drop (o*size+min rows.length n*size)).length=cs.length:=by simp;omega
    have hl:=Gv (rows:=rows) hkn hkr
    obtain⟨q1,q2⟩:=hr.set (i:=b) (c:=c) (pb:=.list k0 ex e (AV l o (min rows.length n) rows)) (hb:=.cells rU (cs.take (o*size)++new.take (min rows.length n*size)++cs.drop (o*size+min rows.length n*size))) g1 hown
     (fun cs2 hc2=>⟨_,by simp only[aB];rw[List.getElem?_set_self hlt],by
      simp only[aB,p4,Option.some.injEq] at hc2;subst hc2;rw[hcl];exact Nat.le_refl _⟩)
     (fun hF=>by
      have hne':AV l o (min rows.length n) rows≠[]:=fun e0=>by rw[e0] at hl;simp at hl;exact p1 (List.length_eq_zero_iff.1 hl.symm)
      have r:=LR.some (k:=k0) (ex:=ex) (e:=YK) hne' hz p3 (by rw[List.getElem?_set_self hlt]) a2A (fun e0=>hko (p6 e0)) p7 (by rw[hcl,hl,p8]) (hput.step hF .refl)
      rw[hl] at r
      exact r)
    refine⟨.int .i64 ((min rows.length n:Nat):Int),_,⟨false,.h c::aJ tx,[.h c]⟩,m,?_,q1,.int _ _,q2,.refl,?_,fun d hd=>?_⟩
    ·unfold uh
     simp only[hst,hse,s1,s2,hstr,and_self,if_true,hk,if_false,KU p4 hkk hcap',over,List.length_take,m3,m1,Option.map_some]
    ·refine⟨fun h=>(by cases h),fun k hk=>?_,fun k hk=>(by simp at hk),fun d hd=>?_,fun d hd=>?_,fun h=>(by cases h)⟩
     ·rcases List.mem_cons.1 hk with e0 | e0
      ·cases e0
      ·exact absurd e0 iw
     ·simp at hd;subst hd;exact .inl ⟨b,List.mem_cons_self,dO g1 hown⟩
     ·rcases List.mem_cons.1 hd with e0 | e0
      ·cases e0;exact⟨.inl ⟨b,List.mem_cons_self,dO g1 hown⟩,hlt⟩
      ·obtain⟨h0,h9⟩:=jZ hr hx hz hs e0
       rcases h0 with⟨i,h1,h2⟩ | h1
       ·exact⟨.inl ⟨i,List.mem_cons_of_mem _ h1,h2⟩,h9⟩
       ·exact⟨.inr h1,h9⟩
    ·simp at hd;subst hd;exact aC g1 hown
  ·simp at hk
theorem Px (hr:HR X P A m H h) {e sz:Nat} {x:PV X.Γ} {tx:TV} (hv:VR X P (AA A m) m h x tx) {rows:List (X.Γ e)} {is:List Nat} (hs:nV X H e sz x=some (rows,is)):isStr tx=false:=by
 cases hv with
 | own e' _=>
  unfold nV at hs
  simp only at hs
  split at hs
  ·rename_i hb
   obtain⟨mb,g1,g2⟩:=hr.at_ _ _ hb
   rw[e'] at g1;cases g1
   cases g2<;>rfl
  ·cases hs
 | gone hi e' _=>
  cases x<;>simp only[aF,Option.some.injEq] at hi<;>first | cases hi | skip
  all_goals (unfold nV at hs;simp only at hs)
  all_goals first | (cases hs;done) | skip
  all_goals
   split at hs
   ·rename_i hb
    obtain⟨mb,g1,g2⟩:=hr.at_ _ _ hb
    rw[g1] at e';cases e'<;>exact g2.elim
   ·cases hs
 | str=>simp[nV] at hs
 | _=>rfl
theorem aZ.vrs {t sz:Nat}:∀ {l:List (X.Γ t)} {cs:List TV},aZ X P F m h t l cs 0 sz→cs.length=l.length*sz→aG X P F m h (encs X t l) cs
 | [],cs,_,hl=>by
  have:cs=[]:=List.length_eq_zero_iff.1 (by simpa using hl)
  subst this;exact .nil
 | a::r,cs,hw,hl=>by
  have h1:=hw.row (j:=0) (a:=a) rfl
  have h2:=(hw.part (o:=1) (n:=r.length) (by simp;omega)).take
  have e1:((a::r).drop 1).take r.length=r:=by simp
  rw[e1] at h2
  have hl':cs.length=r.length*sz+sz:=by rw[hl,List.length_cons,Nat.add_mul,Nat.one_mul]
  have e2:(cs.drop (0+1*sz)).take (r.length*sz)=cs.drop sz:=by
   rw[Nat.zero_add,Nat.one_mul,List.take_of_length_le];rw[List.length_drop];omega
  rw[e2] at h2
  have h3:=aZ.vrs h2 (by rw[List.length_drop];omega)
  have h4:aG X P F m h (X.enc t a) (cs.take sz):=by
   have:=h1.1
   simpa using this
  have:=h4.app h3
  rw[List.take_append_drop] at this
  exact this
theorem Ey (hX:aT X P) {ps:aP X.Γ} {ts:St} (hR:lS X P A m ps ts) {at_:Array TypeId} {d x:PV X.Γ} {td tx:TV} (hd:VR X P (AA A m) m ts.heap d td) (hx:VR X P (AA A m) m ts.heap x tx) {v:PV X.Γ} {H1:List (PB X.Γ)} {pi:Inf}
  (hl:OW X P at_ ps.heap d x=some (v,H1,pi)):Gu X P A m ts (uh P at_ ts td tx) v H1 ⟨pi,false,false,true⟩:=by
 have hr:=hR.heap
 unfold OW at hl
 split at hl
 ·rename_i st hst
  split at hl
  ·rename_i e size hse
   obtain⟨hz,h0⟩:=gV hse
   split at hl
   ·rename_i rows hs
    obtain⟨new,s1,s2,s3⟩:=EZ (m':=m) hX hr hx hz hs
    have hstr:isStr tx=false:=Px hr hx hs
    split at hl
    ·simp only[Option.some.injEq,Prod.mk.injEq] at hl
     obtain⟨rfl,rfl,rfl⟩:=hl
     have:td=.nil .slc:=by
      cases hd with
      | nil=>rfl
      | gone hi _ _=>simp[aF] at hi
     subst this
     exact⟨_,ts.heap,_,m,by unfold uh;simp only[hst,hse,s1,s2,hstr,and_self,if_true],hr,.int _ _,.refl,.refl,IR.reads rfl (fun b hb=>jZ hr hx hz hs hb) fun k=>iw,fun b hb=>by simp[bT] at hb⟩
    ·rename_i b
     split at hl
     ·rename_i k0 ex t' l hb
      split at hl
      ·rename_i l2 hcast
       obtain⟨rfl,rfl⟩:=jK hcast
       simp only[Option.some.injEq,Prod.mk.injEq] at hl
       obtain⟨rfl,rfl,rfl⟩:=hl
       obtain⟨mb,g1,g2⟩:=hr.at_ b _ hb
       refine qY (o:=0) (n:=l2.length) hX hR hst hse hx hs hb g1 g2 ?_ (by omega) hstr
       cases hd with
       | gone hi e' _=>simp only[aF,Option.some.injEq] at hi;subst hi;rw[g1] at e';cases e'<;>exact g2.elim
       | own e' o=>
        rw[g1] at e';cases e'
        cases g2 with
        | nil=>exact .inr ⟨rfl,.inl rfl⟩
        | emp q1 q2 q3 q4 q5=>rw[hz] at q4;cases q4;exact .inr ⟨rfl,.inr ⟨_,_,_,_,rfl⟩⟩
        | some q1 q2=>rw[hz] at q2;cases q2;exact .inl ⟨_,_,_,_,_,rfl,q1,by rw[Nat.zero_mul],.inr (Nat.zero_add _)⟩
      ·cases hl
     ·cases hl
    ·rename_i b o n
     split at hl
     ·rename_i k0 ex t' l hb
      split at hl
      ·rename_i l2 hcast
       obtain⟨rfl,rfl⟩:=jK hcast
       simp only[Option.some.injEq,Prod.mk.injEq] at hl
       obtain⟨rfl,rfl,rfl⟩:=hl
       obtain⟨mb,g1,g2⟩:=hr.at_ b _ hb
       cases hd with
       | gone hi e' _=>simp only[aF,Option.some.injEq] at hi;subst hi;rw[g1] at e';cases e'<;>exact g2.elim
       | win e' o1 o2 o3=>
        rw[g1] at e';cases e'
        cases g2 with
        | emp q1 q2 q3 q4 q5=>
         rw[hz] at q4;cases q4
         have:n=0:=by omega
         subst this
         exact qY hX hR hst hse hx hs hb g1 (LR.emp q1 q2 q3 hz q5) (.inr ⟨rfl,.inr ⟨_,_,_,_,rfl⟩⟩) o1 hstr
        | some q1 q2 q3 q4 q5 q6 q7 q8 q9=>exact qY hX hR hst hse hx hs hb g1 (LR.some q1 q2 q3 q4 q5 q6 q7 q8 q9) (.inl ⟨_,_,_,_,_,rfl,q1,by rw[Nat.zero_add],o3⟩) o1 hstr
       | nY e'=>
        rw[g1] at e';cases e'
        exact qY hX hR hst hse hx hs hb g1 g2 (.inr ⟨rfl,.inl rfl⟩) (by omega) hstr
      ·cases hl
     ·cases hl
    ·rename_i b off len cap sz xx
     split at hl
     ·rename_i cs hb
      split at hl
      ·rename_i hc
       obtain⟨hc1,hc2⟩:=hc
       subst hc1
       simp only[Option.map_eq_some_iff,Prod.mk.injEq] at hl
       obtain⟨cs1,h1,rfl,rfl,rfl⟩:=hl
       obtain⟨mb,g1,g2⟩:=hr.at_ b _ hb
       cases mb with
       | blk c=>
        obtain⟨cs',g3,g4⟩:=g2
        cases hd with
        | gone hi e _=>simp only[aF,Option.some.injEq] at hi;subst hi;rw[g1] at e;cases e
        | slc e=>
         rw[g1] at e;cases e
         have s3':aZ X P (AA A m) m ts.heap _ rows new 0 sz:=s3.mono fun q hq=>by
          rcases hq with hq | ⟨i,_,hi,_⟩
          ·exact hq
          ·simp at hi
         have hv:=(s3'.vrs s2).take (min rows.length len*sz)
         obtain⟨xk,g5,g6⟩:=uV g4 hv h1
         have hlen:xk.length=cs'.length:=by
          unfold over at g5
          split at g5
          ·cases g5;simp only[List.length_append,List.length_take,List.length_drop] at *;omega
          ·cases g5
         have hlt:=(List.getElem?_eq_some_iff.1 g3).1
         obtain⟨hr1,hF⟩:=hr.set (pb:=.cells cs1) (hb:=.cells .own xk) g1 (c:=c) rfl (fun cs2 hcs2=>⟨xk,by simp[aB,hlt],by
          simp only[aB,g3,Option.some.injEq] at hcs2;subst hcs2;omega⟩) fun hF=>⟨xk,by simp[hlt],g6.step hF .refl⟩
         refine⟨.int .i64 ((min rows.length len:Nat):Int),_,⟨false,.h c::aJ tx,[.h c]⟩,m,?_,hr1,.int _ _,hF,.refl,?_,fun d hd=>?_⟩
         ·unfold uh
          simp only[hst,hse,s1,s2,hstr,and_self,if_true]
          rw[if_neg (by omega),Gp g3,g5]
          rfl
         ·refine⟨fun h=>(by cases h),fun k hk=>?_,fun k hk=>(by simp at hk),fun d hd=>?_,fun d hd=>?_,fun h=>(by cases h)⟩
          ·rcases List.mem_cons.1 hk with e0 | e0
           ·cases e0
           ·exact absurd e0 iw
          ·simp at hd;subst hd;exact .inl ⟨b,List.mem_cons_self,dO g1 rfl⟩
          ·rcases List.mem_cons.1 hd with e0 | e0
           ·cases e0;exact⟨.inl ⟨b,List.mem_cons_self,dO g1 rfl⟩,hlt⟩
           ·obtain⟨h0,h9⟩:=jZ hr hx hz hs e0
            rcases h0 with⟨i,h1,h2⟩ | h1
            ·exact⟨.inl ⟨i,List.mem_cons_of_mem _ h1,h2⟩,h9⟩
            ·exact⟨.inr h1,h9⟩
         ·simp at hd;subst hd;exact aC g1 rfl
       | _=>exact g2.elim
      ·cases hl
     ·cases hl
    ·cases hl
   ·cases hl
  ·cases hl
 ·cases hl
end
end Pv
namespace Pv
open Go Tw
section
variable {X:gZ} {P:Program} {A F:Nat→Prop} {m m':List MB} {h h':List HB} {H H':List (PB X.Γ)}
theorem SN.VQ {ps:List (Nat×PV X.Γ)} {qs:List (Nat×TV)} (hp:SN X P A m h ps qs):qs.all (fun p=>p.2.cells.all bJ)=ps.all fun p=>p.2.cells.all IV:=by
 induction ps generalizing qs with
 | nil=>
  have:=hp.1
  cases qs with
  | nil=>rfl
  | cons=>simp at this
 | cons a ps ih=>
  obtain⟨x,r,rfl,h1,h2⟩:=hp.inv
  simp only[List.all_cons,qW (uU h1),ih h2]
theorem Gw {pl:Nat→Option (Nat×Nat)}:∀ {qs:List (Nat×TV)} {xs r:List TV},jl pl xs qs=some r→r.length=xs.length
 | [],xs,r,h=>by simp only[jl,Option.some.injEq] at h;rw[h]
 | (i,v)::qs,xs,r,h=>by
  simp only[jl] at h
  split at h
  ·split at h
   ·split at h
    ·rename_i cs' ho
     rw[Gw h]
     unfold over at ho
     split at ho
     ·cases ho;simp only[List.length_append,List.length_take,List.length_drop];omega
     ·cases ho
    ·cases h
   ·cases h
  ·cases h
theorem gX {z:List TV}:∀ n,(times z n).length=n*z.length
 | 0=>by simp[times]
 | n+1=>by simp[times,gX n,Nat.add_mul];omega
theorem lZ (hX:aT X P) {ps:aP X.Γ} {ts:St} (hR:lS X P A m ps ts) {t:TypeId} {len:Nat} {vs:List (Nat×PV X.Γ)} {xs:List (Nat×TV)} (hv:SN X P (AA A m) m ts.heap vs xs) {v:PV X.Γ} {H1:List (PB X.Γ)}
  (hl:pO X P t len ps.heap vs=some (v,H1)):Gu X P A m ts ((gu P t len ts xs).map fun (v,s)=>(v,s,aA)) v H1 mG:=by
 have hr:=hR.heap
 unfold pO at hl
 split at hl
 ·rename_i e n hse
  obtain⟨hz,h0⟩:=gV hse
  split at hl
  ·rename_i hc
   split at hl
   ·rename_i z hzz
    obtain⟨z',q1,q2⟩:=uX (A:=AA A m) (m:=m) (h:=ts.heap) hzz
    split at hl
    ·rename_i hzl
     split at hl
     ·rename_i cs hf
      obtain⟨cs',q3,q4⟩:=zu hv (Gq q2 len) hf
      have hlen:cs'.length=len*n:=by rw[Gw q3,gX,←q2.1,hzl]
      have hT:∀ w h1,(w,h1)=(TV.slc ts.heap.length 0 len len n true,ts.heap++[HB.cells .own cs'])→(gu P t len ts xs).map (fun (v,s)=>(v,s,aA))=some (w,{ ts with heap:=h1 },aA):=by
       intro w h1 e0;cases e0
       simp only[gu,hse,hv.VQ,hc,and_self,if_true,q1,←q2.1,hzl,q3,Option.map_some]
      split at hl
      ·rename_i rows is hd
       cases hl
       obtain⟨e1,hw⟩:=oq (m':=aS is m) hX hr q4 hd
       by_cases hn:rows=[]
       ·subst hn
        have e2:len=0:=by simpa using e1.symm
        subst e2
        have hcs:cs'=[]:=List.length_eq_zero_iff.1 (by omega)
        subst hcs
        have hpush:HR X P A (aS is m++[.lst (.slc ts.heap.length 0 0 0 n true)]) (aI is ps.heap++[.list true true e []]) (ts.heap++[.cells .own []])∧_:=(hr.aI is).push (pb:=.list true true e []) (hb:=.cells .own []) (mb:=.lst (.slc ts.heap.length 0 0 0 n true)) (.inr rfl)
         (LR.emp (b:=ts.heap.length) (cs:=[]) ⟨hr.up _ (Nat.le_refl _),fun hm=>by
          rw[dF,List.mem_append,eU] at hm
          simp[MB.own] at hm
          have:=(hr.aI is).inb hm;omega⟩ (by simp[aB]) (Nat.le_refl _) hz h0)
        have CX:=fV (h:=ts.heap) is m
        refine⟨_,_,_,_,hT _ _ rfl,hpush.1,.own ?_ rfl,CX.1.trans hpush.2.1,CX.2.trans hpush.2.2,.none,fun b hb=>by cases hb⟩
        rw[←hr.len,←eX is m];simp
       ·have hpush:=iR hr is (k:=true) (ex:=true) (x:=true) hw (by rw[hlen,e1]) hn hz h0 (by simp)
        obtain⟨m1,g1,g2,g3,g4⟩:=hpush
        refine⟨_,_,_,m1,hT _ _ rfl,g1,?_,g2,g3,.none,fun b hb=>by cases hb⟩
        rw[e1] at g4;exact g4
      ·cases hl
       have hp:=hr.push (pb:=.cells cs) (hb:=.cells .own cs') (mb:=.blk ts.heap.length) (.inl rfl) ⟨cs',by simp,q4.step (by
        refine⟨by simp,fun b hb _=>by rw[List.getElem?_append_left hb],fun b hb=>?_,fun b cs hc=>⟨cs,by rw[bI (List.getElem?_append_left (bQ hc)),hc],Nat.le_refl _⟩⟩
        rw[dF,List.mem_append,eU] at hb
        rcases hb with hb | hb
        ·exact .inl hb
        ·simp[MB.own] at hb;exact .inr (by omega)) (kU _)⟩
       exact⟨_,_,_,_,hT _ _ rfl,hp.1,.slc (by rw[←hr.len];simp),hp.2.1,hp.2.2,.none,fun b hb=>by cases hb⟩
     ·cases hl
    ·cases hl
   ·cases hl
  ·cases hl
 ·cases hl
theorem Bq {k:IntKind} {n:Int} {x:TV} (hv:VR X P A m h (.int k n) x):x=.int k n:=by
 cases hv with
 | int=>rfl
 | gone hi _ _=>simp[aF] at hi
theorem Gx {t sz:Nat} {a:X.Γ t} {z:List TV} (ha:aG X P F m h (X.enc t a) z) (hz:z.length=sz):∀ n,aZ X P F m h t (List.replicate n a) (times z n) 0 sz
 | 0=>⟨fun j a hj=>by simp at hj,by simp,fun j a i c v hj=>by simp at hj⟩
 | n+1=>by
  have h1:aZ X P F m h t [a] z 0 sz:=by
   refine⟨fun j b hj=>?_,by simp[hz],fun j b i c v hj hi hx=>?_⟩
   ·cases j with
    | zero=>simp only[List.getElem?_cons_zero,Option.some.injEq] at hj;subst hj;rw[ha.1,hz]
    | succ j=>simp at hj
   ·cases j with
    | zero=>simp only[List.getElem?_cons_zero,Option.some.injEq] at hj;subst hj;exact ha.2 i c v hi (by simpa using hx)
    | succ j=>simp at hj
  have:=h1.app (Gx ha hz n) (by simp[hz])
  simpa[List.replicate_succ,times] using this
theorem nP (hX:aT X P) {ps:aP X.Γ} {ts:St} (hR:lS X P A m ps ts) {t:TypeId} {l c:PV X.Γ} {tl tc:TV} (hvl:VR X P (AA A m) m ts.heap l tl) (hvc:VR X P (AA A m) m ts.heap c tc) {v:PV X.Γ} {H1:List (PB X.Γ)} {qs:List Prop}
  (hl:tX X P t ps.heap l c=some (v,H1,qs)) (hq:∀ q∈qs,q):Gu X P A m ts ((iM P t ts tl tc).map fun (v,s)=>(v,s,aA)) v H1 mG:=by
 have hr:=hR.heap
 unfold tX at hl
 split at hl
 ·rename_i e n kl li kc ci hse
  obtain⟨hz,h0⟩:=gV hse
  rw[Bq hvl,Bq hvc]
  split at hl
  ·rename_i hbig
   split at hl
   ·rename_i z hzz
    obtain⟨z',q1,q2⟩:=uX (A:=AA A m) (m:=m) (h:=ts.heap) hzz
    split at hl
    ·rename_i hzl
     split at hl
     ·rename_i a ha
      cases hl
      have e1:li=ci:=hq _ (by simp)
      have e2:0≤li:=hq _ (by simp)
      have e3:li≤(most:Nat):=hq _ (by simp)
      subst e1
      have hm:li.toNat≤most:=by omega
      have hm2:most=2^20:=rfl
      have hz2:z'.length=n:=by rw[←q2.1];exact hzl
      have hT:∀ w h1,(w,h1)=(TV.slc ts.heap.length 0 li.toNat li.toNat n true,ts.heap++[HB.cells .own (times z' li.toNat)])→(iM P t ts (.int kl li) (.int kc li)).map (fun (v,s)=>(v,s,aA))=some (w,{ ts with heap:=h1 },aA):=by
       intro w h1 e0;cases e0
       have hN:∀ k,LW (.int k li)=some li.toNat:=fun k=>by
        have h9:li≤2^40:=by
         have:((2^20:Nat):Int)≤2^40:=by decide
         rw[hm2] at e3;omega
        simp only[LW];rw[if_pos ⟨e2,h9⟩]
       simp only[iM,hse,hN,Nat.le_refl,true_and,gU hbig hm,if_true,q1,hz2,Option.map_some]
      have hrow:=Gx (m:=m) (h:=ts.heap) (F:=AA A m) (hX.dec ha q2) hz2 li.toNat
      have hlen:(times z' li.toNat).length=li.toNat*n:=by rw[gX,hz2]
      by_cases hn:li.toNat=0
      ·rw[hn] at hT ⊢
       simp only[List.replicate_zero]
       have hpush:=hr.push (pb:=.list true true e []) (hb:=.cells .own (times z' 0)) (mb:=.lst (.slc ts.heap.length 0 0 0 n true)) (.inr rfl)
         (LR.emp (b:=ts.heap.length) (cs:=times z' 0) ⟨hr.up _ (Nat.le_refl _),fun hm=>by
          rw[dF,List.mem_append,eU] at hm
          simp[MB.own] at hm
          have:=hr.inb hm;omega⟩ (by simp[aB]) (Nat.zero_le _) hz h0)
       exact⟨_,_,_,_,hT _ _ rfl,hpush.1,.own (by rw[←hr.len];simp) rfl,hpush.2.1,hpush.2.2,.none,fun b hb=>by cases hb⟩
      ·obtain⟨m1,g1,g2,g3,g4⟩:=iR hr [] (k:=true) (ex:=true) (x:=true) (rows:=List.replicate li.toNat a) (hrow.mono fun b hb=>.inl hb) (by rw[List.length_replicate];exact hlen) (by intro e0;exact hn (by simpa using congrArg List.length e0)) hz h0 (by simp)
       refine⟨_,_,_,m1,hT _ _ rfl,g1,?_,g2,g3,.none,fun b hb=>by cases hb⟩
       rw[List.length_replicate] at g4;exact g4
     ·cases hl
    ·cases hl
   ·cases hl
  ·cases hl
 ·cases hl
end
end Pv
namespace Pv
open Go Tw
section
variable {X:gZ} {P:Program} {A F:Nat→Prop} {m m':List MB} {h h':List HB} {H H':List (PB X.Γ)}
theorem oz {o:Option (PV X.Γ)} {to:Option TV} (ho:OR X P A m h o to) {d n:Nat} {a:Int} (he:endP X d o=some a) (h0:0≤a) (h1:a≤n):dM n d to=some a.toNat:=by
 cases o with
 | none=>
  cases to with
  | none=>simp only[endP,Option.some.injEq] at he;subst he;simp[dM]
  | some=>exact ho.elim
 | some v=>
  cases to with
  | none=>exact ho.elim
  | some x=>
   cases v<;>simp only[endP] at he<;>try (cases he;done)
   cases he
   rw[Bq ho]
   simp only[dM,iU]
   rw[if_pos ⟨h0,h1⟩]
theorem F8 {k:IntKind} {n:Int} {to:Option TV} (ho:OR X P A m h (some (.int k n)) to):to=some (.int k n):=by
 cases to with
 | none=>exact ho.elim
 | some x=>rw[Bq ho]
theorem ji {to:Option TV} (ho:OR X P A m h none to):to=none:=by
 cases to with
 | none=>rfl
 | some x=>exact ho.elim
theorem zy {v:PV X.Γ} {to:Option TV} (ho:OR X P A m h (some v) to):∃ x,to=some x:=by
 cases to with
 | none=>exact ho.elim
 | some x=>exact⟨x,rfl⟩
theorem VT {t e:TypeId} {b off len cap sz:Nat} {ex:Bool} (hu:P.underlying t=some (.slice e)) (hz:sizeT P e=some sz) {lo hi:Option (PV X.Γ)} {CY CZ:Option TV} (h1:OR X P A m h lo CY) (h2:OR X P A m h hi CZ) {a z:Int} (e1:endP X 0 lo=some a) (e2:endP X len hi=some z)
  (q0:0≤a) (q1:a≤z) (q2:z≤len):sliceT P t (.slc b off len cap sz ex) CY CZ none=some (.slc b (off+a.toNat*sz) (z.toNat-a.toNat) (cap-a.toNat) sz ex):=by
 have g1:=oz h1 e1 (n:=z.toNat) q0 (by omega)
 have g2:=oz h2 e2 (n:=len) (by omega) q2
 simp only[sliceT,hu,hz,if_true,g2,g1]
theorem VU {t e:TypeId} {b off len cap sz:Nat} {ex:Bool} (hu:P.underlying t=some (.slice e)) (hz:sizeT P e=some sz) {lo hi:Option (PV X.Γ)} {CY CZ:Option TV} (h1:OR X P A m h lo CY) (h2:OR X P A m h hi CZ) {a z:Int} (e1:endP X 0 lo=some a) (e2:endP X len hi=some z) (hs:hi.isSome)
  (q0:0≤a) (q1:a≤z) (q2:z≤len) (hcap:len≤cap) {k:IntKind}:sliceT P t (.slc b off len cap sz ex) CY CZ (some (.int k z))=some (.slc b (off+a.toNat*sz) (z.toNat-a.toNat) (z.toNat-a.toNat) sz true):=by
 have g1:=oz h1 e1 (n:=z.toNat) q0 (by omega)
 obtain⟨hv,rfl⟩:=Option.isSome_iff_exists.1 hs
 obtain⟨x,rfl⟩:=zy h2
 have g3:iU cap (.int k z)=some z.toNat:=by simp only[iU];rw[if_pos (by omega)]
 have g2:iU (min z.toNat len) x=some z.toNat:=by
  cases hv<;>simp only[endP] at e2<;>try (cases e2;done)
  cases e2
  rw[Bq (show VR X P A m h _ x from h2)]
  simp only[iU];rw[if_pos (by omega)]
 simp only[sliceT,hu,hz,if_true,g3,g2,g1]
theorem Ns {t e:TypeId} {sz:Nat} (hu:P.underlying t=some (.slice e)) (hz:sizeT P e=some sz) {lo hi:Option (PV X.Γ)} {CY CZ:Option TV} (h1:OR X P A m h lo CY) (h2:OR X P A m h hi CZ) {a z:Int} (e1:endP X 0 lo=some a) (e2:endP X 0 hi=some z) (q0:a=0) (q1:z=0) :
  sliceT P t (.nil .slc) CY CZ none=some (.nil .slc)∧∀ {k:IntKind},hi.isSome→sliceT P t (.nil .slc) CY CZ (some (.int k 0))=some (.nil .slc):=by
 subst q0;subst q1
 have g1:=oz h1 e1 (n:=0) (by omega) (by omega)
 have g2:=oz h2 e2 (n:=0) (by omega) (by omega)
 have g0:dM 0 0 none=some 0:=rfl
 refine⟨by simp only[sliceT,hu,hz,g0,g1,g2];rfl,fun {k} hs=>?_⟩
 obtain⟨hv,rfl⟩:=Option.isSome_iff_exists.1 hs
 obtain⟨x,rfl⟩:=zy h2
 have g3:dM 0 0 (some (.int k 0))=some 0:=rfl
 simp only[sliceT,hu,hz,g1,g2,g3] ;rfl
theorem Ac {ps:aP X.Γ} {ts:St} (hR:lS X P A m ps ts) {t:TypeId} {x:PV X.Γ} {tx:TV} (hx:VR X P (AA A m) m ts.heap x tx) {lo hi mx:Option (PV X.Γ)} {CY CZ Py:Option TV} (h1:OR X P (AA A m) m ts.heap lo CY) (h2:OR X P (AA A m) m ts.heap hi CZ) (h3:OR X P (AA A m) m ts.heap mx Py) {v:PV X.Γ} {qs:List Prop}
  (hl:J4 X P t ps.heap x lo hi mx=some (v,qs)) (hq:∀ q∈qs,q):∃ w,sliceT P t tx CY CZ Py=some w∧VR X P (AA A m) m ts.heap v w:=by
 have hr:=hR.heap
 unfold J4 at hl
 split at hl
 ·rename_i e t' l fu hu
  split at hl
  ·rename_i n a z hz e1 e2
   split at hl
   ·rename_i ht
    subst ht
    cases hl
    have q0:0≤a:=hq _ (by simp)
    have q1:a≤z:=hq _ (by simp)
    have q2:z≤(l.length:Nat):=hq _ (by simp)
    rw[ji h3,List.drop_take]
    cases hx with
    | jg=>
     have ea:a=0:=by simp at q2;omega
     have ez:z=0:=by simp at q2;omega
     exact⟨_,(Ns hu hz h1 h2 e1 e2 ea ez).1,by simp only[List.drop_nil,List.take_nil];exact .jg⟩
    | lst p1 p2 p2' p3 p4 p5 p6 p7 p8 p9=>
     rw[hz] at p3;cases p3
     exact⟨_,VT hu hz h1 h2 e1 e2 q0 q1 q2,(VR.lst p1 p2 p2' hz p4 p5 p6 p7 p8 p9).part (by omega) (by omega) (.inr (by omega)) (by simp)⟩
    | gone hi _ _=>simp[aF] at hi
   ·cases hl
  ·rename_i n a z k mv hz e1 e2
   split at hl
   ·rename_i ht
    obtain⟨ht,hsome⟩:=ht
    subst ht
    cases hl
    have q0:0≤a:=hq _ (by simp)
    have q1:a≤z:=hq _ (by simp)
    have q2:z≤(l.length:Nat):=hq _ (by simp)
    have q3:mv=z:=hq _ (by simp)
    have q4:a=z:=hq _ (by simp)
    subst q3
    rw[F8 h3,List.drop_take]
    cases hx with
    | jg=>
     have ea:a=0:=by simp at q2;omega
     have ez:mv=0:=by simp at q2;omega
     have:=(Ns hu hz h1 h2 e1 e2 ea ez).2 (k:=k) hsome
     rw[←ez] at this
     exact⟨_,this,by simp only[List.drop_nil,List.take_nil];exact .jg⟩
    | lst p1 p2 p2' p3 p4 p5 p6 p7 p8 p9=>
     rw[hz] at p3;cases p3
     exact⟨_,VU hu hz h1 h2 e1 e2 hsome q0 q1 q2 p6,(VR.lst p1 p2 p2' hz p4 p5 p6 p7 p8 p9).part (by omega) (by omega) (.inl (by omega)) (by simp)⟩
    | gone hi _ _=>simp[aF] at hi
   ·cases hl
  ·cases hl
 ·rename_i e i hu
  split at hl
  ·rename_i kk ex t' l hb
   obtain⟨mb,g1,g2⟩:=hr.at_ i _ hb
   cases mb with
   | lst y=>
    cases hx with
    | gone hi e' _=>simp only[aF,Option.some.injEq] at hi;subst hi;rw[g1] at e';cases e'
    | own e' o=>
     rw[g1] at e';cases e'
     have hlr:LR X P (AA A m) m ts.heap kk ex t' l tx:=g2
     split at hl
     ·rename_i n a z hz e1 e2
      split at hl
      ·rename_i ht
       subst ht
       cases hl
       have q0:0≤a:=hq _ (by simp)
       have q1:a≤z:=hq _ (by simp)
       have q2:z≤(l.length:Nat):=hq _ (by simp)
       rw[ji h3]
       cases hlr with
       | nil=>
        have ea:a=0:=by simp at q2;omega
        have ez:z=0:=by simp at q2;omega
        refine⟨_,(Ns hu hz h1 h2 e1 e2 ea ez).1,?_⟩
        subst ea;subst ez;exact .nY g1
       | emp p0 p1 p2 p3 p4=>
        rw[hz] at p3;cases p3
        exact⟨_,VT (len:=0) hu hz h1 h2 e1 e2 q0 q1 q2,.win g1 (by simp at q2;omega) (by simp at q2;omega) (.inl (by simp at q2;omega))⟩
       | some p1 p2 p3 p4 p5 p6 p7 p8 p9=>
        rw[hz] at p2;cases p2
        exact⟨_,VT hu hz h1 h2 e1 e2 q0 q1 q2,.win g1 (by omega) (by omega) (.inr (by omega))⟩
      ·cases hl
     ·rename_i n a z k mv hz e1 e2
      split at hl
      ·rename_i ht
       obtain⟨ht,hsome⟩:=ht
       subst ht
       cases hl
       have q0:0≤a:=hq _ (by simp)
       have q1:a≤z:=hq _ (by simp)
       have q2:z≤(l.length:Nat):=hq _ (by simp)
       have q3:mv=z:=hq _ (by simp)
       have q4:a=z:=hq _ (by simp)
       subst q3
       rw[F8 h3]
       cases hlr with
       | nil=>
        have ea:a=0:=by simp at q2;omega
        have ez:mv=0:=by simp at q2;omega
        have:=(Ns hu hz h1 h2 e1 e2 ea ez).2 (k:=k) hsome
        rw[←ez] at this
        refine⟨_,this,?_⟩
        subst ea;subst ez;exact .nY g1
       | emp p0 p1 p2 p3 p4=>
        rw[hz] at p3;cases p3
        exact⟨_,VU (len:=0) hu hz h1 h2 e1 e2 hsome q0 q1 q2 (Nat.le_refl _),.win g1 (by simp at q2;omega) (by omega) (.inl (by omega))⟩
       | some p1 p2 p3 p4 p5 p6 p7 p8 p9=>
        rw[hz] at p2;cases p2
        exact⟨_,VU hu hz h1 h2 e1 e2 hsome q0 q1 q2 (Nat.le_refl _),.win g1 (by omega) (by omega) (.inl (by omega))⟩
      ·cases hl
     ·cases hl
   | _=>exact g2.elim
  ·cases hl
 ·rename_i e hu
  have:tx=.nil .slc:=by
   cases hx with
   | nil=>rfl
   | gone hi _ _=>simp[aF] at hi
  subst this
  split at hl
  ·rename_i n a z hz e1 e2
   cases hl
   have q0:a=0:=hq _ (by simp)
   have q1:z=0:=hq _ (by simp)
   rw[ji h3]
   exact⟨_,(Ns hu hz h1 h2 e1 e2 q0 q1).1,.nil _⟩
  ·rename_i n a z k mv hz e1 e2
   split at hl
   ·rename_i hsome
    cases hl
    have q0:a=0:=hq _ (by simp)
    have q1:z=0:=hq _ (by simp)
    have q2:mv=0:=hq _ (by simp)
    subst q2
    rw[F8 h3]
    exact⟨_,(Ns hu hz h1 h2 e1 e2 q0 q1).2 hsome,.nil _⟩
   ·cases hl
  ·cases hl
 ·cases hl
theorem oV (hX:aT X P) {ps:aP X.Γ} {ts:St} (hR:lS X P A m ps ts) {t:TypeId} {x:PE X.Γ} {ex:EV} (hx:PER X P (AA A m) m ts.heap x ex) {lo hi mx:Option (PV X.Γ)} {CY CZ Py:Option TV} (h1:OR X P (AA A m) m ts.heap lo CY) (h2:OR X P (AA A m) m ts.heap hi CZ) (h3:OR X P (AA A m) m ts.heap mx Py) {v:PV X.Γ} {H1:List (PB X.Γ)} {qs:List Prop}
  (hl:wY X P t ps.heap x lo hi mx=some (v,H1,qs)) (hq:∀ q∈qs,q):Gu X P A m ts ((gW P t ex CY CZ Py).map fun v=>(v,ts,aA)) v H1 mG:=by
 have hr:=hR.heap
 unfold wY at hl
 split at hl
 ·rename_i n e b off lim hu
  split at hl
  ·rename_i size hz
   split at hl
   ·cases hl
   ·rename_i hlim
    split at hl
    ·cases hl
    ·rw[ji h3]
     obtain⟨y,rfl,hy⟩:=bK hx
     split at hl
     ·split at hl
      ·rename_i cs hb
       cases hl
       rw[ji h1,ji h2]
       obtain⟨mb,g1,g2⟩:=hr.at_ b _ hb
       cases mb with
       | blk c=>
        cases hy with
        | gone hi e' _=>simp only[aF,Option.some.injEq] at hi;subst hi;rw[g1] at e';cases e'
        | ptr e'=>
         rw[g1] at e';cases e'
         exact⟨.slc c off n n size true,ts.heap,aA,m,by simp[gW,hu,hz,hlim,dM],hr,.slc g1,.refl,.refl,.none,fun d hd=>by cases hd⟩
       | _=>exact g2.elim
      ·cases hl
     ·rename_i lo' hi' _
      split at hl
      ·rename_i cs a z hb e1 e2
       split at hl
       ·cases hl
       rename_i hoff
       split at hl
       ·rename_i rows is hd
        cases hl
        have q0:0≤a:=hq _ (by simp)
        have q1:a≤z:=hq _ (by simp)
        have q2:z≤(n:Nat):=hq _ (by simp)
        obtain⟨mb,g1,g2⟩:=hr.at_ b _ hb
        cases mb with
        | blk c=>
         obtain⟨cs',g3,g4⟩:=g2
         cases hy with
         | gone hi e' _=>simp only[aF,Option.some.injEq] at hi;subst hi;rw[g1] at e';cases e'
         | ptr e'=>
          rw[g1] at e';cases e'
          have f1:=oz h1 e1 (n:=z.toNat) q0 (by omega)
          have f2:=oz h2 e2 (n:=n) (by omega) q2
          obtain⟨w1,w2⟩:=oq (m':=aS (b::is) m) hX hr (g4.drop off) hd
          have w3:=w2.2.1
          rw[List.length_drop] at w3
          have hgo:=hr.aI (b::is)
          have CX:=fV (h:=ts.heap) (b::is) m
          have hnc:AA A (aS (b::is) m) c:=by
           refine FA.gone hr (.inr ⟨b,_,List.mem_cons_self,g1,rfl⟩)
          refine⟨.slc c (off+a.toNat*size) (z.toNat-a.toNat) (n-a.toNat) size true,ts.heap,aA,aS (b::is) m,?_,hgo,?_,CX.1,CX.2,.none,fun d hd=>by cases hd⟩
          ·have f0:dM n n none=some n:=rfl
           simp only[gW,hu,hz,hlim,if_false,f0,f2,f1,Option.isSome_none,Bool.false_and,Bool.false_eq_true,Option.map_some]
          ·rw[List.drop_take]
           have hbase:VR X P (AA A (aS (b::is) m)) (aS (b::is) m) ts.heap (.lst e rows false) (.slc c off rows.length n size true):=by
            refine .lst hnc (by unfold aB;rw[g3]) (fun _=>o9 g3 (by simp)) hz (by omega) ?_ (by omega) (by simp) w2.1 (fun j y i d v hj hi hx=>?_)
            ·rw[w1,←g4.1];omega
            ·refine (w2.2.2 j y i d v hj hi ?_).mono fun q hq=>FA.gone hr (FA.mono (fun i hi=>List.mem_cons_of_mem _ hi) hq)
             rw[List.getElem?_drop,←hx];congr 1;omega
           exact hbase.part (by omega) (by omega) (.inr (by omega)) (by simp)
        | _=>exact g2.elim
       ·cases hl
      ·cases hl
  ·cases hl
 ·cases hl
theorem F9 {ps:aP X.Γ} {ts:St} (hR:lS X P A m ps ts) {t:TypeId} {x:PE X.Γ} {ex:EV} (hx:PER X P (AA A m) m ts.heap x ex) {lo hi:Option (PV X.Γ)} {CY CZ Py:Option TV} (h1:OR X P (AA A m) m ts.heap lo CY) (h2:OR X P (AA A m) m ts.heap hi CZ) (h3:OR X P (AA A m) m ts.heap none Py) {v:PV X.Γ}
  (hl:tY X P t ps.heap x lo hi=some v):Gu X P A m ts ((gW P t ex CY CZ Py).map fun v=>(v,ts,aA)) v ps.heap mG:=by
 have hr:=hR.heap
 unfold tY at hl
 split at hl
 ·rename_i n e b off lim hu
  split at hl
  ·rename_i size cs a z hz hb e1 e2
   split at hl
   ·cases hl
   ·rename_i hlim
    split at hl
    ·rename_i hq
     cases hl
     rw[ji h3]
     obtain⟨y,rfl,hy⟩:=bK hx
     obtain⟨mb,g1,g2⟩:=hr.at_ b _ hb
     cases mb with
     | blk c=>
      cases hy with
      | gone hi e' _=>simp only[aF,Option.some.injEq] at hi;subst hi;rw[g1] at e';cases e'
      | ptr e'=>
       rw[g1] at e';cases e'
       have f1:=oz h1 e1 (n:=z.toNat) hq.1 (by omega)
       have f2:=oz h2 e2 (n:=n) (by omega) hq.2.2
       refine⟨.slc c (off+a.toNat*size) (z.toNat-a.toNat) (n-a.toNat) size true,ts.heap,aA,m,?_,hr,.slc g1,.refl,.refl,.none,fun d hd=>by cases hd⟩
       have f0:dM n n none=some n:=rfl
       simp only[gW,hu,hz,hlim,if_false,f0,f2,f1,Option.isSome_none,Bool.false_and,Bool.false_eq_true,Option.map_some]
     | _=>exact g2.elim
    ·cases hl
  ·cases hl
 ·cases hl
end
end Pv
namespace Pv
open Go Tw
section
variable {X:gZ} {P:Program} {A B F:Nat→Prop} {m m':List MB} {h h':List HB} {H H':List (PB X.Γ)}
theorem kD:∀ {vs:List (PV X.Γ)} {i:Nat} {v:PV X.Γ},oL.uP vs=false→vs[i]? = some v→oL v=false
 | [],_,_,_,h=>by simp at h
 | a::vs,i,v,hc,h=>by
  simp only[oL.uP,Bool.or_eq_false_iff] at hc
  cases i with
  | zero=>simp only[List.getElem?_cons_zero,Option.some.injEq] at h;subst h;exact hc.1
  | succ i=>exact kD hc.2 (by simpa using h)
theorem jy {k:Nat}:∀ {vs:List (PV X.Γ)} {i:Nat} {v:PV X.Γ},(shift.shifts k vs)[i]? = some v→∃ u,vs[i]? = some u∧v=shift k u
 | [],_,_,h=>by simp[shift.shifts] at h
 | a::vs,i,v,h=>by
  cases i with
  | zero=>simp only[shift.shifts,List.getElem?_cons_zero,Option.some.injEq] at h;exact⟨a,rfl,h.symm⟩
  | succ i=>obtain⟨u,h1,h2⟩:=jy (vs:=vs) (i:=i) (by simpa[shift.shifts] using h);exact⟨u,by simpa using h1,h2⟩
theorem jA {k:Nat}:∀ {vs:List (PV X.Γ)},(shift.shifts k vs).length=vs.length
 | []=>rfl
 | a::vs=>by simp[shift.shifts,jA (vs:=vs)]
theorem Jg {k i:Nat} {v:PV X.Γ} (h:aF v=some i):aF (shift k v)=some (i+k):=by
 cases v<;>simp[aF] at h<;>subst h<;>rfl
theorem VR.shift (hX:aT X P) {m0:List MB} {v:PV X.Γ} {x:TV} (hv:VR X P A m h v x) (hq:(∀ b,A b→B b)∨oL v=false):VR X P B (m0++m) h (Pv.shift m0.length v) x:=by
 have at':∀ {i:Nat} {mb:MB},m[i]? = some mb→(m0++m)[i+m0.length]? = some mb:=by
  intro i mb hi
  rw[List.getElem?_append_right (by omega)]
  simpa using hi
 induction hv with
 | bool=>exact .bool _
 | lit=>exact .lit _
 | int=>exact .int _ _
 | str=>exact .str _
 | nil=>exact .nil _
 | ptr e=>exact .ptr (at' e)
 | slc e=>exact .slc (at' e)
 | own e o=>exact .own (at' e) o
 | win e q q' q2=>exact .win (at' e) q q' q2
 | nY e=>exact .nY (at' e)
 | map e=>exact .map (at' e)
 | iter e=>exact .iter (at' e)
 | fn h1 _ h3 _ i2 i4=>
  refine .fn (by rw[jA,h1]) (fun i x y hx hy=>?_) (by rw[jA,h3]) (fun i x y hx hy=>?_)
  ·obtain⟨u,g1,rfl⟩:=jy hx
   exact i2 i u y g1 hy (hq.imp_right fun hq=>by simp only[oL,Bool.or_eq_false_iff] at hq;exact kD hq.1 g1)
  ·obtain⟨u,g1,rfl⟩:=jy hx
   exact i4 i u y g1 hy (hq.imp_right fun hq=>by simp only[oL,Bool.or_eq_false_iff] at hq;exact kD hq.2 g1)
 | iF e=>exact .iF (at' e)
 | agg h1 _ i2=>
  refine .agg (by rw[jA,h1]) (fun i x y hx hy=>?_)
  obtain⟨u,g1,rfl⟩:=jy hx
  exact i2 i u y g1 hy (hq.imp_right fun hq=>by simp only[oL] at hq;exact kD hq g1)
 | bf h1 _ i2=>
  refine .bf (by rw[jA,h1]) (fun i x y hx hy=>?_)
  obtain⟨u,g1,rfl⟩:=jy hx
  exact i2 i u y g1 hy (hq.imp_right fun hq=>by simp only[oL] at hq;exact kD hq g1)
 | jg=>exact .jg
 | lst a c c2 s z o k f e r _=>
  rcases hq with hq | hq
  ·exact .lst (hq _ a) c c2 s z o k f e fun j y i d v h1 h2 h3=>((r j y i d v h1 h2 h3).mono hq).dH hX (aY (hX.dH _ _) h2)
  ·simp[oL] at hq
 | el a c l o e q r _=>
  rcases hq with hq | hq
  ·exact .el (hq _ a) c l o e q fun i d v h1 h2=>((r i d v h1 h2).mono hq).dH hX (aY (hX.dH _ _) h1)
  ·simp[oL] at hq
 | row e j q=>exact .row (at' e) j q
 | @gone v i x hi e o=>
  have e':(m0++m)[i+m0.length]? = m[i]?:=by rw[List.getElem?_append_right (by omega)];congr 1;omega
  exact .gone (Jg hi) (by rw[e'];exact e.as fun c=>by cases v<;>rfl) o
theorem aG.shift (hX:aT X P) {m0:List MB} {v:List (PV X.Γ)} {x:List TV} (hv:aG X P A m h v x) (hq:(∀ b,A b→B b)∨oL.uP v=false):aG X P B (m0++m) h (Pv.shift.shifts m0.length v) x:=by
 refine⟨by rw[jA,hv.1],fun i a b ha hb=>?_⟩
 obtain⟨u,g1,rfl⟩:=jy ha
 exact (hv.2 i u b g1 hb).shift hX (hq.imp_right fun hq=>kD hq g1)
theorem BR.shift (hX:aT X P) {m0:List MB} {b b':PB X.Γ} {mb:MB} (hb:BR X P A m h b mb) (hs:tK X m0.length b=some b') (hq:(∀ c,A c→B c)∨hasB X b=false):BR X P B (m0++m) h b' mb:=by
 cases b with
 | cells cs=>
  cases mb with
  | blk c=>
   simp only[tK,Option.some.injEq] at hs;subst hs
   obtain⟨cs',h1,h2⟩:=hb
   exact⟨cs',h1,h2.shift hX hq⟩
  | _=>exact hb.elim
 | list k ex t l=>
  cases mb with
  | lst y=>
   simp only[tK,Option.some.injEq] at hs;subst hs
   rcases hq with hq | hq
   ·cases (hb:LR X P A m h k ex t l y) with
    | nil=>exact LR.nil
    | emp p0 p1 p2 p3 p4=>exact LR.emp (hq _ p0) p1 p2 p3 p4
    | some p1 p2 p3 p4 p5 p6 p7 p8 p9=>exact LR.some p1 p2 p3 p4 p5 p6 p7 p8 ((p9.mono hq).dH hX)
   ·simp[hasB] at hq
  | _=>exact hb.elim
 | gone=>
  cases mb with
  | gone=>simp only[tK,Option.some.injEq] at hs;subst hs;trivial
  | _=>exact hb.elim
 | _=>simp[tK] at hs
theorem yA {k:Nat}:∀ {bs bs':List (PB X.Γ)} {i:Nat} {b':PB X.Γ},jY X k bs=some bs'→bs'[i]? = some b'→∃ b,bs[i]? = some b∧tK X k b=some b'
 | [],bs',i,b',h,hi=>by simp only[jY,Option.some.injEq] at h;subst h;simp at hi
 | b::bs,bs',i,b',h,hi=>by
  simp only[jY] at h
  split at h
  ·rename_i c cs h1 h2
   cases h
   cases i with
   | zero=>simp only[List.getElem?_cons_zero,Option.some.injEq] at hi;subst hi;exact⟨b,rfl,h1⟩
   | succ i=>obtain⟨d,g1,g2⟩:=yA h2 (i:=i) (by simpa using hi);exact⟨d,by simpa using g1,g2⟩
  ·cases h
theorem yB {k:Nat}:∀ {bs bs':List (PB X.Γ)},jY X k bs=some bs'→bs'.length=bs.length
 | [],bs',h=>by simp only[jY,Option.some.injEq] at h;subst h;rfl
 | b::bs,bs',h=>by
  simp only[jY] at h
  split at h
  ·rename_i c cs h1 h2
   cases h;simp[yB h2]
  ·cases h
def VW (X:gZ) (P:Program) (call:ay) (f:FuncId) (vs:List (PV X.Γ)) (v:PV X.Γ) (ext:List (PB X.Γ)):Prop:=
 ∀ (A:Nat→Prop) (h:List HB) (first args cap:List TV),(∀ b,h.length≤b→A b)→aG X P A [] h vs (first++args++cap) →
  ∃ w h' m',call (.fn f first cap) args h=some (w,h',[])∧HR X P A m' ext h'∧VR X P (AA A m') m' h' v w∧Fr [] h m' h'
theorem Tc (hX:aT X P) {call:ay} {f:FuncId} {first xs cap vs:List (PV X.Γ)} {v:PV X.Γ} {ext ext':List (PB X.Γ)} (hc:VW X P call f vs v ext) (hr:HR X P A m H h) (hv:views H (first++xs++cap)=some vs) (hs:jY X H.length ext=some ext')
  {t1 t2 t3:List TV} (h1:aG X P (AA A m) m h first t1) (h2:aG X P (AA A m) m h xs t2) (h3:aG X P (AA A m) m h cap t3) :
  ∃ w h' m1,call (.fn f t1 t3) t2 h=some (w,h',[])∧HR X P A m1 ((if oL v||ext.any (hasB X) then aI (owns.kR (first++xs++cap)) H else H)++ext') h'∧VR X P (AA A m1) m1 h' (shift H.length v) w∧Fr m h m1 h'∧Up m m1:=by
 have hvs:=jh (m':=[]) hX hr ((h1.app h2).app h3) hv (is:=owns.kR (first++xs++cap)) fun i hi=>hi
 generalize owns.kR (first++xs++cap)=is at hvs ⊢
 obtain⟨w,h',m',c1,c2,c3,c4⟩:=hc (fun b=>FA A m is b∨h.length≤b) h t1 t2 t3 (fun b hb=>.inr hb) (hvs.mono fun b hb=>.inl hb)
 have hold:∀ b,b<h.length→h'[b]? = h[b]?:=fun b hb=>c4.same b hb (by simp[blks])
 have hnew:∀ b,b∈blks m'→h.length≤b:=fun b hb=>by
  rcases c4.new b hb with h0 | h0
  ·simp[blks] at h0
  ·exact h0
 have key:∀ (m0:List MB) (H0:List (PB X.Γ)),HR X P A m0 H0 h→Fr m h m0 h→Up m m0→m0.length=H.length→((∀ b,FA A m is b→AA A m0 b)∨(oL v||ext.any (hasB X))=false) →
   ∃ m1,HR X P A m1 (H0++ext') h'∧VR X P (AA A m1) m1 h' (shift H.length v) w∧Fr m h m1 h'∧Up m m1:=by
  intro m0 H0 hr0 hF0 hU0 hl0 hq
  have hF:Fr m0 h (m0++m') h':=by
   refine⟨c4.len,fun b hb _=>hold b hb,fun b hb=>?_,fun b cs hc=>⟨cs,by rw[bI (hold b (bQ hc)),hc],Nat.le_refl _⟩⟩
   rw[dF,List.mem_append] at hb
   exact hb.imp_right fun hb=>hnew b hb
  have hA:(∀ b,AA (fun b=>FA A m is b∨h.length≤b) m' b→AA A (m0++m') b)∨(oL v||ext.any (hasB X))=false:=by
   refine hq.imp_left fun hq b hb=>?_
   refine⟨?_,fun hm=>?_⟩
   ·rcases hb.1 with h0 | h0
    ·exact (hq b h0).1
    ·exact hr.up b h0
   ·rw[dF,List.mem_append] at hm
    rcases hm with hm | hm
    ·rcases hb.1 with h0 | h0
     ·exact (hq b h0).2 hm
     ·have:=hr0.inb hm;omega
    ·exact hb.2 hm
  refine⟨m0++m',?_,?_,hF0.trans hF,hU0.trans (kU _)⟩
  ·refine hr0.next hF (kU _) (by rw[List.length_append,List.length_append,hr0.len,yB hs,c2.len]) ?_ fun i b hi=>?_
   ·rw[dF]
    refine List.nodup_append.2 ⟨hr0.nodup,c2.nodup,fun a ha b hb e=>?_⟩
    subst e
    have:=hr0.inb ha
    have:=hnew a hb
    omega
   ·rcases Nat.lt_or_ge i H0.length with hlt | hge
    ·left
     rw[List.getElem?_append_left hlt] at hi
     obtain⟨mb,g1,g2⟩:=hr0.at_ i b hi
     exact⟨mb,hi,g1,by rw[List.getElem?_append_left (by rw[hr0.len];exact hlt)];exact g1,fun c hc=>hold c (g2.has hc)⟩
    ·right
     rw[List.getElem?_append_right hge] at hi
     obtain⟨b0,g1,g2⟩:=yA hs hi
     obtain⟨mb,g3,g4⟩:=c2.at_ _ _ g1
     refine⟨mb,by rw[List.getElem?_append_right (by rw[hr0.len];exact hge),hr0.len];exact g3,?_⟩
     rw[←hl0] at g2
     refine g4.shift hX g2 (hA.imp_right fun hq=>?_)
     simp only[Bool.or_eq_false_iff,List.any_eq_false] at hq
     simpa using hq.2 b0 (List.mem_of_getElem? g1)
  ·rw[←hl0]
   exact c3.shift hX (hA.imp_right fun hq=>by simp only[Bool.or_eq_false_iff] at hq;exact hq.1)
 refine⟨w,h',?_⟩
 by_cases hL:(oL v||ext.any (hasB X))=true
 ·rw[if_pos hL]
  obtain⟨m1,e1,e2,e3,e4⟩:=key (aS is m) (aI is H) (hr.aI is) (fV (h:=h) is m).1 (fV (h:=h) is m).2 (by rw[eX,hr.len]) (.inl fun b hb=>hb.gone hr)
  exact⟨m1,c1,e1,e2,e3,e4⟩
 ·rw[if_neg hL]
  obtain⟨m1,e1,e2,e3,e4⟩:=key m H hr .refl .refl hr.len (.inr (by simpa using hL))
  exact⟨m1,c1,e1,e2,e3,e4⟩
end
end Pv
namespace Pv
open Go Tw
section
variable {X:gZ} {P:Program} {A B F:Nat→Prop} {m m':List MB} {h h':List HB} {H H':List (PB X.Γ)}
def nH (X:gZ) (P:Program) (call:ay):Nj X.Γ:=fun fv xs H v H1=>
 ∀ (A:Nat→Prop) (m:List MB) (h:List HB) (tf:TV) (kY:List TV),HR X P A m H h→VR X P (AA A m) m h fv tf→aG X P (AA A m) m h xs kY →
  ∃ w h1 ws m1,call tf kY h=some (w,h1,ws)∧HR X P A m1 H1 h1∧VR X P (AA A m1) m1 h1 v w∧Fr m h m1 h1∧Up m m1∧∀ b∈ws,b∈blks m
def jL (X:gZ) (P:Program) (call:ay) (jG:gK X.Γ):Prop:=∀ f vs v ext ps,jG f vs=some (v,ext,ps)→(∀ p∈ps,p)→VW X P call f vs v ext
theorem jM {ρ:Type} {y:ρ}:∀ {ps:List Prop} {x:OT ρ},(SK ps x).Ends y→(∀ p∈ps,p)∧x.Ends y
 | [],x,h=>⟨by simp,h⟩
 | p::ps,x,h=>by
  have:=jM h.2
  exact⟨fun q hq=>by rcases List.mem_cons.1 hq with rfl | hq;exact h.1;exact this.1 q hq,this.2⟩
theorem Jh {ρ:Type} {y:ρ} {u:PV X.Γ} {an:PT X.Γ} {k:Bool→PT X.Γ→OT ρ} (hk:(byB X u an k).Ends y) {tu:TV} (hu:VR X P A m h u tu):∃ t yC,tu=.bool t∧(k t yC).Ends y:=by
 cases u with
 | lit b=>
  have:tu=.bool b:=by
   cases hu with
   | lit=>rfl
   | gone hi _ _=>simp[aF] at hi
  exact⟨b,an,this,hk⟩
 | bool b=>
  have hb:tu=.bool b:=by
   cases hu with
   | bool=>rfl
   | gone hi _ _=>simp[aF] at hi
  subst hb
  cases an with
  | s x z=>
   rcases hk with⟨h1,h2⟩ | ⟨h1,h2⟩
   ·subst h1;exact⟨true,x,rfl,h2⟩
   ·subst h1;exact⟨false,z,rfl,h2⟩
  | a x r=>
   cases x with
   | br t=>obtain⟨h1,h2⟩:=hk;subst h1;exact⟨_,r,rfl,h2⟩
   | _=>exact hk.elim
  | _=>exact hk.elim
 | _=>exact hk.elim
theorem mW:∀ {es:List (PV X.Γ×PV X.Γ)} {es':List (TV×TV)} {ks:List TV},es.length=es'.length→(∀ (i:Nat) x y,es[i]? = some x→es'[i]? = some y→VR X P A m h x.1 y.1∧VR X P A m h x.2 y.2)→lK X es=some ks→es'.map (·.1)=ks
 | [],es',ks,hl,_,hk=>by
  simp only[lK,Option.some.injEq] at hk;subst hk
  cases es' with
  | nil=>rfl
  | cons=>simp at hl
 | (k,v)::es,es',ks,hl,he,hk=>by
  cases es' with
  | nil=>simp at hl
  | cons y es'=>
   simp only[lK] at hk
   split at hk
   ·rename_i a b h1 h2
    cases hk
    have:=gQ (he 0 _ _ rfl rfl).1 h1
    simp only[List.map_cons,this]
    rw[mW (by simpa using hl) (fun i x z hx hz=>he (i+1) x z (by simpa using hx) (by simpa using hz)) h2]
   ·cases hk
theorem Gy:∀ {ks:List TV} {vs:List Value},oK ks=some vs→vs.length=ks.length
 | [],vs,h=>by simp only[oK,Option.some.injEq] at h;subst h;rfl
 | k::ks,vs,h=>by
  simp only[oK] at h
  split at h
  ·rename_i v ws _ h2
   cases h;simp[Gy h2]
  ·cases h
theorem pY {kt:TypeId} {k:Value} {es':List (TV×TV)}:uj P kt k es'=lM P kt k (es'.map (·.1)):=by
 unfold uj lM
 cases hv:oK (es'.map (·.1)) with
 | none=>rfl
 | some vs=>
  have hl:=Gy hv
  have:es'.isEmpty=vs.isEmpty:=by
   cases es'<;>cases vs<;>simp at hl<;>rfl
  simp only[this]<;>rfl
def DY:TV→List Key
 | .map r=>[.h r]
 | _=>[]
def Nu (h:List HB):TV→Option (List (TV×TV))
 | .nil .map=>some []
 | .map r=>match h[r]? with
  | some (.map es)=>some es
  | _=>none
 | _=>none
theorem yD {t:TypeId} {h:List HB} {tm tk:TV} {ok:Bool} {kt e:TypeId} {kv:Value} {es:List (TV×TV)} (hu:P.underlying t=some (.map kt e)) (hk:tk.oJ=some kv) (he:Nu h tm=some es) :
  jU P t h tm tk ok=match uj P kt kv es with
   | some (some i)=>match es[i]? with
    | some (_,v)=>some (if ok then .bf [v,.bool true] else v)
    | none=>none
   | some none=>match P.info? e with
    | some i=>match i.zero with
     | some z=>(TV.FH z).map fun z=>if ok then .bf [z,.bool false] else z
     | none=>none
    | none=>none
   | none=>none:=by
 unfold jU
 simp only[hu,hk]
 cases tm with
 | nil k=>
  cases k<;>simp only[Nu] at he<;>try (cases he;done)
  cases he;rfl
 | map r=>
  simp only[Nu] at he
  split at he
  ·rename_i es0 hb
   cases he
   simp only[hb]
   rfl
  ·cases he
 | _=>simp[Nu] at he
theorem qc {H:List (PB X.Γ)} {h:List HB} (hr:HR X P A m H h) {r:Nat} {es:List (PV X.Γ×PV X.Γ)} (he:AX X H r=some es):∃ c es',(m[r]? = some (.blk c)∨(m[r]? = some (.bM c)∧c∉blks m))∧h[c]? = some (.map es')∧es.length=es'.length ∧
  ∀ (i:Nat) x y,es[i]? = some x→es'[i]? = some y→pI x.1=some y.1∧pI x.2=some y.2:=by
 unfold AX at he
 split at he
 ·rename_i es0 hb
  cases he
  obtain⟨mb,g1,g2⟩:=hr.at_ r _ hb
  cases mb with
  | blk c=>obtain⟨es',g3,g4,g5⟩:=g2;exact⟨c,es',.inl g1,g3,g4,g5⟩
  | _=>exact g2.elim
 ·rename_i es0 hb
  cases he
  obtain⟨mb,g1,g2⟩:=hr.at_ r _ hb
  cases mb with
  | bM c=>obtain⟨g0,es',g3,g4,g5⟩:=g2;exact⟨c,es',.inr ⟨g1,g0⟩,g3,g4,g5⟩
  | _=>exact g2.elim
 ·cases he
theorem La {B:Nat→Prop} {h:List HB} {r c:Nat} {tm:TV} (hm:VR X P B m h (.map r) tm) (hc:m[r]? = some (.blk c)∨(m[r]? = some (.bM c)∧c∉blks m)):tm=.map c:=by
 cases hm with
 | map e=>
  rcases hc with h | ⟨h,_⟩<;>rw[h] at e<;>cases e
  rfl
 | gone hi e _=>
  simp only[aF,Option.some.injEq] at hi
  subst hi
  rcases hc with h | ⟨h,_⟩<;>rw[h] at e
  ·cases e
  ·cases e with
   | r c hv=>simp only[SL,Option.some.injEq] at hv;exact hv.symm
theorem DZ {r c:Nat} {ks:List Key} (hc:m[r]? = some (.blk c)∨(m[r]? = some (.bM c)∧c∉blks m)):(∃ i,Key.h i∈Key.h r::ks∧Own m i c)∨c∉blks m:=by
 rcases hc with h | ⟨_,h⟩
 ·exact .inl ⟨r,by simp,dO h rfl⟩
 ·exact .inr h
theorem VX {ps:aP X.Γ} {ts:St} (hR:lS X P A m ps ts) {mv:PV X.Γ} {tm:TV} (hm:VR X P (AA A m) m ts.heap mv tm) {es:List (PV X.Γ×PV X.Γ)} (he:P8 X ps.heap mv=some es) :
  ∃ es',Nu ts.heap tm=some es'∧es.length=es'.length∧(∀ (i:Nat) x y,es[i]? = some x→es'[i]? = some y→VR X P (AA A m) m ts.heap x.1 y.1∧VR X P (AA A m) m ts.heap x.2 y.2) ∧
   IR m ts.heap ⟨bT (DJ X mv),false,false,true⟩ (bT (DY tm)):=by
 cases mv with
 | nil k=>
  cases hm with
  | nil=>
   cases k<;>simp only[P8] at he<;>try (cases he;done)
   cases he
   exact⟨[],rfl,rfl,fun i x y hx=>by simp at hx,IR.reads rfl (by simp[DY]) (by simp[DY])⟩
  | gone hi _ _=>simp[aF] at hi
 | map r=>
  simp only[P8] at he
  obtain⟨c,es',g0,g3,g4,g5⟩:=qc hR.heap he
  have htm:=La hm g0
  subst htm
  refine⟨es',by simp only[Nu,g3],g4,fun i x y e1 e2=>⟨mD (g5 i x y e1 e2).1,mD (g5 i x y e1 e2).2⟩,IR.reads rfl (fun b hb=>?_) (by simp[DY])⟩
  simp[DY] at hb;subst hb
  exact⟨DZ g0,(List.getElem?_eq_some_iff.1 g3).1⟩
 | _=>simp[P8] at he
theorem zA {a b:PV X.Γ} {x y:TV} (h1:VR X P A m h a x) (h2:VR X P A m h b y):VR X P A m h (.bf [a,b]) (.bf [x,y]):=by
 have:=(aG.nil (X:=X) (P:=P) (A:=A) (m:=m) (h:=h)).cons h2 |>.cons h1
 exact .bf this.1 this.2
theorem Pz {e:TypeId} {z:PV X.Γ} (h:DK X P e=some z):∃ i z0 z1,P.info? e=some i∧i.zero=some z0∧TV.FH z0=some z1∧Na z1=some z:=by
 unfold DK at h
 split at h
 ·rename_i i hi
  split at h
  ·rename_i z0 hz0
   split at h
   ·rename_i z1 hz1;exact⟨i,z0,z1,hi,hz0,hz1,h⟩
   ·cases h
  ·cases h
 ·cases h
theorem look_ok {ρ:Type} {y:ρ} {ps:aP X.Γ} {ts:St} (hR:lS X P A m ps ts) {t:TypeId} {mv kv:PV X.Γ} {tm tk:TV} (hm:VR X P (AA A m) m ts.heap mv tm) (hk:VR X P (AA A m) m ts.heap kv tk) {ok:Bool} {an:PT X.Γ} {c:PE X.Γ→PI→PT X.Γ→OT ρ}
  (hl:(Ja X P t ps mv kv ok an c).Ends y):∃ v pi yC w,jU P t ts.heap tm tk ok=some w∧VR X P (AA A m) m ts.heap v w∧(c (.val v) pi yC).Ends y∧IR m ts.heap pi (bT (DY tm)):=by
 unfold Ja at hl
 split at hl
 ·rename_i kt e tk' es hu htk hes
  have:=gQ hk htk
  subst this
  obtain⟨es',f1,f2,f3,f4⟩:=VX hR hm hes
  have fnd:∀ {mX ks j k0 v},tk.oJ=some mX→lK X es=some ks→lM P kt mX ks=some (some j)→es[j]? = some (k0,v)→∃ w,jU P t ts.heap tm tk ok=some w∧VR X P (AA A m) m ts.heap (if ok then .bf [v,.bool true] else v) w:=by
   intro mX ks j k0 v hkv hks hfind hj
   have hkeys:=mW f2 f3 hks
   have hlt:j<es'.length:=by rw[←f2];exact (List.getElem?_eq_some_iff.1 hj).1
   have hj':=List.getElem?_eq_getElem hlt
   have hv:=(f3 j _ _ hj hj').2
   refine⟨(if ok then .bf [es'[j].2,.bool true] else es'[j].2),?_,?_⟩
   ·rw[yD hu hkv f1]
    simp only[pY,hkeys,hfind,hj']
   ·cases ok with
    | true=>exact zA hv (.bool _)
    | false=>exact hv
  have non:∀ {mX ks z},tk.oJ=some mX→lK X es=some ks→lM P kt mX ks=some none→DK X P e=some z→∃ w,jU P t ts.heap tm tk ok=some w∧VR X P (AA A m) m ts.heap (if ok then .bf [z,.bool false] else z) w:=by
   intro mX ks z hkv hks hfind hz
   have hkeys:=mW f2 f3 hks
   obtain⟨i,z0,z1,hi,hz0,hz1,hz2⟩:=Pz hz
   refine⟨(if ok then .bf [z1,.bool false] else z1),?_,?_⟩
   ·rw[yD hu hkv f1]
    simp only[pY,hkeys,hfind,hi,hz0,hz1,Option.map_some]
   ·cases ok with
    | true=>exact zA (kW hz2) (.bool _)
    | false=>exact kW hz2
  split at hl
  ·obtain⟨⟨mX,ks,j,k0,g1,g2,g3,g4⟩,hl⟩:=hl
   obtain⟨w,w1,w2⟩:=fnd g1 g2 g3 g4
   exact⟨_,_,_,w,w1,w2,hl,f4⟩
  ·split at hl
   ·rename_i z hz
    obtain⟨⟨mX,ks,g1,g2,g3⟩,hl⟩:=hl
    obtain⟨w,w1,w2⟩:=non g1 g2 g3 hz
    exact⟨_,_,_,w,w1,w2,hl,f4⟩
   ·exact hl.elim
  ·split at hl
   ·rename_i z hz
    obtain⟨⟨mX,ks,g1,g2,g3⟩,hl⟩:=hl
    obtain⟨w,w1,w2⟩:=non g1 g2 g3 hz
    exact⟨_,_,_,w,w1,w2,hl,f4⟩
   ·exact hl.elim
  ·split at hl
   ·rename_i mX ks hkv hks
    split at hl
    ·rename_i j r _ _
     split at hl
     ·rename_i k0 v hj
      obtain⟨hfind,hl⟩:=hl
      obtain⟨w,w1,w2⟩:=fnd hkv hks hfind hj
      exact⟨_,_,_,w,w1,w2,hl,f4⟩
     ·exact hl.elim
    ·split at hl
     ·rename_i z hz
      obtain⟨hfind,hl⟩:=hl
      obtain⟨w,w1,w2⟩:=non hkv hks hfind hz
      exact⟨_,_,_,w,w1,w2,hl,f4⟩
     ·exact hl.elim
    ·exact hl.elim
   ·exact hl.elim
 ·exact hl.elim
theorem PD {ρ:Type} {y:ρ} {ps:aP X.Γ} {ts:St} (hR:lS X P A m ps ts) {t:TypeId} {mv kv v:PV X.Γ} {tm tk tv:TV} (hm:VR X P (AA A m) m ts.heap mv tm) (hk:VR X P (AA A m) m ts.heap kv tk) (hv:VR X P (AA A m) m ts.heap v tv) {an:PT X.Γ} {c:aP X.Γ→PI→PT X.Γ→OT ρ}
  (hl:(P9 X P t ps mv kv v an c).Ends y):∃ ps1 pi yC h1 ti,iV P t ts tm tk tv=some ({ ts with heap:=h1 },ti)∧lS X P A m ps1 { ts with heap:=h1 }∧Fr m ts.heap m h1∧(c ps1 pi yC).Ends y∧IR m ts.heap pi ti∧∀ b,.h b∈ti.ws→b∈blks m:=by
 unfold P9 at hl
 split at hl
 ·rename_i kt e tk' r tv' hu htk htv
  have:=gQ hk htk
  subst this
  have:=gQ hv htv
  subst this
  split at hl
  ·rename_i es hb
   obtain⟨mb,g1,g2⟩:=hR.heap.at_ r _ hb
   cases mb with
   | blk cb=>
    obtain⟨es',f1,f2,f3⟩:=g2
    have f3v:∀ (i:Nat) x y,es[i]? = some x→es'[i]? = some y→VR X P (AA A m) m ts.heap x.1 y.1∧VR X P (AA A m) m ts.heap x.2 y.2:=fun i x y e1 e2=>⟨mD (f3 i x y e1 e2).1,mD (f3 i x y e1 e2).2⟩
    cases hm with
    | gone hi e' _=>simp only[aF,Option.some.injEq] at hi;subst hi;rw[g1] at e';cases e'
    | map e'=>
     rw[g1] at e';cases e'
     have hlt:=(List.getElem?_eq_some_iff.1 f1).1
     have wr:∀ (en:List (PV X.Γ×PV X.Γ)) (en':List (TV×TV)),en.length=en'.length→(∀ (i:Nat) x y,en[i]? = some x→en'[i]? = some y→pI x.1=some y.1∧pI x.2=some y.2) →
       lS X P A m { ps with heap:=ps.heap.set r (.map en) } { ts with heap:=ts.heap.set cb (.map en') }∧Fr m ts.heap m (ts.heap.set cb (.map en')):=by
      intro en en' h1 h2
      obtain⟨q1,q2⟩:=hR.heap.set (pb:=.map en) (hb:=.map en') g1 (c:=cb) rfl (fun cs hc=>by simp[aB,f1] at hc) fun hF=>⟨en',by simp[hlt],h1,h2⟩
      exact⟨hR.step q1 q2 .refl,q2⟩
     have new:∀ {mX ks},tk.oJ=some mX→lK X es=some ks→au P (Instr.checkKey false 10000 kt mX)=some ()→lM P kt mX ks=some none →
       iV P t ts (.map cb) tk tv=some ({ ts with heap:=ts.heap.set cb (.map (es'++[(tk,tv)])) },jO (.h cb))∧lS X P A m { ps with heap:=ps.heap.set r (.map (es++[(kv,v)])) } { ts with heap:=ts.heap.set cb (.map (es'++[(tk,tv)])) }∧Fr m ts.heap m (ts.heap.set cb (.map (es'++[(tk,tv)]))):=by
      intro mX ks hkv hks c1 c2
      have hkeys:=mW f2 f3v hks
      obtain⟨w1,w2⟩:=wr (es++[(kv,v)]) (es'++[(tk,tv)]) (by simp[f2]) fun i a b ha hb'=>by
       rcases Nat.lt_or_ge i es.length with hlt | hge
       ·rw[List.getElem?_append_left hlt] at ha
        rw[List.getElem?_append_left (by rw[←f2];exact hlt)] at hb'
        exact f3 i a b ha hb'
       ·rw[List.getElem?_append_right hge] at ha
        rw[List.getElem?_append_right (by rw[←f2];exact hge),←f2] at hb'
        cases hx:i-es.length with
        | zero=>
         rw[hx] at ha hb'
         simp only[List.getElem?_cons_zero,Option.some.injEq] at ha hb'
         subst ha;subst hb';exact⟨htk,htv⟩
        | succ n=>rw[hx] at ha;simp at ha
      refine⟨?_,w1,w2⟩
      unfold iV
      simp only[hu,hkv,f1,c1,pY,hkeys,c2]
     split at hl
     ·obtain⟨⟨mX,q1,c1⟩,⟨YL,ks,q2,hks,c2⟩,hl⟩:=hl
      rw[q1] at q2;cases q2
      obtain⟨u1,u2,u3⟩:=new q1 hks c1 c2
      exact⟨_,_,_,_,jO (.h cb),u1,u2,u3,hl,.VP (dO g1 rfl) hlt,fun b hb=>by simp[jO] at hb;subst hb;exact aC g1 rfl⟩
     ·obtain⟨⟨mX,q1,c1⟩,⟨YL,ks,q2,hks,c2⟩,hl⟩:=hl
      rw[q1] at q2;cases q2
      obtain⟨u1,u2,u3⟩:=new q1 hks c1 c2
      exact⟨_,_,_,_,jO (.h cb),u1,u2,u3,hl,.VP (dO g1 rfl) hlt,fun b hb=>by simp[jO] at hb;subst hb;exact aC g1 rfl⟩
     ·obtain⟨⟨mX,ks,j,old,ov,hkv,c1,hks,c2,hj,hold,hov,c3⟩,hl⟩:=hl
      have hkeys:=mW f2 f3v hks
      have hj':∃ y0,es'[j]? = some y0:=by
       have:j<es'.length:=by rw[←f2];exact (List.getElem?_eq_some_iff.1 hj).1
       exact⟨_,List.getElem?_eq_getElem this⟩
      obtain⟨y0,hy0⟩:=hj'
      have hy1:y0.1=old:=by
       have:(es'.map (·.1))[j]? = some y0.1:=by rw[List.getElem?_map,hy0];rfl
       rw[hkeys,hold] at this;exact (Option.some.inj this).symm
      obtain⟨w1,w2⟩:=wr es (es'.set j (tk,tv)) (by simp[f2]) fun i a b ha hb'=>by
       by_cases e:j=i
       ·subst e
        rw[List.getElem?_set_self'] at hb'
        rw[hj] at ha;rw[hy0] at hb'
        cases ha;cases hb';exact⟨htk,htv⟩
       ·rw[List.getElem?_set_ne e] at hb';exact f3 i a b ha hb'
      have hset:ps.heap.set r (.map es)=ps.heap:=by
       refine List.ext_getElem? fun i=>?_
       by_cases e:r=i
       ·subst e
        rw[List.getElem?_set_self (List.getElem?_eq_some_iff.1 hb).1,hb]
       ·rw[List.getElem?_set_ne e]
      rw[hset] at w1
      refine⟨_,_,_,_,jO (.h cb),?_,w1,w2,hl,.VP (dO g1 rfl) hlt,fun b hb=>by simp[jO] at hb;subst hb;exact aC g1 rfl⟩
      unfold iV
      simp only[hu,hkv,f1,c1,pY,hkeys,c2,hy0,hy1,hov,c3,if_true]
     ·split at hl
      ·rename_i mX ks hkv hks
       have hkeys:=mW f2 f3v hks
       split at hl
       ·rename_i j rest _ _ _
        split at hl
        ·rename_i x0 old hj hold
         split at hl
         ·rename_i ov hov
          obtain⟨c1,c2,c3,hl⟩:=hl
          have hj':∃ y0,es'[j]? = some y0:=by
           have:j<es'.length:=by rw[←f2];exact (List.getElem?_eq_some_iff.1 hj).1
           exact⟨_,List.getElem?_eq_getElem this⟩
          obtain⟨y0,hy0⟩:=hj'
          have hy1:y0.1=old:=by
           have:(es'.map (·.1))[j]? = some y0.1:=by rw[List.getElem?_map,hy0];rfl
           rw[hkeys,hold] at this;exact (Option.some.inj this).symm
          obtain⟨w1,w2⟩:=wr (es.set j (kv,v)) (es'.set j (tk,tv)) (by simp[f2]) fun i a b ha hb'=>by
           by_cases e:j=i
           ·subst e
            rw[List.getElem?_set_self'] at ha hb'
            rw[hj] at ha;rw[hy0] at hb'
            cases ha;cases hb';exact⟨htk,htv⟩
           ·rw[List.getElem?_set_ne e] at ha hb';exact f3 i a b ha hb'
          refine⟨_,_,_,_,jO (.h cb),?_,w1,w2,hl,.VP (dO g1 rfl) hlt,fun b hb=>by simp[jO] at hb;subst hb;exact aC g1 rfl⟩
          unfold iV
          simp only[hu,hkv,f1,c1,pY,hkeys,c2,hy0,hy1,hov,c3,if_true]
         ·exact hl.elim
        ·exact hl.elim
       ·obtain⟨c1,c2,hl⟩:=hl
        obtain⟨u1,u2,u3⟩:=new hkv hks c1 c2
        exact⟨_,_,_,_,jO (.h cb),u1,u2,u3,hl,.VP (dO g1 rfl) hlt,fun b hb=>by simp[jO] at hb;subst hb;exact aC g1 rfl⟩
       ·exact hl.elim
      ·exact hl.elim
   | _=>exact g2.elim
  ·exact hl.elim
 ·exact hl.elim
end
end Pv
namespace Pv
open Go Tw
theorem eY {m:List MB} {b:Nat} (h:b∈blks m):∃ i,Own m i b:=by
 obtain⟨mb,h1,h2⟩:=List.mem_filterMap.1 h
 obtain⟨i,hi⟩:=List.getElem?_of_mem h1
 exact⟨i,mb,hi,h2⟩
section
variable {X:gZ} {P:Program} {A B:Nat→Prop} {m m1:List MB} {h:List HB} {g:Nat→Option Nat}
theorem dQ:∀ {m:List MB},(∀ i j c,Own m i c→Own m j c→i=j)→(blks m).Nodup
 | [],_=>by simp[blks]
 | x::m,hu=>by
  have ih:(blks m).Nodup:=dQ fun i j c h1 h2=>by
   have:=hu (i+1) (j+1) c (by obtain⟨mb,a,b⟩:=h1;exact⟨mb,by simpa using a,b⟩) (by obtain⟨mb,a,b⟩:=h2;exact⟨mb,by simpa using a,b⟩)
   omega
  unfold blks at ih ⊢
  rw[List.filterMap_cons]
  split
  ·exact ih
  ·rename_i b hb
   refine List.nodup_cons.2 ⟨fun hm=>?_,ih⟩
   obtain⟨i,mb,h1,h2⟩:=eY (m:=m) hm
   have:=hu 0 (i+1) b ⟨x,rfl,hb⟩ ⟨mb,by simpa using h1,h2⟩
   omega
theorem Bv:∀ {ks:List Nat} {i p:Nat},kT ks i=some p→ks[p]? = some i
 | [],i,p,h=>by cases h
 | a::ks,i,p,h=>by
  simp only[kT] at h
  split at h
  ·rename_i e;cases h;simp[e]
  ·simp only[Option.map_eq_some_iff] at h
   obtain⟨q,h1,rfl⟩:=h
   simpa using Bv h1
section
variable {g:Nat→Option Nat} {m1:List MB}
theorem zB (hg:∀ i j,g i=some j→m1[j]? = m[i]?) {B:Nat→Prop} (hA:∀ b,A b→B b) (hX:aT X P) {v:PV X.Γ} {x:TV} (hv:VR X P A m h v x):∀ {w:PV X.Γ},bG g v=some w→VR X P B m1 h w x:=by
 have lists:∀ {vs:List (PV X.Γ)} {xs:List TV},vs.length=xs.length→(∀ (i:Nat) a b,vs[i]? = some a→xs[i]? = some b→∀ {w:PV X.Γ},bG g a=some w→VR X P B m1 h w b)→∀ {ws:List (PV X.Γ)},bG.iC g vs=some ws→ws.length=xs.length∧∀ (i:Nat) a b,ws[i]? = some a→xs[i]? = some b→VR X P B m1 h a b:=by
  intro vs
  induction vs with
  | nil=>
   intro xs hl _ ws hw
   simp only[bG.iC,Option.some.injEq] at hw;subst hw
   exact⟨hl,fun i a b ha=>by simp at ha⟩
  | cons v vs ih=>
   intro xs hl hh ws hw
   cases xs with
   | nil=>simp at hl
   | cons x xs=>
    simp only[bG.iC] at hw
    split at hw
    ·rename_i w ws' h1 h2
     cases hw
     obtain⟨e1,e2⟩:=ih (xs:=xs) (by simpa using hl) (fun i a b ha hb=>hh (i+1) a b (by simpa using ha) (by simpa using hb)) h2
     refine⟨by simp[e1],fun i a b ha hb=>?_⟩
     cases i with
     | zero=>simp only[List.getElem?_cons_zero,Option.some.injEq] at ha hb;subst ha;subst hb;exact hh 0 v x rfl rfl h1
     | succ i=>exact e2 i a b (by simpa using ha) (by simpa using hb)
    ·cases hw
 induction hv with
 | bool=>intro w hw;simp only[bG,Option.some.injEq] at hw;subst hw;exact .bool _
 | lit=>intro w hw;simp only[bG,Option.some.injEq] at hw;subst hw;exact .lit _
 | int=>intro w hw;simp only[bG,Option.some.injEq] at hw;subst hw;exact .int _ _
 | str=>intro w hw;simp only[bG,Option.some.injEq] at hw;subst hw;exact .str _
 | nil=>intro w hw;simp only[bG,Option.some.injEq] at hw;subst hw;exact .nil _
 | ptr e=>intro w hw;simp only[bG,Option.map_eq_some_iff] at hw;obtain⟨j,h1,rfl⟩:=hw;exact .ptr (by rw[hg _ _ h1];exact e)
 | slc e=>intro w hw;simp only[bG,Option.map_eq_some_iff] at hw;obtain⟨j,h1,rfl⟩:=hw;exact .slc (by rw[hg _ _ h1];exact e)
 | own e o=>intro w hw;simp only[bG,Option.map_eq_some_iff] at hw;obtain⟨j,h1,rfl⟩:=hw;exact .own (by rw[hg _ _ h1];exact e) o
 | win e q q' q2=>intro w hw;simp only[bG,Option.map_eq_some_iff] at hw;obtain⟨j,h1,rfl⟩:=hw;exact .win (by rw[hg _ _ h1];exact e) q q' q2
 | nY e=>intro w hw;simp only[bG,Option.map_eq_some_iff] at hw;obtain⟨j,h1,rfl⟩:=hw;exact .nY (by rw[hg _ _ h1];exact e)
 | map e=>intro w hw;simp only[bG,Option.map_eq_some_iff] at hw;obtain⟨j,h1,rfl⟩:=hw;exact .map (by rw[hg _ _ h1];exact e)
 | iter e=>intro w hw;simp only[bG,Option.map_eq_some_iff] at hw;obtain⟨j,h1,rfl⟩:=hw;exact .iter (by rw[hg _ _ h1];exact e)
 | iF e=>intro w hw;simp only[bG,Option.map_eq_some_iff] at hw;obtain⟨j,h1,rfl⟩:=hw;exact .iF (by rw[hg _ _ h1];exact e)
 | row e j q=>intro w hw;simp only[bG,Option.map_eq_some_iff] at hw;obtain⟨j,h1,rfl⟩:=hw;exact .row (by rw[hg _ _ h1];exact e) (by assumption) q
 | fn h1 _ h3 _ i2 i4=>
  intro w hw
  simp only[bG] at hw
  split at hw
  ·rename_i a c ha hc
   cases hw
   obtain⟨e1,e2⟩:=lists h1 i2 ha
   obtain⟨e3,e4⟩:=lists h3 i4 hc
   exact .fn e1 e2 e3 e4
  ·cases hw
 | agg h1 _ i2=>
  intro w hw
  simp only[bG,Option.map_eq_some_iff] at hw
  obtain⟨cs,hc,rfl⟩:=hw
  obtain⟨e1,e2⟩:=lists h1 i2 hc
  exact .agg e1 e2
 | bf h1 _ i2=>
  intro w hw
  simp only[bG,Option.map_eq_some_iff] at hw
  obtain⟨cs,hc,rfl⟩:=hw
  obtain⟨e1,e2⟩:=lists h1 i2 hc
  exact .bf e1 e2
 | jg=>intro w hw;simp only[bG,Option.some.injEq] at hw;subst hw;exact .jg
 | lst a c c2 s z o k f e r _=>intro w hw;simp only[bG,Option.some.injEq] at hw;subst hw;exact .lst (hA _ a) c c2 s z o k f e fun j y i d v h1 h2 h3=>((r j y i d v h1 h2 h3).mono hA).dH hX (aY (hX.dH _ _) h2)
 | el a c l o e q r _=>intro w hw;simp only[bG,Option.some.injEq] at hw;subst hw;exact .el (hA _ a) c l o e q fun i d v h1 h2=>((r i d v h1 h2).mono hA).dH hX (aY (hX.dH _ _) h1)
 | gone i e o=>
  intro w hw
  rename_i v _ x
  have:∃ j,aF w=some j∧pV w x m1[j]?:=by
   cases v<;>simp[aF] at i<;>subst i<;>simp only[bG,Option.map_eq_some_iff] at hw<;>obtain⟨j,h1,rfl⟩:=hw<;>exact⟨j,rfl,by rw[hg _ _ h1];exact e.as fun c=>rfl⟩
  obtain⟨j,h1,h2⟩:=this
  exact .gone h1 h2 o
variable {B:Nat→Prop}
theorem mY (hX:aT X P) (hg:∀ i j,g i=some j→m1[j]? = m[i]?) (hA:∀ b,A b→B b):∀ {vs:List (PV X.Γ)} {xs:List TV} {ws:List (PV X.Γ)},aG X P A m h vs xs→bG.iC g vs=some ws→aG X P B m1 h ws xs
 | [],xs,ws,hv,hw=>by simp only[bG.iC,Option.some.injEq] at hw;subst hw;rw[hv.inv0];exact .nil
 | v::vs,xs,ws,hv,hw=>by
  obtain⟨x,r,rfl,h1,h2⟩:=hv.inv
  simp only[bG.iC] at hw
  split at hw
  ·rename_i w ws' g1 g2
   cases hw
   exact .cons (zB hg hA hX h1 g1) (mY hX hg hA h2 g2)
  ·cases hw
theorem Bz (hX:aT X P) (hg:∀ i j,g i=some j→m1[j]? = m[i]?) (hA:∀ b,A b→B b) {env:List (Nat×PE X.Γ)} {env':List (Nat×EV)} (he:fH X P A m h env env'):∀ {r:List (Nat×PE X.Γ)},iQ g env=some r→fH X P B m1 h r env':=by
 induction he with
 | nil=>intro r h;simp only[iQ,Option.some.injEq] at h;subst h;exact .nil
 | cons h1 h2 ih=>
  rename_i k v x q q'
  intro r hr
  simp only[iQ] at hr
  split at hr
  ·rename_i w r' e1 e2
   cases hr
   refine .cons ?_ (ih e2)
   cases v with
   | val v=>
    obtain⟨y,rfl,h3⟩:=bK h1
    simp only[J8,Option.map_eq_some_iff] at e1
    obtain⟨u,e3,rfl⟩:=e1
    exact iE (zB hg hA hX h3 e3)
   | loc a b=>simp only[J8,Option.some.injEq] at e1;subst e1;rw[qX h1];exact⟨rfl,rfl⟩
   | undef=>simp only[J8,Option.some.injEq] at e1;subst e1;rw[xg h1];trivial
  ·cases hr
theorem qZ (hX:aT X P) (hg:∀ i j,g i=some j→m1[j]? = m[i]?) (hA:∀ b,A b→B b) {b b':PB X.Γ} {mb:MB} (hn:∀ c,mb=.bM c→c∉blks m→c∉blks m1) (hb:BR X P A m h b mb) (hr:mQ g b=some b'):BR X P B m1 h b' mb:=by
 cases b with
 | cells cs=>
  cases mb with
  | blk c=>
   simp only[mQ,Option.map_eq_some_iff] at hr
   obtain⟨cs',h1,rfl⟩:=hr
   obtain⟨xs,h2,h3⟩:=hb
   exact⟨xs,h2,mY hX hg hA h3 h1⟩
  | _=>exact hb.elim
 | eu cs=>
  cases mb with
  | bM c=>
   simp only[mQ,Option.map_eq_some_iff] at hr
   obtain⟨cs',h1,rfl⟩:=hr
   obtain⟨h0,xs,h2,h3⟩:=hb
   exact⟨hn c rfl h0,xs,h2,mY hX hg hA h3 h1⟩
  | _=>exact hb.elim
 | list k ex t l=>
  cases mb with
  | lst y=>
   simp only[mQ,Option.some.injEq] at hr;subst hr
   cases (hb:LR X P A m h k ex t l y) with
   | nil=>exact LR.nil
   | emp p0 p1 p2 p3 p4=>exact LR.emp (hA _ p0) p1 p2 p3 p4
   | some p1 p2 p3 p4 p5 p6 p7 p8 p9=>exact LR.some p1 p2 p3 p4 p5 p6 p7 p8 ((p9.mono hA).dH hX)
  | _=>exact hb.elim
 | map es=>
  cases mb with
  | blk c=>
   simp only[mQ,Option.some.injEq] at hr;subst hr;exact hb
  | _=>exact hb.elim
 | oH cs=>
  cases mb with
  | blk c=>
   simp only[mQ,Option.some.injEq] at hr;subst hr;exact hb
  | _=>exact hb.elim
 | rP es=>
  cases mb with
  | bM c=>
   simp only[mQ,Option.some.injEq] at hr;subst hr
   exact⟨hn c rfl hb.1,hb.2⟩
  | _=>exact hb.elim
 | aV r n seen=>
  cases mb with
  | blk b=>
   simp only[mQ,Option.map_eq_some_iff] at hr
   obtain⟨j,h1,rfl⟩:=hr
   obtain⟨c,h2,h3,h4⟩:=hb
   exact⟨c,h2,by rw[hg _ _ h1];exact h3,fun c' hc=>h4 c' (by rw[←hg _ _ h1];exact hc)⟩
  | _=>exact hb.elim
 | mark=>
  cases mb with
  | blk c=>simp only[mQ,Option.some.injEq] at hr;subst hr;exact hb
  | _=>exact hb.elim
 | loop rd f nt env ps a c pend=>
  cases mb with
  | blk cb=>
   simp only[mQ,Option.map_eq_some_iff] at hr
   obtain⟨a5R,h1,rfl⟩:=hr
   obtain⟨xs,h2,h3⟩:=hb
   exact⟨xs,h2,Bz hX hg hA h3 h1⟩
  | _=>exact hb.elim
 | gone=>
  cases mb with
  | gone=>simp only[mQ,Option.some.injEq] at hr;subst hr;trivial
  | _=>exact hb.elim
theorem jB:∀ {bs r:List (PB X.Γ)},gJ g bs=some r→r.length=bs.length∧∀ {i:Nat} {b':PB X.Γ},r[i]? = some b'→∃ b,bs[i]? = some b∧mQ g b=some b'
 | [],r,h=>by simp only[gJ,Option.some.injEq] at h;subst h;exact⟨rfl,fun {i b'} hi=>by simp at hi⟩
 | b::bs,r,h=>by
  simp only[gJ] at h
  split at h
  ·rename_i c cs h1 h2
   cases h
   obtain⟨e1,e2⟩:=jB h2
   refine⟨by simp[e1],fun {i b'} hi=>?_⟩
   cases i with
   | zero=>simp only[List.getElem?_cons_zero,Option.some.injEq] at hi;subst hi;exact⟨b,rfl,h1⟩
   | succ i=>obtain⟨d,q1,q2⟩:=e2 (i:=i) (by simpa using hi);exact⟨d,by simpa using q1,q2⟩
  ·cases h
theorem BA:∀ {bs r:List (List (PV X.Γ))},Gm g bs=some r→r.length=bs.length∧∀ {i:Nat} {b':List (PV X.Γ)},r[i]? = some b'→∃ b,bs[i]? = some b∧bG.iC g b=some b'
 | [],r,h=>by simp only[Gm,Option.some.injEq] at h;subst h;exact⟨rfl,fun {i b'} hi=>by simp at hi⟩
 | b::bs,r,h=>by
  simp only[Gm] at h
  split at h
  ·rename_i c cs h1 h2
   cases h
   obtain⟨e1,e2⟩:=BA h2
   refine⟨by simp[e1],fun {i b'} hi=>?_⟩
   cases i with
   | zero=>simp only[List.getElem?_cons_zero,Option.some.injEq] at hi;subst hi;exact⟨b,rfl,h1⟩
   | succ i=>obtain⟨d,q1,q2⟩:=e2 (i:=i) (by simpa using hi);exact⟨d,by simpa using q1,q2⟩
  ·cases h
theorem ru:∀ {ks:List Nat} {H r:List (PB X.Γ)},pR H ks=some r→r.length=ks.length∧∀ {i k:Nat},ks[i]? = some k→∃ b,H[k]? = some b∧r[i]? = some b
 | [],H,r,h=>by simp only[pR,Option.some.injEq] at h;subst h;exact⟨rfl,fun {i k} hi=>by simp at hi⟩
 | k::ks,H,r,h=>by
  simp only[pR] at h
  split at h
  ·rename_i b rs h1 h2
   cases h
   obtain⟨e1,e2⟩:=ru h2
   refine⟨by simp[e1],fun {i j} hi=>?_⟩
   cases i with
   | zero=>simp only[List.getElem?_cons_zero,Option.some.injEq] at hi;subst hi;exact⟨b,h1,rfl⟩
   | succ i=>obtain⟨d,q1,q2⟩:=e2 (i:=i) (k:=j) (by simpa using hi);exact⟨d,q1,by simpa using q2⟩
  ·cases h
end
theorem jC {α:Type}:∀ {ks:List Nat} {bs l:List α},(putAt ks bs l).length=l.length
 | [],_,_=>rfl
 | _::_,[],_=>rfl
 | k::ks,b::bs,l=>by simp only[putAt];rw[jC,List.length_set]
theorem BD {α:Type}:∀ {ks:List Nat} {bs l:List α} {p i:Nat},ks.Nodup→(∀ k∈ks,k<l.length)→ks.length≤bs.length→ks[p]? = some i→(putAt ks bs l)[i]? = bs[p]?
 | [],_,_,p,i,_,_,_,h=>by simp at h
 | a::ks,[],_,_,_,_,_,hl,_=>by simp at hl
 | a::ks,b::bs,l,0,i,hn,hk,hl,h=>by
  simp only[List.getElem?_cons_zero,Option.some.injEq] at h
  subst h
  have hn:=List.nodup_cons.1 hn
  simp only[putAt]
  have:∀ {ks:List Nat} {bs l:List α} {i:Nat},i∉ks→(putAt ks bs l)[i]? = l[i]?:=by
   intro ks
   induction ks with
   | nil=>intro bs l i _;rfl
   | cons c ks ih=>
    intro bs l i hi
    simp only[List.mem_cons,not_or] at hi
    cases bs with
    | nil=>rfl
    | cons b bs=>simp only[putAt];rw[ih hi.2,List.getElem?_set_ne (fun e=>hi.1 e.symm)]
  rw[this hn.1,List.getElem?_set_self (hk a (List.mem_cons_self ..))];rfl
 | a::ks,b::bs,l,p+1,i,hn,hk,hl,h=>by
  simp only[List.getElem?_cons_succ] at h
  simp only[putAt]
  rw[BD (List.nodup_cons.1 hn).2 (fun k hk'=>by rw[List.length_set];exact hk k (List.mem_cons_of_mem _ hk')) (by simpa using hl) h]
  rfl
theorem xq {α:Type}:∀ {ks:List Nat} {bs l:List α} {i:Nat},i∉ks→(putAt ks bs l)[i]? = l[i]?
 | [],_,_,_,_=>rfl
 | a::ks,[],_,_,_=>rfl
 | a::ks,b::bs,l,i,hi=>by
  simp only[List.mem_cons,not_or] at hi
  simp only[putAt];rw[xq hi.2,List.getElem?_set_ne (fun e=>hi.1 e.symm)]
def Gz (X:gZ) (P:Program) (call:ay) (fv:PV X.Γ) (xs:List (PV X.Γ)) (H:List (PB X.Γ)) (v:PV X.Γ) (H1:List (PB X.Γ)) (W:Nat→Prop):Prop:=
 ∀ (A:Nat→Prop) (m:List MB) (h:List HB) (tf:TV) (kY:List TV),HR X P A m H h→VR X P (AA A m) m h fv tf→aG X P (AA A m) m h xs kY →
  ∃ w h1 ws m1,call tf kY h=some (w,h1,ws)∧HR X P A m1 H1 h1∧VR X P (AA A m1) m1 h1 v w∧Fr m h m1 h1∧Up m m1∧∀ b∈ws,∃ k,W k∧Own m k b
theorem nH.w {call:ay} {fv v:PV X.Γ} {xs:List (PV X.Γ)} {H H1:List (PB X.Γ)} (h:nH X P call fv xs H v H1):Gz X P call fv xs H v H1 fun _=>True:=fun A m h0 tf kY a b c=>by
 obtain⟨w,h1,ws,m1,c1,c2,c3,c4,c5,c6⟩:=h A m h0 tf kY a b c
 exact⟨w,h1,ws,m1,c1,c2,c3,c4,c5,fun b hb=>by obtain⟨i,hi⟩:=eY (c6 b hb);exact⟨i,trivial,hi⟩⟩
theorem zC:∀ {H:List (PB X.Γ)} {i:Nat} {b:PB X.Γ},wZ H=true→H[i]? = some b→wZ [b]=true
 | [],_,_,_,h=>by simp at h
 | a::H,0,b,hn,h=>by
  simp only[List.getElem?_cons_zero,Option.some.injEq] at h;subst h
  cases a<;>simp_all [wZ]
 | a::H,i+1,b,hn,h=>by
  have hn2:wZ H=true:=by cases a<;>simp_all [wZ]
  exact zC hn2 (by simpa using h)
def UU (m m':List MB):Prop:=∀ i:Nat,m'[i]? = m[i]?∨(∃ c,m[i]? = some (.blk c)∧m'[i]? = some (.bM c))∨∃ c,m[i]? = some (.bM c)∧m'[i]? = some (.blk c)
section
variable {m':List MB}
theorem VR.sw (hm:UU m m') (hA:∀ b,A b→B b) {v:PV X.Γ} {x:TV} (hv:VR X P A m h v x):VR X P B m' h v x:=by
 have hl:∀ {i:Nat} {x:TV},m[i]? = some (.lst x)→m'[i]? = some (.lst x):=fun {i x} e=>by
  rcases hm i with g | ⟨c,g,_⟩ | ⟨c,g,_⟩
  ·rw[g,e]
  ·rw[e] at g;cases g
  ·rw[e] at g;cases g
 have hb:∀ {i c:Nat},m[i]? = some (.blk c)→m'[i]? = some (.blk c)∨m'[i]? = some (.bM c):=fun {i c} e=>by
  rcases hm i with g | ⟨c',g,g2⟩ | ⟨c',g,_⟩
  ·exact .inl (by rw[g,e])
  ·rw[e] at g;cases g;exact .inr g2
  ·rw[e] at g;cases g
 induction hv with
 | bool=>exact .bool _
 | lit=>exact .lit _
 | int=>exact .int _ _
 | str=>exact .str _
 | nil=>exact .nil _
 | ptr e=>rcases hb e with e | e;exact .ptr e;exact .gone rfl (.RH e rfl) rfl
 | slc e=>rcases hb e with e | e;exact .slc e;exact .gone rfl (.RH e rfl) rfl
 | own e o=>exact .own (hl e) o
 | win e q q' q2=>exact .win (hl e) q q' q2
 | nY e=>exact .nY (hl e)
 | map e=>rcases hb e with e | e;exact .map e;exact .gone rfl (.RH e rfl) rfl
 | iter e=>rcases hb e with e | e;exact .iter e;exact .gone rfl (.RH e rfl) rfl
 | fn h1 _ h3 _ i2 i4=>exact .fn h1 i2 h3 i4
 | iF e=>rcases hb e with e | e;exact .iF e;exact .gone rfl (.RH e rfl) rfl
 | agg h1 _ i2=>exact .agg h1 i2
 | bf h1 _ i2=>exact .bf h1 i2
 | jg=>exact .jg
 | lst a c c2 s z o k f e _ ih=>exact .lst (hA _ a) c c2 s z o k f e ih
 | el a c l o e q _ ih=>exact .el (hA _ a) c l o e q ih
 | row e j q=>exact .row (hl e) j q
 | @gone v i x hi e o=>
  generalize hq:m[i]? = q at e
  cases e with
  | g=>
   rcases hm i with g | ⟨c,g,_⟩ | ⟨c,g,_⟩
   ·exact .gone hi (.of (by rw[g,hq])) o
   ·rw[hq] at g;cases g
   ·rw[hq] at g;cases g
  | r c hv=>
   rcases hm i with g | ⟨c',g,_⟩ | ⟨c',g,g2⟩
   ·exact .gone hi (.RH (by rw[g,hq]) hv) o
   ·rw[hq] at g;cases g
   ·rw[hq] at g;cases g
    cases v<;>simp only[SL,Option.some.injEq] at hv<;>first | cases hv;done | skip
    all_goals (subst hv;simp only[aF,Option.some.injEq] at hi;subst hi)
    ·exact .ptr g2
    ·exact .slc g2
    ·exact .map g2
    ·exact .iF g2
    ·exact .iter g2
theorem aG.sw (hm:UU m m') (hA:∀ b,A b→B b) {v:List (PV X.Γ)} {x:List TV} (hv:aG X P A m h v x):aG X P B m' h v x:=
 ⟨hv.1,fun i a b ha hb=>(hv.2 i a b ha hb).sw hm hA⟩
theorem fH.sw (hm:UU m m') (hA:∀ b,A b→B b) {v:List (Nat×PE X.Γ)} {x:List (Nat×EV)} (hv:fH X P A m h v x):fH X P B m' h v x:=by
 induction hv with
 | nil=>exact .nil
 | cons h1 _ ih=>
  refine .cons ?_ ih
  rename_i v x _ _ _
  cases v<;>cases x<;>first | exact VR.sw hm hA h1 | exact h1
theorem BR.sw (hm:UU m m') (hA:∀ b,A b→B b) {b:PB X.Γ} {mb:MB} (hn:∀ c,mb=.bM c→c∉blks m→c∉blks m') (hb:BR X P A m h b mb):BR X P B m' h b mb:=by
 cases b with
 | cells cs=>cases mb with
  | blk b=>obtain⟨cs',h1,h2⟩:=hb;exact⟨cs',h1,h2.sw hm hA⟩
  | _=>exact hb.elim
 | eu cs=>cases mb with
  | bM b=>obtain⟨h0,cs',h1,h2⟩:=hb;exact⟨hn b rfl h0,cs',h1,h2.sw hm hA⟩
  | _=>exact hb.elim
 | list k ex t l=>cases mb with
  | lst x=>
   cases (hb:LR X P A m h k ex t l x) with
   | nil=>exact LR.nil
   | emp h0 h1 h2 h3 h4=>exact LR.emp (hA _ h0) h1 h2 h3 h4
   | some h1 h2 h3 h4 h5 h6 h7 h8 h9=>exact LR.some h1 h2 h3 h4 h5 h6 h7 h8 ⟨h9.1,h9.2.1,fun j a i c v a1 a2 a3=>(h9.2.2 j a i c v a1 a2 a3).sw hm hA⟩
  | _=>exact hb.elim
 | map es=>cases mb with
  | blk b=>exact hb
  | _=>exact hb.elim
 | oH cs=>cases mb with
  | blk b=>exact hb
  | _=>exact hb.elim
 | rP es=>cases mb with
  | bM b=>exact⟨hn b rfl hb.1,hb.2⟩
  | _=>exact hb.elim
 | aV r n seen=>cases mb with
  | blk b=>
   obtain⟨c,h1,h2,h3⟩:=hb
   refine⟨c,h1,?_,fun c' hc=>?_⟩
   ·rcases hm r with g | ⟨c',g,g2⟩ | ⟨c',g,g2⟩
    ·rw[g];exact h2
    ·rw[g2];rfl
    ·rw[g2];rfl
   ·rcases hm r with g | ⟨c2,g,g2⟩ | ⟨c2,g,g2⟩
    ·exact h3 c' (by rw[←g];exact hc)
    ·rw[g2] at hc;simp at hc;subst hc;exact h3 c2 (.inl g)
    ·rw[g2] at hc;simp at hc;subst hc;exact h3 c2 (.inr g)
  | _=>exact hb.elim
 | mark=>cases mb with
  | blk b=>exact hb
  | _=>exact hb.elim
 | loop rd f nt env ps a c pend=>cases mb with
  | blk b=>obtain⟨e',h1,h2⟩:=hb;exact⟨e',h1,h2.sw hm hA⟩
  | _=>exact hb.elim
 | gone=>cases mb with
  | gone=>trivial
  | _=>exact hb.elim
end
theorem VY {call:ay} {fv v:PV X.Γ} {xs:List (PV X.Γ)} {H H1:List (PB X.Γ)} {W:Nat→Prop} {r:Nat} {cs cs1:List (PV X.Γ)} (h0:H[r]? = some (.cells cs)) (h9:H1[r]? = some (.cells cs1)) (hro:wZ (H1.drop H.length)=true)
  (hs:Gz X P call fv xs (H.set r (.eu cs)) v (H1.set r (.eu cs1)) W):Gz X P call fv xs H v H1 fun k=>W k∧k≠r:=fun A m h tf kY hr hf hx=>by
 obtain⟨mb0,q1,q2⟩:=hr.at_ r _ h0
 have hrl:r<H.length:=(List.getElem?_eq_some_iff.1 h0).1
 have hrm:r<m.length:=by rw[hr.len];exact hrl
 cases mb0 with
 | blk c=>
  obtain⟨cs',q3,q4⟩:=q2
  have hcm:c∈blks m:=aC q1 rfl
  have hch:=(List.getElem?_eq_some_iff.1 q3).1
  have hm:UU m (m.set r (.bM c)):=fun i=>by
   by_cases e:i=r
   ·subst e;exact .inr (.inl ⟨c,q1,by rw[List.getElem?_set_self hrm]⟩)
   ·exact .inl (by rw[List.getElem?_set_ne (fun h=>e h.symm)])
  have old:∀ {i b:Nat},Own (m.set r (.bM c)) i b→i≠r∧Own m i b:=fun {i b} ho=>by
   obtain⟨mb,a1,a2⟩:=ho
   by_cases e:i=r
   ·subst e;rw[List.getElem?_set_self hrm] at a1;cases a1;cases a2
   ·rw[List.getElem?_set_ne (fun h=>e h.symm)] at a1;exact⟨e,mb,a1,a2⟩
  have hsub:∀ b,b∈blks (m.set r (.bM c))→b∈blks m∧b≠c:=fun b hb=>by
   obtain⟨i,hi⟩:=eY hb
   obtain⟨e,mb,a1,a2⟩:=old hi
   refine⟨aC a1 a2,fun e2=>?_⟩
   subst e2
   exact e (dw hr.nodup a1 q1 a2 rfl)
  have hA:∀ b,AA A m b→AA (fun b=>A b∧b≠c) (m.set r (.bM c)) b:=fun b hb=>⟨⟨hb.1,fun e=>hb.2 (e▸hcm)⟩,fun h=>hb.2 (hsub b h).1⟩
  have hr2:HR X P (fun b=>A b∧b≠c) (m.set r (.bM c)) (H.set r (.eu cs)) h:=by
   refine⟨by simp[hr.len],fun i b hi=>?_,dQ fun i j d a1 a2=>?_,fun b hb=>⟨hr.up b hb,by omega⟩,fun b hb=>⟨hr.uS b (hsub b hb).1,(hsub b hb).2⟩⟩
   ·by_cases e:i=r
    ·subst e
     rw[List.getElem?_set_self hrl] at hi;cases hi
     exact⟨.bM c,by rw[List.getElem?_set_self hrm],fun h=>(hsub c h).2 rfl,cs',q3,q4.sw hm hA⟩
    ·rw[List.getElem?_set_ne (fun h=>e h.symm)] at hi
     obtain⟨mb,g1,g2⟩:=hr.at_ i b hi
     exact⟨mb,by rw[List.getElem?_set_ne (fun h=>e h.symm)];exact g1,g2.sw hm hA fun d _ hn h=>hn (hsub d h).1⟩
   ·obtain⟨_,ma,u1,u2⟩:=old a1
    obtain⟨_,mc,v1,v2⟩:=old a2
    exact dw hr.nodup u1 v1 u2 v2
  obtain⟨w,h1,ws,m1,c1,c2,c3,c4,c5,c6⟩:=hs (fun b=>A b∧b≠c) (m.set r (.bM c)) h tf kY hr2 (hf.sw hm hA) (hx.sw hm hA)
  ·have VZ:r<H1.length:=(List.getElem?_eq_some_iff.1 h9).1
   obtain⟨mb1,e1,e2⟩:=c2.at_ r (.eu cs1) (by rw[List.getElem?_set_self VZ])
   have e3:=c5 r (.bM c) (by rw[List.getElem?_set_self hrm])
   have e4:mb1=.bM c:=by
    rcases e3 with e3 | e3<;>rw[e1] at e3<;>cases e3
    ·rfl
    ·exact e2.elim
   subst e4
   obtain⟨p0,cs2,p1,p2⟩:=e2
   have hrm1:r<m1.length:=(List.getElem?_eq_some_iff.1 e1).1
   have hm1:UU m1 (m1.set r (.blk c)):=fun i=>by
    by_cases e:i=r
    ·subst e;exact .inr (.inr ⟨c,e1,by rw[List.getElem?_set_self hrm1]⟩)
    ·exact .inl (by rw[List.getElem?_set_ne (fun h=>e h.symm)])
   have PG:∀ {i:Nat} {mb:MB},i≠r→(m1.set r (.blk c))[i]? = some mb→m1[i]? = some mb:=fun {i mb} e h=>by rw[List.getElem?_set_ne (fun h=>e h.symm)] at h;exact h
   have hb1:∀ b,b∈blks (m1.set r (.blk c))→b=c∨b∈blks m1:=fun b hb=>by
    obtain⟨i,mb,a1,a2⟩:=eY hb
    by_cases e:i=r
    ·subst e;rw[List.getElem?_set_self hrm1] at a1;cases a1;cases a2;exact .inl rfl
    ·exact .inr (aC (PG e a1) a2)
   have hA1:∀ b,AA (fun b=>A b∧b≠c) m1 b→AA A (m1.set r (.blk c)) b:=fun b hb=>⟨hb.1.1,fun h=>by
    rcases hb1 b h with e | e
    ·exact hb.1.2 e
    ·exact hb.2 e⟩
   refine⟨w,h1,ws,m1.set r (.blk c),c1,⟨by rw[List.length_set,c2.len,List.length_set],fun i b hi=>?_,dQ fun i j d a1 a2=>?_,fun b hb=>(c2.up b hb).1,fun b hb=>?_⟩,c3.sw hm1 hA1,⟨c4.len,fun b hb hn=>c4.same b hb fun h=>hn (hsub b h).1,fun b hb=>?_,c4.grow⟩,fun i mb hi=>?_,fun b hb=>?_⟩
   ·by_cases e:i=r
    ·subst e
     rw[h9] at hi;cases hi
     exact⟨.blk c,by rw[List.getElem?_set_self hrm1],cs2,p1,p2.sw hm1 hA1⟩
    ·obtain⟨mb,g1,g2⟩:=c2.at_ i b (by rw[List.getElem?_set_ne (fun h=>e h.symm)];exact hi)
     refine⟨mb,by rw[List.getElem?_set_ne (fun h=>e h.symm)];exact g1,g2.sw hm1 hA1 fun d hd hn hd2=>?_⟩
     subst hd
     rcases hb1 d hd2 with e5 | e5
     ·subst e5
      rcases Nat.lt_or_ge i m.length with hlt | hge
      ·have hi2:(m.set r (.bM d))[i]? = m[i]?:=by rw[List.getElem?_set_ne (fun h=>e h.symm)]
       have hmi:m[i]? = some (.bM d):=by
        rcases c5 i m[i] (by rw[hi2];exact List.getElem?_eq_getElem hlt) with e6 | e6<;>rw[g1] at e6<;>simp only[Option.some.injEq] at e6
        ·rw[List.getElem?_eq_getElem hlt,←e6]
        ·cases e6
       have hlH:i<H.length:=by rw[←hr.len];exact hlt
       obtain⟨mb9,e7,e8⟩:=hr.at_ i _ (List.getElem?_eq_getElem hlH)
       rw[hmi] at e7;cases e7
       generalize H[i]=b9 at e8
       cases b9<;>first | exact e8.elim | exact e8.1 hcm
      ·have e6:(H1.drop H.length)[i-H.length]? = some b:=by rw[List.getElem?_drop,←hi];congr 1;rw[hr.len] at hge;omega
       have e7:=zC hro e6
       cases b<;>first | exact g2.elim | cases e7
     ·exact hn e5
   ·obtain⟨ma,u1,u2⟩:=a1
    obtain⟨mc,v1,v2⟩:=a2
    by_cases e:i=r<;>by_cases e':j=r
    ·rw[e,e']
    ·subst e
     rw[List.getElem?_set_self hrm1] at u1;cases u1;cases u2
     exact absurd (aC (PG e' v1) v2) p0
    ·subst e'
     rw[List.getElem?_set_self hrm1] at v1;cases v1;cases v2
     exact absurd (aC (PG e u1) u2) p0
    ·exact dw c2.nodup (PG e u1) (PG e' v1) u2 v2
   ·rcases hb1 b hb with e | e
    ·subst e;exact hr.uS _ hcm
    ·exact (c2.uS b e).1
   ·rcases hb1 b hb with e | e
    ·subst e;exact .inl hcm
    ·rcases c4.new b e with g | g
     ·exact .inl (hsub b g).1
     ·exact .inr g
   ·by_cases e:i=r
    ·subst e;rw[q1] at hi;cases hi;exact .inl (by rw[List.getElem?_set_self hrm1])
    ·rw[List.getElem?_set_ne (fun h=>e h.symm)]
     exact c5 i mb (by rw[List.getElem?_set_ne (fun h=>e h.symm)];exact hi)
   ·obtain⟨k,k1,k2⟩:=c6 b hb
    obtain⟨k3,k4⟩:=old k2
    exact⟨k,⟨k1,k3⟩,k4⟩
 | _=>exact q2.elim
theorem Td {call:ay} {fv v:PV X.Γ} {xs:List (PV X.Γ)} {H H1:List (PB X.Γ)} {W:Nat→Prop} {r:Nat} {es es1:List (PV X.Γ×PV X.Γ)} (h0:H[r]? = some (.map es)) (h9:H1[r]? = some (.map es1)) (hro:wZ (H1.drop H.length)=true)
  (hs:Gz X P call fv xs (H.set r (.rP es)) v (H1.set r (.rP es1)) W):Gz X P call fv xs H v H1 fun k=>W k∧k≠r:=fun A m h tf kY hr hf hx=>by
 obtain⟨mb0,q1,q2⟩:=hr.at_ r _ h0
 have hrl:r<H.length:=(List.getElem?_eq_some_iff.1 h0).1
 have hrm:r<m.length:=by rw[hr.len];exact hrl
 cases mb0 with
 | blk c=>
  obtain⟨cs',q3,q4⟩:=q2
  have hcm:c∈blks m:=aC q1 rfl
  have hch:=(List.getElem?_eq_some_iff.1 q3).1
  have hm:UU m (m.set r (.bM c)):=fun i=>by
   by_cases e:i=r
   ·subst e;exact .inr (.inl ⟨c,q1,by rw[List.getElem?_set_self hrm]⟩)
   ·exact .inl (by rw[List.getElem?_set_ne (fun h=>e h.symm)])
  have old:∀ {i b:Nat},Own (m.set r (.bM c)) i b→i≠r∧Own m i b:=fun {i b} ho=>by
   obtain⟨mb,a1,a2⟩:=ho
   by_cases e:i=r
   ·subst e;rw[List.getElem?_set_self hrm] at a1;cases a1;cases a2
   ·rw[List.getElem?_set_ne (fun h=>e h.symm)] at a1;exact⟨e,mb,a1,a2⟩
  have hsub:∀ b,b∈blks (m.set r (.bM c))→b∈blks m∧b≠c:=fun b hb=>by
   obtain⟨i,hi⟩:=eY hb
   obtain⟨e,mb,a1,a2⟩:=old hi
   refine⟨aC a1 a2,fun e2=>?_⟩
   subst e2
   exact e (dw hr.nodup a1 q1 a2 rfl)
  have hA:∀ b,AA A m b→AA (fun b=>A b∧b≠c) (m.set r (.bM c)) b:=fun b hb=>⟨⟨hb.1,fun e=>hb.2 (e▸hcm)⟩,fun h=>hb.2 (hsub b h).1⟩
  have hr2:HR X P (fun b=>A b∧b≠c) (m.set r (.bM c)) (H.set r (.rP es)) h:=by
   refine⟨by simp[hr.len],fun i b hi=>?_,dQ fun i j d a1 a2=>?_,fun b hb=>⟨hr.up b hb,by omega⟩,fun b hb=>⟨hr.uS b (hsub b hb).1,(hsub b hb).2⟩⟩
   ·by_cases e:i=r
    ·subst e
     rw[List.getElem?_set_self hrl] at hi;cases hi
     exact⟨.bM c,by rw[List.getElem?_set_self hrm],fun h=>(hsub c h).2 rfl,cs',q3,q4⟩
    ·rw[List.getElem?_set_ne (fun h=>e h.symm)] at hi
     obtain⟨mb,g1,g2⟩:=hr.at_ i b hi
     exact⟨mb,by rw[List.getElem?_set_ne (fun h=>e h.symm)];exact g1,g2.sw hm hA fun d _ hn h=>hn (hsub d h).1⟩
   ·obtain⟨_,ma,u1,u2⟩:=old a1
    obtain⟨_,mc,v1,v2⟩:=old a2
    exact dw hr.nodup u1 v1 u2 v2
  obtain⟨w,h1,ws,m1,c1,c2,c3,c4,c5,c6⟩:=hs (fun b=>A b∧b≠c) (m.set r (.bM c)) h tf kY hr2 (hf.sw hm hA) (hx.sw hm hA)
  ·have VZ:r<H1.length:=(List.getElem?_eq_some_iff.1 h9).1
   obtain⟨mb1,e1,e2⟩:=c2.at_ r (.rP es1) (by rw[List.getElem?_set_self VZ])
   have e3:=c5 r (.bM c) (by rw[List.getElem?_set_self hrm])
   have e4:mb1=.bM c:=by
    rcases e3 with e3 | e3<;>rw[e1] at e3<;>cases e3
    ·rfl
    ·exact e2.elim
   subst e4
   obtain⟨p0,cs2,p1,p2⟩:=e2
   have hrm1:r<m1.length:=(List.getElem?_eq_some_iff.1 e1).1
   have hm1:UU m1 (m1.set r (.blk c)):=fun i=>by
    by_cases e:i=r
    ·subst e;exact .inr (.inr ⟨c,e1,by rw[List.getElem?_set_self hrm1]⟩)
    ·exact .inl (by rw[List.getElem?_set_ne (fun h=>e h.symm)])
   have PG:∀ {i:Nat} {mb:MB},i≠r→(m1.set r (.blk c))[i]? = some mb→m1[i]? = some mb:=fun {i mb} e h=>by rw[List.getElem?_set_ne (fun h=>e h.symm)] at h;exact h
   have hb1:∀ b,b∈blks (m1.set r (.blk c))→b=c∨b∈blks m1:=fun b hb=>by
    obtain⟨i,mb,a1,a2⟩:=eY hb
    by_cases e:i=r
    ·subst e;rw[List.getElem?_set_self hrm1] at a1;cases a1;cases a2;exact .inl rfl
    ·exact .inr (aC (PG e a1) a2)
   have hA1:∀ b,AA (fun b=>A b∧b≠c) m1 b→AA A (m1.set r (.blk c)) b:=fun b hb=>⟨hb.1.1,fun h=>by
    rcases hb1 b h with e | e
    ·exact hb.1.2 e
    ·exact hb.2 e⟩
   refine⟨w,h1,ws,m1.set r (.blk c),c1,⟨by rw[List.length_set,c2.len,List.length_set],fun i b hi=>?_,dQ fun i j d a1 a2=>?_,fun b hb=>(c2.up b hb).1,fun b hb=>?_⟩,c3.sw hm1 hA1,⟨c4.len,fun b hb hn=>c4.same b hb fun h=>hn (hsub b h).1,fun b hb=>?_,c4.grow⟩,fun i mb hi=>?_,fun b hb=>?_⟩
   ·by_cases e:i=r
    ·subst e
     rw[h9] at hi;cases hi
     exact⟨.blk c,by rw[List.getElem?_set_self hrm1],cs2,p1,p2⟩
    ·obtain⟨mb,g1,g2⟩:=c2.at_ i b (by rw[List.getElem?_set_ne (fun h=>e h.symm)];exact hi)
     refine⟨mb,by rw[List.getElem?_set_ne (fun h=>e h.symm)];exact g1,g2.sw hm1 hA1 fun d hd hn hd2=>?_⟩
     subst hd
     rcases hb1 d hd2 with e5 | e5
     ·subst e5
      rcases Nat.lt_or_ge i m.length with hlt | hge
      ·have hi2:(m.set r (.bM d))[i]? = m[i]?:=by rw[List.getElem?_set_ne (fun h=>e h.symm)]
       have hmi:m[i]? = some (.bM d):=by
        rcases c5 i m[i] (by rw[hi2];exact List.getElem?_eq_getElem hlt) with e6 | e6<;>rw[g1] at e6<;>simp only[Option.some.injEq] at e6
        ·rw[List.getElem?_eq_getElem hlt,←e6]
        ·cases e6
       have hlH:i<H.length:=by rw[←hr.len];exact hlt
       obtain⟨mb9,e7,e8⟩:=hr.at_ i _ (List.getElem?_eq_getElem hlH)
       rw[hmi] at e7;cases e7
       generalize H[i]=b9 at e8
       cases b9<;>first | exact e8.elim | exact e8.1 hcm
      ·have e6:(H1.drop H.length)[i-H.length]? = some b:=by rw[List.getElem?_drop,←hi];congr 1;rw[hr.len] at hge;omega
       have e7:=zC hro e6
       cases b<;>first | exact g2.elim | cases e7
     ·exact hn e5
   ·obtain⟨ma,u1,u2⟩:=a1
    obtain⟨mc,v1,v2⟩:=a2
    by_cases e:i=r<;>by_cases e':j=r
    ·rw[e,e']
    ·subst e
     rw[List.getElem?_set_self hrm1] at u1;cases u1;cases u2
     exact absurd (aC (PG e' v1) v2) p0
    ·subst e'
     rw[List.getElem?_set_self hrm1] at v1;cases v1;cases v2
     exact absurd (aC (PG e u1) u2) p0
    ·exact dw c2.nodup (PG e u1) (PG e' v1) u2 v2
   ·rcases hb1 b hb with e | e
    ·subst e;exact hr.uS _ hcm
    ·exact (c2.uS b e).1
   ·rcases hb1 b hb with e | e
    ·subst e;exact .inl hcm
    ·rcases c4.new b e with g | g
     ·exact .inl (hsub b g).1
     ·exact .inr g
   ·by_cases e:i=r
    ·subst e;rw[q1] at hi;cases hi;exact .inl (by rw[List.getElem?_set_self hrm1])
    ·rw[List.getElem?_set_ne (fun h=>e h.symm)]
     exact c5 i mb (by rw[List.getElem?_set_ne (fun h=>e h.symm)];exact hi)
   ·obtain⟨k,k1,k2⟩:=c6 b hb
    obtain⟨k3,k4⟩:=old k2
    exact⟨k,⟨k1,k3⟩,k4⟩
 | _=>exact q2.elim
theorem Ji {call:ay} {fv v:PV X.Γ} {xs:List (PV X.Γ)} {W:Nat→Prop}:∀ {rs:List Nat} {H H1 Hr Ht:List (PB X.Γ)},XH rs H H1=some (Hr,Ht)→wZ (H1.drop H.length)=true→Gz X P call fv xs Hr v Ht W→Gz X P call fv xs H v H1 fun k=>W k∧k∉rs
 | [],H,H1,Hr,Ht,h1,hn,hs=>by
  simp only[XH,Option.some.injEq,Prod.mk.injEq] at h1
  obtain⟨rfl,rfl⟩:=h1
  intro A m h tf kY a b c
  obtain⟨w,h1,ws,m1,c1,c2,c3,c4,c5,c6⟩:=hs A m h tf kY a b c
  exact⟨w,h1,ws,m1,c1,c2,c3,c4,c5,fun b hb=>by obtain⟨k,k1,k2⟩:=c6 b hb;exact⟨k,⟨k1,by simp⟩,k2⟩⟩
 | r::rs,H,H1,Hr,Ht,h1,hn,hs=>by
  simp only[XH] at h1
  split at h1
  ·rename_i cs cs1 e1 e2
   have hlt:r<H.length:=(List.getElem?_eq_some_iff.1 e1).1
   have:=VY e1 e2 hn (Ji h1 (by rw[List.length_set,List.drop_set_of_lt hlt];exact hn) hs)
   intro A m h tf kY a b c
   obtain⟨w,h1,ws,m1,c1,c2,c3,c4,c5,c6⟩:=this A m h tf kY a b c
   exact⟨w,h1,ws,m1,c1,c2,c3,c4,c5,fun b hb=>by obtain⟨k,⟨⟨k1,k3⟩,k4⟩,k2⟩:=c6 b hb;exact⟨k,⟨k1,by simp[k3,k4]⟩,k2⟩⟩
  ·rename_i cs cs1 e1 e2
   have hlt:r<H.length:=(List.getElem?_eq_some_iff.1 e1).1
   have:=Td e1 e2 hn (Ji h1 (by rw[List.length_set,List.drop_set_of_lt hlt];exact hn) hs)
   intro A m h tf kY a b c
   obtain⟨w,h1,ws,m1,c1,c2,c3,c4,c5,c6⟩:=this A m h tf kY a b c
   exact⟨w,h1,ws,m1,c1,c2,c3,c4,c5,fun b hb=>by obtain⟨k,⟨⟨k1,k3⟩,k4⟩,k2⟩:=c6 b hb;exact⟨k,⟨k1,by simp[k3,k4]⟩,k2⟩⟩
  ·cases h1
theorem GH {α:Type} {rs:List Nat}:∀ {ks:List α} {i p:Nat} {k:α},ks[p]? = some k→i+p∉rs→k∈Nh rs i ks
 | [],_,_,_,h,_=>by simp at h
 | a::ks,i,0,k,h,hn=>by
  simp only[List.getElem?_cons_zero,Option.some.injEq] at h;subst h
  simp only[Nh];rw[if_neg (by simpa using hn)];exact List.mem_cons_self
 | a::ks,i,p+1,k,h,hn=>by
  have:=GH (ks:=ks) (i:=i+1) (p:=p) (k:=k) (by simpa using h) (by rwa [Nat.add_right_comm,Nat.add_assoc] )
  simp only[Nh];split
  ·exact this
  ·exact List.mem_cons_of_mem _ this
theorem xA (hX:aT X P) {call:ay} {ks:List Nat} {H' Hp H H1 Ht:List (PB X.Γ)} {fv YM v v':PV X.Γ} {xs xs':List (PV X.Γ)} {W:Nat→Prop} (hs:Gz X P call fv xs H v H1 W)
  (hnd:ks.Nodup) (hp:pR H' ks=some Hp) (hH:gJ (kT ks) Hp=some H) (hf:bG (kT ks) YM=some fv) (hx:bG.iC (kT ks) xs'=some xs)
  (hv:bG (bk ks H'.length) v=some v') (hH1:gJ (bk ks H'.length) H1=some Ht) (hro:wZ (H1.drop ks.length)=true) :
  ∀ (A:Nat→Prop) (m':List MB) (h:List HB) (tf:TV) (kY:List TV),HR X P A m' H' h→VR X P (AA A m') m' h YM tf→aG X P (AA A m') m' h xs' kY →
  ∃ w h1 ws m1,call tf kY h=some (w,h1,ws)∧HR X P A m1 (putAt ks Ht H'++Ht.drop ks.length) h1∧VR X P (AA A m1) m1 h1 v' w∧Fr m' h m1 h1∧Up m' m1∧∀ b∈ws,∃ p k,ks[p]? = some k∧W p∧Own m' k b:=by
 intro A m' h tf kY hr hf' hx'
 have hpg:=ru hp
 have hHg:=jB hH
 have hkH:∀ {p k:Nat},ks[p]? = some k→k<m'.length:=fun {p k} hk=>by
  obtain⟨b,q1,_⟩:=hpg.2 hk
  rw[hr.len];exact (List.getElem?_eq_some_iff.1 q1).1
 have hkm:∀ k∈ks,k<m'.length:=fun k hk=>by
  obtain⟨i,hi⟩:=List.getElem?_of_mem hk
  exact hkH hi
 let m:List MB:=ks.map fun k=>m'.getD k .gone
 have hm:∀ {p k:Nat},ks[p]? = some k→m[p]? = m'[k]?:=fun {p k} hk=>by
  show (ks.map _)[p]? = _
  rw[List.getElem?_map,hk]
  have:=hkH hk
  simp[List.getD_eq_getElem?_getD,this]
 have PK:m.length=ks.length:=List.length_map ..
 have E5:∀ {p:Nat} {mb:MB},m[p]? = some mb→∃ k,ks[p]? = some k∧m'[k]? = some mb:=fun {p mb} hpm=>by
  have:p<ks.length:=by rw[←PK];exact (List.getElem?_eq_some_iff.1 hpm).1
  have hk:=List.getElem?_eq_getElem this
  exact⟨_,hk,by rw[←hm hk];exact hpm⟩
 have hsub:∀ b,b∈blks m→b∈blks m':=fun b hb=>by
  obtain⟨j,mb,q1,q2⟩:=eY hb
  obtain⟨k,_,q3⟩:=E5 q1
  exact aC q3 q2
 have hdis:∀ {i:Nat} {mb:MB} {b:Nat},i∉ks→m'[i]? = some mb→mb.own=some b→b∉blks m:=fun {i mb b} hi h1 h2 hb=>by
  obtain⟨j,mc,q1,q2⟩:=eY hb
  obtain⟨k,q3,q4⟩:=E5 q1
  have:=dw hr.nodup h1 q4 h2 q2
  subst this
  exact hi (List.mem_of_getElem? q3)
 let A2:Nat→Prop:=fun b=>A b∧(b∈blks m'→b∈blks m)
 have hA:∀ b,AA A m' b→AA A2 m b:=fun b hb=>⟨⟨hb.1,fun h9=>absurd h9 hb.2⟩,fun h9=>hb.2 (hsub b h9)⟩
 have hg:∀ i j,kT ks i=some j→m[j]? = m'[i]?:=fun i j hij=>hm (Bv hij)
 have hr2:HR X P A2 m H h:=by
  refine⟨by rw[PK,hHg.1,hpg.1],fun j b hj=>?_,dQ fun i j c q1 q2=>?_,fun b hb=>⟨hr.up b hb,fun h9=>absurd (hr.inb h9) (by omega)⟩,fun b hb=>⟨hr.uS b (hsub b hb),fun _=>hb⟩⟩
  ·obtain⟨b0,q1,q2⟩:=hHg.2 hj
   have hj2:j<ks.length:=by rw[←hpg.1];exact (List.getElem?_eq_some_iff.1 q1).1
   have hk:=List.getElem?_eq_getElem hj2
   obtain⟨b9,q5,q6⟩:=hpg.2 hk
   rw[q1] at q6;cases q6
   obtain⟨mb,q3,q4⟩:=hr.at_ _ _ q5
   exact⟨mb,by rw[hm hk];exact q3,qZ hX hg hA (fun c _ h9 h8=>h9 (hsub c h8)) q4 q2⟩
  ·obtain⟨ma,a1,a2⟩:=q1
   obtain⟨mc,c1,c2⟩:=q2
   obtain⟨k,a3,a4⟩:=E5 a1
   obtain⟨l,c3,c4⟩:=E5 c1
   have e:=dw hr.nodup a4 c4 a2 c2
   subst e
   exact (List.getElem?_inj (List.getElem?_eq_some_iff.1 a3).1 hnd).1 (by rw[a3,c3])
 obtain⟨w,h1,ws,m1,c1,c2,c3,c4,c5,c6⟩:=hs A2 m h tf kY hr2 (zB hg hA hX hf' hf) (mY hX hg hA hx' hx)
 have PL:ks.length≤m1.length:=by
  rcases Nat.eq_zero_or_pos ks.length with e | e
  ·omega
  ·have hlt:ks.length-1<m.length:=by omega
   have:=c5 (ks.length-1) m[ks.length-1] (List.getElem?_eq_getElem hlt)
   rcases this with g | g<;>(have:=(List.getElem?_eq_some_iff.1 g).1;omega)
 let O1:List MB:=putAt ks m1 m'++m1.drop ks.length
 have hn:m'.length=H'.length:=hr.len
 have Tf:(putAt ks m1 m').length=m'.length:=jC
 have at_in:∀ {p k:Nat},ks[p]? = some k→O1[k]? = m1[p]?:=fun {p k} hk=>by
  show (putAt ks m1 m'++_)[k]? = _
  rw[List.getElem?_append_left (by rw[Tf];exact hkH hk),BD hnd hkm PL hk]
 have at_out:∀ {i:Nat},i<m'.length→i∉ks→O1[i]? = m'[i]?:=fun {i} hi hk=>by
  show (putAt ks m1 m'++_)[i]? = _
  rw[List.getElem?_append_left (by rw[Tf];exact hi),xq hk]
 have at_new:∀ {j:Nat},ks.length≤j→O1[m'.length+(j-ks.length)]? = m1[j]?:=fun {j} hj=>by
  show (putAt ks m1 m'++_)[_]? = _
  rw[List.getElem?_append_right (by rw[Tf];omega),Tf,Nat.add_sub_cancel_left,List.getElem?_drop]
  congr 1;omega
 have hgb:∀ j i,bk ks H'.length j=some i→O1[i]? = m1[j]?:=fun j i hij=>by
  unfold bk at hij
  split at hij
  ·rename_i k hk;cases hij;exact at_in hk
  ·rename_i hk
   cases hij
   rw[←hn]
   exact at_new (by rw[List.getElem?_eq_none_iff] at hk;exact hk)
 have hcase:∀ {i:Nat} {mb:MB},O1[i]? = some mb→(∃ p,ks[p]? = some i∧m1[p]? = some mb)∨(i<m'.length∧i∉ks∧m'[i]? = some mb)∨(∃ j,ks.length≤j∧i=m'.length+(j-ks.length)∧m1[j]? = some mb):=fun {i mb} hi=>by
  rcases Nat.lt_or_ge i m'.length with hlt | hge
  ·by_cases hk:i∈ks
   ·obtain⟨p,hp⟩:=List.getElem?_of_mem hk
    exact .inl ⟨p,hp,by rw[←at_in hp];exact hi⟩
   ·exact .inr (.inl ⟨hlt,hk,by rw[←at_out hlt hk];exact hi⟩)
  ·refine .inr (.inr ⟨i-m'.length+ks.length,by omega,by omega,?_⟩)
   rw[←at_new (by omega)]
   rw[←hi];congr 1;omega
 have hbl:∀ {b:Nat},b∈blks O1→b∈blks m1∨∃ i mb,i∉ks∧m'[i]? = some mb∧mb.own=some b:=fun {b} hb=>by
  obtain⟨i,mb,q1,q2⟩:=eY hb
  rcases hcase q1 with⟨p,_,q3⟩ | ⟨_,q3,q4⟩ | ⟨j,_,_,q3⟩
  ·exact .inl (aC q3 q2)
  ·exact .inr ⟨i,mb,q3,q4,q2⟩
  ·exact .inl (aC q3 q2)
 have Ti:∀ {i b:Nat} {mb:MB},i∉ks→m'[i]? = some mb→mb.own=some b→b∉blks m1:=fun {i b mb} h1 h2 h3 h4=>by
  rcases c4.new b h4 with g | g
  ·exact hdis h1 h2 h3 g
  ·exact absurd (hr.inb (aC h2 h3)) (by omega)
 have hA3:∀ b,AA A2 m1 b→AA A O1 b:=fun b hb=>⟨hb.1.1,fun h9=>by
  rcases hbl h9 with g | ⟨i,mb,g1,g2,g3⟩
  ·exact hb.2 g
  ·exact hdis g1 g2 g3 (hb.1.2 (aC g2 g3))⟩
 have hF:Fr m' h O1 h1:=⟨c4.len,fun b hb hnb=>c4.same b hb fun h9=>hnb (hsub b h9),fun b hb=>by
  rcases hbl hb with g | ⟨i,mb,g1,g2,g3⟩
  ·rcases c4.new b g with g | g
   ·exact .inl (hsub b g)
   ·exact .inr g
  ·exact .inl (aC g2 g3),c4.grow⟩
 have hU:Up m' O1:=fun i mb hi=>by
  have hlt:=(List.getElem?_eq_some_iff.1 hi).1
  by_cases hk:i∈ks
  ·obtain⟨p,hp⟩:=List.getElem?_of_mem hk
   rw[at_in hp]
   exact c5 p mb (by rw[hm hp];exact hi)
  ·exact .inl (by rw[at_out hlt hk];exact hi)
 have W9:=jB hH1
 have YN:m1.length=H1.length:=c2.len
 refine⟨w,h1,ws,O1,c1,⟨?_,fun i b hi=>?_,?_,fun b hb=>(c2.up b hb).1,fun b hb=>?_⟩,zB hgb hA3 hX c3 hv,hF,hU,fun b hb=>?_⟩
 ·show (putAt ks m1 m'++_).length=_
  rw[List.length_append,List.length_append,jC,jC,List.length_drop,List.length_drop,W9.1,YN,hn]
 ·have YO:ks.length≤Ht.length:=by rw[W9.1,←YN];exact PL
  have a2I:∀ k∈ks,k<H'.length:=fun k hk=>by rw[←hn];exact hkm k hk
  have back:∀ {j:Nat} {b:PB X.Γ},Ht[j]? = some b→∃ mb,m1[j]? = some mb∧BR X P (AA A O1) O1 h1 b mb:=fun {j b} hj=>by
   obtain⟨b0,q1,q2⟩:=W9.2 hj
   obtain⟨mb,q3,q4⟩:=c2.at_ j b0 q1
   refine⟨mb,q3,qZ hX hgb hA3 (fun c e h9 h8=>?_) q4 q2⟩
   rcases hbl h8 with g | ⟨i,mb',g1,g2,g3⟩
   ·exact h9 g
   ·subst e
    rcases Nat.lt_or_ge j ks.length with hj1 | hj1
    ·have hk:=List.getElem?_eq_getElem hj1
     have hj2:j<m.length:=by rw[PK];exact hj1
     have hmj:m[j]? = some (.bM c):=by
      rcases c5 j _ (List.getElem?_eq_getElem hj2) with e | e<;>rw[q3] at e<;>simp only[Option.some.injEq] at e
      ·rw[List.getElem?_eq_getElem hj2,←e]
      ·cases e
     obtain⟨k,e1,e2⟩:=E5 hmj
     obtain⟨b9,e3,_⟩:=hpg.2 e1
     obtain⟨mb9,e4,e5⟩:=hr.at_ _ _ e3
     rw[e2] at e4;cases e4
     cases b9<;>first | exact e5.elim | exact e5.1 (aC g2 g3)
    ·have e1:(H1.drop ks.length)[j-ks.length]? = some b0:=by rw[List.getElem?_drop,←q1];congr 1;omega
     have e2:=zC hro e1
     cases b0<;>first | exact q4.elim | cases e2
  rcases Nat.lt_or_ge i H'.length with hlt | hge
  ·rw[List.getElem?_append_left (by rw[jC];exact hlt)] at hi
   by_cases hk:i∈ks
   ·obtain⟨p,hpk⟩:=List.getElem?_of_mem hk
    rw[BD hnd a2I YO hpk] at hi
    obtain⟨mb,q1,q2⟩:=back hi
    exact⟨mb,by rw[at_in hpk];exact q1,q2⟩
   ·rw[xq hk] at hi
    obtain⟨mb,q1,q2⟩:=hr.at_ i b hi
    refine⟨mb,by rw[at_out (by rw[hn];exact hlt) hk];exact q1,q2.step hF hU fun c hc=>?_⟩
    exact c4.same c (hr.inb (aC q1 hc)) (hdis hk q1 hc)
  ·rw[List.getElem?_append_right (by rw[jC];exact hge),jC,List.getElem?_drop] at hi
   obtain⟨mb,q1,q2⟩:=back hi
   refine⟨mb,?_,q2⟩
   have:=at_new (j:=ks.length+(i-H'.length)) (by omega)
   rw[q1] at this
   rw[←this];congr 1;omega
 ·refine dQ fun i j c q1 q2=>?_
  obtain⟨ma,a1,a2⟩:=q1
  obtain⟨mc,b1,b2⟩:=q2
  rcases hcase a1 with⟨p,a3,a4⟩ | ⟨a3,a4,a5⟩ | ⟨p,a3,a4,a5⟩<;>rcases hcase b1 with⟨q,b3,b4⟩ | ⟨b3,b4,b5⟩ | ⟨q,b3,b4,b5⟩
  ·have:=dw c2.nodup a4 b4 a2 b2;subst this;rw[a3] at b3;cases b3;rfl
  ·exact absurd (aC a4 a2) (Ti b4 b5 b2)
  ·have:=dw c2.nodup a4 b5 a2 b2
   subst this
   have:=(List.getElem?_eq_some_iff.1 a3).1;omega
  ·exact absurd (aC b4 b2) (Ti a4 a5 a2)
  ·exact dw hr.nodup a5 b5 a2 b2
  ·exact absurd (aC b5 b2) (Ti a4 a5 a2)
  ·have:=dw c2.nodup a5 b4 a2 b2
   subst this
   have:=(List.getElem?_eq_some_iff.1 b3).1;omega
  ·exact absurd (aC a5 a2) (Ti b4 b5 b2)
  ·have:=dw c2.nodup a5 b5 a2 b2;subst this;omega
 ·rcases hbl hb with g | ⟨i,mb,g1,g2,g3⟩
  ·exact (c2.uS b g).1
  ·exact hr.uS b (aC g2 g3)
 ·obtain⟨j,hw,mb,q1,q2⟩:=c6 b hb
  obtain⟨k,q3,q4⟩:=E5 q1
  exact⟨j,k,q3,hw,mb,q4,q2⟩
end
end Pv
namespace Pv
open Go Tw
section
variable {X:gZ} {P:Program} {A B F:Nat→Prop} {m m':List MB} {h h':List HB} {H H':List (PB X.Γ)}
variable {call:ay} {jG:gK X.Γ} {site:Nat→Bool} {ρ:Type} {y:ρ}
def PN (X:gZ) (P:Program) (A:Nat→Prop) (m:List MB) (call:ay) (site:Nat→Bool) (ts:St) (o:Oper) (k:PE X.Γ→aP X.Γ→PI→PT X.Γ→OT ρ) (y:ρ):Prop:=
 ∃ pe ps1 pi yC,OpR X P A m call site ts o pe ps1 pi∧(k pe ps1 pi yC).Ends y
theorem mZ {ps:aP X.Γ} {ts:St} (hR:lS X P A m ps ts) {o:Oper} {k:PE X.Γ→aP X.Γ→PI→PT X.Γ→OT ρ} {r:Option (TV×St×Inf)} {v:PV X.Γ} {H1:List (PB X.Γ)} {pi:PI} {an:PT X.Γ} (hm:Gu X P A m ts r v H1 pi)
  (ho:iH P call site ts o=r.map fun (v,s,i)=>(.val v,s,i)) (hk:(k (.val v) { ps with heap:=H1 } pi an).Ends y):PN X P A m call site ts o k y:=by
 obtain⟨w,h1,ti,m1,rfl,e1,e2,e3,e4,e5,e6⟩:=hm
 exact⟨.val v,_,_,_,⟨.val w,_,ti,m1,ho,rfl,rfl,hR.step e1 e3 e4,e2,e3,e4,e5,e6⟩,hk⟩
theorem dG {ps:aP X.Γ} {ts:St} (hR:lS X P A m ps ts) {o:Oper} {k:PE X.Γ→aP X.Γ→PI→PT X.Γ→OT ρ} {v:PV X.Γ} {w:TV} {pi:PI} {an:PT X.Γ} (hv:VR X P (AA A m) m ts.heap v w) (ho:iH P call site ts o=some (.val w,ts,aA)) (hk:(k (.val v) ps pi an).Ends y):PN X P A m call site ts o k y:=
 ⟨.val v,_,_,_,kX hR ho (iE hv),hk⟩
theorem Wh {op:BinOp} {a b v:PV X.Γ} {ta tb:TV} {ps:List Prop} {t:TypeId} {x z:Operand} (ha:VR X P A m h a ta) (hb:VR X P A m h b tb) (hd:VI op a b=some (v,ps)) (hp:∀ p∈ps,p) :
  ∃ w,jo P op t x z ta tb=some w∧VR X P A m h v w:=by
 unfold VI at hd
 split at hd
 ·cases ha with
  | gone hi _ _=>simp[aF] at hi
  | int=>
   cases hb with
   | gone hi _ _=>simp[aF] at hi
   | int=>
    split at hd
    ·split at hd
     ·rename_i e;subst e;cases hd;exact⟨_,P6 (hp _ (.head _)),.int _ _⟩
     ·cases hd
    ·split at hd
     ·rename_i e;subst e;cases hd;exact⟨_,P7 (hp _ (.head _)),.int _ _⟩
     ·cases hd
    ·cases hd;exact⟨_,OZ (hp _ (.head _)),.int _ _⟩
    ·cases hd;exact⟨_,P5 (hp _ (.head _)),.int _ _⟩
    ·cases hd
 ·cases hd
theorem Wi (hX:aT X P) (hO:jL X P call jG) {ps:aP X.Γ} {ts:St} (hR:lS X P A m ps ts) {o:Oper} {an:PT X.Γ} {k:PE X.Γ→aP X.Γ→PI→PT X.Γ→OT ρ} (hk:(VL X P jG (nH X P call) site ps o an k).Ends y):PN X P A m call site ts o k y:=by
 have hE:=hR.env
 unfold VL at hk
 split at hk
 ·-- move
  rename_i x ho
  split at hk
  ·rename_i v hv
   obtain⟨e,h1,h2⟩:=iP hE hv
   exact⟨_,_,_,_,kX hR (by simp only[iH,ho,h1,Option.map_some]) h2,hk⟩
  ·exact hk.elim
 ·rename_i x ho
  split at hk
  ·rename_i v hv
   obtain⟨e,h1,h2⟩:=iP hE hv
   exact⟨_,_,_,_,kX hR (by simp only[iH,ho,h1,Option.map_some]) h2,hk⟩
  ·exact hk.elim
 ·-- pick
  rename_i c a b ho
  split at hk
  ·rename_i u hu
   obtain⟨tu,h1,h2⟩:=Gs hE hu
   obtain⟨t,yC,rfl,hk⟩:=Jh hk h2
   split at hk
   ·rename_i v hv
    obtain⟨e,g1,g2⟩:=iP hE hv
    exact⟨_,_,_,_,kX (hR.know h1) (by simp only[iH,ho,h1,g1,Option.map_some]) g2,hk⟩
   ·exact hk.elim
  ·exact hk.elim
 ·-- alloc
  rename_i e ho
  split at hk
  ·rename_i z hz
   obtain⟨z',g1,g2⟩:=uX (A:=AA A m) (m:=m) (h:=ts.heap) hz
   obtain⟨m1,e1,e2,e3,e4,e5,e6⟩:=DV hR (site:=site (o.dst.getD 0)) g2
   exact⟨_,_,_,_,⟨_,_,aA,m1,by simp only[iH,ho,g1,Option.map_some],e1,e2,e3,e4,e5,e6,.none,fun b hb=>by cases hb⟩,hk⟩
  ·exact hk.elim
 ·-- box
  rename_i t x ho
  split at hk
  ·rename_i v hv
   obtain⟨w,g1,g2⟩:=eF hE hv
   split at hk
   ·rename_i hone
    have hc:=uU g2
    obtain⟨m1,e1,e2,e3,e4,e5,e6⟩:=DV hR (site:=site (o.dst.getD 0)) hc
    exact⟨_,_,_,_,⟨_,_,aA,m1,by simp only[iH,ho,g1,qW hc,hone,if_true],e1,e2,e3,e4,e5,e6,.none,fun b hb=>by cases hb⟩,hk⟩
   ·exact hk.elim
  ·exact hk.elim
 ·-- build
  rename_i t qs ho
  split at hk
  ·rename_i vs hvs
   obtain⟨ws,g1,g2⟩:=Je hE hvs
   split at hk
   ·rename_i v hv
    obtain⟨w,g3,g4⟩:=Pn g2 hv
    exact dG hR g4 (by simp only[iH,ho,g1,g3,Option.map_some]) hk
   ·exact hk.elim
  ·exact hk.elim
 ·-- buildSlice
  rename_i t len qs ho
  split at hk
  ·rename_i vs hvs
   obtain⟨ws,g1,g2⟩:=Je hE hvs
   split at hk
   ·rename_i v H1 hv
    refine mZ hR (lZ hX hR g2 hv) ?_ hk
    simp only[iH,ho,g1,Option.map_map]
    rfl
   ·exact hk.elim
  ·exact hk.elim
 ·-- load
  rename_i t a ho
  split at hk
  ·rename_i pa ha
   obtain⟨ea,g1,g2⟩:=iP hE ha
   split at hk
   ·rename_i v i hv
    obtain⟨w,ti,g3,g4,g5,g6⟩:=um hX hR g2 hv
    exact⟨.val v,_,_,_,⟨.val w,ts,ti,m,by simp only[iH,ho,g1,g3,Option.map_some],rfl,rfl,hR,g4,.refl,.refl,g5,fun b hb=>by rw[g6] at hb;cases hb⟩,hk⟩
   ·exact hk.elim
  ·exact hk.elim
 ·-- store
  rename_i t a x ho
  split at hk
  ·rename_i pa v ha hv
   obtain⟨ea,g1,g2⟩:=iP hE ha
   obtain⟨w,g3,g4⟩:=eF hE hv
   split at hk
   ·rename_i s i hs
    obtain⟨dD,ti,m1,e1,e2,e3,e4,e5,e6,e7,e8⟩:=mM hX hR g2 g4 hs
    exact⟨.undef,_,_,_,⟨.undef,dD,ti,m1,by simp only[iH,ho,g1,g3,e1,Option.map_some],e2,e3,e4,trivial,e5,e6,e7,e8⟩,hk⟩
   ·exact hk.elim
  ·exact hk.elim
 ·-- nilCheck
  rename_i x ho
  have go:∀ {pe:PE X.Γ} {ev:EV},xZ ts.env x=some ev→PER X P (AA A m) m ts.heap pe ev→(match ev with | .loc _ _=>True | .val (.ptr _ _ _)=>True | .val (.fn _ _ _)=>True | _=>False)→(k pe ps mG an).Ends y→PN X P A m call site ts o k y:=by
   intro pe ev h1 h2 h3 h4
   refine⟨_,_,_,_,kX hR ?_ h2,h4⟩
   cases ev with
   | loc a b=>simp only[iH,ho,h1]
   | val v=>cases v<;>simp at h3<;>simp only[iH,ho,h1]
   | undef=>simp at h3
  split at hk
  ·rename_i a b ha
   obtain⟨ea,g1,g2⟩:=iP hE ha
   have:=qX g2;subst this
   exact go g1 g2 trivial hk
  ·rename_i a b c ha
   obtain⟨ea,g1,g2⟩:=iP hE ha
   obtain⟨w,rfl,g3⟩:=bK g2
   split at hk
   ·rename_i cs hb
    obtain⟨mb,f1,f2⟩:=hR.heap.at_ a _ hb
    cases mb with
    | blk cb=>
     cases g3 with
     | ptr e=>exact go g1 g2 trivial hk
     | gone hi e _=>simp only[aF,Option.some.injEq] at hi;subst hi;rw[f1] at e;cases e
    | _=>exact f2.elim
   ·rename_i cs hb
    obtain⟨mb,f1,f2⟩:=hR.heap.at_ a _ hb
    cases mb with
    | bM cb=>
     cases g3 with
     | ptr e=>rw[f1] at e;cases e
     | gone hi e _=>
      simp only[aF,Option.some.injEq] at hi;subst hi;rw[f1] at e
      cases e with
      | r _ e=>simp only[SL,Option.some.injEq] at e;subst e;exact go g1 g2 trivial hk
    | _=>exact f2.elim
   ·exact hk.elim
  ·rename_i a b c ha
   obtain⟨ea,g1,g2⟩:=iP hE ha
   obtain⟨w,rfl,g3⟩:=bK g2
   split at hk
   ·rename_i q1 q2 q3 q4 hb
    obtain⟨mb,f1,f2⟩:=hR.heap.at_ a _ hb
    cases mb with
    | lst cb=>
     cases g3 with
     | row e=>exact go g1 g2 trivial hk
     | gone hi e _=>simp only[aF,Option.some.injEq] at hi;subst hi;rw[f1] at e;cases e
    | _=>exact f2.elim
   ·exact hk.elim
  ·rename_i a b c ha
   obtain⟨ea,g1,g2⟩:=iP hE ha
   obtain⟨w,rfl,g3⟩:=bK g2
   cases g3 with
   | el=>exact go g1 g2 trivial hk
   | gone hi _ _=>simp[aF] at hi
  ·rename_i a b c ha
   obtain⟨ea,g1,g2⟩:=iP hE ha
   obtain⟨w,rfl,g3⟩:=bK g2
   cases g3 with
   | fn=>exact go g1 g2 trivial hk
   | gone hi _ _=>simp[aF] at hi
  ·exact hk.elim
 ·-- binOp
  rename_i op t x z w0 ho
  split at hk
  ·rename_i a b ha hb
   obtain⟨ta,g1,g2⟩:=eF hE ha
   obtain⟨tb,g3,g4⟩:=eF hE hb
   split at hk
   ·split at hk
    ·rename_i v ps hd
     obtain⟨hp,hk⟩:=jM hk
     obtain⟨w,e1,e2⟩:=Wh (P:=P) (t:=t) (x:=x) (z:=z) g2 g4 hd hp
     exact dG hR e2 (by simp only[iH,ho,g1,g3,e1,Option.map_some]) hk
    ·exact hk.elim
   split at hk
   ·rename_i v q hv
    obtain⟨w,e1,e2⟩:=Nq (x:=x) (y:=z) hR.heap g2 g4 hv hk.1
    exact dG hR e2 (by simp only[iH,ho,g1,g3,e1,Option.map_some]) hk.2
   split at hk
   ·split at hk
    ·rename_i w r
     split at hk
     ·rename_i v ua ub e1 e2 e3
      obtain⟨CV,hk⟩:=hk
      rw[←gQ g2 e2,←gQ g4 e3] at CV
      exact dG hR (kW e1) (by simp only[iH,ho,g1,g3,CV,Option.map_some]) hk
     ·exact hk.elim
    ·exact hk.elim
   ·split at hk
    ·rename_i v hv
     obtain⟨w,e1,e2⟩:=Ik g2 g4 hv
     exact dG hR e2 (by simp only[iH,ho,g1,g3,e1,Option.map_some]) hk
    ·exact hk.elim
  ·exact hk.elim
 ·-- unOp
  rename_i op t x ho
  split at hk
  ·rename_i a ha
   obtain⟨ta,g1,g2⟩:=eF hE ha
   split at hk
   ·rename_i v hv
    obtain⟨w,e1,e2⟩:=dn g2 hv
    exact dG hR e2 (by simp only[iH,ho,g1,e1,Option.map_some]) hk
   ·exact hk.elim
  ·exact hk.elim
 ·-- convert
  rename_i s d x ho
  split at hk
  ·rename_i a ha
   obtain⟨ta,g1,g2⟩:=eF hE ha
   split at hk
   ·split at hk
    ·rename_i w r
     split at hk
     ·rename_i v ua e1 e2
      obtain⟨CV,hk⟩:=hk
      rw[←gQ g2 e2] at CV
      exact dG hR (kW e1) (by simp only[iH,ho,g1,CV,Option.map_some]) hk
     ·exact hk.elim
    ·exact hk.elim
   ·split at hk
    ·rename_i v hv
     obtain⟨w,e1,e2⟩:=Et g2 hv
     exact dG hR e2 (by simp only[iH,ho,g1,e1,Option.map_some]) hk
    ·exact hk.elim
  ·exact hk.elim
 ·-- makeFunc
  rename_i f first cap ho
  split at hk
  ·rename_i a b ha hb
   obtain⟨ta,g1,g2⟩:=EX hE ha
   obtain⟨tb,g3,g4⟩:=EX hE hb
   exact dG hR (.fn g2.1 g2.2 g4.1 g4.2) (by simp only[iH,ho,g1,g3]) hk
  ·exact hk.elim
 ·-- makeMap
  rename_i t r ho
  have hp:=hR.heap.push (pb:=.map []) (hb:=.map []) (mb:=.blk ts.heap.length) (.inl rfl) ⟨[],by simp,rfl,fun i a b ha=>by simp at ha⟩
  have go:iH P call site ts o=some (.val (.map ts.heap.length),{ ts with heap:=ts.heap++[.map []] },aA)→∀ {an:PT X.Γ},(k (.val (.map ps.heap.length)) { ps with heap:=ps.heap++[.map []] } mG an).Ends y→PN X P A m call site ts o k y:=fun h1 an h2=>
   ⟨.val (.map ps.heap.length),_,_,_,⟨_,_,aA,_,h1,rfl,rfl,hR.step hp.1 hp.2.1 hp.2.2,iE (.map (by rw[←hR.heap.len];simp)),hp.2.1,hp.2.2,.none,fun b hb=>by cases hb⟩,h2⟩
  split at hk
  ·rename_i h1
   obtain⟨w,g1,g2⟩:=uY hE h1
   have:=ji g2;subst this
   exact go (by simp only[iH,ho,g1]) hk
  ·rename_i k0 n0 kt vt h1 hu
   obtain⟨w,g1,g2⟩:=uY hE h1
   have:=F8 g2;subst this
   exact go (by simp only[iH,ho,g1,hu]) hk
  ·exact hk.elim
 ·-- makeSlice
  rename_i t l c ho
  split at hk
  ·rename_i vl vc hl hc
   obtain⟨tl,g1,g2⟩:=eF hE hl
   obtain⟨tc,g3,g4⟩:=eF hE hc
   split at hk
   ·rename_i v H1 qs hv
    obtain⟨hq,hk⟩:=jM hk
    refine mZ hR (nP hX hR g2 g4 hv hq) ?_ hk
    simp only[iH,ho,g1,g3,Option.map_map]
    rfl
   ·exact hk.elim
  ·exact hk.elim
 ·-- slice
  rename_i t x lo hi mx ho
  split at hk
  ·rename_i px plo phi pmx hx hlo hhi hmx
   obtain⟨ex,g1,g2⟩:=iP hE hx
   obtain⟨CY,g3,g4⟩:=uY hE hlo
   obtain⟨CZ,g5,g6⟩:=uY hE hhi
   obtain⟨Py,g7,g8⟩:=uY hE hmx
   split at hk
   ·rename_i n e hu
    split at hk
    ·split at hk
     ·rename_i v hv
      refine mZ (H1:=ps.heap) hR (F9 hR g2 g4 g6 g8 hv) ?_ hk
      simp only[iH,ho,g1,g3,g5,g7,hu,Option.map_map]
      rfl
     ·exact hk.elim
    ·split at hk
     ·rename_i v H1 qs hv
      obtain⟨hq,hk⟩:=jM hk
      refine mZ hR (oV hX hR g2 g4 g6 g8 hv hq) ?_ hk
      simp only[iH,ho,g1,g3,g5,g7,hu,Option.map_map]
      rfl
     ·exact hk.elim
   ·rename_i hnot
    have hop:∀ {w:TV},ex=.val w→iH P call site ts o=(sliceT P t w CY CZ Py).map fun v=>(.val v,ts,aA):=by
     intro w e;subst e
     simp only[iH,ho,g1,g3,g5,g7]
    split at hk
    ·rename_i b
     obtain⟨w,rfl,g9⟩:=bK g2
     have:w=.str b:=by
      cases g9 with
      | str=>rfl
      | gone hi _ _=>simp[aF] at hi
     subst this
     split at hk
     ·rename_i w r
      split at hk
      ·rename_i v tl th e1 e2 e3
       split at hk
       ·rename_i hnone
        obtain⟨hs,hk⟩:=hk
        have h7:Py=none:=by
         cases pmx with
         | none=>exact ji g8
         | some _=>simp at hnone
        have h5:CY=tl:=by
         cases plo with
         | none=>simp at e2;rw[ji g4,e2]
         | some q=>
          obtain⟨tq,rfl⟩:=zy g4
          simp only[Option.map_eq_some_iff] at e2
          obtain⟨q1,q2,rfl⟩:=e2
          rw[gQ (show VR X P (AA A m) m ts.heap q tq from g4) q2]
        have h6:CZ=th:=by
         cases phi with
         | none=>simp at e3;rw[ji g6,e3]
         | some q=>
          obtain⟨tq,rfl⟩:=zy g6
          simp only[Option.map_eq_some_iff] at e3
          obtain⟨q1,q2,rfl⟩:=e3
          rw[gQ (show VR X P (AA A m) m ts.heap q tq from g6) q2]
        subst h5;subst h6;subst h7
        exact dG hR (kW e1) (by rw[hop rfl,hs];rfl) hk
       ·exact hk.elim
      ·exact hk.elim
     ·exact hk.elim
    ·rename_i px' hns
     obtain⟨w,rfl,g9⟩:=bK g2
     split at hk
     ·rename_i v qs hv
      obtain⟨hq,hk⟩:=jM hk
      obtain⟨w',e1,e2⟩:=Ac hR g9 g4 g6 g8 hv hq
      exact dG hR e2 (by rw[hop rfl,e1];rfl) hk
     ·exact hk.elim
    ·exact hk.elim
  ·exact hk.elim
 ·-- fieldAddr
  rename_i t x f ho
  split at hk
  ·rename_i pa n ha hn
   obtain⟨ea,g1,g2⟩:=iP hE ha
   split at hk
   ·rename_i v hv
    obtain⟨eb,g3,g4⟩:=zZ hR g2 hv
    exact⟨_,_,_,_,kX hR (by simp only[iH,ho,g1,hn,g3,Option.map_some]) g4,hk⟩
   ·exact hk.elim
  ·exact hk.elim
 ·-- field
  rename_i t x f ho
  split at hk
  ·rename_i a ha
   obtain⟨ta,g1,g2⟩:=eF hE ha
   split at hk
   ·rename_i v hv
    obtain⟨w,e1,e2⟩:=A8 g2 hv
    exact dG hR e2 (by simp only[iH,ho,g1,e1,Option.map_some]) hk
   ·exact hk.elim
  ·exact hk.elim
 ·-- indexAddr
  rename_i t x i ho
  split at hk
  ·rename_i pa vi ha hi
   obtain⟨ea,g1,g2⟩:=iP hE ha
   obtain⟨ti,g3,g4⟩:=eF hE hi
   split at hk
   ·rename_i v qs hv
    obtain⟨hq,hk⟩:=jM hk
    obtain⟨eb,g5,g6⟩:=nN hR g2 g4 hv hq
    exact⟨_,_,_,_,kX hR (by simp only[iH,ho,g1,g3,g5,Option.map_some]) g6,hk⟩
   ·exact hk.elim
  ·exact hk.elim
 ·-- index
  rename_i t x i ho
  split at hk
  ·rename_i a vi ha hi
   obtain⟨ta,g1,g2⟩:=eF hE ha
   obtain⟨ti,g3,g4⟩:=eF hE hi
   split at hk
   ·split at hk
    ·rename_i w r
     split at hk
     ·rename_i v ua ui e1 e2 e3
      obtain⟨CV,hk⟩:=hk
      rw[←gQ g2 e2,←gQ g4 e3] at CV
      exact dG hR (kW e1) (by simp only[iH,ho,g1,g3,CV,Option.map_some]) hk
     ·exact hk.elim
    ·exact hk.elim
   ·split at hk
    ·rename_i v hv
     obtain⟨w,e1,e2⟩:=Aa g2 g4 hv
     exact dG hR e2 (by simp only[iH,ho,g1,g3,e1,Option.map_some]) hk
    ·exact hk.elim
  ·exact hk.elim
 ·-- lookup
  rename_i t mm i ok ho
  split at hk
  ·rename_i vm vi hm hi
   obtain⟨tm,g1,g2⟩:=eF hE hm
   obtain⟨ti,g3,g4⟩:=eF hE hi
   obtain⟨v,pi,yC,w,e1,e2,e3,e4⟩:=look_ok hR g2 g4 hk
   refine⟨.val v,_,_,_,⟨.val w,ts,_,m,?_,rfl,rfl,hR,e2,.refl,.refl,e4,fun b hb=>by cases hb⟩,e3⟩
   simp only[iH,ho,g1,g3,e1,Option.map_some]
   cases tm<;>rfl
  ·exact hk.elim
 ·-- mapUpdate
  rename_i t mm i x ho
  split at hk
  ·rename_i vm vi vx hm hi hx
   obtain⟨tm,g1,g2⟩:=eF hE hm
   obtain⟨ti,g3,g4⟩:=eF hE hi
   obtain⟨tx,g5,g6⟩:=eF hE hx
   obtain⟨ps1,pi,yC,h1,Wj,e1,e2,e3,e4,e5,e6⟩:=PD hR g2 g4 g6 hk
   exact⟨.undef,_,_,_,⟨.undef,{ ts with heap:=h1 },Wj,m,by simp only[iH,ho,g1,g3,g5,e1,Option.map_some],rfl,rfl,e2,trivial,e3,.refl,e5,e6⟩,e4⟩
  ·exact hk.elim
 ·-- insert
  rename_i t mm i x ho
  split at hk
  ·rename_i vm vi vx hm hi hx
   obtain⟨tm,g1,g2⟩:=eF hE hm
   obtain⟨ti,g3,g4⟩:=eF hE hi
   obtain⟨tx,g5,g6⟩:=eF hE hx
   obtain⟨ps1,pi,yC,h1,Wj,e1,e2,e3,e4,e5,e6⟩:=PD hR g2 g4 g6 hk
   exact⟨.undef,_,_,_,⟨.undef,{ ts with heap:=h1 },Wj,m,by simp only[iH,ho,g1,g3,g5,e1,Option.map_some],rfl,rfl,e2,trivial,e3,.refl,e5,e6⟩,e4⟩
  ·exact hk.elim
 ·-- extract
  rename_i t i ho
  split at hk
  ·rename_i vs hv
   obtain⟨w,g1,g2⟩:=eF hE hv
   split at hk
   ·rename_i v hvi
    cases g2 with
    | bf h1 h2=>
     obtain⟨x,e1,e2⟩:=aG.get ⟨h1,h2⟩ hvi
     exact dG hR e2 (by simp only[iH,ho,g1,e1,Option.map_some]) hk
    | gone hi _ _=>simp[aF] at hi
   ·exact hk.elim
  ·exact hk.elim
 ·-- call
  rename_i c ho
  split at hk
  ·rename_i az has
   obtain⟨YP,g1,g2⟩:=EX hE has
   have hcall:∀ {b:Builtin},c.callee=.builtin b→∀ {r:Option (TV×St×Inf)},iG P b c.argTypes o.type ts YP=r→iH P call site ts o=r.map fun (v,s,i)=>(.val v,s,i):=by
    intro b hb r hr
    simp only[iH,ho,y9,hb,g1,hr]
   split at hk
   ·rename_i hb
    split at hk
    ·rename_i x
     obtain⟨tx,r,rfl,q1,q2⟩:=g2.inv
     have:=q2.inv0;subst this
     split at hk
     ·rename_i v i hv
      obtain⟨w,ti,e1,e2,e3,e4⟩:=Il hR.heap q1 hv
      exact⟨.val v,_,_,_,⟨.val w,ts,ti,m,by rw[hcall hb (r:=some (w,ts,ti)) (by simp only[iG,e1,Option.map_some])];rfl,rfl,rfl,hR,iE e2,.refl,.refl,e3,fun b hb=>by rw[e4] at hb;cases hb⟩,hk⟩
     ·exact hk.elim
    ·exact hk.elim
   ·rename_i hb
    split at hk
    ·rename_i d x
     obtain⟨td,r,rfl,q1,q2⟩:=g2.inv
     obtain⟨tx,r,rfl,q3,q4⟩:=q2.inv
     have:=q4.inv0;subst this
     split at hk
     ·rename_i v H1 i qs hv
      obtain⟨hq,hk⟩:=jM hk
      exact mZ hR (wU hX hR q1 q3 hv hq) (hcall hb rfl) hk
     ·exact hk.elim
    ·exact hk.elim
   ·rename_i hb
    split at hk
    ·rename_i d x
     obtain⟨td,r,rfl,q1,q2⟩:=g2.inv
     obtain⟨tx,r,rfl,q3,q4⟩:=q2.inv
     have:=q4.inv0;subst this
     split at hk
     ·rename_i v H1 i hv
      exact mZ hR (Ey hX hR q1 q3 hv) (hcall hb rfl) hk
     ·exact hk.elim
    ·exact hk.elim
   ·rename_i hb
    split at hk
    ·rename_i v hv
     obtain⟨w,e1,e2⟩:=mP g2 hv
     refine dG hR e2 ?_ hk
     rw[hcall hb (r:=some (w,ts,aA)) (by simp only[iG,e1,Option.map_some])];rfl
    ·exact hk.elim
   ·rename_i hb
    split at hk
    ·rename_i v hv
     obtain⟨w,e1,e2⟩:=mP g2 hv
     refine dG hR e2 ?_ hk
     rw[hcall hb (r:=some (w,ts,aA)) (by simp only[iG,e1,Option.map_some])];rfl
    ·exact hk.elim
   ·rename_i f hb
    split at hk
    ·rename_i fv hfv
     obtain⟨tf,f1,f2⟩:=eF hE hfv
     have hop:∀ {w:TV} {h1:List HB} {ws:List Nat},call tf YP ts.heap=some (w,h1,ws)→iH P call site ts o=some (.val w,{ ts with heap:=h1 },⟨true,[],ws.map .h⟩):=by
      intro w h1 ws hc
      simp only[iH,ho,y9,hb,g1,f1,hc]
     unfold Pg at hk
     split at hk
     ·rename_i v H1 r
      obtain⟨hs,hk⟩:=hk
      obtain⟨w,h1,ws,m1,c1,c2,c3,c4,c5,c6⟩:=hs A m ts.heap tf YP hR.heap f2 g2
      refine⟨.val v,_,_,_,⟨.val w,_,_,m1,hop c1,rfl,rfl,hR.step c2 c4 c5,iE c3,c4,c5,⟨fun _=>rfl,fun k hk=>(by cases hk),fun k hk=>?_,fun b hb=>?_,fun b hb=>(by cases hb),fun h=>(by cases h)⟩,fun b hb=>?_⟩,hk⟩
      ·simp at hk
      ·simp at hb;exact .inr ⟨rfl,c6 b hb⟩
      ·simp at hb;exact c6 b hb
     ·split at hk
      ·rename_i Hp hnd hp
       split at hk
       ·rename_i Hs fv1 xs1 hHs Wn Wp
        split at hk
        ·rename_i v1 Ht hv1 Wq
         obtain⟨hs,hk⟩:=hk
         simp only[Bool.and_eq_true,decide_eq_true_eq] at hnd
         obtain⟨w,h1,ws,m1,c1,c2,c3,c4,c5,c6⟩:=xA hX hs.w hnd.1 hp hHs Wn Wp hv1 Wq hnd.2 A m ts.heap tf YP hR.heap f2 g2
         refine⟨.val v1,_,_,_,⟨.val w,_,_,m1,hop c1,rfl,rfl,hR.step c2 c4 c5,iE c3,c4,c5,⟨fun _=>rfl,fun k hk=>(by cases hk),fun k hk=>?_,fun b hb=>?_,fun b hb=>(by cases hb),fun h=>(by cases h)⟩,fun b hb=>?_⟩,hk⟩
         ·simp at hk
         ·simp at hb
          obtain⟨_,k,h8,_,h9⟩:=c6 b hb
          exact .inl ⟨k,List.mem_map.2 ⟨k,List.mem_of_getElem? h8,rfl⟩,h9⟩
         ·simp at hb
          obtain⟨_,k,_,_,mb,h8,h9⟩:=c6 b hb
          exact aC h8 h9
        ·exact hk.elim
       ·exact hk.elim
      ·exact hk.elim
     ·split at hk
      ·rename_i Hp hnd hp
       split at hk
       ·rename_i Hs fv1 xs1 hHs Wn Wp
        split at hk
        ·rename_i v1 Ht Hs2 H2 hv1 Wq a2J
         obtain⟨hs,hk⟩:=hk
         simp only[Bool.and_eq_true,decide_eq_true_eq] at hnd
         have hsl:Hs.length=_:=(jB hHs).1.trans (ru hp).1
         obtain⟨w,h1,ws,m1,c1,c2,c3,c4,c5,c6⟩:=xA hX (Ji a2J (by rw[hsl];exact hnd.2) hs.w) hnd.1 hp hHs Wn Wp hv1 Wq hnd.2 A m ts.heap tf YP hR.heap f2 g2
         refine⟨.val v1,_,_,_,⟨.val w,_,_,m1,hop c1,rfl,rfl,hR.step c2 c4 c5,iE c3,c4,c5,⟨fun _=>rfl,fun k hk=>(by cases hk),fun k hk=>?_,fun b hb=>?_,fun b hb=>(by cases hb),fun h=>(by cases h)⟩,fun b hb=>?_⟩,hk⟩
         ·simp at hk
         ·simp at hb
          obtain⟨p,k,h8,h7,h9⟩:=c6 b hb
          exact .inl ⟨k,List.mem_map.2 ⟨k,GH h8 (by simpa using h7.2),rfl⟩,h9⟩
         ·simp at hb
          obtain⟨_,k,_,_,mb,h8,h9⟩:=c6 b hb
          exact aC h8 h9
        ·exact hk.elim
       ·exact hk.elim
      ·exact hk.elim
     ·split at hk
      ·rename_i g first cap _
       cases f2 with
       | gone hi _ _=>simp[aF] at hi
       | fn p1 p2 p3 p4=>
        split at hk
        ·rename_i vs hvs
         split at hk
         ·rename_i v ext qs a2K
          split at hk
          ·rename_i ext' hext
           obtain⟨hq,hk⟩:=jM hk
           obtain⟨w,h1,m1,c1,c2,c3,c4,c5⟩:=Tc hX (hO _ _ _ _ _ a2K hq) hR.heap hvs hext ⟨p1,p2⟩ g2 ⟨p3,p4⟩
           refine⟨.val (shift ps.heap.length v),_,_,_,⟨.val w,_,_,m1,hop c1,rfl,rfl,hR.step c2 c4 c5,iE c3,c4,c5,⟨fun _=>rfl,fun k hk=>(by cases hk),fun k hk=>(by simp at hk),fun b hb=>(by simp at hb),fun b hb=>(by cases hb),fun h=>(by cases h)⟩,fun b hb=>(by simp at hb)⟩,hk⟩
          ·exact hk.elim
         ·exact hk.elim
        ·exact hk.elim
      ·exact hk.elim
    ·exact hk.elim
   ·exact hk.elim
  ·exact hk.elim
 ·-- range
  rename_i t x ho
  split at hk
  ·rename_i r kt et hx hu
   obtain⟨tx,g1,g2⟩:=eF hE hx
   split at hk
   ·rename_i es hes
    obtain⟨c,es',q0,q3,q4,q5⟩:=qc hR.heap hes
    have htm:=La g2 q0
    subst htm
    have hlt:r<m.length:=by rcases q0 with q1 | ⟨q1,_⟩<;>exact (List.getElem?_eq_some_iff.1 q1).1
    have hp:=hR.heap.push (pb:=.aV r es.length []) (hb:=.aV c es.length []) (mb:=.blk ts.heap.length) (.inl rfl) ⟨c,by simp,by rw[List.getElem?_append_left hlt];rcases q0 with q1 | ⟨q1,_⟩<;>rw[q1]<;>rfl,fun c' hc=>by
     rw[List.getElem?_append_left hlt] at hc
     rcases q0 with q1 | ⟨q1,_⟩<;>rw[q1] at hc<;>simp at hc<;>exact hc.symm⟩
    have go:iH P call site ts o=some (.val (.iter ts.heap.length),{ ts with heap:=ts.heap++[.aV c es.length []] },lu (.h c)):=by
     simp only[iH,ho,g1,hu,q3,q4]
    exact⟨.val (.iter ps.heap.length),_,_,_,⟨_,_,lu (.h c),_,go,rfl,rfl,hR.step hp.1 hp.2.1 hp.2.2,iE (.iter (by rw[←hR.heap.len];simp)),hp.2.1,hp.2.2,IR.reads rfl (fun b hb=>by simp[lu] at hb;subst hb;exact⟨DZ q0,(List.getElem?_eq_some_iff.1 q3).1⟩) (by simp[lu]),fun b hb=>by simp[lu] at hb⟩,hk⟩
   ·exact hk.elim
  ·exact hk.elim
 ·-- entry
  rename_i x ho
  split at hk
  ·rename_i b hx
   obtain⟨tx,g1,g2⟩:=eF hE hx
   split at hk
   ·rename_i r n i seen hb
    split at hk
    ·rename_i es hes
     split at hk
     ·rename_i kk vv _ rest
      obtain⟨⟨hn,he⟩,hk⟩:=hk
      obtain⟨e,rfl,rfl⟩:∃ e:PV X.Γ×PV X.Γ,e.1=kk∧e.2=vv:=⟨(kk,vv),rfl,rfl⟩
      have he:es[i]? = some e:=he
      obtain⟨mb,q1,q2⟩:=hR.heap.at_ b _ hb
      cases mb with
      | blk cb=>
       obtain⟨c,q3,_,q5⟩:=q2
       obtain⟨c',es',z1,z3,z4,z5⟩:=qc hR.heap hes
       have:=q5 c' (by rcases z1 with z1 | ⟨z1,_⟩;exact .inl z1;exact .inr z1)
       subst this
       cases g2 with
       | gone hi e _=>simp only[aF,Option.some.injEq] at hi;subst hi;rw[q1] at e;cases e
       | iter e1=>
        rw[q1] at e1;cases e1
        have hl:i<es'.length:=by rw[←z4];exact (List.getElem?_eq_some_iff.1 he).1
        have he':=List.getElem?_eq_getElem hl
        have hv:=z5 i _ _ he he'
        refine⟨.val (.bf [e.1,e.2]),_,_,_,⟨.val (.bf [es'[i].1,es'[i].2]),ts,bT [.h cb,.h c'],m,?_,rfl,rfl,hR,iE (zA (mD hv.1) (mD hv.2)),.refl,.refl,IR.reads rfl (fun b2 hb2=>?_) (by simp[bT]),fun b hb=>by simp[bT] at hb⟩,hk⟩
        ·simp only[iH,ho,g1,q3,z3]
         rw[if_pos (by rw[←z4];exact hn),he'];rfl
        ·simp[bT] at hb2
         rcases hb2 with rfl | rfl
         ·exact⟨.inl ⟨b,by simp[bT],dO q1 rfl⟩,(List.getElem?_eq_some_iff.1 q3).1⟩
         ·refine⟨?_,(List.getElem?_eq_some_iff.1 z3).1⟩
          rcases z1 with z1 | ⟨_,z1⟩
          ·exact .inl ⟨r,by simp[bT],dO z1 rfl⟩
          ·exact .inr z1
      | _=>exact q2.elim
     ·split at hk
      case isFalse=>exact hk.elim
      rename_i hn
      split at hk
      case h_2=>exact hk.elim
      rename_i e he
      obtain⟨mb,q1,q2⟩:=hR.heap.at_ b _ hb
      cases mb with
      | blk cb=>
       obtain⟨c,q3,_,q5⟩:=q2
       obtain⟨c',es',z1,z3,z4,z5⟩:=qc hR.heap hes
       have:=q5 c' (by rcases z1 with z1 | ⟨z1,_⟩;exact .inl z1;exact .inr z1)
       subst this
       cases g2 with
       | gone hi e _=>simp only[aF,Option.some.injEq] at hi;subst hi;rw[q1] at e;cases e
       | iter e1=>
        rw[q1] at e1;cases e1
        have hl:i<es'.length:=by rw[←z4];exact (List.getElem?_eq_some_iff.1 he).1
        have he':=List.getElem?_eq_getElem hl
        have hv:=z5 i _ _ he he'
        refine⟨.val (.bf [e.1,e.2]),_,_,_,⟨.val (.bf [es'[i].1,es'[i].2]),ts,bT [.h cb,.h c'],m,?_,rfl,rfl,hR,iE (zA (mD hv.1) (mD hv.2)),.refl,.refl,IR.reads rfl (fun b2 hb2=>?_) (by simp[bT]),fun b hb=>by simp[bT] at hb⟩,hk⟩
        ·simp only[iH,ho,g1,q3,z3]
         rw[if_pos (by rw[←z4];exact hn),he'];rfl
        ·simp[bT] at hb2
         rcases hb2 with rfl | rfl
         ·exact⟨.inl ⟨b,by simp[bT],dO q1 rfl⟩,(List.getElem?_eq_some_iff.1 q3).1⟩
         ·refine⟨?_,(List.getElem?_eq_some_iff.1 z3).1⟩
          rcases z1 with z1 | ⟨_,z1⟩
          ·exact .inl ⟨r,by simp[bT],dO z1 rfl⟩
          ·exact .inr z1
      | _=>exact q2.elim
    ·exact hk.elim
   ·exact hk.elim
  ·exact hk.elim
 ·exact hk.elim
end
end Pv
namespace Pv
open Go Tw
inductive UW:List MB→List HB→List PI→List Inf→Prop where
 | nil {m h}:UW m h [] []
 | cons {m h p t m1 h1 ps ts}:(blks m).Nodup→(∀ b,b∈blks m→b<h.length)→IR m h p t→Fr m h m1 h1→Up m m1→(p.mv=false→∀ (i:Nat),i<m.length→m1[i]? = some .gone→m[i]? = some .gone)→UW m1 h1 ps ts→UW m h (p::ps) (t::ts)
theorem PO {fl b c:Nat} {ws:List Nat} (h:c∈ug fl b ws):c∈ws∨(c=b∧b<fl):=by
 unfold ug at h
 split at h
 ·rename_i hl
  split at h
  ·exact .inl h
  ·rcases List.mem_cons.1 h with h | h
   ·exact .inr ⟨h,hl⟩
   ·exact .inl h
 ·exact .inl h
theorem rE {fl c:Nat}:∀ {ks:List Key} {ws:List Nat},c∈bU fl ks ws→c∈ws∨(.h c∈ks∧c<fl)
 | [],ws,h=>.inl h
 | .h b::ks,ws,h=>by
  rcases rE (ks:=ks) h with h | ⟨h1,h2⟩
  ·rcases PO h with h | ⟨rfl,h⟩
   ·exact .inl h
   ·exact .inr ⟨List.mem_cons_self,h⟩
  ·exact .inr ⟨List.mem_cons_of_mem _ h1,h2⟩
 | .l _::ks,ws,h=>by
  rcases rE (ks:=ks) h with h | ⟨h1,h2⟩
  ·exact .inl h
  ·exact .inr ⟨List.mem_cons_of_mem _ h1,h2⟩
theorem GI {m m1:List MB} (hU:Up m m1) (hg:∀ (i:Nat),i<m.length→m1[i]? = some .gone→m[i]? = some .gone) {i b:Nat} (h:Own m i b):Own m1 i b:=by
 obtain⟨mb,h1,h2⟩:=h
 rcases hU i mb h1 with e | e
 ·exact⟨mb,e,h2⟩
 ·have:=hg i (List.getElem?_eq_some_iff.1 h1).1 e
  rw[h1] at this;cases this;cases h2
theorem qg {m:List MB} (hn:(blks m).Nodup) {i j b:Nat} (h1:Own m i b) (h2:Own m j b):i=j:=by
 obtain⟨_,a1,a2⟩:=h1
 obtain⟨_,b1,b2⟩:=h2
 exact dw hn a1 b1 a2 b2
theorem Tj {ma mb:List MB} {ha hb:List HB} {pa pb:PI} {ta tb:Inf} (na:(blks ma).Nodup) (nb:(blks mb).Nodup) (la:∀ b,b∈blks ma→b<ha.length) (hab:Fr ma ha mb hb) (A:IR ma ha pa ta) (B:IR mb hb pb tb) (hc:KP pa pb=true)
  (hmv:(∀ i b,Own ma i b→Own mb i b)∨pa.hp=false∨pb.hp=false):calm ta tb=true:=by
 simp only[KP,Bool.and_eq_true] at hc
 obtain⟨c1,c2⟩:=hc
 simp only[Jc,Bool.and_eq_true,List.all_eq_true,Bool.not_eq_true',Bool.or_eq_true] at c1 c2
 obtain⟨c1,c1w⟩:=c1
 obtain⟨c2,c2w⟩:=c2
 simp only[calm,Bool.and_eq_true]
 constructor
 ·simp only[zO,List.all_eq_true,Bool.and_eq_true,Bool.not_eq_true',Bool.and_eq_false_iff]
  intro k hk
  cases k with
  | l j=>
   have:=c1 _ (A.wl j hk)
   simp only[List.contains_eq_mem,decide_eq_false_iff_not] at this ⊢
   exact⟨⟨.inr rfl,fun h=>this.1.1.2 (B.tl j h)⟩,fun h=>this.1.2 (B.wl j h)⟩
  | h c=>
   rcases hmv with hkeep | hmv | hmv
   ·-- nothing is given up
    have hca:c∈blks ma:=by
     rcases A.wh c hk with⟨i,_,h2⟩ | ⟨_,h2⟩
     ·exact Jf h2
     ·exact h2
    obtain⟨i0,hi0⟩:=eY hca
    have hi1:=hkeep _ _ hi0
    have hcb:c∈blks mb:=Jf hi1
    rcases A.wh c hk with⟨i,h1,h2⟩ | ⟨h1,h2⟩
    ·have hii:=qg na hi0 h2;subst hii
     have hcc:=c1 _ h1
     simp only[List.contains_eq_mem,decide_eq_false_iff_not,Key.NY,Bool.and_true] at hcc
     refine⟨⟨.inl ?_,?_⟩,?_⟩
     ·cases hq:tb.all with
      | false=>rfl
      | true=>rw[B.all hq] at hcc;simp at hcc
     ·simp only[List.contains_eq_mem,decide_eq_false_iff_not]
      intro hq
      rcases (B.th c hq).1 with⟨j,g1,g2⟩ | g1
      ·have:=qg nb hi1 g2;subst this
       exact hcc.1.1.2 g1
      ·exact g1 hcb
     ·simp only[List.contains_eq_mem,decide_eq_false_iff_not]
      intro hq
      rcases B.wh c hq with⟨j,g1,g2⟩ | ⟨g1,g2⟩
      ·have:=qg nb hi1 g2;subst this
       exact hcc.1.2 g1
      ·rw[g1] at hcc;simp at hcc
    ·rw[h1] at c1w
     simp only[Bool.true_eq_false,false_or] at c1w
     obtain⟨⟨⟨w1,w2⟩,w3⟩,w4⟩:=c1w
     refine⟨⟨.inl ?_,?_⟩,?_⟩
     ·cases hq:tb.all with
      | false=>rfl
      | true=>rw[B.all hq] at w1;cases w1
     ·simp only[List.contains_eq_mem,decide_eq_false_iff_not]
      intro hq
      rcases (B.th c hq).1 with⟨j,g1,g2⟩ | g1
      ·have:=w3 _ g1;simp[Key.NY] at this
      ·exact g1 hcb
     ·simp only[List.contains_eq_mem,decide_eq_false_iff_not]
      intro hq
      rcases B.wh c hq with⟨j,g1,g2⟩ | ⟨g1,g2⟩
      ·have:=w4 _ g1;simp[Key.NY] at this
      ·rw[g1] at w2;cases w2
   ·exact absurd hk ((A.hp hmv).2.2 c)
   ·obtain⟨g1,g2,g3⟩:=B.hp hmv
    refine⟨⟨.inl g1,?_⟩,?_⟩<;>simp only[List.contains_eq_mem,decide_eq_false_iff_not]
    ·exact g2 c
    ·exact g3 c
 ·simp only[zO,List.all_eq_true,Bool.and_eq_true,Bool.not_eq_true',Bool.and_eq_false_iff]
  intro k hk
  cases k with
  | l j=>
   have:=c2 _ (B.wl j hk)
   simp only[List.contains_eq_mem,decide_eq_false_iff_not] at this ⊢
   exact⟨⟨.inr rfl,fun h=>this.1.1.2 (A.tl j h)⟩,fun h=>this.1.2 (A.wl j h)⟩
  | h c=>
   rcases hmv with hkeep | hmv | hmv
   ·have hcb:c∈blks mb:=by
     rcases B.wh c hk with⟨i,_,h2⟩ | ⟨_,h2⟩
     ·exact Jf h2
     ·exact h2
    obtain⟨j0,hj0⟩:=eY hcb
    have back:c<ha.length→c∈blks ma:=fun hlt=>by
     rcases hab.new c hcb with h1 | h1
     ·exact h1
     ·omega
    have own':∀ i,Own ma i c→i=j0:=fun i hi=>qg nb (hkeep _ _ hi) hj0
    rcases B.wh c hk with⟨j,h1,h2⟩ | ⟨h1,h2⟩
    ·have hii:=qg nb hj0 h2;subst hii
     have hcc:=c2 _ h1
     simp only[List.contains_eq_mem,decide_eq_false_iff_not,Key.NY,Bool.and_true] at hcc
     refine⟨⟨.inl ?_,?_⟩,?_⟩
     ·cases hq:ta.all with
      | false=>rfl
      | true=>rw[A.all hq] at hcc;simp at hcc
     ·simp only[List.contains_eq_mem,decide_eq_false_iff_not]
      intro hq
      obtain⟨g0,glt⟩:=A.th c hq
      rcases g0 with⟨i,g1,g2⟩ | g1
      ·have:=own' i g2;subst this
       exact hcc.1.1.2 g1
      ·exact g1 (back glt)
     ·simp only[List.contains_eq_mem,decide_eq_false_iff_not]
      intro hq
      rcases A.wh c hq with⟨i,g1,g2⟩ | ⟨g1,g2⟩
      ·have:=own' i g2;subst this
       exact hcc.1.2 g1
      ·rw[g1] at hcc;simp at hcc
    ·rw[h1] at c2w
     simp only[Bool.true_eq_false,false_or] at c2w
     obtain⟨⟨⟨w1,w2⟩,w3⟩,w4⟩:=c2w
     refine⟨⟨.inl ?_,?_⟩,?_⟩
     ·cases hq:ta.all with
      | false=>rfl
      | true=>rw[A.all hq] at w1;cases w1
     ·simp only[List.contains_eq_mem,decide_eq_false_iff_not]
      intro hq
      obtain⟨g0,glt⟩:=A.th c hq
      rcases g0 with⟨i,g1,g2⟩ | g1
      ·have:=w3 _ g1;simp[Key.NY] at this
      ·exact g1 (back glt)
     ·simp only[List.contains_eq_mem,decide_eq_false_iff_not]
      intro hq
      rcases A.wh c hq with⟨i,g1,g2⟩ | ⟨g1,g2⟩
      ·have:=w4 _ g1;simp[Key.NY] at this
      ·rw[g1] at w2;cases w2
   ·obtain⟨g1,g2,g3⟩:=A.hp hmv
    refine⟨⟨.inl g1,?_⟩,?_⟩<;>simp only[List.contains_eq_mem,decide_eq_false_iff_not]
    ·exact g2 c
    ·exact g3 c
   ·exact absurd hk ((B.hp hmv).2.2 c)
theorem PS:∀ {ps:List PI} {ts:List Inf} {m:List MB} {h:List HB},UW m h ps ts→∀ {j:Nat} {p:PI},ps[j]? = some p→∃ t mj hj,ts[j]? = some t∧IR mj hj p t∧(blks mj).Nodup∧(∀ b,b∈blks mj→b<hj.length)∧Fr m h mj hj∧((∀ (i:Nat) q,i<j→ps[i]? = some q→q.mv=false)→∀ i b,Own m i b→Own mj i b)
 | _,_,_,_,.nil,j,p,hj=>by simp at hj
 | _,_,m,h,.cons n1 n2 i1 f1 u1 g1 rest,j,p,hj=>by
  cases j with
  | zero=>
   simp only[List.getElem?_cons_zero,Option.some.injEq] at hj;subst hj
   exact⟨_,m,h,rfl,i1,n1,n2,.refl,fun _ i b hb=>hb⟩
  | succ j=>
   obtain⟨t,mj,hj',e1,e2,e3,e4,e5,e6⟩:=PS rest (j:=j) (by simpa using hj)
   refine⟨t,mj,hj',by simpa using e1,e2,e3,e4,f1.trans e5,fun hq i b hb=>e6 (fun i q hl hi=>hq (i+1) q (by omega) (by simpa using hi)) i b ?_⟩
   exact GI u1 (g1 (hq 0 _ (by omega) rfl)) hb
theorem Le:∀ {ps:List PI} {ts:List Inf} {m:List MB} {h:List HB},UW m h ps ts→∀ {i j:Nat} {p q:PI},i<j→ps[i]? = some p→ps[j]? = some q→KP p q=true→((∀ (k:Nat) q,i≤k→k<j→ps[k]? = some q→q.mv=false)∨p.hp=false∨q.hp=false)→∃ a b,ts[i]? = some a∧ts[j]? = some b∧calm a b=true
 | _,_,_,_,.nil,i,j,p,q,_,hi,_,_,_=>by simp at hi
 | _,_,m,h,.cons n1 n2 i1 f1 u1 g1 rest,i,j,p,q,hij,hi,hj,hc,hmv=>by
  cases j with
  | zero=>omega
  | succ j=>
   cases i with
   | zero=>
    simp only[List.getElem?_cons_zero,Option.some.injEq] at hi;subst hi
    obtain⟨t,mj,hj',e1,e2,e3,e4,e5,e6⟩:=PS rest (j:=j) (by simpa using hj)
    refine⟨_,t,rfl,by simpa using e1,Tj n1 e3 n2 (f1.trans e5) i1 e2 hc ?_⟩
    refine hmv.imp_left fun hq i b hb=>e6 (fun i q hl hi=>hq (i+1) q (by omega) (by omega) (by simpa using hi)) i b (GI u1 (g1 (hq 0 _ (by omega) (by omega) rfl)) hb)
   | succ i=>
    obtain⟨a,b,e1,e2,e3⟩:=Le rest (i:=i) (j:=j) (by omega) (by simpa using hi) (by simpa using hj) hc (hmv.imp_left fun hq k q h1 h2 hi=>hq (k+1) q (by omega) (by omega) (by simpa using hi))
    exact⟨a,b,by simpa using e1,by simpa using e2,e3⟩
theorem PU {ps:List PI} {ts:List Inf} {m:List MB} {h:List HB} (hI:UW m h ps ts):∀ {XI:List (Nat×Nat)},(∀ q∈XI,q.1<q.2)→ET ps XI=true→jQ ts XI=true
 | [],_,_=>rfl
 | (i,j)::r,hlt,hd=>by
  simp only[ET,Bool.and_eq_true] at hd
  obtain⟨h1,h2⟩:=hd
  split at h1
  ·rename_i a b ha hb
   simp only[Bool.and_eq_true,Bool.or_eq_true,Bool.not_eq_true'] at h1
   obtain⟨x,y,e1,e2,e3⟩:=Le hI (hlt _ List.mem_cons_self) ha hb h1.1 (by
    rcases h1.2 with (h3 | h3) | h3
    ·exact .inr (.inl h3)
    ·exact .inr (.inr h3)
    ·left
     intro k q hk1 hk2 hk
     cases hq:q.mv with
     | false=>rfl
     | true=>
      refine absurd (List.any_eq_true.2 ⟨q,List.mem_of_getElem? (i:=k-i) ?_,hq⟩) (by rw[h3];simp)
      rw[List.getElem?_take,if_pos (by omega),List.getElem?_drop,←hk];congr 1;omega)
   simp only[jQ,e1,e2,e3,Bool.true_and]
   exact PU hI (fun q hq=>hlt q (List.mem_cons_of_mem _ hq)) h2
  ·cases h1
theorem Ws {ops:List Oper}:∀ q∈dK ops,q.1<q.2:=by
 intro q hq
 unfold dK at hq
 have:=(List.mem_filter.1 hq).1
 unfold fE at this
 simp only[List.mem_flatMap,List.mem_map,List.mem_filter,List.mem_range] at this
 obtain⟨j,_,i,⟨hi,_⟩,rfl⟩:=this
 exact hi
theorem E8 {ts:List Inf} (hw:∀ t∈ts,t.ws=[]):∀ {XI:List (Nat×Nat)},(∀ q∈XI,q.1<ts.length∧q.2<ts.length)→jQ ts XI=true
 | [],_=>rfl
 | (i,j)::r,hl=>by
  obtain⟨h1,h2⟩:=hl _ List.mem_cons_self
  simp only[jQ,List.getElem?_eq_getElem h1,List.getElem?_eq_getElem h2,Bool.and_eq_true]
  refine⟨?_,E8 hw fun q hq=>hl q (List.mem_cons_of_mem _ hq)⟩
  simp[calm,zO,hw _ (List.getElem_mem h1),hw _ (List.getElem_mem h2)]
theorem Wu {ops:List Oper}:∀ q∈dK ops,q.1<ops.length∧q.2<ops.length:=by
 intro q hq
 unfold dK at hq
 have:=(List.mem_filter.1 hq).1
 unfold fE at this
 simp only[List.mem_flatMap,List.mem_map,List.mem_filter,List.mem_range] at this
 obtain⟨j,hj,i,⟨hi,_⟩,rfl⟩:=this
 exact⟨by simp only;omega,hj⟩
end Pv
namespace Pv
open Go Tw
section
variable {X:gZ} {P:Program} {A W:Nat→Prop} {m m':List MB} {h:List HB}
structure SR (X:gZ) (P:Program) (A W:Nat→Prop) (fl:Nat) (m:List MB) (ps:aP X.Γ) (ts:St):Prop where
 st:lS X P A m ps ts
 own:∀ b,b∈blks m→W b∨fl≤b
 ws:∀ b,b∈ts.ws→W b
 fl:fl≤ts.heap.length
def CO (B:Nat) (m m1:List MB):Prop:=∀ (i:Nat) mb,i<B→m[i]? = some mb→m1[i]? = some mb∨m1[i]? = some .gone
theorem Up.b {B:Nat} {m m1:List MB} (h:Up m m1):CO B m m1:=fun i mb _ hi=>h i mb hi
theorem CO.trans {B:Nat} {m m1 m2:List MB} (a:CO B m m1) (b:CO B m1 m2):CO B m m2:=fun i mb hB hi=>by
 rcases a i mb hB hi with h | h
 ·exact b i mb hB h
 ·rcases b i _ hB h with h | h<;>exact .inr h
theorem CO.refl {B:Nat} {m:List MB}:CO B m m:=fun _ _ _ h=>.inl h
def qh (X:gZ) (P:Program) (B:Nat) (ps ps1:aP X.Γ):Prop:=
 ∀ (A W:Nat→Prop) (fl:Nat) (m:List MB) (ts:St),SR X P A W fl m ps ts→∃ m1,SR X P A W fl m1 ps1 ts∧Fr m ts.heap m1 ts.heap∧CO B m m1
theorem qh.refl {B:Nat} {ps:aP X.Γ}:qh X P B ps ps:=fun _ _ _ m _ hS=>⟨m,hS,.refl,.refl⟩
theorem qh.trans {B:Nat} {a b c:aP X.Γ} (h1:qh X P B a b) (h2:qh X P B b c):qh X P B a c:=fun A W fl m ts hS=>by
 obtain⟨m1,g1,g2,g3⟩:=h1 A W fl m ts hS
 obtain⟨m2,g4,g5,g6⟩:=h2 A W fl m1 ts g1
 exact⟨m2,g4,g2.trans g5,g3.trans g6⟩
theorem Tn {env:List (Nat×PE X.Γ)} {env':List (Nat×EV)} (he:fH X P A m h env env'):fH X P A m h (SH env) env':=by
 induction he with
 | nil=>exact .nil
 | cons h1 _ ih=>
  rename_i k v x r r' _
  cases v with
  | val v=>obtain⟨y,rfl,h2⟩:=bK h1;exact .cons (iE (uT h2)) ih
  | loc=>exact .cons h1 ih
  | undef=>exact .cons h1 ih
theorem Tq {t i:Nat} (hi:m[i]? = some (.lst (.nil .slc))):∀ {env:List (Nat×PE X.Γ)} {env':List (Nat×EV)} {r:List (Nat×PE X.Γ)},fH X P A m h env env'→J7 t i env=some r→fH X P A m h r env':=by
 intro env env' r he
 induction he generalizing r with
 | nil=>intro h;cases h
 | cons h1 h2 ih=>
  rename_i k v x q q'
  intro hn
  simp only[J7] at hn
  split at hn
  ·split at hn
   ·cases hn
    obtain⟨y,rfl,h3⟩:=bK h1
    have:y=.nil .slc:=by
     cases h3 with
     | nil=>rfl
     | gone hi _ _=>simp[aF] at hi
    subst this
    exact .cons (iE (.own hi rfl)) h2
   ·cases hn
  ·simp only[Option.map_eq_some_iff] at hn
   obtain⟨q2,h3,rfl⟩:=hn
   exact .cons h1 (ih h3)
theorem Lh {i off:Nat} (hi:m[i]? = some (.lst (.nil .slc))) {cs r:List (PV X.Γ)} {xs:List TV} (hv:aG X P A m h cs xs) (hn:SI off i cs=some r):aG X P A m h r xs:=by
 unfold SI at hn
 split at hn
 ·rename_i hc
  cases hn
  refine⟨by rw[List.length_set,hv.1],fun j a b ha hb=>?_⟩
  by_cases e:off=j
  ·subst e
   rw[List.getElem?_set_self',hc] at ha
   cases ha
   have:b=.nil .slc:=by
    cases hv.2 _ _ _ hc hb with
    | nil=>rfl
    | gone hi _ _=>simp[aF] at hi
   subst this
   exact .own hi rfl
  ·rw[List.getElem?_set_ne e] at ha
   exact hv.2 j a b ha hb
 ·cases hn
theorem SR.Fb {fl:Nat} {ps:aP X.Γ} {ts:St} (hS:SR X P A W fl m ps ts) (e:Nat):∃ m1,HR X P A m1 (ps.heap++[.list false false e []]) ts.heap∧Fr m ts.heap m1 ts.heap∧Up m m1∧m1[ps.heap.length]? = some (.lst (.nil .slc))∧(∀ b,b∈blks m1→b∈blks m):=by
 obtain⟨h1,h2,h3⟩:=hS.st.heap.UQ (pb:=.list false false e []) (mb:=.lst (.nil .slc)) rfl LR.nil
 refine⟨_,h1,h2,h3,by rw[←hS.st.heap.len];simp,fun b hb=>?_⟩
 rw[dF,List.mem_append,eU] at hb
 simpa[MB.own] using hb
theorem PW (hX:aT X P) {B:Nat} {g:G} {ps ps1:aP X.Γ} (hg:pU B ps g=some ps1):qh X P B ps ps1:=by
 intro A W fl m ts hS
 cases g with
 | lit=>
  simp only[pU,Option.some.injEq] at hg;subst hg
  exact⟨m,⟨⟨hS.st.heap,hS.st.llen,hS.st.loc,Tn hS.st.env⟩,hS.own,hS.ws,hS.fl⟩,.refl,.refl⟩
 | J7 t e=>
  simp only[pU,Option.map_eq_some_iff] at hg
  obtain⟨env,h1,rfl⟩:=hg
  obtain⟨m1,e1,e2,e3,e4,e5⟩:=hS.Fb e
  exact⟨m1,⟨⟨e1,hS.st.llen,fun k cs hk=>let ⟨cs',q1,q2⟩:=hS.st.loc k cs hk;⟨cs',q1,q2.step e2 e3⟩,Tq e4 (hS.st.env.step e2 e3) h1⟩,fun b hb=>hS.own b (e5 b hb),hS.ws,hS.fl⟩,e2,e3.b⟩
 | YC k off e=>
  simp only[pU] at hg
  split at hg
  ·rename_i cs hk
   simp only[Option.map_eq_some_iff] at hg
   obtain⟨cs1,h1,rfl⟩:=hg
   obtain⟨m1,e1,e2,e3,e4,e5⟩:=hS.Fb e
   refine⟨m1,⟨⟨e1,by simp[hS.st.llen],fun j ds hj=>?_,hS.st.env.step e2 e3⟩,fun b hb=>hS.own b (e5 b hb),hS.ws,hS.fl⟩,e2,e3.b⟩
   by_cases e0:k=j
   ·subst e0
    rw[List.getElem?_set_self',hk] at hj
    cases hj
    obtain⟨cs',q1,q2⟩:=hS.st.loc k cs hk
    exact⟨cs',q1,Lh e4 (q2.step e2 e3) h1⟩
   ·rw[List.getElem?_set_ne e0] at hj
    obtain⟨cs',q1,q2⟩:=hS.st.loc j ds hj
    exact⟨cs',q1,q2.step e2 e3⟩
  ·cases hg
 | YD i off e=>
  simp only[pU] at hg
  split at hg
  ·rename_i cs hi
   simp only[Option.map_eq_some_iff] at hg
   obtain⟨cs1,h1,rfl⟩:=hg
   obtain⟨m1,e1,e2,e3,e4,e5⟩:=hS.Fb e
   have hlt:i<ps.heap.length:=(List.getElem?_eq_some_iff.1 hi).1
   have hr2:HR X P A m1 (ps.heap.set i (.cells cs1)++[.list false false e []]) ts.heap:=by
    refine e1.next .refl .refl (by simp[e1.len]) e1.nodup fun j b hj=>?_
    by_cases e0:i=j
    ·subst e0
     right
     rw[List.getElem?_append_left (by simpa using hlt),List.getElem?_set_self',hi] at hj
     cases hj
     obtain⟨mb,q1,q2⟩:=e1.at_ i (.cells cs) (by rw[List.getElem?_append_left hlt];exact hi)
     refine⟨mb,q1,?_⟩
     cases mb with
     | blk c=>obtain⟨xs,q3,q4⟩:=q2;exact⟨xs,q3,Lh e4 q4 h1⟩
     | _=>exact q2.elim
    ·left
     have:(ps.heap++[PB.list false false e []])[j]? = some b:=by
      rw[←hj]
      rcases Nat.lt_or_ge j ps.heap.length with h9 | h9
      ·rw[List.getElem?_append_left h9,List.getElem?_append_left (by simpa using h9),List.getElem?_set_ne e0]
      ·rw[List.getElem?_append_right h9,List.getElem?_append_right (by simpa using h9),List.length_set]
     obtain⟨mb,q1,_⟩:=e1.at_ j b this
     exact⟨mb,this,q1,q1,fun _ _=>rfl⟩
   exact⟨m1,⟨⟨hr2,hS.st.llen,fun k cs hk=>let ⟨cs',q1,q2⟩:=hS.st.loc k cs hk;⟨cs',q1,q2.step e2 e3⟩,hS.st.env.step e2 e3⟩,fun b hb=>hS.own b (e5 b hb),hS.ws,hS.fl⟩,e2,e3.b⟩
  ·cases hg
 | flag i=>
  simp only[pU] at hg
  split at hg
  ·rename_i k ex t l hi
   cases hg
   have hr:=hS.st.heap
   refine⟨m,⟨⟨?_,hS.st.llen,hS.st.loc,hS.st.env⟩,hS.own,hS.ws,hS.fl⟩,.refl,.refl⟩
   refine hr.next .refl .refl (by simp[hr.len]) hr.nodup fun j b hj=>?_
   by_cases e0:i=j
   ·subst e0
    right
    rw[List.getElem?_set_self',hi] at hj
    cases hj
    obtain⟨mb,q1,q2⟩:=hr.at_ i _ hi
    refine⟨mb,q1,?_⟩
    cases mb with
    | lst y=>
     cases (q2:LR X P _ _ _ _ _ _ _ y) with
     | nil=>exact LR.nil
     | emp p0 p1 p2 p3 p4=>exact LR.emp p0 p1 p2 p3 p4
     | some p1 p2 p3 p4 p5 p6 p7 p8 p9=>exact LR.some p1 p2 p3 p4 p5 (by simp) (by simp) p8 p9
    | _=>exact q2.elim
   ·left
    rw[List.getElem?_set_ne e0] at hj
    obtain⟨mb,q1,_⟩:=hr.at_ j b hj
    exact⟨mb,hj,q1,q1,fun _ _=>rfl⟩
  ·cases hg
 | gc ks=>
  simp only[pU] at hg
  split at hg
  ·rename_i hc
   simp only[Bool.and_eq_true,decide_eq_true_eq,List.all_eq_true] at hc
   obtain⟨⟨hks,hnd⟩,hB⟩:=hc
   split at hg
   ·rename_i env loc b1 b2 h1 h2 h3 h4
    split at hg
    ·rename_i b3 h5
     cases hg
     have hr:=hS.st.heap
     have hp:=ru h4
     have a2O:∀ k∈ks,k<m.length:=fun k hk=>by
      obtain⟨i,hi⟩:=List.getElem?_of_mem hk
      obtain⟨b,q1,_⟩:=hp.2 hi
      rw[hr.len];exact (List.getElem?_eq_some_iff.1 q1).1
     have hBm:B≤m.length:=by rw[hr.len];exact hB
     let m1:List MB:=m.take B++ks.map fun k=>m.getD k .gone
     have hlt1:(m.take B).length=B:=by rw[List.length_take];omega
     have hlo:∀ i,i<B→m1[i]? = m[i]?:=fun i hi=>by
      show (m.take B++_)[i]? = _
      rw[List.getElem?_append_left (by omega),List.getElem?_take,if_pos hi]
     have hhi:∀ p k,ks[p]? = some k→m1[p+B]? = m[k]?:=fun p k hp=>by
      show (m.take B++_)[p+B]? = _
      rw[List.getElem?_append_right (by omega),hlt1,Nat.add_sub_cancel,List.getElem?_map,hp]
      have:=a2O k (List.mem_of_getElem? hp)
      simp[List.getD_eq_getElem?_getD,this]
     have hg:∀ i j,(fun i=>if i<B then some i else (kT ks i).map (·+B)) i=some j→m1[j]? = m[i]?:=fun i j hij=>by
      simp only at hij
      split at hij
      ·rename_i hi;cases hij;exact hlo i hi
      ·simp only[Option.map_eq_some_iff] at hij
       obtain⟨p,hp,rfl⟩:=hij
       exact hhi p i (Bv hp)
     have hold:∀ j mb,m1[j]? = some mb→∃ i,m[i]? = some mb∧((j<B∧i=j)∨∃ p,j=p+B∧ks[p]? = some i):=fun j mb hj=>by
      rcases Nat.lt_or_ge j B with hlt | hge
      ·exact⟨j,by rw[←hlo j hlt];exact hj,.inl ⟨hlt,rfl⟩⟩
      ·have hj2:j-B<ks.length:=by
        have:=(List.getElem?_eq_some_iff.1 hj).1
        have h9:m1.length=B+ks.length:=by show (m.take B++_).length=_;rw[List.length_append,hlt1,List.length_map]
        omega
       have hp:=List.getElem?_eq_getElem hj2
       have hh:=hhi (j-B) _ hp
       rw[show j-B+B=j by omega,hj] at hh
       exact⟨_,hh.symm,.inr ⟨j-B,by omega,hp⟩⟩
     have hbl:∀ b,b∈blks m1→b∈blks m:=fun b hb=>by
      obtain⟨j,mb,q1,q2⟩:=eY hb
      obtain⟨i,q3,_⟩:=hold j mb q1
      exact aC q3 q2
     have hA:∀ b,AA A m b→AA A m1 b:=fun b hb=>⟨hb.1,fun hm=>hb.2 (hbl b hm)⟩
     have hnd1:(blks m1).Nodup:=dQ fun i j c q1 q2=>by
      obtain⟨ma,a1,a2⟩:=q1
      obtain⟨mc,c1,c2⟩:=q2
      obtain⟨i',a3,a4⟩:=hold i ma a1
      obtain⟨j',c3,c4⟩:=hold j mc c1
      have e:=dw hr.nodup a3 c3 a2 c2
      subst e
      rcases a4 with⟨a5,a6⟩ | ⟨p,a5,a6⟩<;>rcases c4 with⟨c5,c6⟩ | ⟨q,c5,c6⟩
      ·omega
      ·have:=hks _ (List.mem_of_getElem? c6);omega
      ·have:=hks _ (List.mem_of_getElem? a6);omega
      ·have hpl:=(List.getElem?_eq_some_iff.1 a6).1
       have:p=q:=(List.getElem?_inj hpl hnd).1 (by rw[a6,c6])
       omega
     have hFr:Fr m ts.heap m1 ts.heap:=⟨Nat.le_refl _,fun _ _ _=>rfl,fun b hb=>.inl (hbl b hb),fun b cs hc=>⟨cs,hc,Nat.le_refl _⟩⟩
     have hb1:=jB h3
     have hb3:=jB h5
     have hl2:=BA h2
     refine⟨m1,⟨⟨⟨?_,fun j b hj=>?_,hnd1,hr.up,fun b hb=>hr.uS b (hbl b hb)⟩,by rw[hl2.1];exact hS.st.llen,fun k cs hk=>?_,Bz hX hg hA hS.st.env h1⟩,fun b hb=>hS.own b (hbl b hb),hS.ws,hS.fl⟩,hFr,fun i mb hi hm=>.inl (by rw[hlo i hi];exact hm)⟩
     ·show (m.take B++_).length=_
      rw[List.length_append,List.length_append,List.length_map,hb1.1,hb3.1,hp.1,hlt1,List.length_take]
      omega
     ·have hlen1:b1.length=B:=by rw[hb1.1,List.length_take];omega
      rcases Nat.lt_or_ge j B with hlt | hge
      ·rw[List.getElem?_append_left (by omega)] at hj
       obtain⟨b0,q1,q2⟩:=hb1.2 hj
       rw[List.getElem?_take,if_pos hlt] at q1
       obtain⟨mb,q3,q4⟩:=hr.at_ j b0 q1
       exact⟨mb,by rw[hlo j hlt];exact q3,qZ hX hg hA (fun c _ h9 h8=>h9 (hbl c h8)) q4 q2⟩
      ·rw[List.getElem?_append_right (by omega),hlen1] at hj
       obtain⟨b0,q1,q2⟩:=hb3.2 hj
       have hj2:j-B<ks.length:=by rw[←hp.1];exact (List.getElem?_eq_some_iff.1 q1).1
       obtain⟨b9,q5,q6⟩:=hp.2 (List.getElem?_eq_getElem hj2)
       rw[q1] at q6;cases q6
       obtain⟨mb,q3,q4⟩:=hr.at_ _ _ q5
       refine⟨mb,?_,qZ hX hg hA (fun c _ h9 h8=>h9 (hbl c h8)) q4 q2⟩
       have:=hhi (j-B) _ (List.getElem?_eq_getElem hj2)
       rw[show j-B+B=j by omega] at this
       rw[this];exact q3
     ·obtain⟨cs0,q1,q2⟩:=hl2.2 hk
      obtain⟨cs',q3,q4⟩:=hS.st.loc k cs0 q1
      exact⟨cs',q3,mY hX hg hA q4 q2⟩
    ·cases hg
   ·cases hg
  ·cases hg
 | mv i=>
  simp only[pU] at hg
  split at hg
  ·rename_i b0 hi
   split at hg
   ·rename_i env loc b1 b2 h1 h2 h3 h4
    cases hg
    have hr:=hS.st.heap
    have hlt:i<ps.heap.length:=(List.getElem?_eq_some_iff.1 hi).1
    obtain⟨mi,mi1,mi2⟩:=hr.at_ i b0 hi
    let m1:List MB:=m.set i .gone++[mi]
    have hl0:(m.set i .gone).length=ps.heap.length:=by rw[List.length_set,hr.len]
    have hlo:∀ j,j<ps.heap.length→j≠i→m1[j]? = m[j]?:=fun j hj hn=>by
     show (m.set i .gone++[mi])[j]? = _
     rw[List.getElem?_append_left (by omega),List.getElem?_set_ne (fun e=>hn e.symm)]
    have hat:m1[i]? = some .gone:=by
     show (m.set i .gone++[mi])[i]? = _
     rw[List.getElem?_append_left (by omega),List.getElem?_set_self',mi1];rfl
    have hhi:m1[ps.heap.length]? = some mi:=by
     show (m.set i .gone++[mi])[ps.heap.length]? = _
     rw[List.getElem?_append_right (by omega),hl0,Nat.sub_self];rfl
    have hg:∀ a b,(fun j=>if j=i then some ps.heap.length else if j<ps.heap.length then some j else none) a=some b→m1[b]? = m[a]?:=fun a b hab=>by
     simp only at hab
     split at hab
     ·rename_i e;subst e;cases hab;rw[hhi,mi1]
     ·split at hab
      ·rename_i e1 e2;cases hab;exact hlo a e2 e1
      ·cases hab
    have hold:∀ j mb,m1[j]? = some mb→mb=.gone∨∃ k,m[k]? = some mb∧((j<ps.heap.length∧k=j∧j≠i)∨(j=ps.heap.length∧k=i)):=fun j mb hj=>by
     have hj2:j<ps.heap.length+1:=by
      have:=(List.getElem?_eq_some_iff.1 hj).1
      have h9:m1.length=ps.heap.length+1:=by show (m.set i .gone++[mi]).length=_;rw[List.length_append,hl0];rfl
      omega
     by_cases e:j=i
     ·subst e;rw[hat] at hj;cases hj;exact .inl rfl
     ·rcases Nat.lt_or_ge j ps.heap.length with h5 | h5
      ·exact .inr ⟨j,by rw[←hlo j h5 e];exact hj,.inl ⟨h5,rfl,e⟩⟩
      ·have:j=ps.heap.length:=by omega
       subst this
       rw[hhi] at hj;cases hj
       exact .inr ⟨i,mi1,.inr ⟨rfl,rfl⟩⟩
    have hbl:∀ b,b∈blks m1→b∈blks m:=fun b hb=>by
     obtain⟨j,mb,q1,q2⟩:=eY hb
     rcases hold j mb q1 with rfl | ⟨k,q3,_⟩
     ·cases q2
     ·exact aC q3 q2
    have hA:∀ b,AA A m b→AA A m1 b:=fun b hb=>⟨hb.1,fun hm=>hb.2 (hbl b hm)⟩
    have hnd1:(blks m1).Nodup:=dQ fun j k c q1 q2=>by
     obtain⟨ma,a1,a2⟩:=q1
     obtain⟨mc,c1,c2⟩:=q2
     rcases hold j ma a1 with rfl | ⟨j',a3,a4⟩
     ·cases a2
     rcases hold k mc c1 with rfl | ⟨k',c3,c4⟩
     ·cases c2
     have e:=dw hr.nodup a3 c3 a2 c2
     subst e
     rcases a4 with⟨a5,a6,a7⟩ | ⟨a5,a6⟩<;>rcases c4 with⟨c5,c6,c7⟩ | ⟨c5,c6⟩<;>omega
    have hFr:Fr m ts.heap m1 ts.heap:=⟨Nat.le_refl _,fun _ _ _=>rfl,fun b hb=>.inl (hbl b hb),fun b cs hc=>⟨cs,hc,Nat.le_refl _⟩⟩
    have hb1:=jB h3
    have hl2:=BA h2
    have YQ:b1.length=ps.heap.length:=by rw[hb1.1,List.length_set]
    refine⟨m1,⟨⟨⟨?_,fun j b hj=>?_,hnd1,hr.up,fun b hb=>hr.uS b (hbl b hb)⟩,by rw[hl2.1];exact hS.st.llen,fun k cs hk=>?_,Bz hX hg hA hS.st.env h1⟩,fun b hb=>hS.own b (hbl b hb),hS.ws,hS.fl⟩,hFr,fun j mb _ hj=>?_⟩
    ·show (m.set i .gone++[mi]).length=_
     rw[List.length_append,List.length_append,hl0,YQ];rfl
    ·rcases Nat.lt_or_ge j ps.heap.length with h5 | h5
     ·rw[List.getElem?_append_left (by omega)] at hj
      obtain⟨b9,q1,q2⟩:=hb1.2 hj
      by_cases e:j=i
      ·subst e
       rw[List.getElem?_set_self',hi] at q1
       cases q1
       have q2:some (PB.gone (Γ:=X.Γ))=some b:=q2
       cases q2
       exact⟨.gone,hat,trivial⟩
      ·rw[List.getElem?_set_ne (fun e2=>e e2.symm)] at q1
       obtain⟨mb,q3,q4⟩:=hr.at_ j b9 q1
       exact⟨mb,by rw[hlo j h5 e];exact q3,qZ hX hg hA (fun c _ h9 h8=>h9 (hbl c h8)) q4 q2⟩
     ·rw[List.getElem?_append_right (by omega),YQ] at hj
      have:j-ps.heap.length=0:=by
       have:=(List.getElem?_eq_some_iff.1 hj).1
       simp at this;omega
      rw[this] at hj
      cases hj
      refine⟨mi,?_,qZ hX hg hA (fun c _ h9 h8=>h9 (hbl c h8)) mi2 h4⟩
      rw[show j=ps.heap.length by omega];exact hhi
    ·obtain⟨cs0,q1,q2⟩:=hl2.2 hk
     obtain⟨cs',q3,q4⟩:=hS.st.loc k cs0 q1
     exact⟨cs',q3,mY hX hg hA q4 q2⟩
    ·by_cases e:j=i
     ·subst e;exact .inr hat
     ·have:j<ps.heap.length:=by rw[←hr.len];exact (List.getElem?_eq_some_iff.1 hj).1
      exact .inl (by rw[hlo j this e];exact hj)
   ·cases hg
  ·cases hg
theorem iy (hX:aT X P) {B:Nat}:∀ {gs:List G} {ps ps1:aP X.Γ},je B gs ps=some ps1→qh X P B ps ps1
 | [],ps,ps1,h=>by simp only[je,Option.some.injEq] at h;subst h;exact .refl
 | g::gs,ps,ps1,h=>by
  simp only[je] at h
  split at h
  ·rename_i s hs
   exact (PW hX hs).trans (iy hX h)
  ·cases h
end
end Pv
