/- Part 2 of a proof: closed runs of the given program, and the readings of its code that they use. -/
import Derived.Scope
import Derived.Maps.RangeRun
import Derived.Deep.Slices
import Derived.ChangeArms
import Derived.Carry
import Derived.Laws.StructEq
import Derived.Test.YtjkgcifieggcpaaGreatP00
set_option linter.unusedVariables false
set_option linter.unusedSimpArgs false
set_option linter.unusedSectionVars false
namespace Tw
open Go
section
variable {P:Program} {call:ay} {site:Nat→Bool} {nt:Nat} {ops:Array Oper} {M0:Mp} {h0:List HB} {w0:World} {S:Nat→St} {I:Nat→Inf}
variable {D:Nat→Prop} {M:Mp} {a:Act} {w:World} {i:Nat} {oi:Oper}
theorem Inv.nR (hZ:dX P call site nt ops M0 h0 w0 S I) (h:Inv nt ops M0 h0 w0 S I D M a w) {j:Nat} {o:Oper} (hj:ops[j]? = some o) (hd:¬D j) {k:Key} (h1:(S j).get k=none) (h2:((S (j+1)).get k).isSome=true):M k=none:=by
 cases hm:M k with
 | none=>rfl
 | some l=>
  obtain⟨τ,ht,hg,b,h3,_⟩:=h.mem k l hm
  have hlj:j<ops.size:=(Array.getElem?_eq_some_iff.1 hj).1
  by_cases hle:τ≤j
  ·have:=hZ.mono hle (by omega) (k:=k) (by simp[h3])
   simp[h1] at this
  ·exact absurd (hg.2.1 j (by omega) ⟨o,hj,.inr ⟨h1,h2⟩⟩) hd
theorem Inv.Ov (hZ:dX P call site nt ops M0 h0 w0 S I) (h:Inv nt ops M0 h0 w0 S I D M a w) (hi:ops[i]? = some oi) (hnd:¬D i) (hw:Waits D oi) {k:Key} {l:Lc} (hk:M k=some l)
  (hs:((S i).get k).isSome=true) (ht:touches (I i) k):∀ j,Wk ops S I k j→¬Ot D i j:=by
 intro j hwk hc
 have hlj:=hwk.lt
 obtain⟨oj,hj,h1 | ⟨h1,h2⟩⟩:=hwk
 ·exact (h.conf hZ hi hj hnd hw hc).1 k h1 ht
 ·rcases hc with⟨hlt,hd⟩ | ⟨hlt,hd⟩
  ·have:=h.nR hZ hj hd h1 h2
   rw[hk] at this;cases this
  ·have:=hZ.mono (k:=k) (Nat.le_of_lt hlt) (by omega) hs
   simp[h1] at this
theorem Inv.cur (hZ:dX P call site nt ops M0 h0 w0 S I) (h:Inv nt ops M0 h0 w0 S I D M a w) (hi:ops[i]? = some oi) (hnd:¬D i) (hw:Waits D oi) {k:Key} {l:Lc} (hk:M k=some l)
  (hs:((S i).get k).isSome=true) (ht:touches (I i) k):∃ b,(S i).get k=some b∧jm (kM M (S i).get).h w b l∧(wr b=true→∀ k' l',k≠k'→M k'=some l'→∀ c∈ah l,c∉ah l'):=by
 have Vu:i<ops.size:=(Array.getElem?_eq_some_iff.1 hi).1
 obtain⟨τ,hτ,hg,b,h1,h2,h3⟩:=h.mem k l hk
 obtain⟨g1,g2⟩:=hg.le hnd (h.Ov hZ hi hnd hw hk hs ht)
 refine⟨b,?_,h2.mono (uK (.refl M) fun k' hk'=>hZ.mono g1 (by omega) hk').h fun _ _=>rfl,h3⟩
 rw[hZ.const g1 (by omega) g2,h1]
theorem Inv.Kt (hZ:dX P call site nt ops M0 h0 w0 S I) (h:Inv nt ops M0 h0 w0 S I D M a w) (hi:ops[i]? = some oi) (hnd:¬D i) (hw:Waits D oi) {t:Nat} (ht:t∈oi.looksAt ops) {e:EV}
  (he:aK t (S i).env=some e):ER (kM M (S i).get) e (a.tmps.getD t Go.undef):=by
 have Vu:i<ops.size:=(Array.getElem?_eq_some_iff.1 hi).1
 obtain⟨τ,hτ,hg,h1⟩:=h.slot t
 obtain⟨g1,g2⟩:=hg.le hnd fun j hwt hc=>by
  obtain⟨oj,hj,hd⟩:=hwt
  exact (Oper.apart_spec (h.conf hZ hi hj hnd hw hc).2.2.1).1 t hd ht
 rw[hZ.Ou g1 (by omega) g2] at he
 exact (h1 e he).mono (uK (.refl M) fun k' hk'=>hZ.mono g1 (by omega) hk') fun k l hk=>by
  obtain⟨x1,x2⟩:=aX hk
  exact jE (hZ.mono g1 (by omega) x1) x2
def fM (M' M:Mp):Mp:=fun k=>match M' k with
 | some l=>some l
 | none=>M k
theorem Ox (hC:aj P call) (hZ:dX P call site nt ops M0 h0 w0 S I) (h:Inv nt ops M0 h0 w0 S I D M a w) (hi:ops[i]? = some oi) (hnd:¬D i) (hw:Waits D oi)
  {r:Option Nat} {n:Nat} {Q:Exit→Act→World→Prop} {K:Act→World→Prop} (hK:∀ M' a' w',Inv nt ops M0 h0 w0 S I (fun j=>D j∨j=i) M' a' w'→a'.defers=a.defers→K a' w') :
  wpOpIn (iO r) n P ops Q i K a w:=by
 have Vu:i<ops.size:=(Array.getElem?_eq_some_iff.1 hi).1
 have hS:=hZ.step i oi hi
 have hV:Valid (kM M (S i).get) (touches (I i)) (S i).get w:=by
  refine⟨fun k l hk ht=>?_,fun k k' l l' b hne hk hk' ht hb hwr=>?_,fun k l hk=>h.inb k l (aX hk).2⟩
  ·obtain⟨x1,x2⟩:=aX hk
   obtain⟨b,h1,h2,_⟩:=h.cur hZ hi hnd hw x2 x1 ht
   exact⟨b,h1,h2⟩
  ·obtain⟨x1,x2⟩:=aX hk
   obtain⟨b',h1,_,h3⟩:=h.cur hZ hi hnd hw x2 x1 ht
   rw[hb] at h1;cases h1
   exact h3 hwr k' l' hne (aX hk').2
 have mO:kM M (S i).get (.h (S i).heap.length)=none:=by simp[kM,St.get]
 have hnl:kM M (S i).get (.l (S i).loc.length)=none:=by simp[kM,St.get]
 have hloc:∀ j l,kM M (S i).get (.l j)=some l→∀ k' l',Key.l j≠k'→kM M (S i).get k'=some l'→∀ c∈ah l,c∉ah l':=by
  intro j l hj k' l' hne hk'
  obtain⟨τ,_,_,b,h1,_,h3⟩:=h.mem _ _ (aX hj).2
  refine h3 ?_ k' l' hne (aX hk').2
  simp only[St.get,Option.map_eq_some_iff] at h1
  obtain⟨_,_,rfl⟩:=h1
  rfl
 have hE:uq (kM M (S i).get) (S i).env a oi.op.operands:=by
  intro x hx e he
  cases x with
  | tmp t=>exact h.Kt hZ hi hnd hw (List.mem_append_left _ (List.mem_filterMap.2 ⟨.tmp t,by simpa using hx,rfl⟩)) he
  | const v=>
   simp only[xZ,Option.map_eq_some_iff] at he
   obtain⟨t,h1,rfl⟩:=he
   exact .val (.oU h1)
  | func f=>
   simp only[xZ,Option.some.injEq] at he;subst he
   exact .val (VR.fn (xs:=[]) (ys:=[]) rfl (by simp) rfl (by simp))
  | global g=>simp[xZ] at he
 have hG:yX (kM M (S i).get) (S i).env a.tmps ops oi:=by
  intro j want d hg hd e he
  exact h.Kt hZ hi hnd hw (List.mem_append_right _ (by simp[hg,hd])) he
 refine (step_ok hC hS hV mO hnl hloc hE hG fun _ ht _=>ht).2 r n Q i K hi fun x w' hst=>?_
 obtain⟨v,M',he,hp⟩:=hst
 have hX:=hp.ext
 have F1:∀ k l,M' k=some l→((S (i+1)).get k).isSome=true:=by
  intro k l hk
  cases hc:(S (i+1)).get k with
  | some b=>rfl
  | none=>
   have hn:k∉(I i).ws:=fun hin=>by
    have:=hX.has k (hX.wsub k hin)
    simp[hc] at this
   have:=hX.fK k (.inr hc) hn
   rw[hk] at this
   have:=hX.has k (aX this.symm).1
   simp[hc] at this
 have F5:∀ k l l',M k=some l→M' k=some l'→((S i).get k).isSome=true:=by
  intro k l l' hk hk'
  cases hc:(S i).get k with
  | some b=>rfl
  | none=>
   have:=h.nR hZ hi hnd hc (F1 k l' hk')
   rw[hk] at this;cases this
 have F4:jR M (fM M' M):=by
  intro k l hk
  cases hm:M' k with
  | none=>exact⟨l,by simp[fM,hm,hk],.refl l⟩
  | some l'=>
   obtain⟨l'',h1,h2⟩:=hX.wL k l (jE (F5 k l l' hk hm) hk)
   exact⟨l'',by simp[fM,h1],h2⟩
 have F2:∀ k,¬Wk ops S I k i→fM M' M k=M k:=by
  intro k hn
  cases hm:M' k with
  | none=>simp[fM,hm]
  | some l'=>
   cases hc:(S i).get k with
   | none=>
    exact absurd ⟨oi,hi,.inr ⟨hc,F1 k l' hm⟩⟩ hn
   | some b=>
    have h1:=hX.fK k (.inl (by simp[hc])) fun hin=>hn ⟨oi,hi,.inl hin⟩
    rw[hm] at h1
    simp only[fM,hm,(aX h1.symm).2]
 have F6:jR M' (kM (fM M' M) (S (i+1)).get):=fun k l hk=>⟨l,jE (F1 k l hk) (by simp[fM,hk]),.refl l⟩
 have F7:∀ k l,M (.l k)=some l→fM M' M (.l k)=some l:=by
  intro k l hk
  cases hm:M' (.l k) with
  | none=>simp[fM,hm,hk]
  | some l'=>
   have:=hp.loc k l (jE (F5 _ l l' hk hm) hk)
   simp[fM,this]
 have Oy:∀ k∈(I i).ws,∀ l,M k=some l→∀ k' l',k≠k'→M k'=some l'→∀ c∈ah l,c∉ah l':=by
  intro k hk l hl
  have hs:=hX.wsub k hk
  obtain⟨b,h1,_,h3⟩:=h.cur hZ hi hnd hw hl hs (.inr (.inl hk))
  exact h3 ((hX.wrote k hk).2 b h1)
 have hWM:∀ k l,Wk ops S I k i→fM M' M k=some l→M' k=some l∧(touches (I i) k∨((S i).get k=none∧((S (i+1)).get k).isSome=true)):=by
  intro k l hW hk
  obtain⟨o,ho,h1 | ⟨h1,h2⟩⟩:=hW
  ·obtain⟨l0,hl0⟩:=Option.isSome_iff_exists.1 (hX.wrote k h1).1
   obtain⟨l',h2,_⟩:=hX.wL k l0 hl0
   simp only[fM,h2] at hk
   exact⟨h2.trans hk,.inl (.inr (.inl h1))⟩
  ·have:=h.nR hZ hi hnd h1 h2
   cases hm:M' k with
   | none=>simp[fM,hm,this] at hk
   | some l'=>simp only[fM,hm] at hk;exact⟨hk,.inr ⟨h1,h2⟩⟩
 have a2h:∀ k,Wk ops S I k i→∀ j,Wk ops S I k j→¬Ot D i j:=by
  intro k hW
  obtain⟨o,ho,h1 | ⟨h1,h2⟩⟩:=hW
  ·obtain⟨l0,hl0⟩:=Option.isSome_iff_exists.1 (hX.wrote k h1).1
   exact h.Ov hZ hi hnd hw (aX hl0).2 (hX.wsub k h1) (.inr (.inl h1))
  ·intro j hwk hc
   have hlj:=hwk.lt
   obtain⟨oj,hj,g1 | ⟨g1,g2⟩⟩:=hwk
   ·have hsj:=hZ.wsub hj g1
    rcases hc with⟨hlt,hd⟩ | ⟨hlt,hd⟩
    ·have:=hZ.mono (k:=k) (Nat.le_of_lt hlt) (by omega) hsj
     simp[h1] at this
    ·have:=h.Kq j oj k hj hd g1
     rw[h.nR hZ hi hnd h1 h2] at this
     cases this
   ·rcases hc with⟨hlt,hd⟩ | ⟨hlt,hd⟩
    ·have:=hZ.mono (k:=k) (i:=j+1) (j:=i) hlt (by omega) g2
     simp[h1] at this
    ·have:=hZ.mono (k:=k) (i:=i+1) (j:=j) hlt (by omega) h2
     simp[g1] at this
 refine hK (fM M' M) _ w' ?_ gy
 refine
  {closed:=fun j o ho hd e hm hb=>?_
   size:=by rw[size_put];exact h.size
   mem:=fun k l hk=>?_
   inb:=fun k l hk c hc=>?_
   slot:=fun t=>?_
   Kq:=fun j o k ho hd hk=>?_
   wL:=h.wL.trans F4
   frame:=fun c hc hf=>?_
   fK:=fun k hk hn=>?_
   fresh:=fun k l hk c hc hlt=>?_
   hsize:=Nat.le_trans h.hsize hX.size
   os:=hX.os.trans h.os
   output:=hX.output.trans h.output
   tape:=hX.tape.trans h.tape
   marks:=fun d hd=>by
    rw[gy] at hd
    obtain⟨k,r,h1,h2,⟨o,h3⟩,h4,h5⟩:=h.marks d hd
    obtain⟨l',g1,g2⟩:=F4 _ _ h3
    obtain⟨o',hl⟩:∃ o',l'=.obj r o':=by
     cases l' with
     | cells ls=>exact g2.elim
     | obj r' o'=>cases g2.1;exact⟨o',rfl⟩
    refine⟨k,r,h1,h2,⟨o',by rw[g1,hl]⟩,h4,?_⟩
    rw[hX.frame r (Array.getElem?_eq_some_iff.1 h5).1 fun k' hk' l0 hl0 hc=>?_,h5]
    have hne:k'≠.h k:=fun e=>by
     have:=(hX.wrote _ hk').2 _ (e▸h4 i (by omega))
     cases this
    exact Oy k' hk' l0 (aX hl0).2 _ _ hne h3 r hc (by simp[ah])
   apart:=by rw[gy];exact h.apart }
 ·rcases hd with hd | rfl
  ·exact .inl (h.closed j o ho hd e hm hb)
  ·rw[hi] at ho;cases ho
   exact .inl (hw e hm hb)
 ·by_cases hW:Wk ops S I k i
  ·obtain⟨hm,hD⟩:=hWM k l hW hk
   obtain⟨b,h1,h2⟩:=hp.val.ok k l hm hD
   refine⟨i+1,by omega,Good.next hW (a2h k hW),b,h1,h2.mono F6.h fun _ _=>rfl,fun hwr k' l' hne hk'=>?_⟩
   cases hm':M' k' with
   | some l''=>
    simp only[fM,hm'] at hk'
    cases hk'
    exact hp.val.own k k' l l' b hne hm hm' hD h1 hwr
   | none=>
    simp only[fM,hm'] at hk'
    intro c hc hc'
    obtain⟨l0,g1,g2⟩:=hX.fresh k l hm c hc (h.inb k' l' hk' c hc')
    obtain⟨g3,g4⟩:=aX g1
    obtain⟨o,ho,g5 | ⟨g5,_⟩⟩:=hW
    ·exact Oy k g5 l0 g4 k' l' hne hk' c g2 hc'
    ·simp[g5] at g3
  ·rw[F2 k hW] at hk
   obtain⟨τ,hτ,hg,b,h1,h2,h3⟩:=h.mem k l hk
   refine⟨τ,hτ,hg.other hW,b,h1,h2.mono (uK F4 fun _ hs=>hs).h fun c hc=>?_,fun hwr k' l' hne hk'=>?_⟩
   ·refine hX.frame c (h.inb k l hk c hc) fun k'' hk'' l'' hl'' hc''=>?_
    have hne:k''≠k:=fun e=>hW ⟨oi,hi,.inl (e▸hk'')⟩
    exact Oy k'' hk'' l'' (aX hl'').2 k l hne hk c hc'' hc
   ·cases hm':M' k' with
    | some l''=>
     simp only[fM,hm'] at hk'
     cases hk'
     intro c hc hc'
     obtain⟨l0,g1,g2⟩:=hX.fresh k' l' hm' c hc' (h.inb k l hk c hc)
     exact h3 hwr k' l0 hne (aX g1).2 c hc g2
    | none=>
     simp only[fM,hm'] at hk'
     exact h3 hwr k' l' hne hk'
 ·cases hm:M' k with
  | some l'=>
   simp only[fM,hm] at hk
   cases hk
   exact hp.val.inb k l hm c hc
  | none=>
   simp only[fM,hm] at hk
   exact Nat.lt_of_lt_of_le (h.inb k l hk c hc) hX.size
 ·by_cases hT:oi.dst=some t
  ·refine⟨i+1,by omega,Good.next (W:=Wt ops t) ⟨oi,hi,hT⟩ (fun j hwt hc=>?_),fun e hl=>?_⟩
   ·obtain⟨oj,hj,hd⟩:=hwt
    exact (Oper.apart_spec (h.conf hZ hi hj hnd hw hc).2.2.2).2.1 t hT hd
   ·rw[he,qO,if_pos hT] at hl
    cases hl
    have h1:=hS.dst hT
    have h2:=h.size
    rw[uF,if_pos ⟨hT,by omega⟩]
    exact hp.er.mono F6 fun k l hk=>jE (F1 _ l hk) (by simp[fM,hk])
  ·obtain⟨τ,hτ,hg,h1⟩:=h.slot t
   refine⟨τ,hτ,hg.other fun⟨o,ho,hd⟩=>?_,fun e hl=>?_⟩
   ·rw[hi] at ho;cases ho;exact hT hd
   ·rw[uF,if_neg fun hh=>hT hh.1]
    refine (h1 e hl).mono (uK F4 fun _ hs=>hs) fun k l hk=>?_
    obtain⟨g1,g2⟩:=aX hk
    exact jE g1 (F7 k l g2)
 ·have hM:∀ k,(M k).isSome=true→(fM M' M k).isSome=true:=by
   intro k hk
   obtain⟨l,hl⟩:=Option.isSome_iff_exists.1 hk
   obtain⟨l',h1,_⟩:=F4 k l hl
   simp[h1]
  rcases hd with hd | rfl
  ·exact hM k (h.Kq j o k ho hd hk)
  ·obtain⟨l0,hl0⟩:=Option.isSome_iff_exists.1 (hX.wrote k hk).1
   exact hM k (by simp[(aX hl0).2])
 ·rw[←h.frame c hc hf]
  refine hX.frame c (Nat.lt_of_lt_of_le hc h.hsize) fun k hk l hl hcl=>?_
  obtain⟨l0,h1,h2⟩:=h.fresh k l (aX hl).2 c hcl hc
  exact hf k (hZ.UG hi hk (hZ.base.val.has h1)) l0 h1 h2
 ·rw[←h.fK k hk hn]
  refine F2 k fun hW=>?_
  obtain⟨o,ho,h1 | ⟨h1,h2⟩⟩:=hW
  ·rcases hk with hk | hk
   ·exact hn (hZ.UG hi h1 hk)
   ·have:=hZ.mono (k:=k) (i:=i) (Nat.le_of_lt Vu) (Nat.le_refl _) (hX.wsub k h1)
    simp[hk] at this
  ·rcases hk with hk | hk
   ·have:=hZ.old (Nat.le_of_lt Vu) hk
    simp[h1] at this
   ·have:=hZ.mono (k:=k) (i:=i+1) Vu (Nat.le_refl _) h2
    simp[hk] at this
 ·cases hm:M' k with
  | some l'=>
   simp only[fM,hm] at hk
   cases hk
   obtain⟨l0,h1,h2⟩:=hX.fresh k l hm c hc (Nat.lt_of_lt_of_le hlt h.hsize)
   exact h.fresh k l0 (aX h1).2 c h2 hlt
  | none=>
   simp only[fM,hm] at hk
   exact h.fresh k l hk c hc hlt
def und (listed:Array Bool):Nat→Nat
 | 0=>0
 | k+1=>und listed k+if listed.getD k false=true then 0 else 1
theorem Oz (listed:Array Bool):∀ k,und listed k≤k
 | 0=>Nat.le_refl _
 | k+1=>by have:=Oz listed k;simp only[und];split<;>omega
theorem FZ {listed:Array Bool}:∀ {k:Nat},und listed k=0→∀ j,j<k→listed.getD j false=true
 | 0,_,j,hj=>by omega
 | k+1,h,j,hj=>by
  simp only[und] at h
  by_cases he:j=k
  ·subst he
   split at h
   ·assumption
   ·omega
  ·exact FZ (k:=k) (by omega) j (by omega)
theorem Ah {listed:Array Bool} {i:Nat} (hi:i<listed.size) (j:Nat):(listed.setIfInBounds i true).getD j false=if j=i then true else listed.getD j false:=by
 simp only[Array.getD_eq_getD_getElem?,Array.getElem?_setIfInBounds]
 by_cases h:i=j
 ·subst h;simp[hi]
 ·simp[h,Ne.symm h]
theorem Ku {listed:Array Bool} {i:Nat} (hi:i<listed.size) (hn:listed.getD i false=false):∀ k,und (listed.setIfInBounds i true) k+(if i<k then 1 else 0)=und listed k
 | 0=>by simp[und]
 | k+1=>by
  have ih:=Ku hi hn k
  simp only[und,Ah hi]
  by_cases he:k=i
  ·subst he
   simp only[if_true,hn]
   simp at ih ⊢
   omega
  ·simp only[he,if_false]
   by_cases hlt:i<k
   ·rw[if_pos hlt] at ih
    rw[if_pos (by omega:i<k+1)]
    omega
   ·rw[if_neg hlt] at ih
    rw[if_neg (by omega:¬i<k+1)]
    omega
theorem jw {listed:Array Bool} (hsz:listed.size=ops.size) {i:Nat}:i∈Region.ready .any ops listed↔∃ o,ops[i]? = some o∧listed.getD i false=false∧Waits (fun j=>listed.getD j false=true) o:=by
 simp only[Region.ready,List.mem_filter,List.mem_range,Bool.and_eq_true]
 constructor
 ·rintro⟨h1,h2,h3⟩
  refine⟨ops[i],Array.getElem?_eq_getElem h1,?_,?_⟩
  ·have hl:i<listed.size:=by omega
   simp only[Array.getD,hl,dite_true] at h2 ⊢
   simpa using h2
  ·intro e he hb
   rw[Array.getElem?_eq_getElem h1] at h3
   simp only[Option.map_some,Option.getD_some,Array.all_eq_true_iff_forall_mem] at h3
   have:=h3 e he
   simpa[hb] using this
 ·rintro⟨o,ho,h2,h3⟩
  have h1:i<ops.size:=(Array.getElem?_eq_some_iff.1 ho).1
  refine⟨h1,?_,?_⟩
  ·have hl:i<listed.size:=by omega
   simp only[Array.getD,hl,dite_true] at h2 ⊢
   simpa using h2
  ·rw[ho]
   simp only[Option.map_some,Option.getD_some,Array.all_eq_true_iff_forall_mem]
   intro e he
   cases hb:Region.binds .any e with
   | false=>rfl
   | true=>simpa using h3 e he hb
theorem any_ok (hC:aj P call) (hZ:dX P call site nt ops M0 h0 w0 S I) {r:Option Nat} {n:Nat} {Q:Exit→Act→World→Prop} {ds:List Deferred}
  (hQ:∀ M' a' w',Rel M0 h0 w0 nt M' (S ops.size) a' w'→a'.defers=ds→Q .normal a' w'):∀ (fuel:Nat) (listed:Array Bool) (M:Mp) (a:Act) (w:World),listed.size=ops.size →
  Inv nt ops M0 h0 w0 S I (fun j=>listed.getD j false=true) M a w→und listed ops.size≤fuel→a.defers=ds→wpAnyIn (iO r) n P .any ops Q fuel listed a w:=by
 intro fuel
 have hall:∀ (listed:Array Bool),listed.size=ops.size→Region.ready .any ops listed=[]→∀ j,j<ops.size→listed.getD j false=true:=by
  intro listed hsz hr j
  induction j using Nat.strongRecOn with
  | _ j ih=>
   intro hj
   cases hd:listed.getD j false with
   | true=>rfl
   | false=>
    have:j∈Region.ready .any ops listed:=(jw hsz).2 ⟨ops[j],Array.getElem?_eq_getElem hj,hd,fun e he hb=>by
     have hlt:=FY hZ.stat (i:=j) (o:=ops[j]) (by simp) he hb
     exact ih e.on hlt (by omega)⟩
    rw[hr] at this;cases this
 induction fuel with
 | zero=>
  intro listed M a w hsz hI hu hd
  have hz:=FZ (Nat.le_zero.1 hu)
  refine⟨?_,hQ M a w (Kr hZ hI hz) hd⟩
  refine List.eq_nil_iff_forall_not_mem.2 fun i hi=>?_
  obtain⟨o,ho,h1,_⟩:=(jw hsz).1 hi
  rw[hz i (Array.getElem?_eq_some_iff.1 ho).1] at h1
  cases h1
 | succ fuel ih=>
  intro listed M a w hsz hI hu hd
  refine⟨fun hr=>hQ M a w (Kr hZ hI (hall listed hsz hr)) hd,fun i hi=>?_⟩
  obtain⟨o,ho,h1,h2⟩:=(jw hsz).1 hi
  have Vu:i<ops.size:=(Array.getElem?_eq_some_iff.1 ho).1
  refine Ox hC hZ hI ho (by simp[h1]) h2 fun M' a' w' hI' hd'=>ih _ M' a' w' (by simp[hsz]) ?_ ?_ (hd'.trans hd)
  ·have:(fun j=>(listed.setIfInBounds i true).getD j false=true)=fun j=>listed.getD j false=true∨j=i:=by
    funext j
    rw[Ah (by omega)]
    by_cases he:j=i
    ·simp[he]
    ·simp[he]
   rw[this];exact hI'
  ·have:=Ku (listed:=listed) (i:=i) (by omega) h1 ops.size
   rw[if_pos Vu] at this
   omega
theorem IB (hC:aj P call) (hB:Base M0 h0 w0) (hm:P.follows .mixedOrders=true) {r:Option Nat} {n:Nat} {Q:Exit→Act→World→Prop} {id:Nat} {s s':St} {is:List Inf} {M:Mp} {a:Act} {w:World}
  (h:cZ P call site h0.length nt ops ops.toList s=some (s',is)) (hs:dZ ops.toList=true) (hd:jQ is (dK ops.toList)=true) (hR:Rel M0 h0 w0 nt M s a w)
  (hQ:∀ M' a' w',Rel M0 h0 w0 nt M' s' a' w'→a'.defers=a.defers→Q .normal a' w'):(Code.region id ops true).wpIn (iO r) n P Q a w:=by
 obtain⟨S,I,e1,e2,hZ⟩:=Oq hC hB h hR hs hd
 refine wpIn_region_any hm ?_
 have hR':Rel M0 h0 w0 nt M (S 0) a { w with drawn:=w.drawn+1 }:=by
  rw[e1]
  exact⟨hR.val.of_heap rfl,hR.ext.drew rfl rfl rfl rfl,hR.env,hR.size,hR.marks,hR.apart⟩
 refine any_ok hC hZ (ds:=a.defers) (fun M' a' w' hr hd=>hQ M' a' w' (by rw[e2] at hr;exact hr) hd) ops.size _ M a _ (by simp) ?_ (Oz _ _) rfl
 have:(fun j=>(Array.replicate ops.size false).getD j false=true)=fun _=>False:=by
  funext j
  simp only[Array.getD_eq_getD_getElem?,Array.getElem?_replicate]
  split<;>simp
 rw[this]
 exact inv_start hZ hR'
end
end Tw
namespace Tw
open Go
theorem Ai {F:Fence} {n:Nat} {P:Program} {Q:Exit→Act→World→Prop} {a:Act} {w:World} {c:Code} (h:c.wpIn F n P (Exit.noGoto Q) a w):(Code.scope c).wpIn F n P Q a w:=by
 intro b k cs hro hb hr
 have h0:(lone (b.atR a (.code (.scope c)::k)) cs w).fenced P F:=fenced_calm hb hr rfl
 have s0:step P (lone (b.atR a (.code (.scope c)::k)) cs w)=.next (lone (b.atR a (.code c::.inScope c::k)) cs w):=step_lone_go (by simp[stepG,stepG.exec,Frame.atR])
 have s1:∀ a1 w1,step P (lone (b.atR a1 (.inScope c::k)) cs w1)=.next (lone (b.atR a1 k) cs w1):=fun a1 w1=>step_lone_go (by simp[stepG,stepG.exec,Frame.atR])
 obtain⟨e,a₁,w₁,hq,harr⟩:=h b (.inScope c::k) cs hro hb hr
 cases e with
 | normal=>exact⟨.normal,a₁,w₁,hq,.head h0 s0 (StepsIn.trans harr (.one (fenced_calm hb hr rfl) (s1 _ _)))⟩
 | exit id'=>
  have hx:exitTo id' (.inScope c::k)=exitTo id' k:=by simp[exitTo]
  exact⟨.exit id',a₁,w₁,hq,fun k' hk=>.head h0 s0 (harr.1 k' (by rw[hx];exact hk)),
   fun hr' hk=>let ⟨k₁,h1,h2⟩:=harr.2 hr' (by rw[hx];exact hk);⟨k₁,h1,.head h0 s0 h2⟩⟩
 | goto l=>exact hq.elim
 | ret=>exact⟨_,a₁,w₁,hq,.of_steps (.one h0 s0) harr⟩
 | panic ch=>exact⟨_,a₁,w₁,hq,.of_steps (.one h0 s0) harr⟩
 | outgrown=>exact⟨_,a₁,w₁,hq,.of_steps (.one h0 s0) harr⟩
def IC:Ex→Exit
 | .norm=>.normal
 | .exit id=>.exit id
 | .ret=>.ret
theorem sZ {t:Nat} {e:EV} {env:List (Nat×EV)}:∀ {live:List Nat},aK t (pick live env)=some e→aK t env=some e
 | [],h=>by simp[pick,aK] at h
 | x::r,h=>by
  simp only[pick] at h
  split at h
  ·rename_i v hv
   simp only[aK] at h
   split at h
   ·rename_i hx;subst hx;rw[hv,h]
   ·exact sZ h
  ·exact sZ h
theorem OA {t k off:Nat}:∀ {env:List (Nat×EV)},aK t env=some (.loc k off)→k<rM env
 | [],h=>by simp[aK] at h
 | (x,v)::r,h=>by
  simp only[aK] at h
  split at h
  ·cases h
   simp only[rM];omega
  ·have:=OA h
   cases v<;>simp only[rM]<;>omega
section
variable {M0:Mp} {h0:List HB} {w0:World} {nt:Nat} {M:Mp} {s:St} {a:Act} {w:World}
theorem Rel.pick (hR:Rel M0 h0 w0 nt M s a w) (live:List Nat):Rel M0 h0 w0 nt M { s with env:=Tw.pick live s.env } a w:=by
 have hg:St.get { s with env:=Tw.pick live s.env }=s.get:=getEnv s _ _
 refine⟨by rw[hg];exact hR.val,by rw[hg];exact hR.ext,fun t e h=>hR.env t e (sZ h),hR.size,?_,hR.apart⟩
 rw[hg];exact hR.marks
def G5 (n:Nat) (M:Mp):Mp
 | .h b=>M (.h b)
 | .l j=>if j<n then M (.l j) else none
theorem Rel.head (hB:Base M0 h0 w0) (hR:Rel M0 h0 w0 nt M s a w) (live:List Nat):Rel M0 h0 w0 nt (G5 (rM (Tw.pick live s.env)) M) (dh live s) a w:=by
 have hR:=hR.pick live
 generalize he:Tw.pick live s.env=env at hR ⊢
 have hs:dh live s={ s with env:=env,loc:=s.loc.take (rM env) }:=by simp[dh,he]
 rw[hs]
 have hsub:∀ k l,G5 (rM env) M k=some l→M k=some l:=by
  intro k l h
  cases k with
  | h b=>exact h
  | l j=>
   simp only[G5] at h
   split at h
   ·exact h
   ·cases h
 have hget:∀ k l,G5 (rM env) M k=some l→St.get { s with env:=env,loc:=s.loc.take (rM env) } k=St.get { s with env:=env } k:=by
  intro k l h
  cases k with
  | h b=>rfl
  | l j=>
   simp only[G5] at h
   split at h
   ·rename_i hj
    simp[St.get,hj]
   ·cases h
 refine⟨⟨?_,?_,fun k l hk=>hR.val.inb k l (hsub k l hk)⟩,?_,?_,hR.size,?_,hR.apart⟩
 ·intro k l hk _
  obtain⟨b,h1,h2⟩:=hR.val.ok k l (hsub k l hk) trivial
  exact⟨b,by rw[hget k l hk];exact h1,h2⟩
 ·intro k k' l l' b hne hk hk' _ hb hw
  rw[hget k l hk] at hb
  exact hR.val.own k k' l l' b hne (hsub k l hk) (hsub k' l' hk') trivial hb hw
 ·have hX:=hR.ext
  have hk:∀ k,(fQ h0 k).isSome=true→∃ b,k=.h b:=fun k h=>let ⟨b,e,_⟩:=oZ h;⟨b,e⟩
  exact
   {wL:=fun k l h=>by
     cases k with
     | l j=>rw[hB.loc j] at h;cases h
     | h b=>exact hX.wL _ _ h
    frame:=hX.frame
    keep:=fun k h hn=>by obtain⟨b,rfl⟩:=hk k h;exact hX.keep _ h hn
    fK:=fun k h hn=>by
     cases k with
     | h b=>exact hX.fK (.h b) h hn
     | l j=>
      rw[hB.loc j]
      simp only[G5]
      split
      ·rename_i hj
       cases hm:M (.l j) with
       | none=>rfl
       | some l=>
        have h1:=hR.val.has hm
        rcases h with h | h
        ·obtain⟨b,hb⟩:=hk _ h;cases hb
        ·have:=hget (.l j) l (by simp[G5,hj,hm])
         rw[h] at this
         rw[←this] at h1;cases h1
      ·rfl
    fresh:=fun k l h=>hX.fresh k l (hsub k l h)
    size:=hX.size
    has:=fun k h=>by obtain⟨b,rfl⟩:=hk k h;exact hX.has _ h
    wsub:=hX.wsub
    wrote:=hX.wrote
    os:=hX.os
    output:=hX.output
    tape:=hX.tape }
 ·intro t e h
  have:=hR.env t e h
  generalize a.tmps.getD t Go.undef=z at this
  cases this with
  | val hv=>exact .val hv
  | undef=>exact .undef
  | loc hm hb=>
   have hlt:=OA (env:=env) h
   exact .loc (by simp[G5,hlt,hm]) hb
 ·intro d hd
  obtain⟨k,r,h1,h2,h3,h4,h5⟩:=hR.marks d hd
  exact⟨k,r,h1,h2,h3,h4,h5⟩
theorem Kv (hV:Valid M jW s.get w) (b:HB) (o:Obj) (hok:jm (aO M (.h s.heap.length) (.obj w.heap.size [])).h (w.alloc o) b (.obj w.heap.size [])) :
  Valid (aO M (.h s.heap.length) (.obj w.heap.size [])) jW (St.get { s with heap:=s.heap++[b] }) (w.alloc o) ∧
  Ext M s.get w (aO M (.h s.heap.length) (.obj w.heap.size [])) (St.get { s with heap:=s.heap++[b] }) (w.alloc o) []∧M (.h s.heap.length)=none:=by
 have hget:s.get (.h s.heap.length)=none:=by simp[St.get]
 have mO:M (.h s.heap.length)=none:=by
  cases h:M (.h s.heap.length) with
  | none=>rfl
  | some l=>have:=hV.has h;simp[hget] at this
 have hle:jR M (aO M (.h s.heap.length) (.obj w.heap.size [])):=iJ fun l0 h0=>by rw[mO] at h0;cases h0
 have hframe:∀ c,c<w.heap.size→c∉ah (.obj w.heap.size [])→(w.alloc o).heap[c]? = w.heap[c]?:=fun c hc _=>kG w _ c hc
 have hnew:∀ c∈ah (.obj w.heap.size []),(∃ l0,M (.h s.heap.length)=some l0∧c∈ah l0)∨w.heap.size≤c:=fun c hc=>.inr (by simp[ah] at hc;omega)
 rw[eP]
 exact⟨hV.upd _ _ _ (fun j _=>.inl trivial) (fun l0 h0=>by rw[mO] at h0;cases h0) hframe hnew (by simp) hok,
  Ext.upd _ _ _ [] (.inr ⟨hget,mO,rfl⟩) hle hframe hnew (by simp) rfl rfl rfl,mO⟩
theorem qP (hV:Valid M jW s.get w) {k r:Nat} {q:List Nat} {b b':HB} {o':Obj} (hm:M (.h k)=some (.obj r q)) (hb:s.heap[k]? = some b) (hw:wr b=true)
  (hok:jm M.h { w with heap:=w.heap.setIfInBounds r o' } b' (.obj r q)) :
  Valid M jW (St.get { s with heap:=s.heap.set k b' }) { w with heap:=w.heap.setIfInBounds r o' } ∧
  Ext M s.get w M (St.get { s with heap:=s.heap.set k b' }) { w with heap:=w.heap.setIfInBounds r o' } [.h k]:=by
 have hg:s.get (.h k)=some b:=by simp[St.get,hb]
 have hbl:=(List.getElem?_eq_some_iff.1 hb).1
 have hself:aO M (.h k) (.obj r q)=M:=wP hm
 have hframe:∀ c,c<w.heap.size→c∉ah (.obj r q)→(w.heap.setIfInBounds r o')[c]? = w.heap[c]?:=fun c _ hc=>by
  rw[Array.getElem?_setIfInBounds,if_neg (by simp[ah] at hc;omega)]
 have hnew:∀ c∈ah (.obj r q),(∃ l0,M (.h k)=some l0∧c∈ah l0)∨w.heap.size≤c:=fun c hc=>.inl ⟨_,hm,hc⟩
 rw[fC s k _ hbl]
 constructor
 ·have:=hV.upd (D':=jW) (w':={ w with heap:=w.heap.setIfInBounds r o' }) (.h k) b' (.obj r q) (fun j hj=>.inl hj) (fun l0 h0=>by
   rw[hm] at h0;cases h0
   exact⟨trivial,.refl _,fun b0 hb0=>by rw[hg] at hb0;cases hb0;exact hw⟩) hframe hnew (by simp) (by rw[hself];exact hok)
  rwa [hself] at this
 ·have:=Ext.upd (M:=M) (C:=s.get) (w:=w) (w':={ w with heap:=w.heap.setIfInBounds r o' }) (.h k) b' (.obj r q) [.h k] (.inl ⟨by simp[hg],rfl,by simp[hm],fun b0 hb0=>by rw[hg] at hb0;cases hb0;exact hw⟩) (by rw[hself];exact .refl _) hframe hnew (by simp) rfl rfl rfl
  rwa [hself] at this
theorem Rel.next (hB:Base M0 h0 w0) (hR:Rel M0 h0 w0 nt M s a w) {M':Mp} {s':St} {w':World} {ks:List Key} (hV:Valid M' jW s'.get w') (hX:Ext M s.get w M' s'.get w' ks)
  (he:s'.env=s.env) (hws:s'.ws=bU h0.length ks s.ws) (hl:∀ k l,M (.l k)=some l→M' (.l k)=some l):Rel M0 h0 w0 nt M' s' a w':=by
 refine⟨hV,?_,?_,hR.size,Dv hR hX,hR.apart⟩
 ·refine hR.ext.trans hX (fun k l hk=>hB.val.has hk) (fun k hk hin=>?_) (fun k hk=>?_)
  ·obtain⟨b,rfl,hb⟩:=oZ hk
   rw[hws]
   refine List.mem_map.2 ⟨b,gY.2 ?_,rfl⟩
   rcases hin with h1 | h1
   ·obtain⟨b',h2,h3⟩:=List.mem_map.1 h1
    cases h3;exact .inl h2
   ·exact .inr ⟨h1,hb⟩
  ·rw[hws] at hk
   obtain⟨b,hb,rfl⟩:=List.mem_map.1 hk
   rcases gY.1 hb with h1 | ⟨h1,h2⟩
   ·have:Key.h b∈s.ws.map .h:=List.mem_map.2 ⟨b,h1,rfl⟩
    exact⟨hR.ext.wsub _ this,.inl this⟩
   ·exact⟨Iu h2,.inr h1⟩
 ·rw[he]
  intro t e h
  exact (hR.env t e h).mono hX.wL hl
theorem Rel.long (hR:Rel M0 h0 w0 nt M s a w):h0.length≤s.heap.length:=by
 refine Nat.le_of_not_lt fun h=>?_
 have:=hR.ext.has _ (Iu h)
 simp[St.get] at this
end
end Tw
namespace Tw
open Go
theorem least {J:Nat→Prop} (h:∃ k,J k):∃ k,J k∧∀ j,J j→k≤j:=by
 obtain⟨k,hk⟩:=h
 induction k using Nat.strongRecOn with
 | _ k ih=>
  by_cases hj:∃ j,j<k∧J j
  ·obtain⟨j,h1,h2⟩:=hj
   exact ih j h1 h2
  ·exact⟨k,hk,fun j h=>Nat.le_of_not_lt fun hlt=>hj ⟨j,hlt,h⟩⟩
noncomputable def leastOf (J:Nat→Prop):Nat:=open Classical in if h:∃ k,J k then Classical.choose (least h) else 0
theorem leastOf_spec {J:Nat→Prop} (h:∃ k,J k):J (leastOf J)∧∀ j,J j→leastOf J≤j:=by
 unfold leastOf
 rw[dif_pos h]
 exact Classical.choose_spec (least h)
section
variable {P:Program} {T:Tab} {call:ay} {L f:Nat} {dI:Bool} {nt:Nat} {M0:Mp} {h0:List HB} {w0:World} {r:Option Nat}
def EF (P:Program) (M0:Mp) (h0:List HB) (w0:World) (nt:Nat) (r:Option Nat) (c:Code) (s:St) (e:Ex) (s':St):Prop:=
 ∀ (n:Nat) (Q:Exit→Act→World→Prop) (M:Mp) (a:Act) (w:World),Rel M0 h0 w0 nt M s a w→(∀ M' a' w',Rel M0 h0 w0 nt M' s' a' w'→Q (IC e) a' w')→c.wpIn (iO r) n P Q a w
theorem yZ (hB:Base M0 h0 w0) {c:Code} {live:List Nat} {g:St→Option (Ex×St)} (ih:∀ s e s',g s=some (e,s')→EF P M0 h0 w0 nt r c (dh live s) e s') {k:Nat} {s:St} {e:Ex} {s':St}
  (h:iter g k s=some (e,s')):EF P M0 h0 w0 nt r (.loop c) s e s':=by
 intro n Q M a w hR hQ
 let J:Act→World→Nat→Prop:=fun a w k=>∃ s M,iter g k s=some (e,s')∧Rel M0 h0 w0 nt M s a w
 refine wpIn_loop (fun a w=>∃ k,J a w k) (fun a w=>leastOf (J a w)) ⟨k,s,M,h,hR⟩ ?_
 intro a1 w1 hI
 obtain⟨⟨s1,M1,hit,hR1⟩,_⟩:=leastOf_spec hI
 generalize leastOf (J a1 w1)=k1 at hit ⊢
 cases k1 with
 | zero=>simp[iter] at hit
 | succ k1=>
  simp only[iter] at hit
  split at hit
  ·rename_i s2 hg
   refine ih s1 .norm s2 hg n _ _ a1 w1 (hR1.head hB live) fun M2 a2 w2 hR2=>?_
   have hJ:J a2 w2 k1:=⟨s2,M2,hit,hR2⟩
   exact⟨⟨k1,hJ⟩,Nat.lt_succ_of_le ((leastOf_spec ⟨k1,hJ⟩).2 k1 hJ)⟩
  ·rename_i hne
   refine ih s1 e s' hit n _ _ a1 w1 (hR1.head hB live) fun M2 a2 w2 hR2=>?_
   cases e with
   | norm=>exact (hne s' hit).elim
   | exit id=>exact hQ M2 a2 w2 hR2
   | ret=>exact hQ M2 a2 w2 hR2
theorem MH {env:List (Nat×EV)} (h:env.all isVal=true) {t:Nat} {e:EV} (hl:aK t env=some e):(∃ v,e=.val v)∨e=.undef:=by
 induction env with
 | nil=>simp[aK] at hl
 | cons x r ih=>
  obtain⟨k,v⟩:=x
  simp only[List.all_cons,Bool.and_eq_true] at h
  simp only[aK] at hl
  split at hl
  ·cases hl
   cases e with
   | val v=>exact .inl ⟨v,rfl⟩
   | undef=>exact .inr rfl
   | loc k off=>simp[isVal] at h
  ·exact ih h.2 hl
theorem Dy (hB:Base M0 h0 w0) {g:Operand} {ps:Array Tmp} {ku body:Code} {s:St} {f1:FuncId} {a1 b1:List TV} {K:TV→List HB→List Nat→Prop} {QT:Ex→St→Prop}
  (hg:jP s.env g=some (.fn f1 a1 b1)) (hv:s.env.all isVal=true)
  (hC:∀ (M:Mp) (w:World) (x:Value) (xs:List Value),Valid M jW (fQ (s.heap++[.mark,.loop true f nt s.env ps.toList ku body none])) w→(∀ k,M (.l k)=none)→VR M.h (.fn f1 a1 b1) x→aG M.h [.iF (s.heap.length+1)] xs →
   ∃ d,(∀ w,(Deferred.ofValue x xs.toArray).run P w=.ok d w)∧yV P d w fun y w'=>∃ v h ws,K v h ws∧dL M (s.heap++[.mark,.loop true f nt s.env ps.toList ku body none]) w v h ws y w')
  (hK:∀ v h ws,K v h ws→∃ rd f2 zS e2 ps2 a2 b2 pend e,h[s.heap.length+1]? = some (.loop rd f2 zS e2 ps2 a2 b2 pend)∧zQ rd pend=some e∧QT e { s with heap:=h.set (s.heap.length+1) (.loop false f2 zS e2 ps2 a2 b2 (some .skip)),ws:=bU h0.length (ws.map .h) s.ws })
  (n:Nat) (Q:Exit→Act→World→Prop) (M:Mp) (a:Act) (w:World) (hR:Rel M0 h0 w0 nt M s a w) (hQ:∀ e s' M' a' w',QT e s'→Rel M0 h0 w0 nt M' s' a' w'→Q (IC e) a' w'):(Code.rangeFunc g ps ku body).wpIn (iO none) n P Q a w:=by
 refine wpIn_rangeFunc fun fn _=>?_
 let lp:Loop:={ state:=.ready,pending:=none,fn:=fn,tmps:=a.tmps,params:=ps,assign:=ku,body:=body,defers:=w.heap.size }
 let w1:=(w.alloc (.deferred (some []))).alloc (.loop lp)
 obtain⟨v1,x1,n1⟩:=Kv hR.val .mark (.deferred (some [])) (show w.heap.size<(w.alloc _).heap.size by simp)
 let M1:=aO M (.h s.heap.length) (.obj w.heap.size [])
 let s1:St:={ s with heap:=s.heap++[.mark] }
 have hR1:Rel M0 h0 w0 nt M1 s1 a (w.alloc (.deferred (some []))):=hR.next hB v1 x1 rfl rfl (iW n1)
 have hlen1:s1.heap.length=s.heap.length+1:=by simp[s1]
 have hsz1:(w.alloc (.deferred (some []))).heap.size=w.heap.size+1:=by simp
 have hok2:jm (aO M1 (.h s1.heap.length) (.obj (w.alloc (.deferred (some []))).heap.size [])).h w1 (.loop true f nt s.env ps.toList ku body none) (.obj (w.alloc (.deferred (some []))).heap.size []):=by
  refine⟨lp,heap_alloc_new _ _,?_⟩
  exact
   {ps:=rfl,ku:=rfl,body:=rfl,size:=hR.size
    yO:=fun t v hl=>by
     have h1:=(hR1.env t _ hl).jV
     have hm:jR M1 (aO M1 (.h s1.heap.length) (.obj (w.alloc (.deferred (some []))).heap.size [])):=iJ fun l0 h0=>by
      rw[hR1.nh] at h0;cases h0
     exact h1.mono hm.h
    und:=fun t hl=>by
     have h1:=hR.env t _ hl
     show a.tmps.getD t Go.undef=Go.undef
     generalize a.tmps.getD t Go.undef=z at h1
     cases h1;rfl
    UC:=fun t k o hl=>by rcases MH hv hl with⟨v,e⟩ | e<;>cases e
    ready:=fun _=>⟨rfl,rfl⟩
    busy:=by simp
    done:=by simp }
 obtain⟨v2,x2,n2⟩:=Kv hR1.val (.loop true f nt s.env ps.toList ku body none) (.loop lp) hok2
 let M2:=aO M1 (.h s1.heap.length) (.obj (w.alloc (.deferred (some []))).heap.size [])
 let s2:St:={ s1 with heap:=s1.heap++[.loop true f nt s.env ps.toList ku body none] }
 have MI:Rel M0 h0 w0 nt M2 s2 a w1:=hR1.next hB v2 x2 rfl rfl (iW n2)
 have hlong:=hR.long
 have hmk:M2 (.h s.heap.length)=some (.obj w.heap.size []):=by
  simp only[M2,M1,aO,hlen1]
  simp
 have hR2:Rel M0 h0 w0 nt M2 s2 { a with defers:=[{ target:=.collected w.heap.size,args:=#[] }]++a.defers } w1:=by
  refine⟨MI.val,MI.ext,MI.env,MI.size,fun d hd=>?_,?_⟩
  ·rcases List.mem_cons.1 hd with rfl | hd
   ·refine⟨s.heap.length,w.heap.size,rfl,by simp[fQ,St.get];omega,⟨_,hmk⟩,by simp[s2,s1,St.get],?_⟩
    have e1:w1.heap[w.heap.size]? = (w.alloc (.deferred (some []))).heap[w.heap.size]?:=kG _ _ _ (by simp)
    rw[e1]
    exact heap_alloc_new _ _
   ·exact MI.marks d hd
  ·refine List.pairwise_cons.2 ⟨fun d hd e=>?_,MI.apart⟩
   obtain⟨k,r',e1,_,_,_,e5⟩:=hR.marks d hd
   rw[e1] at e
   have:w.heap.size=r':=by injection e with e e';injection e
   have:=(Array.getElem?_eq_some_iff.1 e5).1
   omega
 have hl2:M2 (.h (s.heap.length+1))=some (.obj (w.heap.size+1) []):=by
  simp only[M2,aO,hlen1,hsz1,if_true]
 have a2i:s2.heap=s.heap++[.mark,.loop true f nt s.env ps.toList ku body none]:=by simp[s2,s1]
 rw[←a2i] at hC
 have hV2:=sW hR2.val (fun _ _ _=>trivial)
 have hgx:VR M2.only.h (.fn f1 a1 b1) (a.eval g):=(Ih hR2.env hg)
 have hyx:aG M2.only.h [.iF (s.heap.length+1)] [.func (.yield (w.heap.size+1)) #[] #[]]:=.cons (.iF hl2) .nil
 obtain⟨d,hd,hcase⟩:=hC M2.only w1 (a.eval g) [.func (.yield (w.heap.size+1)) #[] #[]] hV2 (fun _=>rfl) hgx hyx
 obtain⟨f3,as3,hinv,hcl⟩:=hcase
 refine⟨w.heap.size+1,[{ target:=.collected w.heap.size,args:=#[] }],w1,d,w1,f3,as3,w1,?_,?_,fun _ _=>trivial,hinv,fun h=>by simp[Fence.wide] at h,?_⟩
 ·simp[Instr.enterLoop,newObj,Sem.run,w1,lp]
 ·have:=hd w1
  simpa[resolve,rangeCall,Act.eval] using this
 ·refine CallsIn.mono (F:=iO none) (hcl (n-1)) fun en w3 hen=>?_
  cases en with
  | panicked c=>exact hen.elim
  | outgrown=>exact hen.elim
  | returned y=>
   obtain⟨v,h,ws,hk,hen⟩:=hen
   obtain⟨rd,f2,zS,e2,ps2,a2,b2,pend,e,hh,hj,hq⟩:=hK v h ws hk
   obtain⟨M3,hp⟩:=Du hR2.val hR2.loc (show dL M2.only s2.heap w1 v h ws y w3 from hen)
   have UH:Rel M0 h0 w0 nt M3 { s2 with heap:=h,ws:=bU h0.length (ws.map .h) s.ws } _ w3:=hR2.next hB (s':={ s2 with heap:=h,ws:=bU h0.length (ws.map .h) s.ws }) (hp.val.sub fun _ _=>.inl trivial) hp.ext rfl rfl hp.loc
   obtain⟨l',g1,g2⟩:=hp.ext.wL _ _ hl2
   obtain⟨q3,hl3⟩:∃ q3,M3 (.h (s.heap.length+1))=some (.obj (w.heap.size+1) q3):=by
    cases l' with
    | cells ls=>exact g2.elim
    | obj r' o'=>cases g2.1;exact⟨o',g1⟩
   obtain⟨blk,k1,k2⟩:=UH.val.ok _ _ hl3 trivial
   have k1':blk=.loop rd f2 zS e2 ps2 a2 b2 pend:=by
    simp only[St.get,hh,Option.some.injEq] at k1
    exact k1.symm
   subst k1'
   obtain⟨RF,l1,l2⟩:=k2
   have hnb:RF.state≠.busy∧RF.pending=kF e:=by
    unfold zQ at hj
    split at hj
    ·cases hj
     obtain⟨q1,q2⟩:=l2.ready rfl
     exact⟨by rw[q1];simp,q2⟩
    ·cases hj
     obtain⟨q1,q2⟩:=l2.done rfl _ rfl (by simp)
     exact⟨by rw[q1];simp,q2⟩
    ·cases hj
     obtain⟨q1,q2⟩:=l2.done rfl _ rfl (by simp)
     exact⟨by rw[q1];simp,q2⟩
    ·cases hj
   obtain⟨v4,x4⟩:=qP (s:={ s2 with heap:=h,ws:=bU h0.length (ws.map .h) s.ws }) UH.val hl3 hh rfl (b':=.loop false f2 zS e2 ps2 a2 b2 (some .skip)) (o':=.loop { RF with state:=.exhausted }) ⟨{ RF with state:=.exhausted },by simp[(Array.getElem?_eq_some_iff.1 l1).1],
    {ps:=l2.ps,ku:=l2.ku,body:=l2.body,size:=l2.size,yO:=l2.yO,und:=l2.und,UC:=l2.UC,ready:=by simp,busy:=by simp,done:=fun _ j hj hne=>by simp at hj;exact absurd hj.symm hne }⟩
   have hR4:=UH.next hB (s':={ s with heap:=h.set (s.heap.length+1) (.loop false f2 zS e2 ps2 a2 b2 (some .skip)),ws:=bU h0.length (ws.map .h) s.ws }) v4 x4 rfl
    (by simp only[bU,ug];rw[if_neg (by omega)]) (fun _ _ h=>h)
   refine⟨RF.pending,{ w3 with heap:=w3.heap.setIfInBounds (w.heap.size+1) (.loop { RF with state:=.exhausted }) },?_,?_⟩
   ·have h1:=hnb.1
    cases hst:RF.state<;>simp_all [Instr.endLoop,Instr.getLoop,getObj,setObj,Sem.run]<;>rfl
   ·have h2:=hQ _ _ _ _ _ hq hR4
    have h3:=hnb.2
    generalize RF.pending=pe at h2 h3 ⊢
    subst h3
    cases e with
    | norm=>exact h2
    | ret=>exact wpIn_ret h2
    | exit id=>exact wpIn_exit h2
theorem OB (hC:aj P call) (hB:Base M0 h0 w0) {g:Operand} {ps:Array Tmp} {ku body:Code} {s s':St} {e:Ex} {f1:FuncId} {a1 b1:List TV} {v:TV} {h:List HB} {ws:List Nat} {rd:Bool} {f2 zS:Nat} {e2:List (Nat×EV)} {ps2:List Nat} {a2 b2:Code} {pend:Option Code}
  (hg:jP s.env g=some (.fn f1 a1 b1)) (hv:s.env.all isVal=true) (hcall:call (.fn f1 a1 b1) [.iF (s.heap.length+1)] (s.heap++[.mark,.loop true f nt s.env ps.toList ku body none])=some (v,h,ws))
  (hh:h[s.heap.length+1]? = some (.loop rd f2 zS e2 ps2 a2 b2 pend)) (hj:zQ rd pend=some e)
  (hs:s'={ s with heap:=h.set (s.heap.length+1) (.loop false f2 zS e2 ps2 a2 b2 (some .skip)),ws:=bU h0.length (ws.map .h) s.ws }) :
  EF P M0 h0 w0 nt none (.rangeFunc g ps ku body) s e s':=by
 intro n Q M a w hR hQ
 refine Dy (f:=f) (s:=s) hB (K:=fun v' h' ws'=>v'=v∧h'=h∧ws'=ws) (QT:=fun e1 s1=>e1=e∧s1=s') hg hv (fun M w x xs hV hl hx hxs=>?_) ?_ n Q M a w hR ?_
 ·obtain⟨d,hd,hcase⟩:=hC _ _ _ _ _ _ hcall M w x xs hV hl hx hxs
  refine⟨d,hd,?_⟩
  rcases hcase with⟨⟨f3,as3,h1,h2⟩,_⟩ | ⟨_,_,hx⟩
  ·refine⟨f3,as3,h1,fun n=>CallsIn.mono (F:=iO none) (h2 n) fun en w3 hen=>?_⟩
   cases en with
   | panicked c=>exact hen.elim
   | outgrown=>exact hen.elim
   | returned y=>exact⟨v,h,ws,⟨rfl,rfl,rfl⟩,hen⟩
  ·cases hx
 ·rintro _ _ _ ⟨rfl,rfl,rfl⟩
  exact⟨_,_,_,_,_,_,_,_,_,hh,hj,rfl,hs.symm⟩
 ·rintro _ _ M' a' w' ⟨rfl,rfl⟩ hR'
  exact hQ M' a' w' hR'
theorem jc (hm:P.follows .mixedOrders=true) (hC:aj P call) (hB:Base M0 h0 w0) (hr:dI=false→r=none):∀ (c:Code) (s s':St) (e:Ex),exec P T call L f dI h0.length nt c s=some (e,s')→EF P M0 h0 w0 nt r c s e s':=by
 intro c
 induction c with
 | skip=>
  intro s s' e h n Q M a w hR hQ
  simp only[exec,Option.some.injEq,Prod.mk.injEq] at h
  obtain⟨rfl,rfl⟩:=h
  exact wpIn_skip (hQ _ _ _ hR)
 | label l=>
  intro s s' e h n Q M a w hR hQ
  simp only[exec,Option.some.injEq,Prod.mk.injEq] at h
  obtain⟨rfl,rfl⟩:=h
  exact wpIn_label (hQ _ _ _ hR)
 | exit id=>
  intro s s' e h n Q M a w hR hQ
  simp only[exec,Option.some.injEq,Prod.mk.injEq] at h
  obtain⟨rfl,rfl⟩:=h
  exact wpIn_exit (hQ _ _ _ hR)
 | ret=>
  intro s s' e h n Q M a w hR hQ
  simp only[exec,Option.some.injEq,Prod.mk.injEq] at h
  obtain⟨rfl,rfl⟩:=h
  exact wpIn_ret (hQ _ _ _ hR)
 | region id ops draw=>
  intro s s' e h n Q M a w hR hQ
  simp only[exec] at h
  split at h
  ·rename_i s1 lC hrun
   split at h
   ·rename_i hd
    simp only[Option.some.injEq,Prod.mk.injEq] at h
    obtain⟨rfl,rfl⟩:=h
    cases draw with
    | false=>exact MF hC hB hrun hR fun M' a' w' hR' _=>hQ _ _ _ (hR'.pick _)
    | true=>
     simp only[Bool.not_true,Bool.false_or,Bool.and_eq_true] at hd
     exact IB hC hB hm hrun hd.1 hd.2 hR fun M' a' w' hR' _=>hQ _ _ _ (hR'.pick _)
   ·simp at h
  ·simp at h
 | seq x y G6 ihy=>
  intro s s' e h n Q M a w hR hQ
  simp only[exec] at h
  split at h
  ·rename_i s1 hx
   exact wpIn_seq (G6 s s1 .norm hx n _ M a w hR fun M1 a1 w1 hR1=>ihy s1 s' e h n Q M1 a1 w1 hR1 hQ)
  ·rename_i hne
   refine wpIn_seq (G6 s s' e h n _ M a w hR fun M1 a1 w1 hR1=>?_)
   cases e with
   | norm=>exact (hne s' h).elim
   | exit id=>exact hQ _ _ _ hR1
   | ret=>exact hQ _ _ _ hR1
 | cond c x y G6 ihy=>
  intro s s' e h n Q M a w hR hQ
  simp only[exec] at h
  have hev:∀ b,jP s.env c=some (.bool b)→a.eval c=.bool b:=by
   intro b hb
   have:=Ih hR.env hb
   generalize a.eval c=z at this
   cases this;rfl
  split at h
  ·rename_i hc
   exact wpIn_cond_true (hev _ hc) (G6 s s' e h n Q M a w hR hQ)
  ·rename_i hc
   exact wpIn_cond_false (hev _ hc) (ihy s s' e h n Q M a w hR hQ)
  ·simp at h
 | block id b ih=>
  intro s s' e h n Q M a w hR hQ
  simp only[exec] at h
  split at h
  ·rename_i i s1 hb
   simp only[Option.some.injEq,Prod.mk.injEq] at h
   obtain⟨rfl,rfl⟩:=h
   refine wpIn_block (ih s s1 (.exit i) hb n _ M a w hR fun M1 a1 w1 hR1=>?_)
   have:=hQ _ _ _ hR1
   by_cases hi:i=id
   ·simp only[hi,if_true] at this
    simp only[IC,Exit.inBlock,hi,if_true]
    exact this
   ·simp only[hi,if_false] at this
    simp only[IC,Exit.inBlock,hi,if_false]
    exact this
  ·rename_i hne
   refine wpIn_block (ih s s' e h n _ M a w hR fun M1 a1 w1 hR1=>?_)
   cases e with
   | norm=>exact hQ _ _ _ hR1
   | exit i=>exact (hne i s' h).elim
   | ret=>exact hQ _ _ _ hR1
 | scope b ih=>
  intro s s' e h n Q M a w hR hQ
  simp only[exec] at h
  refine Ai (ih s s' e h n _ M a w hR fun M1 a1 w1 hR1=>?_)
  have:=hQ _ _ _ hR1
  cases e<;>exact this
 | loop b ih=>
  intro s s' e h
  simp only[exec] at h
  exact yZ hB (live:=T.bY f (bH b)) (fun s e s' hs=>ih _ _ _ hs) h
 | rangeFunc g ps ku body iha ihb=>
  intro s s' e h
  simp only[exec] at h
  split at h
  ·rename_i f1 a1 b1 hg
   split at h
   ·rename_i hv
    simp only[Bool.and_eq_true,Bool.not_eq_true'] at hv
    rw[hr hv.2]
    split at h
    ·rename_i v h1 ws hcall
     split at h
     ·rename_i rd f2 zS e2 ps2 a2 b2 pend hh
      split at h
      ·rename_i e' hj
       simp only[Option.some.injEq,Prod.mk.injEq] at h
       obtain⟨rfl,rfl⟩:=h
       exact OB hC hB hg hv.1 hcall hh hj rfl
      ·simp at h
     ·simp at h
    ·simp at h
   ·simp at h
  ·simp at h
 | _=>intro s s' e h;simp[exec] at h
end
end Tw
namespace Tw
open Go
def MJ (tmps:Array Value):ResultVar→Sem Value
 | .tmp t=>pure (tmps.getD t Go.undef)
 | .cell b t=>do loadVar t (←asAddr (tmps.getD b Go.undef))
theorem IE (fn:Func) (tmps:Array Value):results fn tmps=(do
  let vs ←fn.results.mapM (MJ tmps)
  pure (if h:vs.size=1 then vs[0] else .tuple vs)):=by
 have key:∀ g:ResultVar→Sem Value,(∀ r,g r=MJ tmps r)→(do
   let vs ←fn.results.mapM g
   pure (if h:vs.size=1 then vs[0] else Value.tuple vs):Sem Value)=(do
   let vs ←fn.results.mapM (MJ tmps)
   pure (if h:vs.size=1 then vs[0] else Value.tuple vs)):=fun g hg=>by rw[show g=MJ tmps from funext hg]
 exact key _ fun r=>by cases r<;>rfl
section
variable {P:Program} {T:Tab} {call:ay} {L:Nat} {nt:Nat} {M0:Mp} {h0:List HB} {w0:World} {M:Mp} {s:St} {a:Act} {w:World}
theorem Aj (hR:Rel M0 h0 w0 nt M s a w) {r:ResultVar} {v:TV} (h:resT P s r=some v) :
  ∃ x,VR M.h v x∧(MJ a.tmps r).run P w=.ok x w:=by
 unfold resT at h
 split at h
 ·rename_i t
  split at h
  ·rename_i v' hv
   simp only[Option.some.injEq] at h;subst h
   exact⟨_,(hR.env t _ hv).jV,rfl⟩
  ·simp at h
 ·rename_i b t
  split at h
  ·rename_i e he
   simp only[Option.map_eq_some_iff] at h
   obtain⟨⟨v',i⟩,hl,rfl⟩:=h
   have hx:=hR.env b _ he
   obtain⟨_,y,h1,h2⟩:=um hR.val hl hx (fun _ _=>trivial)
   refine⟨y,h1,?_⟩
   show (do loadVar t (←asAddr (a.tmps.getD b Go.undef)):Sem Value).run P w=_
   generalize a.tmps.getD b Go.undef=z at hx h2
   have hz:∃ ad,z=.pointer (some ad):=by
    cases hx with
    | loc hm hb=>exact⟨_,rfl⟩
    | undef=>simp[loadT] at hl
    | val hv=>
     cases hv with
     | ptr=>exact⟨_,rfl⟩
     | _=>simp[loadT] at hl
   obtain⟨ad,rfl⟩:=hz
   simpa[asAddr,Instr.loadAt,Instr.sureAddr] using h2
  ·simp at h
theorem Kw (hR:Rel M0 h0 w0 nt M s a w):∀ {rs:List ResultVar} {vs:List TV},jI P s rs=some vs →
  ∃ xs,aG M.h vs xs∧(rs.mapM (MJ a.tmps)).run P w=.ok xs w
 | [],vs,h=>by simp[jI] at h;subst h;exact⟨[],.nil,by simp⟩
 | r::rs,vs,h=>by
  simp only[jI] at h
  split at h
  ·rename_i v vs' h1 h2
   simp only[Option.some.injEq] at h;subst h
   obtain⟨x,g1,g2⟩:=Aj hR h1
   obtain⟨xs,g3,g4⟩:=Kw hR h2
   exact⟨x::xs,.cons g1 g3,by simp only[List.mapM_cons,Sem.run_bind,g2,g4,Result.andThen_ok,Sem.run_pure]⟩
  ·simp at h
theorem tC (hR:Rel M0 h0 w0 nt M s a w) {fn:Func} {vs:List TV} (h:jI P s fn.results.toList=some vs):∃ y,VR M.h (one vs) y∧(results fn a.tmps).run P w=.ok y w:=by
 obtain⟨xs,h1,h2⟩:=Kw hR h
 have hrun:(results fn a.tmps).run P w=.ok (if h:xs.toArray.size=1 then xs.toArray[0] else .tuple xs.toArray) w:=by
  rw[IE,Array.mapM_eq_mapM_toList]
  simp only[Sem.run_bind,Sem.run_map,h2,Result.andThen_ok,Sem.run_pure]
 refine⟨_,?_,hrun⟩
 match vs,xs,h1 with
 | [],xs,h1=>
  have:=h1.iI;subst this
  exact .CU .nil
 | [v],xs,h1=>
  obtain⟨x,xs',rfl,hx,hx'⟩:=h1.cu
  have:=hx'.iI;subst this
  exact hx
 | v::v'::vs,xs,h1=>
  obtain⟨x,xs',rfl,hx,hx'⟩:=h1.cu
  obtain⟨x',a5L,rfl,hy,hy'⟩:=hx'.cu
  simp only[one,List.size_toArray,List.length_cons]
  rw[dif_neg (by omega)]
  exact .CU h1
theorem MO (hB:Base M0 h0 w0) {d:Deferred} {ds:List Deferred} (hR:Rel M0 h0 w0 nt M s a w) (hd:a.defers=d::ds) :
  ∃ r w',d.target=.collected r∧(Instr.takeDeferred r).run P w=.ok [] w'∧Rel M0 h0 w0 nt M s { a with defers:=ds } w':=by
 obtain⟨k,r,rfl,h2,⟨o,h3⟩,h4,h5⟩:=hR.marks d (by rw[hd];exact List.mem_cons_self)
 have hlt:=(Array.getElem?_eq_some_iff.1 h5).1
 have hap:=hR.apart
 rw[hd] at hap
 obtain⟨ha1,ha2⟩:=List.pairwise_cons.1 hap
 refine⟨r,{ w with heap:=w.heap.setIfInBounds r (.deferred none) },rfl,?_,?_⟩
 ·simp[Instr.takeDeferred,getObj,setObj,Sem.run,h5]
 have hother:∀ c,c≠r→(w.heap.setIfInBounds r (.deferred none))[c]? = w.heap[c]?:=fun c hc=>by
  rw[Array.getElem?_setIfInBounds,if_neg (fun e=>hc e.symm)]
 refine⟨⟨?_,hR.val.own,fun k l hk c hc=>by simpa using hR.val.inb k l hk c hc⟩,?_,hR.env,hR.size,?_,ha2⟩
 ·intro k' l hk' _
  obtain⟨b,g1,g2⟩:=hR.val.ok k' l hk' trivial
  refine⟨b,g1,?_⟩
  by_cases hin:r∈ah l
  ·cases b with
   | cells kk cs=>
    cases l with
    | obj r' _=>exact g2.elim
    | cells ls=>
     obtain⟨p,hp,e⟩:=List.mem_map.1 hin
     obtain⟨arr,ty,fz,e1,_⟩:=(g2.2.1 p hp).row
     rw[e,h5] at e1;cases e1
   | oH cs=>
    cases l with
    | obj r' _=>exact g2.elim
    | cells ls=>
     obtain⟨p,hp,e⟩:=List.mem_map.1 hin
     obtain⟨_,_,g2⟩:=g2
     obtain⟨arr,ty,fz,e1,_⟩:=(g2.2.1 p hp).row
     rw[e,h5] at e1;cases e1
   | map es=>
    cases l with
    | cells ls=>exact g2.elim
    | obj r' _=>
     simp[ah] at hin;subst hin
     obtain⟨xs,e1,_⟩:=g2
     rw[h5] at e1;cases e1
   | aV m n seen=>
    cases l with
    | cells ls=>exact g2.elim
    | obj r' _=>
     simp[ah] at hin;subst hin
     obtain⟨_,_,_,_,e1,_⟩:=g2
     rw[h5] at e1;cases e1
   | loop rd f nt env ps a b pend=>
    cases l with
    | cells ls=>exact g2.elim
    | obj r' _=>
     simp[ah] at hin;subst hin
     obtain⟨lp,e1,_⟩:=g2
     rw[h5] at e1;cases e1
   | mark=>
    cases l with
    | cells ls=>exact g2.elim
    | obj r' _=>
     show r'<(w.heap.setIfInBounds r (.deferred none)).size
     have g2':r'<w.heap.size:=g2
     simpa using g2'
  ·exact g2.mono (.refl _) fun c hc=>hother c fun e=>hin (e▸hc)
 ·have hX:=hR.ext
  refine⟨hX.wL,fun c hc hf=>?_,hX.keep,hX.fK,hX.fresh,by simpa using hX.size,hX.has,hX.wsub,hX.wrote,hX.os,hX.output,hX.tape⟩
  rw[←hX.frame c hc hf]
  refine hother c fun e=>?_
  obtain⟨l0,g1,_⟩:=hX.fresh _ _ h3 c (by simp[ah,e]) hc
  have:=hB.val.has g1
  rw[h2] at this;cases this
 ·intro d' hd'
  obtain⟨k',r',e1,e2,e3,e4,e5⟩:=hR.marks d' (by rw[hd];exact List.mem_cons_of_mem _ hd')
  refine⟨k',r',e1,e2,e3,e4,?_⟩
  rw[hother r' fun e=>ha1 d' hd' (by rw[e1,e]),e5]
theorem uM (hB:Base M0 h0 w0) {F:Fence} {n:Nat} {fn:Func} {R:Ending→World→Prop}:∀ (ds:List Deferred) (a:Act) (w:World),a.defers=ds→Rel M0 h0 w0 nt M s a w →
  (∀ w',Rel M0 h0 w0 nt M s { a with defers:=[] } w'→∃ v,(results fn a.tmps).run P w'=.ok v w'∧R (.returned v) w')→LeavesInM F n P fn a.tmps R ds .returning w
 | [],a,w,hd,hR,hK=>by
  simp only[LeavesInM,LeavesIn]
  exact hK w (by
   have:a={ a with defers:=[] }:=by cases a;simp at hd;subst hd;rfl
   rw[←this];exact hR)
 | d::ds,a,w,hd,hR,hK=>by
  obtain⟨r,w',h1,h2,h3⟩:=MO (P:=P) hB hR hd
  refine⟨by simp,.inl ⟨r,w',h1,h2,?_⟩⟩
  exact uM hB ds { a with defers:=ds } w' rfl h3 hK
end
theorem OC {N N':Np} {v:TV} {y:Value} (h:v.zK=true) (hv:VR N v y):VR N' v y:=by
 cases hv<;>first | (constructor;done) | (simp[TV.zK] at h;done)
theorem MP {N N':Np} {vs:List TV} {ys:List Value} (h:vs.all TV.zK=true) (hv:aG N vs ys):aG N' vs ys:=
 ⟨hv.len,fun i c v h1 h2=>OC (List.all_eq_true.1 h c (List.mem_of_getElem? h1)) (hv.at_ i c v h1 h2)⟩
theorem G7 {N N':Np} {v:TV} {y:Value} (h:v.FI=true) (hv:VR N v y):VR N' v y:=by
 cases hv with
 | agg h1 h2=>exact .agg' (MP h ⟨h1,h2⟩)
 | _=>first | (constructor;done) | (simp[TV.FI,TV.zK] at h;done)
theorem RZ {N N':Np} {v:TV} {y:Value} (h:v.flat=true) (hv:VR N v y):VR N' v y:=by
 cases hv with
 | bf h1 h2=>
  simp only[TV.flat] at h
  exact .bf h1 fun i c v e1 e2=>G7 (List.all_eq_true.1 h c (List.mem_of_getElem? e1)) (h2 i c v e1 e2)
 | agg h1 h2=>exact G7 h (.agg h1 h2)
 | _=>first | (constructor;done) | (simp[TV.flat,TV.FI,TV.zK] at h;done)
section
variable {P:Program} {T:Tab} {call:ay} {L:Nat} {nt:Nat} {M:Mp} {h:List HB} {w:World} {M':Mp} {s:St} {a:Act} {w':World}
theorem EG (hB:Base M h w) (hR:Rel M h w nt M' s a w') {v:TV} {y:Value} (hv:VR M'.h v y):dL M h w v s.heap s.ws y w':=by
 refine⟨M'.only,sW hR.val (fun _ _ _=>trivial),fun _=>rfl,?_,hv⟩
 have hX:=hR.ext
 have hk:∀ k,(fQ h k).isSome=true→∃ b,k=.h b:=fun k hk=>let ⟨b,e,_⟩:=oZ hk;⟨b,e⟩
 exact
  {wL:=fun k l hl=>by
    cases k with
    | l j=>rw[hB.loc j] at hl;cases hl
    | h b=>exact hX.wL _ _ hl
   frame:=hX.frame
   keep:=fun k e hn=>by obtain⟨b,rfl⟩:=hk k e;exact hX.keep _ e hn
   fK:=fun k e hn=>by
    cases k with
    | h b=>exact hX.fK (.h b) e hn
    | l j=>exact (hB.loc j).symm
   fresh:=fun k l hl=>by
    cases k with
    | h b=>exact hX.fresh (.h b) l hl
    | l j=>cases hl
   size:=hX.size
   has:=fun k e=>by obtain⟨b,rfl⟩:=hk k e;exact hX.has _ e
   wsub:=hX.wsub
   wrote:=hX.wrote
   os:=hX.os
   output:=hX.output
   tape:=hX.tape }
theorem OD (hB:Base M h w) (hR:Rel M h w nt M' s a w') (hws:s.ws=[]) {v:TV} {y:Value} (hv:VR M'.h v y) (hf:v.flat=true):dL M h w v h [] y w':=by
 have hX:=hR.ext
 rw[hws] at hX
 have hfr:∀ c,c<w.heap.size→w'.heap[c]? = w.heap[c]?:=fun c hc=>hX.frame c hc (by simp)
 refine⟨M,⟨fun k l hk _=>?_,hB.val.own,fun k l hk c hc=>Nat.lt_of_lt_of_le (hB.val.inb k l hk c hc) hX.size⟩,hB.loc,?_,RZ hf hv⟩
 ·obtain⟨b,h1,h2⟩:=hB.val.ok k l hk trivial
  exact⟨b,h1,h2.mono (.refl _) fun c hc=>hfr c (hB.val.inb k l hk c hc)⟩
 ·exact⟨.refl _,fun c hc _=>hfr c hc,fun _ _ _=>rfl,fun _ _ _=>rfl,fun k l hk c hc _=>⟨l,hk,hc⟩,hX.size,fun _ e=>e,by simp,by simp,hX.os,hX.output,hX.tape⟩
theorem qQ {N:Np}:∀ {args:List TV} {xs:List Value} {k t:Nat} {e:EV},aG N args xs→aK t (fB k args)=some e→∃ i v x,t=k+i∧e=.val v∧xs[i]? = some x∧VR N v x
 | [],xs,k,t,e,h,hl=>by simp[fB,aK] at hl
 | v::vs,xs,k,t,e,h,hl=>by
  obtain⟨x,xs',rfl,h1,h2⟩:=h.cu
  simp only[fB,aK] at hl
  split at hl
  ·rename_i hk
   cases hl
   exact⟨0,v,x,by omega,rfl,rfl,h1⟩
  ·obtain⟨i,v',x',e1,e2,e3,e4⟩:=qQ h2 hl
   exact⟨i+1,v',x',by omega,e2,by simpa using e3,e4⟩
theorem Ak (hm:P.follows .mixedOrders=true) (hC:aj P call) {f:Nat} {args:List TV} {v:TV} {h':List HB} {ws:List Nat} (hf:O8 P T call L f args h=some (v,h',ws)) (hB:Base M h w) {xs:List Value} (hx:aG M.h args xs) :
  ∃ fn c, P.funcs[f]? = some fn ∧ (fn.name == "runtime.NumGoroutine") = false ∧ fn.body = some c ∧ ∀ n, CallsIn Fence.wide n P f xs.toArray w (uD (dL M h w v h' ws)) := by
 unfold O8 CS at hf
 split at hf
 ·rename_i t ht
  split at ht
  ·rename_i fn hfn
   split at ht
   ·cases ht
   ·rename_i hname
    split at ht
    ·rename_i c hc
     cases ht
     refine⟨fn,c,hfn,by simpa using hname,hc,fun n=>?_⟩
     have hR0:Rel M h w fn.ntmps M ⟨fB 0 args,[],h,[]⟩ { tmps:=xs.toArray++Array.replicate (fn.ntmps-xs.toArray.size) Go.undef,defers:=[] } w:=by
      have hg:St.get ⟨fB 0 args,[],h,[]⟩=fQ h:=getEnv ⟨[],[],h,[]⟩ _ _
      refine⟨by rw[hg];exact hB.val,by rw[hg];exact .refl _ _ _,fun t e hl=>?_,by simp;omega,by simp,.nil⟩
      obtain⟨i,v',x,e1,rfl,e3,e4⟩:=qQ hx hl
      have hi:i<xs.length:=(List.getElem?_eq_some_iff.1 e3).1
      have:(xs.toArray++Array.replicate (fn.ntmps-xs.toArray.size) Go.undef).getD t Go.undef=x:=by
       rw[Array.getD_eq_getD_getElem?,Array.getElem?_append_left (by simp;omega)]
       have:t=i:=by omega
       subst this
       simp[e3]
      rw[this]
      exact .val e4
     have hfin:∀ (s:St),(match jI P s fn.results.toList with
       | some vs=>if s.ws.isEmpty&&(one vs).flat then some (one vs,h,[]) else some (one vs,s.heap,s.ws)
       | none=>none)=some (v,h',ws)→∀ (M':Mp) (a':Act) (w':World),Rel M h w fn.ntmps M' s a' w'→LeavesInM Fence.wide n P fn a'.tmps (uD (dL M h w v h' ws)) a'.defers .returning w':=by
      intro s hs M' a' w' hR'
      split at hs
      ·rename_i vs hvs
       refine uM hB a'.defers a' w' rfl hR' fun w'' EH=>?_
       obtain⟨y,g1,g2⟩:=tC (P:=P) EH hvs
       refine⟨y,g2,?_⟩
       split at hs
       ·rename_i hfl
        simp only[Bool.and_eq_true,List.isEmpty_iff] at hfl
        simp only[Option.some.injEq,Prod.mk.injEq] at hs
        obtain⟨rfl,rfl,rfl⟩:=hs
        exact OD hB EH hfl.1 g1 hfl.2
       ·simp only[Option.some.injEq,Prod.mk.injEq] at hs
        obtain⟨rfl,rfl,rfl⟩:=hs
        exact EG hB EH g1
      ·cases hs
     refine callsIn_of_wp_marks (F:=Fence.wide) hfn hc trivial ?_
     split at hf
     ·rename_i s hex
      exact jc (dI:=false) hm hC hB (fun _=>rfl) _ _ _ _ hex n _ M _ w hR0 fun M' a' w' hR'=>hfin s hf M' a' w' hR'
     ·rename_i s hex
      exact jc (dI:=false) hm hC hB (fun _=>rfl) _ _ _ _ hex n _ M _ w hR0 fun M' a' w' hR'=>hfin s hf M' a' w' hR'
     ·cases hf
    ·cases ht
  ·cases ht
 ·cases hf
end
end Tw
namespace Tw
open Go Go.ChangeMaps
def nS (ops:Array Oper):Option (Nat×Nat×Oper×Oper):=
 match ops.toList with
 | [a,b]=>match a.op,a.dst,a.guard with
  | .next (.tmp it) false,some nx,none=>if a.after.toList.all (fun e=>!Region.binds .any e)&&b.after.toList.any (fun e=>Region.binds .any e&&e.on==0)&&b.after.toList.all (fun e=>!Region.binds .any e||e.on==0) then some (it,nx,a,b) else none
  | _,_,_=>none
 | _=>none
def Kz (fl:Nat) (s:St) (it:Nat) (K:St→TV→Prop):Prop:=
 ∃ b r n seen es,aK it s.env=some (.val (.iter b))∧s.heap[b]? = some (.aV r n seen)∧s.heap[r]? = some (.map es)∧es.length=n ∧
  ((∀ j,j<n→j∈seen)→K s (.bf [.bool false])) ∧
  ∀ j e,j∉seen→es[j]? = some e→K { s with heap:=s.heap.set b (.aV r n (j::seen)),ws:=bU fl [.h b] s.ws } (.bf [.bool true,e.1,e.2])
def uN (g:St→(Ex→St→Prop)→Prop):Nat→St→(Ex→St→Prop)→Prop
 | 0,_,_=>False
 | n+1,s,Q=>g s fun e s=>match e with
  | .norm=>uN g n s Q
  | e=>Q e s
abbrev lG:=TV→List TV→List HB→(TV→List HB→List Nat→Prop)→Prop
def IG:lG:=fun _ _ _ _=>False
def OE (T:Tab) (env:List (Nat×EV)) (g:Operand):Bool:=match jP env g with
 | some (.fn f1 _ _)=>T.din.contains f1
 | _=>false
def Vw (cd:lG) (f fl nt:Nat) (g:Operand) (ps:Array Tmp) (ku body:Code) (s:St) (Q:Ex→St→Prop):Prop:=
 ∃ f1 a1 b1,jP s.env g=some (.fn f1 a1 b1)∧s.env.all isVal=true∧cd (.fn f1 a1 b1) [.iF (s.heap.length+1)] (s.heap++[.mark,.loop true f nt s.env ps.toList ku body none]) fun _ h ws=>
  ∃ rd f2 zS e2 ps2 a2 b2 pend e,h[s.heap.length+1]? = some (.loop rd f2 zS e2 ps2 a2 b2 pend)∧zQ rd pend=some e∧Q e { s with heap:=h.set (s.heap.length+1) (.loop false f2 zS e2 ps2 a2 b2 (some .skip)),ws:=bU fl (ws.map .h) s.ws }
def bD (P:Program) (T:Tab) (call:ay) (cd:lG) (L:Nat) (f:Nat) (fl nt:Nat):Code→St→(Ex→St→Prop)→Prop
 | .region id ops draw,s,Q=>match nS ops with
  | some (it,nx,_,b)=>nx<nt∧Kz fl s it fun s v=>∃ s2 is,cZ P call (fun d=>T.wJ f d) fl nt ops [b] (s.put (some nx) (.val v))=some (s2,is)∧Q .norm { s2 with env:=pick (T.eG f id) s2.env }
  | none=>∃ e s',exec P T call L f false fl nt (.region id ops draw) s=some (e,s')∧Q e s'
 | .seq a b,s,Q=>bD P T call cd L f fl nt a s fun e s=>match e with
  | .norm=>bD P T call cd L f fl nt b s Q
  | e=>Q e s
 | .cond c a b,s,Q=>match jP s.env c with
  | some (.bool true)=>bD P T call cd L f fl nt a s Q
  | some (.bool false)=>bD P T call cd L f fl nt b s Q
  | _=>False
 | .block id b,s,Q=>bD P T call cd L f fl nt b s fun e s=>Q (match e with | .exit i=>if i=id then .norm else .exit i | e=>e) s
 | .scope b,s,Q=>bD P T call cd L f fl nt b s Q
 | .loop b,s,Q=>uN (fun s Q=>bD P T call cd L f fl nt b (dh (T.bY f (bH b)) s) Q) L s Q
 | .rangeFunc g ps ku body,s,Q=>if OE T s.env g=true then Vw cd f fl nt g ps ku body s Q else ∃ e s',exec P T call L f false fl nt (.rangeFunc g ps ku body) s=some (e,s')∧Q e s'
 | c,s,Q=>∃ e s',exec P T call L f false fl nt c s=some (e,s')∧Q e s'
section
variable {P:Program} {T:Tab} {call:ay} {L f:Nat} {nt:Nat} {M0:Mp} {h0:List HB} {w0:World} {r:Option Nat} {ops:Array Oper} {M:Mp} {s:St} {a:Act} {w:World}
theorem Vx (hm:P.follows .mixedOrders=true) {id:Nat} {o1 o2:Oper} {draw:Bool} {F:Fence} {n:Nat} {Q:Exit→Act→World→Prop} (hops:ops=#[o1,o2]) (h1:o1.after.toList.all (fun e=>!Region.binds .any e)=true) (h2:o2.after.toList.any (fun e=>Region.binds .any e&&e.on==0)=true) (h3:o2.after.toList.all (fun e=>!Region.binds .any e||e.on==0)=true)
  (h:∀ w',(w'=w∨w'={ w with drawn:=w.drawn+1 })→wpOpIn F n P ops Q 0 (wpOpIn F n P ops Q 1 (Q .normal)) a w'):(Code.region id ops draw).wpIn F n P Q a w:=by
 cases draw with
 | false=>
  refine wpIn_region ?_
  have:=h w (.inl rfl)
  have e:List.range ops.size=[0,1]:=by rw[hops];rfl
  rw[e,wpOpsIn_cons]
  refine wpOpIn_mono (fun a w hx=>?_) this
  rw[wpOpsIn_cons]
  exact wpOpIn_mono (fun a w hx=>hx) hx
 | true=>
  refine wpIn_region_any hm ?_
  have hsz:ops.size=2:=by rw[hops];rfl
  have w1:∀ D,Waits D o1:=fun D e he hb=>by
   have:=List.all_eq_true.1 h1 e (by simpa using he)
   simp[hb] at this
  have w2:∀ D,Waits D o2→D 0:=fun D hD=>by
   obtain⟨e,he,hb⟩:=List.any_eq_true.1 h2
   simp only[Bool.and_eq_true,beq_iff_eq] at hb
   have:=hD e (by simpa using he) hb.1
   rwa [hb.2] at this
  have g0:ops[0]? = some o1:=by rw[hops];rfl
  have g1:ops[1]? = some o2:=by rw[hops];rfl
  have g2:∀ i,2≤i→ops[i]? = none:=fun i hi=>Array.getElem?_eq_none (by omega)
  rw[hsz]
  have r0:∀ i,i∈Region.ready .any ops (Array.replicate 2 false)↔i=0:=by
   intro i
   rw[jw (by simp[hsz])]
   constructor
   ·rintro⟨o,ho,_,hw⟩
    match i with
    | 0=>rfl
    | 1=>
     rw[g1] at ho;cases ho
     have:=w2 _ hw
     simp at this
    | i+2=>rw[g2 _ (by omega)] at ho;cases ho
   ·rintro rfl
    exact⟨o1,g0,by simp,w1 _⟩
  have r1:∀ i,i∈Region.ready .any ops ((Array.replicate 2 false).setIfInBounds 0 true)↔i=1:=by
   intro i
   rw[jw (by simp[hsz])]
   constructor
   ·rintro⟨o,ho,hl,_⟩
    match i with
    | 0=>simp at hl
    | 1=>rfl
    | i+2=>rw[g2 _ (by omega)] at ho;cases ho
   ·rintro rfl
    refine⟨o2,g1,by simp,fun e he hb=>?_⟩
    have:=List.all_eq_true.1 h3 e (by simpa using he)
    simp only[hb,Bool.not_true,Bool.false_or,beq_iff_eq] at this
    rw[this];simp
  have r2:Region.ready .any ops (((Array.replicate 2 false).setIfInBounds 0 true).setIfInBounds 1 true)=[]:=by
   refine List.eq_nil_iff_forall_not_mem.2 fun i hi=>?_
   obtain⟨o,ho,hl,_⟩:=(jw (by simp[hsz])).1 hi
   match i with
   | 0=>simp at hl
   | 1=>simp at hl
   | i+2=>rw[g2 _ (by omega)] at ho;cases ho
  refine⟨fun h0=>?_,fun i hi=>?_⟩
  ·have:=(r0 0).2 rfl
   rw[h0] at this;cases this
  ·have:=(r0 i).1 hi
   subst this
   refine wpOpIn_mono (fun a w hx=>?_) (h _ (.inr rfl))
   refine⟨fun h0=>?_,fun i hi=>?_⟩
   ·have:=(r1 1).2 rfl
    rw[h0] at this;cases this
   ·have:=(r1 i).1 hi
    subst this
    exact wpOpIn_mono (fun a w hx=>⟨r2,hx⟩) hx
theorem Rel.Yq (hR:Rel M0 h0 w0 nt M s a w) {d:Nat} {v:EV} {x:Value} (hd:d<nt) (hx:ER M v x):Rel M0 h0 w0 nt M (s.put (some d) v) (a.put (some d) x) w:=by
 have hg:(s.put (some d) v).get=s.get:=getEnv s _ _
 refine⟨by rw[hg];exact hR.val,by rw[hg];exact hR.ext,?_,by rw[size_put];exact hR.size,?_,by rw[gy];exact hR.apart⟩
 ·intro t e hl
  rw[qO] at hl
  rw[uF]
  by_cases hd':some d=some t
  ·rw[if_pos hd'] at hl
   have:=hR.size
   cases hd'
   rw[if_pos ⟨rfl,by omega⟩]
   cases hl
   exact hx
  ·rw[if_neg hd'] at hl
   rw[if_neg (fun h=>hd' h.1)]
   exact hR.env t e hl
 ·rw[gy,hg];exact hR.marks
theorem S9 (hB:Base M0 h0 w0) {F:Fence} {n:Nat} {Q:Exit→Act→World→Prop} {o:Oper} {it nx i:Nat} {K:Act→World→Prop} {K':St→TV→Prop} (ho:ops[i]? = some o) (hop:o.op=.next (.tmp it) false) (hdst:o.dst=some nx) (hg:o.guard=none) (hd:nx<nt)
  (hR:Rel M0 h0 w0 nt M s a w) (hN:Kz h0.length s it K') (hK:∀ s1 v a1 w1,K' s1 v→Rel M0 h0 w0 nt M (s1.put (some nx) (.val v)) a1 w1→K a1 w1):wpOpIn F n P ops Q i K a w:=by
 obtain⟨b,r,n',seen,es,hit,hb,hr,hn,hover,hpick⟩:=hN
 have hx:=hR.env it _ hit
 obtain⟨r',o',hm⟩:∃ r' o',a.tmps.getD it Go.undef=.pointer (some ⟨r',0,none⟩)∧M (.h b)=some (.obj r' o'):=by
  generalize a.tmps.getD it Go.undef=xv at hx
  cases hx with
  | val hx=>cases hx with
   | iter h=>exact⟨_,_,rfl,h⟩
 obtain⟨hm,hmb⟩:=hm
 obtain⟨blk,c1,c2⟩:=hR.val.ok _ _ hmb trivial
 simp only[St.get,hb,Option.some.injEq] at c1;subst c1
 obtain⟨rb,q,sa,d1,d2,d3,d4⟩:=c2
 obtain⟨blk,c1,c2⟩:=hR.val.ok (.h r) _ d1 trivial
 simp only[St.get,hr,Option.some.injEq] at c1;subst c1
 obtain⟨xs,g1,g2⟩:=c2
 have hnn:xs.size=n':=by rw[←g2.len];exact hn
 have hold:∀ x∈xs.toList,x.born<n':=fun x hx=>by
  obtain⟨k,hk⟩:=List.mem_iff_getElem?.1 hx
  have hk':xs[k]? = some x:=by simpa using hk
  rw[(g2.at_ k x hk').1,←hnn]
  exact (Array.getElem?_eq_some_iff.1 hk').1
 have UJ:∀ k j,q[k]? = some j→(k∈sa.toList↔j∈seen):=by
  intro k j hkj
  have e1:k∈sa.toList→j∈seen:=fun hk=>by
   have:(q[k]?:Option Nat)∈sa.toList.map (fun i=>q[i]?):=List.mem_map.2 ⟨k,hk,rfl⟩
   rw[d4,hkj] at this
   obtain⟨j',h1,h2⟩:=List.mem_map.1 this
   cases h2;simpa using h1
  have e2:j∈seen→k∈sa.toList:=fun hj=>by
   have:some j∈seen.reverse.map some:=List.mem_map.2 ⟨j,by simpa using hj,rfl⟩
   rw[←d4] at this
   obtain⟨k',h1,h2⟩:=List.mem_map.1 this
   have i1:=List.getElem?_eq_some_iff.1 h2
   have i2:=List.getElem?_eq_some_iff.1 hkj
   have:=(List.getElem_inj g2.Vo (h₀:=i1.1) (h₁:=i2.1)).1 (i1.2.trans i2.2.symm)
   rw[←this];exact h1
  exact⟨e1,e2⟩
 have hleft:∀ x,x∈(leftOf xs sa).toList↔x∈xs.toList∧x.born∉sa.toList:=fun x=>by
  simp[leftOf]
 have heval:a.eval (.tmp it)=.pointer (some ⟨r',0,none⟩):=by simpa[Act.eval] using hm
 unfold wpOpIn
 rw[ho]
 have hw:Region.wanted o (yielded ops a.tmps)=true:=by simp[Region.wanted,hg]
 simp only[hw,if_true]
 refine⟨fun f hf=>by simp[Oper.about,hop] at hf,?_⟩
 rcases run_next_at (P:=P) w o.type r' rb n' n' sa xs xs.size d2 g1 hold (Nat.le_refl _) with⟨h1,h2⟩ | ⟨e,h1,w1,h2,h3⟩
 ·have hrun:(o.semAt F.round a.eval).run P w=.ok (.value (.tuple #[.bool false])) w:=by
   simp[Oper.semAt,execOp,hop,heval,h2]
  rw[hrun,Oper.uponIn_value,hdst]
  refine hK s _ _ _ (hover fun j hj=>?_) (hR.Yq hd (.val (.CU (.cons (.bool false) .nil))))
  obtain⟨k,hk⟩:=List.mem_iff_getElem?.1 (g2.Vp j (by omega))
  refine (UJ k j hk).1 ?_
  apply Classical.byContradiction
  intro hns
  have hkx:k<xs.size:=by rw[←g2.ord];exact (List.getElem?_eq_some_iff.1 hk).1
  have:xs[k]∈(leftOf xs sa).toList:=(hleft _).2 ⟨by simp,by rw[(g2.at_ k _ (Array.getElem?_eq_getElem hkx)).1];exact hns⟩
  have h0:(leftOf xs sa).toList=[]:=List.eq_nil_of_length_eq_zero (by simpa using h1)
  rw[h0] at this;cases this
 ·obtain⟨hex,hes⟩:=(hleft e).1 h1
  obtain⟨k,hk⟩:=List.mem_iff_getElem?.1 hex
  have hk':xs[k]? = some e:=by simpa using hk
  obtain⟨z1,j,e',z2,z3,z4,z5⟩:=g2.at_ k e hk'
  have hj:j∉seen:=fun h=>hes (by rw[z1];exact (UJ k j z2).2 h)
  have hR1:Rel M0 h0 w0 nt M s a w1:=by
   rcases h2 with rfl | rfl
   ·exact hR
   ·exact⟨hR.val.of_heap rfl,hR.ext.drew rfl rfl rfl rfl,hR.env,hR.size,hR.marks,hR.apart⟩
  have hh:w1.heap=w.heap:=by rcases h2 with rfl | rfl<;>rfl
  have hrun:(o.semAt F.round a.eval).run P w=.ok (.value (.tuple #[.bool true,e.key,e.val])) (setBlock w1 r' (.mapIter (some rb) n' (sa.push e.born) xs.size)):=by
   simp[Oper.semAt,execOp,hop,heval,h3]
  rw[hrun,Oper.uponIn_value,hdst]
  have hlt:r'<w1.heap.size:=by rw[hh];exact (Array.getElem?_eq_some_iff.1 d2).1
  obtain⟨v4,x4⟩:=qP (o':=.mapIter (some rb) n' (sa.push e.born) xs.size) (b':=.aV r n' (j::seen)) hR1.val hmb hb rfl ⟨rb,q,sa.push e.born,d1,by simp[hlt,hnn],d3,by
   rw[Array.toList_push,List.map_append,d4,z1]
   simp[z2]⟩
  have hR2:=hR1.next hB (s':={ s with heap:=s.heap.set b (.aV r n' (j::seen)),ws:=bU h0.length [.h b] s.ws }) v4 x4 rfl rfl (fun _ _ h=>h)
  exact hK _ _ _ _ (hpick j e' hj z3) (hR2.Yq hd (.val (.CU (.cons (.bool true) (.cons z4 (.cons z5 .nil))))))
theorem EI {it nx:Nat} {o1 o2:Oper} (h:nS ops=some (it,nx,o1,o2)):ops=#[o1,o2]∧o1.op=.next (.tmp it) false∧o1.dst=some nx∧o1.guard=none∧o1.after.toList.all (fun e=>!Region.binds .any e)=true∧o2.after.toList.any (fun e=>Region.binds .any e&&e.on==0)=true∧o2.after.toList.all (fun e=>!Region.binds .any e||e.on==0)=true:=by
 unfold nS at h
 split at h
 ·rename_i x y hl
  split at h
  ·rename_i it' nx' h1 h2 h3
   split at h
   ·rename_i hc
    simp only[Option.some.injEq,Prod.mk.injEq] at h
    obtain⟨rfl,rfl,rfl,rfl⟩:=h
    simp only[Bool.and_eq_true] at hc
    exact⟨Array.ext' (by simpa using hl),h1,h2,h3,hc.1.1,hc.1.2,hc.2⟩
   ·cases h
  ·cases h
 ·cases h
def zf (P:Program) (M0:Mp) (h0:List HB) (w0:World) (nt:Nat) (c:Code) (s:St) (QT:Ex→St→Prop):Prop:=
 ∀ (n:Nat) (Q:Exit→Act→World→Prop) (M:Mp) (a:Act) (w:World),Rel M0 h0 w0 nt M s a w→(∀ e s' M' a' w',QT e s'→Rel M0 h0 w0 nt M' s' a' w'→Q (IC e) a' w')→c.wpIn (iO none) n P Q a w
theorem OG (hB:Base M0 h0 w0) {c:Code} {live:List Nat} {g:St→(Ex→St→Prop)→Prop} (ih:∀ s QT,g s QT→zf P M0 h0 w0 nt c (dh live s) QT) {k:Nat} {s:St} {QT:Ex→St→Prop}
  (h:uN g k s QT):zf P M0 h0 w0 nt (.loop c) s QT:=by
 intro n Q M a w hR hQ
 let J:Act→World→Nat→Prop:=fun a w k=>∃ s M,uN g k s QT∧Rel M0 h0 w0 nt M s a w
 refine wpIn_loop (fun a w=>∃ k,J a w k) (fun a w=>leastOf (J a w)) ⟨k,s,M,h,hR⟩ ?_
 intro a1 w1 hI
 obtain⟨⟨s1,M1,hit,hR1⟩,_⟩:=leastOf_spec hI
 generalize leastOf (J a1 w1)=k1 at hit ⊢
 cases k1 with
 | zero=>exact hit.elim
 | succ k1=>
  refine ih s1 _ hit n _ _ a1 w1 (hR1.head hB live) fun e s2 M2 a2 w2 hq hR2=>?_
  cases e with
  | norm=>
   have hJ:J a2 w2 k1:=⟨s2,M2,hq,hR2⟩
   exact⟨⟨k1,hJ⟩,Nat.lt_succ_of_le ((leastOf_spec ⟨k1,hJ⟩).2 k1 hJ)⟩
  | exit id=>exact hQ _ _ M2 a2 w2 hq hR2
  | ret=>exact hQ _ _ M2 a2 w2 hq hR2
def zi (P:Program) (cd:lG):Prop:=
 ∀ f1 a1 b1 args h K,cd (.fn f1 a1 b1) args h K→∀ (M:Mp) (w:World) (x:Value) (xs:List Value),Valid M jW (fQ h) w→(∀ k,M (.l k)=none)→VR M.h (.fn f1 a1 b1) x→aG M.h args xs →
  ∃ d,(∀ w,(Deferred.ofValue x xs.toArray).run P w=.ok d w)∧yV P d w fun y w'=>∃ v h' ws,K v h' ws∧dL M h w v h' ws y w'
theorem OH (hm:P.follows .mixedOrders=true) (hC:aj P call) {cd:lG} (hD:zi P cd) (hB:Base M0 h0 w0):∀ (c:Code) (s:St) (QT:Ex→St→Prop),bD P T call cd L f h0.length nt c s QT→zf P M0 h0 w0 nt c s QT:=by
 have plain:∀ (c:Code) (s:St) (QT:Ex→St→Prop),(∃ e s',exec P T call L f false h0.length nt c s=some (e,s')∧QT e s')→zf P M0 h0 w0 nt c s QT:=by
  rintro c s QT ⟨e,s',h1,h2⟩ n Q M a w hR hQ
  exact jc (dI:=false) hm hC hB (fun _=>rfl) c s s' e h1 n Q M a w hR fun M' a' w' hR'=>hQ e s' M' a' w' h2 hR'
 intro c
 induction c with
 | region id ops draw=>
  intro s QT h
  simp only[bD] at h
  split at h
  ·rename_i it nx o1 o2 hn
   obtain⟨hd,hN⟩:=h
   obtain⟨e1,e2,e3,e4,e5,e6,e7⟩:=EI hn
   intro n Q M a w hR hQ
   refine Vx hm e1 e5 e6 e7 fun w' hw'=>?_
   have hR':Rel M0 h0 w0 nt M s a w':=by
    rcases hw' with rfl | rfl
    ·exact hR
    ·exact⟨hR.val.of_heap rfl,hR.ext.drew rfl rfl rfl rfl,hR.env,hR.size,hR.marks,hR.apart⟩
   refine S9 hB (i:=0) (o:=o1) (by rw[e1];rfl) e2 e3 e4 hd hR' hN ?_
   rintro s1 v a1 w1 ⟨s2,is,hrun,hq⟩ hR1
   have ho2:ops[1]? = some o2:=by rw[e1];rfl
   obtain⟨i,s3,is',hS,hr,_⟩:=pq hrun
   simp only[cZ,Option.some.injEq,Prod.mk.injEq] at hr
   obtain⟨rfl,rfl⟩:=hr
   refine (uG hC hR1 hS).2 none n Q 1 _ ho2 fun x w2 hst=>?_
   obtain⟨M',hR2⟩:=Ad hB hR1 hS hst
   exact hQ .norm _ _ _ _ hq (hR2.pick _)
  ·exact plain _ _ _ h
 | seq x y G6 ihy=>
  intro s QT h n Q M a w hR hQ
  simp only[bD] at h
  refine wpIn_seq (G6 s _ h n _ M a w hR fun e s1 M1 a1 w1 hq hR1=>?_)
  cases e with
  | norm=>exact ihy s1 _ hq n Q M1 a1 w1 hR1 hQ
  | exit id=>exact hQ _ _ _ _ _ hq hR1
  | ret=>exact hQ _ _ _ _ _ hq hR1
 | cond c x y G6 ihy=>
  intro s QT h n Q M a w hR hQ
  simp only[bD] at h
  have hev:∀ b,jP s.env c=some (.bool b)→a.eval c=.bool b:=by
   intro b hb
   have:=Ih hR.env hb
   generalize a.eval c=z at this
   cases this;rfl
  split at h
  ·rename_i hc
   exact wpIn_cond_true (hev _ hc) (G6 s _ h n Q M a w hR hQ)
  ·rename_i hc
   exact wpIn_cond_false (hev _ hc) (ihy s _ h n Q M a w hR hQ)
  ·exact h.elim
 | block id b ih=>
  intro s QT h n Q M a w hR hQ
  simp only[bD] at h
  refine wpIn_block (ih s _ h n _ M a w hR fun e s1 M1 a1 w1 hq hR1=>?_)
  have:=hQ _ _ _ _ _ hq hR1
  cases e with
  | norm=>exact this
  | ret=>exact this
  | exit i=>
   by_cases hi:i=id
   ·simp only[hi,if_true] at this
    simp only[IC,Exit.inBlock,hi,if_true]
    exact this
   ·simp only[hi,if_false] at this
    simp only[IC,Exit.inBlock,hi,if_false]
    exact this
 | scope b ih=>
  intro s QT h n Q M a w hR hQ
  simp only[bD] at h
  refine Ai (ih s _ h n _ M a w hR fun e s1 M1 a1 w1 hq hR1=>?_)
  have:=hQ _ _ _ _ _ hq hR1
  cases e<;>exact this
 | loop b ih=>
  intro s QT h
  simp only[bD] at h
  exact OG hB (live:=T.bY f (bH b)) (fun s QT hs=>ih _ _ hs) h
 | rangeFunc g ps ku body=>
  intro s QT h
  simp only[bD] at h
  split at h
  ·obtain⟨f1,a1,b1,hg,hv,hc⟩:=h
   intro n Q M a w hR hQ
   exact Dy hB hg hv (fun M w x xs=>hD _ _ _ _ _ _ hc M w x xs) (fun v h ws hk=>hk) n Q M a w hR hQ
  ·exact plain _ _ _ h
 | _=>
  intro s QT h
  simp only[bD] at h
  exact plain _ _ _ h
end
end Tw
namespace Tw
open Go
def iT (g:Nat→Option Nat):TV→Option TV
 | .ptr b o l=>(g b).map fun b=>.ptr b o l
 | .slc b o n c z e=>(g b).map fun b=>.slc b o n c z e
 | .map r=>(g r).map .map
 | .iF _=>none
 | .iter _=>none
 | .fn f a c=>match pz g a,pz g c with
  | some a,some c=>some (.fn f a c)
  | _,_=>none
 | .agg cs=>(pz g cs).map .agg
 | .bf cs=>(pz g cs).map .bf
 | .bool b=>some (.bool b)
 | .int k n=>some (.int k n)
 | .str s=>some (.str s)
 | .nil k=>some (.nil k)
where
 pz (g:Nat→Option Nat):List TV→Option (List TV)
 | []=>some []
 | c::cs=>match iT g c,pz g cs with
  | some v,some vs=>some (v::vs)
  | _,_=>none
theorem Am {g:Nat→Option Nat}:∀ {az as':List TV},iT.pz g az=some as'→az.length=as'.length∧∀ (i:Nat) c',as'[i]? = some c'→∃ c,az[i]? = some c∧iT g c=some c'
 | [],as',h=>by cases h;exact⟨rfl,fun i c h=>by simp at h⟩
 | a::az,as',h=>by
  simp only[iT.pz] at h
  split at h
  ·rename_i v vs e1 e2
   cases h
   obtain⟨h1,h2⟩:=Am e2
   refine⟨by simp[h1],fun i c' hi=>?_⟩
   cases i with
   | zero=>simp at hi;subst hi;exact⟨a,rfl,e1⟩
   | succ i=>exact h2 i c' (by simpa using hi)
  ·cases h
section
variable {g:Nat→Option Nat} {N N':Np}
theorem zk (hg:∀ b b',g b=some b'→N' b'=N b) {v:TV} {x:Value} (h:VR N v x):∀ {v'},iT g v=some v'→VR N' v' x:=by
 have lst:∀ {az:List TV} {xs:List Value},az.length=xs.length→(∀ (i:Nat) (c:TV) (v:Value),az[i]? = some c→xs[i]? = some v→∀ {v'},iT g c=some v'→VR N' v' v)→∀ {as'},iT.pz g az=some as'→as'.length=xs.length∧∀ (i:Nat) (c:TV) (v:Value),as'[i]? = some c→xs[i]? = some v→VR N' c v:=by
  intro az xs hl ha as' hr
  obtain⟨h1,h2⟩:=Am hr
  exact⟨by rw[←h1,hl],fun i c v e1 e2=>by obtain⟨c0,f1,f2⟩:=h2 i c e1;exact ha i c0 v f1 e2 f2⟩
 induction h with
 | bool b=>intro v' h;cases h;exact .bool b
 | int k n=>intro v' h;cases h;exact .int k n
 | str s=>intro v' h;cases h;exact .str s
 | LX=>intro v' h;cases h;exact .LX
 | Ep=>intro v' h;cases h;exact .Ep
 | Ie=>intro v' h;cases h;exact .Ie
 | XE=>intro v' h;cases h;exact .XE
 | LY=>intro v' h;cases h;exact .LY
 | ptr hb hp h ht=>
  intro v' hr
  simp only[iT,Option.map_eq_some_iff] at hr
  obtain⟨b',e,rfl⟩:=hr
  exact .ptr (by rw[hg _ _ e];exact hb) hp h ht
 | slc hb hp h hl hc hx ha hk=>
  intro v' hr
  simp only[iT,Option.map_eq_some_iff] at hr
  obtain⟨b',e,rfl⟩:=hr
  exact .slc (by rw[hg _ _ e];exact hb) hp h hl hc hx ha hk
 | map h=>
  intro v' hr
  simp only[iT,Option.map_eq_some_iff] at hr
  obtain⟨b',e,rfl⟩:=hr
  exact .map (by rw[hg _ _ e];exact h)
 | iF h=>intro v' hr;simp[iT] at hr
 | fn h1 h2 h3 h4 i2 i4=>
  intro v' hr
  simp only[iT] at hr
  split at hr
  ·rename_i a c e1 e2
   cases hr
   obtain⟨p1,p2⟩:=lst h1 i2 e1
   obtain⟨q1,q2⟩:=lst h3 i4 e2
   exact .fn p1 p2 q1 q2
  ·cases hr
 | iter h=>intro v' hr;simp[iT] at hr
 | agg h1 h2 i2=>
  intro v' hr
  simp only[iT,Option.map_eq_some_iff] at hr
  obtain⟨a,e,rfl⟩:=hr
  obtain⟨p1,p2⟩:=lst h1 i2 e
  exact .agg p1 p2
 | bf h1 h2 i2=>
  intro v' hr
  simp only[iT,Option.map_eq_some_iff] at hr
  obtain⟨a,e,rfl⟩:=hr
  obtain⟨p1,p2⟩:=lst h1 i2 e
  exact .bf p1 p2
def iQ (g:Nat→Option Nat):List (TV×TV)→Option (List (TV×TV))
 | []=>some []
 | (k,v)::r=>match iT g k,iT g v,iQ g r with
  | some k,some v,some r=>some ((k,v)::r)
  | _,_,_=>none
theorem G8:∀ {az as':List (TV×TV)},iQ g az=some as'→az.length=as'.length∧∀ (i:Nat) c',as'[i]? = some c'→∃ c,az[i]? = some c∧iT g c.1=some c'.1∧iT g c.2=some c'.2
 | [],as',h=>by cases h;exact⟨rfl,fun i c h=>by simp at h⟩
 | (k,v)::az,as',h=>by
  simp only[iQ] at h
  split at h
  ·rename_i k' v' vs e0 e1 e2
   cases h
   obtain⟨h1,h2⟩:=G8 e2
   refine⟨by simp[h1],fun i c' hi=>?_⟩
   cases i with
   | zero=>simp at hi;subst hi;exact⟨(k,v),rfl,e0,e1⟩
   | succ i=>exact h2 i c' (by simpa using hi)
  ·cases h
def lH (g:Nat→Option Nat):HB→Option HB
 | .cells k cs=>(iT.pz g cs).map (.cells k)
 | .map es=>(iQ g es).map .map
 | .mark=>some .mark
 | _=>none
theorem OI {v v':TV} (h:iT g v=some v'):bJ v'=bJ v:=by
 cases v<;>simp only[iT,Option.map_eq_some_iff,Option.some.injEq] at h
 all_goals first
  | (obtain⟨b,_,rfl⟩:=h;rfl)
  | (subst h;rfl)
  | (split at h<;>cases h;rfl)
  | cases h
theorem OJ (hg:∀ b b',g b=some b'→N' b'=N b) {w:World} {b b':HB} {l:Lc} (h:jm N w b l) (hr:lH g b=some b'):jm N' w b' l:=by
 cases b with
 | cells k cs=>
  cases l with
  | obj r _=>exact h.elim
  | cells ls=>
   simp only[lH,Option.map_eq_some_iff] at hr
   obtain⟨cs',e,rfl⟩:=hr
   obtain⟨h1,h2⟩:=Am e
   refine⟨fun c hc=>?_,fun p hp=>?_,fun hk=>by rw[←h1];exact h.2.2.1 hk,fun hk=>by rw[←h1];exact h.2.2.2 hk⟩
   ·obtain⟨i,hi⟩:=List.mem_iff_getElem?.1 hc
    obtain⟨c0,f1,f2⟩:=h2 i c hi
    rw[OI f2]
    exact h.1 c0 (List.mem_of_getElem? f1)
   ·obtain⟨⟨arr,ty,fz,a1,a2,a3,a4⟩,b1,b2,b3⟩:=h.2.1 p hp
    exact⟨⟨arr,ty,fz,a1,a2,a3,fun hk i c v hi hc hv=>by obtain⟨c0,f1,f2⟩:=h2 i c hc;exact zk hg (a4 (by rw[h1];exact hk) i c0 v hi f1 hv) f2⟩,b1,by rw[←h1];exact b2,b3⟩
 | map es=>
  cases l with
  | cells ls=>exact h.elim
  | obj r=>
   simp only[lH,Option.map_eq_some_iff] at hr
   obtain⟨es',e,rfl⟩:=hr
   obtain⟨h1,h2⟩:=G8 e
   obtain⟨xs,a0,a1,a2,a3,a4,a5⟩:=h
   refine⟨xs,a0,by rw[←h1];exact a1,a2,a3,by rw[←h1];exact a4,fun i x hx=>?_⟩
   obtain⟨b1,j,e0,b2,b3,b4,b5⟩:=a5 i x hx
   have hl:j<es'.length:=by rw[←h1];exact (List.getElem?_eq_some_iff.1 b3).1
   obtain⟨c0,f1,f2,f3⟩:=h2 j _ (List.getElem?_eq_getElem hl)
   rw[b3] at f1;cases f1
   exact⟨b1,j,_,b2,List.getElem?_eq_getElem hl,zk hg b4 f2,zk hg b5 f3⟩
 | mark=>simp only[lH,Option.some.injEq] at hr;subst hr;cases l<;>exact h
 | _=>simp[lH] at hr
theorem Vy {b b':HB} (h:lH g b=some b'):wr b'=wr b:=by
 cases b with
 | cells k cs=>simp only[lH,Option.map_eq_some_iff] at h;obtain⟨_,_,rfl⟩:=h;cases k<;>rfl
 | map es=>simp only[lH,Option.map_eq_some_iff] at h;obtain⟨_,_,rfl⟩:=h;rfl
 | mark=>simp only[lH,Option.some.injEq] at h;subst h;rfl
 | _=>simp[lH] at h
end
def Si:List Nat→Nat→Option Nat
 | [],_=>none
 | a::l,i=>match Nat.beq a i with
  | true=>some 0
  | false=>(Si l i).map (·+1)
theorem KA:∀ {l:List Nat} {i p:Nat},Si l i=some p→l[p]? = some i
 | [],i,p,h=>by cases h
 | a::l,i,p,h=>by
  simp only[Si] at h
  split at h
  ·rename_i e;cases h;rw[Nat.eq_of_beq_eq_true e];rfl
  ·simp only[Option.map_eq_some_iff] at h
   obtain⟨q,e,rfl⟩:=h
   rw[List.getElem?_cons_succ];exact KA e
def renG (fl:Nat) (keep:List Nat) (b:Nat):Option Nat:=match Nat.blt b fl with
 | true=>some b
 | false=>(Si keep b).map (·+fl)
def Ap (g:Nat→Option Nat) (h:List HB):List Nat→Option (List HB)
 | []=>some []
 | b::l=>match h[b]? with
  | some x=>match lH g x,Ap g h l with
   | some y,some r=>some (y::r)
   | _,_=>none
  | none=>none
theorem Aq {g:Nat→Option Nat} {h:List HB}:∀ {l:List Nat} {bs:List HB},Ap g h l=some bs→l.length=bs.length∧∀ (i:Nat) y,bs[i]? = some y→∃ c x,l[i]? = some c∧h[c]? = some x∧lH g x=some y
 | [],bs,e=>by cases e;exact⟨rfl,fun i y h=>by simp at h⟩
 | b::l,bs,e=>by
  simp only[Ap] at e
  split at e
  ·rename_i x hx
   split at e
   ·rename_i y r e1 e2
    cases e
    obtain⟨h1,h2⟩:=Aq e2
    refine⟨by simp[h1],fun i y' hi=>?_⟩
    cases i with
    | zero=>simp at hi;subst hi;exact⟨b,x,rfl,hx,e1⟩
    | succ i=>exact h2 i y' (by simpa using hi)
   ·cases e
  ·cases e
theorem dL.gc {M:Mp} {h h' bs:List HB} {w w':World} {v v':TV} {y:Value} {keep:List Nat} (hV:Valid M jW (fQ h) w) (hl:∀ k,M (.l k)=none) (hR:dL M h w v h' [] y w') (hn:keep.Nodup) (hk:∀ b∈keep,h.length≤b) (hv:iT (renG h.length keep) v=some v') (hb:Ap (renG h.length keep) h' keep=some bs):dL M h w v' (h++bs) [] y w':=by
 obtain⟨M',hV',hl',hX,hv'⟩:=hR
 have hdom:∀ b l,M (.h b)=some l→b<h.length:=fun b l hb=>by
  have:=hV.has hb
  simp only[fQ,St.get] at this
  rcases Nat.lt_or_ge b h.length with h1 | h1
  ·exact h1
  ·rw[List.getElem?_eq_none h1] at this;simp at this
 have hold:∀ b,b<h.length→M' (.h b)=M (.h b):=fun b hb=>hX.fK (.h b) (.inl (by simp[fQ,St.get,hb])) (by simp)
 have hoc:∀ b,b<h.length→fQ h' (.h b)=fQ h (.h b):=fun b hb=>hX.keep (.h b) (by simp[fQ,St.get,hb]) (by simp)
 obtain⟨p1,p2⟩:=Aq hb
 let κ:Nat→Option Nat:=fun b=>if b<h.length then some b else keep[b-h.length]?
 let M2:Mp:=fun k=>match k with
  | .l _=>none
  | .h b=>match κ b with
   | some c=>M' (.h c)
   | none=>none
 have hκ:∀ b c,κ b=some c→M2 (.h b)=M' (.h c):=fun b c e=>by show (match κ b with | some c=>M' (.h c) | none=>none)=_;rw[e]
 have hκn:∀ b,κ b=none→M2 (.h b)=none:=fun b e=>by show (match κ b with | some c=>M' (.h c) | none=>none)=_;rw[e]
 have hM2:∀ b l,M2 (.h b)=some l→∃ c,κ b=some c∧M' (.h c)=some l:=fun b l e=>by
  cases e2:κ b with
  | none=>rw[hκn b e2] at e;cases e
  | some c=>rw[hκ b c e2] at e;exact⟨c,rfl,e⟩
 have RG:∀ b,b<h.length→κ b=some b:=fun b hb=>by simp only[κ,if_pos hb]
 have Sj:∀ b,¬b<h.length→κ b=keep[b-h.length]?:=fun b hb=>by simp only[κ,if_neg hb]
 have hg:∀ b b',renG h.length keep b=some b'→M2.h b'=M'.h b:=fun b b' e=>by
  unfold renG at e
  split at e
  ·rename_i hlt
   have hlt:b<h.length:=Nat.le_of_ble_eq_true hlt
   cases e
   exact hκ _ _ (RG b hlt)
  ·simp only[Option.map_eq_some_iff] at e
   obtain⟨p,e1,rfl⟩:=e
   exact hκ _ _ (by rw[Sj _ (by omega),Nat.add_sub_cancel];exact KA e1)
 have hle:jR M.h M2.h:=fun b l e=>⟨l,by show M2 (.h b)=some l;rw[hκ b b (RG b (hdom b l e)),hold b (hdom b l e)];exact e,.refl l⟩
 have hfr:∀ c,c<w.heap.size→w'.heap[c]? = w.heap[c]?:=fun c hc=>hX.frame c hc (by simp)
 have hC:∀ b,b<h.length→fQ (h++bs) (.h b)=fQ h (.h b):=fun b hb=>by simp only[fQ,St.get];rw[List.getElem?_append_left hb]
 have hC2:∀ b,¬b<h.length→fQ (h++bs) (.h b)=bs[b-h.length]?:=fun b hb=>by simp only[fQ,St.get];rw[List.getElem?_append_right (by omega)]
 refine⟨M2,⟨fun k l hk2 _=>?_,fun k k' l l' b hne h1 h2 _ hc hw=>?_,fun k l hk2=>?_⟩,fun _=>rfl,⟨fun k l e=>?_,fun c hc _=>hfr c hc,fun k hs _=>?_,fun k hs _=>?_,fun k l e c hc hs=>?_,hX.size,fun k hs=>?_,by simp,by simp,hX.os,hX.output,hX.tape⟩,zk hg hv' hv⟩
 ·cases k with
  | l k=>cases hk2
  | h b=>
   obtain⟨c,e1,e2⟩:=hM2 b l hk2
   by_cases hb2:b<h.length
   ·have:=RG b hb2
    rw[this] at e1;cases e1
    rw[hold b hb2] at e2
    obtain⟨x,f1,f2⟩:=hV.ok _ l e2 trivial
    exact⟨x,by rw[hC b hb2];exact f1,f2.mono hle fun c hc=>hfr c (hV.inb _ l e2 c hc)⟩
   ·rw[Sj b hb2] at e1
    have hlt:b-h.length<bs.length:=by rw[←p1];exact (List.getElem?_eq_some_iff.1 e1).1
    obtain⟨c',x,f1,f2,f3⟩:=p2 _ _ (List.getElem?_eq_getElem hlt)
    rw[e1] at f1;cases f1
    obtain⟨x',g1,g2⟩:=hV'.ok _ l e2 trivial
    have g1:h'[c]? = some x':=g1
    rw[f2] at g1;cases g1
    exact⟨_,by rw[hC2 b hb2];exact List.getElem?_eq_getElem hlt,OJ hg g2 f3⟩
 ·cases k with
  | l k=>cases h1
  | h b1=>
   cases k' with
   | l k=>cases h2
   | h b2=>
    obtain⟨c1,e1,e2⟩:=hM2 b1 l h1
    obtain⟨c2,e3,e4⟩:=hM2 b2 l' h2
    have hcc:c1≠c2:=fun e=>by
     subst e
     by_cases q1:b1<h.length<;>by_cases q2:b2<h.length
     ·rw[RG _ q1] at e1;rw[RG _ q2] at e3;cases e1;cases e3;exact hne rfl
     ·rw[RG _ q1] at e1;rw[Sj _ q2] at e3;cases e1;have:=hk _ (List.mem_of_getElem? e3);omega
     ·rw[Sj _ q1] at e1;rw[RG _ q2] at e3;cases e3;have:=hk _ (List.mem_of_getElem? e1);omega
     ·rw[Sj _ q1] at e1;rw[Sj _ q2] at e3
      have i1:=(List.getElem?_eq_some_iff.1 e1)
      have i2:=(List.getElem?_eq_some_iff.1 e3)
      have:=(List.getElem_inj hn (h₀:=i1.1) (h₁:=i2.1)).1 (i1.2.trans i2.2.symm)
      exact hne (by rw[show b1=b2 by omega])
    obtain⟨x,g1,g2⟩:∃ x,fQ h' (.h c1)=some x∧wr x=true:=by
     by_cases q1:b1<h.length
     ·rw[RG _ q1] at e1;cases e1
      exact⟨b,by rw[hoc _ q1,←hC _ q1];exact hc,hw⟩
     ·rw[hC2 _ q1] at hc
      obtain⟨c',x,f1,f2,f3⟩:=p2 _ _ hc
      rw[Sj _ q1,f1] at e1;cases e1
      exact⟨x,f2,by rw[←Vy f3];exact hw⟩
    exact hV'.own (.h c1) (.h c2) l l' x (fun e=>hcc (by cases e;rfl)) e2 e4 trivial g1 g2
 ·cases k with
  | l k=>cases hk2
  | h b=>obtain⟨c,e1,e2⟩:=hM2 b l hk2;exact hV'.inb _ l e2
 ·cases k with
  | l k=>rw[hl k] at e;cases e
  | h b=>exact hle b l e
 ·cases k with
  | l k=>simp[fQ,St.get] at hs
  | h b=>
   refine hC b ?_
   simp only[fQ,St.get] at hs
   rcases Nat.lt_or_ge b h.length with h1 | h1
   ·exact h1
   ·rw[List.getElem?_eq_none h1] at hs;simp at hs
 ·cases k with
  | l k=>rw[hl k]
  | h b=>
   by_cases hb2:b<h.length
   ·rw[hκ b b (RG b hb2),hold b hb2]
   ·have h1:M (.h b)=none:=by
     cases e:M (.h b) with
     | none=>rfl
     | some l=>exact absurd (hdom b l e) hb2
    rw[h1]
    refine hκn b ?_
    rw[Sj b hb2]
    rcases hs with hs | hs
    ·simp only[fQ,St.get] at hs
     rw[List.getElem?_eq_none (by omega)] at hs
     simp at hs
    ·rw[hC2 b hb2] at hs
     rw[List.getElem?_eq_none_iff] at hs ⊢
     omega
 ·cases k with
  | l k=>cases e
  | h b=>
   obtain⟨c',e1,e2⟩:=hM2 b l e
   obtain⟨l0,f1,f2⟩:=hX.fresh _ l e2 c hc hs
   have:=hdom _ _ f1
   by_cases hb2:b<h.length
   ·rw[RG b hb2] at e1;cases e1;exact⟨l0,f1,f2⟩
   ·rw[Sj b hb2] at e1
    have:=hk _ (List.mem_of_getElem? e1)
    omega
 ·cases k with
  | l k=>simp[fQ,St.get] at hs
  | h b=>
   simp only[fQ,St.get] at hs ⊢
   rcases Nat.lt_or_ge b h.length with h1 | h1
   ·simp[List.getElem?_append_left h1,h1]
   ·rw[List.getElem?_eq_none h1] at hs;simp at hs
def wW:TV→List Nat→List Nat
 | .ptr b _ _,l=>b::l
 | .slc b _ _ _ _ _,l=>b::l
 | .map b,l=>b::l
 | .fn _ a c,l=>yt a (yt c l)
 | .agg cs,l=>yt cs l
 | .bf cs,l=>yt cs l
 | _,l=>l
where
 yt:List TV→List Nat→List Nat
 | [],l=>l
 | c::cs,l=>wW c (yt cs l)
def a2l:Option HB→List Nat→List Nat
 | some (.cells _ cs),l=>wW.yt cs l
 | some (.map es),l=>UK es l
 | _,l=>l
where
 UK:List (TV×TV)→List Nat→List Nat
 | [],l=>l
 | e::es,l=>wW e.1 (wW e.2 (UK es l))
def Sl (b:Nat):List Nat→Bool
 | []=>false
 | a::l=>match Nat.beq a b with
  | true=>true
  | false=>Sl b l
theorem KC:∀ {l:List Nat} {b:Nat},Sl b l=false→b∉l
 | [],b,_=>by simp
 | a::l,b,h=>by
  simp only[Sl] at h
  split at h
  ·cases h
  ·rename_i e
   rw[List.mem_cons]
   rintro (rfl | h2)
   ·rw[Nat.beq_refl] at e;cases e
   ·exact KC h h2
def pG (h:List HB) (fl:Nat):Nat→List Nat→List Nat→List Nat
 | 0,_,acc=>acc
 | _+1,[],acc=>acc
 | n+1,b::t,acc=>match Nat.blt b fl||Sl b acc with
  | true=>pG h fl n t acc
  | false=>pG h fl n (a2l h[b]? t) (b::acc)
theorem qR {h:List HB} {fl:Nat}:∀ (n:Nat) (t acc:List Nat),acc.Nodup→(∀ b∈acc,fl≤b)→(pG h fl n t acc).Nodup∧∀ b∈pG h fl n t acc,fl≤b
 | 0,_,_,h1,h2=>⟨h1,h2⟩
 | _+1,[],_,h1,h2=>⟨h1,h2⟩
 | n+1,b::t,acc,h1,h2=>by
  simp only[pG]
  split
  ·exact qR n t acc h1 h2
  ·rename_i e
   simp only[Bool.or_eq_false_iff] at e
   have e1:fl≤b:=by
    rcases Nat.lt_or_ge b fl with h3 | h3
    ·rw[show Nat.blt b fl=true from Nat.ble_eq_true_of_le h3] at e;cases e.1
    ·exact h3
   exact qR n _ _ (List.nodup_cons.2 ⟨KC e.2,h1⟩) fun c hc=>by
    rcases List.mem_cons.1 hc with rfl | hc
    ·exact e1
    ·exact h2 c hc
def gcR (h:List HB):Option (TV×List HB×List Nat)→Option (TV×List HB×List Nat)
 | some (v,h',[])=>match pG h' h.length 5000 (wW v []) [] with
  | keep=>match iT (renG h.length keep) v,Ap (renG h.length keep) h' keep with
   | some v',some []=>some (v',h,[])
   | some v',some bs=>some (v',h++bs,[])
   | _,_=>some (v,h',[])
 | r=>r
theorem Vz {P:Program} {M:Mp} {h h2:List HB} {w:World} {v2:TV} {ws2:List Nat} {r:Option (TV×List HB×List Nat)} (hV:Valid M jW (fQ h) w) (hl:∀ k,M (.l k)=none) (hr:gcR h r=some (v2,h2,ws2)):∃ v h' ws,r=some (v,h',ws)∧∀ y w',dL M h w v h' ws y w'→dL M h w v2 h2 ws2 y w':=by
 unfold gcR at hr
 split at hr
 ·rename_i v h'
  refine⟨v,h',[],rfl,fun y w' hR=>?_⟩
  simp only at hr
  obtain⟨k1,k2⟩:=qR (h:=h') (fl:=h.length) 5000 (wW v []) [] .nil (by simp)
  split at hr
  ·rename_i v' e1 e2
   cases hr
   have:=hR.gc hV hl k1 k2 e1 e2
   rw[List.append_nil] at this
   exact this
  ·rename_i v' bs _ e1 e2
   cases hr
   exact hR.gc hV hl k1 k2 e1 e2
  ·cases hr;exact hR
 ·exact⟨v2,h2,ws2,hr,fun _ _ h=>h⟩
end Tw
namespace Tw
open Go
def OL:TV→List Int
 | .bool b=>[if b then 1 else 0]
 | .int _ n=>[n]
 | .agg cs=>codes cs
 | _=>[]
where
 codes:List TV→List Int
 | []=>[]
 | c::cs=>OL c++codes cs
def UL:List Int→List Int→Bool
 | [],_=>true
 | _::_,[]=>false
 | a::az,b::bs=>if a<b then true else if b<a then false else UL az bs
section
variable {α:Type} (key:α→List Int)
def Sm (e:α):List α→List α
 | []=>[e]
 | x::l=>if UL (key e) (key x) then e::x::l else x::Sm e l
def sortK:List α→List α
 | []=>[]
 | e::l=>Sm key e (sortK l)
theorem Dz (e:α):∀ l,(Sm key e l).Perm (e::l)
 | []=>.refl _
 | x::l=>by
  unfold Sm
  split
  ·exact .refl _
  ·exact ((Dz e l).cons x).trans (.swap e x l)
theorem tH:∀ l,(sortK key l).Perm l
 | []=>.refl _
 | e::l=>(Dz key e _).trans ((tH l).cons e)
end
abbrev OM:List (TV×TV)→List (TV×TV):=sortK fun e=>OL e.1
abbrev sortB:List TV→List TV:=sortK OL
theorem tJ (l):(OM l).Perm l:=tH _ l
structure Ix {α:Type} (l1 l2:List α) (f g:Nat→Nat):Prop where
 to:∀ i,i<l1.length→f i<l1.length∧g (f i)=i∧l2[f i]? = l1[i]?
 fro:∀ j,j<l1.length→g j<l1.length∧f (g j)=j
theorem KD {α:Type} {l1 l2:List α} (h:l1.Perm l2):∃ f g,Ix l1 l2 f g:=by
 induction h with
 | nil=>exact⟨id,id,⟨fun i hi=>by simp at hi,fun i hi=>by simp at hi⟩⟩
 | cons x h ih=>
  obtain⟨f,g,h1,h2⟩:=ih
  refine⟨fun i=>match i with | 0=>0 | i+1=>f i+1,fun i=>match i with | 0=>0 | i+1=>g i+1,⟨fun i hi=>?_,fun j hj=>?_⟩⟩
  ·cases i with
   | zero=>simp
   | succ i=>
    obtain⟨a,b,c⟩:=h1 i (by simpa using hi)
    exact⟨by simpa using a,by simp[b],by simpa using c⟩
  ·cases j with
   | zero=>simp
   | succ j=>
    obtain⟨a,b⟩:=h2 j (by simpa using hj)
    exact⟨by simpa using a,by simp[b]⟩
 | swap x y l=>
  refine⟨fun i=>match i with | 0=>1 | 1=>0 | i+2=>i+2,fun i=>match i with | 0=>1 | 1=>0 | i+2=>i+2,⟨fun i hi=>?_,fun j hj=>?_⟩⟩
  ·match i with
   | 0=>simp
   | 1=>simp
   | i+2=>simp at hi ⊢;exact hi
  ·match j with
   | 0=>simp
   | 1=>simp
   | j+2=>simp at hj ⊢;exact hj
 | trans h h' ih ih'=>
  obtain⟨f,g,h1,h2⟩:=ih
  obtain⟨f',g',h3,h4⟩:=ih'
  have hl:=h.length_eq
  refine⟨fun i=>f' (f i),fun j=>g (g' j),⟨fun i hi=>?_,fun j hj=>?_⟩⟩
  ·obtain⟨a,b,c⟩:=h1 i hi
   obtain⟨a',b',c'⟩:=h3 (f i) (by omega)
   exact⟨by omega,by simp only[b',b],by rw[c',c]⟩
  ·obtain⟨a,b⟩:=h4 j (by omega)
   obtain⟨a',b'⟩:=h2 (g' j) (by omega)
   exact⟨a',by simp only[b',b]⟩
theorem rO.perm {N:Np} {o:List Nat} {es es':List (TV×TV)} {xs:Array MapEntry} (h:rO N o es xs) {f g:Nat→Nat} (hf:Ix es es' f g) (hl:es'.length=es.length):rO N (o.map f) es' xs:=by
 have hlt:∀ j∈o,j<es.length:=fun j hj=>by
  obtain⟨i,hi⟩:=List.mem_iff_getElem?.1 hj
  have:i<xs.size:=by rw[←h.ord];exact (List.getElem?_eq_some_iff.1 hi).1
  obtain⟨_,j',e,z1,z2,_⟩:=h.at_ i _ (Array.getElem?_eq_getElem this)
  rw[hi] at z1;cases z1
  exact (List.getElem?_eq_some_iff.1 z2).1
 refine⟨by rw[hl,h.len],by rw[List.length_map,h.ord],?_,fun j hj=>?_,fun i x hx=>?_⟩
 ·have:∀ l:List Nat,(∀ j∈l,j<es.length)→l.Nodup→(l.map f).Nodup:=by
   intro l
   induction l with
   | nil=>simp
   | cons a l ih=>
    intro h1 h2
    rw[List.nodup_cons] at h2
    rw[List.map_cons,List.nodup_cons]
    refine⟨fun hm=>?_,ih (fun j hj=>h1 j (by simp[hj])) h2.2⟩
    obtain⟨b,hb,e⟩:=List.mem_map.1 hm
    have e1:=(hf.to a (h1 a (by simp))).2.1
    have e2:=(hf.to b (h1 b (by simp[hb]))).2.1
    rw[e,e1] at e2
    exact h2.1 (e2▸hb)
  exact this o hlt h.Vo
 ·obtain⟨a,b⟩:=hf.fro j (by omega)
  exact List.mem_map.2 ⟨g j,h.Vp _ a,b⟩
 ·obtain⟨z1,j,e,z2,z3,z4⟩:=h.at_ i x hx
  exact⟨z1,f j,e,by rw[List.getElem?_map,z2];rfl,by rw[(hf.to j (List.getElem?_eq_some_iff.1 z3).1).2.2];exact z3,z4⟩
def LcW:Lc→Lc→Prop
 | .cells ls,.cells ls'=>ls=ls'
 | .obj r _,.obj r' _=>r=r'
 | _,_=>False
def Sr (N N':Np):Prop:=∀ b l,N b=some l→∃ l',N' b=some l'∧LcW l l'
theorem VR.rX {N N':Np} (hm:Sr N N') {v:TV} {x:Value} (h:VR N v x):VR N' v x:=by
 induction h with
 | bool b=>exact .bool b
 | int k n=>exact .int k n
 | str s=>exact .str s
 | LX=>exact .LX
 | Ep=>exact .Ep
 | Ie=>exact .Ie
 | XE=>exact .XE
 | LY=>exact .LY
 | ptr hb hp h ht=>
  obtain⟨l',h1,h2⟩:=hm _ _ hb
  cases l' with
  | obj r _=>exact h2.elim
  | cells ls'=>cases h2;exact .ptr h1 hp h ht
 | slc hb hp h hl hc hx ha hk=>
  obtain⟨l',h1,h2⟩:=hm _ _ hb
  cases l' with
  | obj r _=>exact h2.elim
  | cells ls'=>cases h2;exact .slc h1 hp h hl hc hx ha hk
 | map h=>
  obtain⟨l',h1,h2⟩:=hm _ _ h
  cases l' with
  | obj r _=>cases h2;exact .map h1
  | cells ls'=>exact h2.elim
 | iF h=>
  obtain⟨l',h1,h2⟩:=hm _ _ h
  cases l' with
  | obj r _=>cases h2;exact .iF h1
  | cells ls'=>exact h2.elim
 | iter h=>
  obtain⟨l',h1,h2⟩:=hm _ _ h
  cases l' with
  | obj r _=>cases h2;exact .iter h1
  | cells ls'=>exact h2.elim
 | fn h1 _ h3 _ ih2 ih4=>exact .fn h1 ih2 h3 ih4
 | agg h1 _ ih=>exact .agg h1 ih
 | bf h1 _ ih=>exact .bf h1 ih
theorem rO.rX {N N':Np} (hm:Sr N N') {o:List Nat} {es:List (TV×TV)} {xs:Array MapEntry} (h:rO N o es xs):rO N' o es xs:=
 ⟨h.len,h.ord,h.Vo,h.Vp,fun i x hx=>let ⟨b,j,e,h1,h2,h3,h4⟩:=h.at_ i x hx;⟨b,j,e,h1,h2,h3.rX hm,h4.rX hm⟩⟩
theorem fP.rX {N N':Np} {w:World} {k:BK} {cs:List TV} {ls:List Pl} (hm:Sr N N') (h:fP N w k cs ls):fP N' w k cs ls:=by
 refine⟨h.1,fun p hp=>?_,h.2.2⟩
 obtain⟨⟨arr,ty,fz,h1,h2,h3,h4⟩,p1,p2,p3⟩:=h.2.1 p hp
 exact⟨⟨arr,ty,fz,h1,h2,h3,fun z i c v a b d=>(h4 z i c v a b d).rX hm⟩,p1,p2,p3⟩
theorem fP.last {N:Np} {w:World} {k:BK} {cs:List TV} {ls:List Pl} (hk:k≠.ro) (h:fP N w k cs ls):fP N w .last cs ls:=by
 refine⟨h.1,fun p hp=>?_,fun e=>(by cases e),fun _=>?_⟩
 ·obtain⟨⟨arr,ty,fz,h1,h2,h3,h4⟩,p1,p2,p3⟩:=h.2.1 p hp
  exact⟨⟨arr,ty,fz,h1,h2,fun _=>h3 hk,fun z=>h4 fun _=>z rfl⟩,p1,p2,fun _=>p3 hk⟩
 ·cases k with
  | ro=>exact absurd rfl hk
  | own=>
   obtain⟨p,rfl,_⟩:=h.2.2.1 rfl
   refine⟨by simp,fun p hp q hq _ _=>?_⟩
   rw[List.mem_singleton] at hp hq
   rw[hp,hq]
  | grow=>exact h.2.2.2 (.inl rfl)
  | last=>exact h.2.2.2 (.inr rfl)
def MQ (fl:Nat):TV→TV
 | .slc b off len cap sz ex=>if b<fl then .slc b off len cap sz ex else .slc b off len len sz false
 | v=>v
def Sv (fl:Nat):TV→TV
 | .bf cs=>.bf (cs.map (MQ fl))
 | v=>MQ fl v
def II (oH:Bool):HB→HB
 | .cells .ro cs=>.cells .ro cs
 | .cells _ cs=>if oH then .oH (sortB cs) else .cells .last cs
 | .map es=>.map (OM es)
 | x=>x
def MR (oH:Bool) (h:List HB) (v:TV) (h1:List HB):Option (TV×List HB):=
 match pG h1 h.length 5000 (wW v []) [] with
 | keep=>match iT (renG h.length keep) v,Ap (renG h.length keep) h1 keep with
  | some v',some bs=>some (Sv h.length v',h++bs.map (II oH))
  | _,_=>none
end Tw
namespace Tw
open Go
noncomputable def fS (es:List (TV×TV)):Nat→Nat:=Classical.choose (KD (tJ es).symm)
theorem Yr (es:List (TV×TV)):∃ g,Ix es (OM es) (fS es) g:=Classical.choose_spec (KD (tJ es).symm)
def mapOf (h bs:List HB) (b:Nat):Option (List (TV×TV)):=
 if b<h.length then none else match bs[b-h.length]? with
  | some (.map es)=>some es
  | _=>none
noncomputable def nT (h bs:List HB) (b:Nat) (l:Lc):Lc:=
 match mapOf h bs b,l with
 | some es,.obj r o=>.obj r (o.map (fS es))
 | _,l=>l
theorem lJ {h bs:List HB} {b:Nat} {l:Lc}:ah (nT h bs b l)=ah l:=by
 unfold nT
 split<;>rfl
theorem LcW.refl (l:Lc):LcW l l:=by
 cases l<;>rfl
theorem VA {h bs:List HB} {b:Nat} {l:Lc}:LcW l (nT h bs b l):=by
 unfold nT
 split
 ·rfl
 ·exact .refl _
theorem Au {h bs:List HB} {b:Nat} {l:Lc} (hb:b<h.length):nT h bs b l=l:=by
 unfold nT mapOf;rw[if_pos hb]
theorem Sz {oH:Bool} {x:HB} (h:wr (II oH x)=true):wr x=true:=by
 cases x with
 | cells k cs=>cases k<;>first | exact h | rfl
 | _=>first | exact h | rfl
theorem KE {N:Np} {fl:Nat} {v:TV} {x:Value} (h:VR N v x):VR N (MQ fl v) x:=by
 cases h with
 | slc hb hp h hl hc hx ha hk=>
  simp only[MQ]
  split
  ·exact .slc hb hp h hl hc hx ha hk
  ·exact .slc hb hp (Nat.le_trans (Nat.add_le_add_left (Nat.mul_le_mul_right _ hl) _) h) (Nat.le_refl _) (Nat.le_trans hl hc) (fun e=>by cases e) ha hk
 | _=>first | (constructor;done) | (constructor<;>assumption)
theorem SA {N:Np} {fl:Nat} {v:TV} {x:Value} (h:VR N v x):VR N (Sv fl v) x:=by
 cases h with
 | bf h1 h2=>
  refine .bf (by simpa using h1) fun i c v hc hv=>?_
  rw[List.getElem?_map] at hc
  obtain⟨c0,e1,rfl⟩:=Option.map_eq_some_iff.1 hc
  exact KE (h2 i c0 v e1 hv)
 | slc hb hp h hl hc hx ha hk=>exact KE (.slc hb hp h hl hc hx ha hk)
 | _=>first | (constructor;done) | (constructor<;>assumption)
theorem dL.nrm {M:Mp} {h bs:List HB} {w w':World} {v:TV} {y:Value} (oH:Bool) (hV:Valid M jW (fQ h) w) (hl:∀ k,M (.l k)=none) (hn:∀ x∈bs,∀ m n seen,x≠.aV m n seen) (hR:dL M h w v (h++bs) [] y w'):dL M h w (Sv h.length v) (h++bs.map (II oH)) [] y w':=by
 obtain⟨M',hV',hl',hX,hv'⟩:=hR
 have hdom:∀ b l,M (.h b)=some l→b<h.length:=fun b l hb=>by
  have:=hV.has hb
  simp only[fQ,St.get] at this
  rcases Nat.lt_or_ge b h.length with h1 | h1
  ·exact h1
  ·rw[List.getElem?_eq_none h1] at this;simp at this
 have hold:∀ b,b<h.length→M' (.h b)=M (.h b):=fun b hb=>hX.fK (.h b) (.inl (by simp[fQ,St.get,hb])) (by simp)
 let M2:Mp:=fun k=>match k with
  | .l _=>none
  | .h b=>(M' (.h b)).map (nT h bs b)
 have hM2:∀ b,M2 (.h b)=(M' (.h b)).map (nT h bs b):=fun b=>rfl
 have inv:∀ b l2,M2 (.h b)=some l2→∃ l,M' (.h b)=some l∧l2=nT h bs b l:=fun b l2 e=>by
  rw[hM2] at e
  obtain⟨l,e1,e2⟩:=Option.map_eq_some_iff.1 e
  exact⟨l,e1,e2.symm⟩
 have hmW:Sr M'.h M2.h:=fun b l e=>by
  have e:M' (.h b)=some l:=e
  exact⟨_,(show M2 (.h b)=_ by rw[hM2,e];rfl),VA⟩
 have hle:jR M.h M2.h:=fun b l e=>by
  have e:M (.h b)=some l:=e
  have hb:=hdom b l e
  exact⟨l,(show M2 (.h b)=_ by rw[hM2,hold b hb,e];simp[Au hb]),.refl l⟩
 have hfr:∀ c,c<w.heap.size→w'.heap[c]? = w.heap[c]?:=fun c hc=>hX.frame c hc (by simp)
 have hC:∀ b,b<h.length→fQ (h++bs.map (II oH)) (.h b)=fQ h (.h b):=fun b hb=>by simp only[fQ,St.get];rw[List.getElem?_append_left hb]
 have hC1:∀ b,¬b<h.length→fQ (h++bs) (.h b)=bs[b-h.length]?:=fun b hb=>by simp only[fQ,St.get];rw[List.getElem?_append_right (by omega)]
 have hC2:∀ b,¬b<h.length→fQ (h++bs.map (II oH)) (.h b)=(bs[b-h.length]?).map (II oH):=fun b hb=>by simp only[fQ,St.get];rw[List.getElem?_append_right (by omega),List.getElem?_map]
 have hCo:∀ b,b<h.length→fQ (h++bs) (.h b)=fQ h (.h b):=fun b hb=>by simp only[fQ,St.get];rw[List.getElem?_append_left hb]
 refine⟨M2,⟨fun k l hk2 _=>?_,fun k k' l l' b hne q1 q2 _ hc hw=>?_,fun k l hk2=>?_⟩,fun _=>rfl,⟨fun k l e=>?_,hX.frame,fun k hs hn=>?_,fun k hs hn=>?_,fun k l e c hc hs=>?_,hX.size,fun k hs=>?_,by simp,by simp,hX.os,hX.output,hX.tape⟩,SA (hv'.rX hmW)⟩
 ·cases k with
  | l k=>cases hk2
  | h b=>
   obtain⟨l0,e1,rfl⟩:=inv b l hk2
   by_cases hb:b<h.length
   ·rw[Au hb,hC b hb]
    rw[hold b hb] at e1
    obtain⟨x,f1,f2⟩:=hV.ok _ l0 e1 trivial
    exact⟨x,f1,f2.mono hle fun c hc=>hfr c (hV.inb _ l0 e1 c hc)⟩
   ·obtain⟨x,x1,x2⟩:=hV'.ok _ l0 e1 trivial
    rw[hC1 b hb] at x1
    refine⟨II oH x,by rw[hC2 b hb,x1];rfl,?_⟩
    cases x with
    | cells k cs=>
     cases l0 with
     | obj r o=>exact x2.elim
     | cells ls=>
      have x3:fP M2.h w' k cs ls:=fP.rX hmW x2
      have e:nT h bs b (.cells ls)=.cells ls:=by unfold nT;split<;>first | rfl | simp_all
      rw[e]
      have go:k≠.ro→jm M2.h w' (if oH then .oH (sortB cs) else .cells .last cs) (.cells ls):=fun hk=>by
       cases oH with
       | true=>exact⟨cs,(tH _ cs).symm,x3.last hk⟩
       | false=>exact x3.last hk
      cases k with
      | ro=>exact x3
      | own=>exact go (by simp)
      | grow=>exact go (by simp)
      | last=>exact go (by simp)
    | oH cs=>
     cases l0 with
     | obj r o=>exact x2.elim
     | cells ls=>
      have e:nT h bs b (.cells ls)=.cells ls:=by unfold nT;split<;>first | rfl | simp_all
      rw[e]
      obtain⟨cs',h1,h2⟩:=x2
      exact⟨cs',h1,fP.rX hmW h2⟩
    | map es=>
     cases l0 with
     | cells ls=>exact x2.elim
     | obj r o=>
      obtain⟨xs,y1,y2⟩:=x2
      have e:nT h bs b (.obj r o)=.obj r (o.map (fS es)):=by
       have:mapOf h bs b=some es:=by unfold mapOf;rw[if_neg hb,x1]
       unfold nT;rw[this]
      rw[e]
      obtain⟨g,hg⟩:=Yr es
      exact⟨xs,y1,(y2.rX hmW).perm hg (tJ es).length_eq⟩
    | mark=>
     have e:∀ r o,nT h bs b (.obj r o)=.obj r o:=fun r o=>by
      have:mapOf h bs b=none:=by unfold mapOf;rw[if_neg hb,x1]
      unfold nT;rw[this]
     cases l0 with
     | cells ls=>exact x2.elim
     | obj r o=>rw[e];exact x2
    | aV m n seen=>exact absurd rfl (hn _ (List.mem_of_getElem? x1) m n seen)
    | loop rd f nt env ps a b9 pend=>
     have e:∀ r o,nT h bs b (.obj r o)=.obj r o:=fun r o=>by
      have:mapOf h bs b=none:=by unfold mapOf;rw[if_neg hb,x1]
      unfold nT;rw[this]
     cases l0 with
     | cells ls=>exact x2.elim
     | obj r o=>
      rw[e]
      obtain⟨lp,h1,h2⟩:=x2
      exact⟨lp,h1,{ h2 with yO:=fun t v e=>(h2.yO t v e).rX hmW }⟩
 ·cases k with
  | l k=>cases q1
  | h b1=>
   cases k' with
   | l k=>cases q2
   | h b2=>
    obtain⟨l1,e1,rfl⟩:=inv b1 l q1
    obtain⟨l2,e2,rfl⟩:=inv b2 l' q2
    rw[lJ,lJ]
    obtain⟨x,g1,g2⟩:∃ x,fQ (h++bs) (.h b1)=some x∧wr x=true:=by
     by_cases q1:b1<h.length
     ·exact⟨b,by rw[hCo _ q1,←hC _ q1];exact hc,hw⟩
     ·rw[hC2 _ q1] at hc
      obtain⟨x,f1,rfl⟩:=Option.map_eq_some_iff.1 hc
      exact⟨x,by rw[hC1 _ q1];exact f1,Sz hw⟩
    exact hV'.own (.h b1) (.h b2) l1 l2 x hne e1 e2 trivial g1 g2
 ·cases k with
  | l k=>cases hk2
  | h b=>
   obtain⟨l0,e1,rfl⟩:=inv b l hk2
   rw[lJ]
   exact hV'.inb _ l0 e1
 ·cases k with
  | l k=>rw[hl k] at e;cases e
  | h b=>exact hle b l e
 ·cases k with
  | l k=>simp[fQ,St.get] at hs
  | h b=>exact hC b (by simpa[fQ,St.get] using hs)
 ·cases k with
  | l k=>rw[hl k]
  | h b=>
   by_cases hb:b<h.length
   ·rw[hM2,hold b hb]
    cases M (.h b) with
    | none=>rfl
    | some l=>simp only[Option.map_some];rw[Au hb]
   ·have h0:M (.h b)=none:=by
     cases e:M (.h b) with
     | none=>rfl
     | some l=>exact absurd (hdom b l e) hb
    have hn2:fQ (h++bs) (.h b)=none:=by
     rcases hs with hs | hs
     ·have:b<h.length:=by simpa[fQ,St.get] using hs
      omega
     ·rw[hC2 _ hb] at hs
      rw[hC1 _ hb]
      simpa using hs
    have:M' (.h b)=M (.h b):=hX.fK (.h b) (.inr hn2) (by simp)
    rw[h0,hM2,this,h0];rfl
 ·cases k with
  | l k=>cases e
  | h b=>
   obtain⟨l0,e1,rfl⟩:=inv b l e
   rw[lJ] at hc
   exact hX.fresh _ l0 e1 c hc hs
 ·cases k with
  | l k=>simp[fQ,St.get] at hs
  | h b=>
   have hb:b<h.length:=by simpa[fQ,St.get] using hs
   rw[hC b hb];exact hs
theorem G9 {g:Nat→Option Nat} {x y:HB} (h:lH g x=some y):∀ m n seen,y≠.aV m n seen:=by
 cases x<;>simp only[lH,Option.map_eq_some_iff,Option.some.injEq] at h
 all_goals first
  | (obtain⟨_,_,rfl⟩:=h;simp)
  | (subst h;simp)
  | cases h
theorem dL.norm {M:Mp} {h h1 h2:List HB} {w w':World} {v v2:TV} {y:Value} {oH:Bool} (hV:Valid M jW (fQ h) w) (hl:∀ k,M (.l k)=none) (ho:MR oH h v h1=some (v2,h2)) (hR:dL M h w v h1 [] y w'):dL M h w v2 h2 [] y w':=by
 unfold MR at ho
 simp only at ho
 obtain⟨k1,k2⟩:=qR (h:=h1) (fl:=h.length) 5000 (wW v []) [] .nil (by simp)
 split at ho
 ·rename_i v' bs e1 e2
  cases ho
  refine dL.nrm oH hV hl (fun x hx=>?_) (hR.gc hV hl k1 k2 e1 e2)
  obtain⟨i,hi⟩:=List.mem_iff_getElem?.1 hx
  obtain⟨_,_,_,_,e⟩:=(Aq e2).2 i x hi
  exact G9 e
 ·cases ho
end Tw
namespace Tw
open Go
section
variable {P:Program} {T:Tab} {call:ay} {L:Nat} {nt:Nat} {M:Mp} {h:List HB} {w:World}
def CW (tmps:Array Value):List (Nat×Value)→Array Value
 | []=>tmps
 | (t,a)::r=>CW (tmps.setIfInBounds t a) r
theorem DC:∀ {l:List (Nat×Value)} {tmps:Array Value},(CW tmps l).size=tmps.size
 | [],_=>rfl
 | (t,a)::r,tmps=>by rw[CW,DC];simp
theorem Aw:∀ (l:List (Nat×Value)) (tmps:Array Value),l.foldl (fun tmps (t,a)=>tmps.setIfInBounds t a) tmps=CW tmps l
 | [],_=>rfl
 | (t,a)::r,tmps=>by rw[List.foldl_cons,Aw r];rfl
theorem DF {N:Np} {nt:Nat}:∀ {ps:List Nat} {args:List TV} {xs:List Value} {env:List (Nat×EV)} {tmps:Array Value},aG N args xs→args.length=ps.length→(∀ p∈ps,p<nt)→nt≤tmps.size →
  (∀ t v,aK t env=some (.val v)→VR N v (tmps.getD t Go.undef))→(∀ t,aK t env=some .undef→tmps.getD t Go.undef=Go.undef)→(∀ t k o,aK t env≠some (.loc k o)) →
  (∀ t v,aK t (nJ env ps args)=some (.val v)→VR N v ((CW tmps (ps.zip xs)).getD t Go.undef))∧(∀ t,aK t (nJ env ps args)=some .undef→(CW tmps (ps.zip xs)).getD t Go.undef=Go.undef) ∧
   (∀ t k o,aK t (nJ env ps args)≠some (.loc k o))
 | [],[],xs,env,tmps,_,_,_,_,h1,h2,h3=>⟨h1,h2,h3⟩
 | [],v::vs,xs,env,tmps,_,hl,_,_,_,_,_=>by simp at hl
 | p::ps,[],xs,env,tmps,_,hl,_,_,_,_,_=>by simp at hl
 | p::ps,v::vs,xs,env,tmps,hx,hl,hp,hn,h1,h2,h3=>by
  obtain⟨x,xs',rfl,hx1,hx2⟩:=hx.cu
  have hpn:=hp p List.mem_cons_self
  simp only[nJ,List.zip_cons_cons,CW]
  have hg:∀ t,(tmps.setIfInBounds p x).getD t Go.undef=if p=t then x else tmps.getD t Go.undef:=by
   intro t
   simp only[Array.getD_eq_getD_getElem?,Array.getElem?_setIfInBounds]
   by_cases h:p=t
   ·subst h;simp[show p<tmps.size by omega]
   ·simp[h]
  refine DF hx2 (by simpa using hl) (fun q hq=>hp q (List.mem_cons_of_mem _ hq)) (by simpa using hn) ?_ ?_ ?_
  ·intro t v' he
   rw[hg]
   simp only[aK] at he
   split at he
   ·rename_i h;rw[if_pos h];cases he;exact hx1
   ·rename_i h;rw[if_neg h];exact h1 t v' he
  ·intro t he
   rw[hg]
   simp only[aK] at he
   split at he
   ·cases he
   ·rename_i h;rw[if_neg h];exact h2 t he
  ·intro t k o he
   simp only[aK] at he
   split at he
   ·cases he
   ·exact h3 t k o he
theorem Az (hm:P.follows .mixedOrders=true) (hC:aj P call) {l l':Nat} {q:List Nat} {args:List TV} {v:TV} {h':List HB} {ws:List Nat} (hf:wK P T call L l args h=some (v,h',ws)) (hB:Base M h w) (hl:M (.h l)=some (.obj l' q))
  {xs:List Value} (hx:aG M.h args xs):EC P { target:=.fn (.yield l') #[],args:=xs.toArray } w (dL M h w v h' ws):=by
 unfold wK at hf
 split at hf
 ·rename_i f nt env ps ku body pend hh
  split at hf
  ·rename_i hc
   obtain⟨hlen,hps⟩:=hc
   have a2o:∀ p∈ps,p<nt:=fun p hp=>by simpa using List.all_eq_true.1 hps p hp
   obtain⟨blk,k1,k2⟩:=hB.val.ok _ _ hl trivial
   simp only[fQ,St.get,hh,Option.some.injEq] at k1
   subst k1
   obtain⟨lp,l1,l2⟩:=k2
   have hlb:l<h.length:=(List.getElem?_eq_some_iff.1 hh).1
   have hpa:lp.params.size=xs.length:=by
    have:=l2.ps
    rw[←hx.len,hlen,←this];simp
   have a2p:(lp.params.zip xs.toArray).foldl (fun tmps (t,a)=>tmps.setIfInBounds t a) lp.tmps=CW lp.tmps (ps.zip xs):=by
    rw[←Array.foldl_toList,Array.toList_zip,l2.ps]
    exact Aw _ _
   refine⟨l',lp.fn,CW lp.tmps (ps.zip xs),ku,body,?_,fun n=>?_⟩
   ·have h1:(Instr.yield l' xs.toArray).run P w=.ok (.round l' lp.fn ((lp.params.zip xs.toArray).foldl (fun tmps (t,a)=>tmps.setIfInBounds t a) lp.tmps) lp.assign lp.body) w:=by
     simp[Instr.yield,Instr.getLoop,getObj,Sem.run,l1,hpa]
    rw[a2p,l2.ku,l2.body] at h1
    exact h1
   obtain⟨p1,p2,p3⟩:=DF hx hlen a2o l2.size l2.yO l2.und l2.UC
   have hR0:Rel M h w nt M ⟨nJ env ps args,[],h,[]⟩ { tmps:=CW lp.tmps (ps.zip xs),defers:=[] } w:=by
    have hg:St.get ⟨nJ env ps args,[],h,[]⟩=fQ h:=getEnv ⟨[],[],h,[]⟩ _ _
    refine⟨by rw[hg];exact hB.val,by rw[hg];exact .refl _ _ _,fun t e he=>?_,by rw[DC];exact l2.size,by simp,.nil⟩
    cases e with
    | val v=>exact .val (p1 t v he)
    | loc k o=>exact absurd he (p3 t k o)
    | undef=>
     have:=p2 t he
     simp only at this ⊢
     rw[this];exact .undef
   refine roundIn_of_wpIn (F:=Fence.wide) trivial ?_
   split at hf
   ·rename_i s1 hex
    refine jc (dI:=true) (r:=some l') hm hC hB (by simp) _ _ _ _ hex n _ M _ w hR0 fun M1 a1 w1 hR1=>?_
    split at hf
    ·rename_i f' Rz env' ps' a' b' a4v hh1
     obtain⟨q1,hl1⟩:∃ q1,M1 (.h l)=some (.obj l' q1):=by
      obtain⟨l0,g1,g2⟩:=hR1.ext.wL _ _ hl
      cases l0 with
      | cells ls=>exact g2.elim
      | obj r' o'=>cases g2.1;exact⟨o',g1⟩
     obtain⟨blk,k1,k2⟩:=hR1.val.ok _ _ hl1 trivial
     simp only[St.get,hh1,Option.some.injEq] at k1
     subst k1
     obtain⟨lp1,m1,m2⟩:=k2
     obtain⟨v2,x2⟩:=qP hR1.val hl1 hh1 rfl (b':=.loop false f' Rz env' ps' a' b' none) (o':=.loop { lp1 with state:=.busy }) ⟨{ lp1 with state:=.busy },by simp[(Array.getElem?_eq_some_iff.1 m1).1],
      {ps:=m2.ps,ku:=m2.ku,body:=m2.body,size:=m2.size,yO:=m2.yO,und:=m2.und,UC:=m2.UC,ready:=by simp,busy:=fun _ _=>rfl,done:=by simp }⟩
     have hR2:=hR1.next hB (s':={ s1 with heap:=s1.heap.set l (.loop false f' Rz env' ps' a' b' none),ws:=ug h.length l s1.ws }) v2 x2 rfl rfl (fun _ _ e=>e)
     refine⟨{ w1 with heap:=w1.heap.setIfInBounds l' (.loop { lp1 with state:=.busy }) },?_,?_⟩
     ·simp[Instr.beginRound,Instr.getLoop,getObj,setObj,Sem.run,m1,(m2.ready rfl).1]
     ·split at hf
      ·rename_i e s2 a2r
       refine jc (dI:=true) (r:=some l') hm hC hB (by simp) _ _ _ _ a2r n _ M1 _ _ hR2 fun M3 a3 w3 UH=>?_
       split at hf
       ·rename_i f3 nt3 Yt XF a3' b3 hh3
        simp only[Option.some.injEq,Prod.mk.injEq] at hf
        obtain⟨rfl,rfl,rfl⟩:=hf
        obtain⟨q3,hl3⟩:∃ q3,M3 (.h l)=some (.obj l' q3):=by
         obtain⟨l0,g1,g2⟩:=UH.ext.wL _ _ hl
         cases l0 with
         | cells ls=>exact g2.elim
         | obj r' o'=>cases g2.1;exact⟨o',g1⟩
        obtain⟨blk,k1,k2⟩:=UH.val.ok _ _ hl3 trivial
        simp only[St.get,hh3,Option.some.injEq] at k1
        subst k1
        obtain⟨RF,q1,q2⟩:=k2
        let lp4:Loop:={ RF with state:=if (kF e).isNone then .ready else .done,pending:=kF e }
        obtain⟨v4,x4⟩:=qP UH.val hl3 hh3 rfl (b':=.loop (jq e) f3 nt3 Yt XF a3' b3 (kF e)) (o':=.loop lp4) ⟨lp4,by simp[(Array.getElem?_eq_some_iff.1 q1).1],
         {ps:=q2.ps,ku:=q2.ku,body:=q2.body,size:=q2.size,yO:=q2.yO,und:=q2.und,UC:=q2.UC
          ready:=fun hn=>by cases e<;>simp[jq] at hn;exact⟨rfl,rfl⟩
          busy:=fun hn hp=>by cases e<;>simp[jq,kF] at hn hp
          done:=fun hn j hj _=>by cases e<;>simp[jq] at hn<;>(simp only[kF,Option.some.injEq] at hj;subst hj;exact⟨rfl,rfl⟩) }⟩
        have hR4:=UH.next hB (s':={ s2 with heap:=s2.heap.set l (.loop (jq e) f3 nt3 Yt XF a3' b3 (kF e)),ws:=ug h.length l s2.ws }) v4 x4 rfl rfl (fun _ _ e=>e)
        have hfin:=EG hB hR4 (v:=.bool (jq e)) (y:=.bool (jq e)) (.bool _)
        have hend:(Instr.endRound l' (kF e)).run P w3=.ok (.bool (jq e)) { w3 with heap:=w3.heap.setIfInBounds l' (.loop lp4) }:=by
         cases e<;>simp[Instr.endRound,Instr.getLoop,getObj,setObj,Sem.run,q1,jq,kF,lp4]
        cases e with
        | norm=>exact⟨_,_,hend,hfin⟩
        | exit id=>exact⟨_,_,hend,hfin⟩
        | ret=>exact⟨_,_,hend,hfin⟩
       ·cases hf
      ·cases hf
    ·cases hf
   ·cases hf
  ·cases hf
 ·cases hf
theorem UM (hm:P.follows .mixedOrders=true):∀ n,aj P (ap P T L n)
 | 0=>by
  intro fv args h v h' ws hc
  simp[ap] at hc
 | n+1=>by
  intro fv args h v h' ws hc M w x xs hV hl hx hxs
  have ih:=UM hm n
  cases fv with
  | fn f first cap=>
   simp only[ap] at hc
   cases hx with
   | fn h1 h2 h3 h4=>
    rename_i ys zs
    have hargs:aG M.h (first++args++cap) (ys++xs++zs):=(aG.append ⟨h1,h2⟩ hxs).append ⟨h3,h4⟩
    obtain⟨fn,c,e1,e2,e3,e4⟩:=Ak hm ih hc ⟨hV,hl⟩ hargs
    refine⟨{ target:=.fn (.func f) zs.toArray,args:=ys.toArray++xs.toArray },fun w=>by simp[Deferred.ofValue],.inl ⟨⟨f,(ys++xs++zs).toArray,?_,e4⟩,f,first,cap,rfl⟩⟩
    have e2' : ¬ fn.name = "runtime.NumGoroutine" := by simpa using e2
    simp[invoke,callFunc,program,Sem.run,e1,e2',e3]
  | iF l=>
   simp only[ap] at hc
   cases hx with
   | iF hm'=>
    rename_i l' _
    refine⟨{ target:=.fn (.yield l') #[],args:=xs.toArray },fun w=>by simp[Deferred.ofValue],.inr ⟨Az hm ih hc ⟨hV,hl⟩ hm' hxs,l,rfl⟩⟩
  | _=>simp[ap] at hc
theorem AB (hm:P.follows .mixedOrders=true) {n f:Nat} {args:List TV} {v:TV} {h':List HB} {ws:List Nat} (hr:run P T L (n+1) f args h=some (v,h',ws)) (hV:Valid M jW (fQ h) w) (hl:∀ k,M (.l k)=none)
  {xs:List Value} (hx:aG M.h args xs) (k:Nat):CallsIn Fence.wide k P f xs.toArray w (uD (dL M h w v h' ws)):=by
 simp only[run,ap] at hr
 have hargs:aG M.h ([]++args++[]) xs:=by simpa using hx
 obtain⟨fn,c,_,_,_,e4⟩:=Ak hm (UM hm n) hr ⟨hV,hl⟩ hargs
 exact e4 k
end
end Tw
namespace Tw
open Go
def IJ (cd:lG):Prop:=∀ fv args h K1 K2,cd fv args h K1→cd fv args h K2→∃ v h' ws,K1 v h' ws∧K2 v h' ws
theorem Gf:IJ IG:=fun _ _ _ _ _ h _=>h.elim
theorem MS {P:Program}:zi P IG:=fun _ _ _ _ _ _ h=>h.elim
section
variable {P:Program} {T:Tab} {call:ay} {cd:lG} {L f:Nat} {fl nt:Nat}
theorem AL {g:St→(Ex→St→Prop)→Prop} (hg:∀ s Q1 Q2,g s Q1→g s Q2→∃ e s',Q1 e s'∧Q2 e s'):∀ (k:Nat) {s:St} {Q1 Q2:Ex→St→Prop},uN g k s Q1→uN g k s Q2→∃ e s',Q1 e s'∧Q2 e s'
 | 0,_,_,_,h,_=>h.elim
 | k+1,s,Q1,Q2,h1,h2=>by
  obtain⟨e,s',q1,q2⟩:=hg _ _ _ h1 h2
  cases e with
  | norm=>exact AL hg k q1 q2
  | exit i=>exact⟨_,_,q1,q2⟩
  | ret=>exact⟨_,_,q1,q2⟩
theorem IK {s:St} {it:Nat} {K1 K2:St→TV→Prop} (h1:Kz fl s it K1) (h2:Kz fl s it K2):∃ s1 v,K1 s1 v∧K2 s1 v:=by
 obtain⟨b,r,n,seen,es,a1,a2,a3,a4,a5,a6⟩:=h1
 obtain⟨b',r',n',seen',es',c1,c2,c3,c4,c5,c6⟩:=h2
 rw[a1] at c1;cases c1
 rw[a2] at c2;cases c2
 rw[a3] at c3;cases c3
 by_cases h:∀ j,j<n→j∈seen
 ·exact⟨_,_,a5 h,c5 h⟩
 ·obtain⟨j,hj⟩:=Classical.not_forall.1 h
  obtain⟨hj1,hj2⟩:=Classical.not_imp.1 hj
  have hl:j<es.length:=by omega
  exact⟨_,_,a6 j _ hj2 (List.getElem?_eq_getElem hl),c6 j _ hj2 (List.getElem?_eq_getElem hl)⟩
theorem AO (hcd:IJ cd):∀ (c:Code) {s:St} {Q1 Q2:Ex→St→Prop},bD P T call cd L f fl nt c s Q1→bD P T call cd L f fl nt c s Q2→∃ e s',Q1 e s'∧Q2 e s':=by
 have plain:∀ (c:Code) {s:St} {Q1 Q2:Ex→St→Prop},(∃ e s',exec P T call L f false fl nt c s=some (e,s')∧Q1 e s')→(∃ e s',exec P T call L f false fl nt c s=some (e,s')∧Q2 e s')→∃ e s',Q1 e s'∧Q2 e s':=by
  rintro c s Q1 Q2 ⟨e,s1,h1,h2⟩ ⟨e',s2,h3,h4⟩
  rw[h1] at h3;cases h3
  exact⟨_,_,h2,h4⟩
 intro c
 induction c with
 | region id ops draw=>
  intro s Q1 Q2 h1 h2
  simp only[bD] at h1 h2
  split at h1
  ·rename_i it nx o1 o2 hn
   simp only[hn] at h2
   obtain⟨s1,v,⟨s2,is,k1,k2⟩,⟨s3,is',k3,k4⟩⟩:=IK h1.2 h2.2
   rw[k1] at k3;cases k3
   exact⟨_,_,k2,k4⟩
  ·rename_i hn
   simp only[hn] at h2
   exact plain _ h1 h2
 | seq x y G6 ihy=>
  intro s Q1 Q2 h1 h2
  simp only[bD] at h1 h2
  obtain⟨e,s1,q1,q2⟩:=G6 h1 h2
  cases e with
  | norm=>exact ihy q1 q2
  | exit i=>exact⟨_,_,q1,q2⟩
  | ret=>exact⟨_,_,q1,q2⟩
 | cond c x y G6 ihy=>
  intro s Q1 Q2 h1 h2
  simp only[bD] at h1 h2
  split at h1
  ·rename_i hc;simp only[hc] at h2;exact G6 h1 h2
  ·rename_i hc;simp only[hc] at h2;exact ihy h1 h2
  ·exact h1.elim
 | block id b ih=>
  intro s Q1 Q2 h1 h2
  simp only[bD] at h1 h2
  obtain⟨e,s1,q1,q2⟩:=ih h1 h2
  exact⟨_,_,q1,q2⟩
 | scope b ih=>
  intro s Q1 Q2 h1 h2
  simp only[bD] at h1 h2
  exact ih h1 h2
 | loop b ih=>
  intro s Q1 Q2 h1 h2
  simp only[bD] at h1 h2
  exact AL (g:=fun s Q=>bD P T call cd L f fl nt b (dh (T.bY f (bH b)) s) Q) (fun s Q1 Q2 a b=>ih a b) L h1 h2
 | rangeFunc g ps ku body=>
  intro s Q1 Q2 h1 h2
  simp only[bD] at h1 h2
  split at h1
  ·rename_i hd
   rw[if_pos hd] at h2
   obtain⟨f1,a1,b1,e1,_,k1⟩:=h1
   obtain⟨f2,a2,b2,e2,_,k2⟩:=h2
   rw[e1] at e2;cases e2
   obtain⟨v,h',ws,⟨_,_,_,_,_,_,_,_,_,c1,c2,c3⟩,⟨_,_,_,_,_,_,_,_,_,d1,d2,d3⟩⟩:=hcd _ _ _ _ _ k1 k2
   rw[c1] at d1;cases d1
   rw[c2] at d2;cases d2
   exact⟨_,_,c3,d3⟩
  ·rename_i hd
   rw[if_neg hd] at h2
   exact plain _ h1 h2
 | _=>
  intro s Q1 Q2 h1 h2
  simp only[bD] at h1 h2
  exact plain _ h1 h2
def EJ (P:Program) (T:Tab) (call:ay) (L:Nat):lG:=fun fv args h K=>match fv with
 | .fn f a b=>∃ t,CS P f=some t∧bD P T call IG L f h.length t.nt t.body ⟨fB 0 (a++args++b),[],h,[]⟩ fun e s=>(e=.norm∨e=.ret)∧∃ vs,jI P s t.results=some vs∧K (one vs) s.heap s.ws
 | _=>False
theorem Gg:IJ (EJ P T call L):=fun fv args h K1 K2 h1 h2=>by
 cases fv with
 | fn f a b=>
  obtain⟨t,e1,k1⟩:=h1
  obtain⟨t',e2,k2⟩:=h2
  rw[e1] at e2;cases e2
  obtain⟨e,s,⟨_,vs,a1,a2⟩,⟨_,vs',a3,a4⟩⟩:=AO Gf _ k1 k2
  rw[a1] at a3;cases a3
  exact⟨_,_,_,a2,a4⟩
 | _=>exact h1.elim
def Gh (P:Program) (T:Tab) (call:ay) (L:Nat) (f:Nat) (t:XD) (args:List TV) (h:List HB) (r:TV×List HB):Prop:=
 bD P T call (EJ P T call L) L f h.length t.nt t.body ⟨fB 0 args,[],h,[]⟩ fun e s=>(e=.norm∨e=.ret)∧∃ vs,jI P s t.results=some vs∧s.ws=[]∧MR (T.Vm.contains f) h (one vs) s.heap=some r
open Classical in
noncomputable def MV (P:Program) (T:Tab) (call:ay) (L:Nat) (f:Nat) (args:List TV) (h:List HB):Option (TV×List HB×List Nat):=
 match CS P f with
 | some t=>if hx:∃ r,Gh P T call L f t args h r then some ((Classical.choose hx).1,(Classical.choose hx).2,[]) else none
 | none=>none
theorem MW {args:List TV} {h:List HB} {r:TV×List HB×List Nat} (hf:MV P T call L f args h=some r):∃ t,CS P f=some t∧Gh P T call L f t args h (r.1,r.2.1)∧r.2.2=[]:=by
 unfold MV at hf
 split at hf
 ·rename_i t ht
  split at hf
  ·rename_i hx
   cases hf
   exact⟨t,ht,Classical.choose_spec hx,rfl⟩
  ·cases hf
 ·cases hf
theorem SB {args:List TV} {h:List HB} {r:TV×List HB} {t:XD} (ht:CS P f=some t) (hr:Gh P T call L f t args h r):MV P T call L f args h=some (r.1,r.2,[]):=by
 unfold MV
 rw[ht]
 simp only[]
 have hx:∃ r,Gh P T call L f t args h r:=⟨r,hr⟩
 rw[dif_pos hx]
 obtain⟨e,s,⟨_,vs,a1,_,a2⟩,⟨_,vs',a3,_,a4⟩⟩:=AO Gg _ (Classical.choose_spec hx) hr
 rw[a1] at a3;cases a3
 rw[a2] at a4
 cases a4
 rfl
end
section
variable {P:Program} {T:Tab} {call:ay} {cd:lG} {L:Nat} {nt:Nat} {M:Mp} {h:List HB} {w:World}
theorem KF (hm:P.follows .mixedOrders=true) (hC:aj P call) (hD:zi P cd) {f:Nat} {args:List TV} {t:XD} {K:TV→List HB→List Nat→Prop} (ht:CS P f=some t)
  (hO:bD P T call cd L f h.length t.nt t.body ⟨fB 0 args,[],h,[]⟩ fun e s=>(e=.norm∨e=.ret)∧∃ vs,jI P s t.results=some vs∧K (one vs) s.heap s.ws) (hB:Base M h w) {xs:List Value} (hx:aG M.h args xs) :
  ∃ fn c, P.funcs[f]? = some fn ∧ (fn.name == "runtime.NumGoroutine") = false ∧ fn.body = some c ∧ ∀ n, CallsIn Fence.wide n P f xs.toArray w (uD fun y w' => ∃ v h' ws, K v h' ws ∧ dL M h w v h' ws y w') := by
 unfold CS at ht
 split at ht
 ·rename_i fn hfn
  split at ht
  ·cases ht
  ·rename_i hname
   split at ht
   ·rename_i c hc
    cases ht
    refine⟨fn,c,hfn,by simpa using hname,hc,fun n=>?_⟩
    have hR0:Rel M h w fn.ntmps M ⟨fB 0 args,[],h,[]⟩ { tmps:=xs.toArray++Array.replicate (fn.ntmps-xs.toArray.size) Go.undef,defers:=[] } w:=by
     have hg:St.get ⟨fB 0 args,[],h,[]⟩=fQ h:=getEnv ⟨[],[],h,[]⟩ _ _
     refine⟨by rw[hg];exact hB.val,by rw[hg];exact .refl _ _ _,fun t e hl=>?_,by simp;omega,by simp,.nil⟩
     obtain⟨i,v',x,e1,rfl,e3,e4⟩:=qQ hx hl
     have hi:i<xs.length:=(List.getElem?_eq_some_iff.1 e3).1
     have:(xs.toArray++Array.replicate (fn.ntmps-xs.toArray.size) Go.undef).getD t Go.undef=x:=by
      rw[Array.getD_eq_getD_getElem?,Array.getElem?_append_left (by simp;omega)]
      have:t=i:=by omega
      subst this
      simp[e3]
     rw[this]
     exact .val e4
    have hfin:∀ (s:St) (vs:List TV),jI P s fn.results.toList=some vs→K (one vs) s.heap s.ws→∀ (M':Mp) (a':Act) (w':World),Rel M h w fn.ntmps M' s a' w'→LeavesInM Fence.wide n P fn a'.tmps (uD fun y w'=>∃ v h' ws,K v h' ws∧dL M h w v h' ws y w') a'.defers .returning w':=by
     intro s vs hvs hs M' a' w' hR'
     refine uM hB a'.defers a' w' rfl hR' fun w'' EH=>?_
     obtain⟨y,g1,g2⟩:=tC (P:=P) EH hvs
     exact⟨y,g2,_,_,_,hs,EG hB EH g1⟩
    refine callsIn_of_wp_marks (F:=Fence.wide) hfn hc trivial ?_
    refine OH hm hC hD hB _ _ _ hO n _ M _ w hR0 fun e s M' a' w' hq hR'=>?_
    obtain⟨he,vs,h1,h2⟩:=hq
    rcases he with rfl | rfl
    ·exact hfin s vs h1 h2 M' a' w' hR'
    ·exact hfin s vs h1 h2 M' a' w' hR'
   ·cases ht
 ·cases ht
theorem MX (hm:P.follows .mixedOrders=true) (hC:aj P call):zi P (EJ P T call L):=by
 intro f1 a1 b1 args h K hc M w x xs hV hl hx hxs
 obtain⟨t,ht,hO⟩:=hc
 cases hx with
 | fn h1 h2 h3 h4=>
  rename_i ys zs
  have hargs:aG M.h (a1++args++b1) (ys++xs++zs):=(aG.append ⟨h1,h2⟩ hxs).append ⟨h3,h4⟩
  obtain⟨fn,c,e1,e2,e3,e4⟩:=KF hm hC MS ht hO ⟨hV,hl⟩ hargs
  refine⟨{ target:=.fn (.func f1) zs.toArray,args:=ys.toArray++xs.toArray },fun w=>by simp[Deferred.ofValue],f1,(ys++xs++zs).toArray,?_,e4⟩
  have e2' : ¬ fn.name = "runtime.NumGoroutine" := by simpa using e2
  simp[invoke,callFunc,program,Sem.run,e1,e2',e3]
theorem SC (hm:P.follows .mixedOrders=true) (hC:aj P call) {f:Nat} {args:List TV} {v:TV} {h':List HB} {ws:List Nat} (hf:MV P T call L f args h=some (v,h',ws)) (hB:Base M h w) {xs:List Value} (hx:aG M.h args xs) :
  ∃ fn c, P.funcs[f]? = some fn ∧ (fn.name == "runtime.NumGoroutine") = false ∧ fn.body = some c ∧ ∀ n, CallsIn Fence.wide n P f xs.toArray w (uD (dL M h w v h' ws)) := by
 obtain⟨t,ht,hO,hw⟩:=MW hf
 simp only at hw
 subst hw
 obtain⟨fn,c,e1,e2,e3,e4⟩:=KF (K:=fun v1 h1 ws1=>ws1=[]∧MR (T.Vm.contains f) h v1 h1=some (v,h')) hm hC (MX hm hC) ht hO hB hx
 refine⟨fn,c,e1,e2,e3,fun n=>CallsIn.mono (F:=Fence.wide) (e4 n) fun en w3 hen=>?_⟩
 cases en with
 | panicked c=>exact hen.elim
 | outgrown=>exact hen.elim
 | returned y=>
  obtain⟨v1,h1,ws1,⟨rfl,ho⟩,hR⟩:=hen
  exact dL.norm hB.val hB.loc ho hR
end
end Tw
namespace Tw
open Go
section
variable {H:Type}
def OO (g:DataW H→List HB→Option (List TV×List HB)) (n:Nat):List (DataW H)→List HB→Option (List TV×List HB)
 | [],h=>some ([],h)
 | d::ds,h=>match g d h with
  | some (c,h1)=>if c.length=n then (match OO g n ds h1 with
   | some (cs,h2)=>some (c++cs,h2)
   | none=>none) else none
  | none=>none
def IL (P:Program) (g:TypeId→DataW H→List HB→Option (List TV×List HB)):Nat→List Field→List (DataW H)→List HB→Option (List TV×List HB)
 | _,[],[],h=>some ([],h)
 | o,f::fs,d::ds,h=>match g f.type d h with
  | some (c,h1)=>if f.offset=o∧c.length=P.cellsOf f.type then (match IL P g (o+c.length) fs ds h1 with
   | some (cs,h2)=>some (c++cs,h2)
   | none=>none) else none
  | none=>none
 | _,_,_,_=>none
def MZ (P:Program):Nat→TypeId→DataW H→List HB→Option (List TV×List HB)
 | 0,_,_,_=>none
 | g+1,t,d,h=>match P.underlying t,d with
  | some .bool,.lit (.bool b)=>some ([.bool b],h)
  | some (.int _),.lit (.int k n)=>some ([.int k n],h)
  | some .string,.lit (.string bs)=>some ([.str ⟨bs.toArray⟩],h)
  | some (.slice _),.nil=>some ([.nil .slc],h)
  | some (.slice e),.slice xs ys=>match OO (MZ P g e) (P.cellsOf e) (xs++ys) h with
   | some (cs,h1)=>if P.cellsOf e=0 then none else some ([.slc h1.length 0 xs.length (xs.length+ys.length) (P.cellsOf e) true],h1++[.cells .ro cs])
   | none=>none
  | some (.struct fs),.agg ds=>match IL P (MZ P g) 0 fs.toList ds h with
   | some (cs,h1)=>if cs.length=P.cellsOf t then some (cs,h1) else none
   | none=>none
  | _,_=>none
variable {enc:TypeId×Value→H} {P:Program} {w:World}
structure Opened (M:Mp) (h:List HB) (w:World):Prop where
 base:Base M h w
 ro:∀ b∈h,wr b=false
def Reads (enc:TypeId×Value→H) (P:Program) (w:World) (t:TypeId) (cs:List Value) (d:DataW H):Prop:=
 ∃ fuel ps,DataW.trod enc P w 0 (fun _=>true) true fuel t cs=some (d,ps)
def OQ (enc:TypeId×Value→H) (P:Program) (w:World) (g:TypeId→DataW H→List HB→Option (List TV×List HB)):Prop:=
 ∀ t d h r,g t d h=some r→∀ cs,Reads enc P w t cs d→∀ M,Opened M h w→∃ M',Opened M' r.2 w∧jR M M'∧aG M'.h r.1 cs∧∀ c∈r.1,bJ c=true
theorem KG {g:TypeId→DataW H→List HB→Option (List TV×List HB)} (hg:OQ enc P w g) {e:TypeId} {n:Nat}:∀ (ds:List (DataW H)) (css:List (List Value)) (h:List HB) (r:List TV×List HB),OO (g e) n ds h=some r →
  css.length=ds.length→(∀ (i:Nat) (d:DataW H) (cs:List Value),ds[i]? = some d→css[i]? = some cs→Reads enc P w e cs d)→∀ M,Opened M h w →
  ∃ M',Opened M' r.2 w∧jR M M'∧aG M'.h r.1 css.flatten∧(∀ c∈r.1,bJ c=true)∧r.1.length=ds.length*n∧∀ cs∈css,cs.length=n
 | [],css,h,r,hr,hl,hd,M,hB=>by
  simp only[OO,Option.some.injEq] at hr;subst hr
  have:css=[]:=List.eq_nil_of_length_eq_zero (by simpa using hl)
  subst this
  exact⟨M,hB,.refl M,.nil,by simp,by simp,by simp⟩
 | d::ds,[],h,r,hr,hl,hd,M,hB=>by simp at hl
 | d::ds,cs::css,h,r,hr,hl,hd,M,hB=>by
  simp only[OO] at hr
  split at hr
  ·rename_i c h1 hc
   split at hr
   ·rename_i hn
    split at hr
    ·rename_i cs' h2 hcs
     simp only[Option.some.injEq] at hr;subst hr
     obtain⟨M1,b1,m1,v1,o1⟩:=hg e d h (c,h1) hc cs (hd 0 d cs rfl rfl) M hB
     obtain⟨M2,b2,m2,v2,o2,l2,u2⟩:=KG hg ds css h1 (cs',h2) hcs (by simpa using hl) (fun i d' cs'' e1 e2=>hd (i+1) d' cs'' (by simpa using e1) (by simpa using e2)) M1 b1
     refine⟨M2,b2,m1.trans m2,?_,?_,?_,?_⟩
     ·rw[List.flatten_cons]
      exact (v1.mono m2.h).append v2
     ·intro x hx
      rcases List.mem_append.1 hx with hx | hx
      ·exact o1 x hx
      ·exact o2 x hx
     ·simp only[List.length_append,l2,hn,List.length_cons,Nat.add_mul,Nat.one_mul];omega
     ·intro x hx
      rcases List.mem_cons.1 hx with rfl | hx
      ·have:=v1.len
       simp only at this
       omega
      ·exact u2 x hx
    ·cases hr
   ·cases hr
  ·cases hr
theorem KH {g:TypeId→DataW H→List HB→Option (List TV×List HB)} (hg:OQ enc P w g) {cs:List Value}:∀ (fs:List Field) (ds:List (DataW H)) (o:Nat) (h:List HB) (r:List TV×List HB),IL P g o fs ds h=some r →
  (∀ (i:Nat) (f:Field) (d:DataW H),fs[i]? = some f→ds[i]? = some d→Reads enc P w f.type ((cs.drop f.offset).take (P.cellsOf f.type)) d)→∀ M,Opened M h w →
  ∃ M',Opened M' r.2 w∧jR M M'∧aG M'.h r.1 ((cs.drop o).take r.1.length)∧∀ c∈r.1,bJ c=true
 | [],[],o,h,r,hr,hd,M,hB=>by
  simp only[IL,Option.some.injEq] at hr;subst hr
  exact⟨M,hB,.refl M,by simpa using aG.nil,by simp⟩
 | [],d::ds,o,h,r,hr,hd,M,hB=>by simp[IL] at hr
 | f::fs,[],o,h,r,hr,hd,M,hB=>by simp[IL] at hr
 | f::fs,d::ds,o,h,r,hr,hd,M,hB=>by
  simp only[IL] at hr
  split at hr
  ·rename_i c h1 hc
   split at hr
   ·rename_i hn
    obtain⟨ho,hn⟩:=hn
    split at hr
    ·rename_i cs' h2 hcs
     simp only[Option.some.injEq] at hr;subst hr
     obtain⟨M1,b1,m1,v1,o1⟩:=hg f.type d h (c,h1) hc _ (hd 0 f d rfl rfl) M hB
     obtain⟨M2,b2,m2,v2,o2⟩:=KH hg fs ds (o+c.length) h1 (cs',h2) hcs (fun i f' d' e1 e2=>hd (i+1) f' d' (by simpa using e1) (by simpa using e2)) M1 b1
     refine⟨M2,b2,m1.trans m2,?_,?_⟩
     ·have:=(v1.mono m2.h).append v2
      rw[ho,←hn] at this
      simp only at this ⊢
      rw[List.length_append,List.take_add,List.drop_drop]
      exact this
     ·intro x hx
      rcases List.mem_append.1 hx with hx | hx
      ·exact o1 x hx
      ·exact o2 x hx
    ·cases hr
   ·cases hr
  ·cases hr
theorem yu {n:Nat}:∀ {css:List (List Value)},(∀ cs∈css,cs.length=n)→∀ (i j:Nat),j<n→css.flatten[i*n+j]? = (css[i]?).bind (·[j]?)
 | [],_,i,j,_=>by simp
 | cs::css,h,0,j,hj=>by
  have:=h cs List.mem_cons_self
  simp only[List.flatten_cons,Nat.zero_mul,Nat.zero_add]
  rw[List.getElem?_append_left (by omega)]
  simp
 | cs::css,h,i+1,j,hj=>by
  have hc:=h cs List.mem_cons_self
  simp only[List.flatten_cons]
  rw[List.getElem?_append_right (by rw[hc,Nat.add_mul,Nat.one_mul];omega),hc]
  rw[show (i+1)*n+j-n=i*n+j by rw[Nat.add_mul,Nat.one_mul];omega]
  rw[yu (fun x hx=>h x (List.mem_cons_of_mem _ hx)) i j hj]
  simp
theorem KI {M:Mp} {h:List HB} (hB:Opened M h w) {cs:List TV} {ls:List Pl} (h1:∀ c∈cs,bJ c=true) (h2:∀ p∈ls,zT M.h w .ro cs p) :
  ∃ M',Opened M' (h++[.cells .ro cs]) w∧jR M M'∧M' (.h h.length)=some (.cells ls):=by
 have hget:fQ h (.h h.length)=none:=by simp[fQ,St.get]
 have mO:M (.h h.length)=none:=by
  cases hm:M (.h h.length) with
  | none=>rfl
  | some l=>have:=hB.base.val.has hm;rw[hget] at this;cases this
 have hle:jR M (aO M (.h h.length) (.cells ls)):=iJ fun l0 h0=>by rw[mO] at h0;cases h0
 have hg:fQ (h++[.cells .ro cs])=fJ (fQ h) (.h h.length) (.cells .ro cs):=eP ⟨[],[],h,[]⟩ _ [] []
 have hro:∀ b∈h++[HB.cells .ro cs],wr b=false:=fun b hb=>by
  rcases List.mem_append.1 hb with hb | hb
  ·exact hB.ro b hb
  ·simp at hb;subst hb;rfl
 refine⟨aO M (.h h.length) (.cells ls),⟨⟨⟨?_,?_,?_⟩,fun k=>?_⟩,hro⟩,hle,by simp[aO]⟩
 ·intro k l hk _
  rw[hg]
  by_cases hkk:k=.h h.length
  ·subst hkk
   simp only[aO,if_true,Option.some.injEq] at hk;subst hk
   exact⟨.cells .ro cs,by simp[fJ],h1,fun p hp=>(h2 p hp).mono hle.h rfl,by simp,by simp⟩
  ·simp only[aO,hkk,if_false] at hk
   obtain⟨b,g1,g2⟩:=hB.base.val.ok k l hk trivial
   exact⟨b,by simp[fJ,hkk,g1],g2.mono hle.h fun _ _=>rfl⟩
 ·intro k k' l l' b hne hk hk' _ hb hw
  have:wr b=false:=by
   cases k with
   | h x=>exact hro b (List.mem_of_getElem? hb)
   | l x=>simp[fQ,St.get] at hb
  rw[this] at hw;cases hw
 ·intro k l hk c hc
  by_cases hkk:k=.h h.length
  ·subst hkk
   simp only[aO,if_true,Option.some.injEq] at hk;subst hk
   obtain⟨p,hp,rfl⟩:=List.mem_map.1 hc
   obtain⟨arr,ty,fz,g1,_⟩:=(h2 p hp).row
   exact (Array.getElem?_eq_some_iff.1 g1).1
  ·simp only[aO,hkk,if_false] at hk
   exact hB.base.val.inb k l hk c hc
 ·simp[aO];exact hB.base.loc k
theorem KJ:∀ g,OQ enc P w (MZ P g)
 | 0=>by intro t d h r hr;simp[MZ] at hr
 | g+1=>by
  intro t d h r hr cs hd M hB
  obtain⟨fuel,ps,hd⟩:=hd
  have ih:=KJ g
  simp only[MZ] at hr
  split at hr
  ·-- bool
   rename_i b hu
   simp only[Option.some.injEq] at hr;subst hr
   refine⟨M,hB,.refl M,?_,by simp[bJ]⟩
   cases fuel with
   | zero=>simp[DataW.trod] at hd
   | succ n=>
    unfold DataW.trod at hd
    rw[hu] at hd
    split at hd<;>simp_all
    exact .cons (.bool _) .nil
  ·-- int
   rename_i k0 k n hu
   simp only[Option.some.injEq] at hr;subst hr
   refine⟨M,hB,.refl M,?_,by simp[bJ]⟩
   cases fuel with
   | zero=>simp[DataW.trod] at hd
   | succ n=>
    unfold DataW.trod at hd
    rw[hu] at hd
    split at hd<;>simp_all
    exact .cons (.int _ _) .nil
  ·-- string
   rename_i bs hu
   simp only[Option.some.injEq] at hr;subst hr
   refine⟨M,hB,.refl M,?_,by simp[bJ]⟩
   cases fuel with
   | zero=>simp[DataW.trod] at hd
   | succ n=>
    unfold DataW.trod at hd
    rw[hu] at hd
    split at hd<;>simp_all
    obtain⟨_,rfl,_⟩:=hd
    exact .cons (.str _) .nil
  ·-- nil slice
   rename_i e hu
   simp only[Option.some.injEq] at hr;subst hr
   refine⟨M,hB,.refl M,?_,by simp[bJ]⟩
   rcases Deep.open_slice hu hd with⟨rfl,_⟩ | ⟨a,len,cap,m,n,Dt,Pl,_,_,_,_,_,hx,_⟩
   ·exact .cons .Ep .nil
   ·cases hx
  ·-- a slice
   rename_i e xs ys hu
   split at hr
   ·rename_i cells h1 hl
    split at hr
    ·cases hr
    ·rename_i hn0
     simp only[Option.some.injEq] at hr;subst hr
     rcases Deep.open_slice hu hd with⟨rfl,hx⟩ | ⟨a,len,cap,m,n,Dt,Pl,rfl,_,hlc,hmax,hm,hx,hat⟩
     ·cases hx
     ·simp only[if_true] at hm
      have hm':=hm.symm
      subst hm'
      simp only[Prod.mk.injEq,DataW.slice.injEq] at hx
      obtain⟨⟨hxs,hys⟩,_⟩:=hx
      have lxs:xs.length=len:=by rw[hxs];simp
      have lys:ys.length=cap-len:=by rw[hys];simp
      have hds:∀ i,i<cap→(xs++ys)[i]? = some (Dt i):=by
       intro i hi
       by_cases h1:i<len
       ·rw[List.getElem?_append_left (by omega),hxs]
        simp[h1]
       ·rw[List.getElem?_append_right (by omega),lxs,hys]
        have h2:i-len<cap-len:=by omega
        simp[h2,show len+(i-len)=i by omega]
      have hn:=hat
      let css:List (List Value):=(List.range cap).map fun i=>(w.cells? 0 (a.add (i*P.cellsOf e)) (P.cellsOf e)).getD []
      have hcs:∀ i,i<cap→∃ cs',css[i]? = some cs'∧w.cells? 0 (a.add (i*P.cellsOf e)) (P.cellsOf e)=some cs'∧DataW.trod enc P w 0 (fun _=>true) true n e cs'=some (Dt i,Pl i):=by
       intro i hi
       obtain⟨cs',e1,e2⟩:=hat i hi
       exact⟨cs',by simp[css,hi,e1],e1,e2⟩
      have Yu:css.length=cap:=by simp[css]
      obtain⟨M1,b1,m1,v1,o1,l1,u1⟩:=KG ih (xs++ys) css h (cells,h1) hl (by simp[Yu,lxs,lys];omega) (fun i d cs e1 e2=>by
       have hi:i<cap:=by rw[←Yu];exact (List.getElem?_eq_some_iff.1 e2).1
       obtain⟨cs',f1,f2,f3⟩:=hcs i hi
       rw[f1] at e2;cases e2
       rw[hds i hi] at e1;cases e1
       exact⟨n,_,f3⟩) M hB
      simp only at b1 v1 o1 l1
      have l1':cells.length=cap*P.cellsOf e:=by rw[l1];simp[lxs,lys];congr 1;omega
      have Oh:0<P.cellsOf e:=by omega
      have e1:xs.length+ys.length=cap:=by omega
      show ∃ M',Opened M' (h1++[.cells .ro cells]) w∧jR M M'∧aG M'.h [.slc h1.length 0 xs.length (xs.length+ys.length) (P.cellsOf e) true] [.slice (some a) len cap]∧∀ c∈[TV.slc h1.length 0 xs.length (xs.length+ys.length) (P.cellsOf e) true],bJ c=true
      rw[e1,lxs]
      by_cases hc0:cap=0
      ·obtain⟨M2,b2,m2,k2⟩:=KI b1 (cs:=cells) (ls:=[]) o1 (by simp)
       refine⟨M2,b2,m1.trans m2,.cons (.slc (p:=⟨0,0,0,0⟩) k2 (.inl hc0) ?_ ?_ ?_ ?_ (.inl hc0) (by unfold maxLen at hmax;omega)) .nil,by intro c hc;simp at hc;subst hc;rfl⟩
       ·simp[hc0]
       ·omega
       ·omega
       ·intro _;omega
      ·have hcell:∀ k,k<cap*P.cellsOf e→w.cell? (a.add k)=css.flatten[k]?:=by
        intro k hk
        have hj:k%P.cellsOf e<P.cellsOf e:=Nat.mod_lt _ Oh
        have hi:k/P.cellsOf e<cap:=by rw[Nat.div_lt_iff_lt_mul Oh];exact hk
        have hkk:k/P.cellsOf e*P.cellsOf e+k%P.cellsOf e=k:=by
         rw[Nat.mul_comm];exact Nat.div_add_mod k _
        obtain⟨cs',f1,f2,_⟩:=hcs _ hi
        obtain⟨_,_,f3⟩:=World.cells?_some f2
        have f4:=f3 _ hj
        rw[Deep.add_add,hkk] at f4
        have f5:=yu u1 (k/P.cellsOf e) (k%P.cellsOf e) hj
        rw[hkk,f1] at f5
        rw[f4,f5];rfl
       have hpos:0<cap*P.cellsOf e:=Nat.mul_pos (by omega) Oh
       have lfl:css.flatten.length=cap*P.cellsOf e:=by rw[←v1.len,l1']
       have h00:=hcell 0 hpos
       have hv0:css.flatten[0]? = some (css.flatten[0]'(by omega)):=List.getElem?_eq_getElem _
       rw[hv0,Addr.add,if_pos rfl] at h00
       have hrow:∃ arr ty fz,w.heap[a.block]? = some (.cells arr ty fz)∧a.spot=none:=by
        unfold World.cell? at h00
        split at h00
        ·rename_i c ty fz hh
         split at h00
         ·cases h00
         ·rename_i hsp
          exact⟨c,ty,fz,hh,by simpa using hsp⟩
        ·cases h00
       obtain⟨arr,ty,fz,hh,hsp⟩:=hrow
       have Gi:∀ k,w.cell? (a.add k)=arr[a.off+k]?:=by
        intro k
        unfold World.cell? Addr.add
        by_cases hk:k=0
        ·subst hk;simp[hh,hsp]
        ·simp[hk,hh]
       have hbound:a.off+cap*P.cellsOf e≤arr.size:=by
        have h1:=hcell (cap*P.cellsOf e-1) (by omega)
        rw[Gi,List.getElem?_eq_getElem (by omega)] at h1
        have:=(Array.getElem?_eq_some_iff.1 h1).1
        omega
       obtain⟨M2,b2,m2,k2⟩:=KI b1 (cs:=cells) (ls:=[⟨a.block,a.off,cap*P.cellsOf e,arr.size⟩]) o1 (by
        intro p hp
        simp at hp;subst hp
        refine⟨⟨arr,ty,fz,hh,rfl,by simp,fun _ i c v hi e1 e2=>?_⟩,hbound,Nat.le_of_eq l1'.symm,by simp⟩
        simp only at hi e2
        rw[←Gi,hcell i hi] at e2
        exact v1.at_ i c v e1 e2)
       refine⟨M2,b2,m1.trans m2,.cons (.slc (p:=⟨a.block,a.off,cap*P.cellsOf e,arr.size⟩) k2 (.inr (by simp)) ?_ ?_ ?_ ?_ (.inr ⟨?_,?_⟩) (by unfold maxLen at hmax;omega)) .nil,by intro c hc;simp at hc;subst hc;rfl⟩
       ·simp
       ·omega
       ·omega
       ·intro _;omega
       ·cases a;simp_all
       ·simpa using hbound
   ·cases hr
  ·-- a struct
   rename_i fs ds hu
   split at hr
   ·rename_i cs' h1 hl
    split at hr
    ·rename_i hlen
     simp only[Option.some.injEq] at hr;subst hr
     obtain⟨zs,n,_,hx,hcl,hzl,hat⟩:=DataW.trod_struct hu hd
     simp only[Prod.mk.injEq,DataW.agg.injEq] at hx
     obtain⟨rfl,_⟩:=hx
     obtain⟨M',b1,m1,v1,o1⟩:=KH ih fs.toList _ 0 h (cs',h1) hl (cs:=cs) (fun i f d e1 e2=>by
      have e1':fs[i]? = some f:=by simpa using e1
      simp only[List.getElem?_map,Option.map_eq_some_iff] at e2
      obtain⟨z,hz,rfl⟩:=e2
      exact⟨n,z.2,by rw[hat i f e1',hz]⟩) M hB
     refine⟨M',b1,m1,?_,o1⟩
     simp only at v1 ⊢
     rw[hlen,←hcl] at v1
     simpa using v1
    ·cases hr
   ·cases hr
  ·cases hr
end
end Tw
namespace Tw
open Go Go.ChangeShapes Go.WideShapes Go.RowKit
section
variable {H:Type} {enc:TypeId×Value→H} {P:Program} {W W':World}
def OU (P:Program) (g:Nat):List TypeId→List (DataW H)→List HB→Option (List TV×List HB)
 | [],[],h=>some ([],h)
 | t::ts,d::ds,h=>match MZ P g t d h with
  | some (c,h1)=>match lW P t,c,OU P g ts ds h1 with
   | some true,c,some (az,h2)=>some (.agg c::az,h2)
   | some false,[x],some (az,h2)=>some (x::az,h2)
   | _,_,_=>none
  | none=>none
 | _,_,_=>none
theorem IQ {r:Reach} {b:Nat} {t:TypeId} {v:Value} (ha:lW P t=some false) (h:Value.okWide P W r b t v):v.cells.toList=[v]:=by
 unfold lW at ha
 unfold Value.okWide at h
 cases hu:P.underlying t with
 | none=>simp[hu] at ha
 | some u=>
  rw[hu] at ha h
  cases v with
  | agg cs=>cases u<;>simp_all [Cell.okWide,Cell.ok]
  | _=>rfl
theorem IU {r:Reach} {b:Nat} {t:TypeId} {v:Value} (ha:lW P t=some true) (h:Value.okWide P W r b t v):∃ cs,v=.agg cs:=by
 unfold lW at ha
 unfold Value.okWide at h
 cases hu:P.underlying t with
 | none=>simp[hu] at ha
 | some u=>
  rw[hu] at ha h
  cases u<;>simp_all<;>exact⟨_,h.choose_spec.1⟩
theorem EK {r:Reach} {b g:Nat}:∀ {ts:List TypeId} {vs:List Value} {ds:List (DataW H)} {ps:List MemPlace} {h:List HB} {x:List TV×List HB} {M:Mp},
  DataW.TrodAll enc P W 0 (fun _=>true) true ts vs ds ps→(∀ (j:Nat) t v,ts[j]? = some t→vs[j]? = some v→Value.okWide P W r b t v)→OU P g ts ds h=some x→Opened M h W →
  ∃ M',Opened M' x.2 W∧jR M M'∧aG M'.h x.1 vs
 | [],vs,ds,ps,h,x,M,ht,ho,he,hB=>by
  obtain⟨rfl,rfl,rfl⟩:=trodAll_nil ht
  simp only[OU,Option.some.injEq] at he;subst he
  exact⟨M,hB,.refl M,.nil⟩
 | t::ts,vs,ds,ps,h,x,M,ht,ho,he,hB=>by
  obtain⟨v,vs',d,ds',p,q,rfl,rfl,rfl,hd,hrest⟩:=trodAll_cons ht
  simp only[OU] at he
  split at he
  ·rename_i c h1 hc
   obtain⟨fuel,hf⟩:=hd
   obtain⟨M1,b1,m1,v1,o1⟩:=KJ (enc:=enc) (P:=P) (w:=W) g t d h (c,h1) hc v.cells.toList ⟨fuel,p,hf⟩ M hB
   split at he
   ·rename_i az h2 ha hr
    simp only[Option.some.injEq] at he;subst he
    obtain⟨M2,b2,m2,v2⟩:=EK (x:=(az,h2)) hrest (fun j t' v' e1 e2=>ho (j+1) t' v' (by simpa using e1) (by simpa using e2)) hr b1
    obtain⟨cs,rfl⟩:=IU ha (ho 0 t v rfl rfl)
    refine⟨M2,b2,m1.trans m2,.cons ?_ v2⟩
    have:=VR.agg' (v1.mono m2.h)
    simpa[Value.cells] using this
   ·rename_i y az h2 ha hr
    simp only[Option.some.injEq] at he;subst he
    obtain⟨M2,b2,m2,v2⟩:=EK (x:=(az,h2)) hrest (fun j t' v' e1 e2=>ho (j+1) t' v' (by simpa using e1) (by simpa using e2)) hr b1
    have h1c:=IQ ha (ho 0 t v rfl rfl)
    rw[h1c] at v1
    obtain⟨z,zs,e1,e2,e3⟩:=(v1.mono m2.h).cu
    simp only[List.cons.injEq] at e1
    obtain⟨rfl,rfl⟩:=e1
    exact⟨M2,b2,m1.trans m2,.cons e2 v2⟩
   ·cases he
  ·cases he
theorem rY (hl:laidOutB P=true) (hb:Below W.heap.size W W'):∀ {ts:List TypeId} {vs:List Value} {ds:List (DataW H)} {ps:List MemPlace},
  (ts.all fun t=>P.readableRec t&&decide (t<P.types.size))=true→DataW.TrodAll enc P W 0 (fun _=>true) true ts vs ds ps→(∀ x∈ps,x.block<W.heap.size) →
  DataW.TrodAll enc P W' 0 (fun b=>decide (b<W.heap.size)) true ts vs ds ps
 | [],_,_,_,_,h,_=>by
  obtain⟨rfl,rfl,rfl⟩:=trodAll_nil h
  rfl
 | t::ts,_,_,_,ho,h,hlt=>by
  obtain⟨v,vs',d,ds',p,q,rfl,rfl,rfl,hd,hrest⟩:=trodAll_cons h
  simp only[List.all_cons,Bool.and_eq_true,decide_eq_true_eq] at ho
  exact⟨p,q,Below.trod hl ho.1.1 ho.1.2 hd hb (fun x hx=>hlt x (List.mem_append_left _ hx)),rY hl hb ho.2 hrest (fun x hx=>hlt x (List.mem_append_right _ hx)),rfl⟩
theorem N7 {f:Func} {s:ChangeSpec} {args:Array Value} {ds:List (DataW H)} {before:List MemPlace} {tb:TypeId} (hl:laidOutB P=true) (hv:s.vars=[]) (hs:s.fn H ds={ results:=[.lit (.bool true)],args:=ds })
  (hf:f.resultTypes=#[tb]) (htb:P.underlying tb=some .bool) (hp:(f.params.toList.all fun t=>P.readableRec t&&decide (t<P.types.size))=true)
  (hW:DataW.Whole enc P f.params.toList s.vars false W args.toList ds [] before) (hb:Below W.heap.size W W'):s.post enc P f false true false false W args (.bool true) W':=by
 have hW':=hW
 obtain⟨p,q,hA,hV,rfl,hfz,hnd⟩:=hW
 rw[hv] at hV
 have hq:q=[]:=hV
 subst hq
 have hlt:∀ x∈p,x.block<W.heap.size:=fun x hx=>by simpa using hW'.lt x (List.mem_append_left _ hx)
 refine⟨ds,[],p++[],[],p,[],hW',?_,?_,?_,hb.frame _,by simp⟩
 ·rw[List.append_nil,hs,hf]
  refine⟨[],[],⟨1,?_⟩,rfl,rfl⟩
  simp[DataW.trod,htb,Value.cells]
 ·rw[List.append_nil,hs]
  exact rY hl hb hp hA hlt
 ·rw[List.append_nil,hs,hv]
  rfl
theorem XG {T:Tab} {L n g Yv:Nat} {f:Func} {s:ChangeSpec} {args:Array Value} {ds:List (DataW H)} {before:List MemPlace} {tb:TypeId} {r:Reach} {b:Nat} (hm:P.follows .mixedOrders=true)
  (hl:laidOutB P=true) (hv:s.vars=[]) (hs:s.fn H ds={ results:=[.lit (.bool true)],args:=ds })
  (hf:f.resultTypes=#[tb]) (htb:P.underlying tb=some .bool) (hp:(f.params.toList.all fun t=>P.readableRec t&&decide (t<P.types.size))=true)
  (hW:DataW.Whole enc P f.params.toList s.vars false W args.toList ds [] before)
  (hval:∀ (j:Nat) t v,f.params[j]? = some t→args[j]? = some v→Value.okWide P W r b t v)
  {az:List TV} {h h':List HB} (he:OU P g f.params.toList ds []=some (az,h)) (hr:run P T L (n+1) Yv az h=some (.bool true,h',[])) :
  Calls P Yv args W fun e W'=>∃ v,e=.returned v∧s.post enc P f false true false false W args v W':=by
 obtain⟨p,q,hA,_⟩:=id hW
 have h0:Opened (fun _=>none) [] W:=⟨⟨⟨by simp,by simp,by simp⟩,by simp⟩,by simp⟩
 obtain⟨M',b1,_,v1⟩:=EK hA (fun j t v e1 e2=>hval j t v (by simpa using e1) (by simpa using e2)) he h0
 have hc:=AB hm hr b1.base.val b1.base.loc v1 0
 refine (callsIn_wide.1 hc).mono fun e W' hR=>?_
 cases e with
 | panicked c=>exact hR.elim
 | outgrown=>exact hR.elim
 | returned v=>
  obtain⟨M2,_,_,hX,hv'⟩:=hR
  cases hv'
  refine⟨_,rfl,N7 hl hv hs hf htb hp hW ⟨hX.os,hX.tape,hX.output,hX.size,fun k hk=>hX.frame k hk (by simp)⟩⟩
end
end Tw
namespace Tw
open Go
def N8 (P:Program) (T:Tab) (call:ay) (L:Nat) (f:Nat) (args:List TV) (h:List HB):Option (TV×List HB×List Nat):=
 match CS P f with
 | some t=>match exec P T call L f false h.length t.nt t.body ⟨fB 0 args,[],h,[]⟩ with
  | some (.norm,s) | some (.ret,s)=>match jI P s t.results with
   | some vs=>some (one vs,s.heap,s.ws)
   | none=>none
  | _=>none
 | none=>none
noncomputable def yw (P:Program) (T:Tab) (L:Nat):Nat→ay
 | 0,_,_,_=>none
 | n+1,.fn f first cap,args,h=>if T.exts.contains f=true then T.ext (.fn f first cap) args h else if T.Ho.contains f=true then MV P T (yw P T L n) L f (first++args++cap) h else N8 P T (yw P T L n) L f (first++args++cap) h
 | n+1,.iF l,args,h=>wK P T (yw P T L n) L l args h
 | _,_,_,_=>none
section
variable {P:Program} {T:Tab} {call:ay} {L:Nat} {nt:Nat} {M:Mp} {h:List HB} {w:World}
theorem SE (hm:P.follows .mixedOrders=true) (hC:aj P call) {f:Nat} {args:List TV} {v:TV} {h':List HB} {ws:List Nat} (hf:N8 P T call L f args h=some (v,h',ws)) (hB:Base M h w) {xs:List Value} (hx:aG M.h args xs) :
  ∃ fn c, P.funcs[f]? = some fn ∧ (fn.name == "runtime.NumGoroutine") = false ∧ fn.body = some c ∧ ∀ n, CallsIn Fence.wide n P f xs.toArray w (uD (dL M h w v h' ws)) := by
 unfold N8 CS at hf
 split at hf
 ·rename_i t ht
  split at ht
  ·rename_i fn hfn
   split at ht
   ·cases ht
   ·rename_i hname
    split at ht
    ·rename_i c hc
     cases ht
     refine⟨fn,c,hfn,by simpa using hname,hc,fun n=>?_⟩
     have hR0:Rel M h w fn.ntmps M ⟨fB 0 args,[],h,[]⟩ { tmps:=xs.toArray++Array.replicate (fn.ntmps-xs.toArray.size) Go.undef,defers:=[] } w:=by
      have hg:St.get ⟨fB 0 args,[],h,[]⟩=fQ h:=getEnv ⟨[],[],h,[]⟩ _ _
      refine⟨by rw[hg];exact hB.val,by rw[hg];exact .refl _ _ _,fun t e hl=>?_,by simp;omega,by simp,.nil⟩
      obtain⟨i,v',x,e1,rfl,e3,e4⟩:=qQ hx hl
      have hi:i<xs.length:=(List.getElem?_eq_some_iff.1 e3).1
      have:(xs.toArray++Array.replicate (fn.ntmps-xs.toArray.size) Go.undef).getD t Go.undef=x:=by
       rw[Array.getD_eq_getD_getElem?,Array.getElem?_append_left (by simp;omega)]
       have:t=i:=by omega
       subst this
       simp[e3]
      rw[this]
      exact .val e4
     have hfin:∀ (s:St),(match jI P s fn.results.toList with
       | some vs=>some (one vs,s.heap,s.ws)
       | none=>none)=some (v,h',ws)→∀ (M':Mp) (a':Act) (w':World),Rel M h w fn.ntmps M' s a' w'→LeavesInM Fence.wide n P fn a'.tmps (uD (dL M h w v h' ws)) a'.defers .returning w':=by
      intro s hs M' a' w' hR'
      split at hs
      ·rename_i vs hvs
       refine uM hB a'.defers a' w' rfl hR' fun w'' EH=>?_
       obtain⟨y,g1,g2⟩:=tC (P:=P) EH hvs
       refine⟨y,g2,?_⟩
       simp only[Option.some.injEq,Prod.mk.injEq] at hs
       obtain⟨rfl,rfl,rfl⟩:=hs
       exact EG hB EH g1
      ·cases hs
     refine callsIn_of_wp_marks (F:=Fence.wide) hfn hc trivial ?_
     split at hf
     ·rename_i s hex
      exact jc (dI:=false) hm hC hB (fun _=>rfl) _ _ _ _ hex n _ M _ w hR0 fun M' a' w' hR'=>hfin s hf M' a' w' hR'
     ·rename_i s hex
      exact jc (dI:=false) hm hC hB (fun _=>rfl) _ _ _ _ hex n _ M _ w hR0 fun M' a' w' hR'=>hfin s hf M' a' w' hR'
     ·cases hf
    ·cases ht
  ·cases ht
 ·cases hf
theorem OV (hm:P.follows .mixedOrders=true) (hE:aj P T.ext):∀ n,aj P (yw P T L n)
 | 0=>by
  intro fv args h v h' ws hc
  simp[yw] at hc
 | n+1=>by
  intro fv args h v h' ws hc M w x xs hV hl hx hxs
  have ih:=OV hm hE n
  cases fv with
  | fn f first cap=>
   simp only[yw] at hc
   split at hc
   ·exact hE _ _ _ _ _ _ hc M w x xs hV hl hx hxs
   rename_i hnx
   cases hx with
   | fn h1 h2 h3 h4=>
    rename_i ys zs
    have hargs:aG M.h (first++args++cap) (ys++xs++zs):=(aG.append ⟨h1,h2⟩ hxs).append ⟨h3,h4⟩
    obtain ⟨fn, c, e1, e2, e3, e4⟩ : ∃ fn c, P.funcs[f]? = some fn ∧ (fn.name == "runtime.NumGoroutine") = false ∧ fn.body = some c ∧ ∀ n, CallsIn Fence.wide n P f (ys ++ xs ++ zs).toArray w (uD (dL M h w v h' ws)) := by
     split at hc
     ·exact SC hm ih hc ⟨hV,hl⟩ hargs
     ·exact SE hm ih hc ⟨hV,hl⟩ hargs
    refine⟨{ target:=.fn (.func f) zs.toArray,args:=ys.toArray++xs.toArray },fun w=>by simp[Deferred.ofValue],.inl ⟨⟨f,(ys++xs++zs).toArray,?_,e4⟩,f,first,cap,rfl⟩⟩
    have e2' : ¬ fn.name = "runtime.NumGoroutine" := by simpa using e2
    simp[invoke,callFunc,program,Sem.run,e1,e2',e3]
  | iF l=>
   simp only[yw] at hc
   cases hx with
   | iF hm'=>
    rename_i l' _
    refine⟨{ target:=.fn (.yield l') #[],args:=xs.toArray },fun w=>by simp[Deferred.ofValue],.inr ⟨Az hm ih hc ⟨hV,hl⟩ hm' hxs,l,rfl⟩⟩
  | _=>simp[yw] at hc
end
open Go Go.ChangeShapes Go.WideShapes Go.RowKit
end Tw
namespace Pv
open Go Tw
inductive PV (Γ:Nat→Type) where
 | bool (b:Bool)
 | lit (b:Bool)
 | int (k:IntKind) (n:Int)
 | str (s:ByteArray)
 | nil (k:NK)
 | ptr (b off lim:Nat)
 | slc (b off len cap sz:Nat) (ex:Bool)
 | own (b:Nat)
 | win (b o n:Nat)
 | map (r:Nat)
 | fn (f:FuncId) (first cap:List (PV Γ))
 | iF (l:Nat)
 | agg (cs:List (PV Γ))
 | bf (cs:List (PV Γ))
 | lst (t:Nat) (l:List (Γ t)) (full:Bool)
 | el (t:Nat) (a:Γ t) (off:Nat)
 | row (b j off:Nat)
 | iter (b:Nat)
inductive PE (Γ:Nat→Type) where
 | val (v:PV Γ)
 | loc (k off:Nat)
 | undef
inductive PB (Γ:Nat→Type) where
 | cells (cs:List (PV Γ))
 | eu (cs:List (PV Γ))
 | list (k ex:Bool) (t:Nat) (l:List (Γ t))
 | map (es:List (PV Γ×PV Γ))
 | mark
 | loop (ready:Bool) (f:FuncId) (nt:Nat) (env:List (Nat×PE Γ)) (ps:List Nat) (assign body:Code) (pend:Option Code)
 | aV (r n:Nat) (seen:List Nat)
 | rP (es:List (PV Γ×PV Γ))
 | oH (cs:List (PV Γ))
 | gone
structure aP (Γ:Nat→Type) where
 env:List (Nat×PE Γ)
 loc:List (List (PV Γ))
 heap:List (PB Γ)
structure gZ where
 Γ:Nat→Type
 d0:(t:Nat)→Γ t
 enc:(t:Nat)→Γ t→List (PV Γ)
 dec:(t:Nat)→List (PV Γ)→Option (Γ t)
section
variable {Γ:Nat→Type}
def kQ:PV Γ→Option TV
 | .bool b=>some (.bool b)
 | .int k n=>some (.int k n)
 | .str s=>some (.str s)
 | .nil k=>some (.nil k)
 | _=>none
def jd:List (PV Γ)→Option (List TV)
 | []=>some []
 | c::cs=>match kQ c,jd cs with
  | some v,some vs=>some (v::vs)
  | _,_=>none
def pI:PV Γ→Option TV
 | .agg cs=>(jd cs).map .agg
 | v=>kQ v
def N9:List (PV Γ)→Option (List TV)
 | []=>some []
 | c::cs=>match pI c,N9 cs with
  | some v,some vs=>some (v::vs)
  | _,_=>none
def O6:TV→Option (PV Γ)
 | .bool b=>some (.bool b)
 | .int k n=>some (.int k n)
 | .str s=>some (.str s)
 | .nil k=>some (.nil k)
 | _=>none
def sK:List TV→Option (List (PV Γ))
 | []=>some []
 | c::cs=>match O6 c,sK cs with
  | some v,some vs=>some (v::vs)
  | _,_=>none
def Na:TV→Option (PV Γ)
 | .agg cs=>(sK cs).map .agg
 | v=>O6 v
def PV.cells:PV Γ→List (PV Γ)
 | .agg cs=>cs
 | v=>[v]
def IV:PV Γ→Bool
 | .agg _ | .bf _=>false
 | _=>true
def rZ (t:Nat):List (Nat×PE Γ)→Option (PE Γ)
 | []=>none
 | (k,v)::r=>if k=t then some v else rZ t r
def aP.put (s:aP Γ) (dst:Option Nat) (v:PE Γ):aP Γ:=
 match dst with
 | some d=>{ s with env:=(d,v)::s.env }
 | none=>s
def gG (live:List Nat) (env:List (Nat×PE Γ)):List (Nat×PE Γ):=
 match live with
 | []=>[]
 | t::r=>match rZ t env with
  | some v=>(t,v)::gG r env
  | none=>gG r env
def know (t:Nat) (b:Bool):List (Nat×PE Γ)→List (Nat×PE Γ)
 | []=>[]
 | (k,v)::r=>if k=t then (k,.val (.lit b))::r else (k,v)::know t b r
def aP.know (s:aP Γ) (x:Operand) (b:Bool):aP Γ:=
 match x with
 | .tmp t=>{ s with env:=Pv.know t b s.env }
 | _=>s
def wX (env:List (Nat×PE Γ)):Operand→Option (PE Γ)
 | .tmp t=>rZ t env
 | .const v=>match TV.FH v with
  | some (.bool b)=>some (.val (.lit b))
  | some x=>(Na x).map .val
  | none=>none
 | .func f=>some (.val (.fn f [] []))
 | .global _=>none
def KL:PV Γ→PV Γ
 | .lit b=>.bool b
 | v=>v
def su (env:List (Nat×PE Γ)) (x:Operand):Option (PV Γ):=
 match wX env x with
 | some (.val v)=>some (KL v)
 | _=>none
def KN (env:List (Nat×PE Γ)) (x:Operand):Option (PV Γ):=
 match wX env x with
 | some (.val v)=>some v
 | _=>none
def IW (env:List (Nat×PE Γ)):List Operand→Option (List (PV Γ))
 | []=>some []
 | x::xs=>match su env x,IW env xs with
  | some v,some vs=>some (v::vs)
  | _,_=>none
def Nb (env:List (Nat×PE Γ)):List (Nat×Operand)→Option (List (Nat×PV Γ))
 | []=>some []
 | (i,x)::xs=>match su env x,Nb env xs with
  | some v,some vs=>some ((i,v)::vs)
  | _,_=>none
def AP (env:List (Nat×PE Γ)):Option Operand→Option (Option (PV Γ))
 | none=>some none
 | some x=>match su env x with
  | some v=>some (some v)
  | none=>none
def VD (cs:List (PV Γ)) (off n:Nat):Option (List (PV Γ)):=
 if off+n≤cs.length then some ((cs.drop off).take n) else none
def AQ (cs:List (PV Γ)) (off:Nat) (new:List (PV Γ)):Option (List (PV Γ)):=
 if off+new.length≤cs.length then some (cs.take off++new++cs.drop (off+new.length)) else none
def uO (P:Program) (t:TypeId) (cs:List (PV Γ)) (off:Nat):Option (PV Γ):=
 match lW P t,sizeT P t with
 | some true,some n=>(VD cs off n).map .agg
 | some false,some n=>if n=1 then cs[off]? else none
 | _,_=>none
def DI (P:Program) (t:TypeId):Option (List (PV Γ)):=
 match uf P t with
 | some z=>sK z
 | none=>none
def AU (place:Nat→Option (Nat×Nat)):List (PV Γ)→List (Nat×PV Γ)→Option (List (PV Γ))
 | cs,[]=>some cs
 | cs,(i,v)::r=>match place i with
  | some (off,size)=>if v.cells.length=size then (match AQ cs off v.cells with | some cs'=>AU place cs' r | none=>none) else none
  | none=>none
def IY (P:Program) (t:TypeId) (parts:List (Nat×PV Γ)):Option (PV Γ):=
 match DI P t,P.underlying t with
 | some z,some (.struct fs)=>if oO P fs.toList then (AU (En P fs) z parts).map .agg else none
 | some z,some (.array _ e)=>match sizeT P e with
  | some n=>(AU (fun i=>some (i*n,n)) z parts).map .agg
  | none=>none
 | _,_=>none
def IZ (z:List (PV Γ)):Nat→List (PV Γ)
 | 0=>[]
 | n+1=>z++IZ z n
def qU (site:Bool) (s:aP Γ) (cs:List (PV Γ)):PE Γ×aP Γ:=
 if site then (.val (.ptr s.heap.length 0 cs.length),{ s with heap:=s.heap++[.cells cs] })
 else (.loc s.loc.length 0,{ s with loc:=s.loc++[cs] })
def view (H:List (PB Γ)):PV Γ→Option (PV Γ)
 | .own i=>match H[i]? with
  | some (.list _ _ t l)=>some (.lst t l false)
  | _=>none
 | .win i o n=>match H[i]? with
  | some (.list _ _ t l)=>some (.lst t ((l.drop o).take n) false)
  | _=>none
 | .fn f a c=>match views H a,views H c with
  | some a,some c=>some (.fn f a c)
  | _,_=>none
 | .agg cs=>(views H cs).map .agg
 | .bf cs=>(views H cs).map .bf
 | .ptr _ _ _=>none
 | .slc _ _ _ _ _ _=>none
 | .map _=>none
 | .iter _=>none
 | .iF _=>none
 | .el _ _ _=>none
 | .row _ _ _=>none
 | .bool b=>some (.bool b)
 | .lit b=>some (.bool b)
 | .int k n=>some (.int k n)
 | .str s=>some (.str s)
 | .nil k=>some (.nil k)
 | .lst t l f=>some (.lst t l f)
where
 views (H:List (PB Γ)):List (PV Γ)→Option (List (PV Γ))
 | []=>some []
 | c::cs=>match view H c,views H cs with
  | some v,some vs=>some (v::vs)
  | _,_=>none
abbrev views (H:List (PB Γ)):=view.views H
def owns:PV Γ→List Nat
 | .own i=>[i]
 | .win i _ _=>[i]
 | .fn _ a c=>kR a++kR c
 | .agg cs=>kR cs
 | .bf cs=>kR cs
 | _=>[]
where
 kR:List (PV Γ)→List Nat
 | []=>[]
 | c::cs=>owns c++kR cs
def oL:PV Γ→Bool
 | .lst _ _ _=>true
 | .el _ _ _=>true
 | .fn _ a c=>uP a||uP c
 | .agg cs=>uP cs
 | .bf cs=>uP cs
 | _=>false
where
 uP:List (PV Γ)→Bool
 | []=>false
 | c::cs=>oL c||uP cs
def dH:PV Γ→Bool
 | .ptr _ _ _=>false
 | .slc _ _ _ _ _ _=>false
 | .own _=>false
 | .win _ _ _=>false
 | .map _=>false
 | .iter _=>false
 | .iF _=>false
 | .row _ _ _=>false
 | .fn _ a c=>sD a&&sD c
 | .agg cs=>sD cs
 | .bf cs=>sD cs
 | _=>true
where
 sD:List (PV Γ)→Bool
 | []=>true
 | c::cs=>dH c&&sD cs
def shift (k:Nat):PV Γ→PV Γ
 | .ptr b off lim=>.ptr (b+k) off lim
 | .slc b off len cap sz ex=>.slc (b+k) off len cap sz ex
 | .own b=>.own (b+k)
 | .win b o n=>.win (b+k) o n
 | .map r=>.map (r+k)
 | .iter r=>.iter (r+k)
 | .fn f a c=>.fn f (shifts k a) (shifts k c)
 | .iF l=>.iF (l+k)
 | .agg cs=>.agg (shifts k cs)
 | .bf cs=>.bf (shifts k cs)
 | .row b j off=>.row (b+k) j off
 | .bool b=>.bool b
 | .lit b=>.lit b
 | .int k n=>.int k n
 | .str s=>.str s
 | .nil k=>.nil k
 | .lst t l f=>.lst t l f
 | .el t a off=>.el t a off
where
 shifts (k:Nat):List (PV Γ)→List (PV Γ)
 | []=>[]
 | c::cs=>shift k c::shifts k cs
def Gj (i:Nat) (H:List (PB Γ)):List (PB Γ):=H.set i .gone
def aI:List Nat→List (PB Γ)→List (PB Γ)
 | [],H=>H
 | i::is,H=>aI is (Gj i H)
end
section
variable (X:gZ)
def tK (k:Nat):PB X.Γ→Option (PB X.Γ)
 | .cells cs=>some (.cells (shift.shifts k cs))
 | .list w ex t l=>some (.list w ex t l)
 | .gone=>some .gone
 | _=>none
def jY (k:Nat):List (PB X.Γ)→Option (List (PB X.Γ))
 | []=>some []
 | b::bs=>match tK X k b,jY k bs with
  | some b,some bs=>some (b::bs)
  | _,_=>none
def hasB:PB X.Γ→Bool
 | .cells cs=>oL.uP cs
 | .gone=>false
 | _=>true
def SG (H:List (PB X.Γ)) (t:Nat) (cs:List (PV X.Γ)):Option (X.Γ t×List Nat):=
 match views H cs with
 | some vs=>match X.dec t vs with
  | some a=>some (a,owns.kR cs)
  | none=>none
 | none=>none
def nU (H:List (PB X.Γ)) (t sz:Nat):Nat→List (PV X.Γ)→Option (List (X.Γ t)×List Nat)
 | 0,_=>some ([],[])
 | n+1,cs=>if sz≤cs.length then match SG X H t (cs.take sz),nU H t sz n (cs.drop sz) with
  | some (a,is),some (l,js)=>some (a::l,is++js)
  | _,_=>none
  else none
def pJ {Γ:Nat→Type} (t t':Nat) (l:List (Γ t')):Option (List (Γ t)):=
 if h:t'=t then some (h▸l) else none
def nV (H:List (PB X.Γ)) (e sz:Nat):PV X.Γ→Option (List (X.Γ e)×List Nat)
 | .nil .slc=>some ([],[])
 | .lst t l _=>(pJ e t l).map fun l=>(l,[])
 | .own i=>match H[i]? with
  | some (.list _ _ t l)=>(pJ e t l).map fun l=>(l,[])
  | _=>none
 | .win i o n=>match H[i]? with
  | some (.list _ _ t l)=>(pJ e t l).map fun l=>((l.drop o).take n,[])
  | _=>none
 | .slc b off len _ sz' _=>match H[b]? with
  | some (.cells cs)=>if sz'=sz∧off+len*sz≤cs.length then nU X H e sz len (cs.drop off) else none
  | _=>none
 | _=>none
def nX (P:Program) (t:TypeId) (s:aP X.Γ):PE X.Γ→Option (PV X.Γ×Inf)
 | .loc k off=>match s.loc[k]? with
  | some cs=>(uO P t cs off).map fun v=>(v,lu (.l k))
  | none=>none
 | .val (.ptr b off lim)=>match s.heap[b]?,sizeT P t with
  | some (.cells cs),some n=>if off+n≤lim then (uO P t cs off).map fun v=>(v,lu (.h b)) else none
  | some (.eu cs),some n=>if off+n≤lim then (uO P t cs off).map fun v=>(v,aA) else none
  | _,_=>none
 | .val (.row b j off)=>match s.heap[b]? with
  | some (.list _ _ e l)=>(uO P t (X.enc e (l.getD j (X.d0 e))) off).map fun v=>(v,lu (.h b))
  | _=>none
 | .val (.el e a off)=>(uO P t (X.enc e a) off).map fun v=>(v,aA)
 | _=>none
def EL (P:Program) (t:TypeId) (s:aP X.Γ) (a:PE X.Γ) (v:PV X.Γ):Option (aP X.Γ×Inf):=
 match sizeT P t with
 | some n=>
  if v.cells.length=n∧v.cells.all IV=true then
   match a with
   | .loc k off=>match s.loc[k]? with
    | some cs=>(AQ cs off v.cells).map fun cs'=>({ s with loc:=s.loc.set k cs' },jO (.l k))
    | none=>none
   | .val (.ptr b off lim)=>if off+n≤lim then (match s.heap[b]? with
    | some (.cells cs)=>(AQ cs off v.cells).map fun cs'=>({ s with heap:=s.heap.set b (.cells cs') },jO (.h b))
    | _=>none) else none
   | .val (.row b j off)=>match s.heap[b]? with
    | some (.list k ex e l)=>match AQ (X.enc e (l.getD j (X.d0 e))) off v.cells with
     | some cs=>match SG X s.heap e cs with
      | some (x,is)=>if is.contains b then none else some ({ s with heap:=aI is (s.heap.set b (.list k ex e (l.set j x))) },jO (.h b))
      | none=>none
     | none=>none
    | _=>none
   | _=>none
  else none
 | none=>none
def Yw:PE X.Γ→aP X.Γ→Option Nat
 | .val (.el e a _),_=>some (X.enc e a).length
 | .val (.row b j _),s=>match s.heap[b]? with
  | some (.list _ _ e l)=>some (X.enc e (l.getD j (X.d0 e))).length
  | _=>none
 | _,_=>none
def uQ (s:aP X.Γ) (o:Nat):PE X.Γ→Option (PE X.Γ)
 | .loc k off=>some (.loc k (off+o))
 | .val (.ptr b off lim)=>match s.heap[b]? with
  | some (.cells _)=>if off+o≤lim then some (.val (.ptr b (off+o) lim)) else none
  | some (.eu _)=>if off+o≤lim then some (.val (.ptr b (off+o) lim)) else none
  | _=>none
 | .val (.el e a off)=>if off+o≤(X.enc e a).length then some (.val (.el e a (off+o))) else none
 | .val (.row b j off)=>match Yw X (.val (.row b j off)) s with
  | some n=>if off+o≤n then some (.val (.row b j (off+o))) else none
  | none=>none
 | _=>none
def zl (i:Int) (n:Nat):Prop:=0≤i∧i<(n:Int)
def Nc (n:Nat):PV X.Γ→Option Nat
 | .int _ i=>if 0≤i∧i<n then some i.toNat else none
 | _=>none
def tV (P:Program) (t:TypeId) (s:aP X.Γ) (x:PE X.Γ) (i:PV X.Γ):Option (PE X.Γ×List Prop):=
 match P.underlying t with
 | some (.slice e)=>match sizeT P e,x,i with
  | some n,.val (.lst t' l _),.int _ iv=>if t'=e then some (.val (.el t' (l.getD iv.toNat (X.d0 t')) 0),[zl iv l.length]) else none
  | some n,.val (.own b),.int _ iv=>match s.heap[b]? with
   | some (.list _ _ t' l)=>if t'=e then some (.val (.row b iv.toNat 0),[zl iv l.length]) else none
   | _=>none
  | some n,.val (.win b o m),.int _ iv=>match s.heap[b]? with
   | some (.list _ _ t' l)=>if t'=e then some (.val (.row b (o+iv.toNat) 0),[zl iv m]) else none
   | _=>none
  | some n,.val (.slc b off len cap sz _),i=>match s.heap[b]? with
   | some (.cells _)=>if n=sz then (Nc X len i).map fun j=>(.val (.ptr b (off+j*n) (off+cap*n)),[]) else none
   | _=>none
  | _,_,_=>none
 | some (.array len e)=>match sizeT P e with
  | some n=>match Nc X len i with
   | some j=>(uQ X s (j*n) x).map fun a=>(a,[])
   | none=>none
  | none=>none
 | _=>none
def VE (P:Program) (at_:Array TypeId) (H:List (PB X.Γ)) (x:PV X.Γ):Option (PV X.Γ×Inf):=
 match at_[0]? with
 | some t=>match P.underlying t,x with
  | some .string,.str s=>some (.int .i64 s.size,aA)
  | some (.array n _),_=>some (.int .i64 n,aA)
  | some (.slice _),.slc b _ len _ _ _=>match H[b]? with
   | some (.cells _)=>some (.int .i64 len,aA)
   | _=>none
  | some (.slice _),.nil .slc=>some (.int .i64 0,aA)
  | some (.slice _),.lst _ l _=>some (.int .i64 (l.length:Nat),aA)
  | some (.slice _),.own b=>match H[b]? with
   | some (.list _ _ _ l)=>some (.int .i64 (l.length:Nat),aA)
   | _=>none
  | some (.slice _),.win b _ n=>match H[b]? with
   | some (.list _ _ _ _)=>some (.int .i64 n,aA)
   | _=>none
  | some (.map _ _),.nil .map=>some (.int .i64 0,aA)
  | some (.map _ _),.map r=>match H[r]? with
   | some (.map es)=>some (.int .i64 es.length,lu (.h r))
   | _=>none
  | _,_=>none
 | none=>none
def most:Nat:=2^20
def pK:PV X.Γ→List Key
 | .slc b _ _ _ _ _=>[.h b]
 | .own b=>[.h b]
 | .win b _ _=>[.h b]
 | _=>[]
def EM (P:Program) (at_:Array TypeId) (H:List (PB X.Γ)) (d x:PV X.Γ):Option (PV X.Γ×List (PB X.Γ)×Inf×List Prop):=
 match at_[0]?,at_[1]? with
 | some st,some xt=>
  if Eo P xt||(P.underlying xt).isNone then none else
  match dY P st with
  | some (e,size)=>if jD P e most then match nV X H e size x with
   | some (rows,is)=>match d with
    | .nil .slc=>some (.own H.length,aI is H++[.list true false e rows],bT (pK X x),[rows.length≤most])
    | .own b=>match H[b]? with
     | some (.list k ex t l)=>if is.contains b then none else match pJ e t l with
      | some l=>some (.own H.length,aI (b::is) H++[.list (k&&ex) false e (l++rows)],⟨false,.h b::pK X x,[.h b]⟩,[l.length+rows.length≤most])
      | none=>none
     | _=>none
    | .lst t l true=>match pJ e t l with
     | some l=>some (.own H.length,aI is H++[.list true false e (l++rows)],bT (pK X x),[l.length+rows.length≤most,l=[]∨rows≠[]])
     | none=>none
    | _=>none
   | none=>none
   else none
  | none=>none
 | _,_=>none
def AV {α:Type} (l:List α) (o k:Nat) (rows:List α):List α:=l.take o++rows.take k++l.drop (o+k)
def encs (e:Nat):List (X.Γ e)→List (PV X.Γ)
 | []=>[]
 | a::l=>X.enc e a++encs e l
def OW (P:Program) (at_:Array TypeId) (H:List (PB X.Γ)) (d x:PV X.Γ):Option (PV X.Γ×List (PB X.Γ)×Inf):=
 match at_[0]? with
 | some st=>match dY P st with
  | some (e,size)=>match nV X H e size x with
   | some (rows,[])=>match d with
    | .nil .slc=>some (.int .i64 0,H,bT (pK X x))
    | .own b=>match H[b]? with
     | some (.list k ex t l)=>match pJ e t l with
      | some l=>some (.int .i64 ((min rows.length l.length:Nat):Int),H.set b (.list k ex e (AV l 0 (min rows.length l.length) rows)),⟨false,.h b::pK X x,[.h b]⟩)
      | none=>none
     | _=>none
    | .win b o n=>match H[b]? with
     | some (.list k ex t l)=>match pJ e t l with
      | some l=>some (.int .i64 ((min rows.length n:Nat):Int),H.set b (.list k ex e (AV l o (min rows.length n) rows)),⟨false,.h b::pK X x,[.h b]⟩)
      | none=>none
     | _=>none
    | .slc b off len _ sz _=>match H[b]? with
     | some (.cells cs)=>if sz=size∧0<min rows.length len then (AQ cs off ((encs X e rows).take (min rows.length len*size))).map fun cs'=>(.int .i64 ((min rows.length len:Nat):Int),H.set b (.cells cs'),⟨false,.h b::pK X x,[.h b]⟩) else none
     | _=>none
    | _=>none
   | _=>none
  | none=>none
 | none=>none
def pO (P:Program) (t:TypeId) (len:Nat) (H:List (PB X.Γ)) (ps:List (Nat×PV X.Γ)):Option (PV X.Γ×List (PB X.Γ)):=
 match dY P t with
 | some (e,n)=>if len*n≤2^24∧ps.all (fun p=>p.2.cells.all IV)=true then
   match DI P e with
   | some z=>if z.length=n then
     match AU (fun i=>some (i*n,n)) (IZ z len) ps with
     | some cs=>match nU X H e n len cs with
      | some (rows,is)=>some (.own H.length,aI is H++[.list true true e rows])
      | none=>some (.slc H.length 0 len len n true,H++[.cells cs])
     | none=>none
    else none
   | none=>none
  else none
 | none=>none
def tX (P:Program) (t:TypeId) (H:List (PB X.Γ)) (l c:PV X.Γ):Option (PV X.Γ×List (PB X.Γ)×List Prop):=
 match dY P t,l,c with
 | some (e,n),.int _ l,.int _ c=>if jD P e most then
   match DI P e with
   | some z=>if z.length=n then
     match X.dec e z with
     | some a=>some (.own H.length,H++[.list true true e (List.replicate l.toNat a)],[l=c,0≤l,l≤most])
     | none=>none
    else none
   | none=>none
  else none
 | _,_,_=>none
def endP (d:Nat):Option (PV X.Γ)→Option Int
 | none=>some d
 | some (.int _ i)=>some i
 | some _=>none
def J4 (P:Program) (t:TypeId) (H:List (PB X.Γ)) (x:PV X.Γ) (lo hi mx:Option (PV X.Γ)):Option (PV X.Γ×List Prop):=
 match P.underlying t,x with
 | some (.slice e),.lst t' l _=>match sizeT P e,endP X 0 lo,endP X l.length hi,mx with
  | some _,some a,some b,none=>if t'=e then some (.lst t' ((l.take b.toNat).drop a.toNat) false,[0≤a,a≤b,b≤l.length]) else none
  | some _,some a,some b,some (.int _ m)=>if t'=e∧hi.isSome then some (.lst t' ((l.take b.toNat).drop a.toNat) true,[0≤a,a≤b,b≤l.length,m=b,a=b]) else none
  | _,_,_,_=>none
 | some (.slice e),.own i=>match H[i]? with
  | some (.list _ _ t' l)=>match sizeT P e,endP X 0 lo,endP X l.length hi,mx with
   | some _,some a,some b,none=>if t'=e then some (.win i a.toNat (b.toNat-a.toNat),[0≤a,a≤b,b≤l.length]) else none
   | some _,some a,some b,some (.int _ m)=>if t'=e∧hi.isSome then some (.win i a.toNat (b.toNat-a.toNat),[0≤a,a≤b,b≤l.length,m=b,a=b]) else none
   | _,_,_,_=>none
  | _=>none
 | some (.slice e),.nil .slc=>match sizeT P e,endP X 0 lo,endP X 0 hi,mx with
  | some _,some a,some b,none=>some (.nil .slc,[a=0,b=0])
  | some _,some a,some b,some (.int _ m)=>if hi.isSome then some (.nil .slc,[a=0,b=0,m=0]) else none
  | _,_,_,_=>none
 | _,_=>none
def wY (P:Program) (t:TypeId) (H:List (PB X.Γ)) (x:PE X.Γ) (lo hi mx:Option (PV X.Γ)):Option (PV X.Γ×List (PB X.Γ)×List Prop):=
 match P.underlying t,x with
 | some (.array n e),.val (.ptr b off lim)=>match sizeT P e with
  | some size=>
   if size=0∨lim<off+n*size∨2^24<n then none else
   match mx with
   | some _=>none
   | none=>match lo,hi with
    | none,none=>match H[b]? with
     | some (.cells _)=>some (.slc b off n n size true,H,[])
     | _=>none
    | lo,hi=>match H[b]?,endP X 0 lo,endP X n hi with
     | some (.cells cs),some a,some z=>if cs.length<off+n*size then none else match nU X H e size n (cs.drop off) with
      | some (rows,is)=>some (.lst e ((rows.take z.toNat).drop a.toNat) false,aI (b::is) H,[0≤a,a≤z,z≤n])
      | none=>none
     | _,_,_=>none
  | none=>none
 | _,_=>none
def tY (P:Program) (t:TypeId) (H:List (PB X.Γ)) (x:PE X.Γ) (lo hi:Option (PV X.Γ)):Option (PV X.Γ):=
 match P.underlying t,x with
 | some (.array n e),.val (.ptr b off lim)=>match sizeT P e,H[b]?,endP X 0 lo,endP X n hi with
  | some size,some (.cells _),some a,some z=>if size=0∨lim<off+n*size∨2^24<n then none else if 0≤a∧a≤z∧z≤n then some (.slc b (off+a.toNat*size) (z.toNat-a.toNat) (n-a.toNat) size true) else none
  | _,_,_,_=>none
 | _,_=>none
def KO (P:Program) (t:TypeId) (x y:PV X.Γ):Bool:=
 let UN:PV X.Γ→Option NK
  | .fn _ _ _=>some .fn
  | .el _ _ _=>some .ptr
  | _=>none
 let Yx:PV X.Γ→Option NK
  | .nil k=>some k
  | _=>none
 match y8 P t with
 | some k=>(Yx x==some k&&UN y==some k)||(UN x==some k&&Yx y==some k)
 | none=>false
def VF (P:Program) (op:BinOp) (t:TypeId) (x y:Operand) (a b:PV X.Γ):Option (PV X.Γ):=
 match pI a,pI b with
 | some u,some v=>match jo P op t x y u v with
  | some r=>Na r
  | none=>none
 | _,_=>if KO X P t a b then (match op with
  | .eql=>some (.bool false)
  | .neq=>some (.bool true)
  | _=>none) else none
def zn (P:Program) (op:BinOp) (t:TypeId) (b:PV X.Γ) (q:Prop):Option (PV X.Γ×Prop):=
 match b,y8 P t with
 | .nil .slc,some .slc=>match op with
  | .eql=>some (.bool false,q)
  | .neq=>some (.bool true,q)
  | _=>none
 | _,_=>none
def EO (P:Program) (op:BinOp) (t:TypeId) (H:List (PB X.Γ)) (a b:PV X.Γ):Option (PV X.Γ×Prop):=
 match a with
 | .lst _ l _=>zn X P op t b (l≠[])
 | .own i=>match H[i]? with
  | some (.list _ _ _ l)=>zn X P op t b (l≠[])
  | _=>none
 | _=>none
def pun (P:Program) (op:UnOp) (a:PV X.Γ):Option (PV X.Γ):=
 match pI a with
 | some u=>match XC P op u with
  | some r=>Na r
  | none=>none
 | none=>none
def OX (P:Program) (src dst:TypeId) (a:PV X.Γ):Option (PV X.Γ):=
 match pI a with
 | some u=>match zN P src dst u with
  | some r=>Na r
  | none=>none
 | none=>match P.underlying src,P.underlying dst,a with
  | _,_,_=>none
def zo (P:Program) (mx:Bool) (at_:Array TypeId) (t:TypeId) (az:List (PV X.Γ)):Option (PV X.Γ):=
 match N9 az with
 | some us=>match qM P mx at_ t us with
  | some r=>Na r
  | none=>none
 | none=>none
def J5 (P:Program) (t:TypeId) (x:PV X.Γ) (i:Nat):Option (PV X.Γ):=
 match P.underlying t,x with
 | some (.struct fs),.agg cs=>match fs[i]? with
  | some f=>uO P f.type cs f.offset
  | none=>none
 | _,_=>none
def J6 (P:Program) (t:TypeId) (x i:PV X.Γ):Option (PV X.Γ):=
 match P.underlying t,x with
 | some (.array len e),.agg cs=>match sizeT P e,Nc X len i with
  | some n,some j=>uO P e cs (j*n)
  | _,_=>none
 | _,_=>none
def lK:List (PV X.Γ×PV X.Γ)→Option (List TV)
 | []=>some []
 | (k,_)::r=>match pI k,lK r with
  | some v,some vs=>some (v::vs)
  | _,_=>none
def lM (P:Program) (kt:TypeId) (k:Value) (ks:List TV):Option (Option Nat):=
 match oK ks with
 | some ks=>match au P (do Instr.checkKey ks.isEmpty 10000 kt k;Instr.findKey kt k (ks.map fun x=>⟨x,.bool false,0⟩)) with
  | some r=>if FK P kt k ks (r.map (·.1)) then some (r.map (·.1)) else none
  | none=>none
 | none=>none
end
end Pv
namespace Tw
open Go
section
variable {P:Program}
abbrev UO (h:List HB):St:=⟨[],[],h,[]⟩
end
end Tw
namespace Tw
open Go
inductive Ans where
 | br (b:Bool)
 | dyn
 | calm
 | fa
 | bx
 | ev (v:EV) (i:Inf)
 | ld (v:TV)
 | st (h:List HB) (ws:List Nat)
 | ix (j:Nat)
 | pt (b off lim:Nat)
 | up (h:List HB) (ws:List Nat)
 | hp (v:TV) (h:List HB) (i:Inf) (ws:List Nat)
 | rd (v:TV)
 | mem (v:EV) (h:List HB) (i:Inf) (ws:List Nat)
 | call (v:TV) (h:List HB) (ws ws':List Nat)
 | loop (e:Ex) (s:St)
def Yy (agg:Bool) (n:Nat) (h:List HB) (b off lim:Nat):Option TV:=
 match gq h b lim with
 | some cs=>if off+n≤lim then (if agg then (sub cs off n).map .agg else if n=1 then cs[off]? else none) else none
 | none=>none
def Gl:List Prop→Prop
 | []=>True
 | p::ps=>p∧Gl ps
theorem Gl.app:∀ {p q:List Prop},Gl (p++q)→Gl p∧Gl q
 | [],_,h=>⟨trivial,h⟩
 | _::_,_,h=>⟨⟨h.1,(Gl.app h.2).1⟩,(Gl.app h.2).2⟩
end Tw
namespace Tw
open Go
def jF:Code→List Code
 | .seq a b=>jF a++jF b
 | .cond _ a b=>jF a++jF b
 | .block _ b=>jF b
 | .loop b=>b::jF b
 | .scope b=>jF b
 | .rangeFunc _ _ a b=>jF a++jF b
 | _=>[]
def OY (P:Program) (f k:Nat):Code:=
 match CS P f with
 | some t=>(jF t.body).getD k .skip
 | none=>.skip
def a2t (P:Program) (f:Nat):Nat:=
 match CS P f with
 | some t=>t.nt
 | none=>0
section
variable (P:Program) (T:Tab) (call:ay) (L f k:Nat) (fl:Nat)
def VG (s:St):St:=dh (T.bY f (bH (OY P f k))) s
def rounds (m:Nat) (s:St):Option (Ex×St):=
 iter (fun s=>exec P T call L f false fl (a2t P f) (OY P f k) (VG P T f k s)) m s
end
end Tw
namespace Tw
open Go
inductive Fs (call:ay) (fl:Nat):List Ans→List Prop→Prop where
 | n:Fs call fl [] []
 | a {az:List Ans} {ps:List Prop} (x:Ans) (r:Fs call fl az ps):Fs call fl (x::az) ps
 | o {az:List Ans} {ps:List Prop} {p:Prop} (h:p) (r:Fs call fl az ps):Fs call fl az (p::ps)
namespace Fs
variable {call:ay} {fl:Nat} {az:List Ans} {ps:List Prop}
theorem all (h:Fs call fl az ps):Gl ps:=by
 induction h with
 | n=>trivial
 | a _ _ ih=>exact ih
 | o h _ ih=>exact⟨h,ih⟩
theorem b {c b:Bool} (h:c=b) (r:Fs call fl az ps):Fs call fl (.br b::az) ((c=b)::ps):=.a _ (.o h r)
theorem b2 {c b:Bool} (h:c=b) (r:Fs call fl az ps):Fs call fl (.br b::.br b::az) ((c=b)::(c=b)::ps):=.b h (.b h r)
theorem b3 {c b:Bool} (h:c=b) (r:Fs call fl az ps):Fs call fl (.br b::.br b::.br b::az) ((c=b)::(c=b)::(c=b)::ps):=.b h (.b2 h r)
theorem b4 {c b:Bool} (h:c=b) (r:Fs call fl az ps):Fs call fl (.br b::.br b::.br b::.br b::az) ((c=b)::(c=b)::(c=b)::(c=b)::ps):=.b2 h (.b2 h r)
theorem c {fv:TV} {xs:List TV} {h h':List HB} {v:TV} (e:call fv xs h=some (v,h',[])) (r:Fs call fl az ps):Fs call fl (.call v h' [] []::az) ((call fv xs h=some (v,h',[]))::(bU fl [] []=[])::ps):=.a _ (.o e (.o rfl r))
theorem l {g:Bool} {k:Nat} {h:List HB} {b off lim:Nat} {v:TV} (e:Yy g k h b off lim=some v) (r:Fs call fl az ps):Fs call fl (.ld v::az) ((Yy g k h b off lim=some v)::ps):=.a _ (.o e r)
theorem i {len:Nat} {iv:TV} {j:Nat} (e:idx len iv=some j) (r:Fs call fl az ps):Fs call fl (.ix j::az) ((idx len iv=some j)::ps):=.a _ (.o e r)
theorem p {P:Program} {t:TypeId} {xv iv:TV} {b off lim:Nat} (e:dJ P t (.val xv) iv=some (.val (.ptr b off lim))) (r:Fs call fl az ps):Fs call fl (.pt b off lim::az) ((dJ P t (.val xv) iv=some (.val (.ptr b off lim)))::ps):=.a _ (.o e r)
theorem r {X:Option TV} {v:TV} (e:X=some v) (r:Fs call fl az ps):Fs call fl (.rd v::az) ((X=some v)::ps):=.a _ (.o e r)
theorem k {X:Option (TV×Inf)} {v:TV} (e:X=some (v,aA)) (r:Fs call fl az ps):Fs call fl (.rd v::az) ((X=some (v,aA))::ps):=.a _ (.o e r)
theorem w {P:Program} {T:Tab} {L f k m:Nat} {q:St} {x:Ex} {s:St} (e:rounds P T call L f k fl m q=some (x,s)) (r:Fs call fl az ps):Fs call fl (.loop x s::az) ((rounds P T call L f k fl m q=some (x,s))::ps):=.a _ (.o e r)
theorem v {X:Option (Ex×St)} {x:Ex} {s:St} (e:X=some (x,s)) (r:Fs call fl az ps):Fs call fl (.loop x s::az) ((X=some (x,s))::ps):=.a _ (.o e r)
theorem g {P:Program} {at_:Array TypeId} {h h':List HB} {d x v:TV} {i:Inf} (e:dN P at_ (UO h) d x=some (v,UO h',i)) {ws ws':List Nat} (k:bU fl i.ws ws=ws') (r:Fs call fl az ps):Fs call fl (.hp v h' i ws'::az) ((dN P at_ (UO h) d x=some (v,UO h',i))::(bU fl i.ws ws=ws')::ps):=.a _ (.o e (.o k r))
theorem u {P:Program} {t:TypeId} {h h':List HB} {m:Nat} {k v:TV} (e:iV P t (UO h) (.map m) k v=some (UO h',jO (.h m))) {ws ws':List Nat} (q:ug fl m ws=ws') (r:Fs call fl az ps):Fs call fl (.up h' ws'::az) ((iV P t (UO h) (.map m) k v=some (UO h',jO (.h m)))::(ug fl m ws=ws')::ps):=.a _ (.o e (.o q r))
theorem f {p:Prop} (e:p) (r:Fs call fl az ps):Fs call fl (.fa::az) (p::ps):=.a _ (.o e r)
theorem x {p:Prop} (e:p) (r:Fs call fl az ps):Fs call fl (.bx::az) (p::ps):=.a _ (.o e r)
theorem d {p:Prop} (e:p) (r:Fs call fl az ps):Fs call fl (.dyn::az) (p::ps):=.a _ (.o e r)
theorem m {p:Prop} (e:p) (r:Fs call fl az ps):Fs call fl (.calm::az) (p::ps):=.a _ (.o e r)
end Fs
end Tw
namespace Tw
open Go
abbrev u8 (n:Int):TV:=.int .u8 n
abbrev Yz (k:IntKind) (x y:Int):Int:=k.wrap (x.tdiv y)
abbrev YA (_k:IntKind) (x y:Int):Int:=x.tmod y
abbrev YB (k:IntKind) (x y:Int):Int:=k.wrap (x*2^(min y.toNat k.bits))
abbrev VH (k:IntKind) (x y:Int):Int:=x.fdiv (2^(min y.toNat k.bits))
theorem zq {g:St→Option (Ex×St)}:∀ {m L:Nat} {s:St} {r:Ex×St},iter g m s=some r→m≤L→iter g L s=some r
 | 0,_,_,_,h,_=>by simp[iter] at h
 | m+1,L,s,r,h,hl=>by
  obtain⟨L,rfl⟩:∃ k,L=k+1:=⟨L-1,by omega⟩
  unfold iter at h ⊢
  split at h
  ·exact zq h (by omega)
  ·exact h
end Tw

namespace Tw
open Go
section
variable {P:Program}
theorem lN (d:Nat) (t:TypeId) (xs ys:Array Value) (fs:Array Field) (ht:P.underlying t=some (.struct fs)) (hp:P.stoodInHeld t=false) :
  au P (Op.equalIn (d+1) t (.agg xs) (.agg ys))=au P (Op.eqFields d xs ys fs.toList):=by
 have hu:au P (underlying t)=some (.struct fs):=by
  simp only[underlying,aQ]
  have:au P program=some P:=rfl
  simp[this,ht,au]
  rfl
 simp only[Op.equalIn,aQ,hu,Option.bind_some,show au P program=some P from rfl,hp,Bool.false_eq_true,if_false]
 rw[←Array.forIn_toList]
 generalize fs.toList=fs
 clear ht hu
 induction fs with
 | nil=>simp[Op.eqFields,au,aQ];rfl
 | cons f fs ih=>
  simp only[List.forIn_cons,Op.eqFields,aQ] at ih ⊢
  split
  ·simp only[aQ]
   generalize au P (part f.type xs f.offset)=r1
   cases r1 with
   | none=>simp
   | some a=>
    simp only[Option.bind_some]
    generalize au P (part f.type ys f.offset)=r2
    cases r2 with
    | none=>simp
    | some b=>
     simp only[Option.bind_some]
     generalize au P (Op.equalIn d f.type a b)=r3
     cases r3 with
     | none=>simp
     | some r=>
      cases r with
      | false=>simp only[Option.bind_some,Bool.not_false,if_true];rfl
      | true=>simp only[Option.bind_some,Bool.not_true,Bool.false_eq_true,if_false];exact ih
  ·exact ih
theorem kS (d:Nat) (t:TypeId) (k k':IntKind) (a b:Int) (h:P.underlying t=some (.int k')):au P (Op.equalIn (d+1) t (.int k a) (.int k b))=some (a==b):=by
 have hu:au P (underlying t)=some (.int k'):=by
  simp only[underlying,aQ,show au P program=some P from rfl,Option.bind_some,h]
  rfl
 simp only[Op.equalIn,aQ,hu,Option.bind_some,if_true]
 rfl
theorem ig {d : Nat} {xs ys : Array Value} {f : Field} {fs : List Field} {a b : Value} {r : Bool} (hn : f.name ≠ "_") (ha : au P (part f.type xs f.offset) = some a) (hb : au P (part f.type ys f.offset) = some b)
  (hr:au P (Op.equalIn d f.type a b)=some r):au P (Op.eqFields d xs ys (f::fs))=if r=true then au P (Op.eqFields d xs ys fs) else some false:=by
 simp only[Op.eqFields]
 rw[if_pos hn]
 simp only[aQ,ha,hb,hr,Option.bind_some]
 cases r with
 | true=>rfl
 | false=>rfl
theorem EP {t:TypeId} {x y:Operand} {xs ys:List TV} {us vs:List Value} {r:Bool} (hx:TV.Ia xs=some us) (hy:TV.Ia ys=some vs) (hg:P.eqGuardType P.depth t=false)
  {d:Nat} (hd:d=10000) (h:au P (Op.equalIn d t (.agg us.toArray) (.agg vs.toArray))=some r):jo P .eql t x y (.agg xs) (.agg ys)=some (.bool r)∧jo P .neq t x y (.agg xs) (.agg ys)=some (.bool (!r)):=by
 subst hd
 constructor
 all_goals
  simp only[jo,TV.oJ,hx,hy,Option.map_some]
  simp only[eqGuard,binOp,Op.equal,Op.maxDepth,aQ,show au P program=some P from rfl,hg,Option.bind_some,Bool.not_true,Bool.not_false,Bool.false_eq_true,if_false,if_true,h]
  rfl
theorem OZ {t:TypeId} {x y:Operand} {k k':IntKind} {a b:Int} (h:0≤b):jo P .shl t x y (.int k a) (.int k' b)=some (.int k (YB k a b)):=by
 simp only[jo,TV.oJ,TV.toC,eqGuard,binOp,Op.shift]
 rw[if_neg (show ¬b<0 by omega)]
 rfl
theorem P5 {t:TypeId} {x y:Operand} {k k':IntKind} {a b:Int} (h:0≤b):jo P .shr t x y (.int k a) (.int k' b)=some (.int k (VH k a b)):=by
 simp only[jo,TV.oJ,TV.toC,eqGuard,binOp,Op.shift]
 rw[if_neg (show ¬b<0 by omega)]
 rfl
theorem P6 {t:TypeId} {x y:Operand} {k:IntKind} {a b:Int} (h:b≠0):jo P .quo t x y (.int k a) (.int k b)=some (.int k (Yz k a b)):=by
 simp only[jo,TV.oJ,TV.toC,eqGuard,binOp,Op.intDiv]
 rw[if_neg h]
 cases k<;>rfl
theorem P7 {t:TypeId} {x y:Operand} {k:IntKind} {a b:Int} (h:b≠0):jo P .rem t x y (.int k a) (.int k b)=some (.int k (YA k a b)):=by
 simp only[jo,TV.oJ,TV.toC,eqGuard,binOp,Op.intDiv]
 rw[if_neg h]
 cases k<;>rfl
end
end Tw
namespace Pv
open Go Tw
def kT:List Nat→Nat→Option Nat
 | [],_=>none
 | a::l,i=>if a=i then some 0 else (kT l i).map (·+1)
inductive G where
 | lit
 | J7 (t e:Nat)
 | YC (k off e:Nat)
 | YD (i off e:Nat)
 | flag (i:Nat)
 | gc (ks:List Nat)
 | mv (i:Nat)
section
variable {Γ:Nat→Type}
def bG (g:Nat→Option Nat):PV Γ→Option (PV Γ)
 | .ptr b off lim=>(g b).map fun b=>.ptr b off lim
 | .slc b off len cap sz ex=>(g b).map fun b=>.slc b off len cap sz ex
 | .own b=>(g b).map .own
 | .win b o n=>(g b).map fun b=>.win b o n
 | .map r=>(g r).map .map
 | .iter r=>(g r).map .iter
 | .fn f a c=>match iC g a,iC g c with
  | some a,some c=>some (.fn f a c)
  | _,_=>none
 | .iF l=>(g l).map .iF
 | .agg cs=>(iC g cs).map .agg
 | .bf cs=>(iC g cs).map .bf
 | .row b j off=>(g b).map fun b=>.row b j off
 | .bool b=>some (.bool b)
 | .lit b=>some (.lit b)
 | .int k n=>some (.int k n)
 | .str s=>some (.str s)
 | .nil k=>some (.nil k)
 | .lst t l f=>some (.lst t l f)
 | .el t a off=>some (.el t a off)
where
 iC (g:Nat→Option Nat):List (PV Γ)→Option (List (PV Γ))
 | []=>some []
 | c::cs=>match bG g c,iC g cs with
  | some v,some vs=>some (v::vs)
  | _,_=>none
def J8 (g:Nat→Option Nat):PE Γ→Option (PE Γ)
 | .val v=>(bG g v).map .val
 | e=>some e
def iQ (g:Nat→Option Nat):List (Nat×PE Γ)→Option (List (Nat×PE Γ))
 | []=>some []
 | (k,v)::r=>match J8 g v,iQ g r with
  | some v,some r=>some ((k,v)::r)
  | _,_=>none
def Gm (g:Nat→Option Nat):List (List (PV Γ))→Option (List (List (PV Γ)))
 | []=>some []
 | l::r=>match bG.iC g l,Gm g r with
  | some l,some r=>some (l::r)
  | _,_=>none
def mQ (g:Nat→Option Nat):PB Γ→Option (PB Γ)
 | .cells cs=>(bG.iC g cs).map .cells
 | .eu cs=>(bG.iC g cs).map .eu
 | .map es=>some (.map es)
 | .aV r n seen=>(g r).map fun r=>.aV r n seen
 | .loop rd f nt env ps a b pend=>(iQ g env).map fun env=>.loop rd f nt env ps a b pend
 | b=>some b
def gJ (g:Nat→Option Nat):List (PB Γ)→Option (List (PB Γ))
 | []=>some []
 | b::r=>match mQ g b,gJ g r with
  | some b,some r=>some (b::r)
  | _,_=>none
def pR (H:List (PB Γ)):List Nat→Option (List (PB Γ))
 | []=>some []
 | i::is=>match H[i]?,pR H is with
  | some b,some r=>some (b::r)
  | _,_=>none
def SH:List (Nat×PE Γ)→List (Nat×PE Γ)
 | []=>[]
 | (k,.val v)::r=>(k,.val (KL v))::SH r
 | x::r=>x::SH r
def J7 (t i:Nat):List (Nat×PE Γ)→Option (List (Nat×PE Γ))
 | []=>none
 | (k,v)::r=>if k=t then (match v with
   | .val (.nil .slc)=>some ((k,.val (.own i))::r)
   | _=>none) else (J7 t i r).map ((k,v)::·)
def SI (off i:Nat) (cs:List (PV Γ)):Option (List (PV Γ)):=
 match cs[off]? with
 | some (.nil .slc)=>some (cs.set off (.own i))
 | _=>none
def pU (B:Nat) (s:aP Γ):G→Option (aP Γ)
 | .lit=>some { s with env:=SH s.env }
 | .J7 t e=>(J7 t s.heap.length s.env).map fun env=>{ s with env:=env,heap:=s.heap++[.list false false e []] }
 | .YC k off e=>match s.loc[k]? with
  | some cs=>(SI off s.heap.length cs).map fun cs=>{ s with loc:=s.loc.set k cs,heap:=s.heap++[.list false false e []] }
  | none=>none
 | .YD i off e=>match s.heap[i]? with
  | some (.cells cs)=>(SI off s.heap.length cs).map fun cs=>{ s with heap:=s.heap.set i (.cells cs)++[.list false false e []] }
  | _=>none
 | .flag i=>match s.heap[i]? with
  | some (.list _ _ t l)=>some { s with heap:=s.heap.set i (.list false false t l) }
  | _=>none
 | .gc ks=>if ks.all (fun k=>decide (B≤k))&&decide ks.Nodup&&decide (B≤s.heap.length) then
   let g:Nat→Option Nat:=fun i=>if i<B then some i else (kT ks i).map (·+B)
   match iQ g s.env,Gm g s.loc,gJ g (s.heap.take B),pR s.heap ks with
   | some env,some loc,some h1,some h2=>match gJ g h2 with
    | some h2=>some ⟨env,loc,h1++h2⟩
    | none=>none
   | _,_,_,_=>none
  else none
 | .mv i=>match s.heap[i]? with
  | some b=>
   let g:Nat→Option Nat:=fun j=>if j=i then some s.heap.length else if j<s.heap.length then some j else none
   match iQ g s.env,Gm g s.loc,gJ g (s.heap.set i .gone),mQ g b with
   | some env,some loc,some h1,some b1=>some ⟨env,loc,h1++[b1]⟩
   | _,_,_,_=>none
  | none=>none
def je (B:Nat):List G→aP Γ→Option (aP Γ)
 | [],s=>some s
 | g::gs,s=>match pU B s g with
  | some s=>je B gs s
  | none=>none
end
def a2u:BinOp→Bool
 | .quo | .rem | .shl | .shr=>true
 | _=>false
def VI {Γ:Nat→Type} (op:BinOp):PV Γ→PV Γ→Option (PV Γ×List Prop)
 | .int k x,.int k' y=>match op with
  | .quo=>if k'=k then some (.int k (Yz k x y),[y≠0]) else none
  | .rem=>if k'=k then some (.int k (YA k x y),[y≠0]) else none
  | .shl=>some (.int k (YB k x y),[0≤y])
  | .shr=>some (.int k (VH k x y),[0≤y])
  | _=>none
 | _,_=>none
def putAt {α:Type}:List Nat→List α→List α→List α
 | k::ks,b::bs,l=>putAt ks bs (l.set k b)
 | _,_,l=>l
def bk (ks:List Nat) (n:Nat):Nat→Option Nat:=fun j=>match ks[j]? with
 | some k=>some k
 | none=>some (n+(j-ks.length))
def XH {Γ:Nat→Type}:List Nat→List (PB Γ)→List (PB Γ)→Option (List (PB Γ)×List (PB Γ))
 | [],H,H1=>some (H,H1)
 | r::rs,H,H1=>match H[r]?,H1[r]? with
  | some (.cells a),some (.cells b)=>XH rs (H.set r (.eu a)) (H1.set r (.eu b))
  | some (.map a),some (.map b)=>XH rs (H.set r (.rP a)) (H1.set r (.rP b))
  | _,_=>none
def wZ {Γ:Nat→Type}:List (PB Γ)→Bool
 | []=>true
 | .eu _::_=>false
 | .rP _::_=>false
 | _::H=>wZ H
def Nh {α:Type} (rs:List Nat):Nat→List α→List α
 | _,[]=>[]
 | i,k::ks=>if rs.contains i then Nh rs (i+1) ks else k::Nh rs (i+1) ks
inductive PA (Γ:Nat→Type) where
 | br (b:Bool)
 | rd (v:TV)
 | ix (j:Nat)
 | no
 | call (v:PV Γ) (H:List (PB Γ))
 | fr (ks:List Nat) (v:PV Γ) (H:List (PB Γ))
 | frR (ks rs:List Nat) (v:PV Γ) (H:List (PB Γ))
 | loop (e:Ex) (s:aP Γ)
 | lg (gs:List G) (e:Ex) (s:aP Γ)
 | calm
inductive PT (Γ:Nat→Type) where
 | n
 | a (x:PA Γ) (r:PT Γ)
 | s (t e:PT Γ)
 | z (c:Bool) (t e:PT Γ)
 | l (m:Nat) (r:PT Γ)
inductive OT (ρ:Type) where
 | bad
 | ret (r:ρ)
 | o (p:Prop) (r:OT ρ)
 | br (c:Bool) (t e:OT ρ)
def OT.Ends {ρ:Type}:OT ρ→ρ→Prop
 | .bad,_=>False
 | .ret r,x=>r=x
 | .o p r,x=>p∧r.Ends x
 | .br c t e,x=>(c=true∧t.Ends x)∨(c=false∧e.Ends x)
def SK {ρ:Type}:List Prop→OT ρ→OT ρ
 | [],x=>x
 | p::ps,x=>.o p (SK ps x)
abbrev gK (Γ:Nat→Type):=FuncId→List (PV Γ)→Option (PV Γ×List (PB Γ)×List Prop)
structure PI where
 i:Inf
 wall:Bool
 mv:Bool
 hp:Bool
def mG:PI:=⟨aA,false,false,false⟩
def ES {Γ:Nat→Type}:PE Γ→Bool
 | .loc _ _=>true
 | _=>false
def jf {Γ:Nat→Type}:PB Γ→Bool
 | .gone=>true
 | _=>false
def mV {Γ:Nat→Type}:List (PB Γ)→List (PB Γ)→Bool
 | [],_=>true
 | b::H,b'::H'=>(jf b==jf b')&&mV H H'
 | _::_,[]=>false
def VJ {Γ:Nat→Type}:PV Γ→Bool
 | .agg _=>true
 | _=>false
def J9 {Γ:Nat→Type}:PV Γ→Bool
 | .str _=>true
 | _=>false
section
variable (X:gZ) (P:Program) (T:Tab) (jG:gK X.Γ) {ρ:Type}
def byB (u:PV X.Γ) (an:PT X.Γ) (k:Bool→PT X.Γ→OT ρ):OT ρ:=
 match u with
 | .lit t=>k t an
 | .bool u=>match an with
  | .s x y=>.br u (k true x) (k false y)
  | .a (.br t) r=>.o (u=t) (k t r)
  | _=>.bad
 | _=>.bad
def AX (H:List (PB X.Γ)) (r:Nat):Option (List (PV X.Γ×PV X.Γ)):=
 match H[r]? with
 | some (.map es)=>some es
 | some (.rP es)=>some es
 | _=>none
def P8 (H:List (PB X.Γ)):PV X.Γ→Option (List (PV X.Γ×PV X.Γ))
 | .nil .map=>some []
 | .map r=>AX X H r
 | _=>none
def DJ:PV X.Γ→List Key
 | .map r=>[.h r]
 | _=>[]
def VK (kt:TypeId) (es:List (PV X.Γ×PV X.Γ)) (tk:TV) (v:PV X.Γ):Prop:=∃ kv ks j k0,tk.oJ=some kv∧lK X es=some ks∧lM P kt kv ks=some (some j)∧es[j]? = some (k0,v)
def AY (kt:TypeId) (es:List (PV X.Γ×PV X.Γ)) (tk:TV):Prop:=∃ kv ks,tk.oJ=some kv∧lK X es=some ks∧lM P kt kv ks=some none
def YE (kt:TypeId) (es:List (PV X.Γ×PV X.Γ)) (tk:TV) (k v:PV X.Γ):Prop:=∃ kv ks j old ov,tk.oJ=some kv∧au P (Instr.checkKey false 10000 kt kv)=some ()∧lK X es=some ks∧lM P kt kv ks=some (some j)∧es[j]? = some (k,v)∧ks[j]? = some old∧old.oJ=some ov∧Instr.sameBits 10000 ov kv=true
def DK (e:TypeId):Option (PV X.Γ):=match P.info? e with
 | some i=>match i.zero with
  | some z=>match TV.FH z with
   | some z=>Na z
   | none=>none
  | none=>none
 | none=>none
def Ja (t:TypeId) (s:aP X.Γ) (m k:PV X.Γ) (ok:Bool) (an:PT X.Γ) (c:PE X.Γ→PI→PT X.Γ→OT ρ):OT ρ:=
 match P.underlying t,pI k,P8 X s.heap m with
 | some (.map kt e),some tk,some es=>match an with
  | .a (.call v _) r=>.o (VK X P kt es tk v) (c (.val (if ok then .bf [v,.bool true] else v)) ⟨bT (DJ X m),false,false,true⟩ r)
  | .a .calm r=>match DK X P e with
   | some z=>.o (AY X P kt es tk) (c (.val (if ok then .bf [z,.bool false] else z)) ⟨bT (DJ X m),false,false,true⟩ r)
   | none=>.bad
  | .a (.rd _) r=>match DK X P e with
   | some z=>.o (AY X P kt es tk) (c (.val (if ok then .bf [z,.bool false] else z)) ⟨bT (DJ X m),false,false,true⟩ r)
   | none=>.bad
  | an=>match tk.oJ,lK X es with
   | some kv,some ks=>match an with
    | .a (.ix j) r=>match es[j]? with
     | some (_,v)=>.o (lM P kt kv ks=some (some j)) (c (.val (if ok then .bf [v,.bool true] else v)) ⟨bT (DJ X m),false,false,true⟩ r)
     | none=>.bad
    | .a .no r=>match DK X P e with
     | some z=>.o (lM P kt kv ks=some none) (c (.val (if ok then .bf [z,.bool false] else z)) ⟨bT (DJ X m),false,false,true⟩ r)
     | none=>.bad
    | _=>.bad
   | _,_=>.bad
 | _,_,_=>.bad
def P9 (t:TypeId) (s:aP X.Γ) (m k v:PV X.Γ) (an:PT X.Γ) (c:aP X.Γ→PI→PT X.Γ→OT ρ):OT ρ:=
 match P.underlying t,pI k,m,pI v with
 | some (.map kt _),some tk,.map r,some _=>match s.heap[r]? with
  | some (.map es)=>match an with
   | .a .calm rest=>.o (∃ kv,tk.oJ=some kv∧au P (Instr.checkKey false 10000 kt kv)=some ()) (.o (AY X P kt es tk) (c { s with heap:=s.heap.set r (.map (es++[(k,v)])) } ⟨jO (.h r),false,false,true⟩ rest))
   | .a (.rd _) rest=>.o (∃ kv,tk.oJ=some kv∧au P (Instr.checkKey false 10000 kt kv)=some ()) (.o (AY X P kt es tk) (c { s with heap:=s.heap.set r (.map (es++[(k,v)])) } ⟨jO (.h r),false,false,true⟩ rest))
   | .a (.call _ _) rest=>.o (YE X P kt es tk k v) (c s ⟨jO (.h r),false,false,true⟩ rest)
   | an=>match tk.oJ,lK X es with
    | some kv,some ks=>match an with
     | .a (.ix j) rest=>match es[j]?,ks[j]? with
      | some _,some old=>match old.oJ with
       | some ov=>.o (au P (Instr.checkKey false 10000 kt kv)=some ()) (.o (lM P kt kv ks=some (some j)) (.o (Instr.sameBits 10000 ov kv=true) (c { s with heap:=s.heap.set r (.map (es.set j (k,v))) } ⟨jO (.h r),false,false,true⟩ rest)))
       | none=>.bad
      | _,_=>.bad
     | .a .no rest=>.o (au P (Instr.checkKey false 10000 kt kv)=some ()) (.o (lM P kt kv ks=some none) (c { s with heap:=s.heap.set r (.map (es++[(k,v)])) } ⟨jO (.h r),false,false,true⟩ rest))
     | _=>.bad
    | _,_=>.bad
  | _=>.bad
 | _,_,_,_=>.bad
abbrev Nj (Γ:Nat→Type):=PV Γ→List (PV Γ)→List (PB Γ)→PV Γ→List (PB Γ)→Prop
def Pg (DL:Nj X.Γ) (s:aP X.Γ) (fv:PV X.Γ) (xs:List (PV X.Γ)) (an:PT X.Γ) (k:PE X.Γ→aP X.Γ→PI→PT X.Γ→OT ρ):OT ρ:=
 match an with
 | .a (.call v H) r=>.o (DL fv xs s.heap v H) (k (.val v) { s with heap:=H } ⟨⟨true,[],[]⟩,true,false,true⟩ r)
 | .a (.fr ks v H) r=>match decide ks.Nodup&&wZ (H.drop ks.length),pR s.heap ks with
  | true,some Hp=>match gJ (kT ks) Hp,bG (kT ks) fv,bG.iC (kT ks) xs with
   | some Hs,some fv1,some xs1=>match bG (bk ks s.heap.length) v,gJ (bk ks s.heap.length) H with
    | some v1,some H1=>.o (DL fv1 xs1 Hs v H) (k (.val v1) { s with heap:=putAt ks H1 s.heap++H1.drop ks.length } ⟨⟨true,[],ks.map .h⟩,false,false,true⟩ r)
    | _,_=>.bad
   | _,_,_=>.bad
  | _,_=>.bad
 | .a (.frR ks rs v H) r=>match decide ks.Nodup&&wZ (H.drop ks.length),pR s.heap ks with
  | true,some Hp=>match gJ (kT ks) Hp,bG (kT ks) fv,bG.iC (kT ks) xs with
   | some Hs,some fv1,some xs1=>match bG (bk ks s.heap.length) v,gJ (bk ks s.heap.length) H,XH rs Hs H with
    | some v1,some H1,some (Hs',H')=>.o (DL fv1 xs1 Hs' v H') (k (.val v1) { s with heap:=putAt ks H1 s.heap++H1.drop ks.length } ⟨⟨true,[],(Nh rs 0 ks).map .h⟩,false,false,true⟩ r)
    | _,_,_=>.bad
   | _,_,_=>.bad
  | _,_=>.bad
 | an=>match fv with
  | .fn f first cap=>match views s.heap (first++xs++cap) with
   | some vs=>match jG f vs with
    | some (v,ext,ps)=>match jY X s.heap.length ext with
     | some ext'=>SK ps (k (.val (shift s.heap.length v)) { s with heap:=(if oL v||ext.any (hasB X) then aI (owns.kR (first++xs++cap)) s.heap else s.heap)++ext' } ⟨⟨true,[],[]⟩,false,false,true⟩ an)
     | none=>.bad
    | none=>.bad
   | none=>.bad
  | _=>.bad
def VL (DL:Nj X.Γ) (site:Nat→Bool) (s:aP X.Γ) (o:Oper) (an:PT X.Γ) (k:PE X.Γ→aP X.Γ→PI→PT X.Γ→OT ρ):OT ρ:=
 match o.op with
 | .move x | .assign x=>match wX s.env x with
  | some v=>k v s mG an
  | none=>.bad
 | .pick c a b=>match KN s.env c with
  | some u=>byB X u an fun t an=>match wX s.env (if t then a else b) with
   | some v=>k v (s.know c t) mG an
   | none=>.bad
  | none=>.bad
 | .alloc e=>match DI P e with
  | some z=>match qU (site (o.dst.getD 0)) s z with
   | (v,s)=>k v s mG an
  | none=>.bad
 | .box _ x=>match su s.env x with
  | some v=>if v.cells.all IV then (match qU (site (o.dst.getD 0)) s v.cells with
   | (v,s)=>k v s mG an) else .bad
  | none=>.bad
 | .build t ps=>match Nb s.env ps.toList with
  | some ps=>match IY P t ps with
   | some v=>k (.val v) s mG an
   | none=>.bad
  | none=>.bad
 | .buildSlice t len ps=>match Nb s.env ps.toList with
  | some ps=>match pO X P t len s.heap ps with
   | some (v,H)=>k (.val v) { s with heap:=H } mG an
   | none=>.bad
  | none=>.bad
 | .load t a=>match wX s.env a with
  | some a=>match nX X P t s a with
   | some (v,i)=>k (.val v) s ⟨i,false,false,!ES a⟩ an
   | none=>.bad
  | none=>.bad
 | .store t a x=>match wX s.env a,su s.env x with
  | some a,some v=>match EL X P t s a v with
   | some (s,i)=>k .undef s ⟨i,false,false,!ES a⟩ an
   | none=>.bad
  | _,_=>.bad
 | .nilCheck x=>match wX s.env x with
  | some (.loc a b)=>k (.loc a b) s mG an
  | some (.val (.ptr a b c))=>match s.heap[a]? with
   | some (.cells _)=>k (.val (.ptr a b c)) s mG an
   | some (.eu _)=>k (.val (.ptr a b c)) s mG an
   | _=>.bad
  | some (.val (.row a b c))=>match s.heap[a]? with
   | some (.list _ _ _ _)=>k (.val (.row a b c)) s mG an
   | _=>.bad
  | some (.val (.el a b c))=>k (.val (.el a b c)) s mG an
  | some (.val (.fn a b c))=>k (.val (.fn a b c)) s mG an
  | _=>.bad
 | .binOp op t x y _=>match su s.env x,su s.env y with
  | some a,some b=>if a2u op then (match VI op a b with
    | some (v,ps)=>SK ps (k (.val v) s mG an)
    | none=>.bad)
   else match EO X P op t s.heap a b with
   | some (v,q)=>.o q (k (.val v) s mG an)
   | none=>if VJ a||J9 a then (match an with
    | .a (.rd w) r=>match Na w,pI a,pI b with
     | some v,some ta,some tb=>.o (jo P op t x y ta tb=some w) (k (.val v) s mG r)
     | _,_,_=>.bad
    | _=>.bad)
   else match VF X P op t x y a b with
    | some v=>k (.val v) s mG an
    | none=>.bad
  | _,_=>.bad
 | .unOp op _ x=>match su s.env x with
  | some a=>match pun X P op a with
   | some v=>k (.val v) s mG an
   | none=>.bad
  | none=>.bad
 | .convert src dst x=>match su s.env x with
  | some a=>if J9 a then (match an with
    | .a (.rd w) r=>match Na w,pI a with
     | some v,some ta=>.o (zN P src dst ta=some w) (k (.val v) s mG r)
     | _,_=>.bad
    | _=>.bad)
   else match OX X P src dst a with
    | some v=>k (.val v) s mG an
    | none=>.bad
  | none=>.bad
 | .makeFunc (.func f) first cap=>match IW s.env first.toList,IW s.env cap.toList with
  | some a,some b=>k (.val (.fn f a b)) s mG an
  | _,_=>.bad
 | .makeMap t r=>match AP s.env r,P.underlying t with
  | some none,_=>k (.val (.map s.heap.length)) { s with heap:=s.heap++[.map []] } mG an
  | some (some (.int _ _)),some (.map _ _)=>k (.val (.map s.heap.length)) { s with heap:=s.heap++[.map []] } mG an
  | _,_=>.bad
 | .makeSlice t l c=>match su s.env l,su s.env c with
  | some l,some c=>match tX X P t s.heap l c with
   | some (v,H,ps)=>SK ps (k (.val v) { s with heap:=H } mG an)
   | none=>.bad
  | _,_=>.bad
 | .slice t x lo hi mx=>match wX s.env x,AP s.env lo,AP s.env hi,AP s.env mx with
  | some x,some lo,some hi,some mx=>match P.underlying t with
   | some (.array _ _)=>match an with
    | .a .no r=>match mx,tY X P t s.heap x lo hi with
     | none,some v=>k (.val v) s mG r
     | _,_=>.bad
    | an=>match wY X P t s.heap x lo hi mx with
     | some (v,H,ps)=>SK ps (k (.val v) { s with heap:=H } mG an)
     | none=>.bad
   | _=>match x with
    | .val (.str b)=>(match an with
     | .a (.rd w) r=>match Na w,(match lo with | none=>some none | some v=>(pI v).map some),(match hi with | none=>some none | some v=>(pI v).map some) with
      | some v,some tl,some th=>if mx.isNone then .o (sliceT P t (.str b) tl th none=some w) (k (.val v) s mG r) else .bad
      | _,_,_=>.bad
     | _=>.bad)
    | .val x=>match J4 X P t s.heap x lo hi mx with
     | some (v,ps)=>SK ps (k (.val v) s mG an)
     | none=>.bad
    | _=>.bad
  | _,_,_,_=>.bad
 | .fieldAddr t x f=>match wX s.env x,oP P t f with
  | some a,some n=>match uQ X s n a with
   | some v=>k v s mG an
   | none=>.bad
  | _,_=>.bad
 | .field t x f=>match su s.env x with
  | some a=>match J5 X P t a f with
   | some v=>k (.val v) s mG an
   | none=>.bad
  | none=>.bad
 | .indexAddr t x i=>match wX s.env x,su s.env i with
  | some a,some i=>match tV X P t s a i with
   | some (v,ps)=>SK ps (k v s mG an)
   | none=>.bad
  | _,_=>.bad
 | .index t x i=>match su s.env x,su s.env i with
  | some a,some i=>if J9 a then (match an with
    | .a (.rd w) r=>match Na w,pI a,pI i with
     | some v,some ta,some ti=>.o (sN P t ta ti=some w) (k (.val v) s mG r)
     | _,_,_=>.bad
    | _=>.bad)
   else match J6 X P t a i with
    | some v=>k (.val v) s mG an
    | none=>.bad
  | _,_=>.bad
 | .lookup t m i ok=>match su s.env m,su s.env i with
  | some m,some i=>Ja X P t s m i ok an fun v q an=>k v s q an
  | _,_=>.bad
 | .mapUpdate t m i x | .insert t m i x=>match su s.env m,su s.env i,su s.env x with
  | some m,some i,some v=>P9 X P t s m i v an fun s q an=>k .undef s q an
  | _,_,_=>.bad
 | .extract t i=>match su s.env t with
  | some (.bf vs)=>match vs[i]? with
   | some v=>k (.val v) s mG an
   | none=>.bad
  | _=>.bad
 | .call c=>match IW s.env c.args.toList with
  | some az=>match c.callee with
   | .builtin .len=>match az with
    | [x]=>match VE X P c.argTypes s.heap x with
     | some (v,i)=>k (.val v) s ⟨i,false,false,true⟩ an
     | none=>.bad
    | _=>.bad
   | .builtin .append=>match az with
    | [d,x]=>match EM X P c.argTypes s.heap d x with
     | some (v,H,i,ps)=>SK ps (k (.val v) { s with heap:=H } ⟨i,false,false,true⟩ an)
     | none=>.bad
    | _=>.bad
   | .builtin .copy=>match az with
    | [d,x]=>match OW X P c.argTypes s.heap d x with
     | some (v,H,i)=>k (.val v) { s with heap:=H } ⟨i,false,false,true⟩ an
     | none=>.bad
    | _=>.bad
   | .builtin .min=>match zo X P false c.argTypes o.type az with
    | some v=>k (.val v) s mG an
    | none=>.bad
   | .builtin .max=>match zo X P true c.argTypes o.type az with
    | some v=>k (.val v) s mG an
    | none=>.bad
   | .value f=>match su s.env f with
    | some fv=>Pg X jG DL s fv az an k
    | none=>.bad
   | _=>.bad
  | none=>.bad
 | .range t x=>match su s.env x,P.underlying t with
  | some (.map r),some (.map _ _)=>match AX X s.heap r with
   | some es=>k (.val (.iter s.heap.length)) { s with heap:=s.heap++[.aV r es.length []] } ⟨bT [.h r],false,false,true⟩ an
   | _=>.bad
  | _,_=>.bad
 | .entry x=>match su s.env x with
  | some (.iter b)=>match s.heap[b]? with
   | some (.aV r n (i::_))=>match AX X s.heap r with
    | some es=>match an with
     | .a (.call (.bf [kk,vv]) _) rest=>.o (es.length=n∧es[i]? = some (kk,vv)) (k (.val (.bf [kk,vv])) s ⟨bT [.h b,.h r],false,false,true⟩ rest)
     | an=>if es.length=n then (match es[i]? with
      | some e=>k (.val (.bf [e.1,e.2])) s ⟨bT [.h b,.h r],false,false,true⟩ an
      | none=>.bad) else .bad
    | _=>.bad
   | _=>.bad
  | _=>.bad
 | _=>.bad
def Jb (ops:Array Oper) (s:aP X.Γ) (o:Oper) (an:PT X.Γ) (k:Bool→aP X.Γ→PT X.Γ→OT ρ):OT ρ:=
 match o.guard with
 | none=>k true s an
 | some (j,want)=>match (ops[j]?).bind (·.dst) with
  | some d=>match rZ d s.env with
   | some (.val b)=>byB X b an fun t an=>k (t==want) (s.know (.tmp d) t) an
   | some .undef=>k false s an
   | _=>.bad
  | none=>.bad
def Jc (a b:PI):Bool:=
 (a.i.ws.all fun k=>!(b.i.all&&k.NY)&&!b.i.ts.contains k&&!b.i.ws.contains k&&!(b.wall&&k.NY)) &&
 (!a.wall||(!b.i.all&&!b.wall&&b.i.ts.all (fun k=>!k.NY)&&b.i.ws.all (fun k=>!k.NY)))
def KP (a b:PI):Bool:=Jc a b&&Jc b a
def ET (lC:List PI):List (Nat×Nat)→Bool
 | []=>true
 | (i,j)::r=>(match lC[i]?,lC[j]? with
  | some a,some b=>KP a b&&(!a.hp||!b.hp||!((lC.drop i).take (j-i)).any (·.mv))
  | _,_=>false)&&ET lC r
def Gn (DL:Nj X.Γ) (site:Nat→Bool) (nt:Nat) (ops:Array Oper):List Oper→aP X.Γ→PT X.Γ→(aP X.Γ→List PI→PT X.Γ→OT ρ)→OT ρ
 | [],s,an,k=>k s [] an
 | o::os,s,an,k=>if !rQ nt o then .bad else Jb X ops s o an fun w s an=>match w with
  | true=>VL X P jG DL site s o an fun v s1 i an=>Gn DL site nt ops os (s1.put o.dst v) an fun s' is an=>k s' (⟨i.i,i.wall,!mV s.heap s1.heap,i.hp⟩::is) an
  | false=>Gn DL site nt ops os (s.put o.dst .undef) an fun s' is an=>k s' (mG::is) an
def Jd:List (Nat×PE X.Γ)→Nat
 | []=>0
 | (_,.loc k _)::r=>max (k+1) (Jd r)
 | _::r=>Jd r
def patHead (live:List Nat) (s:aP X.Γ):aP X.Γ:=
 let env:=gG live s.env
 { s with env:=env,loc:=s.loc.take (Jd X env) }
def EU (step:aP X.Γ→PT X.Γ→(Ex→aP X.Γ→PT X.Γ→OT ρ)→OT ρ):Nat→aP X.Γ→PT X.Γ→(Ex→aP X.Γ→PT X.Γ→OT ρ)→OT ρ
 | 0,_,_,_=>.bad
 | m+1,s,an,k=>step s an fun e s an=>match e with
  | .norm=>EU step m s an k
  | e=>k e s an
abbrev KQ (Γ:Nat→Type):=Code→aP Γ→Ex→aP Γ→Prop
def mg (lo:KQ X.Γ) (B:Nat) (c:Code) (s:aP X.Γ) (k:Ex→aP X.Γ→PT X.Γ→OT ρ):PT X.Γ→OT ρ
 | .a (.loop e s') r=>.o (lo c s e s') (k e s' r)
 | .a (.lg gs e s') r=>match je B gs s with
  | some s0=>.o (lo c s0 e s') (k e s' r)
  | none=>.bad
 | .z c' a b=>.br c' (mg lo B c s k a) (mg lo B c s k b)
 | _=>.bad
def eH (DL:Nj X.Γ) (lo:KQ X.Γ) (B:Nat) (L:Nat) (f:Nat) (dI:Bool) (nt:Nat):Code→aP X.Γ→PT X.Γ→(Ex→aP X.Γ→PT X.Γ→OT ρ)→OT ρ
 | .skip,s,an,k=>k .norm s an
 | .label _,s,an,k=>k .norm s an
 | .region id ops draw,s,an,k=>Gn X P jG DL (fun d=>dI||T.wJ f d) nt ops ops.toList s an fun s' lC an=>
  match draw with
  | false=>k .norm { s' with env:=gG (T.eG f id) s'.env } an
  | true=>match an with
   | .a .calm r=>if lC.all (fun i=>i.i.ws.isEmpty&&!i.wall) then .o (dZ ops.toList=true) (k .norm { s' with env:=gG (T.eG f id) s'.env } r) else .bad
   | an=>if dZ ops.toList&&ET lC (dK ops.toList) then k .norm { s' with env:=gG (T.eG f id) s'.env } an else .bad
 | .seq a b,s,an,k=>eH DL lo B L f dI nt a s an fun e s an=>match e with
  | .norm=>eH DL lo B L f dI nt b s an k
  | e=>k e s an
 | .cond c a b,s,an,k=>match KN s.env c with
  | some u=>byB X u an fun t an=>match t with
   | true=>eH DL lo B L f dI nt a (s.know c true) an k
   | false=>eH DL lo B L f dI nt b (s.know c false) an k
  | none=>.bad
 | .block id b,s,an,k=>eH DL lo B L f dI nt b s an fun e s an=>match e with
  | .exit i=>k (if i=id then .norm else .exit i) s an
  | e=>k e s an
 | .scope b,s,an,k=>eH DL lo B L f dI nt b s an k
 | .loop b,s,an,k=>match an with
  | .l m r=>.o (m≤L) (EU X (fun s an k=>eH DL lo B L f dI nt b (patHead X (T.bY f (bH b)) s) an k) m s r k)
  | an=>mg X lo B (.loop b) s k an
 | .exit id,s,an,k=>k (.exit id) s an
 | .ret,s,an,k=>k .ret s an
 | .rangeFunc g ps ku body,s,an,k=>mg X lo B (.rangeFunc g ps ku body) s k an
 | _,_,_,_=>.bad
def YF (s:aP X.Γ):ResultVar→Option (PV X.Γ)
 | .tmp t=>match rZ t s.env with
  | some (.val v)=>some (KL v)
  | _=>none
 | .cell a t=>match rZ a s.env with
  | some a=>(nX X P t s a).map (·.1)
  | none=>none
def AZ (s:aP X.Γ):List ResultVar→Option (List (PV X.Γ))
 | []=>some []
 | r::rs=>match YF X P s r,AZ s rs with
  | some v,some vs=>some (v::vs)
  | _,_=>none
def Ph:List (PV X.Γ)→PV X.Γ
 | [v]=>v
 | vs=>.bf vs
def qV:Nat→List (PV X.Γ)→List (Nat×PE X.Γ)
 | _,[]=>[]
 | k,v::vs=>(k,.val v)::qV (k+1) vs
def KT (DL:Nj X.Γ) (lo:KQ X.Γ) (L:Nat) (f:Nat) (args:List (PV X.Γ)) (H:List (PB X.Γ)) (an:PT X.Γ):OT (PV X.Γ×List (PB X.Γ)):=
 match (if (T.exts.contains f||T.Ho.contains f)=true then none else CS P f) with
 | some t=>eH X P T jG DL lo H.length L f false t.nt t.body ⟨qV X 0 args,[],H⟩ an fun e s an=>match e,an with
  | .exit _,_=>.bad
  | _,.n=>match AZ X P s t.results with
   | some vs=>.ret (Ph X vs,s.heap)
   | none=>.bad
  | _,_=>.bad
 | none=>.bad
end
end Pv
namespace Pv
open Go Tw
inductive MB where
 | blk (b:Nat)
 | bM (b:Nat)
 | lst (x:TV)
 | gone
def MB.own:MB→Option Nat
 | .blk b=>some b
 | .lst (.slc b _ len _ _ _)=>if len=0 then none else some b
 | _=>none
def blks (m:List MB):List Nat:=m.filterMap MB.own
def aF {Γ:Nat→Type}:PV Γ→Option Nat
 | .ptr b _ _=>some b
 | .slc b _ _ _ _ _=>some b
 | .own b=>some b
 | .win b _ _=>some b
 | .map b=>some b
 | .iter b=>some b
 | .iF b=>some b
 | .row b _ _=>some b
 | _=>none
def SL {Γ:Nat→Type} (c:Nat):PV Γ→Option TV
 | .ptr _ off lim=>some (.ptr c off lim)
 | .slc _ off len cap sz ex=>some (.slc c off len cap sz ex)
 | .map _=>some (.map c)
 | .iter _=>some (.iter c)
 | .iF _=>some (.iF c)
 | _=>none
inductive pV {Γ:Nat→Type} (v:PV Γ) (x:TV):Option MB→Prop where
 | g:pV v x (some .gone)
 | r (c):SL c v=some x→pV v x (some (.bM c))
theorem pV.of {Γ:Nat→Type} {v:PV Γ} {x:TV} {o:Option MB} (e:o=some .gone):pV v x o:=by subst e;exact .g
theorem pV.as {Γ:Nat→Type} {v w:PV Γ} {x:TV} {o:Option MB} (h:pV v x o) (e:∀ c,SL c w=SL c v):pV w x o:=by
 cases h with
 | g=>exact .g
 | r c h=>exact .r c ((e c).trans h)
theorem pV.RH {Γ:Nat→Type} {v:PV Γ} {x:TV} {o:Option MB} {c:Nat} (e:o=some (.bM c)) (h:SL c v=some x):pV v x o:=by subst e;exact .r c h
section
variable (X:gZ) (P:Program)
inductive VR (A:Nat→Prop) (m:List MB) (h:List HB):PV X.Γ→TV→Prop where
 | bool (b):VR A m h (.bool b) (.bool b)
 | lit (b):VR A m h (.lit b) (.bool b)
 | int (k n):VR A m h (.int k n) (.int k n)
 | str (s):VR A m h (.str s) (.str s)
 | nil (k):VR A m h (.nil k) (.nil k)
 | ptr {b c off lim}:m[b]? = some (.blk c)→VR A m h (.ptr b off lim) (.ptr c off lim)
 | slc {b c off len cap sz ex}:m[b]? = some (.blk c)→VR A m h (.slc b off len cap sz ex) (.slc c off len cap sz ex)
 | own {i x}:m[i]? = some (.lst x)→bJ x=true→VR A m h (.own i) x
 | win {i o n c off len cap cap' sz ex ex'}:m[i]? = some (.lst (.slc c off len cap sz ex))→o+n≤len→n≤cap'→(n=0∨o+cap'=cap)→VR A m h (.win i o n) (.slc c (off+o*sz) n cap' sz ex')
 | nY {i}:m[i]? = some (.lst (.nil .slc))→VR A m h (.win i 0 0) (.nil .slc)
 | map {r c}:m[r]? = some (.blk c)→VR A m h (.map r) (.map c)
 | iter {r c}:m[r]? = some (.blk c)→VR A m h (.iter r) (.iter c)
 | fn {f a a' c c'}:a.length=a'.length→(∀ (i:Nat) x y,a[i]? = some x→a'[i]? = some y→VR A m h x y)→c.length=c'.length→(∀ (i:Nat) x y,c[i]? = some x→c'[i]? = some y→VR A m h x y)→VR A m h (.fn f a c) (.fn f a' c')
 | iF {l c}:m[l]? = some (.blk c)→VR A m h (.iF l) (.iF c)
 | agg {cs cs'}:cs.length=cs'.length→(∀ (i:Nat) x y,cs[i]? = some x→cs'[i]? = some y→VR A m h x y)→VR A m h (.agg cs) (.agg cs')
 | bf {cs cs'}:cs.length=cs'.length→(∀ (i:Nat) x y,cs[i]? = some x→cs'[i]? = some y→VR A m h x y)→VR A m h (.bf cs) (.bf cs')
 | jg {t fu}:VR A m h (.lst t [] fu) (.nil .slc)
 | lst {t l fu b off cap sz ex cs}:A b→aB h b=some cs→(l≠[]→gq h b (off+cap*sz)=some cs)→sizeT P t=some sz→0<sz→off+l.length*sz≤cs.length→l.length≤cap→(fu=true→ex=true∧cap=l.length)→(∀ (j:Nat) a,l[j]? = some a→(X.enc t a).length=sz) →
   (∀ (j:Nat) a (i:Nat) c v,l[j]? = some a→(X.enc t a)[i]? = some c→cs[off+j*sz+i]? = some v→VR A m h c v)→VR A m h (.lst t l fu) (.slc b off l.length cap sz ex)
 | el {t a off b o sz lim cs}:A b→gq h b lim=some cs→o+sz≤lim→o+sz≤cs.length→(X.enc t a).length=sz→off≤sz →
   (∀ (i:Nat) c v,(X.enc t a)[i]? = some c→cs[o+i]? = some v→VR A m h c v)→VR A m h (.el t a off) (.ptr b (o+off) lim)
 | row {i j off c len cap sz ex}:m[i]? = some (.lst (.slc c 0 len cap sz ex))→j<len→off≤sz→VR A m h (.row i j off) (.ptr c (j*sz+off) (cap*sz))
 | gone {v i x}:aF v=some i→pV v x m[i]?→bJ x=true→VR A m h v x
def aG (A:Nat→Prop) (m:List MB) (h:List HB) (a:List (PV X.Γ)) (b:List TV):Prop:=a.length=b.length∧∀ (i:Nat) x y,a[i]? = some x→b[i]? = some y→VR X P A m h x y
def aZ (A:Nat→Prop) (m:List MB) (h:List HB) (t:Nat) (l:List (X.Γ t)) (cs:List TV) (off sz:Nat):Prop:=
 (∀ (j:Nat) a,l[j]? = some a→(X.enc t a).length=sz)∧off+l.length*sz≤cs.length∧∀ (j:Nat) a (i:Nat) c v,l[j]? = some a→(X.enc t a)[i]? = some c→cs[off+j*sz+i]? = some v→VR X P A m h c v
inductive LR (A:Nat→Prop) (m:List MB) (h:List HB) (k ex:Bool) (t:Nat):List (X.Γ t)→TV→Prop where
 | nil:LR A m h k ex t [] (.nil .slc)
 | emp {b off sz cs}:A b→aB h b=some cs→off≤cs.length→sizeT P t=some sz→0<sz→LR A m h k ex t [] (.slc b off 0 0 sz true)
 | some {l b sz e kk cs}:l≠[]→sizeT P t=some sz→0<sz→h[b]? = some (.cells kk cs)→kk≠.ro→(k=true→kk=.own)→(ex=true→e=true)→cs.length=l.length*sz→aZ X P A m h t l cs 0 sz→LR A m h k ex t l (.slc b 0 l.length l.length sz e)
def PER (A:Nat→Prop) (m:List MB) (h:List HB):PE X.Γ→EV→Prop
 | .val v,.val x=>VR X P A m h v x
 | .loc k o,.loc k' o'=>k=k'∧o=o'
 | .undef,.undef=>True
 | _,_=>False
inductive fH (A:Nat→Prop) (m:List MB) (h:List HB):List (Nat×PE X.Γ)→List (Nat×EV)→Prop where
 | nil:fH A m h [] []
 | cons {k v x r r'}:PER X P A m h v x→fH A m h r r'→fH A m h ((k,v)::r) ((k,x)::r')
def BR (A:Nat→Prop) (m:List MB) (h:List HB):PB X.Γ→MB→Prop
 | .cells cs,.blk b=>∃ cs',h[b]? = some (.cells .own cs')∧aG X P A m h cs cs'
 | .eu cs,.bM b=>b∉blks m∧∃ cs',h[b]? = some (.cells .own cs')∧aG X P A m h cs cs'
 | .list k ex t l,.lst x=>LR X P A m h k ex t l x
 | .map es,.blk b=>∃ es',h[b]? = some (.map es')∧es.length=es'.length∧∀ (i:Nat) x y,es[i]? = some x→es'[i]? = some y→pI x.1=some y.1∧pI x.2=some y.2
 | .rP es,.bM b=>b∉blks m∧∃ es',h[b]? = some (.map es')∧es.length=es'.length∧∀ (i:Nat) x y,es[i]? = some x→es'[i]? = some y→pI x.1=some y.1∧pI x.2=some y.2
 | .oH cs,.blk b=>∃ cs',h[b]? = some (.oH cs')∧N9 cs=some cs'
 | .mark,.blk b=>h[b]? = some .mark
 | .aV r n seen,.blk b=>∃ c,h[b]? = some (.aV c n seen)∧(m[r]?).isSome=true∧∀ c',(m[r]? = some (.blk c')∨m[r]? = some (.bM c'))→c'=c
 | .loop rd f nt env ps a c pend,.blk b=>∃ env',h[b]? = some (.loop rd f nt env' ps a c pend)∧fH X P A m h env env'
 | .gone,.gone=>True
 | _,_=>False
def AA (A:Nat→Prop) (m:List MB):Nat→Prop:=fun b=>A b∧b∉blks m
structure HR (A:Nat→Prop) (m:List MB) (H:List (PB X.Γ)) (h:List HB):Prop where
 len:m.length=H.length
 at_:∀ (i:Nat) b,H[i]? = some b→∃ mb,m[i]? = some mb∧BR X P (AA A m) m h b mb
 nodup:(blks m).Nodup
 up:∀ b,h.length≤b→A b
 uS:∀ b,b∈blks m→A b
end
structure Fr (m:List MB) (h:List HB) (m':List MB) (h':List HB):Prop where
 len:h.length≤h'.length
 same:∀ b,b<h.length→b∉blks m→h'[b]? = h[b]?
 new:∀ b,b∈blks m'→b∈blks m∨h.length≤b
 grow:∀ b cs,aB h b=some cs→∃ cs',aB h' b=some cs'∧cs.length≤cs'.length
def Up (m m':List MB):Prop:=∀ (i:Nat) mb,m[i]? = some mb→m'[i]? = some mb∨m'[i]? = some .gone
theorem Fr.refl {m:List MB} {h:List HB}:Fr m h m h:=⟨Nat.le_refl _,fun _ _ _=>rfl,fun _ hb=>.inl hb,fun _ cs hc=>⟨cs,hc,Nat.le_refl _⟩⟩
theorem Up.refl {m:List MB}:Up m m:=fun _ _ h=>.inl h
theorem Fr.trans {m m' m'':List MB} {h h' h'':List HB} (a:Fr m h m' h') (b:Fr m' h' m'' h''):Fr m h m'' h'':=by
 refine⟨Nat.le_trans a.len b.len,fun c hc hn=>?_,fun c hc=>?_,fun c cs hc=>?_⟩
 ·rw[b.same c (by have:=a.len;omega) (fun hm=>?_),a.same c hc hn]
  rcases a.new c hm with h1 | h1
  ·exact hn h1
  ·omega
 ·rcases b.new c hc with h1 | h1
  ·exact a.new c h1
  ·have:=a.len;exact .inr (by omega)
 ·obtain⟨cs',h1,h2⟩:=a.grow c cs hc
  obtain⟨cs'',h3,h4⟩:=b.grow c cs' h1
  exact⟨cs'',h3,by omega⟩
theorem Up.trans {m m' m'':List MB} (a:Up m m') (b:Up m' m''):Up m m'':=fun i mb hi=>by
 rcases a i mb hi with h | h
 ·exact b i mb h
 ·rcases b i _ h with h | h<;>exact .inr h
theorem bQ {h:List HB} {b:Nat} {cs:List TV} (hc:aB h b=some cs):b<h.length:=by
 unfold aB at hc
 split at hc
 ·rename_i e;exact (List.getElem?_eq_some_iff.1 e).1
 ·cases hc
theorem bI {h h':List HB} {b:Nat} (e:h'[b]? = h[b]?):aB h' b=aB h b:=by
 unfold aB;rw[e]
theorem lQ {h h':List HB} {b lim:Nat} (e:h'[b]? = h[b]?):gq h' b lim=gq h b lim:=by
 unfold gq;rw[e]
theorem nZ {h:List HB} {b lim:Nat} {cs:List TV} (hc:gq h b lim=some cs):aB h b=some cs:=by
 obtain⟨k,h1,_⟩:=lD hc
 unfold aB;rw[h1]
theorem Nk {h:List HB} {b lim:Nat} {cs:List TV} (hc:gq h b lim=some cs):b<h.length:=bQ (nZ hc)
theorem o8 {h:List HB} {b lim:Nat} {k:BK} {cs:List TV} (hc:h[b]? = some (.cells k cs)) (hl:lim=cs.length):gq h b lim=some cs:=by
 unfold gq;simp[hc,hl]
theorem Gp {h:List HB} {b off lim:Nat} {cs new:List TV} (hc:h[b]? = some (.cells .own cs)):setH h b off lim new=(over cs off new).map fun cs'=>h.set b (.cells .own cs'):=by
 unfold setH;simp[hc,oN]
theorem KU {h:List HB} {b off lim:Nat} {k k':BK} {cs new:List TV} (hc:h[b]? = some (.cells k cs)) (hk:oN k true=some k') (hl:lim=cs.length):setH h b off lim new=(over cs off new).map fun cs'=>h.set b (.cells k' cs'):=by
 unfold setH;simp[hc,hl,hk]
theorem DN {k:BK} (h:k≠.ro):∃ k',oN k true=some k'∧k'≠.ro∧(k=.own→k'=.own):=by
 cases k<;>simp_all [oN]
theorem o9 {h:List HB} {b lim:Nat} {k:BK} {cs:List TV} (hc:h[b]? = some (.cells k cs)) (hl:k≠.last):gq h b lim=some cs:=by
 unfold gq;simp[hc,hl]
section
variable {X:gZ} {P:Program} {A:Nat→Prop} {m m':List MB} {h h':List HB}
theorem VR.step (hF:Fr m h m' h') (hU:Up m m') {v:PV X.Γ} {x:TV} (hv:VR X P (AA A m) m h v x):VR X P (AA A m') m' h' v x:=by
 have hA:∀ b cs,AA A m b→aB h b=some cs→AA A m' b∧h'[b]? = h[b]?:=by
  intro b cs ha hc
  have hlt:=bQ hc
  refine⟨⟨ha.1,fun hm=>?_⟩,hF.same b hlt ha.2⟩
  rcases hF.new b hm with h1 | h1
  ·exact ha.2 h1
  ·omega
 induction hv with
 | bool=>exact .bool _
 | lit=>exact .lit _
 | int=>exact .int _ _
 | str=>exact .str _
 | nil=>exact .nil _
 | ptr e=>rcases hU _ _ e with e | e;exact .ptr e;exact .gone rfl (.of e) rfl
 | slc e=>rcases hU _ _ e with e | e;exact .slc e;exact .gone rfl (.of e) rfl
 | own e o=>rcases hU _ _ e with e | e;exact .own e o;exact .gone rfl (.of e) o
 | win e q q' q2=>rcases hU _ _ e with e | e;exact .win e q q' q2;exact .gone rfl (.of e) rfl
 | nY e=>rcases hU _ _ e with e | e;exact .nY e;exact .gone rfl (.of e) rfl
 | map e=>rcases hU _ _ e with e | e;exact .map e;exact .gone rfl (.of e) rfl
 | iter e=>rcases hU _ _ e with e | e;exact .iter e;exact .gone rfl (.of e) rfl
 | fn h1 _ h3 _ i2 i4=>exact .fn h1 i2 h3 i4
 | iF e=>rcases hU _ _ e with e | e;exact .iF e;exact .gone rfl (.of e) rfl
 | agg h1 _ i2=>exact .agg h1 i2
 | bf h1 _ i2=>exact .bf h1 i2
 | jg=>exact .jg
 | lst a c c2 s z o k f e _ ih=>obtain⟨a',c'⟩:=hA _ _ a c;exact .lst a' ((bI c').trans c) (fun hl=>(lQ c').trans (c2 hl)) s z o k f e ih
 | el a c l o e q _ ih=>obtain⟨a',c'⟩:=hA _ _ a (nZ c);exact .el a' ((lQ c').trans c) l o e q ih
 | row e j q=>rcases hU _ _ e with e | e;exact .row e j q;exact .gone rfl (.of e) rfl
 | @gone v i0 x i e o=>
  generalize hq:m[i0]? = q at e
  cases e with
  | g=>rcases hU _ _ hq with e | e<;>exact .gone i (.of e) o
  | r c hv=>rcases hU _ _ hq with e | e;exact .gone i (.RH e hv) o;exact .gone i (.of e) o
theorem aG.step (hF:Fr m h m' h') (hU:Up m m') {v:List (PV X.Γ)} {x:List TV} (hv:aG X P (AA A m) m h v x):aG X P (AA A m') m' h' v x:=
 ⟨hv.1,fun i a b ha hb=>(hv.2 i a b ha hb).step hF hU⟩
theorem aZ.step (hF:Fr m h m' h') (hU:Up m m') {t:Nat} {l:List (X.Γ t)} {cs:List TV} {off sz:Nat} (hv:aZ X P (AA A m) m h t l cs off sz):aZ X P (AA A m') m' h' t l cs off sz:=
 ⟨hv.1,hv.2.1,fun j a i c v h1 h2 h3=>(hv.2.2 j a i c v h1 h2 h3).step hF hU⟩
theorem PER.step (hF:Fr m h m' h') (hU:Up m m') {v:PE X.Γ} {x:EV} (hv:PER X P (AA A m) m h v x):PER X P (AA A m') m' h' v x:=by
 cases v<;>cases x<;>first | exact VR.step hF hU hv | exact hv
theorem fH.step (hF:Fr m h m' h') (hU:Up m m') {v:List (Nat×PE X.Γ)} {x:List (Nat×EV)} (hv:fH X P (AA A m) m h v x):fH X P (AA A m') m' h' v x:=by
 induction hv with
 | nil=>exact .nil
 | cons h1 _ ih=>exact .cons (h1.step hF hU) ih
theorem BR.step (hF:Fr m h m' h') (hU:Up m m') {b:PB X.Γ} {mb:MB} (hs:∀ c,mb.own=some c→h'[c]? = h[c]?) (hb:BR X P (AA A m) m h b mb):BR X P (AA A m') m' h' b mb:=by
 cases b with
 | cells cs=>
  cases mb with
  | blk b=>obtain⟨cs',h1,h2⟩:=hb;exact⟨cs',by rw[hs b rfl,h1],h2.step hF hU⟩
  | _=>exact hb.elim
 | eu cs=>
  cases mb with
  | bM b=>
   obtain⟨h0,cs',h1,h2⟩:=hb
   have hlt:=(List.getElem?_eq_some_iff.1 h1).1
   refine⟨fun hm=>?_,cs',by rw[hF.same _ hlt h0,h1],h2.step hF hU⟩
   rcases hF.new _ hm with g | g
   ·exact h0 g
   ·omega
  | _=>exact hb.elim
 | list k ex t l=>
  cases mb with
  | lst x=>
   cases (hb:LR X P (AA A m) m h k ex t l x) with
   | nil=>exact LR.nil
   | emp h0 h1 h2 h3 h4=>
    have hlt:=bQ h1
    refine LR.emp ⟨h0.1,fun hm=>?_⟩ (by rw[bI (hF.same _ hlt h0.2),h1]) h2 h3 h4
    rcases hF.new _ hm with g | g
    ·exact h0.2 g
    ·omega
   | some h1 h2 h3 h4 h5 h6 h7 h8 h9=>
    have ho:=hs _ (by simp only[MB.own];rw[if_neg (by simpa using h1)])
    exact LR.some h1 h2 h3 (by rw[ho,h4]) h5 h6 h7 h8 (h9.step hF hU)
  | _=>exact hb.elim
 | map es=>
  cases mb with
  | blk b=>obtain⟨es',h1,h2,h3⟩:=hb;exact⟨es',by rw[hs b rfl,h1],h2,h3⟩
  | _=>exact hb.elim
 | oH cs=>
  cases mb with
  | blk b=>obtain⟨es',h1,h2⟩:=hb;exact⟨es',by rw[hs b rfl,h1],h2⟩
  | _=>exact hb.elim
 | rP es=>
  cases mb with
  | bM b=>
   obtain⟨h0,es',h1,h2⟩:=hb
   have hlt:=(List.getElem?_eq_some_iff.1 h1).1
   refine⟨fun hm=>?_,es',by rw[hF.same _ hlt h0,h1],h2⟩
   rcases hF.new _ hm with g | g
   ·exact h0 g
   ·omega
  | _=>exact hb.elim
 | aV r n seen=>
  cases mb with
  | blk b=>
   obtain⟨c,h1,h2,h3⟩:=hb
   obtain⟨mb,h4⟩:=Option.isSome_iff_exists.1 h2
   refine⟨c,by rw[hs b rfl,h1],by rcases hU _ _ h4 with e | e<;>rw[e]<;>rfl,fun c' hc=>h3 c' ?_⟩
   rcases hU _ _ h4 with e | e
   ·rw[h4,←e];exact hc
   ·rw[e] at hc;simp at hc
  | _=>exact hb.elim
 | mark=>
  cases mb with
  | blk b=>show h'[b]? = _;rw[hs b rfl];exact hb
  | _=>exact hb.elim
 | loop rd f nt env ps a c pend=>
  cases mb with
  | blk b=>obtain⟨e',h1,h2⟩:=hb;exact⟨e',by rw[hs b rfl,h1],h2.step hF hU⟩
  | _=>exact hb.elim
 | gone=>
  cases mb with
  | gone=>trivial
  | _=>exact hb.elim
theorem aC {i:Nat} {mb:MB} {b:Nat} (hi:m[i]? = some mb) (ho:mb.own=some b):b∈blks m:=
 List.mem_filterMap.2 ⟨mb,List.mem_of_getElem? hi,ho⟩
theorem dw (hn:(blks m).Nodup):∀ {i j:Nat} {a b:MB} {c:Nat},m[i]? = some a→m[j]? = some b→a.own=some c→b.own=some c→i=j:=by
 unfold blks at hn
 induction m with
 | nil=>intro i j a b c h;simp at h
 | cons x r ih=>
  intro i j a b c hi hj ha hb
  have hr:(r.filterMap MB.own).Nodup:=by
   simp only[List.filterMap_cons] at hn
   split at hn
   ·exact hn
   ·exact (List.nodup_cons.1 hn).2
  have hx:∀ {k:Nat} {y:MB},r[k]? = some y→y.own=some c→x.own=some c→False:=by
   intro k y hk hy hxc
   simp only[List.filterMap_cons,hxc] at hn
   exact (List.nodup_cons.1 hn).1 (List.mem_filterMap.2 ⟨y,List.mem_of_getElem? hk,hy⟩)
  cases i with
  | zero=>
   cases j with
   | zero=>rfl
   | succ j=>
    simp only[List.getElem?_cons_zero,Option.some.injEq] at hi;subst hi
    exact (hx (by simpa using hj) hb ha).elim
  | succ i=>
   cases j with
   | zero=>
    simp only[List.getElem?_cons_zero,Option.some.injEq] at hj;subst hj
    exact (hx (by simpa using hi) ha hb).elim
   | succ j=>
    have:=ih hr (i:=i) (j:=j) (by simpa using hi) (by simpa using hj) ha hb
    omega
end
end Pv
namespace Pv
open Go Tw
section
variable {X:gZ} {P:Program} {A:Nat→Prop} {m m':List MB} {h h':List HB} {H H':List (PB X.Γ)}
theorem HR.next (hr:HR X P A m H h) (hF:Fr m h m' h') (hU:Up m m') (hl:m'.length=H'.length) (hn:(blks m').Nodup)
  (hat:∀ (i:Nat) b,H'[i]? = some b→(∃ mb,H[i]? = some b∧m[i]? = some mb∧m'[i]? = some mb∧∀ c,mb.own=some c→h'[c]? = h[c]?)∨∃ mb,m'[i]? = some mb∧BR X P (AA A m') m' h' b mb):HR X P A m' H' h':=by
 refine⟨hl,fun i b hb=>?_,hn,fun b hb=>hr.up b (by have:=hF.len;omega),fun b hb=>?_⟩
 ·rcases hat i b hb with⟨mb,h1,h2,h3,h4⟩ | h1
  ·obtain⟨mb',g1,g2⟩:=hr.at_ i b h1
   rw[h2] at g1;cases g1
   exact⟨mb,h3,g2.step hF hU h4⟩
  ·exact h1
 ·rcases hF.new b hb with h1 | h1
  ·exact hr.uS b h1
  ·exact hr.up b h1
theorem BR.has {B:Nat→Prop} {b:PB X.Γ} {mb:MB} {c:Nat} (hb:BR X P B m h b mb) (ho:mb.own=some c):c<h.length:=by
 have key:∀ {y},h[c]? = some y→c<h.length:=fun e=>(List.getElem?_eq_some_iff.1 e).1
 cases b with
 | cells cs=>
  cases mb with
  | blk b=>cases ho;obtain⟨_,h1,_⟩:=hb;exact key h1
  | _=>exact hb.elim
 | eu cs=>
  cases mb with
  | bM b=>cases ho
  | _=>exact hb.elim
 | list k ex t l=>
  cases mb with
  | lst x=>
   cases (hb:LR X P B m h k ex t l x) with
   | nil=>cases ho
   | emp=>simp[MB.own] at ho
   | some h1 _ _ h4=>
    simp only[MB.own] at ho
    split at ho
    ·cases ho
    ·cases ho;exact key h4
  | _=>exact hb.elim
 | map es=>
  cases mb with
  | blk b=>cases ho;obtain⟨_,h1,_⟩:=hb;exact key h1
  | _=>exact hb.elim
 | oH cs=>
  cases mb with
  | blk b=>cases ho;obtain⟨_,h1,_⟩:=hb;exact key h1
  | _=>exact hb.elim
 | rP es=>
  cases mb with
  | bM b=>cases ho
  | _=>exact hb.elim
 | aV r n seen=>
  cases mb with
  | blk b=>cases ho;obtain⟨_,h1,_⟩:=hb;exact key h1
  | _=>exact hb.elim
 | mark=>
  cases mb with
  | blk b=>cases ho;exact key hb
  | _=>exact hb.elim
 | loop=>
  cases mb with
  | blk b=>cases ho;obtain⟨_,h1,_⟩:=hb;exact key h1
  | _=>exact hb.elim
 | gone=>
  cases mb with
  | gone=>cases ho
  | _=>exact hb.elim
theorem HR.inb (hr:HR X P A m H h) {c:Nat} (hc:c∈blks m):c<h.length:=by
 obtain⟨mb,hm,ho⟩:=List.mem_filterMap.1 hc
 obtain⟨i,hi⟩:=List.getElem?_of_mem hm
 have:i<H.length:=by rw[←hr.len];exact (List.getElem?_eq_some_iff.1 hi).1
 obtain⟨mb',h1,h2⟩:=hr.at_ i H[i] (List.getElem?_eq_getElem this)
 rw[hi] at h1;cases h1
 exact h2.has ho
theorem dF (a b:List MB):blks (a++b)=blks a++blks b:=List.filterMap_append ..
theorem eU (mb:MB):blks [mb]=mb.own.toList:=by unfold blks;simp[List.filterMap_cons];cases mb.own<;>rfl
theorem kU (ms:List MB):Up m (m++ms):=fun i mb hi=>.inl (by rw[List.getElem?_append_left (List.getElem?_eq_some_iff.1 hi).1];exact hi)
theorem HR.push (hr:HR X P A m H h) {pb:PB X.Γ} {hb:HB} {mb:MB} (ho:mb.own=some h.length∨mb.own=none) (hb':BR X P (AA A (m++[mb])) (m++[mb]) (h++[hb]) pb mb) :
  HR X P A (m++[mb]) (H++[pb]) (h++[hb])∧Fr m h (m++[mb]) (h++[hb])∧Up m (m++[mb]):=by
 have hF:Fr m h (m++[mb]) (h++[hb]):=by
  refine⟨by simp,fun b hb _=>by rw[List.getElem?_append_left hb],fun b hb=>?_,fun b cs hc=>⟨cs,?_,Nat.le_refl _⟩⟩
  ·rw[dF,List.mem_append,eU] at hb
   rcases hb with hb | hb
   ·exact .inl hb
   ·rcases ho with ho | ho<;>rw[ho] at hb<;>simp at hb
    exact .inr (by omega)
  ·rw[bI (List.getElem?_append_left (bQ hc)),hc]
 refine⟨hr.next hF (kU _) (by simp[hr.len]) ?_ fun i b hi=>?_,hF,kU _⟩
 ·rw[dF,eU]
  refine List.nodup_append.2 ⟨hr.nodup,?_,?_⟩
  ·cases mb.own<;>simp
  ·intro a ha b hb e
   subst e
   have:=hr.inb ha
   rcases ho with ho | ho<;>rw[ho] at hb<;>simp at hb
   omega
 ·rcases Nat.lt_or_ge i H.length with hlt | hge
  ·left
   rw[List.getElem?_append_left hlt] at hi
   obtain⟨mb',h1,h2⟩:=hr.at_ i b hi
   refine⟨mb',hi,h1,by rw[List.getElem?_append_left (by rw[hr.len];exact hlt)];exact h1,fun c hc=>?_⟩
   rw[List.getElem?_append_left (h2.has hc)]
  ·right
   rw[List.getElem?_append_right hge] at hi
   have:i-H.length=0:=by
    rcases Nat.eq_zero_or_pos (i-H.length) with h | h
    ·exact h
    ·rw[List.getElem?_eq_none (by simp;omega)] at hi;cases hi
   rw[this] at hi
   simp only[List.getElem?_cons_zero,Option.some.injEq] at hi
   subst hi
   exact⟨mb,by rw[List.getElem?_append_right (by rw[hr.len];exact hge),hr.len,this];rfl,hb'⟩
theorem HR.UQ (hr:HR X P A m H h) {pb:PB X.Γ} {mb:MB} (ho:mb.own=none) (hb':BR X P (AA A (m++[mb])) (m++[mb]) h pb mb) :
  HR X P A (m++[mb]) (H++[pb]) h∧Fr m h (m++[mb]) h∧Up m (m++[mb]):=by
 have hbl:blks (m++[mb])=blks m:=by rw[dF,eU,ho];simp
 have hF:Fr m h (m++[mb]) h:=⟨Nat.le_refl _,fun _ _ _=>rfl,fun b hb=>.inl (hbl▸hb),fun b cs hc=>⟨cs,hc,Nat.le_refl _⟩⟩
 refine⟨hr.next hF (kU _) (by simp[hr.len]) (by rw[hbl];exact hr.nodup) fun i b hi=>?_,hF,kU _⟩
 rcases Nat.lt_or_ge i H.length with hlt | hge
 ·left
  rw[List.getElem?_append_left hlt] at hi
  obtain⟨mb',h1,h2⟩:=hr.at_ i b hi
  exact⟨mb',hi,h1,by rw[List.getElem?_append_left (by rw[hr.len];exact hlt)];exact h1,fun c hc=>rfl⟩
 ·right
  rw[List.getElem?_append_right hge] at hi
  have:i-H.length=0:=by
   rcases Nat.eq_zero_or_pos (i-H.length) with h | h
   ·exact h
   ·rw[List.getElem?_eq_none (by simp;omega)] at hi;cases hi
  rw[this] at hi
  simp only[List.getElem?_cons_zero,Option.some.injEq] at hi
  subst hi
  exact⟨mb,by rw[List.getElem?_append_right (by rw[hr.len];exact hge),hr.len,this];rfl,hb'⟩
theorem HR.set (hr:HR X P A m H h) {i c:Nat} {mb:MB} {pb:PB X.Γ} {hb:HB} (hi:m[i]? = some mb) (ho:mb.own=some c) (hg:∀ cs,aB h c=some cs→∃ cs',aB (h.set c hb) c=some cs'∧cs.length≤cs'.length)
  (hb':Fr m h m (h.set c hb)→BR X P (AA A m) m (h.set c hb) pb mb):HR X P A m (H.set i pb) (h.set c hb)∧Fr m h m (h.set c hb):=by
 have hF:Fr m h m (h.set c hb):=by
  refine⟨by simp,fun b hb hn=>?_,fun b hb=>.inl hb,fun b cs hc=>?_⟩
  ·rw[List.getElem?_set_ne]
   intro e;subst e;exact hn (aC hi ho)
  ·by_cases e:c=b
   ·subst e;exact hg cs hc
   ·exact⟨cs,by rw[bI (List.getElem?_set_ne e),hc],Nat.le_refl _⟩
 refine⟨hr.next hF .refl (by simp[hr.len]) hr.nodup fun j b hj=>?_,hF⟩
 by_cases e:i=j
 ·subst e
  rw[List.getElem?_set_self' ] at hj
  right
  have:H[i]?.isSome:=by
   have:i<H.length:=by rw[←hr.len];exact (List.getElem?_eq_some_iff.1 hi).1
   simp[this]
  obtain⟨y,hy⟩:=Option.isSome_iff_exists.1 this
  rw[hy] at hj;cases hj
  exact⟨mb,hi,hb' hF⟩
 ·rw[List.getElem?_set_ne e] at hj
  left
  obtain⟨mb',h1,h2⟩:=hr.at_ j b hj
  refine⟨mb',hj,h1,h1,fun d hd=>List.getElem?_set_ne fun e2=>?_⟩
  subst e2
  exact e (dw hr.nodup hi h1 ho hd)
theorem sF {i:Nat}:∀ {m:List MB} {b:Nat},b∈blks (m.set i .gone)→b∈blks m:=by
 intro m b hb
 obtain⟨mb,hm,ho⟩:=List.mem_filterMap.1 hb
 obtain⟨j,hj⟩:=List.getElem?_of_mem hm
 by_cases e:i=j
 ·subst e
  rw[List.getElem?_set_self'] at hj
  cases hx:m[i]? with
  | none=>rw[hx] at hj;cases hj
  | some y=>rw[hx] at hj;cases hj;cases ho
 ·rw[List.getElem?_set_ne e] at hj
  exact aC hj ho
theorem Ba {i:Nat}:∀ {m:List MB},(blks m).Nodup→(blks (m.set i .gone)).Nodup:=by
 unfold blks
 intro m
 induction m generalizing i with
 | nil=>intro h;simp
 | cons x r ih=>
  intro hn
  cases i with
  | zero=>
   simp only[List.set_cons_zero,List.filterMap_cons,MB.own]
   simp only[List.filterMap_cons] at hn
   split at hn
   ·exact hn
   ·exact (List.nodup_cons.1 hn).2
  | succ i=>
   simp only[List.set_cons_succ,List.filterMap_cons]
   simp only[List.filterMap_cons] at hn
   split at hn
   ·exact ih hn
   ·refine List.nodup_cons.2 ⟨fun hb=>(List.nodup_cons.1 hn).1 ?_,ih (List.nodup_cons.1 hn).2⟩
    exact sF (m:=r) hb
theorem KW {i:Nat}:Fr m h (m.set i .gone) h:=⟨Nat.le_refl _,fun _ _ _=>rfl,fun _ hb=>.inl (sF hb),fun _ cs hc=>⟨cs,hc,Nat.le_refl _⟩⟩
theorem KY {i:Nat}:Up m (m.set i .gone):=fun j mb hj=>by
 by_cases e:i=j
 ·subst e;right;rw[List.getElem?_set_self',hj];rfl
 ·left;rw[List.getElem?_set_ne e];exact hj
theorem HR.gone (hr:HR X P A m H h) (i:Nat):HR X P A (m.set i .gone) (H.set i .gone) h:=by
 refine hr.next KW KY (by simp[hr.len]) (Ba hr.nodup) fun j b hj=>?_
 by_cases e:i=j
 ·subst e
  right
  rw[List.getElem?_set_self'] at hj
  cases hx:H[i]? with
  | none=>rw[hx] at hj;cases hj
  | some y=>
   rw[hx] at hj;cases hj
   obtain⟨mb,h1,_⟩:=hr.at_ i y hx
   exact⟨.gone,by rw[List.getElem?_set_self',h1];rfl,trivial⟩
 ·rw[List.getElem?_set_ne e] at hj
  left
  obtain⟨mb,h1,_⟩:=hr.at_ j b hj
  exact⟨mb,hj,h1,by rw[List.getElem?_set_ne e];exact h1,fun _ _=>rfl⟩
def aS:List Nat→List MB→List MB
 | [],m=>m
 | i::is,m=>aS is (m.set i .gone)
theorem fV:∀ (is:List Nat) (m:List MB),Fr m h (aS is m) h∧Up m (aS is m)
 | [],m=>⟨.refl,.refl⟩
 | i::is,m=>⟨KW.trans (fV is _).1,KY.trans (fV is _).2⟩
theorem HR.aI:∀ (is:List Nat) {m:List MB} {H:List (PB X.Γ)},HR X P A m H h→HR X P A (aS is m) (aI is H) h
 | [],_,_,hr=>hr
 | i::is,_,_,hr=>HR.aI is (hr.gone i)
theorem pW:∀ (is:List Nat) (H:List (PB X.Γ)),(Pv.aI is H).length=H.length
 | [],_=>rfl
 | i::is,H=>by rw[Pv.aI,pW is];simp[Gj]
theorem eX:∀ (is:List Nat) (m:List MB),(aS is m).length=m.length
 | [],_=>rfl
 | i::is,m=>by rw[aS,eX is];simp
theorem pX:∀ (is:List Nat) {m:List MB} {i:Nat} {mb:MB},m[i]? = some mb→(aS is m)[i]? = some (if is.contains i then .gone else mb)
 | [],_,_,_,h=>by simpa[aS] using h
 | j::is,m,i,mb,h=>by
  rw[aS]
  by_cases e:j=i
  ·subst e
   have:(m.set j .gone)[j]? = some .gone:=by rw[List.getElem?_set_self',h];rfl
   rw[pX is this]
   simp
  ·rw[pX is (by rw[List.getElem?_set_ne e];exact h)]
   have:(i==j)=false:=by simp;omega
   simp only[List.contains_cons,this,Bool.false_or]
end
end Pv
namespace Pv
open Go Tw
section
variable {X:gZ} {P:Program} {A:Nat→Prop} {m m':List MB} {h h':List HB} {H H':List (PB X.Γ)}
theorem aG.nil:aG X P A m h [] []:=⟨rfl,fun i x y hx=>by simp at hx⟩
theorem aG.cons {v:PV X.Γ} {x:TV} {vs:List (PV X.Γ)} {xs:List TV} (h1:VR X P A m h v x) (h2:aG X P A m h vs xs):aG X P A m h (v::vs) (x::xs):=by
 refine⟨by simp[h2.1],fun i a b ha hb=>?_⟩
 cases i with
 | zero=>simp only[List.getElem?_cons_zero,Option.some.injEq] at ha hb;subst ha;subst hb;exact h1
 | succ i=>exact h2.2 i a b (by simpa using ha) (by simpa using hb)
theorem aG.inv {v:PV X.Γ} {vs:List (PV X.Γ)} {xs:List TV} (hv:aG X P A m h (v::vs) xs):∃ x r,xs=x::r∧VR X P A m h v x∧aG X P A m h vs r:=by
 cases xs with
 | nil=>have:=hv.1;simp at this
 | cons x r=>exact⟨x,r,rfl,hv.2 0 v x rfl rfl,by have:=hv.1;simpa using this,fun i a b ha hb=>hv.2 (i+1) a b (by simpa using ha) (by simpa using hb)⟩
theorem aG.inv0 {xs:List TV} (hv:aG X P A m h [] xs):xs=[]:=by have:=hv.1;cases xs<;>simp_all
theorem aG.app {a b:List (PV X.Γ)} {x y:List TV} (h1:aG X P A m h a x) (h2:aG X P A m h b y):aG X P A m h (a++b) (x++y):=by
 refine⟨by simp[h1.1,h2.1],fun i c d hc hd=>?_⟩
 rcases Nat.lt_or_ge i a.length with hl | hl
 ·rw[List.getElem?_append_left hl] at hc
  rw[List.getElem?_append_left (by rw[←h1.1];exact hl)] at hd
  exact h1.2 i c d hc hd
 ·rw[List.getElem?_append_right hl] at hc
  rw[List.getElem?_append_right (by rw[←h1.1];exact hl),←h1.1] at hd
  exact h2.2 _ c d hc hd
theorem aG.drop {a:List (PV X.Γ)} {x:List TV} (h1:aG X P A m h a x) (n:Nat):aG X P A m h (a.drop n) (x.drop n):=
 ⟨by simp[h1.1],fun i c d hc hd=>h1.2 (n+i) c d (by rw[←hc,List.getElem?_drop]) (by rw[←hd,List.getElem?_drop])⟩
theorem aG.take {a:List (PV X.Γ)} {x:List TV} (h1:aG X P A m h a x) (n:Nat):aG X P A m h (a.take n) (x.take n):=by
 refine⟨by simp[h1.1],fun i c d hc hd=>?_⟩
 rw[List.getElem?_take] at hc hd
 split at hc
 ·rename_i hl
  rw[if_pos hl] at hd
  exact h1.2 i c d hc hd
 ·cases hc
theorem aG.get {a:List (PV X.Γ)} {x:List TV} (h1:aG X P A m h a x) {i:Nat} {c:PV X.Γ} (hc:a[i]? = some c):∃ v,x[i]? = some v∧VR X P A m h c v:=by
 have hl:i<x.length:=by rw[←h1.1];exact (List.getElem?_eq_some_iff.1 hc).1
 exact⟨x[i],List.getElem?_eq_getElem hl,h1.2 i c _ hc (List.getElem?_eq_getElem hl)⟩
theorem DR {v:PV X.Γ} {x tv:TV} (hv:VR X P A m h v x) (hp:kQ v=some tv):x=tv:=by
 cases hv with
 | gone hi _ _=>cases v<;>simp[aF] at hi<;>simp[kQ] at hp
 | _=>first | (simp only[kQ,Option.some.injEq] at hp;exact hp) | (simp[kQ] at hp;done)
theorem Bc:∀ {vs:List (PV X.Γ)} {xs Nl:List TV},aG X P A m h vs xs→jd vs=some Nl→xs=Nl
 | [],xs,Nl,hv,hp=>by simp only[jd,Option.some.injEq] at hp;rw[hv.inv0,hp]
 | v::vs,xs,Nl,hv,hp=>by
  obtain⟨x,r,rfl,h1,h2⟩:=hv.inv
  simp only[jd] at hp
  split at hp
  ·rename_i a b ha hb
   cases hp
   rw[DR h1 ha,Bc h2 hb]
  ·cases hp
theorem gQ {v:PV X.Γ} {x tv:TV} (hv:VR X P A m h v x) (hp:pI v=some tv):x=tv:=by
 cases v with
 | agg cs=>
  simp only[pI,Option.map_eq_some_iff] at hp
  obtain⟨Nl,h1,rfl⟩:=hp
  cases hv with
  | agg h2 h3=>rw[Bc ⟨h2,h3⟩ h1]
  | gone hi _ _=>simp[aF] at hi
 | _=>exact DR hv hp
theorem KZ:∀ {vs:List (PV X.Γ)} {xs Nl:List TV},aG X P A m h vs xs→N9 vs=some Nl→xs=Nl
 | [],xs,Nl,hv,hp=>by simp only[N9,Option.some.injEq] at hp;rw[hv.inv0,hp]
 | v::vs,xs,Nl,hv,hp=>by
  obtain⟨x,r,rfl,h1,h2⟩:=hv.inv
  simp only[N9] at hp
  split at hp
  ·rename_i a b ha hb
   cases hp
   rw[gQ h1 ha,KZ h2 hb]
  ·cases hp
theorem Pj {v:PV X.Γ} {x:TV} (hp:O6 x=some v):VR X P A m h v x:=by
 cases x<;>simp[O6] at hp<;>subst hp<;>constructor
theorem EW:∀ {xs:List TV} {vs:List (PV X.Γ)},sK xs=some vs→aG X P A m h vs xs
 | [],vs,hp=>by simp only[sK,Option.some.injEq] at hp;subst hp;exact .nil
 | x::xs,vs,hp=>by
  simp only[sK] at hp
  split at hp
  ·rename_i a b ha hb
   cases hp
   exact .cons (Pj ha) (EW hb)
  ·cases hp
theorem kW {v:PV X.Γ} {x:TV} (hp:Na x=some v):VR X P A m h v x:=by
 cases x with
 | agg cs=>
  simp only[Na,Option.map_eq_some_iff] at hp
  obtain⟨vs,h1,rfl⟩:=hp
  have:=EW (X:=X) (P:=P) (A:=A) (m:=m) (h:=h) h1
  exact .agg this.1 this.2
 | _=>exact Pj hp
theorem DT {v:PV X.Γ} {x:TV} (hp:kQ v=some x):VR X P A m h v x:=by
 cases v<;>simp only[kQ,Option.some.injEq,reduceCtorEq] at hp<;>subst hp
 ·exact .bool _
 ·exact .int _ _
 ·exact .str _
 ·exact .nil _
theorem Bd:∀ {vs:List (PV X.Γ)} {xs:List TV},jd vs=some xs→aG X P A m h vs xs
 | [],xs,hp=>by simp only[jd,Option.some.injEq] at hp;subst hp;exact .nil
 | v::vs,xs,hp=>by
  simp only[jd] at hp
  split at hp
  ·rename_i a b ha hb
   cases hp
   exact .cons (DT ha) (Bd hb)
  ·cases hp
theorem mD {v:PV X.Γ} {x:TV} (hp:pI v=some x):VR X P A m h v x:=by
 cases v with
 | agg cs=>
  simp only[pI,Option.map_eq_some_iff] at hp
  obtain⟨vs,h1,rfl⟩:=hp
  have:=Bd (X:=X) (P:=P) (A:=A) (m:=m) (h:=h) h1
  exact .agg this.1 this.2
 | _=>exact DT hp
theorem uT {v:PV X.Γ} {x:TV} (hv:VR X P A m h v x):VR X P A m h (KL v) x:=by
 cases v with
 | lit b=>
  cases hv with
  | lit=>exact .bool _
  | gone hi _ _=>simp[aF] at hi
 | _=>exact hv
theorem Pm {v:PV X.Γ} {x:TV} (hv:VR X P A m h v x):bJ x=IV v:=by
 cases hv with
 | own _ o=>exact o
 | gone hi _ o=>rw[o];cases v<;>simp[aF] at hi<;>rfl
 | _=>rfl
theorem uU {v:PV X.Γ} {x:TV} (hv:VR X P A m h v x):aG X P A m h v.cells x.cells:=by
 have hq:=Pm hv
 cases v with
 | agg cs=>
  cases hv with
  | agg h1 h2=>exact⟨h1,h2⟩
  | gone hi _ _=>simp[aF] at hi
 | bf cs=>
  have hv':=hv
  cases hv with
  | bf h1 h2=>exact .cons hv' .nil
  | gone hi _ _=>simp[aF] at hi
 | _=>
  have:x.cells=[x]:=by
   cases x<;>first | rfl | (simp[bJ,IV] at hq;done)
  rw[this]
  exact .cons hv .nil
theorem qW:∀ {vs:List (PV X.Γ)} {xs:List TV},aG X P A m h vs xs→xs.all bJ=vs.all IV
 | [],xs,hv=>by rw[hv.inv0];rfl
 | v::vs,xs,hv=>by
  obtain⟨x,r,rfl,h1,h2⟩:=hv.inv
  simp only[List.all_cons,Pm h1,qW h2]
theorem VN {cs:List (PV X.Γ)} {xs:List TV} (hv:aG X P A m h cs xs) {off n:Nat} {r:List (PV X.Γ)} (hs:VD cs off n=some r):∃ r',sub xs off n=some r'∧aG X P A m h r r':=by
 unfold VD at hs
 split at hs
 ·rename_i hl
  cases hs
  exact⟨_,by unfold sub;rw[if_pos (by rw[←hv.1];exact hl)],(hv.drop off).take n⟩
 ·cases hs
theorem uV {cs new:List (PV X.Γ)} {xs YG:List TV} (hv:aG X P A m h cs xs) (hn:aG X P A m h new YG) {off:Nat} {r:List (PV X.Γ)} (hs:AQ cs off new=some r):∃ r',over xs off YG=some r'∧aG X P A m h r r':=by
 unfold AQ at hs
 split at hs
 ·rename_i hl
  cases hs
  refine⟨_,by unfold over;rw[if_pos (by rw[←hv.1,←hn.1];exact hl)],?_⟩
  rw[←hn.1]
  exact ((hv.take off).app hn).app (hv.drop _)
 ·cases hs
theorem og {cs:List (PV X.Γ)} {xs:List TV} (hv:aG X P A m h cs xs) {t:TypeId} {off:Nat} {v:PV X.Γ} (hs:uO P t cs off=some v):∃ x,partT P t xs off=some x∧VR X P A m h v x:=by
 unfold uO at hs
 unfold partT
 split at hs
 ·rename_i n ha hn
  simp only[Option.map_eq_some_iff] at hs
  obtain⟨r,h1,rfl⟩:=hs
  obtain⟨r',g1,g2⟩:=VN hv h1
  exact⟨.agg r',by simp only[ha,hn,g1,Option.map_some],.agg g2.1 g2.2⟩
 ·rename_i n ha hn
  split at hs
  ·rename_i h1
   obtain⟨x,g1,g2⟩:=hv.get hs
   exact⟨x,by simp only[ha,hn,h1,if_true,g1],g2⟩
  ·cases hs
 ·cases hs
theorem uX {t:TypeId} {z:List (PV X.Γ)} (hz:DI P t=some z):∃ z',uf P t=some z'∧aG X P A m h z z':=by
 unfold DI at hz
 split at hz
 ·rename_i z' h1
  exact⟨z',h1,EW hz⟩
 ·cases hz
def SN (X:gZ) (P:Program) (A:Nat→Prop) (m:List MB) (h:List HB) (ps:List (Nat×PV X.Γ)) (qs:List (Nat×TV)):Prop:=
 ps.length=qs.length∧∀ (i:Nat) a b,ps[i]? = some a→qs[i]? = some b→a.1=b.1∧VR X P A m h a.2 b.2
theorem SN.inv {a:Nat×PV X.Γ} {ps:List (Nat×PV X.Γ)} {qs:List (Nat×TV)} (hv:SN X P A m h (a::ps) qs):∃ x r,qs=(a.1,x)::r∧VR X P A m h a.2 x∧SN X P A m h ps r:=by
 cases qs with
 | nil=>have:=hv.1;simp at this
 | cons q r=>
  obtain⟨h1,h2⟩:=hv.2 0 a q rfl rfl
  refine⟨q.2,r,by rw[h1],h2,by have:=hv.1;simpa using this,fun i x y hx hy=>hv.2 (i+1) x y (by simpa using hx) (by simpa using hy)⟩
theorem zu {pl:Nat→Option (Nat×Nat)}:∀ {ps:List (Nat×PV X.Γ)} {qs:List (Nat×TV)} {cs:List (PV X.Γ)} {xs:List TV},SN X P A m h ps qs→aG X P A m h cs xs→∀ {r:List (PV X.Γ)},AU pl cs ps=some r→∃ r',jl pl xs qs=some r'∧aG X P A m h r r'
 | [],qs,cs,xs,hp,hv,r,hs=>by
  have:qs=[]:=by have:=hp.1;cases qs<;>simp_all
  subst this
  simp only[AU,Option.some.injEq] at hs;subst hs
  exact⟨xs,rfl,hv⟩
 | (i,v)::ps,qs,cs,xs,hp,hv,r,hs=>by
  obtain⟨x,rest,rfl,h1,h2⟩:=hp.inv
  have hc:=uU h1
  simp only[AU] at hs
  split at hs
  ·rename_i off size hpl
   split at hs
   ·rename_i hsz
    split at hs
    ·rename_i cs' ho
     obtain⟨xs',g1,g2⟩:=uV hv hc ho
     obtain⟨r',g3,g4⟩:=zu h2 g2 hs
     have hsz':x.cells.length=size:=by rw[←hc.1];exact hsz
     exact⟨r',by simp only[jl,hpl,hsz',if_true,g1,g3],g4⟩
    ·cases hs
   ·cases hs
  ·cases hs
theorem Pn {t:TypeId} {ps:List (Nat×PV X.Γ)} {qs:List (Nat×TV)} (hp:SN X P A m h ps qs) {v:PV X.Γ} (hs:IY P t ps=some v):∃ x,wF P t qs=some x∧VR X P A m h v x:=by
 unfold IY at hs
 unfold wF
 split at hs
 ·rename_i z fs hz hu
  obtain⟨z',g1,g2⟩:=uX (A:=A) (m:=m) (h:=h) hz
  split at hs
  ·rename_i ha
   simp only[Option.map_eq_some_iff] at hs
   obtain⟨r,h1,rfl⟩:=hs
   obtain⟨r',g3,g4⟩:=zu hp g2 h1
   exact⟨.agg r',by simp only[g1,hu,ha,if_true,g3,Option.map_some],.agg g4.1 g4.2⟩
  ·cases hs
 ·rename_i z n e hz hu
  obtain⟨z',g1,g2⟩:=uX (A:=A) (m:=m) (h:=h) hz
  split at hs
  ·rename_i k hk
   simp only[Option.map_eq_some_iff] at hs
   obtain⟨r,h1,rfl⟩:=hs
   obtain⟨r',g3,g4⟩:=zu hp g2 h1
   exact⟨.agg r',by simp only[g1,hu,hk,g3,Option.map_some],.agg g4.1 g4.2⟩
  ·cases hs
 ·cases hs
theorem Gq {z:List (PV X.Γ)} {z':List TV} (hz:aG X P A m h z z'):∀ n,aG X P A m h (IZ z n) (times z' n)
 | 0=>.nil
 | n+1=>hz.app (Gq hz n)
section
variable {env:List (Nat×PE X.Γ)} {env':List (Nat×EV)}
theorem L6 (he:fH X P A m h env env') {t:Nat}:(rZ t env=none∧aK t env'=none)∨∃ v x,rZ t env=some v∧aK t env'=some x∧PER X P A m h v x:=by
 induction he with
 | nil=>exact .inl ⟨rfl,rfl⟩
 | cons h1 _ ih=>
  rename_i k v x r r' _
  simp only[rZ,aK]
  by_cases e:k=t
  ·right;exact⟨v,x,by rw[if_pos e],by rw[if_pos e],h1⟩
  ·rw[if_neg e,if_neg e];exact ih
theorem iq (he:fH X P A m h env env') {t:Nat} {v:PE X.Γ} (hl:rZ t env=some v):∃ x,aK t env'=some x∧PER X P A m h v x:=by
 rcases L6 he (t:=t) with⟨h1,_⟩ | ⟨w,x,h1,h2,h3⟩
 ·rw[hl] at h1;cases h1
 ·rw[hl] at h1;cases h1;exact⟨x,h2,h3⟩
theorem iP (he:fH X P A m h env env') {o:Operand} {v:PE X.Γ} (hl:wX env o=some v):∃ x,xZ env' o=some x∧PER X P A m h v x:=by
 cases o with
 | tmp t=>exact iq he hl
 | const c=>
  simp only[wX] at hl
  split at hl
  ·rename_i b hb
   cases hl
   exact⟨.val (.bool b),by simp only[xZ,hb,Option.map_some],VR.lit b⟩
  ·rename_i x _ hx
   simp only[Option.map_eq_some_iff] at hl
   obtain⟨w,h1,rfl⟩:=hl
   exact⟨.val x,by simp only[xZ,hx,Option.map_some],kW h1⟩
  ·cases hl
 | func f=>
  simp only[wX,Option.some.injEq] at hl;subst hl
  exact⟨.val (.fn f [] []),rfl,.fn rfl (by simp) rfl (by simp)⟩
 | global g=>cases hl
theorem bK {v:PV X.Γ} {x:EV} (hp:PER X P A m h (.val v) x):∃ y,x=.val y∧VR X P A m h v y:=by
 cases x with
 | val y=>exact⟨y,rfl,hp⟩
 | _=>exact hp.elim
theorem qX {k o:Nat} {x:EV} (hp:PER X P A m h (.loc k o) x):x=.loc k o:=by
 cases x with
 | loc k' o'=>obtain⟨rfl,rfl⟩:=hp;rfl
 | _=>exact hp.elim
theorem xg {x:EV} (hp:PER X P A m h .undef x):x=.undef:=by
 cases x with
 | undef=>rfl
 | _=>exact hp.elim
theorem Gs (he:fH X P A m h env env') {o:Operand} {v:PV X.Γ} (hl:KN env o=some v):∃ x,jP env' o=some x∧VR X P A m h v x:=by
 unfold KN at hl
 split at hl
 ·rename_i w hw
  cases hl
  obtain⟨x,h1,h2⟩:=iP he hw
  obtain⟨y,rfl,h3⟩:=bK h2
  exact⟨y,by simp only[jP,h1],h3⟩
 ·cases hl
theorem eF (he:fH X P A m h env env') {o:Operand} {v:PV X.Γ} (hl:su env o=some v):∃ x,jP env' o=some x∧VR X P A m h v x:=by
 unfold su at hl
 split at hl
 ·rename_i w hw
  cases hl
  obtain⟨x,h1,h2⟩:=iP he hw
  obtain⟨y,rfl,h3⟩:=bK h2
  exact⟨y,by simp only[jP,h1],uT h3⟩
 ·cases hl
theorem EX (he:fH X P A m h env env'):∀ {os:List Operand} {vs:List (PV X.Γ)},IW env os=some vs→∃ xs,zL env' os=some xs∧aG X P A m h vs xs
 | [],vs,hl=>by simp only[IW,Option.some.injEq] at hl;subst hl;exact⟨[],rfl,.nil⟩
 | o::os,vs,hl=>by
  simp only[IW] at hl
  split at hl
  ·rename_i v ws h1 h2
   cases hl
   obtain⟨x,g1,g2⟩:=eF he h1
   obtain⟨xs,g3,g4⟩:=EX he h2
   exact⟨x::xs,by simp only[zL,g1,g3],.cons g2 g4⟩
  ·cases hl
theorem Je (he:fH X P A m h env env'):∀ {os:List (Nat×Operand)} {vs:List (Nat×PV X.Γ)},Nb env os=some vs→∃ xs,CP env' os=some xs∧SN X P A m h vs xs
 | [],vs,hl=>by simp only[Nb,Option.some.injEq] at hl;subst hl;exact⟨[],rfl,rfl,fun i a b ha=>by simp at ha⟩
 | (i,o)::os,vs,hl=>by
  simp only[Nb] at hl
  split at hl
  ·rename_i v ws h1 h2
   cases hl
   obtain⟨x,g1,g2⟩:=eF he h1
   obtain⟨xs,g3,g4⟩:=Je he h2
   refine⟨(i,x)::xs,by simp only[CP,g1,g3],by simp[g4.1],fun j a b ha hb=>?_⟩
   cases j with
   | zero=>simp only[List.getElem?_cons_zero,Option.some.injEq] at ha hb;subst ha;subst hb;exact⟨rfl,g2⟩
   | succ j=>exact g4.2 j a b (by simpa using ha) (by simpa using hb)
  ·cases hl
def OR (X:gZ) (P:Program) (A:Nat→Prop) (m:List MB) (h:List HB):Option (PV X.Γ)→Option TV→Prop
 | none,none=>True
 | some v,some x=>VR X P A m h v x
 | _,_=>False
theorem uY (he:fH X P A m h env env') {o:Option Operand} {v:Option (PV X.Γ)} (hl:AP env o=some v):∃ x,CQ env' o=some x∧OR X P A m h v x:=by
 cases o with
 | none=>simp only[AP,Option.some.injEq] at hl;subst hl;exact⟨none,rfl,trivial⟩
 | some o=>
  simp only[AP] at hl
  split at hl
  ·rename_i w hw
   cases hl
   obtain⟨x,g1,g2⟩:=eF he hw
   exact⟨some x,by simp only[CQ,g1],g2⟩
  ·cases hl
theorem EY (he:fH X P A m h env env'):∀ live,fH X P A m h (gG live env) (pick live env')
 | []=>.nil
 | t::r=>by
  simp only[gG,pick]
  rcases L6 he (t:=t) with⟨h1,h2⟩ | ⟨v,x,h1,h2,h3⟩
  ·rw[h1,h2];exact EY he r
  ·rw[h1,h2];exact .cons h3 (EY he r)
theorem SQ (he:fH X P A m h env env') {t:Nat} {b:Bool} (hb:aK t env'=some (.val (.bool b))):fH X P A m h (Pv.know t b env) env':=by
 induction he with
 | nil=>exact .nil
 | cons h1 h2 ih=>
  rename_i k v x r r'
  simp only[aK] at hb
  simp only[Pv.know]
  by_cases e:k=t
  ·rw[if_pos e] at hb ⊢
   cases hb
   exact .cons (VR.lit b) h2
  ·rw[if_neg e] at hb ⊢
   exact .cons h1 (ih hb)
theorem VO (he:fH X P A m h env env'):Jd X env=rM env':=by
 induction he with
 | nil=>rfl
 | cons h1 _ ih=>
  rename_i k v x r r' _
  cases v with
  | val v=>obtain⟨y,rfl,_⟩:=bK h1;simpa[Jd,rM] using ih
  | loc a b=>rw[qX h1];simp only[Jd,rM,ih]
  | undef=>rw[xg h1];simpa[Jd,rM] using ih
end
end
end Pv
