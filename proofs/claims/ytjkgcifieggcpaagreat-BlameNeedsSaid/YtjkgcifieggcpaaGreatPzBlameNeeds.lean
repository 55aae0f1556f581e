/- The facts that are in all sets that explain any goal are as the document says, or the error is (statement BlameNeeds: at most 8 Sizes and numbers of an Order, at most 40 places, at most 7 facts, or 9 or 10; diagrams with at most 62 ends, and 70 nodes of at most 12 kids). -/
import Derived.Test.YtjkgcifieggcpaaGreatRows
import Derived.ProofKit
import Derived.Test.YtjkgcifieggcpaaGreatP16
set_option linter.constructorNameAsVariable false
set_option linter.unusedVariables false
set_option linter.unusedSimpArgs false
set_option linter.unusedSectionVars false
namespace Go.Proofs.YtjkgcifieggcpaaGreat
open Go Tw Pv fA
theorem a8b {s:List Int} (hs:yP s):∀ {o:List Int},(∀ c∈o,zl c s.length)→1≤wO s o
 | [],_=>Nat.le_refl _
 | c::r,h=>by
  have h1:=a8b hs (o:=r) fun c hc=>h c (by simp[hc])
  obtain⟨h2,h3⟩:=h c (by simp)
  have h4:=hs _ (getD_mem (s:=s) (k:=c.toNat) (by omega))
  have h5:1*1≤(s.getD c.toNat 0).toNat*wO s r:=Nat.mul_le_mul (by omega) h1
  simpa[wO] using h5
theorem a6c (E:List V) (v:V):(Qo E v).length≤E.length+1:=by
 unfold Qo;split<;>simp
theorem a8c (N:List Br) (c:Int) (ks:List Int):(a3B N c ks).length≤N.length+1:=by
 unfold a3B;split
 ·omega
 ·split<;>simp
theorem a6F {f:List Int→EN→Int×EN} {c:Int} {p:List Int} {n w:Nat} (h:∀ q x,(f q x).2.1.length≤x.1.length+w∧(f q x).2.2.length+1≤x.2.length+w) (x:EN):(qj (gPt f c p) n 0 ([],x)).1.length=n∧(qj (gPt f c p) n 0 ([],x)).2.1.length≤x.1.length+n*w∧(qj (gPt f c p) n 0 ([],x)).2.2.length+n≤x.2.length+n*w:=by
 have:=NC (g:=gPt f c p) (m:=n) (k:=0) (s:=([],x)) (fun k y=>y.1.length=k∧y.2.1.length≤x.1.length+k*w∧y.2.2.length+k≤x.2.length+k*w) ⟨rfl,by simp,by simp⟩ (fun j y _ _ hy=>by
  obtain⟨h1,h2,h3⟩:=hy
  have:=h (p.set c.toNat j) y.2
  refine⟨by simp[gPt,h1],?_,?_⟩
  ·simp only[gPt,Nat.add_mul,Nat.one_mul];omega
  ·simp only[gPt,Nat.add_mul,Nat.one_mul];omega)
 rw[Nat.zero_add] at this
 exact this
theorem a8d {s:List Int} {l:List V} (hs:yP s):∀ (o p:List Int) (x:EN),(∀ c∈o,zl c s.length)→(TR s l o p x).2.1.length≤x.1.length+wO s o∧(TR s l o p x).2.2.length+1≤x.2.length+wO s o
 | [],p,x,_=>by
  have:=a6c x.1 (l.getD (TA s p).toNat V0)
  exact⟨this,by simp[TR,wO]⟩
 | c::r,p,x,h=>by
  obtain⟨h1,h2,h3⟩:=a6F (f:=TR s l r) (c:=c) (p:=p) (n:=(s.getD c.toNat 0).toNat) (w:=wO s r) (fun q x=>a8d hs r q x fun c hc=>h c (by simp[hc])) x
  obtain⟨i1,i2⟩:=h c (by simp)
  have h4:=hs _ (getD_mem (s:=s) (k:=c.toNat) (by omega))
  simp only[TR,wO]
  generalize qj (gPt (TR s l r) c p) (s.getD c.toNat 0).toNat 0 ([],x)=y at h1 h2 h3
  refine⟨h2,?_⟩
  by_cases hn:(s.getD c.toNat 0).toNat=1
  ·have e:a3B y.2.2 c y.1=y.2.2:=by
    unfold a3B
    rw[if_pos]
    rw[hn] at h1
    match hy:y.1,h1 with
    | [a],_=>simp
   rw[e];omega
  ·have:=a8c y.2.2 c y.1
   omega
abbrev dP (s o:List Int) (i j:Nat):PV bF:=.agg [lI s,lI o,.own i,.own j,.int .i64 0]
abbrev d0P:List (PV bF):=[.nil .slc,.nil .slc,.nil .slc,.nil .slc,.int .i64 0]
abbrev w1P (s o:List Int) (v:V) (i:Int) (x:List (Nat×PE bF)) (H:List (PB bF)):aP bF:=⟨[(4,.loc 0 0),(8,.loc 1 0),(10,.loc 2 0),(11,xi i)]++x,[[lI s,lI o,.own 0,.own 1,.int .i64 0],d0P,v.ps],H⟩
def z1P (s o:List Int) (E:List V) (v:V) (H:List (PB bF)):Unit⊕Nat→Ex×aP bF
 | .inl _=>(.exit 0,w1P s o v E.length [(33,xl false)] H)
 | .inr k=>(.ret,⟨[(8,.loc 1 0),(9,xi (IntKind.i64.wrap (-1-(k:Int))))],[[lI s,lI o,.own 0,.own 1,.int .i64 0],[lI s,lI o,.own 0,.own 1,.int .i64 0],v.ps],H⟩)
abbrev c1P (E:List V) (v:V) (k:Nat):Bool:=decide (E.getD k V0=v)
theorem l1P {n:Nat} (hO:Ok n a0K) (s o:List Int) {E:List V} (N:List Br) (v:V) (pl:List Int) (ko ex:Bool) (hl:E.length≤most):LpB n 83 0 3 (w1P s o v 0 [] [lsV E,lsB N,oI ko ex pl]) (z1P s o E v [lsV E,lsB N,oI ko ex pl] (mF (c1P E v) E.length)).1 (z1P s o E v [lsV E,lsB N,oI ko ex pl] (mF (c1P E v) E.length)).2:=
 searchL (st:=fun i _=>w1P s o v i [] [lsV E,lsB N,oI ko ex pl]) (fun _ _=>True) (by kernel_rfl) hl trivial (fun k u m hk _ ih=>round hX hO (by kernel_rfl) (.b (WC hk) (.o (dB hk) (.q (.bool (c1P E v k)) (D6 (.tmp 40) (.tmp 41) (E.getD k V0) v) (.ls (.ou nofun) (.nx (ih _ trivial)))))))
  (fun _ _=>round hX hO (by kernel_rfl) (.b (YZ E.length) (.ou nofun)))
theorem a5D {α:Type} [DecidableEq α] {l:List α} {d a:α} {c:Nat→Bool} (hc:∀ k,k<l.length→c k=decide (l.getD k d=a)):(a∈l→mF c l.length=.inr (l.idxOf a))∧(a∉l→D5 (mF c l.length)=true):=by
 constructor
 ·intro h
  have hi:=List.idxOf_lt_length_iff.2 h
  have h1:c (l.idxOf a)=true:=by
   rw[hc _ hi,decide_eq_true_eq,List.getD,List.getElem?_eq_getElem hi,Option.getD_some,List.getElem_idxOf]
  cases e:D5 (mF c l.length)
  ·obtain⟨j,hj,cj,hb,e2⟩:=a2P e
   rw[e2]
   congr 1
   rcases Nat.lt_trichotomy j (l.idxOf a) with g | g | g
   ·exfalso
    rw[hc j hj,decide_eq_true_eq,List.getD,List.getElem?_eq_getElem hj,Option.getD_some] at cj
    have:=List.not_of_lt_findIdx (p:=(·==a)) g
    rw[cj] at this;simp at this
   ·exact g
   ·rw[hb _ g] at h1;cases h1
  ·rw[Fg.1 e _ hi] at h1;cases h1
 ·intro h
  refine Fg.2 fun j hj=>?_
  rw[hc j hj,decide_eq_false_iff_not,List.getD,List.getElem?_eq_getElem hj,Option.getD_some]
  rintro rfl
  exact h (List.getElem_mem hj)
abbrev w2P (s o:List Int) (l:List V) (a c:Int) (k:Nat) (x:Int) (y:List (Nat×PE bF)) (H:List (PB bF)):aP bF:=⟨[(1,xL 79 l),(2,xi a),(3,.val (.own 2)),(4,.loc 0 0),(8,.loc 1 0),(12,.loc 2 0),(13,xi x)]++y,[[lI s,lI o,.own 3,.own 4,.int .i64 0],d0P,[.int .i64 c,.own k]],H⟩
abbrev HP (pl:List Int) (ko ex:Bool) (x:EN):List (PB bF):=[.gone,.gone,oI ko ex pl,lsV x.1,lsB x.2]
theorem l2P {M:Nat} (hO:Ok M a0K) {s o:List Int} {l:List V} {a c:Int} {pl:List Int} {ko ex:Bool} {f:List Int→EN→Int×EN} {w:Nat} (hs:yP s) (hc:zl c s.length) (hp:xB s pl=true) (hpm:pl.length≤most) (x:EN) (hl:∀ q x,(f q x).2.1.length≤x.1.length+w∧(f q x).2.2.length+1≤x.2.length+w)
  (hx:x.1.length+(s.getD c.toNat 0).toNat*w≤most∧x.2.length+(s.getD c.toNat 0).toNat*w≤most) (Q:EN→Prop) (hQ:Q x) (hQf:∀ q y,Q y→Q (f q y).2)
  (hf:∀ q y,xB s q=true→y.1.length+w≤most→y.2.length+w≤most→Q y→nH X0 Tryz.prog (ApN M) (.fn 83 [] []) [dP s o 0 1,lV l,.int .i64 (IntKind.i64.wrap (a+1)),.own 2] [lsV y.1,lsB y.2,oI true false q] (.bf [dP s o 3 4,.int .i64 (f q y).1]) (HP q true false (f q y).2)) :
  LpB M 83 1 3 (w2P s o l a c 5 0 [] (HP pl ko ex x++[oI false false []])) (.exit 2) (w2P s o l a c 5 (((s.getD c.toNat 0).toNat:Nat):Int) [(70,xl false)] (HP pl ko ex (qj (gPt f c pl) (s.getD c.toNat 0).toNat 0 ([],x)).2++[oI false false (qj (gPt f c pl) (s.getD c.toNat 0).toNat 0 ([],x)).1])):=by
 obtain⟨c1,c2⟩:=hc
 have hz:=hs _ (getD_mem (s:=s) (k:=c.toNat) (by omega))
 have en:(((s.getD c.toNat 0).toNat:Nat):Int)=s.getD c.toNat 0:=by omega
 have hpl:=a1v hp
 have hic:zl c s.length:=⟨c1,c2⟩
 have hip:zl c pl.length:=by rw[hpl];exact hic
 have hw:∀ k,k<(s.getD c.toNat 0).toNat→k*w+w≤(s.getD c.toNat 0).toNat*w:=fun k hk=>by
  have:(k+1)*w≤(s.getD c.toNat 0).toNat*w:=Nat.mul_le_mul_right w hk
  rw[Nat.add_mul] at this;omega
 refine a0V (σ:=List Int×EN) (N:=(s.getD c.toNat 0).toNat) (g:=gPt f c pl) (s0:=([],x)) (st:=fun k y=>w2P s o l a c 5 k [] (HP pl ko ex y.2++[oI false false y.1])) (fin:=fun y=>w2P s o l a c 5 (((s.getD c.toNat 0).toNat:Nat):Int) [(70,xl false)] (HP pl ko ex y.2++[oI false false y.1])) (fun k y=>(y.1.length=k∧y.2.1.length≤x.1.length+k*w∧y.2.2.length≤x.2.length+k*w)∧Q y.2) (by kernel_rfl) (by unfold most;omega) ⟨⟨rfl,by simp,by simp⟩,hQ⟩ (fun j y hj hy=>?_) (fun j y hj hy m e p g=>?_) (fun y _=>?_)
 ·obtain⟨⟨h1,h2,h3⟩,hq⟩:=hy
  have:=hl (pl.set c.toNat j) y.2
  refine⟨⟨by simp[gPt,h1],?_,?_⟩,hQf _ _ hq⟩
  ·simp only[gPt,Nat.add_mul,Nat.one_mul];omega
  ·simp only[gPt,Nat.add_mul,Nat.one_mul];omega
 ·obtain⟨⟨h1,h2,h3⟩,hqy⟩:=hy
  have hwj:=hw j hj
  have hq:xB s (pl.set c.toNat j)=true:=a5p hp hic (by rw[←en] at hz ⊢;exact⟨by omega,by omega⟩)
  have a3N:=hf (pl.set c.toNat j) y.2 hq (by omega) (by omega) hqy
  have t1:decide ((j:Int)<s.getD c.toNat 0)=true:=by rw[decide_eq_true_eq];omega
  unfold gPt at g
  generalize f (pl.set c.toNat j) y.2=z at a3N g
  obtain⟨v,E',N'⟩:=z
  exact round hX hO (by kernel_rfl) (.o hic (.b t1 (.o hpm (.o hip (.fr [3,4,6] a3N (.o (show y.1.length+[v].length≤most by simp only[List.length_singleton];unfold most;omega) (.goG [.gc [7,8,10]] g)))))))
 ·have t1:decide ((((s.getD c.toNat 0).toNat:Nat):Int)<s.getD c.toNat 0)=false:=by rw[decide_eq_false_iff_not];omega
  exact round hX hO (by kernel_rfl) (.o hic (.b t1 .ex))
abbrev w3P (s o:List Int) (c:Int) (x:Int) (y:List (Nat×PE bF)) (H:List (PB bF)):aP bF:=⟨[(4,.loc 0 0),(8,.loc 1 0),(12,.loc 2 0),(16,xi x)]++y,[[lI s,lI o,.own 3,.own 4,.int .i64 0],d0P,[.int .i64 c,.own 5]],H⟩
def z3P (s o:List Int) (c:Int) (N:List Br) (H:List (PB bF)):Unit⊕Nat→Ex×aP bF
 | .inl _=>(.exit 4,w3P s o c N.length [(106,xl false)] H)
 | .inr k=>(.ret,⟨[(8,.loc 1 0),(9,xi (k:Int))],[[lI s,lI o,.own 3,.own 4,.int .i64 0],[lI s,lI o,.own 3,.own 4,.int .i64 0],[.int .i64 c,.own 5]],H⟩)
abbrev c3P (N:List Br) (c:Int) (ks:List Int) (k:Nat):Bool:=if ((N.getD k O4).var==c)=true then decide ((N.getD k O4).kids=ks) else false
theorem aav {N:List Br} {c:Int} {ks:List Int} {k:Nat} (_:k<N.length):c3P N c ks k=decide (N.getD k O4=⟨c,ks⟩):=by
 unfold c3P
 rcases N.getD k O4 with⟨v,l⟩
 by_cases h1:v=c
 ·by_cases h2:l=ks<;>simp[h1,h2]
 ·simp[h1]
theorem l3P {n:Nat} (hO:Ok n a0K) (s o:List Int) (E:List V) {N:List Br} (c:Int) (ks pl:List Int) (ko ex:Bool) (hl:N.length≤most) (hk:∀ b∈N,b.kids.length≤most):LpB n 83 2 3 (w3P s o c 0 [] (HP pl ko ex (E,N)++[oI false false ks])) (z3P s o c N (HP pl ko ex (E,N)++[oI false false ks]) (mF (c3P N c ks) N.length)).1 (z3P s o c N (HP pl ko ex (E,N)++[oI false false ks]) (mF (c3P N c ks) N.length)).2:=by
 refine searchL (st:=fun i _=>w3P s o c i [] (HP pl ko ex (E,N)++[oI false false ks])) (g:=gS (c3P N c ks)) (out:=z3P s o c N (HP pl ko ex (E,N)++[oI false false ks])) (fun _ _=>True) (by kernel_rfl) hl trivial (fun k u m hk2 _ ih=>?_) (fun _ _=>?_)
 ·have h1:=(Q9 (d:=O4) (p:=fun b=>b.kids.length≤most)).2 hk k hk2
  unfold gS c3P
  cases e:(N.getD k O4).var==c
  ·exact round hX hO (by kernel_rfl) (.b (WC hk2) (.o (dB hk2) (.b e (.nx (ih _ trivial)))))
  ·exact round hX hO (by kernel_rfl) (.b (WC hk2) (.o (dB hk2) (.b e (.o (dB hk2) (.o h1 (.ls (.ou nofun) (.nx (ih _ trivial))))))))
 ·exact round hX hO (by kernel_rfl) (.b (YZ N.length) (.ou nofun))
theorem a8e (c:Int) (ks:List Int):Qg ⟨c,ks⟩=ks.all fun x=>x==ks.getD 0 0:=a3X ⟨c,ks⟩
theorem aeK {n:Nat} (hO:Ok n a0K) {s o:List Int} {l:List V} (h:PtP s o l) (pl:List Int) (ko ex:Bool) (hp:xB s pl=true) (x:EN) (hx:x.1.length+1≤most):nH X0 Tryz.prog (ApN (n+1)) (.fn 83 [] []) [dP s o 0 1,lV l,.int .i64 o.length,.own 2] [lsV x.1,lsB x.2,oI ko ex pl] (.bf [dP s o 3 4,.int .i64 (IntKind.i64.wrap (-1-(x.1.idxOf (l.getD (TA s pl).toNat V0):Nat)))]) (HP pl ko ex (Qo x.1 (l.getD (TA s pl).toNat V0),x.2)):=by
 obtain⟨E,N⟩:=x
 have hr:=a3s hp h.fine.sz
 have hin:zl (TA s pl) l.length:=⟨hr.1,by rw[h.len];exact hr.2⟩
 have t0:((o.length:Int)==(o.length:Int))=true:=by simp
 have hE:E.length+1≤most:=hx
 have l1:=l1P hO s o (E:=E) N (l.getD (TA s pl).toNat V0) pl ko ex (by omega)
 have hs:=a5D (l:=E) (d:=V0) (a:=l.getD (TA s pl).toNat V0) (c:=c1P E (l.getD (TA s pl).toNat V0)) (fun _ _=>rfl)
 have hf:=h.fine
 show nH X0 Tryz.prog _ _ _ _ (.bf [_,.int .i64 (IntKind.i64.wrap (-1-(E.idxOf (l.getD (TA s pl).toNat V0):Nat)))]) (HP pl ko ex (Qo E (l.getD (TA s pl).toNat V0),N))
 by_cases c:l.getD (TA s pl).toNat V0∈E
 ·rw[show Qo E (l.getD (TA s pl).toNat V0)=E from if_pos c]
  rw[hs.1 c] at l1
  generalize E.idxOf (l.getD (TA s pl).toNat V0)=j at l1 ⊢
  exact nH.gs hX (WE hX hO (first:=[]) (cap:=[]) (v:=.bf [dP s o 0 1,.int .i64 (IntKind.i64.wrap (-1-(j:Nat)))]) (H1:=[lsV E,lsB N,oI ko ex pl]) (by kernel_rfl) (.b t0 (.o hp (.o hf (.o hin (.w l1 .er)))))) [.mv 0,.mv 1] rfl
 ·rw[show Qo E (l.getD (TA s pl).toNat V0)=E++[l.getD (TA s pl).toNat V0] from if_neg c,List.idxOf_eq_length c]
  have hi:=hs.2 c
  have hz:z1P s o E (l.getD (TA s pl).toNat V0) [lsV E,lsB N,oI ko ex pl] (mF (c1P E (l.getD (TA s pl).toNat V0)) E.length)=(.exit 0,w1P s o (l.getD (TA s pl).toNat V0) E.length [(33,xl false)] [lsV E,lsB N,oI ko ex pl]):=by
   cases e:mF (c1P E (l.getD (TA s pl).toNat V0)) E.length with
   | inl _=>rfl
   | inr _=>rw[e] at hi;cases hi
  rw[hz] at l1
  have ew:IntKind.i64.wrap (-1-(E.length:Nat))=IntKind.i64.wrap (0-((E++[l.getD (TA s pl).toNat V0]).length:Int)):=by
   rw[List.length_append,List.length_singleton];congr 1;push_cast;omega
  rw[ew]
  exact nH.gs hX (WE hX hO (first:=[]) (cap:=[]) (v:=.bf [dP s o 4 1,.int .i64 (IntKind.i64.wrap (0-((E++[l.getD (TA s pl).toNat V0]).length:Int)))]) (H1:=[.gone,lsB N,oI ko ex pl,.list true true 79 [l.getD (TA s pl).toNat V0],lsV (E++[l.getD (TA s pl).toNat V0])]) (by kernel_rfl) (.b t0 (.o hp (.o hf (.o hin (.w l1 (.o (show E.length+[l.getD (TA s pl).toNat V0].length≤most by simpa using hE) .er))))))) [.mv 1,.gc [4,5]] rfl
theorem aeL {n:Nat} (hO:Ok n a0K) {s o:List Int} {l:List V} {a:Nat} {c:Int} (ha:a<o.length) (hc:o.getD a 0=c) (pl:List Int) (ko ex:Bool) (E0:List V) (N0:List Br) (q:Int) {ks:List Int} {E:List V} {N:List Br} (hk:1≤ks.length∧ks.length≤12) (hN:N.length+1≤most) (hb:∀ b∈N,b.kids.length≤most)
  (l2:LpB n 83 1 3 (w2P s o l a c 5 0 [] (HP pl ko ex (E0,N0)++[oI false false []])) (.exit 2) (w2P s o l a c 5 q [(70,xl false)] (HP pl ko ex (E,N)++[oI false false ks]))):nH X0 Tryz.prog (ApN (n+1)) (.fn 83 [] []) [dP s o 0 1,lV l,.int .i64 a,.own 2] [lsV E0,lsB N0,oI ko ex pl] (.bf [dP s o 3 4,.int .i64 (a3A N c ks)]) (HP pl ko ex (E,a3B N c ks)):=by
 have t0:((a:Int)==(o.length:Int))=false:=by simp;omega
 have ia:zl (a:Int) o.length:=dB ha
 have hkm:ks.length≤most:=by unfold most;omega
 have i0:zl 0 ks.length:=⟨by omega,by omega⟩
 unfold a3A a3B
 subst hc
 cases hf:ks.all fun x=>x==ks.getD 0 0
 ·rw[if_neg (by simp),if_neg (by simp)]
  have hf2:Qg ⟨o.getD a 0,ks⟩=false:=by rw[a8e];exact hf
  have l3:=l3P hO s o E (o.getD a 0) ks pl ko ex (by omega) hb
  have hs:=a5D (l:=N) (d:=O4) (a:=⟨o.getD a 0,ks⟩) (c:=c3P N (o.getD a 0) ks) (fun _ h=>aav h)
  by_cases hm:(⟨o.getD a 0,ks⟩:Br)∈N
  ·rw[if_pos hm]
   rw[hs.1 hm] at l3
   generalize N.idxOf (⟨o.getD a 0,ks⟩:Br)=j at l3 ⊢
   exact nH.gs hX (WE hX hO (first:=[]) (cap:=[]) (v:=.bf [dP s o 3 4,.int .i64 (j:Nat)]) (H1:=HP pl ko ex (E,N)++[oI false false ks]) (by kernel_rfl) (.b t0 (.o ia (.wG [.mv 0,.mv 1,.YC 2 1 3] l2 (.o hkm (.b hf2 (.w l3 .er))))))) [.gc [3,4]] rfl
  ·rw[if_neg hm,List.idxOf_eq_length hm]
   have hi:=hs.2 hm
   have hz:z3P s o (o.getD a 0) N (HP pl ko ex (E,N)++[oI false false ks]) (mF (c3P N (o.getD a 0) ks) N.length)=(.exit 4,w3P s o (o.getD a 0) N.length [(106,xl false)] (HP pl ko ex (E,N)++[oI false false ks])):=by
    cases e:mF (c3P N (o.getD a 0) ks) N.length with
    | inl _=>rfl
    | inr _=>rw[e] at hi;cases hi
   rw[hz] at l3
   have ew:((N.length:Nat):Int)=IntKind.i64.wrap (((N++[(⟨o.getD a 0,ks⟩:Br)]).length:Int)-1):=by
    rw[List.length_append,List.length_singleton,zD (by unfold most at hN;omega) (by unfold most at hN;omega)];omega
   rw[ew]
   exact nH.gs hX (WE hX hO (first:=[]) (cap:=[]) (v:=.bf [dP s o 3 7,.int .i64 (IntKind.i64.wrap (((N++[(⟨o.getD a 0,ks⟩:Br)]).length:Int)-1))]) (H1:=[.gone,.gone,oI ko ex pl,lsV E,.gone,.gone,.list true true 102 [⟨o.getD a 0,ks⟩],lsB (N++[(⟨o.getD a 0,ks⟩:Br)])]) (by kernel_rfl) (.b t0 (.o ia (.wG [.mv 0,.mv 1,.YC 2 1 3] l2 (.o hkm (.b hf2 (.w l3 (.o (show N.length+[(⟨o.getD a 0,ks⟩:Br)].length≤most by simpa using hN) .er)))))))) [.gc [3,7]] rfl
 ·rw[if_pos rfl,if_pos rfl]
  have hf2:Qg ⟨o.getD a 0,ks⟩=true:=by rw[a8e];exact hf
  exact nH.gs hX (WE hX hO (first:=[]) (cap:=[]) (v:=.bf [dP s o 3 4,.int .i64 (ks.getD 0 0)]) (H1:=HP pl ko ex (E,N)++[oI false false ks]) (by kernel_rfl) (.b t0 (.o ia (.wG [.mv 0,.mv 1,.YC 2 1 3] l2 (.o hkm (.b hf2 (.o i0 .er))))))) [.gc [3,4]] rfl
theorem a5c {s:List Int} {l:List V} (hs:yP s):∀ (o p:List Int) (x:EN),(∀ c∈o,zl c s.length)→(∀ b∈x.2,b.kids.length≤12)→∀ b∈(TR s l o p x).2.2,b.kids.length≤12
 | [],p,x,_,hx=>hx
 | c::r,p,x,h,hx=>by
  have:=NC (g:=gPt (TR s l r) c p) (m:=(s.getD c.toNat 0).toNat) (k:=0) (s:=([],x)) (fun k y=>y.1.length=k∧∀ b∈y.2.2,b.kids.length≤12) ⟨rfl,hx⟩ (fun j y _ _ hy=>⟨by simp[gPt,hy.1],a5c hs r _ y.2 (fun c hc=>h c (by simp[hc])) hy.2⟩)
  rw[Nat.zero_add] at this
  obtain⟨i1,i2⟩:=h c (by simp)
  have h4:=hs _ (getD_mem (s:=s) (k:=c.toNat) (by omega))
  simp only[TR]
  generalize qj (gPt (TR s l r) c p) (s.getD c.toNat 0).toNat 0 ([],x)=y at this
  intro b hb
  unfold a3B at hb
  split at hb
  ·exact this.2 b hb
  ·split at hb
   ·exact this.2 b hb
   ·rcases List.mem_append.1 hb with hb | hb
    ·exact this.2 b hb
    ·rw[List.mem_singleton.1 hb];show y.1.length≤12;omega
theorem sPt {n0:Nat} (hO:∀ m,n0≤m→Ok m a0K) {s o:List Int} {l:List V} (h:PtP s o l):∀ (r:List Int) (a:Nat) (pl:List Int) (ko ex:Bool) (x:EN),o.drop a=r→a≤o.length→xB s pl=true→x.1.length+wO s r≤most→x.2.length+wO s r≤most→(∀ b∈x.2,b.kids.length≤12)→nH X0 Tryz.prog (ApN (n0+r.length+1)) (.fn 83 [] []) [dP s o 0 1,lV l,.int .i64 a,.own 2] [lsV x.1,lsB x.2,oI ko ex pl] (.bf [dP s o 3 4,.int .i64 (TR s l r pl x).1]) (HP pl ko ex (TR s l r pl x).2)
 | [],a,pl,ko,ex,x,hr,ha,hp,h1,h2,_=>by
  have:a=o.length:=by
   have:=congrArg List.length hr
   rw[List.length_drop,List.length_nil] at this;omega
  subst this
  exact aeK (hO _ (by omega)) h pl ko ex hp x h1
 | c::r,a,pl,ko,ex,x,hr,ha,hp,h1,h2,hb=>by
  have hlt:a<o.length:=by
   have:=congrArg List.length hr
   rw[List.length_drop,List.length_cons] at this;omega
  have hd:=List.drop_eq_getElem_cons hlt
  rw[hr] at hd
  obtain⟨hc,hr2⟩:=List.cons.inj hd
  have hcm:c∈o:=by rw[hc];exact List.getElem_mem hlt
  have hic:=h.ord c hcm
  have hri:∀ c'∈r,zl c' s.length:=fun c' hc'=>h.ord c' (by rw[hr2] at hc';exact List.mem_of_mem_drop hc')
  have hcg:o.getD a 0=c:=by rw[hc];simp[List.getD,List.getElem?_eq_getElem hlt]
  have ho6:IntKind.i64.wrap ((a:Int)+1)=((a+1:Nat):Int):=by
   have:=h.a6w
   unfold most at this
   rw[zD (by omega) (by omega)];omega
  have hz:=h.fine.sz _ (getD_mem (s:=s) (k:=c.toNat) (by have:=hic.1;have:=hic.2;omega))
  have hl:=fun q (x:EN)=>a8d (l:=l) h.fine.sz r q x hri
  have hp1:=a8b h.fine.sz hri
  simp only[wO] at h1 h2
  have hpm:pl.length≤most:=by rw[a1v hp];exact h.slen
  obtain⟨f1,f2,f3⟩:=a6F (f:=TR s l r) (c:=c) (p:=pl) (n:=(s.getD c.toNat 0).toNat) hl x
  have hkids:=NC (g:=gPt (TR s l r) c pl) (m:=(s.getD c.toNat 0).toNat) (k:=0) (s:=([],x)) (fun k y=>∀ b∈y.2.2,b.kids.length≤12) hb (fun j y _ _ hy=>a5c h.fine.sz r _ y.2 hri hy)
  have hfx:∀ (M:Nat),n0+r.length+1=M→∀ q (y:EN),xB s q=true→y.1.length+wO s r≤most→y.2.length+wO s r≤most→(∀ b∈y.2,b.kids.length≤12)→nH X0 Tryz.prog (ApN M) (.fn 83 [] []) [dP s o 0 1,lV l,.int .i64 (IntKind.i64.wrap ((a:Int)+1)),.own 2] [lsV y.1,lsB y.2,oI true false q] (.bf [dP s o 3 4,.int .i64 (TR s l r q y).1]) (HP q true false (TR s l r q y).2):=by
   rintro M rfl q y hq y1 y2 y3
   rw[ho6]
   exact sPt hO h r (a+1) q true false y hr2.symm hlt hq y1 y2 y3
  have l2:=l2P (hO (n0+(r.length+1)) (by omega)) (s:=s) (o:=o) (l:=l) (a:=a) (c:=c) (pl:=pl) (ko:=ko) (ex:=ex) (f:=TR s l r) (w:=wO s r) h.fine.sz hic hp hpm x hl ⟨h1,h2⟩ (fun y=>∀ b∈y.2,b.kids.length≤12) hb (fun q y hy=>a5c h.fine.sz r q y hri hy) (hfx _ (by omega))
  simp only[TR]
  generalize qj (gPt (TR s l r) c pl) (s.getD c.toNat 0).toNat 0 ([],x)=y at l2 f1 f2 f3 hkids
  obtain⟨ks,E,N⟩:=y
  have f1:ks.length=(s.getD c.toNat 0).toNat:=f1
  have f3:N.length+(s.getD c.toNat 0).toNat≤x.2.length+(s.getD c.toNat 0).toNat*wO s r:=f3
  exact aeL (hO (n0+(r.length+1)) (by omega)) hlt hcg pl ko ex x.1 x.2 _ ⟨by omega,by omega⟩ (by omega) (fun b hb=>by have:=hkids b hb;unfold most;omega) l2
end Go.Proofs.YtjkgcifieggcpaaGreat
namespace Go.Proofs.YtjkgcifieggcpaaGreat
open Go Tw Pv fA
theorem a5E:∀ {s:List Int},yP s→xB s (List.replicate s.length 0)=true
 | [],_=>rfl
 | a::s,h=>by
  have:=h a (List.mem_cons_self ..)
  simp only[List.length_cons,List.replicate_succ,xB,Bool.and_eq_true,decide_eq_true_eq]
  exact⟨⟨Int.le_refl _,by omega⟩,a5E h.tail⟩
theorem aeM {n0:Nat} (hO:∀ m,n0≤m→Ok m a0K) {s o:List Int} {l:List V} (h:PtP s o l) (hw:wO s o≤most) {k1 e1 k2 e2:Bool}:nH X0 Tryz.prog (ApN (n0+o.length+1)) (.fn 83 [] []) [.agg [.own 0,.own 1,.nil .slc,.nil .slc,.int .i64 0],lV l,.int .i64 0,.own 2] [oI k1 e1 s,oI k2 e2 o,oI true true (List.replicate s.length 0)] (.bf [dP s o 5 6,.int .i64 (TR s l o (List.replicate s.length 0) ([],[])).1]) [.gone,.gone,oI true true (List.replicate s.length 0),.gone,.gone,lsV (a3C s o l).ends,lsB (a3C s o l).nodes]:=by
 have hb:=sPt hO h o 0 (List.replicate s.length 0) true true ([],[]) rfl (Nat.zero_le _) (a5E h.fine.sz) (by simpa using hw) (by simpa using hw) (by simp)
 unfold a3C
 generalize TR s l o (List.replicate s.length 0) ([],[])=z at hb ⊢
 obtain⟨q,E,N⟩:=z
 have h1:=nH.frame hX (ks:=[3,4,2]) (H':=[.gone,.gone,oI true true (List.replicate s.length 0),lsV [],lsB []]) (Hp:=[lsV [],lsB [],oI true true (List.replicate s.length 0)]) (Ht:=[.gone,.gone,oI true true (List.replicate s.length 0),lsV E,lsB N]) (v':=.bf [dP s o 5 6,.int .i64 q]) (YM:=.fn 83 [] []) (xs':=[.agg ([lI s,lI o]++[.own 3,.own 4,.int .i64 0]),lV l,.int .i64 0,.own 2]) hb (by decide) rfl rfl rfl rfl rfl rfl rfl
 have h2:=nH.pre hX (H:=[.gone,.gone,oI true true (List.replicate s.length 0)]) (cs:=[lI s,lI o]++[.nil .slc,.nil .slc,.int .i64 0]) [.YC 0 2 79,.YC 0 3 102] h1 rfl
 exact nH.fz hX (H:=[oI k1 e1 s,oI k2 e2 o,oI true true (List.replicate s.length 0)]) (cs:=[.own 0,.own 1]) [0,1] h2 rfl (fun i hi=>by simpa[owns.kR,owns] using hi)
theorem aeN:Gd a3D:=acQ.deep 7 fun n hn hO p hp=>by
 obtain⟨s,o,l⟩:=p
 have h:PtP s o l:=hp _ (.head _)
 have h6:o.length≤6:=hp _ (.tail _ (.head _))
 have hw:wO s o≤most:=hp _ (.tail _ (.tail _ (.head _)))
 have hs:=aeM (n0:=n-(o.length+1)) (fun m hm=>hO m (by omega)) h hw (k1:=true) (e1:=false) (k2:=true) (e2:=false)
 rw[show n-(o.length+1)+o.length+1=n by omega] at hs
 have hsl:=h.slen
 have hol:=h.a6w
 show VW _ _ _ _ _ (dA.put (a3C s o l)) _
 have e:a3C s o l=⟨s,o,(a3C s o l).ends,(a3C s o l).nodes,(a3C s o l).root⟩:=rfl
 have er:(TR s l o (List.replicate s.length 0) ([],[])).1=(a3C s o l).root:=rfl
 rw[er] at hs
 generalize a3C s o l=d at hs e
 obtain⟨s',o',E,N,q⟩:=d
 injection e with e1 e2
 subst e1 e2
 have i1:(s'.length:Int)=s'.length:=rfl
 have i2:(0:Int)≤s'.length:=by omega
 have i3:(s'.length:Int)≤(most:Int):=by omega
 exact dS hX (hO n (by omega)) (by kernel_rfl) (.o hsl (.o hol (.o i1 (.o i2 (.o i3 (.fr [0,1,2] hs .rr))))))
end Go.Proofs.YtjkgcifieggcpaaGreat
namespace Go.Proofs.YtjkgcifieggcpaaGreat
open Go Tw Pv fA
theorem aeO:Gd a3E:=aeN.add fun n hO p hp=>dS hX hO (by kernel_rfl) (.o (hp _ (.head _)) (.o (hp _ (.tail _ (.head _))) (.o (hp _ (.tail _ (.tail _ (.head _)))) (.o (hp _ (.tail _ (.tail _ (.tail _ (.head _))))) .rr))))
end Go.Proofs.YtjkgcifieggcpaaGreat
namespace Pv
open Go Tw
variable {X:gZ} {P:Program}
theorem VW.aaw (hX:aT X P) {call:ay} {f:FuncId} {first xs cap vs:List (PV X.Γ)} {v v':PV X.Γ} {ext ext':List (PB X.Γ)} (hc:VW X P call f vs v ext) (hv:views [] (first++xs++cap)=some vs) (hs:jY X 0 ext=some ext')
  (e:shift 0 v=v') (he:(if oL v||ext.any (hasB X) then aI (owns.kR (first++xs++cap)) [] else [])=([]:List (PB X.Γ))):nH X P call (.fn f first cap) xs [] v' ext':=by
 subst e
 intro A m h tf kY hr hf hx
 cases hf with
 | gone hi _ _=>simp[aF] at hi
 | fn p1 p2 p3 p4=>
  obtain⟨w,h',m1,c1,c2,c3,c4,c5⟩:=Tc hX hc hr hv hs ⟨p1,p2⟩ hx ⟨p3,p4⟩
  rw[he] at c2
  exact⟨w,h',[],m1,c1,c2,c3,c4,c5,fun b hb=>by cases hb⟩
end Pv
namespace Go.Proofs.YtjkgcifieggcpaaGreat
open Go Tw Pv fA
def a7d {α:Type} (g:α→Bool) (i:Nat) (x:α) (s:Unit):Unit⊕(Nat×α×Unit):=if (g x)=true then .inr (i,x,s) else .inl ()
def aax {α:Type} (d:α) (g:α→Bool) (l:List α):Int:=if (D5 (a19 (a7d g) l 0 ()))=true then -1 else (((WB (0,d,()) (a19 (a7d g) l 0 ())).1:Int))
theorem a8f {α:Type} (g:α→Bool):∀ (l:List α) (i:Nat),D5 (a19 (a7d g) l i ())=!(l.any g)
 | [],i=>rfl
 | x::l,i=>by
  simp only[a19,a7d,List.any_cons]
  cases g x
  ·simpa using a8f g l (i+1)
  ·simp[D5]
theorem aay {α:Type} (d:α) (g:α→Bool) (l:List α):decide (aax d g l≥0)=l.any g:=by
 have:=a8f g l 0
 unfold aax
 rw[this]
 cases l.any g<;>simp
abbrev aaz (f:Nat) (a c:List (PV bF)) (H:List (PB bF)) (l:List Dg) (i:Int) (x:List (Nat×PE bF)):aP bF:=⟨[(0,xL 27 l),(1,.val (.fn f a c)),(7,xi l.length),(8,xi i)]++x,[],H⟩
def acR (f:Nat) (a c:List (PV bF)) (H:List (PB bF)) (l:List Dg):Unit⊕(Nat×Dg×Unit)→Ex×aP bF
 | .inl _=>(.exit 0,aaz f a c H l l.length [(9,xl false)])
 | .inr r=>(.ret,⟨[(4,xi r.1)],[],H⟩)
theorem aeP {n f:Nat} {a c:List (PV bF)} {H:List (PB bF)} {g:Dg→Bool} (l:List Dg) (hf:∀ x∈l,nH X0 Tryz.prog (ApN n) (.fn f a c) [.agg x.ps] H (.bool (g x)) H) (hl:l.length≤most):nH X0 Tryz.prog (ApN (n+1)) (.fn 145 [] []) [lDg l,.fn f a c] H (iA.put (aax XJ g l)) H:=by
 have lp:LpB n 145 0 H.length (aaz f a c H l 0 []) (acR f a c H l (a19 (a7d g) l 0 ())).1 (acR f a c H l (a19 (a7d g) l 0 ())).2:=
  a5h (st:=fun i _=>aaz f a c H l i []) XJ (fun _ _=>True) (by kernel_rfl) hl LLm trivial (fun k s n hk _ ih=>round hX ok0 (by kernel_rfl) (.b (WC hk) (.o (dB hk) (.k (hf (l.getD k XJ) (Qu hk)) (.ls (.ou nofun) (.nx (ih _ trivial))))))) (fun s _=>round hX ok0 (by kernel_rfl) (.b (YZ l.length) (.ou nofun)))
 exact pF hX ok0 (first:=[]) (cap:=[]) (by kernel_rfl) (.szh (fun h=>.w (rC lp () h) .sr) (fun h=>.w (wC lp (0,XJ,()) h) .sr))
theorem aeQ {n f:Nat} {a c:List (PV bF)} {H:List (PB bF)} {g:Dg→Bool} (l:List Dg) (hf:∀ x∈l,nH X0 Tryz.prog (ApN n) (.fn f a c) [.agg x.ps] H (.bool (g x)) H) (hl:l.length≤most):nH X0 Tryz.prog (ApN (n+2)) (.fn 108 [] []) [lDg l,.fn f a c] H (tA.put (l.any g)) H:=by
 rw[←aay XJ g l]
 have h1:=aeP l hf hl
 exact pF hX ok0 (first:=[]) (cap:=[]) (by kernel_rfl) (.k h1 .sr)
end Go.Proofs.YtjkgcifieggcpaaGreat
namespace Go.Proofs.YtjkgcifieggcpaaGreat
open Go Tw Pv fA
def gDs (l:List Fc) (k:Nat) (y:List Dg):List Dg:=y++[(l.getD k Fc0).d]
theorem aaA (l:List Fc):qj (gDs l) l.length 0 []=jT l:=by
 have:=NC (g:=gDs l) (m:=l.length) (k:=0) (s:=[]) (fun k y=>y=(l.take k).map (·.d)) rfl (fun j y _ h e=>by
  have hj:j<l.length:=by omega
  have e2:l.getD j Fc0=l[j]:=by simp only[List.getD,List.getElem?_eq_getElem hj,Option.getD_some]
  rw[gDs,e,e2,List.take_add_one,List.getElem?_eq_getElem hj,List.map_append];rfl)
 rw[Nat.zero_add,List.take_length] at this
 exact this
abbrev wDs (l:List Fc) (y:List Dg) (i:Int) (x:List (Nat×PE bF)):aP bF:=⟨[(2,.val (.own 0)),(5,xL 66 l),(6,xi l.length),(7,xi i)]++x,[],[.list false false 27 y]⟩
theorem lDs {n:Nat} (l:List Fc) (hl:l.length≤most):LpB n 68 0 0 (wDs l [] 0 []) (.exit 0) (wDs l (jT l) l.length [(8,xl false)]):=by
 rw[←aaA l]
 refine a0V (σ:=List Dg) (N:=l.length) (g:=gDs l) (s0:=[]) (st:=fun i y=>wDs l y i []) (fin:=fun y=>wDs l y l.length [(8,xl false)]) (fun k y=>y.length=k) (by kernel_rfl) hl rfl (fun j y hj hy=>by simp[gDs,hy]) (fun j y hj hy m e p g9=>?_) (fun y _=>?_)
 ·have h2:y.length+[(l.getD j Fc0).d].length≤most:=by rw[hy,List.length_singleton];omega
  exact round hX ok0 (by kernel_rfl) (.b (WC hj) (.o (dB hj) (.o h2 (.goG [.gc [2]] g9))))
 ·exact round hX ok0 (by kernel_rfl) (.b (YZ l.length) .ex)
theorem aeR:Gd a3G:=aeO.add fun n hO l hp=>dS hX hO (by kernel_rfl) (.wG [.J7 2 27] (lDs (n:=n) l (hp _ (.head _))) .rr)
theorem aeS:Gd a3H:=aeR.add fun n hO p hp=>dS hX hO (by kernel_rfl) (.o (hp _ (.head _)) (.ss (.o (hp _ (.tail _ (.head _))) .rr) .rr))
abbrev a7e (f:List Int×List Int):PV bF:=.fn 70 [.agg [lI f.1,lI f.2]] []
theorem acT {n:Nat} (hO:Ok n a3H) (f:List Int×List Int) (l:List Dg) (hp:∀ d∈l,DgP d) (hl:l.length≤most):nH X0 Tryz.prog (ApN (n+4)) (.fn 71 [] []) [lDg l,a7e f] [] (tA.put (l.all (V7 f))) []:=by
 have hs:∀ d∈l,nH X0 Tryz.prog (ApN n) (a7e f) [.agg d.ps] [] (tA.put (V7 f d)) []:=fun d hd=>VW.aaw hX (first:=[.agg [lI f.1,lI f.2]]) (cap:=[]) (hO 70 [.agg [lI f.1,lI f.2],.agg d.ps] (tA.put (V7 f d)) [] [d.sizes.length≤most,d.order.length≤most] (by kernel_rfl) (fun p h=>by
  have h9:=hp d hd
  have h8:=h9.o
  rcases List.mem_cons.1 h with rfl | h
  ·exact h9.s
  ·rw[List.mem_singleton.1 h];exact h8)) rfl rfl rfl rfl
 have h1:∀ d∈l,nH X0 Tryz.prog (ApN (n+1)) (.fn 109 [] [.ptr 0 0 1]) [.agg d.ps] [.cells [a7e f]] (tA.put (!(V7 f d))) [.cells [a7e f]]:=fun d hd=>
  pF hX ok0 (first:=[]) (by kernel_rfl) (.fr [] (hs d hd) .sr)
 have h2:=aeQ l h1 hl
 rw[←a2j l (V7 f)]
 exact nH.drop hX (pF hX ok0 (first:=[]) (cap:=[]) (H1:=[.cells [a7e f]]) (by kernel_rfl) (.k h2 .sr)) rfl rfl
theorem aeT {n:Nat} (hO:Ok n a3H) (l:List Fc) (hl:l.length≤most):nH X0 Tryz.prog (ApN n) (.fn 68 [] []) [lFc l] [] (lDg (jT l)) []:=
 VW.aaw hX (first:=[]) (cap:=[]) (hO 68 [lFc l] (a3a.put (jT l)) [] [l.length≤most] (by kernel_rfl) (List.forall_mem_singleton.2 hl)) rfl rfl rfl rfl
theorem lBc {n:Nat} (hO:Ok n a3H) (s o:List Int) (f:List Fc) (hp:∀ d∈jT f,DgP d) (hl:(jT f).length≤most):Lp n 21 0 (wBc s o f 0 []) (zBc s o f (mF (cCk (jT f)) (jT f).length)).1 (zBc s o f (mF (cCk (jT f)) (jT f).length)).2:=by
 refine searchL (st:=fun i _=>wBc s o f i []) (g:=gS (cCk (jT f))) (out:=zBc s o f) (fun _ _=>True) (by kernel_rfl) hl trivial (fun k u m hk _ ih=>?_) (fun _ _=>?_)
 ·have h9:=hp _ (Qu (d:=XJ) hk)
  unfold gS cCk
  exact round hX hO (by kernel_rfl) (.b (WC hk) (.o (dB hk) (.o h9.r (.o h9.s (.o h9.o (.o h9.e (.ls (.ou nofun) (.nx (ih _ trivial)))))))))
 ·exact round hX hO (by kernel_rfl) (.b (YZ (jT f).length) (.ou nofun))
noncomputable abbrev ww (n:Nat) (s o:List Int) (f:List Fc) (k:Nat) (c:Bool):OT (PV bF×List (PB bF)):=KT X0 Tryz.prog T a3H (nH X0 Tryz.prog (ApN n)) (GL X0 Tryz.prog T (ApN n) LL 21 0) LL 21 ((a3 isA isA a04).put (s,o,f)) [] (yF s o f k c)
theorem wwe (n:Nat) (s o:List Int) (f:List Fc) (k:Nat) (c:Bool):(ww n s o f k c).map frz=.o (s.length≤most) (.o (o.length≤2^20) (.br (iK s o != 0) (.ret (some (iA.put (iK s o)))) (.br (decide ((f.length:Int)>8)) (.ret (some (iA.put 5))) (.o (f.length≤most) (.br c (.o (Lp n 21 0 (wBc s o f 0 []) (zBc s o f (.inl ())).1 (zBc s o f (.inl ())).2) (.o (nH X0 Tryz.prog (ApN n) (.fn 68 [] []) [lFc f] [] (lDg (jT f)) []) (.o (nH X0 Tryz.prog (ApN n) (.fn 71 [] []) [lDg (jT f),a7e (s,o)] [] (tA.put ((jT f).all (V7 (s,o)))) []) (.br (!((jT f).all (V7 (s,o)))) (.ret (some (iA.put 2))) (.ret (some (iA.put 0))))))) (.o (Lp n 21 0 (wBc s o f 0 []) (zBc s o f (.inr k)).1 (zBc s o f (.inr k)).2) (.ret (some (iA.put (lT ((jT f).getD k XJ)).2))))))))):=by kernel_rfl
theorem aeU:Gd a3I:=aeS.deep 4 fun n hn hO p hp=>by
 obtain⟨s,o,f⟩:=p
 have h1:s.length≤most:=hp _ (.head _)
 have h2:o.length≤2^20:=hp _ (.tail _ (.head _))
 have h3:f.length≤most:=hp _ (.tail _ (.tail _ (.head _)))
 have h4:∀ d∈jT f,DgP d:=hp _ (.tail _ (.tail _ (.tail _ (.head _))))
 have h5:(jT f).length≤most:=by simpa[jT] using h3
 have hs:=acT (n:=n-4) (hO (n-4) (by omega)) (s,o) (jT f) h4 h5
 rw[show n-4+4=n by omega] at hs
 have hl:=lBc (hO n (by omega)) s o f h4 h5
 show VW X0 Tryz.prog _ _ _ (iA.put (a0L s o f)) _
 unfold a0L
 have t1:=aeT (hO n (by omega)) f h3
 exact dS hX (hO n (by omega)) (wwe n s o f (WB 0 (mF (cCk (jT f)) (jT f).length)) (D5 (mF (cCk (jT f)) (jT f).length))) (.o h1 (.o h2 (.ss .rr (.ss .rr (.o h3 (.zh (fun h=>.w (rC hl () h) (.fr [] t1 (.fr [] hs (.ss .rr .rr)))) (fun h=>.w (wC hl 0 h) .rr)))))))
end Go.Proofs.YtjkgcifieggcpaaGreat
namespace Go.Proofs.YtjkgcifieggcpaaGreat
open Go Tw Pv fA
theorem acU:Gd a0O:=aeU.add fun n hO p hp=>dS hX hO (by kernel_rfl) (.q (.bool (decide (p=V1))) (D6 (.tmp 3) (.tmp 4) p V1) .rr)
theorem acV:Gd a0P:=acU.add fun n hO p hp=>dS hX hO (by kernel_rfl) (.q (.bool (decide (p=V1))) (D6 (.tmp 3) (.tmp 4) p V1) .rr)
theorem acW:Gd a0R:=acV.add fun n hO p hp=>dS hX hO (by kernel_rfl) .rr
theorem acX:Gd a0S:=acW.add fun n hO p hp=>dS hX hO (by kernel_rfl) (.o (hp _ (.head _)) .rr)
theorem a9I:Gd V8:=acX.add fun n hO p hp=>dS hX hO (by kernel_rfl) .rr
end Go.Proofs.YtjkgcifieggcpaaGreat
namespace Go.Proofs.YtjkgcifieggcpaaGreat
open Go Tw Pv fA
abbrev tP (s o:List Int) (f:List Fc) (g:Dg):List (PV bF):=[lI s,lI o,lFc f,lI g.sizes,lI g.order,lV g.ends,lBr g.nodes,.int .i64 g.root,.map 0]
abbrev lP (l:List Pc):PB bF:=.list true true 164 l
noncomputable abbrev HT (s o:List Int) (f:List Fc) (g:Dg) (m:List Pc) (l:List Pc):List (PB bF):=[.map (zH m),.cells (tP s o f g),lP l]
noncomputable abbrev w1W (s o:List Int) (f:List Fc) (g:Dg) (c:List V) (l:List Pc) (i:Int) (x:List (Nat×PE bF)):aP bF:=⟨[(2,xL 66 f),(11,.val (.ptr 1 0 9)),(14,.val (.own 2)),(60,xL 79 c),(61,xi c.length),(62,xi i)]++x,[],HT s o f g [] l⟩
noncomputable abbrev w3W (s o:List Int) (f:List Fc) (g:Dg) (c:List V) (D:List Dg) (b k:Int) (l:List Pc) (i:Int) (x:List (Nat×PE bF)):aP bF:=⟨[(11,.val (.ptr 1 0 9)),(14,.val (.own 2)),(17,xi b),(75,xL 27 D),(76,xi D.length),(77,xi k),(87,xL 79 c),(88,xi c.length),(89,xi i)]++x,[],HT s o f g [] l⟩
noncomputable abbrev w4W (s o:List Int) (f:List Fc) (g:Dg) (l:List Pc) (m:List Pc) (i:Int) (x:List (Nat×PE bF)):aP bF:=⟨[(11,.val (.ptr 1 0 9)),(108,.val (.own 2)),(109,xi l.length),(110,xi i)]++x,[],HT s o f g m l⟩
theorem a5F {α:Type} {l:List α} {a:α} (h:l.Nodup) (ha:a∉l):(l++[a]).Nodup:=by
 rw[List.nodup_append]
 exact⟨h,by simp,fun x hx y hy e=>by simp at hy;subst hy;subst e;exact ha hx⟩
noncomputable abbrev w2W (s o:List Int) (f:List Fc) (g:Dg) (D:List Dg) (l:List Pc) (i:Int) (x:List (Nat×PE bF)):aP bF:=⟨[(11,.val (.ptr 1 0 9)),(14,.val (.own 2)),(75,xL 27 D),(76,xi D.length),(77,xi i)]++x,[],HT s o f g [] l⟩
def orB (a b:Int):Int:=IntKind.u64.wrap (((BitVec.ofInt 64 a ||| BitVec.ofInt 64 (YB .u64 1 b)).toNat:Nat):Int)
def g1W (c:List V) (k:Nat) (l:List Pc):List Pc:=l.set k ⟨(l.getD k xG).facts,decide (c.getD k V0=V1)⟩
def gIW (b:Int) (c:List V) (k:Nat) (l:List Pc):List Pc:=if decide (c.getD k V0=V1)=true then l.set k ⟨orB (l.getD k xG).facts b,(l.getD k xG).goal⟩ else l
abbrev cAt (D:List Dg) (k:Nat):List V:=(TQ (D.getD k XJ)).1
def g2W (D:List Dg) (k:Nat) (l:List Pc):List Pc:=qj (gIW k (cAt D k)) (cAt D k).length 0 l
def g4W (l:List Pc) (k:Nat) (m:List Pc):List Pc:=if l.getD k xG∈m then m else m++[l.getD k xG]
def a1N (c:List V):List Pc:=qj (g1W c) c.length 0 (List.replicate c.length xG)
def a2q (D:List Dg) (l:List Pc):List Pc:=qj (g2W D) D.length 0 l
def a7f (l:List Pc):List Pc:=qj (g4W l) l.length 0 []
theorem a9f (s o:List Int) (f:List Fc) (g:Dg) (m l:List Pc) (x:Pc):HT s o f g (m++[x]) l=[.map (zH m++[(.agg x.ps,.bool true)]),.cells (tP s o f g),lP l]:=by
 unfold HT zH D7.es;rw[List.map_append,List.map_append];rfl
theorem a8g {b:Int} {c:List V} {k:Nat} {l:List Pc}:(gIW b c k l).length=l.length:=by
 unfold gIW;split
 ·exact List.length_set
 ·rfl
theorem a6d {b:Int} {c:List V} {n:Nat} {l:List Pc}:(qj (gIW b c) n 0 l).length=l.length:=by
 have:=NC (g:=gIW b c) (m:=n) (k:=0) (s:=l) (fun _ y=>y.length=l.length) rfl fun j y _ _ h=>by rw[a8g,h]
 exact this
theorem a9K (y:List Pc):((y.map fun e=>(e,(PV.bool true:PV bF))).map fun e=>e.1)=y:=by rw[List.map_map];exact List.map_id y
theorem ad3 (x:Pc):Instr.sameBits 10000 (kP.v x) (kP.v x)=true:=by
 obtain⟨a,b⟩:=x
 show Instr.sameBits 10000 (.agg #[.int .u64 a,.bool b]) (.agg #[.int .u64 a,.bool b])=true
 simp[Instr.sameBits]
section
variable {n:Nat} (s o:List Int) (f:List Fc) (g:Dg)
theorem l1W (hO:Ok n V8) (c:List V) (hc:c.length≤most):LpB n 112 0 0 ⟨(w1W s o f g c (List.replicate c.length xG) 0 []).env,[g.ps],(w1W s o f g c (List.replicate c.length xG) 0 []).heap⟩ (.exit 1) (w1W s o f g c (a1N c) c.length [(63,xl false)]):=by
 refine a0V (σ:=List Pc) (N:=c.length) (g:=g1W c) (s0:=List.replicate c.length xG) (st:=fun i y=>w1W s o f g c y i []) (fin:=fun y=>w1W s o f g c y c.length [(63,xl false)]) (fun k y=>y.length=c.length) (by kernel_rfl) hc (by simp) (fun j y hj hy=>by simp[g1W,hy]) (fun j y hj hy m e p g9=>?_) (fun y _=>?_)
 ·exact round hX hO (by kernel_rfl) (.b (WC hj) (.o (dB hj) (.o (dB (show j<y.length by omega)) (.go g9))))
 ·exact round hX hO (by kernel_rfl) (.b (YZ c.length) .ex)
theorem l3W (hO:Ok n V8) (c:List V) (D:List Dg) (b:Nat) (d:Dg) (hc:c.length≤most) (l:List Pc) (hl:l.length=c.length):LpB n 112 2 0 ⟨(w3W s o f g c D b b l 0 []).env,[d.ps],(w3W s o f g c D b b l 0 []).heap⟩ (.exit 5) (w3W s o f g c D b b (qj (gIW b c) c.length 0 l) c.length [(90,xl false)]):=by
 refine a0V (σ:=List Pc) (N:=c.length) (g:=gIW b c) (s0:=l) (st:=fun i y=>w3W s o f g c D b b y i []) (fin:=fun y=>w3W s o f g c D b b y c.length [(90,xl false)]) (fun k y=>y.length=c.length) (by kernel_rfl) hc hl (fun j y hj hy=>by rw[a8g,hy]) (fun j y hj hy m e p g9=>?_) (fun y _=>?_)
 ·unfold gIW at g9
  cases h:decide (c.getD j V0=V1)
  ·rw[h] at g9
   exact round hX hO (by kernel_rfl) (.b (WC hj) (.o (dB hj) (.b h (.go g9))))
  ·rw[h,if_pos rfl] at g9
   have h1:zl (j:Int) y.length:=dB (by omega)
   exact round hX hO (by kernel_rfl) (.b (WC hj) (.o (dB hj) (.b h (.o h1 (.o (show (0:Int)≤(b:Int) by omega) (.o h1 (.go g9)))))))
 ·exact round hX hO (by kernel_rfl) (.b (YZ c.length) .ex)
theorem l2W (hO:Ok n V8) (N:Nat) (D:List Dg) (hD:D.length≤most) (hN:N≤most) (hp:∀ d∈D,DgP d) (hc:∀ k,k<D.length→(cAt D k).length=N) (l:List Pc) (hl:l.length=N):LpB n 112 1 0 (w2W s o f g D l 0 []) (.exit 3) (w2W s o f g D (a2q D l) D.length [(78,xl false)]):=by
 refine a0V (σ:=List Pc) (N:=D.length) (g:=g2W D) (s0:=l) (st:=fun i y=>w2W s o f g D y i []) (fin:=fun y=>w2W s o f g D y D.length [(78,xl false)]) (fun k y=>y.length=N) (by kernel_rfl) hD hl (fun j y hj hy=>by rw[g2W,a6d,hy]) (fun j y hj hy m e p g9=>?_) (fun y _=>?_)
 ·have h9:=hp _ (Qu (d:=XJ) hj)
  have h8:=hc j hj
  have lp:=l3W (n:=n) s o f g hO (cAt D j) D j (D.getD j XJ) (by omega) y (by omega)
  unfold g2W at g9
  exact round hX hO (by kernel_rfl) (.b (WC hj) (.o (dB hj) (.o h9.r (.o h9.s (.o h9.o (.o h9.e (.w lp (.go g9))))))))
 ·exact round hX hO (by kernel_rfl) (.b (YZ D.length) .ex)
theorem l4W (hO:Ok n V8) (l:List Pc) (hl:l.length≤most):LpB n 112 3 0 (w4W s o f g l [] 0 []) (.exit 7) (w4W s o f g l (a7f l) l.length [(111,xl false)]):=by
 refine a0V (σ:=List Pc) (N:=l.length) (g:=g4W l) (s0:=[]) (st:=fun i y=>w4W s o f g l y i []) (fin:=fun y=>w4W s o f g l y l.length [(111,xl false)]) (fun k y=>y.Nodup) (by kernel_rfl) hl List.nodup_nil (fun j y hj hy=>?_) (fun j y hj hy m e p g9=>?_) (fun y _=>?_)
 ·unfold g4W;split
  ·exact hy
  ·rename_i h;exact a5F hy h
 ·unfold g4W at g9
  by_cases h:l.getD j xG∈y
  ·rw[if_pos h] at g9
   have hs:YE X0 Tryz.prog 164 (zH y) (.agg [.int .u64 (l.getD j xG).facts,.bool (l.getD j xG).goal]) (.agg (l.getD j xG).ps) (.bool true):=kP.seat (x:=l.getD j xG) (ad3 _) (by show ((y.map fun e=>(e,(PV.bool true:PV bF))).map fun e=>e.1).Nodup;rw[a9K];exact hy) (List.mem_map.2 ⟨_,h,rfl⟩)
   exact round hX hO (by kernel_rfl) (.b (WC hj) (.o (dB hj) (.c (.bool true) [] hs (.go g9))))
  ·rw[if_neg h] at g9
   unfold w4W at g9
   rw[a9f] at g9
   have hs:AY X0 Tryz.prog 164 (zH y) (.agg [.int .u64 (l.getD j xG).facts,.bool (l.getD j xG).goal]):=kP.fresh (x:=l.getD j xG) (by show l.getD j xG∉((y.map fun e=>(e,(PV.bool true:PV bF))).map fun e=>e.1);rw[a9K];exact h)
   exact round hX hO (by kernel_rfl) (.b (WC hj) (.o (dB hj) (.q (.bool true) (kP.ck (l.getD j xG)) (.o hs (.go g9)))))
 ·exact round hX hO (by kernel_rfl) (.b (YZ l.length) .ex)
end
end Go.Proofs.YtjkgcifieggcpaaGreat
namespace Go.Proofs.YtjkgcifieggcpaaGreat
open Go Tw Pv fA
def yS (s o:List Int) (f:List Fc) (g:Dg):Int:=if (a0L s o f != 0)=true then a0L s o f else if ((TQ g).2 != 0)=true then (TQ g).2 else if (!(V7 (s,o) g))=true then 2 else 0
def VB (f:List Fc) (g:Dg):List Pc:=a7f (a2q (jT f) (a1N (TQ g).1))
noncomputable abbrev HT0 (s o:List Int) (f:List Fc) (g:Dg) (m:List Pc):List (PB bF):=[.map (zH m),.cells (tP s o f g)]
theorem a4s (c:List V):(a1N c).length=c.length:=by
 have:=NC (g:=g1W c) (m:=c.length) (k:=0) (s:=List.replicate c.length xG) (fun _ y=>y.length=c.length) (by simp) fun j y _ _ h=>by unfold g1W;rw[List.length_set,h]
 exact this
theorem a6e (D:List Dg) (l:List Pc):(a2q D l).length=l.length:=by
 have:=NC (g:=g2W D) (m:=D.length) (k:=0) (s:=l) (fun _ y=>y.length=l.length) rfl fun j y _ _ h=>by unfold g2W;rw[a6d,h]
 exact this
section
variable {n:Nat} (hO:Ok n V8) {s o:List Int} {f:List Fc} {g:Dg} (hp:a3L s o f g)
include hO hp
theorem aaB (h:yS s o f g≠0):nH X0 Tryz.prog (ApN (n+1)) (.fn 112 [] []) [lI s,lI o,lFc f,.agg g.ps] [] (.bf [.nil .ptr,.int .i64 (yS s o f g)]) []:=by
 have ho:g.order.length≤most:=by have:=hp.lg.o;unfold most;omega
 unfold yS at h ⊢
 cases h1:a0L s o f != 0
 ·rw[h1,if_neg (by simp)] at h;rw[if_neg (by simp)]
  cases h2:(TQ g).2 != 0
  ·rw[h2,if_neg (by simp)] at h;rw[if_neg (by simp)]
   cases h3:(!(V7 (s,o) g))
   ·rw[h3] at h;exact absurd rfl h
   ·rw[if_pos rfl]
    have h0:nH X0 Tryz.prog (ApN (n+1)) (.fn 112 [] []) [lI s,lI o,lFc f,.agg g.ps] [] (.bf [.nil .ptr,.int .i64 2]) [.map [],.cells (tP s o f g)]:=WE hX hO (first:=[]) (cap:=[]) (by kernel_rfl) (.o hp.ls (.o hp.lo (.o hp.lf (.o hp.ld (.b h1 (.o hp.lg.r (.o hp.lg.s (.o hp.lg.o (.o hp.lg.e (.b h2 (.o hp.lg.s (.o ho (.b h3 .er)))))))))))))
    exact nH.cut hX h0 rfl rfl rfl rfl
  ·have h0:nH X0 Tryz.prog (ApN (n+1)) (.fn 112 [] []) [lI s,lI o,lFc f,.agg g.ps] [] (.bf [.nil .ptr,.int .i64 (TQ g).2]) [.map [],.cells (tP s o f g)]:=WE hX hO (first:=[]) (cap:=[]) (by kernel_rfl) (.o hp.ls (.o hp.lo (.o hp.lf (.o hp.ld (.b h1 (.o hp.lg.r (.o hp.lg.s (.o hp.lg.o (.o hp.lg.e (.b h2 .er))))))))))
   exact nH.cut hX h0 rfl rfl rfl rfl
 ·rw[h1,if_pos rfl] at h;rw[if_pos rfl]
  exact WE hX hO (first:=[]) (cap:=[]) (by kernel_rfl) (.o hp.ls (.o hp.lo (.o hp.lf (.o hp.ld (.b h1 .er)))))
theorem aaC (h:yS s o f g=0) (hc:(TQ g).1.length≤most) (hd:∀ k,k<(jT f).length→(cAt (jT f) k).length=(TQ g).1.length):nH X0 Tryz.prog (ApN (n+1)) (.fn 112 [] []) [lI s,lI o,lFc f,.agg g.ps] [] (.bf [.ptr 1 0 9,.int .i64 0]) (HT0 s o f g (VB f g)):=by
 have ho:g.order.length≤most:=by have:=hp.lg.o;unfold most;omega
 unfold yS at h
 have h1:(a0L s o f != 0)=false:=by
  cases h1:a0L s o f != 0
  ·rfl
  ·rw[h1,if_pos rfl] at h;rw[h] at h1;simp at h1
 rw[h1,if_neg (by simp)] at h
 have h2:((TQ g).2 != 0)=false:=by
  cases h2:(TQ g).2 != 0
  ·rfl
  ·rw[h2,if_pos rfl] at h;rw[h] at h2;simp at h2
 rw[h2,if_neg (by simp)] at h
 have h3:(!(V7 (s,o) g))=false:=by
  cases h3:(!(V7 (s,o) g))
  ·rfl
  ·rw[h3] at h;exact absurd h (by decide)
 have l1:=l1W (n:=n) s o f g hO (TQ g).1 hc
 have l2:=l2W (n:=n) s o f g hO (TQ g).1.length (jT f) (by simpa[jT] using hp.lf) hc hp.ld hd (a1N (TQ g).1) (a4s _)
 have hl:(a2q (jT f) (a1N (TQ g).1)).length≤most:=by rw[a6e,a4s];exact hc
 have l4:=l4W (n:=n) s o f g hO (a2q (jT f) (a1N (TQ g).1)) hl
 have h0:nH X0 Tryz.prog (ApN (n+1)) (.fn 112 [] []) [lI s,lI o,lFc f,.agg g.ps] [] (.bf [.ptr 1 0 9,.int .i64 0]) (HT s o f g (VB f g) (a2q (jT f) (a1N (TQ g).1))):=
  WE hX hO (first:=[]) (cap:=[]) (by kernel_rfl) (.o hp.ls (.o hp.lo (.o hp.lf (.o hp.ld (.b h1 (.o hp.lg.r (.o hp.lg.s (.o hp.lg.o (.o hp.lg.e (.b h2 (.o hp.lg.s (.o ho (.b h3 (.o (rfl:((TQ g).1.length:Int)=((TQ g).1.length:Int)) (.o (show (0:Int)≤((TQ g).1.length:Int) by omega) (.o (show ((TQ g).1.length:Int)≤(most:Int) by omega) (.w l1 (.o hp.lf (.w l2 (.w l4 .er))))))))))))))))))))
 exact nH.gs hX h0 [.gc [0,1]] (by kernel_rfl)
end
end Go.Proofs.YtjkgcifieggcpaaGreat
namespace Pv
open Go Tw
section
variable {X:gZ} {P:Program} {A B:Nat→Prop} {m m' m1:List MB} {h h':List HB} {g:Nat→Option Nat}
theorem a8h (hX:aT X P) {T:Tab} {L n f:Nat} {t:XD} {first xs cap:List (PV X.Γ)} {H N:List (PB X.Γ)} {v:PV X.Γ} {tv:Nat→TV} {tN:List HB} (hd:T.Ho.contains f=true) (hx:T.exts.contains f=false) (ht:CS P f=some t) (hN:sJ H=true)
  (hfin:∀ A m h,HR X P A m H h→∃ m1,HR X P A m1 (H++N) (h++tN)∧VR X P (AA A m1) m1 (h++tN) v (tv h.length)∧Fr m h m1 (h++tN)∧Up m m1)
  (hE:aU X P T (yw P T L n) (EJ P T (yw P T L n) L) L f t.nt H.length t.body ⟨qV X 0 (first++xs++cap),[],H⟩ fun e s=>(e=.norm∨e=.ret)∧∃ us,AZ X P s t.results=some us∧a0T X P (T.Vm.contains f) (Ph X us) s.heap tv tN):nH X P (yw P T L (n+1)) (.fn f first cap) xs H v (H++N):=by
 intro A m h tf kY hr hf hxs
 cases hf with
 | gone hi _ _=>simp[aF] at hi
 | fn p1 p2 p3 p4=>
  rename_i a' c'
  have hargs:=(aG.app ⟨p1,p2⟩ hxs).app ⟨p3,p4⟩
  have hb:=Jv hN hr
  have hS:SR X P A (fun _=>False) h.length m ⟨qV X 0 (first++xs++cap),[],H⟩ ⟨fB 0 (a'++kY++c'),[],h,[]⟩:=
   ⟨⟨hr,rfl,fun k cs hk=>by simp at hk,Fe hargs⟩,fun b h1=>(by rw[hb] at h1;cases h1),fun b hb=>(by cases hb),Nat.le_refl _⟩
  have hO:Gh P T (yw P T L n) L f t (a'++kY++c') h (tv h.length,h++tN):=by
   refine hE A _ _ m _ _ hS fun e dD ps1 m1 ⟨he,us,hus,hpv⟩ h3 h4 h5=>?_
   obtain⟨ws,g1,g2⟩:=Aj hX h3.st hus
   exact⟨he,ws,g1,List.eq_nil_iff_forall_not_mem.2 fun b hb=>h3.ws b hb,hpv A m1 h dD.heap _ h3.st.heap (Lj g2) fun b hb=>(h3.own b hb).resolve_left id⟩
  obtain⟨m1,q1,q2,q3,q4⟩:=hfin A m h hr
  refine⟨tv h.length,h++tN,[],m1,?_,q1,q2,q3,q4,fun b hb=>by cases hb⟩
  simp only[yw,hx,hd,Bool.false_eq_true,if_false,if_true]
  exact SB ht hO
theorem a9g (hX:aT X P) {T:Tab} {L n f:Nat} {t:XD} {first xs cap:List (PV X.Γ)} {H:List (PB X.Γ)} {v:PV X.Γ} {tv:TV} (hd:T.Ho.contains f=true) (hx:T.exts.contains f=false) (ht:CS P f=some t) (hN:sJ H=true) (hv:pI v=some tv)
  (hE:aU X P T (yw P T L n) (EJ P T (yw P T L n) L) L f t.nt H.length t.body ⟨qV X 0 (first++xs++cap),[],H⟩ fun e s=>(e=.norm∨e=.ret)∧∃ us,AZ X P s t.results=some us∧Ph X us=v):nH X P (yw P T L (n+1)) (.fn f first cap) xs H v H:=by
 have:=a8h (N:=[]) (v:=v) (tv:=fun _=>tv) (tN:=[]) hX hd hx ht hN (fun A m h hr=>⟨m,by simpa using hr,mD hv,by simpa using Fr.refl,.refl⟩) (hE.mono fun e s ⟨h1,us,h2,h3⟩=>⟨h1,us,h2,by rw[h3];exact Jw hv fun cs hc=>by subst hc;cases v<;>simp[pI,kQ] at hv⟩)
 rwa [List.append_nil] at this
end
end Pv
namespace Go.Proofs.YtjkgcifieggcpaaGreat
open Go Tw Pv fA
noncomputable abbrev Hq (s o:List Int) (f:List Fc) (g:Dg) (m:List Pc):List (PB bF):=[.rP (zH m),.eu (tP s o f g)]
section
variable {n:Nat} (hO:Ok n V8) (s o:List Int) (f:List Fc) (g:Dg) (m:List Pc) (a:Int)
include hO
set_option maxRecDepth 20000 in
theorem a9L (hm:m.length<LL):nH X0 Tryz.prog (ApN (n+1)) (.fn 113 [] []) [.ptr 1 0 9,.int .u64 a] (Hq s o f g m) (.bool (qm m a)) (Hq s o f g m):=by
 refine a9g (X:=X0) (P:=Tryz.prog) (T:=T) (L:=LL) (n:=n) (f:=113) (first:=[]) (cap:=[]) (xs:=[.ptr 1 0 9,.int .u64 a]) (H:=Hq s o f g m) (v:=.bool (qm m a)) (t:=fnP Tryz.prog 113) (tv:=.bool (qm m a)) hX (by kernel_rfl) (by kernel_rfl) (by kernel_rfl) (by kernel_rfl) (by kernel_rfl) ?_
 refine Eh (jG:=V8) (r0:=cR0 bdE) (r1:=cR1 bdE) (x:=cX bdE) (r6:=cR6 bdE) (ops:=a0U (D8 (cLb bdE))) (draw:=false) (i0:=0) (i1:=1) (id:=2) (it:=10) (nx:=11) (mo:=12) (b:=2) (r:=0) (n:=(zH m).length) (es:=zH m) (bad:=fun j=>bE a (m.getD j xG))
  (s1:=⟨[(0,.val (.ptr 1 0 9)),(1,.val (.int .u64 a))],[],Hq s o f g m⟩) (sI:=⟨[(1,.val (.int .u64 a)),(10,.val (.iter 2))],[],Hq s o f g m++[.aV 0 (zH m).length []]⟩)
  (sR:=fun seen=>⟨[(1,.val (.int .u64 a)),(10,.val (.iter 2))],[],Hq s o f g m++[.aV 0 (zH m).length seen]⟩)
  (sX:=fun j e seen=>⟨[(1,.val (.int .u64 a)),(10,.val (.iter 2)),(23,.val (.lit false))],[(m.getD j xG).ps],Hq s o f g m++[.aV 0 (zH m).length seen]⟩)
  (sE:=fun seen=>⟨[(4,.val (.lit true))],[],Hq s o f g m++[.aV 0 (zH m).length seen]⟩)
  (sB:=fun j e seen=>⟨[(4,.val (.lit false))],[(m.getD j xG).ps],Hq s o f g m++[.aV 0 (zH m).length seen]⟩)
  hX hO (by kernel_rfl) (by kernel_rfl) (by kernel_rfl) (by kernel_rfl) (by kernel_rfl) ?_ ?_ (by kernel_rfl) (fun j e seen=>by kernel_rfl) (by kernel_rfl) (of_decide_eq_true (by kernel_rfl)) (of_decide_eq_true (by kernel_rfl)) (fun seen=>by kernel_rfl) (fun seen=>by kernel_rfl) (fun seen=>by kernel_rfl) rfl (by rw[tZ];exact hm) (fun seen=>by kernel_rfl) (fun seen e=>by kernel_rfl) (fun seen=>?_) (fun j e seen he=>?_) (fun j e seen hj hb=>?_) (fun hb seen=>?_)
 ·exact exS hX hO (an:=.n) (by kernel_rfl) (.r rfl)
 ·exact exS hX hO (an:=.n) (by kernel_rfl) (.r rfl)
 ·exact exS hX hO (an:=.n) (by kernel_rfl) (.r rfl)
 ·have ho:=he
  obtain rfl:=JA he
  have ho:(zH m).length=(zH m).length∧(zH m)[j]? = some (.agg (m.getD j xG).ps,.bool true):=⟨rfl,ho⟩
  refine⟨fun hb=>?_,fun hb=>?_⟩
  ·unfold bE at hb
   have h1:(H6 a (m.getD j xG).facts==0)=true:=by revert hb;cases (H6 a (m.getD j xG).facts==0)<;>simp
   have h2:(!(m.getD j xG).goal)=true:=by rw[h1] at hb;simpa using hb
   exact exS hX hO (by kernel_rfl) (.c (.bf [.agg (m.getD j xG).ps,.bool true]) [] ho (.b h1 (.b h2 (.r rfl))))
  ·unfold bE at hb
   cases h1:(H6 a (m.getD j xG).facts==0)
   ·exact exS hX hO (by kernel_rfl) (.c (.bf [.agg (m.getD j xG).ps,.bool true]) [] ho (.b h1 (.r rfl)))
   ·have h2:(!(m.getD j xG).goal)=false:=by rw[h1] at hb;simpa using hb
    exact exS hX hO (by kernel_rfl) (.c (.bf [.agg (m.getD j xG).ps,.bool true]) [] ho (.b h1 (.b h2 (.r rfl))))
 ·have e2:qm m a=false:=by unfold qm;rw[vC.2 ⟨j,by rw[tZ] at hj;exact hj,hb⟩];rfl
  rw[e2]
  exact⟨.inr rfl,[.bool false],by kernel_rfl,rfl⟩
 ·have e2:qm m a=true:=by
   unfold qm
   cases h:m.any (bE a)
   ·rfl
   ·obtain⟨j,hj,hc⟩:=vC.1 h
    rw[hb j (by rw[tZ];exact hj)] at hc;cases hc
  rw[e2]
  exact⟨.inr rfl,[.bool true],by kernel_rfl,rfl⟩
end
end Go.Proofs.YtjkgcifieggcpaaGreat
namespace Tw
open Go
noncomputable section
section
variable (P:Program) (call:ay) (site:Nat→Bool) (s:St)
theorem a8i {P:Program} {T:Tab} {L n f:Nat} (hm:P.follows .mixedOrders=true) (hE:aj P T.ext) (hr:isT (NR P T (iL P T L n) L f [] [])=true):aj P (a03 f true):=by
 obtain⟨h0,hr⟩:∃ h0,NR P T (iL P T L n) L f [] []=some (.bool true,h0,[]):=by
  unfold isT at hr
  split at hr
  ·exact⟨_,‹_›⟩
  ·cases hr
 intro fv args h v h' ws hc M w x xs hV hl hx hxs
 unfold a03 at hc
 split at hc
 ·rename_i g
  split at hc
  ·rename_i hg
   subst hg
   cases hc
   cases hx with
   | fn h1 h2 h3 h4=>
    rename_i ys zs
    have hy:ys=[]:=List.eq_nil_of_length_eq_zero h1.symm
    have hz:zs=[]:=List.eq_nil_of_length_eq_zero h3.symm
    have hxx:xs=[]:=List.eq_nil_of_length_eq_zero hxs.len.symm
    subst hy hz hxx
    have h0:Base (fun _=>none) [] w:=⟨⟨by simp,by simp,by simp⟩,by simp⟩
    obtain⟨fn,c,e1,e2,e3,e4⟩:=Ak hm (bW (L:=L) hm hE n) (U4▸hr) h0 (xs:=[]) .nil
    refine⟨{ target:=.fn (.func g) #[],args:=#[] },fun w=>by simp[Deferred.ofValue],.inl ⟨⟨g,#[],?_,fun n=>?_⟩,_,[],[],rfl⟩⟩
    ·have e2' : ¬ fn.name = "runtime.NumGoroutine" := by simpa using e2
     simp[invoke,callFunc,program,Sem.run,e1,e2',e3]
    ·refine (e4 n).mono fun e w' hR=>?_
     cases e with
     | panicked c=>exact hR.elim
     | outgrown=>exact hR.elim
     | returned v=>
      obtain⟨M2,_,_,hX,hv'⟩:=hR
      cases hv'
      have hf:∀ c,c<w.heap.size→w'.heap[c]? = w.heap[c]?:=fun c hc=>hX.frame c hc (by simp)
      refine⟨M,⟨fun k l hk hd=>?_,hV.own,fun k l hk c hc=>Nat.lt_of_lt_of_le (hV.inb k l hk c hc) hX.size⟩,hl,⟨.refl M,fun c hc _=>hf c hc,fun _ _ _=>rfl,fun _ _ _=>rfl,fun k l hk c hc _=>⟨l,hk,hc⟩,hX.size,fun _ h=>h,by simp,by simp,hX.os,hX.output,hX.tape⟩,.bool _⟩
      obtain⟨b,g1,g2⟩:=hV.ok k l hk hd
      exact⟨b,g1,g2.mono (.refl _) fun c hc=>hf c (hV.inb k l hk c hc)⟩
  ·cases hc
 ·cases hc
open Go.ChangeShapes Go.WideShapes Go.RowKit
end
end
end Tw
namespace Tw
open Go Go.ChangeShapes Go.WideShapes Go.RowKit
theorem a7g {H:Type} {enc:TypeId×Value→H} {P:Program} {w:World} {t:TypeId} {ts:List TypeId} {vs:List Value} {ds:List (DataW H)} {ps:List MemPlace} (h:DataW.TrodAll enc P w 0 (fun _=>true) true (t::ts) vs ds ps):∃ d e,ds=d::e∧Rd enc P w t d∧∃ vs ps,DataW.TrodAll enc P w 0 (fun _=>true) true ts vs e ps:=by
 obtain⟨v,vs',d,ds',p,q,rfl,rfl,rfl,⟨fuel,hd⟩,hrest⟩:=trodAll_cons h
 exact⟨d,ds',rfl,⟨_,fuel,p,hd⟩,_,_,hrest⟩
section
variable {H:Type} {P:Program} {g:Nat} {t:TypeId} {ts:List TypeId} {d:DataW H} {ds:List (DataW H)} {h h1 h2:List HB} {xs:List TV}
theorem aaD {cs:List TV} (ha:lW P t=some true) (he:MZ P g t d h=some (cs,h1)) (hr:OU P g ts ds h1=some (xs,h2)):OU P g (t::ts) (d::ds) h=some (.agg cs::xs,h2):=by
 simp only[OU,he,ha,hr]
theorem aaE:OU (H:=H) P g [] [] h=some ([],h):=rfl
end
end Tw
namespace Pv
open Go Tw
section
variable {X:gZ} {P:Program} {H:Type} {xC:TypeId×Value→H} {w:World}
abbrev AT:Nat→Prop:=fun _=>True
def RdP (xC:TypeId×Value→H) (X:gZ) (P:Program) (w:World) (g t:Nat) {α:Type} (ps:α→List (PV X.Γ)) (Q:α→Prop):Prop:=
 ∀ d,Rd xC P w t d→∃ a,Q a∧∀ h,∃ xs ext,MZ P g t d h=some (xs,h++ext)∧∀ e,aG X P AT [] (h++ext++e) (ps a) xs
theorem a6G {t g:Nat} {k:IntKind} (ht:P.underlying t=some (.int k)):RdP xC X P w (g+1) t (fun n:Int=>[.int k n]) (fun n=>(Lit.int k n).wf=true):=fun d hd=>by
 obtain⟨n,rfl,hn⟩:=a9Z ht hd
 exact⟨n,hn,fun h=>⟨[.int k n],[],by simp[MZ,ht],fun e=>.cons (.int _ _) .nil⟩⟩
theorem a4R {e g sz:Nat} {Q:X.Γ e→Prop} (hlen:∀ a,(X.enc e a).length=sz) (hr:RdP xC X P w g e (X.enc e) Q):∀ (ds:List (DataW H)),(∀ y∈ds,Rd xC P w e y) →
  ∃ l:List (X.Γ e),l.length=ds.length∧(∀ a∈l,Q a)∧∀ h,∃ cs ext,OO (MZ P g e) sz ds h=some (cs,h++ext)∧cs.length=l.length*sz∧∀ e2 (j:Nat) a (i:Nat) c v,l[j]? = some a→(X.enc e a)[i]? = some c→cs[j*sz+i]? = some v→VR X P AT [] (h++ext++e2) c v
 | [],_=>⟨[],rfl,by simp,fun h=>⟨[],[],by simp[OO],by simp,fun e2 j a i c v h1=>by simp at h1⟩⟩
 | d::ds,hd=>by
  obtain⟨a,qa,ha⟩:=hr d (hd d (List.mem_cons_self ..))
  obtain⟨l,l1,l2,l3⟩:=a4R hlen hr ds fun y hy=>hd y (List.mem_cons_of_mem _ hy)
  refine⟨a::l,by simp[l1],fun b hb=>(List.mem_cons.1 hb).elim (fun e=>e▸qa) (l2 b),fun h=>?_⟩
  obtain⟨xs,e1,h1,v1⟩:=ha h
  obtain⟨cs,e2,h2,c2,v2⟩:=l3 (h++e1)
  have hx:xs.length=sz:=by rw[←(v1 []).1];exact hlen a
  refine⟨xs++cs,e1++e2,?_,by simp only[List.length_append,List.length_cons,hx,c2,Nat.add_mul];omega,fun e3 j b i c v hj hi hv=>?_⟩
  ·simp only[OO,h1,hx,if_true,h2,List.append_assoc]
  ·cases j with
   | zero=>
    simp only[List.getElem?_cons_zero,Option.some.injEq] at hj
    subst hj
    have hi2:i<sz:=by rw[←hlen a];exact (List.getElem?_eq_some_iff.1 hi).1
    rw[Nat.zero_mul,Nat.zero_add,List.getElem?_append_left (by omega)] at hv
    have:=(v1 (e2++e3)).2 i c v hi hv
    simp only[List.append_assoc] at this ⊢
    exact this
   | succ j=>
    rw[List.getElem?_cons_succ] at hj
    rw[List.getElem?_append_right (by rw[hx,Nat.add_mul];omega),hx,show (j+1)*sz+i-sz=j*sz+i by rw[Nat.add_mul];omega] at hv
    have:=v2 e3 j b i c v hj hi hv
    simp only[List.append_assoc] at this ⊢
    exact this
theorem a2s {t e g sz:Nat} {Q:X.Γ e→Prop} (ht:P.underlying t=some (.slice e)) (hsz:P.cellsOf e=sz) (hz:sizeT P e=some sz) (h0:0<sz) (hlen:∀ a,(X.enc e a).length=sz) (hr:RdP xC X P w g e (X.enc e) Q):RdP xC X P w (g+1) t (fun l:List (X.Γ e)=>[.lst e l false]) (fun l=>∀ a∈l,Q a):=fun d hd=>by
 rcases a7t ht hd with rfl | ⟨xs,ys,rfl,hy⟩
 ·exact⟨[],by simp,fun h=>⟨[.nil .slc],[],by simp[MZ,ht],fun e=>.cons .jg .nil⟩⟩
 ·obtain⟨l,l1,l2,l3⟩:=a4R hlen hr (xs++ys) hy
  have hl:xs.length≤l.length:=by rw[l1,List.length_append];omega
  refine⟨l.take xs.length,fun a ha=>l2 a (List.mem_of_mem_take ha),fun h=>?_⟩
  obtain⟨cs,e1,h1,c1,v1⟩:=l3 h
  refine⟨[.slc (h++e1).length 0 xs.length (xs.length+ys.length) sz true],e1++[.cells .ro cs],?_,fun e2=>.cons ?_ .nil⟩
  ·have hne:¬sz=0:=by omega
   simp only[MZ,ht,hsz,h1,hne,if_false,List.append_assoc]
  ·have hln:(l.take xs.length).length=xs.length:=by rw[List.length_take,Nat.min_eq_left hl]
   have hb:(h++(e1++[HB.cells .ro cs])++e2)[(h++e1).length]? = some (.cells .ro cs):=by
    rw[show h++(e1++[HB.cells .ro cs])++e2=(h++e1)++(HB.cells .ro cs::e2) by simp,List.getElem?_append_right (Nat.le_refl _),Nat.sub_self];rfl
   have hcap:(l.take xs.length).length≤xs.length+ys.length:=by omega
   have hj2:∀ (j:Nat) a,(l.take xs.length)[j]? = some a→l[j]? = some a:=fun j a hj=>by
    rw[List.getElem?_take] at hj
    split at hj
    ·exact hj
    ·cases hj
   have hle:(l.take xs.length).length*sz≤cs.length:=by rw[c1,hln];exact Nat.mul_le_mul_right sz hl
   generalize xs.length+ys.length=cp at hcap ⊢
   generalize l.take xs.length=l' at hcap hj2 hle hln ⊢
   rw[←hln]
   exact VR.lst (X:=X) (P:=P) (A:=AT) (m:=[]) (t:=e) (l:=l') (fu:=false) (b:=(h++e1).length) (off:=0) (cap:=cp) (sz:=sz) (ex:=true) (cs:=cs) trivial (by unfold aB;rw[hb]) (fun _=>by unfold gq;rw[hb];simp) hz h0 (by omega) hcap (by simp) (fun j a _=>hlen a) (fun j a i c v hj hi hv=>by
    rw[Nat.zero_add] at hv
    have:=v1 ([HB.cells .ro cs]++e2) j a i c v (hj2 j a hj) hi hv
    simp only[List.append_assoc] at this ⊢
    exact this)
def RdF (xC:TypeId×Value→H) (X:gZ) (P:Program) (w:World) (g o:Nat) (fs:List Field) {α:Type} (ps:α→List (PV X.Γ)) (Q:α→Prop):Prop:=
 ∀ ds:List (DataW H),ds.length=fs.length→(∀ (i:Nat) f d,fs[i]? = some f→ds[i]? = some d→Rd xC P w f.type d)→∃ a,Q a∧∀ h,∃ xs ext,IL P (MZ P g) o fs ds h=some (xs,h++ext)∧∀ e,aG X P AT [] (h++ext++e) (ps a) xs
theorem a2v {g o:Nat}:RdF xC X P w g o [] (fun _:Unit=>[]) (fun _=>True):=fun ds hl _=>by
 have:=List.eq_nil_of_length_eq_zero hl
 subst this
 exact⟨(),trivial,fun h=>⟨[],[],by simp[IL],fun e=>.nil⟩⟩
theorem xu {g o n:Nat} {f:Field} {fs:List Field} {α β:Type} {p1:α→List (PV X.Γ)} {p2:β→List (PV X.Γ)} {Q1:α→Prop} {Q2:β→Prop} (ho:f.offset=o) (hc:P.cellsOf f.type=n) (hn:∀ a,(p1 a).length=n) (h1:RdP xC X P w g f.type p1 Q1) (h2:RdF xC X P w g (o+n) fs p2 Q2):RdF xC X P w g o (f::fs) (fun x:α×β=>p1 x.1++p2 x.2) (fun x=>Q1 x.1∧Q2 x.2):=fun ds hl hd=>by
 cases ds with
 | nil=>cases hl
 | cons d ds=>
  obtain⟨a,qa,ha⟩:=h1 d (hd 0 f d rfl rfl)
  obtain⟨b,qb,hb⟩:=h2 ds (by simpa using hl) fun i f' d' e1 e2=>hd (i+1) f' d' e1 e2
  refine⟨(a,b),⟨qa,qb⟩,fun h=>?_⟩
  obtain⟨xs,e1,g1,v1⟩:=ha h
  obtain⟨ys,e2,g2,v2⟩:=hb (h++e1)
  have hx:xs.length=n:=by rw[←(v1 []).1];exact hn a
  refine⟨xs++ys,e1++e2,?_,fun e=>?_⟩
  ·simp only[IL,g1,ho,hx,hc,and_self,if_true,g2,List.append_assoc]
  ·have w1:=v1 (e2++e)
   have w2:=v2 e
   simp only[List.append_assoc] at w1 w2 ⊢
   exact w1.app w2
theorem a1B {t g n:Nat} {fs:Array Field} {α:Type} {ps:α→List (PV X.Γ)} {Q:α→Prop} (ht:P.underlying t=some (.struct fs)) (hc:P.cellsOf t=n) (hn:∀ a,(ps a).length=n) (hf:RdF xC X P w g 0 fs.toList ps Q):RdP xC X P w (g+1) t ps Q:=fun d hd=>by
 obtain⟨ds,rfl,hl,hat⟩:=a6R ht hd
 obtain⟨a,qa,ha⟩:=hf ds (by simpa using hl) fun i f d e1 e2=>hat i f d (by simpa using e1) e2
 refine⟨a,qa,fun h=>?_⟩
 obtain⟨xs,e1,g1,v1⟩:=ha h
 have hx:xs.length=n:=by rw[←(v1 []).1];exact hn a
 refine⟨xs,e1,?_,v1⟩
 rw[a5m ht,g1]
 simp[hx,hc]
theorem RdP.iso {t g:Nat} {α β:Type} {ps:α→List (PV X.Γ)} {Q:α→Prop} (h:RdP xC X P w g t ps Q) (f:α→β) {p2:β→List (PV X.Γ)} {Q2:β→Prop} (hp:∀ a,p2 (f a)=ps a) (hq:∀ a,Q a→Q2 (f a)):RdP xC X P w g t p2 Q2:=fun d hd=>by
 obtain⟨a,qa,ha⟩:=h d hd
 exact⟨f a,hq a qa,fun h=>by rw[hp];exact ha h⟩
theorem aaF {T:Tab} {L n f:Nat} {vs:List (PV X.Γ)} {xs:List TV} {h:List HB} (hc:VW X P (yw P T L (n+1)) f vs (PV.bool true) []) (hv:aG X P AT [] h vs xs):∃ h',yw P T L (n+1) (TV.fn f [] []) xs h=some (TV.bool true,h',[]):=by
 obtain⟨x,h',m',c1,_,c3,_⟩:=hc AT h [] xs [] (fun _ _=>trivial) (by simpa using hv)
 have:x=TV.bool true:=by
  cases c3 with
  | bool=>rfl
  | gone hi _ _=>simp[aF] at hi
 subst this
 exact⟨h',c1⟩
end
end Pv
namespace Go.Proofs.YtjkgcifieggcpaaGreat
open Go Tw Pv
section
variable {H:Type} {xC:TypeId×Value→H} {w:World}
abbrev RdX (xC:TypeId×Value→H) (w:World) (g t:Nat) {α:Type} (ps:α→List (PV bF)) (Q:α→Prop):Prop:=RdP xC X0 Tryz.prog w g t ps Q
theorem a6H:Tryz.prog.cellsOf 3=1:=by kernel_rfl
theorem aeV:Tryz.prog.cellsOf 5=1:=by kernel_rfl
theorem a9M:Tryz.prog.cellsOf 79=2:=by kernel_rfl
theorem zI0:sizeT Tryz.prog 3=some 1:=by kernel_rfl
theorem a9h {g:Nat}:RdX xC w (g+1) 3 (fun n:Int=>[.int .i64 n]) (fun n=>(Lit.int .i64 n).wf=true):=a6G Tryz.underlying3
theorem rU8 {g:Nat}:RdX xC w (g+1) 5 (fun n:Int=>[.int .u8 n]) (fun n=>0≤n∧n≤255):=(a6G Tryz.underlying5).iso id (fun _=>rfl) fun n h=>by
 simp only[Lit.wf,Bool.and_eq_true,decide_eq_true_eq] at h
 exact h
theorem a5H {g:Nat}:RdX xC w (g+2) 22 (fun l:List Int=>[lI l]) (fun l=>∀ a∈l,(Lit.int .i64 a).wf=true):=a2s (e:=3) Tryz.underlying22 a6H zI0 (by decide) (fun _=>rfl) a9h
theorem aeW {g:Nat}:RdX xC w (g+2) 79 V.ps (fun v=>0≤v.f∧v.f≤255):=
 (a1B Tryz.underlying79 a9M (fun _=>rfl) (xu rfl aeV (fun _=>rfl) rU8 (xu rfl a6H (fun _=>rfl) a9h a2v))).iso (fun x=>⟨x.1,x.2.1⟩) (fun _=>rfl) fun _ h=>h.1
theorem ad4:sizeT Tryz.prog 79=some 2:=by kernel_rfl
theorem ad5 {g:Nat}:RdX xC w (g+3) 24 (fun l:List V=>[lV l]) (fun l=>∀ v∈l,0≤v.f∧v.f≤255):=a2s (e:=79) Tryz.underlying24 a9M ad4 (by decide) (fun _=>rfl) aeW
theorem a8l:Tryz.prog.cellsOf 22=1:=by kernel_rfl
end
end Go.Proofs.YtjkgcifieggcpaaGreat
namespace Go.Proofs.YtjkgcifieggcpaaGreat
open Go Tw Pv fA
section
variable {H:Type} {xC:TypeId×Value→H} {w:World}
theorem ad6:Tryz.prog.cellsOf 102=2:=by kernel_rfl
theorem aeX:sizeT Tryz.prog 102=some 2:=by kernel_rfl
theorem ad7:Tryz.prog.cellsOf 25=1:=by kernel_rfl
theorem aeY:Tryz.prog.cellsOf 24=1:=by kernel_rfl
theorem aaG:Tryz.prog.cellsOf 27=5:=by kernel_rfl
theorem rBr {g:Nat}:RdX xC w (g+3) 102 Br.ps (fun b=>∀ a∈b.kids,(Lit.int .i64 a).wf=true):=
 (a1B Tryz.underlying102 ad6 (fun _=>rfl) (xu rfl a6H (fun _=>rfl) a9h (xu rfl a8l (fun _=>rfl) a5H a2v))).iso (fun x=>⟨x.1,x.2.1⟩) (fun _=>rfl) fun _ h=>h.2.1
theorem aeZ {g:Nat}:RdX xC w (g+4) 25 (fun l:List Br=>[lBr l]) (fun l=>∀ b∈l,∀ a∈b.kids,(Lit.int .i64 a).wf=true):=a2s (e:=102) Tryz.underlying25 ad6 aeX (by decide) (fun _=>rfl) rBr
theorem a8m {a:Int} (h:(Lit.int .i64 a).wf=true):W64 a:=by
 simp only[Lit.wf,Bool.and_eq_true,decide_eq_true_eq] at h
 obtain⟨h1,h2⟩:=h
 have e1:IntKind.i64.min=-(2^63):=by decide
 have e2:IntKind.i64.max=2^63-1:=by decide
 exact⟨by omega,by omega⟩
theorem rDg {g:Nat}:RdX xC w (g+5) 27 Dg.ps DgR:=
 (a1B Tryz.underlying27 aaG (fun _=>rfl) (xu rfl a8l (fun _=>rfl) a5H (xu rfl a8l (fun _=>rfl) a5H (xu rfl aeY (fun _=>rfl) ad5 (xu rfl ad7 (fun _=>rfl) aeZ (xu rfl a6H (fun _=>rfl) a9h a2v)))))).iso (fun x=>⟨x.1,x.2.1,x.2.2.1,x.2.2.2.1,x.2.2.2.2.1⟩) (fun _=>rfl) fun x h=>by
  obtain⟨_,_,h3,h4,h5,_⟩:=h
  refine⟨fun i hi k hk=>?_,a8m h5,fun v hv=>(h3 v hv).1⟩
  have hb:zF ⟨x.1,x.2.1,x.2.2.1,x.2.2.2.1,x.2.2.2.2.1⟩ i∈x.2.2.2.1:=by
   show (x.2.2.2.1).getD i O4∈_
   rw[List.getD,List.getElem?_eq_getElem hi]
   exact List.getElem_mem _
  refine a8m (h4 _ hb _ ?_)
  rw[List.getD,List.getElem?_eq_getElem hk]
  exact List.getElem_mem _
end
end Go.Proofs.YtjkgcifieggcpaaGreat
namespace Go.Proofs.YtjkgcifieggcpaaGreat
open Go Tw Pv fA
def gLi (a:Int) (k:Nat) (y:List Int):List Int:=if a0Q a k=true then y++[(k:Int)] else y
def a1C (a:Int):List Int:=qj (gLi a) 8 0 []
abbrev wLi (a:Int) (y:List Int) (i:Int) (x:List (Nat×PE bF)):aP bF:=⟨[(0,.val (.int .u64 a)),(3,.val (.own 0)),(6,xi i)]++x,[],[.list false false 3 y]⟩
theorem lLi {n:Nat} (hO:Ok n V8) (a:Int):LpB n 116 0 0 (wLi a [] 0 []) (.exit 0) (wLi a (a1C a) 8 [(7,xl false)]):=by
 refine a0V (σ:=List Int) (N:=8) (g:=gLi a) (s0:=[]) (st:=fun i y=>wLi a y i []) (fin:=fun y=>wLi a y 8 [(7,xl false)]) (fun k y=>y.length≤k) (by kernel_rfl) (by decide) (Nat.le_refl 0) (fun j y hj hy=>by
  unfold gLi;split
  ·rw[List.length_append,List.length_singleton];omega
  ·omega) (fun j y hj hy m e p g9=>?_) (fun y _=>?_)
 ·unfold gLi at g9
  have h0:(0:Int)≤(j:Int):=by omega
  have h2:y.length+[(j:Int)].length≤most:=by simp only[List.length_singleton];unfold most;omega
  cases h:a0Q a j
  ·rw[h] at g9
   exact round hX hO (by kernel_rfl) (.b (WC hj) (.o h0 (.b h (.go g9))))
  ·rw[h,if_pos rfl] at g9
   exact round hX hO (by kernel_rfl) (.b (WC hj) (.o h0 (.b h (.o h2 (.goG [.gc [2]] g9)))))
 ·exact round hX hO (by kernel_rfl) (.b (YZ 8) .ex)
noncomputable def a6I:gK bF:=cO 116 (a1 pA) isA a1C np V8
theorem ad8:Gd a6I:=a9I.add fun n hO p hp=>dS hX hO (by kernel_rfl) (.wG [.flag 0] (lLi (n:=n) hO p) .rr)
def a1T (k:Nat):Int:=YB .u64 1 k
def a4C (f:List Fc):Int:=IntKind.u64.wrap (YB .u64 1 f.length-1)
theorem a8n {n:Nat} (s o:List Int) (f:List Fc) (g:Dg) (m:List Pc):nH X0 Tryz.prog (ApN (n+1)) (.fn 114 [] []) [.ptr 1 0 9] (HT0 s o f g m) (.int .u64 (a4C f)) (HT0 s o f g m):=
 WE hX ok0 (first:=[]) (cap:=[]) (by kernel_rfl) (.o (show (0:Int)≤(f.length:Int) by omega) .er)
theorem sWo {n:Nat} (hO:Ok n a6I) (a b:Int):nH X0 Tryz.prog (ApN n) (.fn 115 [] []) [.int .u64 a,.int .u64 b] [] (.int .u64 (H6 a b)) []:=
 VW.aaw hX (first:=[]) (cap:=[]) (hO 115 [.int .u64 a,.int .u64 b] (pA.put (H6 a b)) [] [] (by kernel_rfl) (fun p h=>by cases h)) rfl rfl rfl rfl
def a9i (a b:Int):Int:=IntKind.u64.wrap (((BitVec.ofInt 64 a ||| BitVec.ofInt 64 b).toNat:Nat):Int)
def gNd (f:List Fc) (m:List Pc) (k:Nat) (y:Int):Int:=if (!(qm m (H6 (a4C f) (a1T k))))=true then a9i y (a1T k) else y
def a4t (f:List Fc) (m:List Pc):Int:=qj (gNd f m) f.length 0 0
noncomputable abbrev wNd (s o:List Int) (f:List Fc) (g:Dg) (m:List Pc) (y:Int) (i:Int) (x:List (Nat×PE bF)):aP bF:=⟨[(10,.val (.ptr 1 0 9)),(12,.val (.int .u64 y)),(34,xi f.length),(35,xi i)]++x,[],HT0 s o f g m⟩
theorem lNd {n:Nat} (hO:∀ k,n≤k→Ok k a6I) (hQ:∀ k,n≤k→Ok k V8) (s o:List Int) (f:List Fc) (g:Dg) (m:List Pc) (hm:m.length<LL) (hf:f.length≤most):LpB (n+1) 75 0 0 ⟨(wNd s o f g m 0 0 []).env,[g.ps],HT0 s o f g m⟩ (.exit 1) (wNd s o f g m (a4t f m) f.length [(36,xl false)]):=by
 refine a0V (σ:=Int) (N:=f.length) (g:=gNd f m) (s0:=0) (st:=fun i y=>wNd s o f g m y i []) (fin:=fun y=>wNd s o f g m y f.length [(36,xl false)]) (fun _ _=>True) (by kernel_rfl) hf trivial (fun _ _ _ _=>trivial) (fun j y hj hy m1 e p g9=>?_) (fun y _=>?_)
 ·unfold gNd at g9
  have h0:(0:Int)≤(j:Int):=by omega
  have h1:=a8n (n:=n) s o f g m
  have h2:=sWo (hO (n+1) (by omega)) (a4C f) (a1T j)
  have h3:=a9L (hQ n (by omega)) s o f g m (H6 (a4C f) (a1T j)) hm
  cases h:(!(qm m (H6 (a4C f) (a1T j))))
  ·rw[h] at g9
   exact round hX (hO (n+1) (by omega)) (by kernel_rfl) (.b (WC hj) (.o h0 (.fr [0,1] h1 (.fr [] h2 (.frR (H2:=HT0 s o f g m) [0,1] [0,1] h3 (.b h (.go g9)))))))
  ·rw[h,if_pos rfl] at g9
   exact round hX (hO (n+1) (by omega)) (by kernel_rfl) (.b (WC hj) (.o h0 (.fr [0,1] h1 (.fr [] h2 (.frR (H2:=HT0 s o f g m) [0,1] [0,1] h3 (.b h (.go g9)))))))
 ·exact round hX (hO (n+1) (by omega)) (by kernel_rfl) (.b (YZ f.length) .ex)
def TL (s o:List Int) (f:List Fc) (g:Dg):List Int×Int:=if yS s o f g=0 then (if (!(qm (VB f g) (a4C f)))=true then ([],7) else (a1C (a4t f (VB f g)),0)) else ([],yS s o f g)
def WOk (f:List Fc) (g:Dg):Prop:=(TQ g).1.length≤most∧∀ k,k<(jT f).length→(cAt (jT f) k).length=(TQ g).1.length
theorem aaH (l:List Pc):(a7f l).length≤l.length:=by
 have:=NC (g:=g4W l) (m:=l.length) (k:=0) (s:=[]) (fun k y=>y.length≤k) (Nat.le_refl 0) fun j y _ _ h=>by
  unfold g4W;split
  ·omega
  ·rw[List.length_append,List.length_singleton];omega
 rw[Nat.zero_add] at this
 exact this
theorem a9j {f:List Fc} {g:Dg}:(VB f g).length≤(TQ g).1.length:=by
 have:=aaH (a2q (jT f) (a1N (TQ g).1))
 rw[a6e,a4s] at this
 exact this
noncomputable def a8o:gK bF:=cO 75 (a4 isA isA a04 dA) (PY (a2 isA iA)) (fun p=>TL p.1 p.2.1 p.2.2.1 p.2.2.2) (fun p=>[a3L p.1 p.2.1 p.2.2.1 p.2.2.2,yS p.1 p.2.1 p.2.2.1 p.2.2.2=0→WOk p.2.2.1 p.2.2.2]) a6I
theorem af0:Gd a8o:=ad8.a9u 2 a9I fun n hn hO hQ p hp=>by
 obtain⟨s,o,f,g⟩:=p
 have h1:a3L s o f g:=hp _ (.head _)
 have h2:yS s o f g=0→WOk f g:=hp _ (.tail _ (.head _))
 obtain⟨n,rfl⟩:∃ k,n=k+2:=⟨n-2,by omega⟩
 show VW X0 Tryz.prog _ _ _ ((PY (a2 isA iA)).put (TL s o f g)) _
 unfold TL
 by_cases h:yS s o f g=0
 ·rw[if_pos h]
  obtain⟨hc,hd⟩:=h2 h
  have w:=aaC (hQ (n+1) (by omega)) h1 h hc hd
  have hm:(VB f g).length<LL:=by have:=a9j (f:=f) (g:=g);have:=LLm;omega
  have e1:=a8n (n:=n+1) s o f g (VB f g)
  have e2:=a9L (hQ (n+1) (by omega)) s o f g (VB f g) (a4C f) hm
  have lp:=lNd (n:=n+1) (fun k hk=>hO k (by omega)) (fun k hk=>hQ k (by omega)) s o f g (VB f g) hm h1.lf
  exact dS hX (hO (n+2) (by omega)) (by kernel_rfl) (.fr [] w (.b (rfl:((0:Int) != 0)=false) (.fr [0,1] e1 (.frR (H2:=HT0 s o f g (VB f g)) [0,1] [0,1] e2 (.ss (.rn (.bf [.nil .slc,.int .i64 7]) rfl) (.w lp .rr))))))
 ·rw[if_neg h]
  have w:=aaB (hQ (n+1) (by omega)) h1 h
  exact dS hX (hO (n+2) (by omega)) (by kernel_rfl) (.fr [] w (.b (show (yS s o f g != 0)=true by simpa using h) (.rn (.bf [.nil .slc,.int .i64 (yS s o f g)]) rfl)))
end Go.Proofs.YtjkgcifieggcpaaGreat
namespace Go.Proofs.YtjkgcifieggcpaaGreat
open Go Tw Pv fA
abbrev fAt (l:List Fc) (k:Nat):Dg:=(l.getD k Fc0).d
abbrev wRc (b:Nat) (s o:List Int) (f:List Fc) (i:Int) (x:List (Nat×PE bF)):aP bF:=⟨[(0,xL 3 s),(1,xL 3 o),(2,xL 66 f),(b,xi i)]++x,[],[]⟩
def cK1 (f:List Fc) (k:Nat):Bool:=a0n (fAt f k) != 0
def cK2 (s o:List Int) (f:List Fc) (k:Nat):Bool:=!(V7 (s,o) (fAt f k))
def zR1 (s o:List Int) (f:List Fc):Unit⊕Nat→Ex×aP bF
 | .inl _=>(.exit 0,wRc 8 s o f f.length [(23,xl false)])
 | .inr k=>(.ret,⟨[(6,xi (a0n (fAt f k)))],[],[]⟩)
def zR2 (s o:List Int) (f:List Fc):Unit⊕Nat→Ex×aP bF
 | .inl _=>(.exit 2,wRc 10 s o f f.length [(38,xl false)])
 | .inr _=>(.ret,⟨[(6,xi 2)],[],[]⟩)
theorem lR1 {n:Nat} (hO:Ok n a8o) (s o:List Int) (f:List Fc) (hp:∀ k,k<f.length→DgP (fAt f k)) (hl:f.length≤most):Lp n 66 0 (wRc 8 s o f 0 []) (zR1 s o f (mF (cK1 f) f.length)).1 (zR1 s o f (mF (cK1 f) f.length)).2:=by
 refine searchL (st:=fun i _=>wRc 8 s o f i []) (g:=gS (cK1 f)) (out:=zR1 s o f) (fun _ _=>True) (by kernel_rfl) hl trivial (fun k u m hk _ ih=>?_) (fun _ _=>?_)
 ·have h9:=hp k hk
  have h1:(fAt f k).order.length≤most:=by have:=h9.o;unfold most;omega
  have h2:(fAt f k).ends.length≤most:=by have:=h9.e;omega
  unfold gS cK1
  exact round hX hO (by kernel_rfl) (.b (WC hk) (.o (dB hk) (.o h1 (.o h2 (.ls (.ou nofun) (.nx (ih _ trivial)))))))
 ·exact round hX hO (by kernel_rfl) (.b (YZ f.length) (.ou nofun))
theorem lR2 {n:Nat} (hO:Ok n a8o) (s o:List Int) (f:List Fc) (hp:∀ k,k<f.length→DgP (fAt f k)) (hl:f.length≤most):Lp n 66 1 (wRc 10 s o f 0 []) (zR2 s o f (mF (cK2 s o f) f.length)).1 (zR2 s o f (mF (cK2 s o f) f.length)).2:=by
 refine searchL (st:=fun i _=>wRc 10 s o f i []) (g:=gS (cK2 s o f)) (out:=zR2 s o f) (fun _ _=>True) (by kernel_rfl) hl trivial (fun k u m hk _ ih=>?_) (fun _ _=>?_)
 ·have h9:=hp k hk
  have h1:(fAt f k).order.length≤most:=by have:=h9.o;unfold most;omega
  have h2:=h9.s
  have hg:gS (cK2 s o f) k u=if (!(V7 (s,o) (fAt f k)))=true then .inr k else .inl u:=rfl
  unfold V7 at hg
  cases h:(!(decide ((fAt f k).sizes=s)))
  ·have h3:decide ((fAt f k).sizes=s)=true:=by simpa using h
   rw[h3,if_pos rfl] at hg
   rw[hg]
   exact round hX hO (by kernel_rfl) (.b (WC hk) (.o (dB hk) (.o h2 (.b h (.o (dB hk) (.o h1 (.ls (.ou nofun) (.nx (ih _ trivial)))))))))
  ·have h3:decide ((fAt f k).sizes=s)=false:=by simpa using h
   have hg:gS (cK2 s o f) k u=.inr k:=by unfold gS cK2 V7;rw[h3];rfl
   rw[hg]
   exact round hX hO (by kernel_rfl) (.b (WC hk) (.o (dB hk) (.o h2 (.b h (.ou nofun)))))
 ·exact round hX hO (by kernel_rfl) (.b (YZ f.length) (.ou nofun))
def a1P (s o:List Int) (f:List Fc):Int:=if (iK s o != 0)=true then iK s o else if decide ((f.length:Int)>8)=true then 5 else if D5 (mF (cK1 f) f.length)=true then (if D5 (mF (cK2 s o f) f.length)=true then 0 else 2) else a0n (fAt f (WB 0 (mF (cK1 f) f.length)))
noncomputable def ada:gK bF:=cO 66 (a3 isA isA a04) iA (fun p=>a1P p.1 p.2.1 p.2.2) (fun p=>[p.2.1.length≤most,p.2.2.length≤most,∀ k,k<p.2.2.length→DgP (fAt p.2.2 k)]) a8o
abbrev anR (s o:List Int) (f:List Fc) (k:Nat) (c d:Bool):PT bF:=(.s .n (.s .n (.z c (.a (.lg [] (zR1 s o f (.inl ())).1 (zR1 s o f (.inl ())).2) (.z d (.a (.lg [] (zR2 s o f (.inl ())).1 (zR2 s o f (.inl ())).2) .n) (.a (.lg [] (zR2 s o f (.inr 0)).1 (zR2 s o f (.inr 0)).2) .n))) (.a (.lg [] (zR1 s o f (.inr k)).1 (zR1 s o f (.inr k)).2) .n))))
theorem wwR (n:Nat) (s o:List Int) (f:List Fc) (k:Nat) (c d:Bool):(KT X0 Tryz.prog T a8o (nH X0 Tryz.prog (ApN n)) (GL X0 Tryz.prog T (ApN n) LL 66 0) LL 66 ((a3 isA isA a04).put (s,o,f)) [] (anR s o f k c d)).map frz=.o (o.length≤most) (.br (iK s o != 0) (.ret (some (iA.put (iK s o)))) (.br (decide ((f.length:Int)>8)) (.ret (some (iA.put 5))) (.br c (.o (Lp n 66 0 (wRc 8 s o f 0 []) (zR1 s o f (.inl ())).1 (zR1 s o f (.inl ())).2) (.br d (.o (Lp n 66 1 (wRc 10 s o f 0 []) (zR2 s o f (.inl ())).1 (zR2 s o f (.inl ())).2) (.ret (some (iA.put 0)))) (.o (Lp n 66 1 (wRc 10 s o f 0 []) (zR2 s o f (.inr 0)).1 (zR2 s o f (.inr 0)).2) (.ret (some (iA.put 2)))))) (.o (Lp n 66 0 (wRc 8 s o f 0 []) (zR1 s o f (.inr k)).1 (zR1 s o f (.inr k)).2) (.ret (some (iA.put (a0n (fAt f k))))))))):=by kernel_rfl
theorem af2:Gd ada:=af0.add fun n hO p hp=>by
 obtain⟨s,o,f⟩:=p
 have h1:o.length≤most:=hp _ (.head _)
 have h2:f.length≤most:=hp _ (.tail _ (.head _))
 have h3:∀ k,k<f.length→DgP (fAt f k):=hp _ (.tail _ (.tail _ (.head _)))
 have l1:=lR1 hO s o f h3 h2
 have l2:=lR2 hO s o f h3 h2
 show VW X0 Tryz.prog _ _ _ (iA.put (a1P s o f)) _
 unfold a1P
 exact dS hX hO (wwR n s o f (WB 0 (mF (cK1 f) f.length)) (D5 (mF (cK1 f) f.length)) (D5 (mF (cK2 s o f) f.length))) (.o h1 (.ss .rr (.ss .rr (.zh (fun h=>.w (rC l1 () h) (.zh (fun h'=>.w (rC l2 () h') .rr) (fun h'=>.w (wC l2 0 h') .rr))) (fun h=>.w (wC l1 0 h) .rr)))))
noncomputable def aaI:gK bF:=cO 76 (a4 isA isA a04 dA) iA (fun p=>(if (a1P p.1 p.2.1 p.2.2.1 != 0)=true then a1P p.1 p.2.1 p.2.2.1 else if (a0n p.2.2.2 != 0)=true then a0n p.2.2.2 else if (!(decide (p.2.2.2.sizes=p.1)))=true then 2 else if (!(decide (p.2.2.2.order=p.2.1)))=true then 2 else 0)) (fun p=>[p.2.1.length≤most,p.2.2.1.length≤most,∀ k,k<p.2.2.1.length→DgP (fAt p.2.2.1 k),p.2.2.2.order.length≤most,p.2.2.2.ends.length≤most,p.2.2.2.sizes.length≤most]) ada
theorem af4:Gd aaI:=af2.add fun n hO p hp=>dS hX hO (by kernel_rfl) (.o (hp _ (.head _)) (.o (hp _ (.tail _ (.head _))) (.o (hp _ (.tail _ (.tail _ (.head _)))) (.ss .rr (.o (hp _ (.tail _ (.tail _ (.tail _ (.head _))))) (.o (hp _ (.tail _ (.tail _ (.tail _ (.tail _ (.head _)))))) (.ss .rr (.o (hp _ (.tail _ (.tail _ (.tail _ (.tail _ (.tail _ (.head _))))))) (.ss .rr (.o (hp _ (.tail _ (.tail _ (.tail _ (.head _))))) (.ss .rr .rr)))))))))))
end Go.Proofs.YtjkgcifieggcpaaGreat
namespace Go.Proofs.YtjkgcifieggcpaaGreat
open Go Tw Pv fA
structure a6f (d:Dg):Prop where
 t:O5 d
 n:d.nodes.length≤6000
 l:fU d=0
 f:Fine d.sizes
 o:d.order.length≤most
 e:d.ends.length≤most
def gLs (d:Dg) (k:Nat) (l:List V):List V:=l++[a0p d (WG d.sizes k)]
theorem aaJ (d:Dg):qj (gLs d) (cnt d.sizes) 0 []=cellsD d:=by
 have:=NC (g:=gLs d) (m:=cnt d.sizes) (k:=0) (s:=[]) (fun k l=>l=(List.range k).map fun (k:Nat)=>a0p d (WG d.sizes k)) rfl (fun j l _ _ e=>by rw[gLs,e,List.range_succ,List.map_append];rfl)
 rw[Nat.zero_add] at this
 exact this
abbrev wLs (d:Dg) (y:List V) (i:Int) (x:List (Nat×PE bF)):aP bF:=⟨[(1,.loc 0 0),(3,.val (.own 0)),(4,xi i)]++x,[d.ps],[.list false false 79 y]⟩
theorem lLs {n:Nat} (hO:Ok n aaI) (d:Dg) (h:a6f d):LpB n 43 0 0 (wLs d [] 0 []) (.exit 0) (wLs d (cellsD d) (cnt d.sizes) [(12,xl false)]):=by
 have hs:d.sizes.length≤most:=by have:=h.f.len;unfold most;omega
 have hc:cnt d.sizes≤most:=by have:=h.f.cnt;have:=h.f.a01;have:=h.f.many;unfold most;omega
 rw[←aaJ d]
 refine a0V (σ:=List V) (N:=cnt d.sizes) (g:=gLs d) (s0:=[]) (st:=fun i y=>wLs d y i []) (fin:=fun y=>wLs d y (cnt d.sizes) [(12,xl false)]) (fun k y=>y.length=k) (by kernel_rfl) hc rfl (fun j y hj hy=>by simp[gLs,hy]) (fun j y hj hy m e p g9=>?_) (fun y _=>?_)
 ·have h2:y.length+[a0p d (WG d.sizes j)].length≤most:=by rw[hy,List.length_singleton];omega
  exact round hX hO (by kernel_rfl) (.o hs (.b (h.f.lt hj) (.o hs (.o h.f.sz (.o (show (0:Int)≤(j:Int) by omega) (.o (show (j:Int)<2^62 by unfold most at hc;omega) (.o h.t (.o h.n (.o (a4I (j:Int) h.f.sz) (.o h2 (.goG [.gc [2]] g9)))))))))))
 ·exact round hX hO (by kernel_rfl) (.o hs (.b h.f.no .ex))
noncomputable def aaK:gK bF:=cO 43 (a1 dA) vsA cellsD (fun d=>[a6f d]) aaI
theorem af5:Gd aaK:=af4.add fun n hO p hp=>by
 have h:a6f p:=hp _ (.head _)
 have hb:(fU p != 0)=false:=by rw[h.l];rfl
 exact dS hX hO (by kernel_rfl) (.o h.o (.o h.e (.b hb (.wG [.J7 3 79] (lLs (n:=n) hO p h) .rr))))
def gMt (c:List V) (k:Nat) (l:List Bool):List Bool:=l++[decide (c.getD k V0=V1)]
def a4u (c:List V):List Bool:=c.map fun v=>decide (v=V1)
theorem aaL (c:List V):qj (gMt c) c.length 0 []=a4u c:=by
 have:=NC (g:=gMt c) (m:=c.length) (k:=0) (s:=[]) (fun k l=>l=(c.take k).map fun v=>decide (v=V1)) rfl (fun j y _ h e=>by
  have hj:j<c.length:=by omega
  have e2:c.getD j V0=c[j]:=by simp only[List.getD,List.getElem?_eq_getElem hj,Option.getD_some]
  rw[gMt,e,e2,List.take_add_one,List.getElem?_eq_getElem hj,List.map_append];rfl)
 rw[Nat.zero_add,List.take_length] at this
 exact this
abbrev wMt (c:List V) (y:List Bool) (i:Int) (x:List (Nat×PE bF)):aP bF:=⟨[(3,.val (.own 0)),(4,xL 79 c),(5,xi i)]++x,[],[.list false false 4 y]⟩
theorem lMt {n:Nat} (hO:Ok n aaK) (d:Dg) (c:List V) (hl:c.length≤most):LpB n 111 0 0 ⟨(wMt c [] 0 []).env,[d.ps],(wMt c [] 0 []).heap⟩ (.exit 0) (wMt c (a4u c) c.length [(11,xl false)]):=by
 rw[←aaL c]
 refine a0V (σ:=List Bool) (N:=c.length) (g:=gMt c) (s0:=[]) (st:=fun i y=>wMt c y i []) (fin:=fun y=>wMt c y c.length [(11,xl false)]) (fun k y=>y.length=k) (by kernel_rfl) hl rfl (fun j y hj hy=>by simp[gMt,hy]) (fun j y hj hy m e p g9=>?_) (fun y _=>?_)
 ·have h2:y.length+[decide (c.getD j V0=V1)].length≤most:=by rw[hy,List.length_singleton];omega
  exact round hX hO (by kernel_rfl) (.b (WC hj) (.o (dB hj) (.o h2 (.goG [.gc [2]] g9))))
 ·exact round hX hO (by kernel_rfl) (.b (YZ c.length) .ex)
def kN (d:Dg):List Bool:=a4u (cellsD d)
noncomputable def a8r:gK bF:=cO 111 (a1 dA) abI kN (fun d=>[a6f d,(cellsD d).length≤most]) aaK
theorem adg:Gd a8r:=af5.add fun n hO p hp=>by
 have h:a6f p:=hp _ (.head _)
 have h2:(cellsD p).length≤most:=hp _ (.tail _ (.head _))
 exact dS hX hO (by kernel_rfl) (.o h (.wG [.J7 3 4] (lMt (n:=n) hO p (cellsD p) h2) .rr))
end Go.Proofs.YtjkgcifieggcpaaGreat
namespace Go.Proofs.YtjkgcifieggcpaaGreat
open Go Tw Pv fA
noncomputable abbrev faA:=Tt (a2 aea abI)
abbrev wGv (l:List Fc) (g:Dg) (y:List (List Bool)) (i:Int) (x:List (Nat×PE bF)):aP bF:=⟨[(0,xL 66 l),(3,.loc 0 0),(4,.loc 1 0),(5,.loc 2 0),(6,xi i)]++x,[g.ps,[.nil .slc,.nil .slc],[.own 0,.nil .slc]],[.list false false 45 y]⟩
abbrev wEi (m:List (List Bool)) (g:List Bool) (bits p:Int) (y:Bool) (i:Int) (x:List (Nat×PE bF)):aP bF:=⟨[(1,xi bits),(2,.loc 0 0),(5,xi p),(6,.val (.bool y)),(7,xi i)]++x,[[lBs m,lB g]],[]⟩
abbrev wEo (m:List (List Bool)) (g:List Bool) (bits:Int) (i:Int) (x:List (Nat×PE bF)):aP bF:=⟨[(1,xi bits),(2,.loc 0 0),(5,xi i)]++x,[[lBs m,lB g]],[]⟩
abbrev wBi (bits:Int) (y:List Int) (i:Int) (x:List (Nat×PE bF)):aP bF:=⟨[(0,xi bits),(3,.val (.own 0)),(4,xi i)]++x,[],[.list false false 3 y]⟩
abbrev wSm (a b:List Int) (i:Int) (x:List (Nat×PE bF)):aP bF:=⟨[(0,xL 3 a),(1,xL 3 b),(5,xi i)]++x,[],[]⟩
abbrev wNe (m:List (List Bool)) (g:List Bool) (y:Int) (i:Int) (x:List (Nat×PE bF)):aP bF:=⟨[(1,.loc 0 0),(3,xi y),(4,xi i)]++x,[[lBs m,lB g]],[]⟩
theorem u0 (x:Int):0≤IntKind.u64.wrap x:=by
 have h:(0:Int)≤x%2^64:=by omega
 simpa[IntKind.wrap,IntKind.signed,IntKind.bits] using h
def gGv (l:List Fc) (k:Nat) (y:List (List Bool)):List (List Bool):=y++[kN (fAt l k)]
def dV (l:List Fc):List (List Bool):=l.map fun x=>kN x.d
theorem aaN (l:List Fc):qj (gGv l) l.length 0 []=dV l:=by
 have:=NC (g:=gGv l) (m:=l.length) (k:=0) (s:=[]) (fun k y=>y=(l.take k).map fun x=>kN x.d) rfl (fun j y _ h e=>by
  have hj:j<l.length:=by omega
  have e2:fAt l j=l[j].d:=by unfold fAt;simp only[List.getD,List.getElem?_eq_getElem hj,Option.getD_some]
  rw[gGv,e,e2,List.take_add_one,List.getElem?_eq_getElem hj,List.map_append];rfl)
 rw[Nat.zero_add,List.take_length] at this
 exact this
structure a5d (d:Dg):Prop where
 l:a6f d
 c:(cellsD d).length≤most
theorem lGv {n:Nat} (hO:Ok n a8r) (l:List Fc) (g:Dg) (hl:l.length≤most) (hp:∀ k,k<l.length→a5d (fAt l k)):LpB n 73 0 0 (wGv l g [] 0 []) (.exit 0) (wGv l g (dV l) l.length [(10,xl false)]):=by
 rw[←aaN l]
 refine a0V (σ:=List (List Bool)) (N:=l.length) (g:=gGv l) (s0:=[]) (st:=fun i y=>wGv l g y i []) (fin:=fun y=>wGv l g y l.length [(10,xl false)]) (fun k y=>y.length=k) (by kernel_rfl) hl rfl (fun j y hj hy=>by simp[gGv,hy]) (fun j y hj hy m e p g9=>?_) (fun y _=>?_)
 ·have h9:=hp j hj
  have h2:y.length+[kN (fAt l j)].length≤most:=by rw[hy,List.length_singleton];omega
  exact round hX hO (by kernel_rfl) (.b (WC hj) (.o (dB hj) (.o h9.l (.o h9.c (.o h2 (.goG [.gc [2]] g9))))))
 ·exact round hX hO (by kernel_rfl) (.b (YZ l.length) .ex)
noncomputable def adi:gK bF:=cO 73 (a2 a04 dA) faA (fun p=>(dV p.1,kN p.2)) (fun p=>[p.1.length≤most,∀ k,k<p.1.length→a5d (fAt p.1 k),a5d p.2]) a8r
theorem af8:Gd adi:=adg.add fun n hO p hp=>by
 obtain⟨l,g⟩:=p
 have h1:l.length≤most:=hp _ (.head _)
 have h2:∀ k,k<l.length→a5d (fAt l k):=hp _ (.tail _ (.head _))
 have h3:a5d g:=hp _ (.tail _ (.tail _ (.head _)))
 exact dS hX hO (by kernel_rfl) (.wG [.YC 2 0 45] (lGv (n:=n) hO l g h1 h2) (.o h3.l (.o h3.c .rr)))
def a8s (m:List (List Bool)) (bits:Int) (p:Nat) (k:Nat) (y:Bool):Bool:=if y=true then (if (YA .i64 (VH .i64 bits (IntKind.u64.wrap k)) 2==0)=true then true else (m.getD k []).getD p false) else false
def a4w (m:List (List Bool)) (bits:Int) (p:Nat):Bool:=qj (a8s m bits p) m.length 0 true
def cEx (m:List (List Bool)) (g:List Bool) (bits:Int) (p:Nat):Bool:=if a4w m bits p=true then !(g.getD p false) else false
def a0W (m:List (List Bool)) (g:List Bool) (bits:Int):Bool:=if D5 (mF (cEx m g bits) g.length)=true then true else false
structure FaP (m:List (List Bool)) (g:List Bool):Prop where
 lm:m.length≤most
 lg:g.length≤most
 le:∀ k,k<m.length→(m.getD k []).length=g.length
def zEx (m:List (List Bool)) (g:List Bool) (bits:Int):Unit⊕Nat→Ex×aP bF
 | .inl _=>(.exit 0,wEo m g bits g.length [(12,xl false)])
 | .inr _=>(.ret,⟨[(4,xl false)],[[lBs m,lB g]],[]⟩)
section
variable {n:Nat} {m:List (List Bool)} {g:List Bool} (h:FaP m g) (bits:Int)
include h
theorem lEi (p:Nat) (hp:p<g.length):LpB n 37 1 0 (wEi m g bits p true 0 []) (.exit 2) (wEi m g bits p (a4w m bits p) m.length [(19,xl false)]):=by
 refine a0V (σ:=Bool) (N:=m.length) (g:=a8s m bits p) (s0:=true) (st:=fun i y=>wEi m g bits p y i []) (fin:=fun y=>wEi m g bits p y m.length [(19,xl false)]) (fun _ _=>True) (by kernel_rfl) h.lm trivial (fun _ _ _ _=>trivial) (fun j y hj hy m1 e p1 g9=>?_) (fun y _=>?_)
 ·unfold a8s at g9
  cases y
  ·rw[if_neg (by simp)] at g9
   exact round hX ok0 (by kernel_rfl) (.b (WC hj) (.b (rfl:false=false) (.goG [.lit] g9)))
  ·rw[if_pos rfl] at g9
   have t2:(2:Int)≠0:=by decide
   cases hb:(YA .i64 (VH .i64 bits (IntKind.u64.wrap j)) 2==0)
   ·rw[hb,if_neg (by simp)] at g9
    have hk:zl (p:Int) (m.getD j []).length:=dB (by rw[h.le j hj];exact hp)
    exact round hX ok0 (by kernel_rfl) (.b (WC hj) (.b (rfl:true=true) (.o (u0 (j:Int)) (.o t2 (.b hb (.o (dB hj) (.o hk (.goG [.lit] g9))))))))
   ·rw[hb,if_pos rfl] at g9
    exact round hX ok0 (by kernel_rfl) (.b (WC hj) (.b (rfl:true=true) (.o (u0 (j:Int)) (.o t2 (.b hb (.goG [.lit] g9))))))
 ·exact round hX ok0 (by kernel_rfl) (.b (YZ m.length) .ex)
theorem lEo:LpB n 37 0 0 (wEo m g bits 0 []) (zEx m g bits (mF (cEx m g bits) g.length)).1 (zEx m g bits (mF (cEx m g bits) g.length)).2:=by
 refine searchL (st:=fun i _=>wEo m g bits i []) (g:=gS (cEx m g bits)) (out:=zEx m g bits) (fun _ _=>True) (by kernel_rfl) h.lg trivial (fun k u m1 hk _ ih=>?_) (fun _ _=>?_)
 ·have lp:=lEi (n:=n) h bits k hk
  have hg:gS (cEx m g bits) k u=if (if a4w m bits k=true then !(g.getD k false) else false)=true then .inr k else .inl u:=rfl
  generalize a4w m bits k=y at lp hg
  cases y
  ·have hg:gS (cEx m g bits) k u=.inl u:=hg
   rw[hg]
   exact round hX ok0 (by kernel_rfl) (.b (WC hk) (.wG [.lit] lp (.b (rfl:false=false) (.nx (ih _ trivial)))))
  ·rw[if_pos rfl] at hg
   rw[hg]
   exact round hX ok0 (by kernel_rfl) (.b (WC hk) (.wG [.lit] lp (.b (rfl:true=true) (.o (dB hk) (.ls (.ou nofun) (.nx (ih _ trivial)))))))
 ·exact round hX ok0 (by kernel_rfl) (.b (YZ g.length) (.ou nofun))
end
noncomputable def adk:gK bF:=cO 37 (a2 faA iA) tA (fun p=>a0W p.1.1 p.1.2 p.2) (fun p=>[FaP p.1.1 p.1.2]) adi
theorem afa:Gd adk:=af8.add fun n hO p hp=>by
 obtain⟨⟨m,g⟩,bits⟩:=p
 have h:FaP m g:=hp _ (.head _)
 have lp:=lEo (n:=n) h bits
 show VW X0 Tryz.prog _ _ _ (tA.put (a0W m g bits)) _
 unfold a0W
 exact dS hX hO (by kernel_rfl) (.zh (fun h=>.w (rC lp () h) .rr) (fun h=>.w (wC lp 0 h) .rr))
end Go.Proofs.YtjkgcifieggcpaaGreat
namespace Go.Proofs.YtjkgcifieggcpaaGreat
open Go Tw Pv fA
theorem a6K {n:Nat} (h:n≤10):YB .i64 1 (IntKind.u64.wrap n)=((2^n:Nat):Int):=by
 have:n=0∨n=1∨n=2∨n=3∨n=4∨n=5∨n=6∨n=7∨n=8∨n=9∨n=10:=by omega
 rcases this with rfl | rfl | rfl | rfl | rfl | rfl | rfl | rfl | rfl | rfl | rfl<;>decide
def a2e (n:Nat):Int:=IntKind.i64.wrap (YB .i64 1 (IntKind.u64.wrap n)-1)
def a6g (n:Nat) (b:Int):Int:=IntKind.i64.wrap (((BitVec.ofInt 64 (a2e n) &&& ~~~BitVec.ofInt 64 b).toNat:Nat):Int)
noncomputable def a9N:gK bF:=cO 110 (a2 faA iA) tA (fun p=>!(a0W p.1.1 p.1.2 (a6g p.1.1.length p.2))) (fun p=>[FaP p.1.1 p.1.2]) adk
theorem adl:Gd a9N:=afa.add fun n hO p hp=>dS hX hO (by kernel_rfl) (.o (u0 (p.1.1.length:Int)) (.o (hp _ (.head _)) .rr))
noncomputable def adn:gK bF:=cO 72 (a3 faA iA tA) tA (fun p=>(if p.2.2=true then !(a0W p.1.1 p.1.2 (a6g p.1.1.length p.2.1)) else a0W p.1.1 p.1.2 p.2.1)) (fun p=>[FaP p.1.1 p.1.2]) a9N
theorem afb:Gd adn:=adl.add fun n hO p hp=>dS hX hO (by kernel_rfl) (.ss (.o (hp _ (.head _)) .rr) (.o (hp _ (.head _)) .rr))
def bGo (bits:Int) (j:Nat):Bool:=decide (VH .i64 bits (IntKind.u64.wrap j)>0)
def bOn (bits:Int) (j:Nat):Bool:=YA .i64 (VH .i64 bits (IntKind.u64.wrap j)) 2==1
def a1D (bits:Int):Nat:=(List.range 63).findIdx fun j=>!(bGo bits j)
theorem a9O {bits:Int} {j:Nat} (hj:j<a1D bits):bGo bits j=true:=by
 have h:=List.not_of_lt_findIdx hj
 have hl:a1D bits≤63:=by have:=List.findIdx_le_length (xs:=List.range 63) (p:=fun j=>!(bGo bits j));simpa[a1D] using this
 rw[List.getElem_range] at h
 simpa using h
theorem ado {bits:Int} (h:a1D bits<63):bGo bits (a1D bits)=false:=by
 have h2:=List.findIdx_getElem (xs:=List.range 63) (p:=fun j=>!(bGo bits j)) (w:=by simpa[a1D] using h)
 rw[List.getElem_range] at h2
 unfold a1D
 simpa using h2
def gBi (bits:Int) (k:Nat) (y:List Int):List Int:=if bOn bits k=true then y++[(k:Int)] else y
def a1t (bits:Int):List Int:=qj (gBi bits) (a1D bits) 0 []
theorem lBi {n:Nat} (bits:Int) (h:a1D bits<63):LpB n 51 0 0 (wBi bits [] 0 []) (.exit 0) (wBi bits (a1t bits) (a1D bits) [(9,xl false)]):=by
 refine a0V (σ:=List Int) (N:=a1D bits) (g:=gBi bits) (s0:=[]) (st:=fun i y=>wBi bits y i []) (fin:=fun y=>wBi bits y (a1D bits) [(9,xl false)]) (fun k y=>y.length≤k) (by kernel_rfl) (by unfold most;omega) (Nat.le_refl 0) (fun j y hj hy=>by
  unfold gBi;split
  ·rw[List.length_append,List.length_singleton];omega
  ·omega) (fun j y hj hy m e p g9=>?_) (fun y _=>?_)
 ·have h2:y.length+[(j:Int)].length≤most:=by simp only[List.length_singleton];unfold most;omega
  have t2:(2:Int)≠0:=by decide
  have hb:=a9O hj
  unfold gBi at g9
  cases ho:bOn bits j
  ·rw[ho] at g9
   exact round hX ok0 (by kernel_rfl) (.o (u0 (j:Int)) (.b hb (.o (u0 (j:Int)) (.o t2 (.b ho (.go g9))))))
  ·rw[ho,if_pos rfl] at g9
   exact round hX ok0 (by kernel_rfl) (.o (u0 (j:Int)) (.b hb (.o (u0 (j:Int)) (.o t2 (.b ho (.o h2 (.goG [.gc [2]] g9)))))))
 ·exact round hX ok0 (by kernel_rfl) (.o (u0 (a1D bits:Int)) (.b (ado h) .ex))
noncomputable def adp:gK bF:=cO 51 (a1 iA) isA a1t (fun p=>[a1D p<63]) adn
theorem afc:Gd adp:=afb.add fun n hO p hp=>dS hX hO (by kernel_rfl) (.wG [.J7 3 3] (lBi (n:=n) p (hp _ (.head _))) .rr)
def cSm (a b:List Int) (k:Nat):Bool:=a.getD k 0 != b.getD k 0
def zSm (a b:List Int):Unit⊕Nat→Ex×aP bF
 | .inl _=>(.exit 0,wSm a b a.length [(19,xl false)])
 | .inr k=>(.ret,⟨[(4,.val (.bool (decide (a.getD k 0<b.getD k 0))))],[],[]⟩)
theorem lSm {n:Nat} (a b:List Int) (hl:a.length≤most) (he:a.length=b.length):LpB n 55 0 0 (wSm a b 0 []) (zSm a b (mF (cSm a b) a.length)).1 (zSm a b (mF (cSm a b) a.length)).2:=by
 refine searchL (st:=fun i _=>wSm a b i []) (g:=gS (cSm a b)) (out:=zSm a b) (fun _ _=>True) (by kernel_rfl) hl trivial (fun k u m hk _ ih=>?_) (fun _ _=>?_)
 ·have i1:zl (k:Int) a.length:=dB hk
  have i2:zl (k:Int) b.length:=dB (he▸hk)
  have hg:gS (cSm a b) k u=if (a.getD k 0 != b.getD k 0)=true then .inr k else .inl u:=rfl
  rw[hg]
  exact round hX ok0 (by kernel_rfl) (.b (WC hk) (.o i1 (.o i2 (.ls (.o i1 (.o i2 (.ou nofun))) (.nx (ih _ trivial))))))
 ·exact round hX ok0 (by kernel_rfl) (.b (YZ a.length) (.ou nofun))
def a5I (a b:List Int):Bool:=if ((a.length:Int) != (b.length:Int))=true then decide ((a.length:Int)<(b.length:Int)) else if D5 (mF (cSm a b) a.length)=true then false else decide (a.getD (WB 0 (mF (cSm a b) a.length)) 0<b.getD (WB 0 (mF (cSm a b) a.length)) 0)
noncomputable def aaQ:gK bF:=cO 55 (a2 isA isA) tA (fun p=>a5I p.1 p.2) (fun p=>[p.1.length≤most]) adp
theorem afe:Gd aaQ:=afc.add fun n hO p hp=>by
 obtain⟨a,b⟩:=p
 have h1:a.length≤most:=hp _ (.head _)
 show VW X0 Tryz.prog _ _ _ (tA.put (a5I a b)) _
 unfold a5I
 by_cases he:a.length=b.length
 ·have hb:((a.length:Int) != (b.length:Int))=false:=by rw[he];simp
  have lp:=lSm (n:=n) a b h1 he
  rw[if_neg (by rw[hb];simp)]
  exact dS hX hO (by kernel_rfl) (.b hb (.zh (fun h=>.w (rC lp () h) .rr) (fun h=>.w (wC lp 0 h) .rr)))
 ·have hb:((a.length:Int) != (b.length:Int))=true:=by simp;omega
  rw[if_pos hb]
  exact dS hX hO (by kernel_rfl) (.b hb .rr)
abbrev bP (f:Bool) (b:List Int):PV bF:=match f with
 | true=>.lst 3 b false
 | false=>.nil .slc
abbrev wSl (m:List (List Bool)) (g:List Bool) (up:Bool) (y:List Int×Bool) (i:Int) (x:List (Nat×PE bF)):aP bF:=⟨[(1,.val (.bool up)),(2,.loc 0 0),(6,.val (bP y.2 y.1)),(7,.val (.bool y.2)),(8,xi i)]++x,[[lBs m,lB g]],[]⟩
theorem aaR:((List.range 1024).all fun k=>bGo (k:Int) 10==false)=true:=by kernel_rfl
theorem a5J {k:Nat} (h:k<1024):a1D (k:Int)<63:=by
 have h1:=List.all_eq_true.1 aaR k (List.mem_range.2 h)
 have h1:bGo (k:Int) 10=false:=by simpa using h1
 by_cases h2:10<a1D (k:Int)
 ·have:=a9O h2;rw[h1] at this;cases this
 ·omega
theorem a8t (b:Int):(a1t b).length≤a1D b:=by
 have:=NC (g:=gBi b) (m:=a1D b) (k:=0) (s:=[]) (fun k y=>y.length≤k) (Nat.le_refl 0) fun j y _ _ h=>by
  unfold gBi;split
  ·rw[List.length_append,List.length_singleton];omega
  ·omega
 rw[Nat.zero_add] at this
 exact this
def a5K (m:List (List Bool)) (g:List Bool) (b:Int) (up:Bool):Bool:=if up=true then !(a0W m g (a6g m.length b)) else a0W m g b
def gSl (m:List (List Bool)) (g:List Bool) (up:Bool) (k:Nat) (y:List Int×Bool):List Int×Bool:=if a5K m g k up=true then (if y.2=true then (if a5I (a1t k) y.1=true then (a1t k,true) else y) else (a1t k,true)) else y
def a1u (m:List (List Bool)) (g:List Bool) (up:Bool):List Int×Bool:=qj (gSl m g up) (2^m.length) 0 ([],false)
theorem a9P {n:Nat} (h:n≤10):2^n≤1024:=Nat.pow_le_pow_right (by decide) h
theorem lSl {n:Nat} (hO:Ok n aaQ) {m:List (List Bool)} {g:List Bool} (h:FaP m g) (hm:m.length≤10) (up:Bool):LpB n 24 0 0 (wSl m g up ([],false) 0 []) (.exit 0) (wSl m g up (a1u m g up) ((2^m.length:Nat):Int) [(16,xl false)]):=by
 have h2:=a6K hm
 have h3:=a9P hm
 refine a0V (σ:=List Int×Bool) (N:=2^m.length) (g:=gSl m g up) (s0:=([],false)) (st:=fun i y=>wSl m g up y i []) (fin:=fun y=>wSl m g up y ((2^m.length:Nat):Int) [(16,xl false)]) (fun _ _=>True) (by kernel_rfl) (by unfold most;omega) trivial (fun _ _ _ _=>trivial) (fun j y hj hy m1 e p1 g9=>?_) (fun y _=>?_)
 ·have t1:decide ((j:Int)<YB .i64 1 (IntKind.u64.wrap m.length))=true:=by rw[h2];exact WC hj
  have hb:a1D (j:Int)<63:=a5J (by omega)
  have hl:(a1t (j:Int)).length≤most:=by have:=a8t (j:Int);unfold most;omega
  obtain⟨b,f⟩:=y
  unfold gSl at g9
  cases hf:a5K m g j up
  ·rw[hf,if_neg (by simp)] at g9
   exact round hX hO (by kernel_rfl) (.o (u0 (m.length:Int)) (.b t1 (.o hb (.o h (.b hf (.go g9))))))
  ·rw[hf,if_pos rfl] at g9
   cases f
   ·rw[if_neg (by simp)] at g9
    exact round hX hO (by kernel_rfl) (.o (u0 (m.length:Int)) (.b t1 (.o hb (.o h (.b hf (.b (rfl:(!false)=true) (.goG [.lit] g9)))))))
   ·rw[if_pos rfl] at g9
    cases hs:a5I (a1t (j:Int)) b
    ·rw[hs,if_neg (by simp)] at g9
     exact round hX hO (by kernel_rfl) (.o (u0 (m.length:Int)) (.b t1 (.o hb (.o h (.b hf (.b (rfl:(!true)=false) (.o hl (.b hs (.go g9)))))))))
    ·rw[hs,if_pos rfl] at g9
     exact round hX hO (by kernel_rfl) (.o (u0 (m.length:Int)) (.b t1 (.o hb (.o h (.b hf (.b (rfl:(!true)=false) (.o hl (.b hs (.goG [.lit] g9)))))))))
 ·have t1:decide ((((2^m.length:Nat)):Int)<YB .i64 1 (IntKind.u64.wrap m.length))=false:=by rw[h2];exact YZ _
  exact round hX hO (by kernel_rfl) (.o (u0 (m.length:Int)) (.b t1 .ex))
noncomputable def aaS:gK bF:=cO 24 (a2 faA tA) (PY (a2 isA tA)) (fun p=>if (a1u p.1.1 p.1.2 p.2).2=true then ((a1u p.1.1 p.1.2 p.2).1,true) else ([],false)) (fun p=>[FaP p.1.1 p.1.2,p.1.1.length≤10]) aaQ
theorem aff:Gd aaS:=afe.add fun n hO p hp=>by
 obtain⟨⟨m,g⟩,up⟩:=p
 have h:FaP m g:=hp _ (.head _)
 have hm:m.length≤10:=hp _ (.tail _ (.head _))
 have lp:=lSl (n:=n) hO h hm up
 show VW X0 Tryz.prog _ _ _ ((PY (a2 isA tA)).put (if (a1u m g up).2=true then ((a1u m g up).1,true) else ([],false))) _
 generalize a1u m g up=y at lp ⊢
 obtain⟨b,f⟩:=y
 cases f
 ·exact dS hX hO (by kernel_rfl) (.wG [.lit] lp (.rn (.bf [.nil .slc,.bool false]) rfl))
 ·exact dS hX hO (by kernel_rfl) (.wG [.lit] lp .rr)
def gNe (m:List (List Bool)) (g:List Bool) (k:Nat) (y:Int):Int:=if a0W m g k=true then IntKind.i64.wrap (((BitVec.ofInt 64 y &&& BitVec.ofInt 64 (k:Int)).toNat:Nat):Int) else y
def a1U (m:List (List Bool)) (g:List Bool):Int:=qj (gNe m g) (2^m.length) 0 (a2e m.length)
theorem lNe {n:Nat} (hO:Ok n aaS) {m:List (List Bool)} {g:List Bool} (h:FaP m g) (hm:m.length≤10):LpB n 32 0 0 (wNe m g (a2e m.length) 0 []) (.exit 0) (wNe m g (a1U m g) ((2^m.length:Nat):Int) [(17,xl false)]):=by
 have h2:=a6K hm
 have h3:=a9P hm
 refine a0V (σ:=Int) (N:=2^m.length) (g:=gNe m g) (s0:=a2e m.length) (st:=fun i y=>wNe m g y i []) (fin:=fun y=>wNe m g y ((2^m.length:Nat):Int) [(17,xl false)]) (fun _ _=>True) (by kernel_rfl) (by unfold most;omega) trivial (fun _ _ _ _=>trivial) (fun j y hj hy m1 e p1 g9=>?_) (fun y _=>?_)
 ·have t1:decide ((j:Int)<YB .i64 1 (IntKind.u64.wrap m.length))=true:=by rw[h2];exact WC hj
  unfold gNe at g9
  cases hf:a0W m g j
  ·rw[hf,if_neg (by simp)] at g9
   exact round hX hO (by kernel_rfl) (.o (u0 (m.length:Int)) (.b t1 (.o h (.b hf (.go g9)))))
  ·rw[hf,if_pos rfl] at g9
   exact round hX hO (by kernel_rfl) (.o (u0 (m.length:Int)) (.b t1 (.o h (.b hf (.go g9)))))
 ·have t1:decide ((((2^m.length:Nat)):Int)<YB .i64 1 (IntKind.u64.wrap m.length))=false:=by rw[h2];exact YZ _
  exact round hX hO (by kernel_rfl) (.o (u0 (m.length:Int)) (.b t1 .ex))
noncomputable def ads:gK bF:=cO 32 (a1 faA) isA (fun p=>a1t (a1U p.1 p.2)) (fun p=>[FaP p.1 p.2,p.1.length≤10,a1D (a1U p.1 p.2)<63]) aaS
theorem afg:Gd ads:=aff.add fun n hO p hp=>by
 obtain⟨m,g⟩:=p
 have h:FaP m g:=hp _ (.head _)
 have hm:m.length≤10:=hp _ (.tail _ (.head _))
 have hb:a1D (a1U m g)<63:=hp _ (.tail _ (.tail _ (.head _)))
 have lp:=lNe (n:=n) hO h hm
 exact dS hX hO (by kernel_rfl) (.o (u0 (m.length:Int)) (.w lp (.o hb .rr)))
end Go.Proofs.YtjkgcifieggcpaaGreat
namespace Go.Proofs.YtjkgcifieggcpaaGreat
open Go Tw Pv fA
noncomputable def aaT:gK bF:=cO 22 (a1 isA) isA (fun p=>p) (fun p=>[p.length≤most]) ads
theorem afh:Gd aaT:=afg.add fun n hO p hp=>dS hX hO (by kernel_rfl) (.o (hp _ (.head _)) .rr)
noncomputable abbrev wGn (d:Dg) (acc:List Br) (i:Int) (x:List (Nat×PE bF)):aP bF:=⟨[(1,.loc 0 0),(2,.loc 1 0),(3,.loc 2 0),(4,xi i)]++x,[d.ps,[.nil .slc,.nil .slc,.nil .slc,.nil .slc,.int .i64 0],[.lst 3 d.sizes false,.lst 3 d.order false,.own 0,.own 1,.int .i64 d.root]],[.list true false 79 d.ends,.list false false 102 acc]⟩
noncomputable abbrev a8u:Br:=X0.d0 102
theorem lGn {n:Nat} {d:Dg} (hO:Ok n aaT) (hl:d.nodes.length≤most) (hr:∀ b∈d.nodes,b.kids.length≤most):Lp n 60 0 (wGn d [] 0 []) (.exit 0) (wGn d d.nodes d.nodes.length [(21,xl false)]):=by
 have e:qj (fun k (a:List Br)=>a++[d.nodes.getD k a8u]) d.nodes.length 0 []=d.nodes:=by
  rw[a5l,map_range d.nodes a8u fun r=>r,List.map_id']
 rw[show wGn d d.nodes d.nodes.length [(21,xl false)]=wGn d (qj (fun k (a:List Br)=>a++[d.nodes.getD k a8u]) d.nodes.length 0 []) d.nodes.length [(21,xl false)] by rw[e]]
 refine a0V (σ:=List Br) (N:=d.nodes.length) (g:=fun k (a:List Br)=>a++[d.nodes.getD k a8u]) (s0:=([]:List Br)) (st:=fun i a=>wGn d a i []) (fin:=fun a=>wGn d a d.nodes.length [(21,xl false)]) (fun k a=>a.length=k) (by kernel_rfl) hl rfl (fun k a _ h=>by simp[h]) (fun k a hk ha m e p h=>?_) (fun a _=>?_)
 ·have hm:=hr (d.nodes.getD k a8u) (by simp[List.getD,List.getElem?_eq_getElem hk])
  have hal:a.length+1≤most:=by have:a.length=k:=ha;omega
  exact round hX hO (by kernel_rfl) (.b (WC hk) (.o (dB hk) (.o (dB hk) (.o hm (.o hal (.goG [.gc [0,3]] h))))))
 ·exact round hX hO (by kernel_rfl) (.b (YZ d.nodes.length) .ex)
noncomputable def aaU:gK bF:=cO 60 (a1 dA) dA (fun p=>p) (fun p=>[p.sizes.length≤most,p.order.length≤most,p.ends.length≤most,p.nodes.length≤most,∀ b∈p.nodes,b.kids.length≤most]) aaT
theorem afi:Gd aaU:=afh.add fun n hO p hp=>dS hX hO (by kernel_rfl) (.o (hp _ (.head _)) (.o (hp _ (.tail _ (.head _))) (.o (hp _ (.tail _ (.tail _ (.head _)))) (.wG [.YC 2 3 102] (lGn hO (hp _ (.tail _ (.tail _ (.tail _ (.head _))))) (hp _ (.tail _ (.tail _ (.tail _ (.tail _ (.head _))))))) .rr))))
structure Few (d:Dg):Prop where
 s:d.sizes.length≤most
 o:d.order.length≤most
 e:d.ends.length≤most
 n:d.nodes.length≤most
 k:∀ b∈d.nodes,b.kids.length≤most
abbrev wFa (l:List Fc) (acc:List Fc) (i:Int) (x:List (Nat×PE bF)):aP bF:=⟨[(0,xL 66 l),(3,.val (.own 0)),(4,xi i)]++x,[],[.list false false 66 acc]⟩
theorem aaV {α:Type} (l:List α) (z:α):qj (fun k (a:List α)=>a++[l.getD k z]) l.length 0 []=l:=by
 rw[a5l,map_range l z fun r=>r,List.map_id']
theorem lFa {n:Nat} (hO:Ok n aaU) (l:List Fc) (hl:l.length≤most) (hp:∀ k,k<l.length→Few (fAt l k)):LpB n 23 0 0 (wFa l [] 0 []) (.exit 0) (wFa l l l.length [(8,xl false)]):=by
 have e:=aaV l Fc0
 rw[show wFa l l l.length [(8,xl false)]=wFa l (qj (fun k (a:List Fc)=>a++[l.getD k Fc0]) l.length 0 []) l.length [(8,xl false)] by rw[e]]
 refine a0V (σ:=List Fc) (N:=l.length) (g:=fun k (a:List Fc)=>a++[l.getD k Fc0]) (s0:=([]:List Fc)) (st:=fun i a=>wFa l a i []) (fin:=fun a=>wFa l a l.length [(8,xl false)]) (fun k a=>a.length=k) (by kernel_rfl) hl rfl (fun k a _ h=>by simp[h]) (fun k a hk ha m e p h=>?_) (fun a _=>?_)
 ·have h9:=hp k hk
  have hal:a.length+[l.getD k Fc0].length≤most:=by rw[ha,List.length_singleton];omega
  exact round hX hO (by kernel_rfl) (.b (WC hk) (.o (dB hk) (.o (dB hk) (.o h9.s (.o h9.o (.o h9.e (.o h9.n (.o h9.k (.o hal (.goG [.gc [2]] h))))))))))
 ·exact round hX hO (by kernel_rfl) (.b (YZ l.length) .ex)
noncomputable def adu:gK bF:=cO 23 (a1 a04) a04 (fun p=>p) (fun p=>[p.length≤most,∀ k,k<p.length→Few (fAt p k)]) aaU
theorem afj:Gd adu:=afi.add fun n hO p hp=>dS hX hO (by kernel_rfl) (.wG [.J7 3 66] (lFa (n:=n) hO p (hp _ (.head _)) (hp _ (.tail _ (.head _)))) .rr)
abbrev wTd (d:Dg) (i:Int) (x:List (Nat×PE bF)):aP bF:=⟨[(1,.loc 0 0),(3,xi i)]++x,[d.ps],[]⟩
def cTd (d:Dg) (k:Nat):Bool:=decide (((d.nodes.getD k O4).kids.length:Int)>12)
def zTd (d:Dg):Unit⊕Nat→Ex×aP bF
 | .inl _=>(.exit 0,wTd d d.nodes.length [(30,xl false)])
 | .inr _=>(.ret,⟨[(2,xl false)],[d.ps],[]⟩)
theorem lTd {n:Nat} (d:Dg) (hl:d.nodes.length≤most):LpB n 33 0 0 (wTd d 0 []) (zTd d (mF (cTd d) d.nodes.length)).1 (zTd d (mF (cTd d) d.nodes.length)).2:=by
 refine searchL (st:=fun i _=>wTd d i []) (g:=gS (cTd d)) (out:=zTd d) (fun _ _=>True) (by kernel_rfl) hl trivial (fun k u m hk _ ih=>?_) (fun _ _=>?_)
 ·unfold gS cTd
  exact round hX ok0 (by kernel_rfl) (.b (WC hk) (.o (dB hk) (.ls (.ou nofun) (.nx (ih _ trivial)))))
 ·exact round hX ok0 (by kernel_rfl) (.b (YZ d.nodes.length) (.ou nofun))
def a6L (s o:List Int):Bool:=if (iK s o != 0)=true then true else decide (yG s≤40)
def a1Q (d:Dg):Bool:=if decide ((d.sizes.length:Int)>8)=true then false else if decide ((d.order.length:Int)>8)=true then false else if decide ((d.ends.length:Int)>62)=true then false else if decide ((d.nodes.length:Int)>70)=true then false else if D5 (mF (cTd d) d.nodes.length)=true then a6L d.sizes d.order else false
theorem a4S {n b:Nat} (hb:b≤most) (h:decide ((n:Int)>(b:Int))=false):n≤most:=by rw[decide_eq_false_iff_not] at h;omega
noncomputable def aaW:gK bF:=cO 33 (a1 dA) tA a1Q np adu
theorem afm:Gd aaW:=afj.add fun n hO d _=>by
 show VW X0 Tryz.prog _ _ _ (tA.put (a1Q d)) _
 unfold a1Q
 cases h1:decide ((d.sizes.length:Int)>8)
 ·cases h2:decide ((d.order.length:Int)>8)
  ·cases h3:decide ((d.ends.length:Int)>62)
   ·cases h4:decide ((d.nodes.length:Int)>70)
    ·have lp:=lTd (n:=n) d (a4S (b:=70) (by decide) h4)
     have ho:=a4S (b:=8) (by decide) h2
     have hs:=a4S (b:=8) (by decide) h1
     unfold a6L
     simp only[Bool.false_eq_true,if_false]
     exact dS hX hO (by kernel_rfl) (.b h1 (.b h2 (.b h3 (.b h4 (.zh (fun h=>.w (rC lp () h) (.o ho (.ss .rr (.o hs .rr)))) (fun h=>.w (wC lp 0 h) .rr))))))
    ·exact dS hX hO (by kernel_rfl) (.b h1 (.b h2 (.b h3 (.b h4 .rr))))
   ·exact dS hX hO (by kernel_rfl) (.b h1 (.b h2 (.b h3 .rr)))
  ·exact dS hX hO (by kernel_rfl) (.b h1 (.b h2 .rr))
 ·exact dS hX hO (by kernel_rfl) (.b h1 .rr)
end Go.Proofs.YtjkgcifieggcpaaGreat
namespace Go.Proofs.YtjkgcifieggcpaaGreat
open Go Tw Pv fA
structure Ca where
 s:List Int
 o:List Int
 f:List Fc
 g:Dg
noncomputable def caA:Arg Ca:=YW (Tt (Jk isA (Jk isA (Jk a04 (Jk isA (a4 isA vsA TF iA)))))) (fun p=>⟨p.1,p.2.1,p.2.2.1,⟨p.2.2.2.1,p.2.2.2.2.1,p.2.2.2.2.2.1,p.2.2.2.2.2.2.1,p.2.2.2.2.2.2.2⟩⟩) (fun c=>(c.s,c.o,c.f,c.g.sizes,c.g.order,c.g.ends,c.g.nodes,c.g.root)) fun _=>rfl
abbrev Ca.ps (c:Ca):List (PV bF):=[lI c.s,lI c.o,lFc c.f]++c.g.ps
abbrev wTh (c:Ca) (i:Int) (x:List (Nat×PE bF)):aP bF:=⟨[(1,.loc 0 0),(3,xi i)]++x,[c.ps],[]⟩
def cTh (c:Ca) (k:Nat):Bool:=!(a1Q (fAt c.f k))
def zTh (c:Ca):Unit⊕Nat→Ex×aP bF
 | .inl _=>(.exit 0,wTh c c.f.length [(36,xl false)])
 | .inr _=>(.ret,⟨[(2,xl false)],[c.ps],[]⟩)
theorem lTh {n:Nat} (hO:Ok n aaW) (c:Ca) (hl:c.f.length≤most):LpB n 16 0 0 (wTh c 0 []) (zTh c (mF (cTh c) c.f.length)).1 (zTh c (mF (cTh c) c.f.length)).2:=by
 refine searchL (st:=fun i _=>wTh c i []) (g:=gS (cTh c)) (out:=zTh c) (fun _ _=>True) (by kernel_rfl) hl trivial (fun k u m hk _ ih=>?_) (fun _ _=>?_)
 ·unfold gS cTh
  exact round hX hO (by kernel_rfl) (.b (WC hk) (.o (dB hk) (.ls (.ou nofun) (.nx (ih _ trivial)))))
 ·exact round hX hO (by kernel_rfl) (.b (YZ c.f.length) (.ou nofun))
def a1E (c:Ca):Bool:=if decide ((c.s.length:Int)>8)=true then false else if decide ((c.o.length:Int)>8)=true then false else if decide ((c.f.length:Int)>10)=true then false else if ((c.f.length:Int)==8)=true then false else if (!(a1Q c.g))=true then false else if D5 (mF (cTh c) c.f.length)=true then a6L c.s c.o else false
noncomputable def adv:gK bF:=cO 16 (a1 caA) tA a1E np aaW
theorem afp:Gd adv:=afm.add fun n hO c _=>by
 show VW X0 Tryz.prog _ _ _ (tA.put (a1E c)) _
 unfold a1E
 cases h1:decide ((c.s.length:Int)>8)
 ·cases h2:decide ((c.o.length:Int)>8)
  ·cases h3:decide ((c.f.length:Int)>10)
   ·cases h4:((c.f.length:Int)==8)
    ·cases h5:(!(a1Q c.g))
     ·have lp:=lTh (n:=n) hO c (a4S (b:=10) (by decide) h3)
      have ho:=a4S (b:=8) (by decide) h2
      have hs:=a4S (b:=8) (by decide) h1
      unfold a6L
      simp only[Bool.false_eq_true,if_false]
      exact dS hX hO (by kernel_rfl) (.b h1 (.b h2 (.b h3 (.b h4 (.b h5 (.zh (fun h=>.w (rC lp () h) (.o ho (.ss .rr (.o hs .rr)))) (fun h=>.w (wC lp 0 h) .rr)))))))
     ·exact dS hX hO (by kernel_rfl) (.b h1 (.b h2 (.b h3 (.b h4 (.b h5 .rr)))))
    ·exact dS hX hO (by kernel_rfl) (.b h1 (.b h2 (.b h3 (.b h4 .rr))))
   ·exact dS hX hO (by kernel_rfl) (.b h1 (.b h2 (.b h3 .rr)))
  ·exact dS hX hO (by kernel_rfl) (.b h1 (.b h2 .rr))
 ·exact dS hX hO (by kernel_rfl) (.b h1 .rr)
def Fa (c:Ca):Int:=if (a1P c.s c.o c.f != 0)=true then a1P c.s c.o c.f else if (a0n c.g != 0)=true then a0n c.g else if (!(decide (c.g.sizes=c.s)))=true then 2 else if (!(decide (c.g.order=c.o)))=true then 2 else 0
structure CaP (c:Ca):Prop where
 p:a3L c.s c.o c.f c.g
 o:c.o.length≤most
 d:∀ k,k<c.f.length→DgP (fAt c.f k)
 w:∀ k,k<c.f.length→Few (fAt c.f k)
 g:Few c.g
noncomputable def adw:gK bF:=cO 30 (a1 caA) iA (fun p=>Fa p) (fun p=>[CaP p]) adv
theorem afq:Gd adw:=afp.add fun n hO p hp=>dS hX hO (by kernel_rfl) (have h:CaP p:=hp _ (.head _);.o h.o (.o h.p.lf (.o h.d (.o h.g.o (.o h.g.e (.o h.g.s .rr))))))
noncomputable def adx:gK bF:=cO 31 (a1 caA) faA (fun p=>(dV p.f,kN p.g)) (fun p=>[p.f.length≤most,∀ k,k<p.f.length→a5d (fAt p.f k),a5d p.g]) adw
theorem afr:Gd adx:=afq.add fun n hO p hp=>dS hX hO (by kernel_rfl) (.o (hp _ (.head _)) (.o (hp _ (.tail _ (.head _))) (.o (hp _ (.tail _ (.tail _ (.head _)))) .rr)))
noncomputable def ady:gK bF:=cO 29 (a1 caA) (PY (a2 isA iA)) (fun p=>TL p.s p.o p.f p.g) (fun p=>[CaP p,yS p.s p.o p.f p.g=0→WOk p.f p.g]) adx
theorem afs:Gd ady:=afr.add fun n hO p hp=>dS hX hO (by kernel_rfl) (have h:CaP p:=hp _ (.head _);.o h.p.ls (.o h.o (.o h.p.lf (.o h.w (.o h.g.s (.o h.g.o (.o h.g.e (.o h.g.n (.o h.g.k (.o h.p (.o (hp _ (.tail _ (.head _))) .rr)))))))))))
theorem aaY {n:Nat}:VW X0 Tryz.prog (ApN (n+1)) 17 ((nilA:Args Unit).put ()) ((tA:Arg Bool).put true) []:=by
 intro A h first args cap hup hv
 have e:=hv.inv0
 have e1:first=[]:=by cases first with | nil=>rfl | cons=>cases e
 subst e1
 have e2:args=[]:=by cases args with | nil=>rfl | cons=>cases e
 subst e2
 have e3:cap=[]:=by cases cap with | nil=>rfl | cons=>cases e
 subst e3
 exact⟨.bool true,h,[],rfl,⟨rfl,fun i b hb=>by simp at hb,by simp[blks],hup,fun b hb=>by simp[blks] at hb⟩,.bool _,.refl⟩
noncomputable def aaZ:gK bF:=cO 17 nilA tA (fun _=>true) np ady
theorem aft:Gd aaZ:=afs.deep 0 fun n hn hO p hp=>aaY
end Go.Proofs.YtjkgcifieggcpaaGreat
namespace Go.Proofs.YtjkgcifieggcpaaGreat
open Go Tw Pv fA
structure NdL (c:Ca):Prop where
 p:CaP c
 e:yS c.s c.o c.f c.g=Fa c
 w:yS c.s c.o c.f c.g=0→WOk c.f c.g
 cf:Fa c=0→∀ k,k<c.f.length→a5d (fAt c.f k)
 cg:Fa c=0→a5d c.g
 fa:Fa c=0→FaP (dV c.f) (kN c.g)
 le:c.f.length≤10
 nb:Fa c=0→a1D (a1U (dV c.f) (kN c.g))<63
 x:Fa c=0→(a1u (dV c.f) (kN c.g) false).2=qm (VB c.f c.g) (a4C c.f)
 n:Fa c=0→a1C (a4t c.f (VB c.f c.g))=a1t (a1U (dV c.f) (kN c.g))
 ll:(a1C (a4t c.f (VB c.f c.g))).length≤most
theorem a7j {n:Nat} (hO:Ok n aaZ) (c:Ca) (L:a1E c=true→NdL c):VW X0 Tryz.prog (ApN (n+1)) 4 ((a1 caA).put c) (tA.put true) []:=by
 cases ht:a1E c
 ·have h1:(!(a1E c))=true:=by rw[ht];rfl
  exact dS hX hO (by kernel_rfl) (.b h1 .rr)
 ·have L:=L ht
  have h1:(!(a1E c))=false:=by rw[ht];rfl
  have hlm:(dV c.f).length≤10:=by unfold dV;rw[List.length_map];exact L.le
  by_cases hg:Fa c=0
  ·have hg1:(Fa c != 0)=false:=by rw[hg];rfl
   have hw:yS c.s c.o c.f c.g=0:=L.e.trans hg
   have hx:=L.x hg
   cases hs:(a1u (dV c.f) (kN c.g) false).2
   ·have hn:TL c.s c.o c.f c.g=([],7):=by unfold TL;rw[if_pos hw,if_pos (by rw[←hx,hs];rfl)]
    have h3:(!((if (a1u (dV c.f) (kN c.g) false).2=true then ((a1u (dV c.f) (kN c.g) false).1,true) else (([]:List Int),false)).2))=true:=by rw[hs];rfl
    have h4:((TL c.s c.o c.f c.g).2==7)=true:=by rw[hn];rfl
    have h5:(((TL c.s c.o c.f c.g).1.length:Int)==0)=true:=by rw[hn];rfl
    exact dS hX hO (by kernel_rfl) (.b h1 (.o L.p (.o L.w (.o L.p (.b hg1 (.o L.p.p.lf (.o (L.cf hg) (.o (L.cg hg) (.o (L.fa hg) (.o hlm (.b h3 (.b h4 (.b h5 .rr)))))))))))))
   ·have hn:TL c.s c.o c.f c.g=(a1C (a4t c.f (VB c.f c.g)),0):=by unfold TL;rw[if_pos hw,if_neg (by rw[←hx,hs];simp)]
    have h3:(!((if (a1u (dV c.f) (kN c.g) false).2=true then ((a1u (dV c.f) (kN c.g) false).1,true) else (([]:List Int),false)).2))=false:=by rw[hs];rfl
    have h4:((TL c.s c.o c.f c.g).2==0)=true:=by rw[hn];rfl
    have hl:(TL c.s c.o c.f c.g).1.length≤most:=by rw[hn];exact L.ll
    have h5:decide ((TL c.s c.o c.f c.g).1=a1t (a1U (dV c.f) (kN c.g)))=true:=by rw[hn];exact decide_eq_true (L.n hg)
    exact dS hX hO (by kernel_rfl) (.b h1 (.o L.p (.o L.w (.o L.p (.b hg1 (.o L.p.p.lf (.o (L.cf hg) (.o (L.cg hg) (.o (L.fa hg) (.o hlm (.b h3 (.b h4 (.o L.p.p.lf (.o (L.cf hg) (.o (L.cg hg) (.o (L.fa hg) (.o hlm (.o (L.nb hg) (.o hl (.b h5 .rr))))))))))))))))))))
  ·have hg1:(Fa c != 0)=true:=by simpa using hg
   have hw:¬yS c.s c.o c.f c.g=0:=fun h=>hg (L.e.symm.trans h)
   have hn:TL c.s c.o c.f c.g=([],Fa c):=by unfold TL;rw[if_neg hw,L.e]
   have h4:((TL c.s c.o c.f c.g).2==Fa c)=true:=by rw[hn];simp
   have h5:(((TL c.s c.o c.f c.g).1.length:Int)==0)=true:=by rw[hn];rfl
   exact dS hX hO (by kernel_rfl) (.b h1 (.o L.p (.o L.w (.o L.p (.b hg1 (.b h4 (.b h5 .rr)))))))
end Go.Proofs.YtjkgcifieggcpaaGreat
namespace Go.Proofs.YtjkgcifieggcpaaGreat
open Go Tw Pv fA
theorem a6M {σ ρ:Type} {g h:Nat→σ→σ⊕ρ}:∀ (m k:Nat) (s:σ),(∀ j s,k≤j→j<k+m→g j s=h j s)→Nz g m k s=Nz h m k s
 | 0,_,_,_=>rfl
 | m+1,k,s,e=>by
  simp only[Nz]
  rw[e k s (Nat.le_refl _) (by omega)]
  cases h k s with
  | inl s1=>exact a6M m (k+1) s1 fun j s h1 h2=>e j s (by omega) (by omega)
  | inr r=>rfl
theorem a9k {c d:Nat→Bool} {n:Nat} (h:∀ k,k<n→c k=d k):mF c n=mF d n:=by
 unfold mF
 refine a6M n 0 () fun j s _ hj=>?_
 unfold gS
 rw[h j (by omega)]
structure CaR (c:Ca):Prop where
 f:∀ k,k<c.f.length→DgR (fAt c.f k)
 g:DgR c.g
theorem a4T {d:Dg} (h:DgP d):(lT d).2=a0n d:=by
 have ho:d.order.length≤most:=by have:=h.o;unfold most;omega
 rw[a4b h.r h.s ho h.e]
theorem a4x {d:Dg} (h:DgP d):TQ d=if (a0n d != 0)=true then ([],a0n d) else (cellsD d,0):=a8a h.r h.s (by have:=h.o;unfold most;omega) h.e
structure Usd (d:Dg):Prop where
 l:a6f d
 c:(cellsD d).length=cnt d.sizes
 m:cnt d.sizes≤most
 r:a0n d=0
theorem a8v {d:Dg} (h:DgP d) (h0:a0n d=0):Usd d:=by
 have ho:d.order.length≤most:=by have:=h.o;unfold most;omega
 have he:d.ends.length≤most:=by have:=h.e;omega
 have h00:=h0
 have hl:fU d=0:=by
  unfold a0n at h0
  split at h0
  ·exact h0
  ·rename_i h1;simpa using h1
 have hc:=sH ho he (by rw[hl];rfl)
 have hf:Fine d.sizes:=by
  have:(iK d.sizes d.order != 0)=false:=by
   cases e:iK d.sizes d.order != 0
   ·rfl
   ·unfold fU at hl;rw[if_pos e] at hl;rw[hl] at e;cases e
  exact Jt this
 exact⟨⟨hc.1,hc.2,hl,hf,ho,he⟩,by unfold cellsD;rw[List.length_map,List.length_range],hf.a3y,h00⟩
theorem a2Z {f:List Fc} {k:Nat}:(jT f).getD k XJ=fAt f k:=by
 unfold jT fAt
 rw[List.getD_eq_getElem?_getD,List.getD_eq_getElem?_getD,List.getElem?_map]
 cases f[k]?<;>rfl
theorem a1Z {f:List Fc}:(jT f).length=f.length:=List.length_map ..
theorem a9l {s o:List Int} {f:List Fc} (h:∀ k,k<f.length→DgP (fAt f k)):a0L s o f=a1P s o f:=by
 have e1:mF (cCk (jT f)) (jT f).length=mF (cK1 f) f.length:=by
  rw[a1Z]
  exact a9k fun k hk=>by unfold cCk cK1;rw[a2Z,a4T (h k hk)]
 have e2:(!((jT f).all (V7 (s,o))))=!(D5 (mF (cK2 s o f) f.length)):=by
  congr 1
  rw[Bool.eq_iff_iff,Fg,List.all_eq_true]
  constructor
  ·intro h1 j hj
   unfold cK2
   have hm:fAt f j∈jT f:=by rw[←a2Z];exact Qu (by rw[a1Z];exact hj)
   rw[h1 _ hm];rfl
  ·intro h1 d hd
   obtain⟨x,hx,rfl⟩:=List.mem_map.1 hd
   obtain⟨j,hj,rfl⟩:=List.mem_iff_getElem.1 hx
   have:=h1 j hj
   unfold cK2 fAt at this
   rw[List.getD_eq_getElem?_getD,List.getElem?_eq_getElem hj] at this
   simpa using this
 unfold a0L a1P
 rw[e1,e2]
 cases hb:D5 (mF (cK1 f) f.length)
 ·simp only[Bool.false_eq_true,if_false]
  obtain⟨j,hj,_,_,hr⟩:=a2P hb
  rw[hr]
  show (if _ then _ else if _ then _ else (lT ((jT f).getD j XJ)).2)=_
  rw[a2Z,a4T (h j hj)];rfl
 ·simp only[if_true]
  cases D5 (mF (cK2 s o f) f.length)<;>rfl
theorem a6N {d:Dg} (h:a1Q d=true):d.sizes.length≤8∧d.order.length≤8∧d.ends.length≤62∧d.nodes.length≤70∧∀ b∈d.nodes,b.kids.length≤12:=by
 unfold a1Q at h
 split at h
 ·cases h
 split at h
 ·cases h
 split at h
 ·cases h
 split at h
 ·cases h
 split at h
 ·rename_i h1 h2 h3 h4 h5
  simp only[decide_eq_true_eq] at h1 h2 h3 h4
  refine⟨by omega,by omega,by omega,by omega,fun b hb=>?_⟩
  obtain⟨j,hj,rfl⟩:=List.mem_iff_getElem.1 hb
  have h6:=Fg.1 h5 j hj
  unfold cTd at h6
  rw[List.getD_eq_getElem?_getD,List.getElem?_eq_getElem hj] at h6
  simp only[Option.getD_some,decide_eq_false_iff_not] at h6
  omega
 ·cases h
theorem a8w {d:Dg} (h:a1Q d=true):Few d:=by
 obtain⟨a,b,c,e,g⟩:=a6N h
 exact⟨by unfold most;omega,by unfold most;omega,by unfold most;omega,by unfold most;omega,fun x hx=>by have:=g x hx;unfold most;omega⟩
theorem a8x {d:Dg} (h:a1Q d=true) (hr:DgR d):DgP d:=by
 obtain⟨a,b,c,_,_⟩:=a6N h
 exact⟨hr,by unfold most;omega,by omega,by unfold most;omega⟩
theorem a5M {c:Ca} (h:a1E c=true):c.s.length≤8∧c.o.length≤8∧c.f.length≤10∧c.f.length≠8∧a1Q c.g=true∧∀ k,k<c.f.length→a1Q (fAt c.f k)=true:=by
 unfold a1E at h
 split at h
 ·cases h
 split at h
 ·cases h
 split at h
 ·cases h
 split at h
 ·cases h
 split at h
 ·cases h
 split at h
 ·rename_i h1 h2 h3 h4 h5 h6
  simp only[decide_eq_true_eq] at h1 h2 h3
  have h4:¬(c.f.length:Int)=8:=by simpa using h4
  refine⟨by omega,by omega,by omega,by omega,by simpa using h5,fun k hk=>?_⟩
  have:=Fg.1 h6 k hk
  unfold cTh at this
  simpa using this
 ·cases h
theorem ab1 {c:Ca} (h:a1E c=true) (hr:CaR c):CaP c:=by
 obtain⟨h1,h2,h3,h4,h5,h6⟩:=a5M h
 have hd:∀ k,k<c.f.length→DgP (fAt c.f k):=fun k hk=>a8x (h6 k hk) (hr.f k hk)
 refine⟨⟨by unfold most;omega,by omega,by unfold most;omega,fun d hd2=>?_,a8x h5 hr.g⟩,by unfold most;omega,hd,fun k hk=>a8w (h6 k hk),a8w h5⟩
 obtain⟨x,hx,rfl⟩:=List.mem_map.1 hd2
 obtain⟨j,hj,rfl⟩:=List.mem_iff_getElem.1 hx
 have:=hd j hj
 unfold fAt at this
 rw[List.getD_eq_getElem?_getD,List.getElem?_eq_getElem hj] at this
 exact this
theorem a7k {c:Ca} (p:CaP c):yS c.s c.o c.f c.g=Fa c:=by
 unfold yS Fa
 rw[a9l p.d,a4x p.p.lg]
 by_cases h1:(a1P c.s c.o c.f != 0)=true
 ·rw[if_pos h1,if_pos h1]
 ·rw[if_neg h1,if_neg h1]
  cases h2:(a0n c.g != 0)
  ·simp only[Bool.false_eq_true,if_false]
   show (if ((0:Int) != 0)=true then _ else _)=_
   rw[if_neg (by decide)]
   unfold V7
   cases decide (c.g.sizes=c.s)<;>cases decide (c.g.order=c.o)<;>rfl
  ·simp only[if_true]
   rw[h2,if_pos rfl]
structure NoE (c:Ca):Prop where
 n:c.f.length≤8
 u:∀ k,k<c.f.length→Usd (fAt c.f k)
 v:Usd c.g
 s:∀ k,k<c.f.length→(fAt c.f k).sizes=c.g.sizes
theorem ab2 {c:Ca} (p:CaP c) (h:Fa c=0):NoE c:=by
 unfold Fa at h
 split at h
 ·rename_i h1;rw[h] at h1;cases h1
 split at h
 ·rename_i h1;rw[h] at h1;cases h1
 split at h
 ·cases h
 split at h
 ·cases h
 rename_i h1 h2 h3 h4
 have h1:a1P c.s c.o c.f=0:=by simpa using h1
 have h2:a0n c.g=0:=by simpa using h2
 have h3:c.g.sizes=c.s:=by simpa using h3
 unfold a1P at h1
 split at h1
 ·rename_i h5;rw[h1] at h5;cases h5
 split at h1
 ·cases h1
 rename_i h5 h6
 simp only[decide_eq_true_eq] at h6
 split at h1
 ·rename_i h7
  split at h1
  ·rename_i h8
   refine⟨by omega,fun k hk=>a8v (p.d k hk) ?_,a8v p.p.lg h2,fun k hk=>?_⟩
   ·have:=Fg.1 h7 k hk
    unfold cK1 at this
    simpa using this
   ·have:=Fg.1 h8 k hk
    unfold cK2 V7 at this
    rw[h3]
    cases e:decide ((fAt c.f k).sizes=c.s)
    ·rw[e] at this;cases this
    ·simpa using e
  ·cases h1
 ·rename_i h7
  exfalso
  cases hb:D5 (mF (cK1 c.f) c.f.length)
  ·obtain⟨j,hj,hc,_,hr⟩:=a2P hb
   rw[hr] at h1
   have h1:a0n (fAt c.f j)=0:=h1
   unfold cK1 at hc
   rw[h1] at hc;cases hc
  ·exact h7 hb
theorem a6O {c:Ca} (e:NoE c) {k:Nat} (hk:k<c.f.length):(cellsD (fAt c.f k)).length=(cellsD c.g).length:=by
 rw[(e.u k hk).c,e.v.c,e.s k hk]
theorem a5N {l:List Fc} {k:Nat} (hk:k<l.length):(dV l).getD k []=kN (fAt l k):=by
 unfold dV fAt
 rw[List.getD_eq_getElem?_getD,List.getD_eq_getElem?_getD,List.getElem?_map,List.getElem?_eq_getElem hk];rfl
theorem a1V {l:List Fc}:(dV l).length=l.length:=List.length_map ..
theorem a3h {d:Dg}:(kN d).length=(cellsD d).length:=List.length_map ..
theorem ab3 {c:Ca} (e:NoE c):FaP (dV c.f) (kN c.g):=by
 have:=e.n
 refine⟨by rw[a1V];unfold most;omega,by rw[a3h,e.v.c];exact e.v.m,fun k hk=>?_⟩
 rw[a1V] at hk
 rw[a5N hk,a3h,a3h,a6O e hk]
end Go.Proofs.YtjkgcifieggcpaaGreat
namespace Go.Proofs.YtjkgcifieggcpaaGreat
open Go Tw Pv fA
abbrev R (n:Nat):List Nat:=List.range n
def a9m (a:Nat):List Int:=((R 8).filter fun k=>a.testBit k).map fun k:Nat=>(k:Int)
theorem adA:((R 128).all fun a=>(R 8).all fun k=>(YA .i64 (VH .i64 (a:Int) (IntKind.u64.wrap (k:Int))) 2==0)==!(a.testBit k))=true:=by kernel_rfl
theorem a8y:((R 128).all fun a=>decide (a1t (a:Int)=a9m a))=true:=by kernel_rfl
theorem a8z:((R 128).all fun a=>decide (a1C (a:Int)=a9m a))=true:=by kernel_rfl
theorem ab4:((R 128).all fun a=>(R 128).all fun b=>(H6 (a:Int) (b:Int)==0)==(R 7).all fun k=>!(a.testBit k)||b.testBit k)=true:=by kernel_rfl
def a2w (n k:Nat):Nat:=(2^n-1) ^^^ ((2^n-1) &&& 2^k)
theorem a9n:((R 8).all fun n=>(R 7).all fun k=>decide (H6 (IntKind.u64.wrap (YB .u64 1 (n:Int)-1)) (a1T k)=((a2w n k:Nat):Int))&&(decide (a2w n k<128)&&(R 7).all fun j=>(a2w n k).testBit j==(decide (j<n)&&!(decide (j=k)))))=true:=by kernel_rfl
theorem ab5:((R 8).all fun n=>decide (IntKind.u64.wrap (YB .u64 1 (n:Int)-1)=((2^n-1:Nat):Int))&&decide (a2e n=((2^n-1:Nat):Int)))=true:=by kernel_rfl
theorem ab6:((R 128).all fun a=>(R 7).all fun k=>decide (orB (a:Int) (k:Int)=((a ||| 2^k:Nat):Int))&&decide (a9i (a:Int) (a1T k)=((a ||| 2^k:Nat):Int)))=true:=by kernel_rfl
theorem a9o:((R 128).all fun a=>(R 128).all fun b=>decide (IntKind.i64.wrap (((BitVec.ofInt 64 (a:Int) &&& BitVec.ofInt 64 (b:Int)).toNat:Nat):Int)=((a &&& b:Nat):Int)))=true:=by kernel_rfl
theorem all1 {n:Nat} {p:Nat→Bool} (h:(R n).all p=true) {a:Nat} (ha:a<n):p a=true:=List.all_eq_true.1 h a (List.mem_range.2 ha)
theorem adB {a k:Nat} (ha:a<128) (hk:k<8):(YA .i64 (VH .i64 (a:Int) (IntKind.u64.wrap (k:Int))) 2==0)=!(a.testBit k):=by simpa using all1 (all1 adA ha) hk
theorem a9p {a:Nat} (ha:a<128):a1t (a:Int)=a9m a:=by simpa using all1 a8y ha
theorem a9q {a:Nat} (ha:a<128):a1C (a:Int)=a9m a:=by simpa using all1 a8z ha
theorem adC {a b:Nat} (ha:a<128) (hb:b<128):(H6 (a:Int) (b:Int)==0)=(R 7).all fun k=>!(a.testBit k)||b.testBit k:=eq_of_beq (all1 (all1 ab4 ha) hb)
theorem a8A {n k:Nat} (hn:n<8) (hk:k<7):H6 (IntKind.u64.wrap (YB .u64 1 (n:Int)-1)) (a1T k)=((a2w n k:Nat):Int)∧a2w n k<128∧∀ j,j<7→(a2w n k).testBit j=(decide (j<n)&&!(decide (j=k))):=by
 have h:=all1 (all1 a9n hn) hk
 simp only[Bool.and_eq_true,decide_eq_true_eq] at h
 exact⟨h.1,h.2.1,fun j hj=>eq_of_beq (all1 h.2.2 hj)⟩
theorem a9Q {n:Nat} (hn:n<8):IntKind.u64.wrap (YB .u64 1 (n:Int)-1)=((2^n-1:Nat):Int)∧a2e n=((2^n-1:Nat):Int):=by
 have h:=all1 ab5 hn
 simp only[Bool.and_eq_true,decide_eq_true_eq] at h
 exact h
theorem a9R {a k:Nat} (ha:a<128) (hk:k<7):orB (a:Int) (k:Int)=((a ||| 2^k:Nat):Int)∧a9i (a:Int) (a1T k)=((a ||| 2^k:Nat):Int):=by
 have h:=all1 (all1 ab6 ha) hk
 simp only[Bool.and_eq_true,decide_eq_true_eq] at h
 exact h
theorem ab7 {a b:Nat} (ha:a<128) (hb:b<128):IntKind.i64.wrap (((BitVec.ofInt 64 (a:Int) &&& BitVec.ofInt 64 (b:Int)).toNat:Nat):Int)=((a &&& b:Nat):Int):=by
 simpa using all1 (all1 a9o ha) hb
end Go.Proofs.YtjkgcifieggcpaaGreat
namespace Go.Proofs.YtjkgcifieggcpaaGreat
open Go Tw Pv fA
theorem a4y {α:Type} (z:α) (F:Nat→α→α) (l:List α):∀ m:Nat,m≤l.length→(qj (fun k (y:List α)=>y.set k (F k (y.getD k z))) m 0 l).length=l.length∧∀ i,(qj (fun k (y:List α)=>y.set k (F k (y.getD k z))) m 0 l).getD i z=if i<m then F i (l.getD i z) else l.getD i z
 | 0,_=>⟨rfl,fun i=>by rw[if_neg (by omega)];rfl⟩
 | m+1,h=>by
  obtain⟨h1,h2⟩:=a4y z F l m (by omega)
  rw[BG,Nat.zero_add]
  refine⟨by rw[List.length_set,h1],fun i=>?_⟩
  rw[List.getD_eq_getElem?_getD]
  by_cases e:m=i
  ·subst e
   rw[List.getElem?_set_self (by omega),if_pos (by omega),Option.getD_some,h2 m,if_neg (by omega)]
  ·rw[List.getElem?_set_ne e,←List.getD_eq_getElem?_getD,h2 i]
   by_cases e2:i<m
   ·rw[if_pos e2,if_pos (by omega)]
   ·rw[if_neg e2,if_neg (by omega)]
theorem set_self {α:Type} (z:α) (l:List α) (k:Nat):l.set k (l.getD k z)=l:=by
 refine List.ext_getElem? fun i=>?_
 by_cases e:k=i
 ·subst e
  by_cases h:k<l.length
  ·rw[List.getElem?_set_self h,List.getD_eq_getElem?_getD,List.getElem?_eq_getElem h];rfl
  ·rw[List.getElem?_eq_none (by rw[List.length_set];omega),List.getElem?_eq_none (by omega)]
 ·rw[List.getElem?_set_ne e]
def mk (met:Nat→Nat→Bool) (i:Nat):Nat→Nat
 | 0=>0
 | j+1=>if met j i=true then mk met i j ||| 2^j else mk met i j
theorem a8B (met:Nat→Nat→Bool) (i:Nat):∀ j,mk met i j<2^j∧∀ k,(mk met i j).testBit k=(decide (k<j)&&met k i)
 | 0=>⟨by simp[mk],fun k=>by simp[mk]⟩
 | j+1=>by
  obtain⟨h1,h2⟩:=a8B met i j
  unfold mk
  cases h:met j i
  ·rw[if_neg (by simp)]
   refine⟨by rw[Nat.pow_succ];omega,fun k=>?_⟩
   rw[h2 k]
   by_cases e:k=j
   ·subst e;simp[h]
   ·have:decide (k<j+1)=decide (k<j):=by rw[Bool.eq_iff_iff,decide_eq_true_eq,decide_eq_true_eq];omega
    rw[this]
  ·rw[if_pos rfl]
   refine⟨Nat.or_lt_two_pow (by rw[Nat.pow_succ];omega) (Nat.pow_lt_pow_right (by decide) (by omega)),fun k=>?_⟩
   rw[Nat.testBit_or,h2 k,Nat.testBit_two_pow]
   by_cases e:k=j
   ·subst e;simp[h]
   ·have:decide (k<j+1)=decide (k<j):=by rw[Bool.eq_iff_iff,decide_eq_true_eq,decide_eq_true_eq];omega
    rw[this,show decide (j=k)=false from decide_eq_false (fun h=>e h.symm)];simp
section
variable (D:List Dg) (c0:List V)
def a2F (k i:Nat):Bool:=decide ((cAt D k).getD i V0=V1)
theorem ab8 {i:Nat} (hi:i<c0.length):(a1N c0).getD i xG=⟨0,decide (c0.getD i V0=V1)⟩:=by
 have h:=(a4y xG (fun k (x:Pc)=>(⟨x.facts,decide (c0.getD k V0=V1)⟩:Pc)) (List.replicate c0.length xG) c0.length (by simp)).2 i
 rw[if_pos hi] at h
 unfold a1N
 show (qj (fun k (y:List Pc)=>y.set k ⟨(y.getD k xG).facts,decide (c0.getD k V0=V1)⟩) c0.length 0 (List.replicate c0.length xG)).getD i xG=_
 rw[h]
 have:(List.replicate c0.length xG).getD i xG=xG:=by
  rw[List.getD_eq_getElem?_getD,List.getElem?_replicate];split<;>rfl
 rw[this]
theorem ab9 (b:Nat) (c:List V) (l:List Pc) (hc:c.length≤l.length) (i:Nat) (hi:i<c.length):(qj (gIW (b:Int) c) c.length 0 l).getD i xG=if decide (c.getD i V0=V1)=true then ⟨orB (l.getD i xG).facts b,(l.getD i xG).goal⟩ else l.getD i xG:=by
 have h:=(a4y xG (fun k (x:Pc)=>if decide (c.getD k V0=V1)=true then (⟨orB x.facts b,x.goal⟩:Pc) else x) l c.length hc).2 i
 rw[if_pos hi] at h
 rw[←h]
 congr 2
 funext k y
 unfold gIW
 split
 ·rfl
 ·rw[set_self]
theorem a8C (N:Nat) (hc0:c0.length=N) (hc:∀ k,k<D.length→(cAt D k).length=N) {i:Nat} (hi:i<N):∀ j,j≤D.length→j≤7→(qj (g2W D) j 0 (a1N c0)).length=N∧(qj (g2W D) j 0 (a1N c0)).getD i xG=⟨((mk (a2F D) i j:Nat):Int),decide (c0.getD i V0=V1)⟩
 | 0,_,_=>⟨by rw[←hc0];exact a4s c0,ab8 c0 (by omega)⟩
 | j+1,hj,h7=>by
  obtain⟨h1,h2⟩:=a8C N hc0 hc hi j (by omega) (by omega)
  rw[BG,Nat.zero_add]
  have hl:=hc j (by omega)
  refine⟨by show (qj (gIW (j:Int) (cAt D j)) (cAt D j).length 0 (qj (g2W D) j 0 (a1N c0))).length=N;rw[a6d,h1],?_⟩
  show (qj (gIW (j:Int) (cAt D j)) (cAt D j).length 0 (qj (g2W D) j 0 (a1N c0))).getD i xG=_
  rw[ab9 j (cAt D j) _ (by omega) i (by omega),h2]
  have hm:=(a8B (a2F D) i j).1
  have h128:2^j≤2^6:=Nat.pow_le_pow_right (by decide) (by omega)
  have ho:=(a9R (a:=mk (a2F D) i j) (k:=j) (by omega) (by omega)).1
  show (if a2F D j i=true then _ else _)=_
  rw[mk]
  cases a2F D j i
  ·rfl
  ·rw[if_pos rfl,if_pos rfl]
   show (⟨orB ((mk (a2F D) i j:Nat):Int) (j:Int),_⟩:Pc)=_
   rw[ho]
end
theorem a8D (l:List Pc) (x:Pc):x∈a7f l↔∃ i,i<l.length∧l.getD i xG=x:=by
 have h:=NC (g:=g4W l) (m:=l.length) (k:=0) (s:=[]) (fun k y=>∀ x,x∈y↔∃ i,i<k∧l.getD i xG=x) (fun x=>by simp) (fun j y _ _ h x=>by
  unfold g4W
  split
  ·rename_i hm
   rw[h x]
   constructor
   ·rintro⟨i,hi,e⟩;exact⟨i,by omega,e⟩
   ·rintro⟨i,hi,e⟩
    by_cases e2:i=j
    ·subst e2;rw[←e];exact (h _).1 hm
    ·exact⟨i,by omega,e⟩
  ·rw[List.mem_append,h x,List.mem_singleton]
   constructor
   ·rintro (⟨i,hi,e⟩ | e)
    ·exact⟨i,by omega,e⟩
    ·exact⟨j,by omega,e.symm⟩
   ·rintro⟨i,hi,e⟩
    by_cases e2:i=j
    ·subst e2;exact .inr e.symm
    ·exact .inl ⟨i,by omega,e⟩)
 rw[Nat.zero_add] at h
 exact h x
end Go.Proofs.YtjkgcifieggcpaaGreat
namespace Go.Proofs.YtjkgcifieggcpaaGreat
open Go Tw Pv fA
def Exp (n N:Nat) (met:Nat→Nat→Bool) (gl:Nat→Bool) (a:Nat):Prop:=∀ i,i<N→(∀ k,k<n→a.testBit k=true→met k i=true)→gl i=true
theorem Exp.mono {n N:Nat} {met:Nat→Nat→Bool} {gl:Nat→Bool} {a b:Nat} (h:Exp n N met gl a) (hb:∀ k,k<n→a.testBit k=true→b.testBit k=true):Exp n N met gl b:=fun i hi h2=>h i hi fun k hk ha=>h2 k hk (hb k hk ha)
theorem a9r {m:List (List Bool)} {bits:Int} {p:Nat}:a4w m bits p=true↔∀ k,k<m.length→(YA .i64 (VH .i64 bits (IntKind.u64.wrap k)) 2==0)=true∨(m.getD k []).getD p false=true:=by
 have h:=NC (g:=a8s m bits p) (m:=m.length) (k:=0) (s:=true) (fun j y=>y=true↔∀ k,k<j→(YA .i64 (VH .i64 bits (IntKind.u64.wrap k)) 2==0)=true∨(m.getD k []).getD p false=true) ⟨fun _ k hk=>by omega,fun _=>rfl⟩ (fun j y _ _ h=>by
  unfold a8s
  cases y
  ·rw[if_neg (by simp)]
   constructor
   ·intro h2;cases h2
   ·intro h2
    have:=h.2 fun k hk=>h2 k (by omega)
    cases this
  ·rw[if_pos rfl]
   have h1:=h.1 rfl
   cases hb:(YA .i64 (VH .i64 bits (IntKind.u64.wrap j)) 2==0)
   ·rw[if_neg (by simp)]
    constructor
    ·intro h2 k hk
     by_cases e:k=j
     ·subst e;exact .inr h2
     ·exact h1 k (by omega)
    ·intro h2
     rcases h2 j (by omega) with h3 | h3
     ·rw[hb] at h3;cases h3
     ·exact h3
   ·rw[if_pos rfl]
    refine⟨fun _ k hk=>?_,fun _=>rfl⟩
    by_cases e:k=j
    ·subst e;exact .inl hb
    ·exact h1 k (by omega))
 rw[Nat.zero_add] at h
 exact h
section
variable {c:Ca} (p:CaP c) (e:NoE c) (hn:c.f.length≤7)
abbrev a6h (c:Ca) (k i:Nat):Bool:=decide ((cellsD (fAt c.f k)).getD i V0=V1)
abbrev glC (c:Ca) (i:Nat):Bool:=decide ((cellsD c.g).getD i V0=V1)
abbrev ExC (c:Ca) (a:Nat):Prop:=Exp c.f.length (cnt c.g.sizes) (a6h c) (glC c) a
theorem a5O {n:Nat} (h:n≤7):2^n≤128:=Nat.pow_le_pow_right (by decide) h
theorem a6i {a n k:Nat} (h:a<2^n) (hk:a.testBit k=true):k<n:=by
 refine Classical.byContradiction fun h2=>?_
 have:a<2^k:=Nat.lt_of_lt_of_le h (Nat.pow_le_pow_right (by decide) (by omega))
 rw[Nat.testBit_lt_two_pow this] at hk;cases hk
include p e
theorem a5e {k:Nat} (hk:k<c.f.length):cAt (jT c.f) k=cellsD (fAt c.f k):=by
 unfold cAt
 rw[a2Z,a4x (p.d k hk),(e.u k hk).r];rfl
theorem a8E:(TQ c.g).1=cellsD c.g:=by rw[a4x p.p.lg,e.v.r];rfl
include hn
theorem a5P {a:Nat} (ha:a<2^c.f.length):qm (VB c.f c.g) (a:Int)=true↔ExC c a:=by
 have h128:=a5O hn
 have hg:=a8E p e
 have hc0:(TQ c.g).1.length=cnt c.g.sizes:=by rw[hg];exact e.v.c
 have hc:∀ k,k<(jT c.f).length→(cAt (jT c.f) k).length=cnt c.g.sizes:=fun k hk=>by
  rw[a1Z] at hk
  rw[a5e p e hk,(e.u k hk).c,e.s k hk]
 have hP:∀ i,i<cnt c.g.sizes→(a2q (jT c.f) (a1N (TQ c.g).1)).getD i xG=⟨((mk (a2F (jT c.f)) i c.f.length:Nat):Int),glC c i⟩:=fun i hi=>by
  have:=(a8C (jT c.f) (TQ c.g).1 (cnt c.g.sizes) hc0 hc hi c.f.length (by rw[a1Z];omega) hn).2
  unfold a2q
  rw[a1Z,this,hg]
 have hbe:∀ i,i<cnt c.g.sizes→(bE (a:Int) ((a2q (jT c.f) (a1N (TQ c.g).1)).getD i xG)=false↔((∀ k,k<c.f.length→a.testBit k=true→a6h c k i=true)→glC c i=true)):=fun i hi=>by
  rw[hP i hi]
  have hm:=a8B (a2F (jT c.f)) i c.f.length
  unfold bE
  show ((H6 (a:Int) ((mk (a2F (jT c.f)) i c.f.length:Nat):Int)==0)&&!(glC c i))=false↔_
  rw[adC (by omega) (by omega)]
  have hq:((R 7).all fun k=>!(a.testBit k)||(mk (a2F (jT c.f)) i c.f.length).testBit k)=true↔∀ k,k<c.f.length→a.testBit k=true→a6h c k i=true:=by
   rw[List.all_eq_true]
   constructor
   ·intro h k hk hb
    have:=h k (List.mem_range.2 (by omega))
    rw[hb,hm.2 k] at this
    simp only[Bool.not_true,Bool.false_or,Bool.and_eq_true] at this
    have h3:=this.2
    unfold a2F at h3
    rw[a5e p e hk] at h3
    exact h3
   ·intro h k _
    cases hb:a.testBit k
    ·rfl
    ·have hk:=a6i ha hb
     rw[hm.2 k,decide_eq_true hk]
     have h3:=h k hk hb
     unfold a2F
     rw[a5e p e hk]
     simpa using h3
  cases hx:(R 7).all fun k=>!(a.testBit k)||(mk (a2F (jT c.f)) i c.f.length).testBit k
  ·have:¬∀ k,k<c.f.length→a.testBit k=true→a6h c k i=true:=fun h=>by rw[hq.2 h] at hx;cases hx
   exact⟨fun _ h=>absurd h this,fun _=>rfl⟩
  ·have h3:=hq.1 hx
   cases glC c i
   ·exact⟨fun h=>(by cases h),fun h=>absurd (h h3) (by simp)⟩
   ·exact⟨fun _ _=>rfl,fun _=>rfl⟩
 have hl:(a2q (jT c.f) (a1N (TQ c.g).1)).length=cnt c.g.sizes:=by rw[a6e,a4s,hc0]
 unfold qm VB
 constructor
 ·intro h i hi
  refine (hbe i hi).1 ?_
  cases hb:bE (a:Int) ((a2q (jT c.f) (a1N (TQ c.g).1)).getD i xG)
  ·rfl
  ·have:(a7f (a2q (jT c.f) (a1N (TQ c.g).1))).any (bE (a:Int))=true:=List.any_eq_true.2 ⟨_,(a8D _ _).2 ⟨i,by omega,rfl⟩,hb⟩
   rw[this] at h;cases h
 ·intro h
  cases hb:(a7f (a2q (jT c.f) (a1N (TQ c.g).1))).any (bE (a:Int))
  ·rfl
  ·obtain⟨x,hx,hbx⟩:=List.any_eq_true.1 hb
   obtain⟨i,hi,rfl⟩:=(a8D _ _).1 hx
   rw[(hbe i (by omega)).2 (h i (by omega))] at hbx;cases hbx
theorem a4z {a:Nat} (ha:a<2^c.f.length):a0W (dV c.f) (kN c.g) (a:Int)=true↔ExC c a:=by
 have h128:=a5O hn
 have hgl:∀ i,i<cnt c.g.sizes→(kN c.g).getD i false=glC c i:=fun i hi=>by
  unfold kN a4u
  have:i<(cellsD c.g).length:=by rw[e.v.c];exact hi
  unfold glC
  simp only[List.getD_eq_getElem?_getD,List.getElem?_map,List.getElem?_eq_getElem this,Option.map_some,Option.getD_some]
 have hme:∀ k i,k<c.f.length→i<cnt c.g.sizes→((dV c.f).getD k []).getD i false=a6h c k i:=fun k i hk hi=>by
  rw[a5N hk]
  unfold kN a4u a6h
  have:i<(cellsD (fAt c.f k)).length:=by rw[(e.u k hk).c,e.s k hk];exact hi
  simp only[List.getD_eq_getElem?_getD,List.getElem?_map,List.getElem?_eq_getElem this,Option.map_some,Option.getD_some]
 have hall:∀ i,i<cnt c.g.sizes→(a4w (dV c.f) (a:Int) i=true↔∀ k,k<c.f.length→a.testBit k=true→a6h c k i=true):=fun i hi=>by
  rw[a9r,a1V]
  constructor
  ·intro h k hk hb
   rcases h k hk with h2 | h2
   ·rw[adB (by omega) (by omega),hb] at h2;cases h2
   ·rw[hme k i hk hi] at h2;exact h2
  ·intro h k hk
   rw[adB (by omega) (by omega)]
   cases hb:a.testBit k
   ·exact .inl rfl
   ·right;rw[hme k i hk hi];exact h k hk hb
 have hr:a0W (dV c.f) (kN c.g) (a:Int)=D5 (mF (cEx (dV c.f) (kN c.g) (a:Int)) (kN c.g).length):=by
  unfold a0W
  cases D5 (mF (cEx (dV c.f) (kN c.g) (a:Int)) (kN c.g).length)<;>rfl
 rw[hr,Fg,a3h,e.v.c]
 constructor
 ·intro h i hi h2
  have h3:=h i hi
  unfold cEx at h3
  rw[(hall i hi).2 h2,if_pos rfl,hgl i hi] at h3
  simpa using h3
 ·intro h i hi
  unfold cEx
  cases hx:a4w (dV c.f) (a:Int) i
  ·rfl
  ·rw[if_pos rfl,hgl i hi,h i hi ((hall i hi).1 hx)];rfl
end
end Go.Proofs.YtjkgcifieggcpaaGreat
namespace Go.Proofs.YtjkgcifieggcpaaGreat
open Go Tw Pv fA
theorem a8F (m:List (List Bool)) (g:List Bool) (up:Bool):(a1u m g up).2=true↔∃ k:Nat,k<2^m.length∧a5K m g (k:Int) up=true:=by
 have h:=NC (g:=gSl m g up) (m:=2^m.length) (k:=0) (s:=([],false)) (fun j y=>y.2=true↔∃ k:Nat,k<j∧a5K m g (k:Int) up=true) ⟨fun h=>(by cases h),fun⟨k,hk,_⟩=>by omega⟩ (fun j y _ _ h=>by
  unfold gSl
  cases hf:a5K m g (j:Int) up
  ·rw[if_neg (by simp),h]
   constructor
   ·rintro⟨k,hk,h2⟩;exact⟨k,by omega,h2⟩
   ·rintro⟨k,hk,h2⟩
    by_cases e:k=j
    ·subst e;rw[hf] at h2;cases h2
    ·exact⟨k,by omega,h2⟩
  ·rw[if_pos rfl]
   refine⟨fun _=>⟨j,by omega,hf⟩,fun _=>?_⟩
   split
   ·rename_i h2
    split
    ·rfl
    ·exact h2
   ·rfl)
 rw[Nat.zero_add] at h
 exact h
section
variable {c:Ca} (p:CaP c) (e:NoE c) (hn:c.f.length≤7)
include p e hn
theorem abd:(a1u (dV c.f) (kN c.g) false).2=qm (VB c.f c.g) (a4C c.f):=by
 have hp:=Nat.two_pow_pos c.f.length
 have hev:a4C c.f=((2^c.f.length-1:Nat):Int):=(a9Q (n:=c.f.length) (by omega)).1
 rw[Bool.eq_iff_iff,a8F,a1V,hev,a5P p e hn (by omega)]
 constructor
 ·rintro⟨k,hk,hf⟩
  have hf:a0W (dV c.f) (kN c.g) (k:Int)=true:=hf
  refine ((a4z p e hn hk).1 hf).mono fun j hj _=>?_
  rw[Nat.testBit_two_pow_sub_one];simpa using hj
 ·intro h
  exact⟨2^c.f.length-1,by omega,(a4z p e hn (by omega)).2 h⟩
theorem abe:∃ a:Nat,a4t c.f (VB c.f c.g)=(a:Int)∧a<2^c.f.length∧∀ k,k<c.f.length→(a.testBit k=true↔¬ExC c (a2w c.f.length k)):=by
 have h128:=a5O hn
 have h:=NC (g:=gNd c.f (VB c.f c.g)) (m:=c.f.length) (k:=0) (s:=0) (fun j y=>∃ a:Nat,y=(a:Int)∧a<2^c.f.length∧∀ k,k<c.f.length→(a.testBit k=true↔k<j∧¬ExC c (a2w c.f.length k))) ⟨0,rfl,Nat.two_pow_pos _,fun k _=>by simp⟩ (fun j y _ hj h=>by
  obtain⟨a,rfl,ha,hb⟩:=h
  have hj:j<c.f.length:=by omega
  obtain⟨t1,t2,t3⟩:=a8A (n:=c.f.length) (k:=j) (by omega) (by omega)
  have hoff:a2w c.f.length j<2^c.f.length:=by
   refine Nat.lt_pow_two_of_testBit _ fun i hi=>?_
   cases hx:(a2w c.f.length j).testBit i
   ·rfl
   ·have:i<7:=a6i (n:=7) t2 hx
    rw[t3 i this] at hx
    simp at hx;omega
  have hx:=a5P p e hn hoff
  unfold gNd
  show ∃ a1:Nat,(if (!(qm (VB c.f c.g) (H6 (IntKind.u64.wrap (YB .u64 1 (c.f.length:Int)-1)) (a1T j))))=true then a9i (a:Int) (a1T j) else (a:Int))=(a1:Int)∧_
  rw[t1]
  cases hq:qm (VB c.f c.g) ((a2w c.f.length j:Nat):Int)
  ·have hne:¬ExC c (a2w c.f.length j):=fun h=>by rw[hx.2 h] at hq;cases hq
   refine⟨a ||| 2^j,(a9R (by omega) (by omega)).2,Nat.or_lt_two_pow ha (Nat.pow_lt_pow_right (by decide) hj),fun k hk=>?_⟩
   rw[Nat.testBit_or,Bool.or_eq_true,hb k hk,Nat.testBit_two_pow,decide_eq_true_eq]
   constructor
   ·rintro (⟨h1,h2⟩ | rfl)
    ·exact⟨by omega,h2⟩
    ·exact⟨by omega,hne⟩
   ·rintro⟨h1,h2⟩
    by_cases e2:j=k
    ·exact .inr e2
    ·exact .inl ⟨by omega,h2⟩
  ·have hne:=hx.1 hq
   refine⟨a,rfl,ha,fun k hk=>?_⟩
   rw[hb k hk]
   constructor
   ·rintro⟨h1,h2⟩;exact⟨by omega,h2⟩
   ·rintro⟨h1,h2⟩
    by_cases e2:k=j
    ·subst e2;exact absurd hne h2
    ·exact⟨by omega,h2⟩)
 rw[Nat.zero_add] at h
 obtain⟨a,h1,h2,h3⟩:=h
 exact⟨a,h1,h2,fun k hk=>by rw[h3 k hk];exact⟨fun h=>h.2,fun h=>⟨hk,h⟩⟩⟩
theorem abf:∃ a:Nat,a1U (dV c.f) (kN c.g)=(a:Int)∧a<2^c.f.length∧∀ k,k<c.f.length→(a.testBit k=true↔∀ b,b<2^c.f.length→ExC c b→b.testBit k=true):=by
 have h128:=a5O hn
 have hp:=Nat.two_pow_pos c.f.length
 have h:=NC (g:=gNe (dV c.f) (kN c.g)) (m:=2^c.f.length) (k:=0) (s:=a2e c.f.length) (fun j y=>∃ a:Nat,y=(a:Int)∧a<2^c.f.length∧∀ k,k<c.f.length→(a.testBit k=true↔∀ b,b<j→ExC c b→b.testBit k=true)) ⟨2^c.f.length-1,(a9Q (by omega)).2,by omega,fun k hk=>by
  rw[Nat.testBit_two_pow_sub_one]
  simp only[decide_eq_true_eq]
  exact⟨fun _ b hb=>by omega,fun _=>hk⟩⟩ (fun j y _ hj h=>by
  obtain⟨a,rfl,ha,hb⟩:=h
  have hj:j<2^c.f.length:=by omega
  have hx:=a4z p e hn hj
  unfold gNe
  cases hq:a0W (dV c.f) (kN c.g) (j:Int)
  ·have hne:¬ExC c j:=fun h=>by rw[hx.2 h] at hq;cases hq
   rw[if_neg (by simp)]
   refine⟨a,rfl,ha,fun k hk=>?_⟩
   rw[hb k hk]
   constructor
   ·intro h b hb2 hE
    by_cases e2:b=j
    ·subst e2;exact absurd hE hne
    ·exact h b (by omega) hE
   ·intro h b hb2 hE;exact h b (by omega) hE
  ·have hE:=hx.1 hq
   rw[if_pos rfl]
   refine⟨a &&& j,ab7 (by omega) (by omega),Nat.lt_of_le_of_lt Nat.and_le_left ha,fun k hk=>?_⟩
   rw[Nat.testBit_and,Bool.and_eq_true,hb k hk]
   constructor
   ·rintro⟨h1,h2⟩ b hb2 hE2
    by_cases e2:b=j
    ·subst e2;exact h2
    ·exact h1 b (by omega) hE2
   ·intro h
    exact⟨fun b hb2 hE2=>h b (by omega) hE2,h j (by omega) hE⟩)
 rw[Nat.zero_add] at h
 unfold a1U
 rw[a1V]
 exact h
theorem a8G:a1C (a4t c.f (VB c.f c.g))=a1t (a1U (dV c.f) (kN c.g))∧a1D (a1U (dV c.f) (kN c.g))<63:=by
 have h128:=a5O hn
 obtain⟨a,a1,a2,a3⟩:=abe p e hn
 obtain⟨b,b1,b2,b3⟩:=abf p e hn
 have hab:a=b:=by
  refine Nat.eq_of_testBit_eq fun k=>?_
  by_cases hk:k<c.f.length
  ·rw[Bool.eq_iff_iff,a3 k hk,b3 k hk]
   obtain⟨_,t2,t3⟩:=a8A (n:=c.f.length) (k:=k) (by omega) (by omega)
   constructor
   ·intro h x hx hE
    cases hb:x.testBit k
    ·exfalso
     refine h (hE.mono fun j hj hxj=>?_)
     rw[t3 j (by omega),decide_eq_true hj]
     have:j≠k:=fun e2=>by subst e2;rw[hb] at hxj;cases hxj
     rw[decide_eq_false this];rfl
    ·rfl
   ·intro h hE
    have hoff:a2w c.f.length k<2^c.f.length:=by
     refine Nat.lt_pow_two_of_testBit _ fun i hi=>?_
     cases hx:(a2w c.f.length k).testBit i
     ·rfl
     ·have:i<7:=a6i (n:=7) t2 hx
      rw[t3 i this] at hx
      simp at hx;omega
    have:=h _ hoff hE
    rw[t3 k (by omega)] at this
    simp at this
  ·have h1:a<2^k:=Nat.lt_of_lt_of_le a2 (Nat.pow_le_pow_right (by decide) (by omega))
   have h2:b<2^k:=Nat.lt_of_lt_of_le b2 (Nat.pow_le_pow_right (by decide) (by omega))
   rw[Nat.testBit_lt_two_pow h1,Nat.testBit_lt_two_pow h2]
 rw[a1,b1,hab,a9q (by omega),a9p (by omega)]
 exact⟨rfl,a5J (by omega)⟩
end
theorem a8H (a:Int):(a1C a).length≤most:=by
 have:=NC (g:=gLi a) (m:=8) (k:=0) (s:=[]) (fun k y=>y.length≤k) (Nat.le_refl 0) fun j y _ _ h=>by
  unfold gLi;split
  ·rw[List.length_append,List.length_singleton];omega
  ·omega
 unfold a1C most;omega
theorem abg {c:Ca} (hr:CaR c) (h:a1E c=true):NdL c:=by
 obtain⟨t1,t2,t3,t4,t5,t6⟩:=a5M h
 have p:=ab1 h hr
 have hw:=a7k p
 have hE:Fa c=0→NoE c:=ab2 p
 have h7:Fa c=0→c.f.length≤7:=fun h=>by have:=(hE h).n;omega
 exact⟨p,hw,fun h0=>by
   have e:=hE (hw▸h0)
   refine⟨by rw[a8E p e,e.v.c];exact e.v.m,fun k hk=>?_⟩
   rw[a1Z] at hk
   rw[a5e p e hk,a8E p e,a6O e hk],
  fun h0 k hk=>⟨((hE h0).u k hk).l,by rw[((hE h0).u k hk).c];exact ((hE h0).u k hk).m⟩,
  fun h0=>⟨(hE h0).v.l,by rw[(hE h0).v.c];exact (hE h0).v.m⟩,
  fun h0=>ab3 (hE h0),t3,fun h0=>(a8G p (hE h0) (h7 h0)).2,fun h0=>abd p (hE h0) (h7 h0),fun h0=>(a8G p (hE h0) (h7 h0)).1,a8H _⟩
noncomputable def oc4:gK bF:=cO 4 (a1 caA) tA (fun _=>true) (fun c=>[CaR c]) aaZ
theorem gc4:Gd oc4:=aft.add fun n hO c hp=>a7j hO c (abg (hp _ (.head _)))
end Go.Proofs.YtjkgcifieggcpaaGreat
namespace Go.Proofs.YtjkgcifieggcpaaGreat
open Go Tw Pv
theorem a9s {X:gZ} {P:Program} {H:Type} {xC:TypeId×Value→H} {w:World} {t g:Nat} (ht:P.underlying t=some .string):RdP xC X P w (g+1) t (fun s:ByteArray=>[.str s]) (fun _=>True):=fun d hd=>by
 obtain⟨bs,rfl⟩:=aa0 ht hd
 exact⟨⟨bs.toArray⟩,trivial,fun h=>⟨[.str ⟨bs.toArray⟩],[],by simp[MZ,ht],fun e=>.cons (.str _) .nil⟩⟩
section
variable {H:Type} {xC:TypeId×Value→H} {w:World}
theorem adD:Tryz.prog.cellsOf 9=1:=by kernel_rfl
theorem adE:Tryz.prog.cellsOf 66=6:=by kernel_rfl
theorem afv:sizeT Tryz.prog 66=some 6:=by kernel_rfl
theorem adF:Tryz.prog.cellsOf 23=1:=by kernel_rfl
theorem afw:Tryz.prog.cellsOf 29=8:=by kernel_rfl
theorem rFc {g:Nat}:RdX xC w (g+6) 66 Fc.ps (fun x=>DgR x.d):=
 (a1B Tryz.underlying66 adE (fun _=>rfl) (xu rfl adD (fun _=>rfl) (a9s Tryz.underlying9) (xu rfl aaG (fun _=>rfl) rDg a2v))).iso (fun x=>⟨x.1,x.2.1⟩) (fun _=>rfl) fun _ h=>h.2.1
theorem afx {g:Nat}:RdX xC w (g+7) 23 (fun l:List Fc=>[lFc l]) (fun l=>∀ x∈l,DgR x.d):=a2s (e:=66) Tryz.underlying23 adE afv (by decide) (fun _=>rfl) rFc
theorem rCa {g:Nat}:RdX xC w (g+8) 29 Ca.ps CaR:=
 (a1B Tryz.underlying29 afw (fun _=>rfl) (xu rfl a8l (fun _=>rfl) a5H (xu rfl a8l (fun _=>rfl) a5H (xu rfl adF (fun _=>rfl) afx (xu rfl aaG (fun _=>rfl) rDg a2v))))).iso (fun x=>⟨x.1,x.2.1,x.2.2.1,x.2.2.2.1⟩) (fun _=>rfl) fun x h=>by
  obtain⟨_,_,h3,h4,_⟩:=h
  refine⟨fun k hk=>?_,h4⟩
  have:=h3 _ (List.getElem_mem hk)
  show DgR ((x.2.2.1.getD k Fc0).d)
  rw[List.getD_eq_getElem?_getD,List.getElem?_eq_getElem hk]
  exact this
end
end Go.Proofs.YtjkgcifieggcpaaGreat
namespace Go.Proofs.YtjkgcifieggcpaaGreat
open Go Tw Pv Go.ChangeShapes Go.WideShapes Go.ChangeAt Go.RowKit
theorem Tryz.own:ownKnob Tryz.prog.godebug=none:=by kernel_rfl
theorem Tryz.laidOut:laidOutB Tryz.prog=true:=by kernel_rfl
theorem Tryz.mixed:Tryz.prog.follows .mixedOrders=true:=by kernel_rfl
theorem abh:aj Tryz.prog T.ext:=a8T (a8i (T:=TM) Tryz.mixed a4j a5G)
theorem Tryz.tys4:Tryz.f4.params.toList=[29]:=by kernel_rfl
set_option maxRecDepth 100000 in
theorem a2z (os:Os) (started:os.Started) (H:Type) (enc:TypeId×Value→H) :
  ReturnsInHanded {} Tryz.checked os 4 .any (Rows.blameNeedsSpec.pre6 enc Tryz.prog Tryz.f4 Rows.blameNeedsRow.domain false) (Rows.blameNeedsSpec.post enc Tryz.prog Tryz.f4 false true false false):=by
 refine returnsInHanded_of_change (C:=Tryz.checked) Tryz.own started (by kernel_rfl) Tryz.func4
  (ChangeSpec.witness6 (enc:=enc) (C:=Tryz.checked) false ⟨#[],#[.agg #[.slice none 0 0,.slice none 0 0,.slice none 0 0,.slice none 0 0,.slice none 0 0,.slice none 0 0,.slice none 0 0,.int .i64 0]],[]⟩ 8 (by kernel_rfl) (by kernel_rfl) (by kernel_rfl) (by kernel_rfl)) ?_
 intro W base args ds gs before hval0 hW hcnd _
 have hval:∀ (j:Nat) t v,Tryz.f4.params[j]? = some t→args[j]? = some v→Value.okWide Tryz.prog W .any base t v:=hval0
 have hW':=hW
 obtain⟨p,q,hTA0,hV,rfl,hfz,hnd⟩:=hW
 have hTA:DataW.TrodAll enc Tryz.prog W 0 (fun _=>true) true Tryz.f4.params.toList args.toList ds p:=hTA0
 obtain⟨rfl,rfl⟩:=trodVars_none hV
 rw[Tryz.tys4] at hTA
 obtain⟨d0,_,rfl,r0,_,_,hTA⟩:=a7g hTA
 obtain⟨_,rfl,_⟩:=trodAll_nil hTA
 obtain⟨a0,q0,h0⟩:=rCa (g:=0) d0 r0
 obtain⟨x0,e0,g0,v0⟩:=h0 ([])
 have w0:=v0 ([])
 simp only[List.append_assoc,List.nil_append,List.append_nil] at w0
 obtain⟨N,hN⟩:=gc4
 have hcon:=hN (N+1) (by omega) 4 ((Pv.a1 caA).put a0) (tA.put true) [] [CaR a0] rfl (by
  intro p hp
  simp only[List.mem_cons,List.not_mem_nil,or_false] at hp
  rcases hp with rfl
  exact q0)
 obtain⟨h',hr⟩:=aaF (h:=[]++e0) hcon (by simp only[List.append_assoc,List.nil_append,List.append_nil];exact .cons (.agg w0.1 w0.2) .nil)
 exact a5T (P:=Tryz.prog) (T:=T) (L:=LL) (n:=N) (g:=8) Tryz.mixed Tryz.laidOut rfl rfl (by kernel_rfl) Tryz.underlying4 (by kernel_rfl) hW' hval
  (by rw[Tryz.tys4];exact (aaD (by kernel_rfl) g0 aaE)) abh (by kernel_rfl) (by kernel_rfl) hr
theorem a2B:joinedFacts Tryz.pinned.checked.prog 4 Tryz.f4 Rows.blameNeedsSpec Rows.blameNeedsRow=true:=by kernel_rfl
theorem BlameNeeds_holds:Rows.BlameNeedsSaid:=
 OpenClaim.holds_of_wide 4 Tryz.f4 rfl rfl rfl rfl rfl rfl rfl ⟨rfl,rfl,rfl,rfl,rfl⟩ rfl rfl rfl rfl rfl (by kernel_rfl) Tryz.func4 a2B
  (of_decide_eq_true (by kernel_rfl)) (by unfold Func.isWrapper;first | (rw[if_pos (by decide +kernel)];kernel_rfl) | (rw[if_neg (by decide +kernel)];exact⟨rfl,rfl⟩))
  (fun os started H enc _=>a2z os started H enc)
end Go.Proofs.YtjkgcifieggcpaaGreat
