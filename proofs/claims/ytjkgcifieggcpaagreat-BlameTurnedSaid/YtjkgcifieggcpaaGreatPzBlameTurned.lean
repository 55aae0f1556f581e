/- The statement mistlaw23.BlameTurned: with another order of choices, and diagrams with the same cells, all sets are the same; without conditions. -/
import Derived.Test.YtjkgcifieggcpaaGreatRows
import Derived.ProofKit
import Derived.Test.YtjkgcifieggcpaaGreatP16
set_option linter.constructorNameAsVariable false
set_option linter.unusedVariables false
set_option linter.unusedSimpArgs false
set_option linter.unusedSectionVars false
namespace Go.Proofs.YtjkgcifieggcpaaGreat
open Go Tw Pv gq
theorem ad6 {s:List Int} (hs:BQ s):∀ {o:List Int},(∀ c∈o,CO c s.length)->1<=wO s o
 | [],_=>Nat.le_refl _
 | c::r,h=>by
  have h1:=ad6 hs (o:=r) fun c hc=>h c (by simp[hc]);obtain⟨h2,h3⟩:=h c (by simp);have h4:=hs _ (KU (s:=s) (k:=c.toNat) (by omega));have h5:1*1<=(s.getD c.toNat 0).toNat*wO s r:=Nat.mul_le_mul (by omega) h1;simpa[wO] using h5
theorem a9H (E:List V) (v:V):(Vz E v).length<=E.length+1:=by
 unfold Vz;split<;>simp
theorem ad7 (N:List Br) (c:Int) (ks:List Int):(aaI N c ks).length<=N.length+1:=by
 unfold aaI;split
 ·omega
 split<;>simp
theorem abk {f:List Int->EN->Int×EN} {c:Int} {p:List Int} {n w:Nat} (h:∀ q x,(f q x).2.1.length<=x.1.length+w∧(f q x).2.2.length+1<=x.2.length+w) (x:EN):(uq (gPt f c p) n 0 ([],x)).1.length=n∧(uq (gPt f c p) n 0 ([],x)).2.1.length<=x.1.length+n*w∧(uq (gPt f c p) n 0 ([],x)).2.2.length+n<=x.2.length+n*w:=by
 have:=RH (g:=gPt f c p) (m:=n) (k:=0) (s:=([],x)) (fun k y=>y.1.length=k∧y.2.1.length<=x.1.length+k*w∧y.2.2.length+k<=x.2.length+k*w) ⟨rfl,by simp,by simp⟩ (fun j y _ _ hy=>by
  obtain⟨h1,h2,h3⟩:=hy;have:=h (p.set c.toNat j) y.2;refine⟨by simp[gPt,h1],?_,?_⟩
  ·simp only[gPt,Nat.add_mul,Nat.one_mul];omega
  simp only[gPt,Nat.add_mul,Nat.one_mul];omega)
 rw[Nat.zero_add] at this;exact this
theorem a8n {s:List Int} {l:List V} (hs:BQ s):∀ (o p:List Int) (x:EN),(∀ c∈o,CO c s.length)->(Yp s l o p x).2.1.length<=x.1.length+wO s o∧(Yp s l o p x).2.2.length+1<=x.2.length+wO s o
 | [],p,x,_=>by
  have:=a9H x.1 (l.getD (Ye s p).toNat V0);exact⟨this,by simp[Yp,wO]⟩
 | c::r,p,x,h=>by
  obtain⟨h1,h2,h3⟩:=abk (f:=Yp s l r) (c:=c) (p:=p) (n:=(s.getD c.toNat 0).toNat) (w:=wO s r) (fun q x=>a8n hs r q x fun c hc=>h c (by simp[hc])) x;obtain⟨i1,i2⟩:=h c (by simp);have h4:=hs _ (KU (s:=s) (k:=c.toNat) (by omega));simp only[Yp,wO];generalize uq (gPt (Yp s l r) c p) (s.getD c.toNat 0).toNat 0 ([],x)=y at h1 h2 h3;refine⟨h2,?_⟩;by_cases hn:(s.getD c.toNat 0).toNat=1
  ·have e:aaI y.2.2 c y.1=y.2.2:=by
    unfold aaI;rw[if_pos];rw[hn] at h1
    match hy:y.1,h1 with
    | [a],_=>simp
   rw[e];omega
  have:=ad7 y.2.2 c y.1;omega
abbrev dP (s o:List Int) (i j:Nat):PV bM:=.agg [lI s,lI o,.own i,.own j,.int .i64 0]
abbrev d0P:List (PV bM):=[.nil .slc,.nil .slc,.nil .slc,.nil .slc,.int .i64 0]
abbrev w1P (s o:List Int) (v:V) (i:Int) (x:List (Nat×PE bM)) (H:List (PB bM)):aW bM:=⟨[(4,.loc 0 0),(8,.loc 1 0),(10,.loc 2 0),(11,xi i)]++x,[[lI s,lI o,.own 0,.own 1,.int .i64 0],d0P,v.ps],H⟩
def z1P (s o:List Int) (E:List V) (v:V) (H:List (PB bM)):Unit⊕Nat->Ex×aW bM
 | .inl _=>(.exit 0,w1P s o v E.length [(33,xl false)] H)
 | .inr k=>(.ret,⟨[(8,.loc 1 0),(9,xi (IntKind.i64.wrap (-1-(k:Int))))],[[lI s,lI o,.own 0,.own 1,.int .i64 0],[lI s,lI o,.own 0,.own 1,.int .i64 0],v.ps],H⟩)
abbrev c1P (E:List V) (v:V) (k:Nat):Bool:=decide (E.getD k V0=v)
theorem l1P {n:Nat} (hO:Ok n a6Q) (s o:List Int) {E:List V} (N:List Br) (v:V) (pl:List Int) (ko ex:Bool) (hl:E.length<=aO):LpB n 83 0 3 (w1P s o v 0 [] [lsV E,lsB N,oI ko ex pl]) (z1P s o E v [lsV E,lsB N,oI ko ex pl] (pJ (c1P E v) E.length)).1 (z1P s o E v [lsV E,lsB N,oI ko ex pl] (pJ (c1P E v) E.length)).2:=
 kN (st:=fun i _=>w1P s o v i [] [lsV E,lsB N,oI ko ex pl]) (fun _ _=>True) (by kernel_rfl) hl trivial (fun k u m hk _ ih=>round hX hO (by kernel_rfl) (.b (a2v hk) (.o (bP hk) (.q (.bool (c1P E v k)) (G9 (.tmp 40) (.tmp 41) (E.getD k V0) v) (.ls (.ou nofun) (.nx (ih _ trivial)))))))
  (fun _ _=>round hX hO (by kernel_rfl) (.b (a5U E.length) (.ou nofun)))
theorem a5D {α:Type} [DecidableEq α] {l:List α} {d a:α} {c:Nat->Bool} (hc:∀ k,k<l.length->c k=decide (l.getD k d=a)):(a∈l->pJ c l.length=.inr (l.idxOf a))∧(a∉l->G8 (pJ c l.length)=true):=by
 constructor
 ·intro h;have hi:=List.idxOf_lt_length_iff.2 h;have h1:c (l.idxOf a)=true:=by
   rw[hc _ hi,decide_eq_true_eq,List.getD,List.getElem?_eq_getElem hi,Option.getD_some,List.getElem_idxOf]
  cases e:G8 (pJ c l.length)
  ·obtain⟨j,hj,cj,hb,e2⟩:=a4v e;rw[e2];congr 1;rcases Nat.lt_trichotomy j (l.idxOf a) with g | g | g
   ·exfalso;rw[hc j hj,decide_eq_true_eq,List.getD,List.getElem?_eq_getElem hj,Option.getD_some] at cj;have:=List.not_of_lt_findIdx (p:=(·==a)) g;rw[cj] at this;simp at this
   ·exact g
   rw[hb _ g] at h1;cases h1
  rw[Jb.1 e _ hi] at h1;cases h1
 intro h;refine Jb.2 fun j hj=>?_;rw[hc j hj,decide_eq_false_iff_not,List.getD,List.getElem?_eq_getElem hj,Option.getD_some];rintro rfl;exact h (List.getElem_mem hj)
abbrev w2P (s o:List Int) (l:List V) (a c:Int) (k:Nat) (x:Int) (y:List (Nat×PE bM)) (H:List (PB bM)):aW bM:=⟨[(1,xL 79 l),(2,xi a),(3,.val (.own 2)),(4,.loc 0 0),(8,.loc 1 0),(12,.loc 2 0),(13,xi x)]++y,[[lI s,lI o,.own 3,.own 4,.int .i64 0],d0P,[.int .i64 c,.own k]],H⟩
abbrev HP (pl:List Int) (ko ex:Bool) (x:EN):List (PB bM):=[.gone,.gone,oI ko ex pl,lsV x.1,lsB x.2]
theorem l2P {M:Nat} (hO:Ok M a6Q) {s o:List Int} {l:List V} {a c:Int} {pl:List Int} {ko ex:Bool} {f:List Int->EN->Int×EN} {w:Nat} (hs:BQ s) (hc:CO c s.length) (hp:Ah s pl=true) (hpm:pl.length<=aO) (x:EN) (hl:∀ q x,(f q x).2.1.length<=x.1.length+w∧(f q x).2.2.length+1<=x.2.length+w)
  (hx:x.1.length+(s.getD c.toNat 0).toNat*w<=aO∧x.2.length+(s.getD c.toNat 0).toNat*w<=aO) (Q:EN->Prop) (hQ:Q x) (hQf:∀ q y,Q y->Q (f q y).2)
  (hf:∀ q y,Ah s q=true->y.1.length+w<=aO->y.2.length+w<=aO->Q y->qH X0 Tryz.prog (ApN M) (.fn 83 [] []) [dP s o 0 1,lV l,.int .i64 (IntKind.i64.wrap (a+1)),.own 2] [lsV y.1,lsB y.2,oI true false q] (.bH [dP s o 3 4,.int .i64 (f q y).1]) (HP q true false (f q y).2)) :
  LpB M 83 1 3 (w2P s o l a c 5 0 [] (HP pl ko ex x++[oI false false []])) (.exit 2) (w2P s o l a c 5 (((s.getD c.toNat 0).toNat:Nat):Int) [(70,xl false)] (HP pl ko ex (uq (gPt f c pl) (s.getD c.toNat 0).toNat 0 ([],x)).2++[oI false false (uq (gPt f c pl) (s.getD c.toNat 0).toNat 0 ([],x)).1])):=by
 obtain⟨c1,c2⟩:=hc;have hz:=hs _ (KU (s:=s) (k:=c.toNat) (by omega));have en:(((s.getD c.toNat 0).toNat:Nat):Int)=s.getD c.toNat 0:=by omega
 have qN:=a0f hp;have hic:CO c s.length:=⟨c1,c2⟩;have hip:CO c pl.length:=by rw[qN];exact hic
 have hw:∀ k,k<(s.getD c.toNat 0).toNat->k*w+w<=(s.getD c.toNat 0).toNat*w:=fun k hk=>by
  have:(k+1)*w<=(s.getD c.toNat 0).toNat*w:=Nat.mul_le_mul_right w hk;rw[Nat.add_mul] at this;omega
 refine a0B (σ:=List Int×EN) (N:=(s.getD c.toNat 0).toNat) (g:=gPt f c pl) (s0:=([],x)) (st:=fun k y=>w2P s o l a c 5 k [] (HP pl ko ex y.2++[oI false false y.1])) (fin:=fun y=>w2P s o l a c 5 (((s.getD c.toNat 0).toNat:Nat):Int) [(70,xl false)] (HP pl ko ex y.2++[oI false false y.1])) (fun k y=>(y.1.length=k∧y.2.1.length<=x.1.length+k*w∧y.2.2.length<=x.2.length+k*w)∧Q y.2) (by kernel_rfl) (by unfold aO;omega) ⟨⟨rfl,by simp,by simp⟩,hQ⟩ (fun j y hj hy=>?_) (fun j y hj hy m e p g=>?_) (fun y _=>?_)
 ·obtain⟨⟨h1,h2,h3⟩,hq⟩:=hy;have:=hl (pl.set c.toNat j) y.2;refine⟨⟨by simp[gPt,h1],?_,?_⟩,hQf _ _ hq⟩
  ·simp only[gPt,Nat.add_mul,Nat.one_mul];omega
  ·simp only[gPt,Nat.add_mul,Nat.one_mul];omega
 ·obtain⟨⟨h1,h2,h3⟩,hqy⟩:=hy;have hwj:=hw j hj;have hq:Ah s (pl.set c.toNat j)=true:=a3F hp hic (by rw[<-en] at hz ⊢;exact⟨by omega,by omega⟩);have aaV:=hf (pl.set c.toNat j) y.2 hq (by omega) (by omega) hqy;have t1:decide ((j:Int)<s.getD c.toNat 0)=true:=by rw[decide_eq_true_eq];omega
  unfold gPt at g;generalize f (pl.set c.toNat j) y.2=z at aaV g;obtain⟨v,E',N'⟩:=z;exact round hX hO (by kernel_rfl) (.o hic (.b t1 (.o hpm (.o hip (.fr [3,4,6] aaV (.o (show y.1.length+[v].length<=aO by simp only[List.length_singleton];unfold aO;omega) (.goG [.gc [7,8,10]] g)))))))
 ·have t1:decide ((((s.getD c.toNat 0).toNat:Nat):Int)<s.getD c.toNat 0)=false:=by rw[decide_eq_false_iff_not];omega
  exact round hX hO (by kernel_rfl) (.o hic (.b t1 .ex))
abbrev w3P (s o:List Int) (c:Int) (x:Int) (y:List (Nat×PE bM)) (H:List (PB bM)):aW bM:=⟨[(4,.loc 0 0),(8,.loc 1 0),(12,.loc 2 0),(16,xi x)]++y,[[lI s,lI o,.own 3,.own 4,.int .i64 0],d0P,[.int .i64 c,.own 5]],H⟩
def z3P (s o:List Int) (c:Int) (N:List Br) (H:List (PB bM)):Unit⊕Nat->Ex×aW bM
 | .inl _=>(.exit 4,w3P s o c N.length [(106,xl false)] H)
 | .inr k=>(.ret,⟨[(8,.loc 1 0),(9,xi (k:Int))],[[lI s,lI o,.own 3,.own 4,.int .i64 0],[lI s,lI o,.own 3,.own 4,.int .i64 0],[.int .i64 c,.own 5]],H⟩)
abbrev c3P (N:List Br) (c:Int) (ks:List Int) (k:Nat):Bool:=if ((N.getD k SK).var==c)=true then decide ((N.getD k SK).kids=ks) else false
theorem afW {N:List Br} {c:Int} {ks:List Int} {k:Nat} (_:k<N.length):c3P N c ks k=decide (N.getD k SK=⟨c,ks⟩):=by
 unfold c3P;rcases N.getD k SK with⟨v,l⟩;by_cases h1:v=c
 ·by_cases h2:l=ks<;>simp[h1,h2]
 simp[h1]
theorem l3P {n:Nat} (hO:Ok n a6Q) (s o:List Int) (E:List V) {N:List Br} (c:Int) (ks pl:List Int) (ko ex:Bool) (hl:N.length<=aO) (hk:∀ b∈N,b.kids.length<=aO):LpB n 83 2 3 (w3P s o c 0 [] (HP pl ko ex (E,N)++[oI false false ks])) (z3P s o c N (HP pl ko ex (E,N)++[oI false false ks]) (pJ (c3P N c ks) N.length)).1 (z3P s o c N (HP pl ko ex (E,N)++[oI false false ks]) (pJ (c3P N c ks) N.length)).2:=by
 refine kN (st:=fun i _=>w3P s o c i [] (HP pl ko ex (E,N)++[oI false false ks])) (g:=gS (c3P N c ks)) (out:=z3P s o c N (HP pl ko ex (E,N)++[oI false false ks])) (fun _ _=>True) (by kernel_rfl) hl trivial (fun k u m Cb _ ih=>?_) (fun _ _=>?_)
 ·have h1:=(Vh (d:=SK) (p:=fun b=>b.kids.length<=aO)).2 hk k Cb;unfold gS c3P;cases e:(N.getD k SK).var==c
  ·exact round hX hO (by kernel_rfl) (.b (a2v Cb) (.o (bP Cb) (.b e (.nx (ih _ trivial)))))
  exact round hX hO (by kernel_rfl) (.b (a2v Cb) (.o (bP Cb) (.b e (.o (bP Cb) (.o h1 (.ls (.ou nofun) (.nx (ih _ trivial))))))))
 exact round hX hO (by kernel_rfl) (.b (a5U N.length) (.ou nofun))
theorem ad8 (c:Int) (ks:List Int):Vp ⟨c,ks⟩=ks.all fun x=>x==ks.getD 0 0:=a5p ⟨c,ks⟩
theorem akt {n:Nat} (hO:Ok n a6Q) {s o:List Int} {l:List V} (h:PtP s o l) (pl:List Int) (ko ex:Bool) (hp:Ah s pl=true) (x:EN) (hx:x.1.length+1<=aO):qH X0 Tryz.prog (ApN (n+1)) (.fn 83 [] []) [dP s o 0 1,lV l,.int .i64 o.length,.own 2] [lsV x.1,lsB x.2,oI ko ex pl] (.bH [dP s o 3 4,.int .i64 (IntKind.i64.wrap (-1-(x.1.idxOf (l.getD (Ye s pl).toNat V0):Nat)))]) (HP pl ko ex (Vz x.1 (l.getD (Ye s pl).toNat V0),x.2)):=by
 obtain⟨E,N⟩:=x;have hr:=a1n hp h.vW.sz;have vU:CO (Ye s pl) l.length:=⟨hr.1,by rw[h.len];exact hr.2⟩;have t0:((o.length:Int)==(o.length:Int))=true:=by simp
 have hE:E.length+1<=aO:=hx;have l1:=l1P hO s o (E:=E) N (l.getD (Ye s pl).toNat V0) pl ko ex (by omega);have hs:=a5D (l:=E) (d:=V0) (a:=l.getD (Ye s pl).toNat V0) (c:=c1P E (l.getD (Ye s pl).toNat V0)) (fun _ _=>rfl);have hf:=h.vW;show qH X0 Tryz.prog _ _ _ _ (.bH [_,.int .i64 (IntKind.i64.wrap (-1-(E.idxOf (l.getD (Ye s pl).toNat V0):Nat)))]) (HP pl ko ex (Vz E (l.getD (Ye s pl).toNat V0),N));by_cases c:l.getD (Ye s pl).toNat V0∈E
 ·rw[show Vz E (l.getD (Ye s pl).toNat V0)=E from if_pos c];rw[hs.1 c] at l1;generalize E.idxOf (l.getD (Ye s pl).toNat V0)=j at l1 ⊢;exact qH.gs hX (a2w hX hO (first:=[]) (cap:=[]) (v:=.bH [dP s o 0 1,.int .i64 (IntKind.i64.wrap (-1-(j:Nat)))]) (H1:=[lsV E,lsB N,oI ko ex pl]) (by kernel_rfl) (.b t0 (.o hp (.o hf (.o vU (.w l1 .er)))))) [.mv 0,.mv 1] rfl
 rw[show Vz E (l.getD (Ye s pl).toNat V0)=E++[l.getD (Ye s pl).toNat V0] from if_neg c,List.idxOf_eq_length c];have hi:=hs.2 c;have hz:z1P s o E (l.getD (Ye s pl).toNat V0) [lsV E,lsB N,oI ko ex pl] (pJ (c1P E (l.getD (Ye s pl).toNat V0)) E.length)=(.exit 0,w1P s o (l.getD (Ye s pl).toNat V0) E.length [(33,xl false)] [lsV E,lsB N,oI ko ex pl]):=by
  cases e:pJ (c1P E (l.getD (Ye s pl).toNat V0)) E.length with
  | inl _=>rfl
  | inr _=>rw[e] at hi;cases hi
 rw[hz] at l1;have ew:IntKind.i64.wrap (-1-(E.length:Nat))=IntKind.i64.wrap (0-((E++[l.getD (Ye s pl).toNat V0]).length:Int)):=by
  rw[List.length_append,List.length_singleton];congr 1;push_cast;omega
 rw[ew];exact qH.gs hX (a2w hX hO (first:=[]) (cap:=[]) (v:=.bH [dP s o 4 1,.int .i64 (IntKind.i64.wrap (0-((E++[l.getD (Ye s pl).toNat V0]).length:Int)))]) (H1:=[.gone,lsB N,oI ko ex pl,.list true true 79 [l.getD (Ye s pl).toNat V0],lsV (E++[l.getD (Ye s pl).toNat V0])]) (by kernel_rfl) (.b t0 (.o hp (.o hf (.o vU (.w l1 (.o (show E.length+[l.getD (Ye s pl).toNat V0].length<=aO by simpa using hE) .er))))))) [.mv 1,.gc [4,5]] rfl
theorem aku {n:Nat} (hO:Ok n a6Q) {s o:List Int} {l:List V} {a:Nat} {c:Int} (ha:a<o.length) (hc:o.getD a 0=c) (pl:List Int) (ko ex:Bool) (E0:List V) (N0:List Br) (q:Int) {ks:List Int} {E:List V} {N:List Br} (hk:1<=ks.length∧ks.length<=12) (hN:N.length+1<=aO) (hb:∀ b∈N,b.kids.length<=aO)
  (l2:LpB n 83 1 3 (w2P s o l a c 5 0 [] (HP pl ko ex (E0,N0)++[oI false false []])) (.exit 2) (w2P s o l a c 5 q [(70,xl false)] (HP pl ko ex (E,N)++[oI false false ks]))):qH X0 Tryz.prog (ApN (n+1)) (.fn 83 [] []) [dP s o 0 1,lV l,.int .i64 a,.own 2] [lsV E0,lsB N0,oI ko ex pl] (.bH [dP s o 3 4,.int .i64 (aaH N c ks)]) (HP pl ko ex (E,aaI N c ks)):=by
 have t0:((a:Int)==(o.length:Int))=false:=by simp;omega
 have ia:CO (a:Int) o.length:=bP ha;have hkm:ks.length<=aO:=by unfold aO;omega
 have i0:CO 0 ks.length:=⟨by omega,by omega⟩;unfold aaH aaI;subst hc;cases hf:ks.all fun x=>x==ks.getD 0 0
 ·rw[if_neg (by simp),if_neg (by simp)];have hf2:Vp ⟨o.getD a 0,ks⟩=false:=by rw[ad8];exact hf
  have l3:=l3P hO s o E (o.getD a 0) ks pl ko ex (by omega) hb;have hs:=a5D (l:=N) (d:=SK) (a:=⟨o.getD a 0,ks⟩) (c:=c3P N (o.getD a 0) ks) (fun _ h=>afW h);by_cases hm:(⟨o.getD a 0,ks⟩:Br)∈N
  ·rw[if_pos hm];rw[hs.1 hm] at l3;generalize N.idxOf (⟨o.getD a 0,ks⟩:Br)=j at l3 ⊢;exact qH.gs hX (a2w hX hO (first:=[]) (cap:=[]) (v:=.bH [dP s o 3 4,.int .i64 (j:Nat)]) (H1:=HP pl ko ex (E,N)++[oI false false ks]) (by kernel_rfl) (.b t0 (.o ia (.wG [.mv 0,.mv 1,.a5f 2 1 3] l2 (.o hkm (.b hf2 (.w l3 .er))))))) [.gc [3,4]] rfl
  ·rw[if_neg hm,List.idxOf_eq_length hm];have hi:=hs.2 hm;have hz:z3P s o (o.getD a 0) N (HP pl ko ex (E,N)++[oI false false ks]) (pJ (c3P N (o.getD a 0) ks) N.length)=(.exit 4,w3P s o (o.getD a 0) N.length [(106,xl false)] (HP pl ko ex (E,N)++[oI false false ks])):=by
    cases e:pJ (c3P N (o.getD a 0) ks) N.length with
    | inl _=>rfl
    | inr _=>rw[e] at hi;cases hi
   rw[hz] at l3;have ew:((N.length:Nat):Int)=IntKind.i64.wrap (((N++[(⟨o.getD a 0,ks⟩:Br)]).length:Int)-1):=by
    rw[List.length_append,List.length_singleton,D5 (by unfold aO at hN;omega) (by unfold aO at hN;omega)];omega
   rw[ew];exact qH.gs hX (a2w hX hO (first:=[]) (cap:=[]) (v:=.bH [dP s o 3 7,.int .i64 (IntKind.i64.wrap (((N++[(⟨o.getD a 0,ks⟩:Br)]).length:Int)-1))]) (H1:=[.gone,.gone,oI ko ex pl,lsV E,.gone,.gone,.list true true 102 [⟨o.getD a 0,ks⟩],lsB (N++[(⟨o.getD a 0,ks⟩:Br)])]) (by kernel_rfl) (.b t0 (.o ia (.wG [.mv 0,.mv 1,.a5f 2 1 3] l2 (.o hkm (.b hf2 (.w l3 (.o (show N.length+[(⟨o.getD a 0,ks⟩:Br)].length<=aO by simpa using hN) .er)))))))) [.gc [3,7]] rfl
 ·rw[if_pos rfl,if_pos rfl];have hf2:Vp ⟨o.getD a 0,ks⟩=true:=by rw[ad8];exact hf
  exact qH.gs hX (a2w hX hO (first:=[]) (cap:=[]) (v:=.bH [dP s o 3 4,.int .i64 (ks.getD 0 0)]) (H1:=HP pl ko ex (E,N)++[oI false false ks]) (by kernel_rfl) (.b t0 (.o ia (.wG [.mv 0,.mv 1,.a5f 2 1 3] l2 (.o hkm (.b hf2 (.o i0 .er))))))) [.gc [3,4]] rfl
theorem a8o {s:List Int} {l:List V} (hs:BQ s):∀ (o p:List Int) (x:EN),(∀ c∈o,CO c s.length)->(∀ b∈x.2,b.kids.length<=12)->∀ b∈(Yp s l o p x).2.2,b.kids.length<=12
 | [],p,x,_,hx=>hx
 | c::r,p,x,h,hx=>by
  have:=RH (g:=gPt (Yp s l r) c p) (m:=(s.getD c.toNat 0).toNat) (k:=0) (s:=([],x)) (fun k y=>y.1.length=k∧∀ b∈y.2.2,b.kids.length<=12) ⟨rfl,hx⟩ (fun j y _ _ hy=>⟨by simp[gPt,hy.1],a8o hs r _ y.2 (fun c hc=>h c (by simp[hc])) hy.2⟩);rw[Nat.zero_add] at this;obtain⟨i1,i2⟩:=h c (by simp);have h4:=hs _ (KU (s:=s) (k:=c.toNat) (by omega));simp only[Yp];generalize uq (gPt (Yp s l r) c p) (s.getD c.toNat 0).toNat 0 ([],x)=y at this;intro b hb;unfold aaI at hb;split at hb
  ·exact this.2 b hb
  split at hb
  ·exact this.2 b hb
  rcases List.mem_append.1 hb with hb | hb
  ·exact this.2 b hb
  rw[List.mem_singleton.1 hb];show y.1.length<=12;omega
theorem sPt {n0:Nat} (hO:∀ m,n0<=m->Ok m a6Q) {s o:List Int} {l:List V} (h:PtP s o l):∀ (r:List Int) (a:Nat) (pl:List Int) (ko ex:Bool) (x:EN),o.drop a=r->a<=o.length->Ah s pl=true->x.1.length+wO s r<=aO->x.2.length+wO s r<=aO->(∀ b∈x.2,b.kids.length<=12)->qH X0 Tryz.prog (ApN (n0+r.length+1)) (.fn 83 [] []) [dP s o 0 1,lV l,.int .i64 a,.own 2] [lsV x.1,lsB x.2,oI ko ex pl] (.bH [dP s o 3 4,.int .i64 (Yp s l r pl x).1]) (HP pl ko ex (Yp s l r pl x).2)
 | [],a,pl,ko,ex,x,hr,ha,hp,h1,h2,_=>by
  have:a=o.length:=by
   have:=congrArg List.length hr;rw[List.length_drop,List.length_nil] at this;omega
  subst this;exact akt (hO _ (by omega)) h pl ko ex hp x h1
 | c::r,a,pl,ko,ex,x,hr,ha,hp,h1,h2,hb=>by
  have aN:a<o.length:=by
   have:=congrArg List.length hr;rw[List.length_drop,List.length_cons] at this;omega
  have hd:=List.drop_eq_getElem_cons aN;rw[hr] at hd;obtain⟨hc,hr2⟩:=List.cons.inj hd;have SH:c∈o:=by rw[hc];exact List.getElem_mem aN
  have hic:=h.ord c SH;have hri:∀ c'∈r,CO c' s.length:=fun c' Gi=>h.ord c' (by rw[hr2] at Gi;exact List.mem_of_mem_drop Gi);have hcg:o.getD a 0=c:=by rw[hc];simp[List.getD,List.getElem?_eq_getElem aN]
  have ho6:IntKind.i64.wrap ((a:Int)+1)=((a+1:Nat):Int):=by
   have:=h.afl;unfold aO at this;rw[D5 (by omega) (by omega)];omega
  have hz:=h.vW.sz _ (KU (s:=s) (k:=c.toNat) (by have:=hic.1;have:=hic.2;omega));have hl:=fun q (x:EN)=>a8n (l:=l) h.vW.sz r q x hri;have hp1:=ad6 h.vW.sz hri;simp only[wO] at h1 h2;have hpm:pl.length<=aO:=by rw[a0f hp];exact h.slen
  obtain⟨f1,f2,f3⟩:=abk (f:=Yp s l r) (c:=c) (p:=pl) (n:=(s.getD c.toNat 0).toNat) hl x;have af4:=RH (g:=gPt (Yp s l r) c pl) (m:=(s.getD c.toNat 0).toNat) (k:=0) (s:=([],x)) (fun k y=>∀ b∈y.2.2,b.kids.length<=12) hb (fun j y _ _ hy=>a8o h.vW.sz r _ y.2 hri hy);have hfx:∀ (M:Nat),n0+r.length+1=M->∀ q (y:EN),Ah s q=true->y.1.length+wO s r<=aO->y.2.length+wO s r<=aO->(∀ b∈y.2,b.kids.length<=12)->qH X0 Tryz.prog (ApN M) (.fn 83 [] []) [dP s o 0 1,lV l,.int .i64 (IntKind.i64.wrap ((a:Int)+1)),.own 2] [lsV y.1,lsB y.2,oI true false q] (.bH [dP s o 3 4,.int .i64 (Yp s l r q y).1]) (HP q true false (Yp s l r q y).2):=by
   rintro M rfl q y hq y1 y2 y3;rw[ho6];exact sPt hO h r (a+1) q true false y hr2.symm aN hq y1 y2 y3
  have l2:=l2P (hO (n0+(r.length+1)) (by omega)) (s:=s) (o:=o) (l:=l) (a:=a) (c:=c) (pl:=pl) (ko:=ko) (ex:=ex) (f:=Yp s l r) (w:=wO s r) h.vW.sz hic hp hpm x hl ⟨h1,h2⟩ (fun y=>∀ b∈y.2,b.kids.length<=12) hb (fun q y hy=>a8o h.vW.sz r q y hri hy) (hfx _ (by omega));simp only[Yp];generalize uq (gPt (Yp s l r) c pl) (s.getD c.toNat 0).toNat 0 ([],x)=y at l2 f1 f2 f3 af4;obtain⟨ks,E,N⟩:=y;have f1:ks.length=(s.getD c.toNat 0).toNat:=f1;have f3:N.length+(s.getD c.toNat 0).toNat<=x.2.length+(s.getD c.toNat 0).toNat*wO s r:=f3;exact aku (hO (n0+(r.length+1)) (by omega)) aN hcg pl ko ex x.1 x.2 _ ⟨by omega,by omega⟩ (by omega) (fun b hb=>by have:=af4 b hb;unfold aO;omega) l2
end Go.Proofs.YtjkgcifieggcpaaGreat
namespace Pv
open Go Tw
theorem Good.aic {X:iR} {P:Program} {T:iF} {L:Nat} {α β:Type} {f:FuncId} {a:NV X P α} {r:Ar X P β} {S:α->β} {pre:α->List Prop} {kX a8x ad9:iO X.Γ} (d:Nat) (hg:Good X P T L kX) (hg2:Good X P T L a8x) (hg3:Good X P T L ad9)
  (hf:∀ n,d<=n->(∀ m,n-d<=m->lC X P (Bd P T L m) kX)->(∀ m,n-d<=m->lC X P (Bd P T L m) a8x)->(∀ m,n-d<=m->lC X P (Bd P T L m) ad9)->∀ x,(∀ p∈pre x,p)->Con X P (Bd P T L (n+1)) f (a.put x) (r.put (S x)) []):Good X P T L (dL f a r S pre kX):=by
 obtain⟨N2,hN2⟩:=hg2;obtain⟨N3,hN3⟩:=hg3;obtain⟨M,hM⟩:=hg;refine⟨M+N2+N3+d+1,fun n hn=>?_⟩;obtain⟨k,rfl⟩:∃ k,n=k+1:=⟨n-1,by omega⟩;intro g vs v ext ps ho hp;unfold dL at ho;split at ho
 ·rename_i e;have e:=Nat.eq_of_beq_eq_true e;subst e;split at ho
  ·rename_i x hx;cases ho;intro A h first args cap hup hv
   exact hf k (by omega) (fun m hm=>hM m (by omega)) (fun m hm=>hN2 m (by omega)) (fun m hm=>hN3 m (by omega)) x hp A h first args cap hup (a.ok hx hv)
  ·exact hM (k+1) (by omega) g vs v ext ps ho hp
 ·exact hM (k+1) (by omega) g vs v ext ps ho hp
end Pv
namespace Go.Proofs.YtjkgcifieggcpaaGreat
open Go Tw Pv gq
theorem a3K:∀ {s:List Int},BQ s->Ah s (List.replicate s.length 0)=true
 | [],_=>rfl
 | a::s,h=>by
  have:=h a (List.mem_cons_self ..);simp only[List.length_cons,List.replicate_succ,Ah,Bool.and_eq_true,decide_eq_true_eq];exact⟨⟨Int.le_refl _,by omega⟩,a3K h.tail⟩
theorem akx {n0:Nat} (hO:∀ m,n0<=m->Ok m a6Q) {s o:List Int} {l:List V} (h:PtP s o l) (hw:wO s o<=aO) {k1 e1 k2 e2:Bool}:qH X0 Tryz.prog (ApN (n0+o.length+1)) (.fn 83 [] []) [.agg [.own 0,.own 1,.nil .slc,.nil .slc,.int .i64 0],lV l,.int .i64 0,.own 2] [oI k1 e1 s,oI k2 e2 o,oI true true (List.replicate s.length 0)] (.bH [dP s o 5 6,.int .i64 (Yp s l o (List.replicate s.length 0) ([],[])).1]) [.gone,.gone,oI true true (List.replicate s.length 0),.gone,.gone,lsV (aaJ s o l).ends,lsB (aaJ s o l).nodes]:=by
 have hb:=sPt hO h o 0 (List.replicate s.length 0) true true ([],[]) rfl (Nat.zero_le _) (a3K h.vW.sz) (by simpa using hw) (by simpa using hw) (by simp);unfold aaJ;generalize Yp s l o (List.replicate s.length 0) ([],[])=z at hb ⊢;obtain⟨q,E,N⟩:=z;have h1:=qH.frame hX (ks:=[3,4,2]) (H':=[.gone,.gone,oI true true (List.replicate s.length 0),lsV [],lsB []]) (Hp:=[lsV [],lsB [],oI true true (List.replicate s.length 0)]) (LH:=[.gone,.gone,oI true true (List.replicate s.length 0),lsV E,lsB N]) (v':=.bH [dP s o 5 6,.int .i64 q]) (fv':=.fn 83 [] []) (xs':=[.agg ([lI s,lI o]++[.own 3,.own 4,.int .i64 0]),lV l,.int .i64 0,.own 2]) hb (by decide) rfl rfl rfl rfl rfl rfl rfl;have h2:=qH.pre hX (H:=[.gone,.gone,oI true true (List.replicate s.length 0)]) (cs:=[lI s,lI o]++[.nil .slc,.nil .slc,.int .i64 0]) [.a5f 0 2 79,.a5f 0 3 102] h1 rfl;exact qH.fz hX (H:=[oI k1 e1 s,oI k2 e2 o,oI true true (List.replicate s.length 0)]) (cs:=[.own 0,.own 1]) [0,1] h2 rfl (fun i hi=>by simpa[oW.mZ,oW] using hi)
theorem aky:Gd aaK:=aib.deep 7 fun n hn hO p hp=>by
 obtain⟨s,o,l⟩:=p;have h:PtP s o l:=hp _ (.head _);have h6:o.length<=6:=hp _ (.tail _ (.head _));have hw:wO s o<=aO:=hp _ (.tail _ (.tail _ (.head _)));have hs:=akx (n0:=n-(o.length+1)) (fun m hm=>hO m (by omega)) h hw (k1:=true) (e1:=false) (k2:=true) (e2:=false);rw[show n-(o.length+1)+o.length+1=n by omega] at hs;have hsl:=h.slen;have hol:=h.afl;show Con _ _ _ _ _ (dA.put (aaJ s o l)) _;have e:aaJ s o l=⟨s,o,(aaJ s o l).ends,(aaJ s o l).nodes,(aaJ s o l).root⟩:=rfl;have er:(Yp s l o (List.replicate s.length 0) ([],[])).1=(aaJ s o l).root:=rfl;rw[er] at hs;generalize aaJ s o l=d at hs e;obtain⟨s',o',E,N,q⟩:=d;injection e with e1 e2;subst e1 e2;have i1:(s'.length:Int)=s'.length:=rfl;have i2:(0:Int)<=s'.length:=by omega
 have i3:(s'.length:Int)<=(aO:Int):=by omega
 exact dS hX (hO n (by omega)) (by kernel_rfl) (.o hsl (.o hol (.o i1 (.o i2 (.o i3 (.fr [0,1,2] hs .rr))))))
open Go Tw Pv gq
theorem ada {a b:List Int} (ha:a.length<=12) (he:a.length=b.length) (h:a2G a=a2G b):a=b:=by
 have e:∀ l:List Int,l.length<=12->(a2G l).take l.length=l:=fun l hl=>by
  unfold a2G;rw[List.take_take,Nat.min_eq_left hl,List.take_left]
 rw[<-e a ha,<-e b (by omega),h,he]
def NOk (s:List Int) (N:List Br):Prop:=∀ b∈N,CO b.var s.length∧(b.kids.length:Int)=s.getD b.var.toNat 0
theorem adb {s:List Int} (hs:BQ s) {N:List Br} (h:NOk s N) {c:Int} {ks:List Int} (hc:CO c s.length) (hk:(ks.length:Int)=s.getD c.toNat 0) {b:Br} (hb:b∈N):kyB b=a2H c ks↔b=⟨c,ks⟩:=by
 constructor
 ·intro e;obtain⟨v,l⟩:=b;have e1:v=c:=congrArg Prod.fst e;subst e1;have e2:a2G l=a2G ks:=congrArg (fun x:Ky=>x.2.1) e;have hl:=(h _ hb).2;have hl:(l.length:Int)=s.getD v.toNat 0:=hl;have hz:=hs _ (KU (s:=s) (k:=v.toNat) (by have:=hc.1;have:=hc.2;omega));rw[ada (by omega) (by omega) e2]
 rintro rfl;rfl
theorem a8Y {s:List Int} (hs:BQ s) {N:List Br} (h:NOk s N) {c:Int} {ks:List Int} (hc:CO c s.length) (hk:(ks.length:Int)=s.getD c.toNat 0):Qe N c ks=aaH N c ks∧Yn N c ks=aaI N c ks:=by
 have hm:a2H c ks∈N.map kyB↔(⟨c,ks⟩:Br)∈N:=by
  rw[List.mem_map];constructor
  ·rintro⟨b,hb,e⟩;rw[(adb hs h hc hk hb).1 e] at hb;exact hb
  intro hb;exact⟨_,hb,rfl⟩
 have hi:(N.map kyB).idxOf (a2H c ks)=N.idxOf (⟨c,ks⟩:Br):=by
  clear hm
  induction N with
  | nil=>rfl
  | cons b N ih=>
   have e:=adb hs h hc hk (b:=b) (by simp);rw[List.map_cons,List.idxOf_cons,List.idxOf_cons,ih fun b hb=>h b (by simp[hb])];have:(kyB b==a2H c ks)=(b==(⟨c,ks⟩:Br)):=by rw[Bool.eq_iff_iff,beq_iff_eq,beq_iff_eq];exact e
   rw[this]
 unfold Qe aaH Yn aaI;rw[hi];refine⟨rfl,?_⟩;split
 ·rfl
 by_cases g:a2H c ks∈N.map kyB
 ·rw[if_pos g,if_pos (hm.1 g)]
 rw[if_neg g,if_neg fun x=>g (hm.2 x)]
open Go Tw Pv gq
theorem aeo {s:List Int} {a b:List Int} (h:a.Perm b):wO s a=wO s b:=by
 induction h with
 | nil=>rfl
 | cons x _ ih=>simp only[wO,ih]
 | swap x y l=>simp only[wO];rw[<-Nat.mul_assoc,<-Nat.mul_assoc,Nat.mul_comm (s.getD y.toNat 0).toNat]
 | trans _ _ i1 i2=>rw[i1,i2]
theorem a8Z {s:List Int} (hs:BQ s):∀ (m k:Nat),k+m=s.length->(wO s ((List.range' k m).map fun (j:Nat)=>(j:Int)):Int)=dD (s.drop k)
 | 0,k,h=>by rw[List.drop_of_length_le (by omega)];rfl
 | m+1,k,h=>by
  have hk:k<s.length:=by omega
  have hz:=hs _ (KU (s:=s) (k:=k) hk);rw[List.range'_succ,List.map_cons,wO,a4M hk,Int.natCast_mul,a8Z hs m (k+1) (by omega),Int.toNat_natCast,Int.toNat_of_nonneg (by omega)]
theorem a9I {s o:List Int} (hs:BQ s) (h:ES s.length o=true):(wO s o:Int)=dD s:=by
 have h':=h;unfold ES at h';rw[decide_eq_true_eq] at h';have hi:=a7L s.length;have nP:=hi;unfold ES at nP;rw[decide_eq_true_eq] at nP;have hp:o.Perm (a0L s.length):=(List.perm_ext_iff_of_nodup h'.2.2 nP.2.2).2 fun a=>⟨fun ha=>a0j hi (h'.2.1 a ha),fun ha=>a0j h (nP.2.1 a ha)⟩;rw[aeo hp];have:=a8Z hs s.length 0 (by omega);rw[<-List.range_eq_range'] at this;exact this
open Go Tw Pv gq
theorem To.det {d:Dg} {q:List Int} {r:Int} {a b:V} (h:To d q r a):To d q r b->a=b:=by
 induction h with
 | fin hr=>intro g;cases g with
  | fin _=>rfl
  | step h _=>omega
 | step hr _ ih=>intro g;cases g with
  | fin h=>omega
  | step _ t=>exact ih t
theorem a1I (E:List V) (v:V):E <+: Vz E v:=by
 unfold Vz;split
 ·exact List.prefix_rfl
 exact List.prefix_append _ _
theorem a3L (N:List Br) (c:Int) (ks:List Int):N <+: aaI N c ks:=by
 unfold aaI;split
 ·exact List.prefix_rfl
 split
 ·exact List.prefix_rfl
 exact List.prefix_append _ _
theorem a5H {s:List Int} {l:List V}:∀ (r p:List Int) (x:EN),Pre x (Yp s l r p x).2
 | [],p,x=>⟨a1I _ _,List.prefix_rfl⟩
 | c::r,p,x=>by
  have:=RH (g:=gPt (Yp s l r) c p) (m:=(s.getD c.toNat 0).toNat) (k:=0) (s:=([],x)) (fun _ y=>Pre x y.2) Pre.rfl (fun j y _ _ hy=>hy.trans (a5H r _ y.2));exact⟨this.1,this.2.trans (a3L _ _ _)⟩
theorem a99 {k:Nat} (hk:k<2^61):IntKind.i64.wrap (-1-(k:Int))=-1-(k:Int)∧BU (-1-(k:Int))=(k:Int):=by
 refine⟨D5 (by omega) (by omega),?_⟩;unfold BU;rw[D5 (by omega) (by omega)];omega
theorem a7V (E:List V) (v:V):E.idxOf v<(Vz E v).length∧(Vz E v).getD (E.idxOf v) V0=v:=by
 unfold Vz;split
 ·rename_i h;have:=List.idxOf_lt_length_iff.2 h;exact⟨this,by simp[List.getD,List.getElem?_eq_getElem this]⟩
 rename_i h;rw[List.idxOf_eq_length h];exact⟨by simp,by simp[List.getD]⟩
theorem a8p {N:List Br} {c:Int} {ks:List Int} (hf:¬(ks.all fun x=>x==ks.getD 0 0)=true):N.idxOf (⟨c,ks⟩:Br)<(aaI N c ks).length∧(aaI N c ks).getD (N.idxOf (⟨c,ks⟩:Br)) SK=⟨c,ks⟩:=by
 unfold aaI;rw[if_neg hf];split
 ·rename_i h;have:=List.idxOf_lt_length_iff.2 h;exact⟨this,by simp[List.getD,List.getElem?_eq_getElem this]⟩
 rename_i h;rw[List.idxOf_eq_length h];exact⟨by simp,by simp[List.getD]⟩
theorem afX {s q p:List Int} (hq:q.length=s.length) (hp:p.length=s.length) (h:Agr s [] q p):q=p:=(a3E (d:=(0:Int)) (by omega)).2 fun k hk=>h k (by omega) (by simp)
theorem ac2 {ks:List Int} (h:(ks.all fun x=>x==ks.getD 0 0)=true) {j:Nat} (hj:j<ks.length):ks.getD j 0=ks.getD 0 0:=by
 rw[List.all_eq_true] at h;have:=h (ks.getD j 0) (KU hj);simpa using this
theorem af6 {s:List Int} {l:List V} (hs:BQ s):∀ (r p:List Int) (x:EN),(∀ c∈r,CO c s.length)->p.length=s.length->∀ d:Dg,d.ends.length<2^61->(Yp s l r p x).2.1 <+: d.ends->(Yp s l r p x).2.2 <+: d.nodes->∀ q,Ah s q=true->Agr s r q p->To d q (Yp s l r p x).1 (l.getD (Ye s q).toNat V0)
 | [],p,x,_,hp,d,hd,h1,_,q,hq,ha=>by
  have e:=afX (a0f hq) hp ha;subst e;obtain⟨g1,g2⟩:=a7V x.1 (l.getD (Ye s q).toNat V0);have h1:Vz x.1 (l.getD (Ye s q).toNat V0) <+: d.ends:=h1;have aN:x.1.idxOf (l.getD (Ye s q).toNat V0)<2^61:=by have:=h1.length_le;omega
  obtain⟨e1,e2⟩:=a99 aN;show To d q (IntKind.i64.wrap (-1-(x.1.idxOf (l.getD (Ye s q).toNat V0):Nat))) _;rw[e1];have:=To.fin (d:=d) (q:=q) (r:=-1-((x.1.idxOf (l.getD (Ye s q).toNat V0):Nat):Int)) (by omega);rw[e2,Int.toNat_natCast,VF h1 g1,g2] at this;exact this
 | c::r,p,x,hr,hp,d,hd,h1,h2,q,hq,ha=>by
  have hc:=hr c (by simp);have hri:∀ c'∈r,CO c' s.length:=fun c' h=>hr c' (by simp[h]);have Qx:=(KT.1 hq).2 c.toNat (by have:=hc.1;have:=hc.2;omega);have inv:=RH (g:=gPt (Yp s l r) c p) (m:=(s.getD c.toNat 0).toNat) (k:=0) (s:=([],x)) (fun k y=>y.1.length=k∧∀ j:Nat,j<k->y.2.1 <+: d.ends->y.2.2 <+: d.nodes->∀ q,Ah s q=true->Agr s r q (p.set c.toNat j)->To d q (y.1.getD j 0) (l.getD (Ye s q).toNat V0)) ⟨rfl,fun j hj=>by omega⟩ (fun j y _ hj hy=>by
   obtain⟨y1,y2⟩:=hy;refine⟨by simp[gPt,y1],fun j' BJ g1 g2 q hq ha=>?_⟩;have a4A:=a5H (s:=s) (l:=l) r (p.set c.toNat j) y.2;by_cases e:j'<j
   ·have:(gPt (Yp s l r) c p j y).1.getD j' 0=y.1.getD j' 0:=by
     show (y.1++_).getD j' 0=_;simp[List.getD,List.getElem?_append_left (show j'<y.1.length by omega)]
    rw[this];exact y2 j' e (a4A.1.trans g1) (a4A.2.trans g2) q hq ha
   have e:j'=j:=(by omega);subst e;have:(gPt (Yp s l r) c p j' y).1.getD j' 0=(Yp s l r (p.set c.toNat j') y.2).1:=by
    show (y.1++[_]).getD j' 0=_;simp[List.getD,<-y1]
   rw[this];exact af6 hs r _ y.2 hri (by simp[hp]) d hd g1 g2 q hq ha)
  rw[Nat.zero_add] at inv;simp only[Yp] at h1 h2 ⊢;generalize uq (gPt (Yp s l r) c p) (s.getD c.toNat 0).toNat 0 ([],x)=y at inv h1 h2;obtain⟨ks,E,N⟩:=y;obtain⟨hlen,inv⟩:=inv;have hlen:ks.length=(s.getD c.toNat 0).toNat:=hlen;have h2:aaI N c ks <+: d.nodes:=h2;have hj:(q.getD c.toNat 0).toNat<(s.getD c.toNat 0).toNat:=by omega
  have Jm:((q.getD c.toNat 0).toNat:Int)=q.getD c.toNat 0:=by omega
  have t:=inv (q.getD c.toNat 0).toNat hj h1 ((a3L N c ks).trans h2) q hq (by rw[Jm];exact Agr.set hc hp ha);have t:To d q (ks.getD (q.getD c.toNat 0).toNat 0) (l.getD (Ye s q).toNat V0):=t;show To d q (aaH N c ks) _;by_cases hf:(ks.all fun x=>x==ks.getD 0 0)=true
  ·rw[show aaH N c ks=ks.getD 0 0 from if_pos hf];rw[ac2 hf (by omega)] at t;exact t
  rw[show aaH N c ks=(N.idxOf (⟨c,ks⟩:Br):Nat) from if_neg hf];obtain⟨g1,g2⟩:=a8p (N:=N) (c:=c) hf;have en:iG d ((N.idxOf (⟨c,ks⟩:Br):Nat):Int)=⟨c,ks⟩:=by
   unfold iG;rw[Int.toNat_natCast,VF h2 g1,g2]
  refine .step (by omega) ?_;rw[en];exact t
open Go Tw Pv gq
structure PtV (s o:List Int) (x:EN):Prop where
 var:∀ i,i<x.2.length->CO (x.2.getD i SK).var s.length
 ksz:∀ i,i<x.2.length->((x.2.getD i SK).kids.length:Int)=s.getD (x.2.getD i SK).var.toNat 0
 kid:∀ i,i<x.2.length->∀ k,k<(x.2.getD i SK).kids.length->a2K o x ((x.2.getD i SK).kids.getD k 0) i (o.idxOf (x.2.getD i SK).var+1)
theorem ade {s o:List Int} {l:List V} (hs:BQ s) (ho:∀ c∈o,CO c s.length) (hn:o.Nodup):∀ (r:List Int) (a:Nat) (p:List Int) (x:EN),o.drop a=r->a<=o.length->PtV s o x->(Yp s l r p x).2.1.length<2^61->PtV s o (Yp s l r p x).2∧a2K o (Yp s l r p x).2 (Yp s l r p x).1 (Yp s l r p x).2.2.length a
 | [],a,p,x,hr,ha,hx,hE=>by
  have:a=o.length:=by
   have:=congrArg List.length hr;rw[List.length_drop,List.length_nil] at this;omega
  subst this;obtain⟨g1,g2⟩:=a7V x.1 (l.getD (Ye s p).toNat V0);have hE:(Vz x.1 (l.getD (Ye s p).toNat V0)).length<2^61:=hE;obtain⟨e1,e2⟩:=a99 (k:=x.1.idxOf (l.getD (Ye s p).toNat V0)) (by omega);have hp:Pre x (Vz x.1 (l.getD (Ye s p).toNat V0),x.2):=⟨a1I _ _,List.prefix_rfl⟩;refine⟨⟨hx.var,hx.ksz,fun i hi k hk=>(hx.kid i hi k hk).mono hp (Nat.le_refl _) (Nat.le_of_lt hi) (Nat.le_refl _)⟩,?_⟩;show a2K o _ (IntKind.i64.wrap (-1-(x.1.idxOf (l.getD (Ye s p).toNat V0):Nat))) _ _;rw[e1];refine⟨fun _=>by rw[e2];exact⟨by omega,by show _<((Vz x.1 (l.getD (Ye s p).toNat V0)).length:Int);omega⟩,by omega,?_⟩;unfold rkN;rw[if_pos (by omega)];exact Nat.le_refl _
 | c::r,a,p,x,hr,ha,hx,hE=>by
  have aN:a<o.length:=by
   have:=congrArg List.length hr;rw[List.length_drop,List.length_cons] at this;omega
  have hd:=List.drop_eq_getElem_cons aN;rw[hr] at hd;obtain⟨hc,hr2⟩:=List.cons.inj hd;have SH:c∈o:=by rw[hc];exact List.getElem_mem aN
  have hic:=ho c SH;have hia:o.idxOf c=a:=by rw[hc];exact hn.idxOf_getElem a aN
  have hz:=hs _ (KU (s:=s) (k:=c.toNat) (by have:=hic.1;have:=hic.2;omega));have mono:=fun (n:Nat) (m:Nat) (y:List Int×EN)=>(RH (g:=gPt (Yp s l r) c p) (m:=m) (k:=n) (s:=y) (fun _ z=>Pre y.2 z.2) Pre.rfl (fun j z _ _ hz=>hz.trans (a5H r _ z.2)));have hEf:(uq (gPt (Yp s l r) c p) (s.getD c.toNat 0).toNat 0 ([],x)).2.1.length<2^61:=hE;have inv:=RH (g:=gPt (Yp s l r) c p) (m:=(s.getD c.toNat 0).toNat) (k:=0) (s:=([],x)) (fun k y=>y.1.length=k∧(y.2.1.length<2^61->PtV s o y.2∧∀ j:Nat,j<k->a2K o y.2 (y.1.getD j 0) y.2.2.length (a+1))) ⟨rfl,fun _=>⟨hx,fun j hj=>by omega⟩⟩ (fun j y _ hj hy=>by
   obtain⟨y1,y2⟩:=hy;refine⟨by simp[gPt,y1],fun hE=>?_⟩;have a4A:=a5H (s:=s) (l:=l) r (p.set c.toNat j) y.2;have hE:(Yp s l r (p.set c.toNat j) y.2).2.1.length<2^61:=hE;obtain⟨v1,v2⟩:=y2 (by have:=a4A.1.length_le;omega);obtain⟨w1,w2⟩:=ade hs ho hn r (a+1) (p.set c.toNat j) y.2 hr2.symm aN v1 hE;refine⟨w1,fun j' BJ=>?_⟩;by_cases e:j'<j
   ·have:(gPt (Yp s l r) c p j y).1.getD j' 0=y.1.getD j' 0:=by
     show (y.1++_).getD j' 0=_;simp[List.getD,List.getElem?_append_left (show j'<y.1.length by omega)]
    rw[this];exact (v2 j' e).mono a4A a4A.2.length_le (Nat.le_refl _) (Nat.le_refl _)
   have e:j'=j:=(by omega);subst e;have:(gPt (Yp s l r) c p j' y).1.getD j' 0=(Yp s l r (p.set c.toNat j') y.2).1:=by
    show (y.1++[_]).getD j' 0=_;simp[List.getD,<-y1]
   rw[this];exact w2)
  rw[Nat.zero_add] at inv;simp only[Yp];generalize uq (gPt (Yp s l r) c p) (s.getD c.toNat 0).toNat 0 ([],x)=y at inv hEf;obtain⟨ks,E,N⟩:=y;obtain⟨hlen,inv⟩:=inv;obtain⟨i1,i2⟩:=inv hEf;have hlen:ks.length=(s.getD c.toNat 0).toNat:=hlen;have i2:∀ j:Nat,j<(s.getD c.toNat 0).toNat->a2K o (E,N) (ks.getD j 0) N.length (a+1):=i2;have a4A:Pre (E,N) (E,aaI N c ks):=⟨List.prefix_rfl,a3L N c ks⟩;show PtV s o (E,aaI N c ks)∧a2K o (E,aaI N c ks) (aaH N c ks) (aaI N c ks).length a;by_cases hf:(ks.all fun x=>x==ks.getD 0 0)=true
  ·rw[show aaH N c ks=ks.getD 0 0 from if_pos hf,show aaI N c ks=N from if_pos hf];exact⟨i1,(i2 0 (by omega)).mono Pre.rfl (Nat.le_refl _) (Nat.le_refl _) (by omega)⟩
  obtain⟨g1,g2⟩:=a8p (N:=N) (c:=c) hf;rw[show aaH N c ks=(N.idxOf (⟨c,ks⟩:Br):Nat) from if_neg hf];have hrk:a<=rkN o (aaI N c ks) ((N.idxOf (⟨c,ks⟩:Br):Nat):Int):=by
   unfold rkN;rw[if_neg (by omega),Int.toNat_natCast,g2];show a<=o.idxOf c;omega
  refine⟨?_,⟨fun h=>by omega,by omega,hrk⟩⟩;by_cases hm:(⟨c,ks⟩:Br)∈N
  ·rw[show aaI N c ks=N by unfold aaI;rw[if_neg hf,if_pos hm]];exact i1
  have eN:aaI N c ks=N++[⟨c,ks⟩]:=by unfold aaI;rw[if_neg hf,if_neg hm]
  rw[eN] at a4A ⊢;have hold:∀ i,i<N.length->(N++[(⟨c,ks⟩:Br)]).getD i SK=N.getD i SK:=fun i hi=>VF (List.prefix_append _ _) hi;have dh:(N++[(⟨c,ks⟩:Br)]).getD N.length SK=⟨c,ks⟩:=by simp[List.getD]
  have yt:∀ i,i<(N++[(⟨c,ks⟩:Br)]).length->i<N.length∨i=N.length:=fun i hi=>by
   rw[List.length_append,List.length_singleton] at hi;omega
  refine⟨fun i hi=>?_,fun i hi=>?_,fun i hi k hk=>?_⟩
  ·show CO ((N++[(⟨c,ks⟩:Br)]).getD i SK).var s.length;rcases yt i hi with h | rfl
   ·rw[hold i h];exact i1.var i h
   rw[dh];exact hic
  ·show (((N++[(⟨c,ks⟩:Br)]).getD i SK).kids.length:Int)=s.getD ((N++[(⟨c,ks⟩:Br)]).getD i SK).var.toNat 0;rcases yt i hi with h | rfl
   ·rw[hold i h];exact i1.ksz i h
   rw[dh];show (ks.length:Int)=s.getD c.toNat 0;omega
  have hk:k<((N++[(⟨c,ks⟩:Br)]).getD i SK).kids.length:=hk;show a2K o (E,N++[(⟨c,ks⟩:Br)]) (((N++[(⟨c,ks⟩:Br)]).getD i SK).kids.getD k 0) i (o.idxOf ((N++[(⟨c,ks⟩:Br)]).getD i SK).var+1);rcases yt i hi with h | rfl
  ·rw[hold i h] at hk ⊢;exact (i1.kid i h k hk).mono a4A (Nat.le_refl _) (Nat.le_of_lt h) (Nat.le_refl _)
  rw[dh] at hk ⊢;have hk:k<ks.length:=hk;exact (i2 k (by omega)).mono a4A (Nat.le_refl _) (Nat.le_refl _) (by show o.idxOf c+1<=a+1;omega)
open Go Tw Pv gq
theorem a4E (d:Dg) (v:Int):O7 d v=(rkN d.order d.nodes v:Int):=by
 unfold O7 rkN;by_cases c:v<0
 ·rw[if_pos (by simpa using c),if_pos c]
 rw[if_neg (by simpa using c),if_neg c];have hs:=a5D (l:=d.order) (d:=0) (a:=(iG d v).var) (c:=a0N d v) (fun k _=>by unfold a0N;rw[Bool.eq_iff_iff];simp);by_cases hm:(iG d v).var∈d.order
 ·rw[hs.1 hm];rfl
 rw[if_pos (hs.2 hm),List.idxOf_eq_length hm]
theorem ac3 {d:Dg} (hm:d.ends.length<=aO) (hf:(jy d.sizes d.order != 0)=false) (hv:∀ v∈d.ends,vOk v=true) (hn:d.nodes.length<=6000) (hp:PtV d.sizes d.order (d.ends,d.nodes)) (hr:a2K d.order (d.ends,d.nodes) d.root d.nodes.length 0):iE d=0:=by
 obtain⟨vW,a5I⟩:=O6.1 (show jy d.sizes d.order=0 by simpa using hf);have aie:∀ (v:Int) (b a:Nat),a2K d.order (d.ends,d.nodes) v b a->yZ d v b=true:=fun v b a h=>by
  unfold yZ;split
  ·simpa using h.2.1
  rename_i c;have c:v<0:=by simpa using c
  have:=h.1 c;have e:IntKind.i64.wrap ((d.ends.length:Int)-1)=(d.ends.length:Int)-1:=by unfold aO at hm;rw[D5 (by omega) (by omega)]
  rw[Jd,e];have h2:=this.2;have h2:BU v<(d.ends.length:Int):=h2;exact⟨this.1,by show BU v<=_;omega⟩
 have hl:vN d=true:=by
  unfold vN;rw[if_pos (Jb.2 fun j hj=>by
   rw[cLe,hv _ (by simp[List.getD,List.getElem?_eq_getElem hj])];rfl),if_pos (Jb.2 fun i hi=>?_)]
  ·exact aie _ _ _ hr
  have h1:=hp.var i hi;have h2:=hp.ksz i hi;have h3:=hp.kid i hi;have h1:CO (D6 d i).var d.sizes.length:=h1;have h2:((D6 d i).kids.length:Int)=d.sizes.getD (D6 d i).var.toNat 0:=h2;have e:xw d.sizes=(d.sizes.length:Int)-1:=by
   have:=vW.len;unfold xw;rw[D5 (by omega) (by omega)]
  unfold cLn;rw[if_neg,if_neg (by rw[h2];simp),if_pos]
  ·refine Jb.2 fun k hk=>?_;have h4:=h3 k hk;unfold cLk;rw[if_neg (by rw[aie _ _ _ h4];simp),decide_eq_false_iff_not,a4E,a4E];have h5:=h4.2.2;have e6:rkN d.order d.nodes ((i:Nat):Int)=d.order.idxOf (D6 d i).var:=by unfold rkN;rw[if_neg (by omega),Int.toNat_natCast]
   rw[e6];have h5:d.order.idxOf (D6 d i).var+1<=rkN d.order d.nodes ((d.nodes.getD i SK).kids.getD k 0):=h5;omega
  have:yY (D6 d i).var 0 (xw d.sizes)=true:=by rw[Jd,e];have:=h1.1;have:=h1.2;exact⟨by omega,by omega⟩
  rw[this];simp
 unfold iE;rw[if_neg (by rw[hf];simp),if_neg (by rw[decide_eq_true_eq];omega),if_neg (by rw[hl];simp)]
theorem a9a {s:List Int} {l:List V}:∀ (r p:List Int) (x:EN),(∀ q,l.getD (Ye s q).toNat V0∈l∨True)->(∀ q,Ah s q=true->l.getD (Ye s q).toNat V0∈l)->Ah s p=true->(∀ c∈r,CO c s.length)->BQ s->(∀ v∈x.1,v∈l)->∀ v∈(Yp s l r p x).2.1,v∈l
 | [],p,x,_,h,hp,_,_,hx,v,hv=>by
  have hv:v∈Vz x.1 (l.getD (Ye s p).toNat V0):=hv;unfold Vz at hv;split at hv
  ·exact hx v hv
  rcases List.mem_append.1 hv with hv | hv
  ·exact hx v hv
  rw[List.mem_singleton.1 hv];exact h p hp
 | c::r,p,x,h0,h,hp,hr,hs,hx,v,hv=>by
  have hc:=hr c (by simp);have hz:=hs _ (KU (s:=s) (k:=c.toNat) (by have:=hc.1;have:=hc.2;omega));have:=RH (g:=gPt (Yp s l r) c p) (m:=(s.getD c.toNat 0).toNat) (k:=0) (s:=([],x)) (fun _ y=>∀ v∈y.2.1,v∈l) hx (fun j y _ hj hy=>a9a r _ y.2 h0 h (a3F hp hc ⟨by omega,by omega⟩) (fun c hc=>hr c (by simp[hc])) hs hy);exact this v hv
theorem a3y {s o:List Int} {l:List V} (h:OfP s o l) (hv:∀ v∈l,vOk v=true):iE (aaJ s o l)=0∧(aaJ s o l).ends.length<=2000∧(∀ v∈(aaJ s o l).ends,v∈l)∧PtV s o ((aaJ s o l).ends,(aaJ s o l).nodes)∧a2K o ((aaJ s o l).ends,(aaJ s o l).nodes) (aaJ s o l).root (aaJ s o l).nodes.length 0:=by
 obtain⟨hP,hn,ho⟩:=h.p;have hz:=a3K h.vW.sz;have hm:=h.vW.many;have hlen:=a8n (l:=l) h.vW.sz o (List.replicate s.length 0) ([],[]) hP.ord;have hw:=a9I h.vW.sz h.ord;have a1k:∀ q,Ah s q=true->l.getD (Ye s q).toNat V0∈l:=fun q hq=>by
  have:=a1n hq h.vW.sz;have:=h.len;have aN:(Ye s q).toNat<l.length:=by omega
  simp[List.getD,List.getElem?_eq_getElem aN]
 have ji:=a9a o (List.replicate s.length 0) ([],[]) (fun _=>.inr trivial) a1k hz hP.ord h.vW.sz (by simp);have a9n:=ade (l:=l) h.vW.sz hP.ord hn o 0 (List.replicate s.length 0) ([],[]) rfl (Nat.zero_le _) ⟨fun i hi=>(by simp at hi),fun i hi=>(by simp at hi),fun i hi=>(by simp at hi)⟩ (by have:=hlen.1;simp at this;omega);have h1:(aaJ s o l).ends.length<=0+wO s o:=hlen.1;have h2:(aaJ s o l).nodes.length+1<=0+wO s o:=hlen.2;refine⟨ac3 (by unfold aO;omega) ?_ (fun v hv2=>hv v (ji v hv2)) (by omega) a9n.1 a9n.2,by omega,ji,a9n.1,a9n.2⟩;have:jy s o=0:=O6.2 ⟨h.vW,h.ord⟩;show (jy s o != 0)=false;rw[this];rfl
theorem aep {s o:List Int} {l:List V} (h:OfP s o l) (hv:∀ v∈l,vOk v=true) {q:List Int} (hq:Ah s q=true):a6v (aaJ s o l) q=l.getD (Ye s q).toNat V0:=by
 obtain⟨hP,hn,ho⟩:=h.p;obtain⟨h1,h2,h3,h4,h5⟩:=a3y h hv;have ht:=wK (d:=aaJ s o l) hP.afl (by unfold aO;omega) (by rw[h1];rfl);have hto:=af6 (l:=l) h.vW.sz o (List.replicate s.length 0) ([],[]) hP.ord (by simp) (aaJ s o l) (by omega) List.prefix_rfl List.prefix_rfl q hq (fun k hk hno=>by
  exfalso;exact hno (a0j h.ord ⟨by omega,by omega⟩))
 have hr:=ht.1.root;exact (hto.at_ ht.1 hq 6001 (by have:=hr.1;have:=ht.2;show (aaJ s o l).root<_;omega) hr).symm
theorem a5L {s o:List Int} {l:List V} (h:OfP s o l) (hv:∀ v∈l,vOk v=true):cellsD (aaJ s o l)=l:=by
 have hl:=h.len;unfold cellsD;refine List.ext_getElem (by simp[cnt,aaJ];omega) fun n h1 h2=>?_;have hp:=a3S (n:Int) h.vW.sz;simp only[List.getElem_map,List.getElem_range];show a6v (aaJ s o l) (a2x s n)=_;rw[aep h hv hp,aan h.vW.sz (by omega) (by omega)];simp[List.getD,List.getElem?_eq_getElem h2]
open Go Tw Pv gq
def a0H (d:Dg) (x:Cs) (v:Int):Int:=if v<0 then IntKind.i64.wrap (-1-(x.e.idxOf (a2I d v):Nat)) else knV x.k v
theorem a7W {α:Type} [BEq α] [LawfulBEq α] {a b:List α} {v:α} (h:v∈a) (hp:a <+: b):b.idxOf v=a.idxOf v:=by
 obtain⟨t,rfl⟩:=hp;rw[List.idxOf_append,if_pos h]
theorem abl {a b:List (Int×Int)} {v:Int} (h:v∈a.map (·.1)) (hp:a <+: b):knV b v=knV a v:=by
 obtain⟨t,rfl⟩:=hp;unfold knV;rw[List.find?_append];cases e:a.find? fun p=>p.1==v with
 | none=>
  rw[List.mem_map] at h;obtain⟨p,hp,rfl⟩:=h;have:=List.find?_eq_none.1 e p hp;simp at this
 | some q=>rfl
theorem a7X {d:Dg} {x y:Cs} {v:Int} (h:Kn d x v) (hp:O9 x y):a0H d y v=a0H d x v:=by
 unfold Kn at h;unfold a0H;split
 ·rename_i c;rw[if_pos c] at h;rw[a7W h hp.1]
 rename_i c;rw[if_neg c] at h;rw[abl h hp.2.2]
theorem a9b {E:List V} {v:V} (h:v∈E):Vz E v=E:=if_pos h
theorem a4h (N:List Br) (c:Int) (ks:List Int):N <+: Yn N c ks:=by
 unfold Yn;split
 ·exact List.prefix_rfl
 split
 ·exact List.prefix_rfl
 exact List.prefix_append _ _
theorem a9J {N M:List Br} {c:Int} {ks:List Int} (h:Yn N c ks=N) (hp:N <+: M):Yn M c ks=M∧Qe M c ks=Qe N c ks:=by
 unfold Yn at h ⊢;unfold Qe;by_cases hf:(ks.all fun x=>x==ks.getD 0 0)=true
 ·rw[if_pos hf,if_pos hf,if_pos hf];exact⟨rfl,rfl⟩
 rw[if_neg hf] at h ⊢;rw[if_neg hf,if_neg hf];by_cases hm:a2H c ks∈N.map kyB
 ·have hp2:N.map kyB <+: M.map kyB:=by obtain⟨t,rfl⟩:=hp;rw[List.map_append];exact List.prefix_append _ _
  rw[if_pos (hp2.subset hm),a7W hm hp2];exact⟨rfl,rfl⟩
 rw[if_neg hm] at h;have:=congrArg List.length h;simp at this
theorem ac4 (N:List Br) (c:Int) (ks:List Int):Yn (Yn N c ks) c ks=Yn N c ks∧Qe (Yn N c ks) c ks=Qe N c ks:=by
 unfold Qe;by_cases hf:(ks.all fun x=>x==ks.getD 0 0)=true
 ·rw[if_pos hf,if_pos hf];have:Yn N c ks=N:=if_pos hf;rw[this,this];exact⟨rfl,rfl⟩
 rw[if_neg hf,if_neg hf];by_cases hm:a2H c ks∈N.map kyB
 ·have:Yn N c ks=N:=by unfold Yn;rw[if_neg hf,if_pos hm]
  rw[this,this];exact⟨rfl,rfl⟩
 have e:Yn N c ks=N++[⟨c,ks⟩]:=by unfold Yn;rw[if_neg hf,if_neg hm]
 have hm2:a2H c ks∈(N++[(⟨c,ks⟩:Br)]).map kyB:=by rw[List.map_append];simp
 have e2:Yn (N++[⟨c,ks⟩]) c ks=N++[⟨c,ks⟩]:=by unfold Yn;rw[if_neg hf,if_pos hm2]
 rw[e,e2];refine⟨rfl,?_⟩;rw[List.map_append,List.idxOf_append,if_neg hm,List.idxOf_eq_length hm];simp
abbrev dB (d:Dg) (v:Int):List Int:=(iG d v).kids
def a9c (d:Dg) (x:Cs):Prop:=∀ v∈x.k.map (·.1),(∀ j,j<(dB d v).length->Kn d x ((dB d v).getD j 0))∧Qe x.n (iG d v).var ((dB d v).map (a0H d x))=knV x.k v∧Yn x.n (iG d v).var ((dB d v).map (a0H d x))=x.n
abbrev gCl (d:Dg) (F:Nat) (r:Int) (j:Nat) (y:List Int×Cs):List Int×Cs:=(y.1.set j (VD d F ((dB d r).getD j 0) y.2).1,(VD d F ((dB d r).getD j 0) y.2).2)
theorem adf {d:Dg}:∀ (F:Nat) (r:Int) (x:Cs),O9 x (VD d F r x).2
 | 0,_,x=>O9.rfl
 | F+1,r,x=>by
  unfold VD;split
  ·exact⟨a1I _ _,List.prefix_rfl,List.prefix_rfl⟩
  split
  ·exact O9.rfl
  have:=RH (g:=gCl d F r) (m:=(dB d r).length) (k:=0) (s:=(List.replicate (dB d r).length 0,x)) (fun _ y=>O9 x y.2) O9.rfl (fun j y _ _ hy=>hy.trans (adf F _ y.2));exact⟨this.1,this.2.1.trans (a4h _ _ _),this.2.2.trans (List.prefix_append _ _)⟩
theorem a4F {d:Dg} {F:Nat} {v:Int} {x:Cs} (h:Kn d x v):VD d (F+1) v x=(a0H d x v,x):=by
 unfold Kn at h;unfold VD a0H;by_cases c:v<0
 ·rw[if_pos (by simpa using c),if_pos c];rw[if_pos c] at h;rw[a9b h]
 rw[if_neg c] at h;rw[if_neg (by simpa using c),if_pos (by simpa using h),if_neg c]
theorem a5N {d:Dg} {x y:Cs} {ks:List Int} (h:∀ j,j<ks.length->Kn d x (ks.getD j 0)) (hp:O9 x y):ks.map (a0H d y)=ks.map (a0H d x):=by
 refine List.map_congr_left fun v hv=>?_;obtain⟨j,hj,rfl⟩:=List.getElem_of_mem hv;have:=h j hj;rw[List.getD,List.getElem?_eq_getElem hj] at this;exact a7X this hp
theorem a9c.abv {d:Dg} {x y:Cs} {v:Int} (h:(∀ j,j<(dB d v).length->Kn d x ((dB d v).getD j 0))∧Qe x.n (iG d v).var ((dB d v).map (a0H d x))=knV x.k v∧Yn x.n (iG d v).var ((dB d v).map (a0H d x))=x.n) (hv:v∈x.k.map (·.1)) (hp:O9 x y):(∀ j,j<(dB d v).length->Kn d y ((dB d v).getD j 0))∧Qe y.n (iG d v).var ((dB d v).map (a0H d y))=knV y.k v∧Yn y.n (iG d v).var ((dB d v).map (a0H d y))=y.n:=by
 obtain⟨h1,h2,h3⟩:=h;rw[a5N h1 hp];obtain⟨g1,g2⟩:=a9J h3 hp.2.1;exact⟨fun j hj=>(h1 j hj).mono hp,by rw[g2,h2,abl hv hp.2.2],g1⟩
theorem a9K {d:Dg} (h:SL d):∀ (F:Nat) (r:Int) (x:Cs),1<=F->r+1<F->EW d r d.nodes.length->a6G d x->a9c d x->a9c d (VD d F r x).2∧Kn d (VD d F r x).2 r∧a0H d (VD d F r x).2 r=(VD d F r x).1
 | 0,r,x,h1,_,_,_,_=>by omega
 | F+1,r,x,_,hF,hr,hx,hi=>by
  by_cases c:r<0
  ·have e:VD d (F+1) r x=(IntKind.i64.wrap (-1-(x.e.idxOf (a2I d r):Nat)),⟨Vz x.e (a2I d r),x.n,x.k⟩):=by unfold VD;rw[if_pos (by simpa using c)]
   rw[e];have hp:O9 x ⟨Vz x.e (a2I d r),x.n,x.k⟩:=⟨a1I _ _,List.prefix_rfl,List.prefix_rfl⟩;refine⟨fun v hv=>a9c.abv (hi v hv) hv hp,?_,?_⟩
   ·unfold Kn;rw[if_pos c];show a2I d r∈Vz x.e (a2I d r);unfold Vz;split
    ·assumption
    simp
   unfold a0H;rw[if_pos c];show IntKind.i64.wrap (-1-((Vz x.e (a2I d r)).idxOf (a2I d r):Nat))=_;congr 3;unfold Vz;split
   ·rfl
   rename_i hn;rw[List.idxOf_append,if_neg hn,List.idxOf_eq_length hn];simp
  by_cases c2:r∈x.k.map (·.1)
  ·have hk:Kn d x r:=by unfold Kn;rw[if_neg c];exact c2
   rw[a4F hk];exact⟨hi,hk,rfl⟩
  have aN:r.toNat<d.nodes.length:=by have:=hr.1;omega
  have a1W:∀ k,k<(dB d r).length->(dB d r).getD k 0<r:=fun k Cb=>by
   have h9:=(h.kid r.toNat aN k Cb).1;have h9:(dB d r).getD k 0<(r.toNat:Int):=h9;omega
  have hrk:∀ j,j<(dB d r).length->EW d ((dB d r).getD j 0) d.nodes.length:=fun j hj=>⟨by have:=a1W j hj;have:=hr.1;omega,(h.kid r.toNat aN j hj).2⟩;have inv:=RH (g:=gCl d F r) (m:=(dB d r).length) (k:=0) (s:=(List.replicate (dB d r).length 0,x)) (fun k y=>(y.1.length=(dB d r).length∧O9 x y.2)∧(a6G d y.2∧r∉y.2.k.map (·.1))∧a9c d y.2∧∀ j,j<k->Kn d y.2 ((dB d r).getD j 0)∧a0H d y.2 ((dB d r).getD j 0)=y.1.getD j 0) ⟨⟨by simp,O9.rfl⟩,⟨hx,c2⟩,hi,fun j hj=>by omega⟩ (fun j y _ hj hy=>by
   obtain⟨⟨y1,y2⟩,⟨y3,y4⟩,y5,y6⟩:=hy;have hj:j<(dB d r).length:=(by omega);have hp:=adf (d:=d) F ((dB d r).getD j 0) y.2;obtain⟨z1,z2,z3⟩:=a9K h F ((dB d r).getD j 0) y.2 (by omega) (by have:=a1W j hj;omega) (hrk j hj) y3 y5;refine⟨⟨by simp[gCl,y1],y2.trans hp⟩,⟨a5l h F _ y.2 y3 (hrk j hj),a8P F _ r y.2 (a1W j hj) y4 (by omega) (fun i hi k hk=>(h.kid i hi k hk).1) (fun h5=>⟨h5,(hrk j hj).1⟩)⟩,z1,fun j' BJ=>?_⟩;by_cases e:j'=j
   ·subst e;refine⟨z2,?_⟩;rw[z3];show (VD d F ((dB d r).getD j' 0) y.2).1=(y.1.set j' (VD d F ((dB d r).getD j' 0) y.2).1).getD j' 0;generalize (VD d F ((dB d r).getD j' 0) y.2).1=z;simp[List.getD,List.getElem?_set_self (show j'<y.1.length by omega)]
   obtain⟨a1,a2⟩:=y6 j' (by omega);refine⟨a1.mono hp,?_⟩;rw[a7X a1 hp,a2];show _=(y.1.set j (VD d F ((dB d r).getD j 0) y.2).1).getD j' 0;generalize (VD d F ((dB d r).getD j 0) y.2).1=z;simp[List.getD,List.getElem?_set_ne (Ne.symm e)])
  rw[Nat.zero_add] at inv;have e:VD d (F+1) r x=(Qe (uq (gCl d F r) (dB d r).length 0 (List.replicate (dB d r).length 0,x)).2.n (iG d r).var (uq (gCl d F r) (dB d r).length 0 (List.replicate (dB d r).length 0,x)).1,⟨(uq (gCl d F r) (dB d r).length 0 (List.replicate (dB d r).length 0,x)).2.e,Yn (uq (gCl d F r) (dB d r).length 0 (List.replicate (dB d r).length 0,x)).2.n (iG d r).var (uq (gCl d F r) (dB d r).length 0 (List.replicate (dB d r).length 0,x)).1,(uq (gCl d F r) (dB d r).length 0 (List.replicate (dB d r).length 0,x)).2.k++[(r,Qe (uq (gCl d F r) (dB d r).length 0 (List.replicate (dB d r).length 0,x)).2.n (iG d r).var (uq (gCl d F r) (dB d r).length 0 (List.replicate (dB d r).length 0,x)).1)]⟩):=by
   rw[VD,if_neg (by simpa using c),if_neg (by simpa using c2)]
  rw[e];generalize uq (gCl d F r) (dB d r).length 0 (List.replicate (dB d r).length 0,x)=y at inv;obtain⟨ks,y⟩:=y;obtain⟨⟨y1,y2⟩,⟨y3,y4⟩,y5,y6⟩:=inv;have y1:ks.length=(dB d r).length:=y1;have y4:r∉y.k.map (·.1):=y4;have hp:O9 y ⟨y.e,Yn y.n (iG d r).var ks,y.k++[(r,Qe y.n (iG d r).var ks)]⟩:=⟨List.prefix_rfl,a4h _ _ _,List.prefix_append _ _⟩;have DN:(dB d r).map (a0H d y)=ks:=by
   refine List.ext_getElem (by simp[y1]) fun j j1 j2=>?_;have hj:j<(dB d r).length:=(by omega);have:=(y6 j hj).2;rw[List.getD,List.getD,List.getElem?_eq_getElem hj,List.getElem?_eq_getElem j2] at this;simpa using this
  have dh:knV (y.k++[(r,Qe y.n (iG d r).var ks)]) r=Qe y.n (iG d r).var ks:=by
   unfold knV;rw[List.find?_append];have:(y.k.find? fun p=>p.1==r)=none:=List.find?_eq_none.2 fun p hp=>by
    simp only[beq_iff_eq];intro e2;exact y4 (List.mem_map.2 ⟨p,hp,e2⟩)
   rw[this];simp
  obtain⟨g1,g2⟩:=ac4 y.n (iG d r).var ks;refine⟨fun v hv=>?_,?_,?_⟩
  ·have hv:v∈(y.k++[(r,Qe y.n (iG d r).var ks)]).map (·.1):=hv;rw[List.map_append,List.mem_append] at hv;rcases hv with hv | hv
   ·exact a9c.abv (y5 v hv) hv hp
   have hv:v=r:=(by simpa using hv);subst hv;refine⟨fun j hj=>(y6 j hj).1.mono hp,?_,?_⟩
   ·rw[a5N (fun j hj=>(y6 j hj).1) hp,DN];show Qe (Yn y.n (iG d v).var ks) _ ks=knV (y.k++[(v,Qe y.n (iG d v).var ks)]) v;rw[g2,dh]
   rw[a5N (fun j hj=>(y6 j hj).1) hp,DN];exact g1
  ·unfold Kn;rw[if_neg c];show r∈(y.k++[(r,Qe y.n (iG d r).var ks)]).map (·.1);simp
  unfold a0H;rw[if_neg c];exact dh
open Go Tw Pv gq
theorem adg {d:Dg} (h:iE d=0):∀ i,i<d.nodes.length->∀ k,k<(D6 d i).kids.length->d.order.idxOf (D6 d i).var+1<=rkN d.order d.nodes ((D6 d i).kids.getD k 0):=by
 intro i hi k hk;unfold iE at h;split at h
 ·rename_i c;rw[h] at c;cases c
 split at h
 ·cases h
 split at h
 ·cases h
 rename_i c;have c:vN d=true:=by simpa using c
 unfold vN at c;split at c
 rotate_left
 ·cases c
 split at c
 rotate_left
 ·cases c
 rename_i c2;have:=Jb.1 c2 i hi;unfold cLn at this;split at this
 ·cases this
 split at this
 ·cases this
 split at this
 ·rename_i c3;have:=Jb.1 c3 k hk;unfold cLk at this;split at this
  ·cases this
  rw[decide_eq_false_iff_not,a4E,a4E] at this;have e6:rkN d.order d.nodes ((i:Nat):Int)=d.order.idxOf (D6 d i).var:=by unfold rkN;rw[if_neg (by omega),Int.toNat_natCast]
  rw[e6] at this;show d.order.idxOf (D6 d i).var+1<=rkN d.order d.nodes ((d.nodes.getD i SK).kids.getD k 0);omega
 cases this
theorem a9L {d:Dg} (h:SL d):∀ (F:Nat) (r:Int) (x:Cs),EW d r d.nodes.length->NOk d.sizes x.n->NOk d.sizes (VD d F r x).2.n
 | 0,_,_,_,hx=>hx
 | F+1,r,x,hr,hx=>by
  unfold VD;by_cases c:r<0
  ·rw[if_pos (by simpa using c)];exact hx
  rw[if_neg (by simpa using c)];split
  ·exact hx
  have aN:r.toNat<d.nodes.length:=by have:=hr.1;omega
  have hrk:∀ j,j<(dB d r).length->EW d ((dB d r).getD j 0) d.nodes.length:=fun j hj=>by
   have h9:=h.kid r.toNat aN j hj;have h8:=h9.1;have h8:(dB d r).getD j 0<(r.toNat:Int):=h8;exact⟨by omega,h9.2⟩
  have inv:=RH (g:=gCl d F r) (m:=(dB d r).length) (k:=0) (s:=(List.replicate (dB d r).length 0,x)) (fun _ y=>y.1.length=(dB d r).length∧NOk d.sizes y.2.n) ⟨by simp,hx⟩ (fun j y _ hj hy=>⟨by simp[gCl,hy.1],a9L h F _ y.2 (hrk j (by omega)) hy.2⟩);show NOk d.sizes (Yn (uq (gCl d F r) (dB d r).length 0 (List.replicate (dB d r).length 0,x)).2.n (iG d r).var (uq (gCl d F r) (dB d r).length 0 (List.replicate (dB d r).length 0,x)).1);generalize uq (gCl d F r) (dB d r).length 0 (List.replicate (dB d r).length 0,x)=y at inv;intro b hb;unfold Yn at hb;split at hb
  ·exact inv.2 b hb
  split at hb
  ·exact inv.2 b hb
  rcases List.mem_append.1 hb with hb | hb
  ·exact inv.2 b hb
  rw[List.mem_singleton.1 hb];refine⟨h.var r.toNat aN,?_⟩;show (y.1.length:Int)=d.sizes.getD (iG d r).var.toNat 0;rw[inv.1];exact h.ksz r.toNat aN
theorem adh {n:Nat} (hn:1<=n) (v:Int):((List.replicate n v).all fun x=>x==(List.replicate n v).getD 0 0)=true∧(List.replicate n v).getD 0 0=v:=by
 obtain⟨k,rfl⟩:∃ k,n=k+1:=⟨n-1,by omega⟩;simp[List.replicate_succ]
theorem a9e {d:Dg} {l:List V} (h:SL d) (a5I:ES d.sizes.length d.order=true) (hk:∀ i,i<d.nodes.length->∀ k,k<(D6 d i).kids.length->d.order.idxOf (D6 d i).var+1<=rkN d.order d.nodes ((D6 d i).kids.getD k 0)):∀ (r:List Int) (a:Nat) (p:List Int) (v:Int) (x:Cs) (F:Nat),d.order.drop a=r->a<=d.order.length->Ah d.sizes p=true->a6G d x->a9c d x->NOk d.sizes x.n->EW d v d.nodes.length->a<=rkN d.order d.nodes v->1<=F->v+1<F->(∀ q,Ah d.sizes q=true->Agr d.sizes r q p->To d q v (l.getD (Ye d.sizes q).toNat V0))->Yp d.sizes l r p (x.e,x.n)=((VD d F v x).1,((VD d F v x).2.e,(VD d F v x).2.n))
 | [],a,p,v,x,F,hr,ha,hp,_,_,_,hv,hrk,hF1,hF,hto=>by
  obtain⟨F,rfl⟩:∃ k,F=k+1:=⟨F-1,by omega⟩;have:a=d.order.length:=by
   have:=congrArg List.length hr;rw[List.length_drop,List.length_nil] at this;omega
  subst this;have hv0:v<0:=by
   rcases Int.lt_or_le v 0 with c | c
   ·exact c
   exfalso;unfold rkN at hrk;rw[if_neg (by omega)] at hrk;have aN:v.toNat<d.nodes.length:=by have:=hv.1;omega
   have hm:=a0j a5I (h.var v.toNat aN);have:=List.idxOf_lt_length_iff.2 hm;have:d.order.idxOf (d.nodes.getD v.toNat SK).var<d.order.length:=this;omega
  have t:=hto p hp (fun _ _ _=>rfl);have e:l.getD (Ye d.sizes p).toNat V0=a2I d v:=(To.fin hv0:To d p v _).det t |>.symm
  unfold VD;rw[if_pos (by simpa using hv0)];show (IntKind.i64.wrap (-1-(x.e.idxOf (l.getD (Ye d.sizes p).toNat V0):Nat)),(Vz x.e (l.getD (Ye d.sizes p).toNat V0),x.n))=_;rw[e]
 | c::r,a,p,v,x,F,hr,ha,hp,hx,hi,hno,hv,hrk,hF1,hF,hto=>by
  have aN:a<d.order.length:=by
   have:=congrArg List.length hr;rw[List.length_drop,List.length_cons] at this;omega
  have hd:=List.drop_eq_getElem_cons aN;rw[hr] at hd;obtain⟨hc,hr2⟩:=List.cons.inj hd;have ho:=a5I;unfold ES at ho;rw[decide_eq_true_eq] at ho;have SH:c∈d.order:=by rw[hc];exact List.getElem_mem aN
  have hic:CO c d.sizes.length:=⟨(ho.2.1 c SH).1,(ho.2.1 c SH).2⟩;have hia:d.order.idxOf c=a:=by rw[hc];exact ho.2.2.idxOf_getElem a aN
  have pK:c.toNat<d.sizes.length:=by have:=hic.1;have:=hic.2;omega
  have hz:=h.vW.sz _ (KU (s:=d.sizes) (k:=c.toNat) pK);have qN:=a0f hp;have hcr:c∉r:=by
   have:(d.order.drop a).Nodup:=ho.2.2.sublist (List.drop_sublist _ _);rw[hr] at this;exact (List.nodup_cons.1 this).1
  have JF:∀ j:Nat,j<(d.sizes.getD c.toNat 0).toNat->Ah d.sizes (p.set c.toNat j)=true:=fun j hj=>a3F hp hic ⟨by omega,by omega⟩;simp only[Yp];by_cases yt:0<=v∧(iG d v).var=c
  ·obtain⟨hv0,hvc⟩:=yt;have ac5:v.toNat<d.nodes.length:=by have:=hv.1;omega
   have hkl:((dB d v).length:Int)=d.sizes.getD c.toNat 0:=by rw[<-hvc];exact h.ksz v.toNat ac5
   have hkn:(d.sizes.getD c.toNat 0).toNat=(dB d v).length:=(by omega);have a1W:∀ j,j<(dB d v).length->(dB d v).getD j 0<v:=fun j hj=>by
    have h9:=(h.kid v.toNat ac5 j hj).1;have h9:(dB d v).getD j 0<(v.toNat:Int):=h9;omega
   have hrf:∀ j,j<(dB d v).length->EW d ((dB d v).getD j 0) d.nodes.length:=fun j hj=>⟨by have:=a1W j hj;have:=hv.1;omega,(h.kid v.toNat ac5 j hj).2⟩;have aif:∀ j,j<(dB d v).length->a+1<=rkN d.order d.nodes ((dB d v).getD j 0):=fun j hj=>by
    have:=hk v.toNat ac5 j hj;have:d.order.idxOf (iG d v).var+1<=rkN d.order d.nodes ((dB d v).getD j 0):=this;rw[hvc,hia] at this;exact this
   have aii:∀ j:Nat,j<(dB d v).length->∀ q,Ah d.sizes q=true->Agr d.sizes r q (p.set c.toNat j)->To d q ((dB d v).getD j 0) (l.getD (Ye d.sizes q).toNat V0):=fun j hj q hq hag=>by
    have Qx:q.getD c.toNat 0=j:=by
     have:=hag c.toNat pK (by rw[Int.toNat_of_nonneg hic.1];exact hcr);rw[this,List.getD,List.getElem?_set_self (by omega)];rfl
    have t0:=hto q hq (Agr.back hic hag);revert t0;generalize l.getD (Ye d.sizes q).toNat V0=w;intro t0;cases t0 with
    | fin h9=>omega
    | step _ t=>
     rw[hvc,Qx,Int.toNat_natCast] at t;exact t
   rw[hkn];by_cases NR:v∈x.k.map (·.1)
   ·-- known
    have hKn:Kn d x v:=by unfold Kn;rw[if_neg (by omega)];exact NR
    obtain⟨F',rfl⟩:∃ k,F=k+1:=⟨F-1,by omega⟩;rw[a4F hKn];obtain⟨i1,i2,i3⟩:=hi v NR;have inv:=RH (g:=gPt (Yp d.sizes l r) c p) (m:=(dB d v).length) (k:=0) (s:=([],(x.e,x.n))) (fun k y=>y=(((dB d v).map (a0H d x)).take k,(x.e,x.n))) (by simp) (fun j y _ hj hy=>by
     have hj:j<(dB d v).length:=(by omega);subst hy;have ih:=a9e h a5I hk r (a+1) (p.set c.toNat j) ((dB d v).getD j 0) x (F'+1) hr2.symm aN (JF j (by omega)) hx hi hno (hrf j hj) (aif j hj) (by omega) (by have:=a1W j hj;omega) (aii j hj);rw[a4F (i1 j hj)] at ih;unfold gPt;rw[ih];refine Prod.ext ?_ rfl;show (((dB d v).map (a0H d x)).take j)++[a0H d x ((dB d v).getD j 0)]=_;have hjm:j<((dB d v).map (a0H d x)).length:=(by simpa using hj);rw[List.take_succ_eq_append_getElem hjm];simp[List.getD,List.getElem?_eq_getElem hj])
    rw[Nat.zero_add] at inv;rw[inv,List.take_of_length_le (by simp)];rw[hvc] at i2 i3;obtain⟨n1,n2⟩:=a8Y h.vW.sz hno hic (ks:=(dB d v).map (a0H d x)) (by simpa using hkl);show (aaH x.n c _,(x.e,aaI x.n c _))=_;rw[<-n1,<-n2,i2,i3];unfold a0H;rw[if_neg (by omega)]
   obtain⟨F',rfl⟩:∃ k,F=k+1:=⟨F-1,by omega⟩;have key:∀ j,j<=(dB d v).length->(uq (gPt (Yp d.sizes l r) c p) j 0 ([],(x.e,x.n)))=((uq (gCl d F' v) j 0 (List.replicate (dB d v).length 0,x)).1.take j,((uq (gCl d F' v) j 0 (List.replicate (dB d v).length 0,x)).2.e,(uq (gCl d F' v) j 0 (List.replicate (dB d v).length 0,x)).2.n))∧(uq (gCl d F' v) j 0 (List.replicate (dB d v).length 0,x)).1.length=(dB d v).length∧(a6G d (uq (gCl d F' v) j 0 (List.replicate (dB d v).length 0,x)).2∧v∉(uq (gCl d F' v) j 0 (List.replicate (dB d v).length 0,x)).2.k.map (·.1))∧a9c d (uq (gCl d F' v) j 0 (List.replicate (dB d v).length 0,x)).2∧NOk d.sizes (uq (gCl d F' v) j 0 (List.replicate (dB d v).length 0,x)).2.n:=by
    intro j
    induction j with
    | zero=>intro _;exact⟨rfl,by simp[uq],⟨hx,NR⟩,hi,hno⟩
    | succ j ih=>
     intro hj;have hj:j<(dB d v).length:=hj;obtain⟨q1,q2,⟨q3,q3'⟩,q4,q5⟩:=ih (by omega);rw[EP,EP,Nat.zero_add];generalize uq (gCl d F' v) j 0 (List.replicate (dB d v).length 0,x)=y at q1 q2 q3 q3' q4 q5;rw[q1];have Lr:=a1W j hj;have ih2:=a9e h a5I hk r (a+1) (p.set c.toNat j) ((dB d v).getD j 0) y.2 F' hr2.symm aN (JF j (by omega)) q3 q4 q5 (hrf j hj) (aif j hj) (by omega) (by omega) (aii j hj);refine⟨?_,by simp[gCl,q2],⟨a5l h F' _ y.2 q3 (hrf j hj),a8P F' _ v y.2 Lr q3' (by omega) (fun i hi k hk=>(h.kid i hi k hk).1) (fun h5=>⟨h5,(hrf j hj).1⟩)⟩,(a9K h F' _ y.2 (by omega) (by omega) (hrf j hj) q3 q4).1,a9L h F' _ y.2 (hrf j hj) q5⟩;unfold gPt;rw[ih2];refine Prod.ext ?_ rfl;show y.1.take j++[(VD d F' ((dB d v).getD j 0) y.2).1]=(y.1.set j (VD d F' ((dB d v).getD j 0) y.2).1).take (j+1);rw[List.take_succ_eq_append_getElem (by simp;omega),List.take_set_of_le (Nat.le_refl _),List.getElem_set_self]
   obtain⟨q1,q2,⟨q3,q3'⟩,q4,q5⟩:=key _ (Nat.le_refl _);rw[q1];have e:VD d (F'+1) v x=(Qe (uq (gCl d F' v) (dB d v).length 0 (List.replicate (dB d v).length 0,x)).2.n (iG d v).var (uq (gCl d F' v) (dB d v).length 0 (List.replicate (dB d v).length 0,x)).1,⟨(uq (gCl d F' v) (dB d v).length 0 (List.replicate (dB d v).length 0,x)).2.e,Yn (uq (gCl d F' v) (dB d v).length 0 (List.replicate (dB d v).length 0,x)).2.n (iG d v).var (uq (gCl d F' v) (dB d v).length 0 (List.replicate (dB d v).length 0,x)).1,(uq (gCl d F' v) (dB d v).length 0 (List.replicate (dB d v).length 0,x)).2.k++[(v,Qe (uq (gCl d F' v) (dB d v).length 0 (List.replicate (dB d v).length 0,x)).2.n (iG d v).var (uq (gCl d F' v) (dB d v).length 0 (List.replicate (dB d v).length 0,x)).1)]⟩):=by
    rw[VD,if_neg (by simpa using hv0),if_neg (by simpa using NR)]
   rw[e];generalize uq (gCl d F' v) (dB d v).length 0 (List.replicate (dB d v).length 0,x)=y at q2 q5;rw[List.take_of_length_le (by omega),hvc];obtain⟨n1,n2⟩:=a8Y h.vW.sz q5 hic (ks:=y.1) (by rw[q2];exact hkl);rw[n1,n2]
  -- asked later,or an end
  have aij:a+1<=rkN d.order d.nodes v:=by
   unfold rkN at hrk ⊢;split
   ·omega
   rename_i c1;rw[if_neg c1] at hrk;have dZ:d.order.idxOf (d.nodes.getD v.toNat SK).var≠a:=fun e=>by
    apply yt;refine⟨by omega,?_⟩;have ac5:v.toNat<d.nodes.length:=by have:=hv.1;omega
    have hm:=a0j a5I (h.var v.toNat ac5);have h1:=List.getElem_idxOf (List.idxOf_lt_length_iff.2 hm);have e:d.order.idxOf (D6 d v.toNat).var=a:=e;show (D6 d v.toNat).var=c;rw[hc,<-h1];congr 1
   omega
  obtain⟨z1,z2,z3⟩:=a9K h F v x hF1 hF hv hx hi;have Ju:=a5l h F v x hx hv;have a9v:=a9L h F v x hv hno;have aik:VD d F v (VD d F v x).2=((VD d F v x).1,(VD d F v x).2):=by
   have e:∀ y,Kn d y v->a0H d y v=(VD d F v x).1->VD d F v y=((VD d F v x).1,y):=fun y h1 h2=>by
    obtain⟨F',rfl⟩:∃ k,F=k+1:=⟨F-1,by omega⟩;rw[a4F h1,h2]
   exact e _ z2 z3
  have ail:∀ j:Nat,∀ q,Ah d.sizes q=true->Agr d.sizes r q (p.set c.toNat j)->To d q v (l.getD (Ye d.sizes q).toNat V0):=fun j q hq hag=>hto q hq (Agr.back hic hag);have inv:=RH (g:=gPt (Yp d.sizes l r) c p) (m:=(d.sizes.getD c.toNat 0).toNat) (k:=0) (s:=([],(x.e,x.n))) (fun k y=>(k=0∧y=([],(x.e,x.n)))∨(0<k∧y=(List.replicate k (VD d F v x).1,((VD d F v x).2.e,(VD d F v x).2.n)))) (.inl ⟨rfl,rfl⟩) (fun j y _ hj hy=>by
   right;refine⟨by omega,?_⟩;rcases hy with⟨rfl,rfl⟩ | ⟨h0,rfl⟩
   ·have ih:=a9e h a5I hk r (a+1) (p.set c.toNat ((0:Nat):Int)) v x F hr2.symm aN (JF 0 (by omega)) hx hi hno hv aij hF1 hF (ail 0);unfold gPt;rw[ih];rfl
   have ih:=a9e h a5I hk r (a+1) (p.set c.toNat ((j:Nat):Int)) v (VD d F v x).2 F hr2.symm aN (JF j (by omega)) Ju z1 a9v hv aij hF1 hF (ail j);rw[aik] at ih;unfold gPt;rw[ih];refine Prod.ext ?_ rfl;show List.replicate j _++[_]=_;rw[List.replicate_succ'])
  rw[Nat.zero_add] at inv;rcases inv with⟨h0,_⟩ | ⟨h0,e⟩
  ·omega
  rw[e];obtain⟨f1,f2⟩:=adh (n:=(d.sizes.getD c.toNat 0).toNat) (by omega) (VD d F v x).1;show (aaH _ c _,(_,aaI _ c _))=_;unfold aaH aaI;rw[if_pos f1,if_pos f1,f2]
theorem adi {d:Dg} (hl:iE d=0) (ho:d.order.length<=aO) (he:d.ends.length<=aO):Qh d=aaJ d.sizes d.order (cellsD d)∧OfP d.sizes d.order (cellsD d):=by
 obtain⟨h,hn⟩:=wK ho he (by rw[hl];rfl);have hf:(jy d.sizes d.order != 0)=false:=by
  unfold iE at hl;split at hl
  ·rename_i c;rw[hl] at c;cases c
  rename_i c;simpa using c
 obtain⟨vW,a5I⟩:=O6.1 (show jy d.sizes d.order=0 by simpa using hf);have hlen:((cellsD d).length:Int)=dD d.sizes:=by unfold cellsD;rw[List.length_map,List.length_range,vW.aa4]
 have hr:=h.root;have hr1:=hr.1;have hto:∀ q,Ah d.sizes q=true->To d q d.root ((cellsD d).getD (Ye d.sizes q).toNat V0):=fun q hq=>by
  have KD:=a1n hq vW.sz;have t:=To.of h hq 6001 d.root (by omega) hr;have e:(cellsD d).getD (Ye d.sizes q).toNat V0=a6v d q:=by
   have aN:(Ye d.sizes q).toNat<cnt d.sizes:=by unfold cnt;omega
   unfold cellsD;rw[List.getD,List.getElem?_eq_getElem (by simpa using aN)];simp only[List.getElem_map,List.getElem_range,Option.getD_some];rw[show (((Ye d.sizes q).toNat:Nat):Int)=Ye d.sizes q by omega,aax hq vW.sz]
  rw[e];exact t
 have key:=a9e (l:=cellsD d) h a5I (adg hl) d.order 0 (List.replicate d.sizes.length 0) d.root cl0 6002 rfl (Nat.zero_le _) (a3K vW.sz) a8k (fun v hv=>by cases hv) (fun b hb=>by cases hb) hr (Nat.zero_le _) (by omega) (by omega) (fun q hq _=>hto q hq);refine⟨?_,⟨vW,a5I,hlen⟩⟩;have key:Yp d.sizes (cellsD d) d.order (List.replicate d.sizes.length 0) ([],[])=_:=key;unfold Qh aaJ;rw[key]
open Go Tw Pv gq
theorem adk (k:Int):W64 (IntKind.i64.wrap k):=by
 have e:IntKind.i64.wrap k=if k%(2^64:Int)>=(2^63:Int) then k%(2^64:Int)-2^64 else k%(2^64:Int):=by
  show (if (true&&decide (k%(2^64:Int)>=(2^63:Int)))=true then _ else _)=_;by_cases c:k%(2^64:Int)>=(2^63:Int)
  ·rw[if_pos (by simpa using c),if_pos c];rfl
  rw[if_neg (by simpa using c),if_neg c];rfl
 rw[e];unfold W64;split<;>constructor<;>omega
def EnW (x:EN):Prop:=∀ b∈x.2,∀ k∈b.kids,W64 k
theorem adl {s:List Int} {l:List V} (hs:BQ s):∀ (r p:List Int) (x:EN),(∀ c∈r,CO c s.length)->EnW x->(Yp s l r p x).2.2.length<2^61->EnW (Yp s l r p x).2∧W64 (Yp s l r p x).1
 | [],p,x,_,hx,_=>⟨hx,adk _⟩
 | c::r,p,x,hr,hx,hE=>by
  have hic:=hr c (by simp);have hz:=hs _ (KU (s:=s) (k:=c.toNat) (by have:=hic.1;have:=hic.2;omega));have hN:=a3L (uq (gPt (Yp s l r) c p) (s.getD c.toNat 0).toNat 0 ([],x)).2.2 c (uq (gPt (Yp s l r) c p) (s.getD c.toNat 0).toNat 0 ([],x)).1;have hE:(aaI (uq (gPt (Yp s l r) c p) (s.getD c.toNat 0).toNat 0 ([],x)).2.2 c (uq (gPt (Yp s l r) c p) (s.getD c.toNat 0).toNat 0 ([],x)).1).length<2^61:=hE;have inv:=RH (g:=gPt (Yp s l r) c p) (m:=(s.getD c.toNat 0).toNat) (k:=0) (s:=([],x)) (fun k y=>y.1.length=k∧(y.2.2.length<2^61->EnW y.2∧∀ v∈y.1,W64 v)) ⟨rfl,fun _=>⟨hx,by simp⟩⟩ (fun j y _ hj hy=>by
   refine⟨by simp[gPt,hy.1],fun hE2=>?_⟩;have hE2:(Yp s l r (p.set c.toNat j) y.2).2.2.length<2^61:=hE2;have hp:=(a5H (s:=s) (l:=l) r (p.set c.toNat j) y.2).2.length_le;obtain⟨y1,y2⟩:=hy.2 (by omega);obtain⟨z1,z2⟩:=adl hs r (p.set c.toNat j) y.2 (fun c hc=>hr c (by simp[hc])) y1 hE2;refine⟨z1,fun v hv=>?_⟩;have hv:v∈y.1++[(Yp s l r (p.set c.toNat j) y.2).1]:=hv;rcases List.mem_append.1 hv with hv | hv
   ·exact y2 v hv
   rw[List.mem_singleton.1 hv];exact z2)
  rw[Nat.zero_add] at inv;simp only[Yp];generalize uq (gPt (Yp s l r) c p) (s.getD c.toNat 0).toNat 0 ([],x)=y at inv hN hE;obtain⟨ks,E,N⟩:=y;have hN:N <+: aaI N c ks:=hN;have hE:(aaI N c ks).length<2^61:=hE;obtain⟨i0,i1⟩:=inv;have i0:ks.length=(s.getD c.toNat 0).toNat:=i0;obtain⟨i1,i2⟩:=i1 (by have:=hN.length_le;show N.length<2^61;omega);have i1:∀ b∈N,∀ k∈b.kids,W64 k:=i1;have i2:∀ v∈ks,W64 v:=i2;refine⟨fun b hb=>?_,?_⟩
  ·have hb:b∈aaI N c ks:=hb;unfold aaI at hb;split at hb
   ·exact i1 b hb
   split at hb
   ·exact i1 b hb
   rcases List.mem_append.1 hb with hb | hb
   ·exact i1 b hb
   rw[List.mem_singleton.1 hb];exact i2
  show W64 (aaH N c ks);by_cases hf:(ks.all fun x=>x==ks.getD 0 0)=true
  ·rw[show aaH N c ks=ks.getD 0 0 from if_pos hf];exact i2 _ (KU (s:=ks) (k:=0) (by omega))
  rw[show aaH N c ks=(N.idxOf (⟨c,ks⟩:Br):Nat) from if_neg hf];have:=(a8p (N:=N) (c:=c) hf).1;exact⟨by omega,by omega⟩
theorem aer {s o:List Int} {l:List V} (h:OfP s o l) (hv:∀ v∈l,vOk v=true) (hf:∀ v∈l,0<=v.f):DgR (aaJ s o l)∧a6t (aaJ s o l)=0:=by
 obtain⟨hP,hn,ho⟩:=h.p;obtain⟨h1,h2,h3,h4,h5⟩:=a3y h hv;have hw:=a9I h.vW.sz h.ord;have hm:=h.vW.many;have hlen:=a8n (l:=l) h.vW.sz o (List.replicate s.length 0) ([],[]) hP.ord;have SA:(Yp s l o (List.replicate s.length 0) ([],[])).2.2.length+1<=0+wO s o:=hlen.2;obtain⟨w1,w2⟩:=adl (l:=l) h.vW.sz o (List.replicate s.length 0) ([],[]) hP.ord (fun b hb=>by cases hb) (by omega);have hR:DgR (aaJ s o l):=⟨fun i hi k hk=>by
  have hb:D6 (aaJ s o l) i∈(aaJ s o l).nodes:=by
   show (aaJ s o l).nodes.getD i SK∈_;rw[List.getD,List.getElem?_eq_getElem hi];exact List.getElem_mem hi
  exact w1 _ hb _ (KU hk),w2,fun v hv=>hf v (h3 v hv)⟩
 refine⟨hR,?_⟩;obtain⟨ht,hn6⟩:=wK (d:=aaJ s o l) hP.afl (by unfold aO;omega) (by rw[h1];rfl);have hc:=(adi (d:=aaJ s o l) h1 hP.afl (by unfold aO;omega)).1;rw[a5L h hv] at hc;have hd:=(a7U ht hR (by omega) hn6).1 hc;unfold a6t;rw[if_neg (by rw[h1];decide),if_neg (by rw[hd];decide)]
open Go Tw Pv gq
theorem akC:Gd aaL:=aky.add fun n hO p hp=>dS hX hO (by kernel_rfl) (.o (hp _ (.head _)) (.o (hp _ (.tail _ (.head _))) (.o (hp _ (.tail _ (.tail _ (.head _)))) (.o (hp _ (.tail _ (.tail _ (.tail _ (.head _))))) .rr))))
end Go.Proofs.YtjkgcifieggcpaaGreat
namespace Pv
open Go Tw
variable {X:iR} {P:Program}
theorem Con.afY (hX:aU X P) {call:ay} {f:FuncId} {first xs cap vs:List (PV X.Γ)} {v v':PV X.Γ} {ext ext':List (PB X.Γ)} (hc:Con X P call f vs v ext) (hv:views [] (first++xs++cap)=some vs) (hs:mF X 0 ext=some ext')
  (e:shift 0 v=v') (he:(if sG v||ext.any (hasB X) then aI (oW.mZ (first++xs++cap)) [] else [])=([]:List (PB X.Γ))):qH X P call (.fn f first cap) xs [] v' ext':=by
 subst e;intro A m h tf nI hr hf hx;cases hf with
 | gone hi _ _=>simp[aG] at hi
 | fn p1 p2 p3 p4=>
  obtain⟨w,h',m1,c1,c2,c3,c4,c5⟩:=XP hX hc hr hv hs ⟨p1,p2⟩ hx ⟨p3,p4⟩;rw[he] at c2;exact⟨w,h',[],m1,c1,c2,c3,c4,c5,fun b hb=>by cases hb⟩
end Pv
namespace Go.Proofs.YtjkgcifieggcpaaGreat
open Go Tw Pv gq
def ac6 {α:Type} (g:α->Bool) (i:Nat) (x:α) (s:Unit):Unit⊕(Nat×α×Unit):=if (g x)=true then .inr (i,x,s) else .inl ()
def afZ {α:Type} (d:α) (g:α->Bool) (l:List α):Int:=if (G8 (a0i (ac6 g) l 0 ()))=true then -1 else (((a2u (0,d,()) (a0i (ac6 g) l 0 ())).1:Int))
theorem adn {α:Type} (g:α->Bool):∀ (l:List α) (i:Nat),G8 (a0i (ac6 g) l i ())=!(l.any g)
 | [],i=>rfl
 | x::l,i=>by
  simp only[a0i,ac6,List.any_cons];cases g x
  ·simpa using adn g l (i+1)
  simp[G8]
theorem ag0 {α:Type} (d:α) (g:α->Bool) (l:List α):decide (afZ d g l>=0)=l.any g:=by
 have:=adn g l 0;unfold afZ;rw[this];cases l.any g<;>simp
abbrev ag2 (f:Nat) (a c:List (PV bM)) (H:List (PB bM)) (l:List Dg) (i:Int) (x:List (Nat×PE bM)):aW bM:=⟨[(0,xL 27 l),(1,.val (.fn f a c)),(7,xi l.length),(8,xi i)]++x,[],H⟩
def ain (f:Nat) (a c:List (PV bM)) (H:List (PB bM)) (l:List Dg):Unit⊕(Nat×Dg×Unit)->Ex×aW bM
 | .inl _=>(.exit 0,ag2 f a c H l l.length [(9,xl false)])
 | .inr r=>(.ret,⟨[(4,xi r.1)],[],H⟩)
theorem akD {n f:Nat} {a c:List (PV bM)} {H:List (PB bM)} {g:Dg->Bool} (l:List Dg) (hf:∀ x∈l,qH X0 Tryz.prog (ApN n) (.fn f a c) [.agg x.ps] H (.bool (g x)) H) (hl:l.length<=aO):qH X0 Tryz.prog (ApN (n+1)) (.fn 145 [] []) [lDg l,.fn f a c] H (iA.put (afZ Dg0 g l)) H:=by
 have lp:LpB n 145 0 H.length (ag2 f a c H l 0 []) (ain f a c H l (a0i (ac6 g) l 0 ())).1 (ain f a c H l (a0i (ac6 g) l 0 ())).2:=
  a7o (st:=fun i _=>ag2 f a c H l i []) Dg0 (fun _ _=>True) (by kernel_rfl) hl LLm trivial (fun k s n hk _ ih=>round hX ok0 (by kernel_rfl) (.b (a2v hk) (.o (bP hk) (.k (hf (l.getD k Dg0) (VG hk)) (.ls (.ou nofun) (.nx (ih _ trivial))))))) (fun s _=>round hX ok0 (by kernel_rfl) (.b (a5U l.length) (.ou nofun)))
 exact dV hX ok0 (first:=[]) (cap:=[]) (by kernel_rfl) (.szh (fun h=>.w (pF lp () h) .sr) (fun h=>.w (rC lp (0,Dg0,()) h) .sr))
theorem akE {n f:Nat} {a c:List (PV bM)} {H:List (PB bM)} {g:Dg->Bool} (l:List Dg) (hf:∀ x∈l,qH X0 Tryz.prog (ApN n) (.fn f a c) [.agg x.ps] H (.bool (g x)) H) (hl:l.length<=aO):qH X0 Tryz.prog (ApN (n+2)) (.fn 108 [] []) [lDg l,.fn f a c] H (tA.put (l.any g)) H:=by
 rw[<-ag0 Dg0 g l];have h1:=akD l hf hl;exact dV hX ok0 (first:=[]) (cap:=[]) (by kernel_rfl) (.k h1 .sr)
open Go Tw Pv gq
def gDs (l:List Fc) (k:Nat) (y:List Dg):List Dg:=y++[(l.getD k Fc0).d]
theorem ag3 (l:List Fc):uq (gDs l) l.length 0 []=lW l:=by
 have:=RH (g:=gDs l) (m:=l.length) (k:=0) (s:=[]) (fun k y=>y=(l.take k).map (·.d)) rfl (fun j y _ h e=>by
  have hj:j<l.length:=by omega
  have e2:l.getD j Fc0=l[j]:=by simp only[List.getD,List.getElem?_eq_getElem hj,Option.getD_some]
  rw[gDs,e,e2,List.take_add_one,List.getElem?_eq_getElem hj,List.map_append];rfl)
 rw[Nat.zero_add,List.take_length] at this;exact this
abbrev wDs (l:List Fc) (y:List Dg) (i:Int) (x:List (Nat×PE bM)):aW bM:=⟨[(2,.val (.own 0)),(5,xL 66 l),(6,xi l.length),(7,xi i)]++x,[],[.list false false 27 y]⟩
theorem lDs {n:Nat} (l:List Fc) (hl:l.length<=aO):LpB n 68 0 0 (wDs l [] 0 []) (.exit 0) (wDs l (lW l) l.length [(8,xl false)]):=by
 rw[<-ag3 l];refine a0B (σ:=List Dg) (N:=l.length) (g:=gDs l) (s0:=[]) (st:=fun i y=>wDs l y i []) (fin:=fun y=>wDs l y l.length [(8,xl false)]) (fun k y=>y.length=k) (by kernel_rfl) hl rfl (fun j y hj hy=>by simp[gDs,hy]) (fun j y hj hy m e p g9=>?_) (fun y _=>?_)
 ·have h2:y.length+[(l.getD j Fc0).d].length<=aO:=by rw[hy,List.length_singleton];omega
  exact round hX ok0 (by kernel_rfl) (.b (a2v hj) (.o (bP hj) (.o h2 (.goG [.gc [2]] g9))))
 exact round hX ok0 (by kernel_rfl) (.b (a5U l.length) .ex)
theorem akF:Gd aaN:=akC.add fun n hO l hp=>dS hX hO (by kernel_rfl) (.wG [.Nv 2 27] (lDs (n:=n) l (hp _ (.head _))) .rr)
theorem akG:Gd aaO:=akF.add fun n hO p hp=>dS hX hO (by kernel_rfl) (.o (hp _ (.head _)) (.ss (.o (hp _ (.tail _ (.head _))) .rr) .rr))
abbrev ac7 (f:List Int×List Int):PV bM:=.fn 70 [.agg [lI f.1,lI f.2]] []
theorem aip {n:Nat} (hO:Ok n aaO) (f:List Int×List Int) (l:List Dg) (hp:∀ d∈l,DgP d) (hl:l.length<=aO):qH X0 Tryz.prog (ApN (n+4)) (.fn 71 [] []) [lDg l,ac7 f] [] (tA.put (l.all (a0Q f))) []:=by
 have hs:∀ d∈l,qH X0 Tryz.prog (ApN n) (ac7 f) [.agg d.ps] [] (tA.put (a0Q f d)) []:=fun d hd=>Con.afY hX (first:=[.agg [lI f.1,lI f.2]]) (cap:=[]) (hO 70 [.agg [lI f.1,lI f.2],.agg d.ps] (tA.put (a0Q f d)) [] [d.sizes.length<=aO,d.order.length<=aO] (by kernel_rfl) (fun p h=>by
  have h9:=hp d hd;have h8:=h9.o;rcases List.mem_cons.1 h with rfl | h
  ·exact h9.s
  rw[List.mem_singleton.1 h];exact h8)) rfl rfl rfl rfl
 have h1:∀ d∈l,qH X0 Tryz.prog (ApN (n+1)) (.fn 109 [] [.ptr 0 0 1]) [.agg d.ps] [.cells [ac7 f]] (tA.put (!(a0Q f d))) [.cells [ac7 f]]:=fun d hd=>
  dV hX ok0 (first:=[]) (by kernel_rfl) (.fr [] (hs d hd) .sr)
 have h2:=akE l h1 hl;rw[<-a3G l (a0Q f)];exact qH.drop hX (dV hX ok0 (first:=[]) (cap:=[]) (H1:=[.cells [ac7 f]]) (by kernel_rfl) (.k h2 .sr)) rfl rfl
theorem akH {n:Nat} (hO:Ok n aaO) (l:List Fc) (hl:l.length<=aO):qH X0 Tryz.prog (ApN n) (.fn 68 [] []) [lFc l] [] (lDg (lW l)) []:=
 Con.afY hX (first:=[]) (cap:=[]) (hO 68 [lFc l] (aag.put (lW l)) [] [l.length<=aO] (by kernel_rfl) (List.forall_mem_singleton.2 hl)) rfl rfl rfl rfl
theorem lBc {n:Nat} (hO:Ok n aaO) (s o:List Int) (f:List Fc) (hp:∀ d∈lW f,DgP d) (hl:(lW f).length<=aO):Lp n 21 0 (wBc s o f 0 []) (zBc s o f (pJ (cCk (lW f)) (lW f).length)).1 (zBc s o f (pJ (cCk (lW f)) (lW f).length)).2:=by
 refine kN (st:=fun i _=>wBc s o f i []) (g:=gS (cCk (lW f))) (out:=zBc s o f) (fun _ _=>True) (by kernel_rfl) hl trivial (fun k u m hk _ ih=>?_) (fun _ _=>?_)
 ·have h9:=hp _ (VG (d:=Dg0) hk);unfold gS cCk;exact round hX hO (by kernel_rfl) (.b (a2v hk) (.o (bP hk) (.o h9.r (.o h9.s (.o h9.o (.o h9.e (.ls (.ou nofun) (.nx (ih _ trivial)))))))))
 exact round hX hO (by kernel_rfl) (.b (a5U (lW f).length) (.ou nofun))
noncomputable abbrev ww (n:Nat) (s o:List Int) (f:List Fc) (k:Nat) (c:Bool):OT (PV bM×List (PB bM)):=PK X0 Tryz.prog T aaO (qH X0 Tryz.prog (ApN n)) (KO X0 Tryz.prog T (ApN n) LL 21 0) LL 21 ((a3 qA qA a6a).put (s,o,f)) [] (Bz s o f k c)
theorem wwe (n:Nat) (s o:List Int) (f:List Fc) (k:Nat) (c:Bool):(ww n s o f k c).map frz=.o (s.length<=aO) (.o (o.length<=2^20) (.br (jy s o != 0) (.ret (some (iA.put (jy s o)))) (.br (decide ((f.length:Int)>8)) (.ret (some (iA.put 5))) (.o (f.length<=aO) (.br c (.o (Lp n 21 0 (wBc s o f 0 []) (zBc s o f (.inl ())).1 (zBc s o f (.inl ())).2) (.o (qH X0 Tryz.prog (ApN n) (.fn 68 [] []) [lFc f] [] (lDg (lW f)) []) (.o (qH X0 Tryz.prog (ApN n) (.fn 71 [] []) [lDg (lW f),ac7 (s,o)] [] (tA.put ((lW f).all (a0Q (s,o)))) []) (.br (!((lW f).all (a0Q (s,o)))) (.ret (some (iA.put 2))) (.ret (some (iA.put 0))))))) (.o (Lp n 21 0 (wBc s o f 0 []) (zBc s o f (.inr k)).1 (zBc s o f (.inr k)).2) (.ret (some (iA.put (oJ ((lW f).getD k Dg0)).2))))))))):=by kernel_rfl
theorem akI:Gd aaP:=akG.deep 4 fun n hn hO p hp=>by
 obtain⟨s,o,f⟩:=p;have h1:s.length<=aO:=hp _ (.head _);have h2:o.length<=2^20:=hp _ (.tail _ (.head _));have h3:f.length<=aO:=hp _ (.tail _ (.tail _ (.head _)));have h4:∀ d∈lW f,DgP d:=hp _ (.tail _ (.tail _ (.tail _ (.head _))));have h5:(lW f).length<=aO:=by simpa[lW] using h3
 have hs:=aip (n:=n-4) (hO (n-4) (by omega)) (s,o) (lW f) h4 h5;rw[show n-4+4=n by omega] at hs;have hl:=lBc (hO n (by omega)) s o f h4 h5;show Con X0 Tryz.prog _ _ _ (iA.put (a6R s o f)) _;unfold a6R;have t1:=akH (hO n (by omega)) f h3;exact dS hX (hO n (by omega)) (wwe n s o f (a2u 0 (pJ (cCk (lW f)) (lW f).length)) (G8 (pJ (cCk (lW f)) (lW f).length))) (.o h1 (.o h2 (.ss .rr (.ss .rr (.o h3 (.zh (fun h=>.w (pF hl () h) (.fr [] t1 (.fr [] hs (.ss .rr .rr)))) (fun h=>.w (rC hl 0 h) .rr)))))))
open Go Tw Pv gq
theorem aiq:Gd a6U:=akI.add fun n hO p hp=>dS hX hO (by kernel_rfl) (.q (.bool (decide (p=V1))) (G9 (.tmp 3) (.tmp 4) p V1) .rr)
theorem air:Gd a6V:=aiq.add fun n hO p hp=>dS hX hO (by kernel_rfl) (.q (.bool (decide (p=V1))) (G9 (.tmp 3) (.tmp 4) p V1) .rr)
theorem ais:Gd a6X:=air.add fun n hO p hp=>dS hX hO (by kernel_rfl) .rr
theorem ait:Gd a6Y:=ais.add fun n hO p hp=>dS hX hO (by kernel_rfl) (.o (hp _ (.head _)) .rr)
theorem abw:Gd a0R:=ait.add fun n hO p hp=>dS hX hO (by kernel_rfl) .rr
open Go Tw Pv gq
abbrev tP (s o:List Int) (f:List Fc) (g:Dg):List (PV bM):=[lI s,lI o,lFc f,lI g.sizes,lI g.order,lV g.ends,lBr g.nodes,.int .i64 g.root,.map 0]
abbrev lP (l:List Pc):PB bM:=.list true true 164 l
noncomputable abbrev HT (s o:List Int) (f:List Fc) (g:Dg) (m:List Pc) (l:List Pc):List (PB bM):=[.map (D8 m),.cells (tP s o f g),lP l]
noncomputable abbrev w1W (s o:List Int) (f:List Fc) (g:Dg) (c:List V) (l:List Pc) (i:Int) (x:List (Nat×PE bM)):aW bM:=⟨[(2,xL 66 f),(11,.val (.ptr 1 0 9)),(14,.val (.own 2)),(60,xL 79 c),(61,xi c.length),(62,xi i)]++x,[],HT s o f g [] l⟩
noncomputable abbrev w3W (s o:List Int) (f:List Fc) (g:Dg) (c:List V) (D:List Dg) (b k:Int) (l:List Pc) (i:Int) (x:List (Nat×PE bM)):aW bM:=⟨[(11,.val (.ptr 1 0 9)),(14,.val (.own 2)),(17,xi b),(75,xL 27 D),(76,xi D.length),(77,xi k),(87,xL 79 c),(88,xi c.length),(89,xi i)]++x,[],HT s o f g [] l⟩
noncomputable abbrev w4W (s o:List Int) (f:List Fc) (g:Dg) (l:List Pc) (m:List Pc) (i:Int) (x:List (Nat×PE bM)):aW bM:=⟨[(11,.val (.ptr 1 0 9)),(108,.val (.own 2)),(109,xi l.length),(110,xi i)]++x,[],HT s o f g m l⟩
theorem a4i {α:Type} {l:List α} {a:α} (h:l.Nodup) (ha:a∉l):(l++[a]).Nodup:=by
 rw[List.nodup_append];exact⟨h,by simp,fun x hx y hy e=>by simp at hy;subst hy;subst e;exact ha hx⟩
noncomputable abbrev w2W (s o:List Int) (f:List Fc) (g:Dg) (D:List Dg) (l:List Pc) (i:Int) (x:List (Nat×PE bM)):aW bM:=⟨[(11,.val (.ptr 1 0 9)),(14,.val (.own 2)),(75,xL 27 D),(76,xi D.length),(77,xi i)]++x,[],HT s o f g [] l⟩
def orB (a b:Int):Int:=IntKind.u64.wrap (((BitVec.ofInt 64 a ||| BitVec.ofInt 64 (a5e .u64 1 b)).toNat:Nat):Int)
def g1W (c:List V) (k:Nat) (l:List Pc):List Pc:=l.set k ⟨(l.getD k Aj).facts,decide (c.getD k V0=V1)⟩
def gIW (b:Int) (c:List V) (k:Nat) (l:List Pc):List Pc:=if decide (c.getD k V0=V1)=true then l.set k ⟨orB (l.getD k Aj).facts b,(l.getD k Aj).goal⟩ else l
abbrev cAt (D:List Dg) (k:Nat):List V:=(Yo (D.getD k Dg0)).1
def g2W (D:List Dg) (k:Nat) (l:List Pc):List Pc:=uq (gIW k (cAt D k)) (cAt D k).length 0 l
def g4W (l:List Pc) (k:Nat) (m:List Pc):List Pc:=if l.getD k Aj∈m then m else m++[l.getD k Aj]
def a9f (c:List V):List Pc:=uq (g1W c) c.length 0 (List.replicate c.length Aj)
def a9g (D:List Dg) (l:List Pc):List Pc:=uq (g2W D) D.length 0 l
def ag5 (l:List Pc):List Pc:=uq (g4W l) l.length 0 []
theorem aes (s o:List Int) (f:List Fc) (g:Dg) (m l:List Pc) (x:Pc):HT s o f g (m++[x]) l=[.map (D8 m++[(.agg x.ps,.bool true)]),.cells (tP s o f g),lP l]:=by
 unfold HT D8 Gf.es;rw[List.map_append,List.map_append];rfl
theorem ado {b:Int} {c:List V} {k:Nat} {l:List Pc}:(gIW b c k l).length=l.length:=by
 unfold gIW;split
 ·exact List.length_set
 rfl
theorem adp {b:Int} {c:List V} {n:Nat} {l:List Pc}:(uq (gIW b c) n 0 l).length=l.length:=by
 have:=RH (g:=gIW b c) (m:=n) (k:=0) (s:=l) (fun _ y=>y.length=l.length) rfl fun j y _ _ h=>by rw[ado,h]
 exact this
theorem af9 (y:List Pc):((y.map fun e=>(e,(PV.bool true:PV bM))).map fun e=>e.1)=y:=by rw[List.map_map];exact List.map_id y
theorem aiy (x:Pc):Instr.sameBits 10000 (kP.v x) (kP.v x)=true:=by
 obtain⟨a,b⟩:=x;show Instr.sameBits 10000 (.agg #[.int .u64 a,.bool b]) (.agg #[.int .u64 a,.bool b])=true;simp[Instr.sameBits]
section
variable {n:Nat} (s o:List Int) (f:List Fc) (g:Dg)
theorem l1W (hO:Ok n a0R) (c:List V) (hc:c.length<=aO):LpB n 112 0 0 ⟨(w1W s o f g c (List.replicate c.length Aj) 0 []).env,[g.ps],(w1W s o f g c (List.replicate c.length Aj) 0 []).heap⟩ (.exit 1) (w1W s o f g c (a9f c) c.length [(63,xl false)]):=by
 refine a0B (σ:=List Pc) (N:=c.length) (g:=g1W c) (s0:=List.replicate c.length Aj) (st:=fun i y=>w1W s o f g c y i []) (fin:=fun y=>w1W s o f g c y c.length [(63,xl false)]) (fun k y=>y.length=c.length) (by kernel_rfl) hc (by simp) (fun j y hj hy=>by simp[g1W,hy]) (fun j y hj hy m e p g9=>?_) (fun y _=>?_)
 ·exact round hX hO (by kernel_rfl) (.b (a2v hj) (.o (bP hj) (.o (bP (show j<y.length by omega)) (.go g9))))
 exact round hX hO (by kernel_rfl) (.b (a5U c.length) .ex)
theorem l3W (hO:Ok n a0R) (c:List V) (D:List Dg) (b:Nat) (d:Dg) (hc:c.length<=aO) (l:List Pc) (hl:l.length=c.length):LpB n 112 2 0 ⟨(w3W s o f g c D b b l 0 []).env,[d.ps],(w3W s o f g c D b b l 0 []).heap⟩ (.exit 5) (w3W s o f g c D b b (uq (gIW b c) c.length 0 l) c.length [(90,xl false)]):=by
 refine a0B (σ:=List Pc) (N:=c.length) (g:=gIW b c) (s0:=l) (st:=fun i y=>w3W s o f g c D b b y i []) (fin:=fun y=>w3W s o f g c D b b y c.length [(90,xl false)]) (fun k y=>y.length=c.length) (by kernel_rfl) hc hl (fun j y hj hy=>by rw[ado,hy]) (fun j y hj hy m e p g9=>?_) (fun y _=>?_)
 ·unfold gIW at g9;cases h:decide (c.getD j V0=V1)
  ·rw[h] at g9;exact round hX hO (by kernel_rfl) (.b (a2v hj) (.o (bP hj) (.b h (.go g9))))
  rw[h,if_pos rfl] at g9;have h1:CO (j:Int) y.length:=bP (by omega);exact round hX hO (by kernel_rfl) (.b (a2v hj) (.o (bP hj) (.b h (.o h1 (.o (show (0:Int)<=(b:Int) by omega) (.o h1 (.go g9)))))))
 exact round hX hO (by kernel_rfl) (.b (a5U c.length) .ex)
theorem l2W (hO:Ok n a0R) (N:Nat) (D:List Dg) (hD:D.length<=aO) (hN:N<=aO) (hp:∀ d∈D,DgP d) (hc:∀ k,k<D.length->(cAt D k).length=N) (l:List Pc) (hl:l.length=N):LpB n 112 1 0 (w2W s o f g D l 0 []) (.exit 3) (w2W s o f g D (a9g D l) D.length [(78,xl false)]):=by
 refine a0B (σ:=List Pc) (N:=D.length) (g:=g2W D) (s0:=l) (st:=fun i y=>w2W s o f g D y i []) (fin:=fun y=>w2W s o f g D y D.length [(78,xl false)]) (fun k y=>y.length=N) (by kernel_rfl) hD hl (fun j y hj hy=>by rw[g2W,adp,hy]) (fun j y hj hy m e p g9=>?_) (fun y _=>?_)
 ·have h9:=hp _ (VG (d:=Dg0) hj);have h8:=hc j hj;have lp:=l3W (n:=n) s o f g hO (cAt D j) D j (D.getD j Dg0) (by omega) y (by omega);unfold g2W at g9;exact round hX hO (by kernel_rfl) (.b (a2v hj) (.o (bP hj) (.o h9.r (.o h9.s (.o h9.o (.o h9.e (.w lp (.go g9))))))))
 exact round hX hO (by kernel_rfl) (.b (a5U D.length) .ex)
theorem l4W (hO:Ok n a0R) (l:List Pc) (hl:l.length<=aO):LpB n 112 3 0 (w4W s o f g l [] 0 []) (.exit 7) (w4W s o f g l (ag5 l) l.length [(111,xl false)]):=by
 refine a0B (σ:=List Pc) (N:=l.length) (g:=g4W l) (s0:=[]) (st:=fun i y=>w4W s o f g l y i []) (fin:=fun y=>w4W s o f g l y l.length [(111,xl false)]) (fun k y=>y.Nodup) (by kernel_rfl) hl List.nodup_nil (fun j y hj hy=>?_) (fun j y hj hy m e p g9=>?_) (fun y _=>?_)
 ·unfold g4W;split
  ·exact hy
  rename_i h;exact a4i hy h
 ·unfold g4W at g9;by_cases h:l.getD j Aj∈y
  ·rw[if_pos h] at g9;have hs:a5h X0 Tryz.prog 164 (D8 y) (.agg [.int .u64 (l.getD j Aj).facts,.bool (l.getD j Aj).goal]) (.agg (l.getD j Aj).ps) (.bool true):=kP.seat (x:=l.getD j Aj) (aiy _) (by show ((y.map fun e=>(e,(PV.bool true:PV bM))).map fun e=>e.1).Nodup;rw[af9];exact hy) (List.mem_map.2 ⟨_,h,rfl⟩);exact round hX hO (by kernel_rfl) (.b (a2v hj) (.o (bP hj) (.c (.bool true) [] hs (.go g9))))
  rw[if_neg h] at g9;unfold w4W at g9;rw[aes] at g9;have hs:Et X0 Tryz.prog 164 (D8 y) (.agg [.int .u64 (l.getD j Aj).facts,.bool (l.getD j Aj).goal]):=kP.fresh (x:=l.getD j Aj) (by show l.getD j Aj∉((y.map fun e=>(e,(PV.bool true:PV bM))).map fun e=>e.1);rw[af9];exact h);exact round hX hO (by kernel_rfl) (.b (a2v hj) (.o (bP hj) (.q (.bool true) (kP.ck (l.getD j Aj)) (.o hs (.go g9)))))
 exact round hX hO (by kernel_rfl) (.b (a5U l.length) .ex)
end
open Go Tw Pv gq
def yS (s o:List Int) (f:List Fc) (g:Dg):Int:=if (a6R s o f != 0)=true then a6R s o f else if ((Yo g).2 != 0)=true then (Yo g).2 else if (!(a0Q (s,o) g))=true then 2 else 0
def a0g (f:List Fc) (g:Dg):List Pc:=ag5 (a9g (lW f) (a9f (Yo g).1))
noncomputable abbrev HT0 (s o:List Int) (f:List Fc) (g:Dg) (m:List Pc):List (PB bM):=[.map (D8 m),.cells (tP s o f g)]
theorem a9M (c:List V):(a9f c).length=c.length:=by
 have:=RH (g:=g1W c) (m:=c.length) (k:=0) (s:=List.replicate c.length Aj) (fun _ y=>y.length=c.length) (by simp) fun j y _ _ h=>by unfold g1W;rw[List.length_set,h]
 exact this
theorem adr (D:List Dg) (l:List Pc):(a9g D l).length=l.length:=by
 have:=RH (g:=g2W D) (m:=D.length) (k:=0) (s:=l) (fun _ y=>y.length=l.length) rfl fun j y _ _ h=>by unfold g2W;rw[adp,h]
 exact this
section
variable {n:Nat} (hO:Ok n a0R) {s o:List Int} {f:List Fc} {g:Dg} (hp:aaS s o f g)
include hO hp
theorem ag6 (h:yS s o f g≠0):qH X0 Tryz.prog (ApN (n+1)) (.fn 112 [] []) [lI s,lI o,lFc f,.agg g.ps] [] (.bH [.nil .ptr,.int .i64 (yS s o f g)]) []:=by
 have ho:g.order.length<=aO:=by have:=hp.lg.o;unfold aO;omega
 unfold yS at h ⊢;cases h1:a6R s o f != 0
 ·rw[h1,if_neg (by simp)] at h;rw[if_neg (by simp)];cases h2:(Yo g).2 != 0
  ·rw[h2,if_neg (by simp)] at h;rw[if_neg (by simp)];cases h3:(!(a0Q (s,o) g))
   ·rw[h3] at h;exact absurd rfl h
   rw[if_pos rfl];have h0:qH X0 Tryz.prog (ApN (n+1)) (.fn 112 [] []) [lI s,lI o,lFc f,.agg g.ps] [] (.bH [.nil .ptr,.int .i64 2]) [.map [],.cells (tP s o f g)]:=a2w hX hO (first:=[]) (cap:=[]) (by kernel_rfl) (.o hp.ls (.o hp.lo (.o hp.lf (.o hp.ld (.b h1 (.o hp.lg.r (.o hp.lg.s (.o hp.lg.o (.o hp.lg.e (.b h2 (.o hp.lg.s (.o ho (.b h3 .er)))))))))))));exact qH.cut hX h0 rfl rfl rfl rfl
  have h0:qH X0 Tryz.prog (ApN (n+1)) (.fn 112 [] []) [lI s,lI o,lFc f,.agg g.ps] [] (.bH [.nil .ptr,.int .i64 (Yo g).2]) [.map [],.cells (tP s o f g)]:=a2w hX hO (first:=[]) (cap:=[]) (by kernel_rfl) (.o hp.ls (.o hp.lo (.o hp.lf (.o hp.ld (.b h1 (.o hp.lg.r (.o hp.lg.s (.o hp.lg.o (.o hp.lg.e (.b h2 .er))))))))));exact qH.cut hX h0 rfl rfl rfl rfl
 rw[h1,if_pos rfl] at h;rw[if_pos rfl];exact a2w hX hO (first:=[]) (cap:=[]) (by kernel_rfl) (.o hp.ls (.o hp.lo (.o hp.lf (.o hp.ld (.b h1 .er)))))
theorem ads (h:yS s o f g=0) (hc:(Yo g).1.length<=aO) (hd:∀ k,k<(lW f).length->(cAt (lW f) k).length=(Yo g).1.length):qH X0 Tryz.prog (ApN (n+1)) (.fn 112 [] []) [lI s,lI o,lFc f,.agg g.ps] [] (.bH [.ptr 1 0 9,.int .i64 0]) (HT0 s o f g (a0g f g)):=by
 have ho:g.order.length<=aO:=by have:=hp.lg.o;unfold aO;omega
 unfold yS at h;have h1:(a6R s o f != 0)=false:=by
  cases h1:a6R s o f != 0
  ·rfl
  rw[h1,if_pos rfl] at h;rw[h] at h1;simp at h1
 rw[h1,if_neg (by simp)] at h;have h2:((Yo g).2 != 0)=false:=by
  cases h2:(Yo g).2 != 0
  ·rfl
  rw[h2,if_pos rfl] at h;rw[h] at h2;simp at h2
 rw[h2,if_neg (by simp)] at h;have h3:(!(a0Q (s,o) g))=false:=by
  cases h3:(!(a0Q (s,o) g))
  ·rfl
  rw[h3] at h;exact absurd h (by decide)
 have l1:=l1W (n:=n) s o f g hO (Yo g).1 hc;have l2:=l2W (n:=n) s o f g hO (Yo g).1.length (lW f) (by simpa[lW] using hp.lf) hc hp.ld hd (a9f (Yo g).1) (a9M _);have hl:(a9g (lW f) (a9f (Yo g).1)).length<=aO:=by rw[adr,a9M];exact hc
 have l4:=l4W (n:=n) s o f g hO (a9g (lW f) (a9f (Yo g).1)) hl;have h0:qH X0 Tryz.prog (ApN (n+1)) (.fn 112 [] []) [lI s,lI o,lFc f,.agg g.ps] [] (.bH [.ptr 1 0 9,.int .i64 0]) (HT s o f g (a0g f g) (a9g (lW f) (a9f (Yo g).1))):=
  a2w hX hO (first:=[]) (cap:=[]) (by kernel_rfl) (.o hp.ls (.o hp.lo (.o hp.lf (.o hp.ld (.b h1 (.o hp.lg.r (.o hp.lg.s (.o hp.lg.o (.o hp.lg.e (.b h2 (.o hp.lg.s (.o ho (.b h3 (.o (rfl:((Yo g).1.length:Int)=((Yo g).1.length:Int)) (.o (show (0:Int)<=((Yo g).1.length:Int) by omega) (.o (show ((Yo g).1.length:Int)<=(aO:Int) by omega) (.w l1 (.o hp.lf (.w l2 (.w l4 .er))))))))))))))))))))
 exact qH.gs hX h0 [.gc [0,1]] (by kernel_rfl)
end
end Go.Proofs.YtjkgcifieggcpaaGreat
namespace Pv
open Go Tw
section
variable {X:iR} {P:Program} {A B:Nat->Prop} {m m' m1:List MB} {h h':List HB} {g:Nat->Option Nat}
theorem adt (hX:aU X P) {T:iF} {L n f:Nat} {t:FnT} {first xs cap:List (PV X.Γ)} {H N:List (PB X.Γ)} {v:PV X.Γ} {tv:Nat->TV} {tN:List HB} (hd:T.Lm.contains f=true) (hx:T.exts.contains f=false) (ht:FU P f=some t) (hN:wL H=true)
  (BO:∀ A m h,HR X P A m H h->∃ m1,HR X P A m1 (H++N) (h++tN)∧VR X P (AA A m1) m1 (h++tN) v (tv h.length)∧Fr m h m1 (h++tN)∧Up m m1)
  (hE:bf X P T (Bd P T L n) (IJ P T (Bd P T L n) L) L f t.nt H.length t.body ⟨vw X 0 (first++xs++cap),[],H⟩ fun e s=>(e=.norm∨e=.ret)∧∃ us,Eu X P s t.results=some us∧a6Z X P (T.a1b.contains f) (UE X us) s.heap tv tN):qH X P (Bd P T L (n+1)) (.fn f first cap) xs H v (H++N):=by
 intro A m h tf nI hr hf yj;cases hf with
 | gone hi _ _=>simp[aG] at hi
 | fn p1 p2 p3 p4=>
  rename_i a' c';have wz:=(aH.app ⟨p1,p2⟩ yj).app ⟨p3,p4⟩;have hb:=Oa hN hr;have hS:SR X P A (fun _=>False) h.length m ⟨vw X 0 (first++xs++cap),[],H⟩ ⟨gu 0 (a'++nI++c'),[],h,[]⟩:=
   ⟨⟨hr,rfl,fun k cs hk=>by simp at hk,Ja wz⟩,fun b h1=>(by rw[hb] at h1;cases h1),fun b hb=>(by cases hb),Nat.le_refl _⟩
  have hO:JZ P T (Bd P T L n) L f t (a'++nI++c') h (tv h.length,h++tN):=by
   refine hE A _ _ m _ _ hS fun e dX fK m1 ⟨he,us,Xc,hpv⟩ h3 h4 h5=>?_;obtain⟨ws,g1,g2⟩:=E5 hX h3.st Xc;exact⟨he,ws,g1,List.eq_nil_iff_forall_not_mem.2 fun b hb=>h3.ws b hb,hpv A m1 h dX.heap _ h3.st.heap (Qa g2) fun b hb=>(h3.own b hb).resolve_left id⟩
  obtain⟨m1,q1,q2,q3,q4⟩:=BO A m h hr;refine⟨tv h.length,h++tN,[],m1,?_,q1,q2,q3,q4,fun b hb=>by cases hb⟩;simp only[Bd,hx,hd,Bool.false_eq_true,if_false,if_true];exact Xy ht hO
theorem abx (hX:aU X P) {T:iF} {L n f:Nat} {t:FnT} {first xs cap:List (PV X.Γ)} {H:List (PB X.Γ)} {v:PV X.Γ} {tv:TV} (hd:T.Lm.contains f=true) (hx:T.exts.contains f=false) (ht:FU P f=some t) (hN:wL H=true) (hv:tJ v=some tv)
  (hE:bf X P T (Bd P T L n) (IJ P T (Bd P T L n) L) L f t.nt H.length t.body ⟨vw X 0 (first++xs++cap),[],H⟩ fun e s=>(e=.norm∨e=.ret)∧∃ us,Eu X P s t.results=some us∧UE X us=v):qH X P (Bd P T L (n+1)) (.fn f first cap) xs H v H:=by
 have:=adt (N:=[]) (v:=v) (tv:=fun _=>tv) (tN:=[]) hX hd hx ht hN (fun A m h hr=>⟨m,by simpa using hr,pI hv,by simpa using Fr.refl,.refl⟩) (hE.mono fun e s ⟨h1,us,h2,h3⟩=>⟨h1,us,h2,by rw[h3];exact Ob hv fun cs hc=>by subst hc;cases v<;>simp[tJ,mY] at hv⟩)
 rwa [List.append_nil] at this
end
end Pv
namespace Go.Proofs.YtjkgcifieggcpaaGreat
open Go Tw Pv gq
noncomputable abbrev Hq (s o:List Int) (f:List Fc) (g:Dg) (m:List Pc):List (PB bM):=[.vV (D8 m),.fG (tP s o f g)]
section
variable {n:Nat} (hO:Ok n a0R) (s o:List Int) (f:List Fc) (g:Dg) (m:List Pc) (a:Int)
include hO
set_option maxRecDepth 20000 in
theorem afa (hm:m.length<LL):qH X0 Tryz.prog (ApN (n+1)) (.fn 97 [] []) [.ptr 1 0 9,.int .u64 a] (Hq s o f g m) (.bool (uw m a)) (Hq s o f g m):=by
 refine abx (X:=X0) (P:=Tryz.prog) (T:=T) (L:=LL) (n:=n) (f:=97) (first:=[]) (cap:=[]) (xs:=[.ptr 1 0 9,.int .u64 a]) (H:=Hq s o f g m) (v:=.bool (uw m a)) (t:=fnP Tryz.prog 97) (tv:=.bool (uw m a)) hX (by kernel_rfl) (by kernel_rfl) (by kernel_rfl) (by kernel_rfl) (by kernel_rfl) ?_;refine I9 (kX:=a0R) (r0:=cR0 bdC) (r1:=cR1 bdC) (x:=cX bdC) (r6:=cR6 bdC) (ops:=a7a (Gg (cLb bdC))) (draw:=false) (i0:=0) (i1:=1) (id:=2) (it:=10) (nx:=11) (mo:=12) (b:=2) (r:=0) (n:=(D8 m).length) (es:=D8 m) (bad:=fun j=>bC a (m.getD j Aj))
  (s1:=⟨[(0,.val (.ptr 1 0 9)),(1,.val (.int .u64 a))],[],Hq s o f g m⟩) (sI:=⟨[(1,.val (.int .u64 a)),(10,.val (.iter 2))],[],Hq s o f g m++[.bn 0 (D8 m).length []]⟩)
  (sR:=fun seen=>⟨[(1,.val (.int .u64 a)),(10,.val (.iter 2))],[],Hq s o f g m++[.bn 0 (D8 m).length seen]⟩)
  (sX:=fun j e seen=>⟨[(1,.val (.int .u64 a)),(10,.val (.iter 2)),(18,.val (.lit false))],[(m.getD j Aj).ps],Hq s o f g m++[.bn 0 (D8 m).length seen]⟩)
  (sE:=fun seen=>⟨[(4,.val (.lit true))],[],Hq s o f g m++[.bn 0 (D8 m).length seen]⟩)
  (sB:=fun j e seen=>⟨[(4,.val (.lit false))],[(m.getD j Aj).ps],Hq s o f g m++[.bn 0 (D8 m).length seen]⟩)
  hX hO (by kernel_rfl) (by kernel_rfl) (by kernel_rfl) (by kernel_rfl) (by kernel_rfl) ?_ ?_ (by kernel_rfl) (fun j e seen=>by kernel_rfl) (by kernel_rfl) (of_decide_eq_true (by kernel_rfl)) (of_decide_eq_true (by kernel_rfl)) (fun seen=>by kernel_rfl) (fun seen=>by kernel_rfl) (fun seen=>by kernel_rfl) rfl (by rw[xI];exact hm) (fun seen=>by kernel_rfl) (fun seen e=>by kernel_rfl) (fun seen=>?_) (fun j e seen he=>?_) (fun j e seen hj hb=>?_) (fun hb seen=>?_)
 ·exact SN hX hO (an:=.n) (by kernel_rfl) (.r rfl)
 ·exact SN hX hO (an:=.n) (by kernel_rfl) (.r rfl)
 ·exact SN hX hO (an:=.n) (by kernel_rfl) (.r rfl)
 ·have ho:=he;obtain rfl:=Og he;have ho:(D8 m).length=(D8 m).length∧(D8 m)[j]? = some (.agg (m.getD j Aj).ps,.bool true):=⟨rfl,ho⟩;exact⟨fun hb=>SN hX hO (by kernel_rfl) (.c (.bH [.agg (m.getD j Aj).ps,.bool true]) [] ho (.b hb (.r rfl))),fun hb=>SN hX hO (by kernel_rfl) (.c (.bH [.agg (m.getD j Aj).ps,.bool true]) [] ho (.b hb (.r rfl)))⟩
 ·have e2:uw m a=false:=by unfold uw;rw[zf.2 ⟨j,by rw[xI] at hj;exact hj,hb⟩];rfl
  rw[e2];exact⟨.inr rfl,[.bool false],by kernel_rfl,rfl⟩
 have e2:uw m a=true:=by
  unfold uw;cases h:m.any (bC a)
  ·rfl
  obtain⟨j,hj,hc⟩:=zf.1 h;rw[hb j (by rw[xI];exact hj)] at hc;cases hc
 rw[e2];exact⟨.inr rfl,[.bool true],by kernel_rfl,rfl⟩
set_option maxRecDepth 20000 in
theorem aiz (hm:m.length<LL):qH X0 Tryz.prog (ApN (n+1)) (.fn 113 [] []) [.ptr 1 0 9,.int .u64 a] (Hq s o f g m) (.bool (uy m a)) (Hq s o f g m):=by
 refine abx (X:=X0) (P:=Tryz.prog) (T:=T) (L:=LL) (n:=n) (f:=113) (first:=[]) (cap:=[]) (xs:=[.ptr 1 0 9,.int .u64 a]) (H:=Hq s o f g m) (v:=.bool (uy m a)) (t:=fnP Tryz.prog 113) (tv:=.bool (uy m a)) hX (by kernel_rfl) (by kernel_rfl) (by kernel_rfl) (by kernel_rfl) (by kernel_rfl) ?_;refine I9 (kX:=a0R) (r0:=cR0 bdE) (r1:=cR1 bdE) (x:=cX bdE) (r6:=cR6 bdE) (ops:=a7a (Gg (cLb bdE))) (draw:=false) (i0:=0) (i1:=1) (id:=2) (it:=10) (nx:=11) (mo:=12) (b:=2) (r:=0) (n:=(D8 m).length) (es:=D8 m) (bad:=fun j=>bE a (m.getD j Aj))
  (s1:=⟨[(0,.val (.ptr 1 0 9)),(1,.val (.int .u64 a))],[],Hq s o f g m⟩) (sI:=⟨[(1,.val (.int .u64 a)),(10,.val (.iter 2))],[],Hq s o f g m++[.bn 0 (D8 m).length []]⟩)
  (sR:=fun seen=>⟨[(1,.val (.int .u64 a)),(10,.val (.iter 2))],[],Hq s o f g m++[.bn 0 (D8 m).length seen]⟩)
  (sX:=fun j e seen=>⟨[(1,.val (.int .u64 a)),(10,.val (.iter 2)),(23,.val (.lit false))],[(m.getD j Aj).ps],Hq s o f g m++[.bn 0 (D8 m).length seen]⟩)
  (sE:=fun seen=>⟨[(4,.val (.lit true))],[],Hq s o f g m++[.bn 0 (D8 m).length seen]⟩)
  (sB:=fun j e seen=>⟨[(4,.val (.lit false))],[(m.getD j Aj).ps],Hq s o f g m++[.bn 0 (D8 m).length seen]⟩)
  hX hO (by kernel_rfl) (by kernel_rfl) (by kernel_rfl) (by kernel_rfl) (by kernel_rfl) ?_ ?_ (by kernel_rfl) (fun j e seen=>by kernel_rfl) (by kernel_rfl) (of_decide_eq_true (by kernel_rfl)) (of_decide_eq_true (by kernel_rfl)) (fun seen=>by kernel_rfl) (fun seen=>by kernel_rfl) (fun seen=>by kernel_rfl) rfl (by rw[xI];exact hm) (fun seen=>by kernel_rfl) (fun seen e=>by kernel_rfl) (fun seen=>?_) (fun j e seen he=>?_) (fun j e seen hj hb=>?_) (fun hb seen=>?_)
 ·exact SN hX hO (an:=.n) (by kernel_rfl) (.r rfl)
 ·exact SN hX hO (an:=.n) (by kernel_rfl) (.r rfl)
 ·exact SN hX hO (an:=.n) (by kernel_rfl) (.r rfl)
 ·have ho:=he;obtain rfl:=Og he;have ho:(D8 m).length=(D8 m).length∧(D8 m)[j]? = some (.agg (m.getD j Aj).ps,.bool true):=⟨rfl,ho⟩;refine⟨fun hb=>?_,fun hb=>?_⟩
  ·unfold bE at hb;have h1:(L8 a (m.getD j Aj).facts==0)=true:=by revert hb;cases (L8 a (m.getD j Aj).facts==0)<;>simp
   have h2:(!(m.getD j Aj).goal)=true:=by rw[h1] at hb;simpa using hb
   exact SN hX hO (by kernel_rfl) (.c (.bH [.agg (m.getD j Aj).ps,.bool true]) [] ho (.b h1 (.b h2 (.r rfl))))
  unfold bE at hb;cases h1:(L8 a (m.getD j Aj).facts==0)
  ·exact SN hX hO (by kernel_rfl) (.c (.bH [.agg (m.getD j Aj).ps,.bool true]) [] ho (.b h1 (.r rfl)))
  have h2:(!(m.getD j Aj).goal)=false:=by rw[h1] at hb;simpa using hb
  exact SN hX hO (by kernel_rfl) (.c (.bH [.agg (m.getD j Aj).ps,.bool true]) [] ho (.b h1 (.b h2 (.r rfl))))
 ·have e2:uy m a=false:=by unfold uy;rw[zf.2 ⟨j,by rw[xI] at hj;exact hj,hb⟩];rfl
  rw[e2];exact⟨.inr rfl,[.bool false],by kernel_rfl,rfl⟩
 have e2:uy m a=true:=by
  unfold uy;cases h:m.any (bE a)
  ·rfl
  obtain⟨j,hj,hc⟩:=zf.1 h;rw[hb j (by rw[xI];exact hj)] at hc;cases hc
 rw[e2];exact⟨.inr rfl,[.bool true],by kernel_rfl,rfl⟩
end
end Go.Proofs.YtjkgcifieggcpaaGreat
namespace Tw
open Go
noncomputable section
section
variable (P:Program) (call:ay) (site:Nat->Bool) (s:St)
theorem adu {P:Program} {T:iF} {L n f:Nat} (hm:P.follows .mixedOrders=true) (hE:aj P T.ext) (hr:isT (RY P T (jA P T L n) L f [] [])=true):aj P (a5Y f true):=by
 obtain⟨h0,hr⟩:∃ h0,RY P T (jA P T L n) L f [] []=some (.bool true,h0,[]):=by
  unfold isT at hr;split at hr
  ·exact⟨_,‹_›⟩
  ·cases hr
 intro fv args h v h' ws hc M w x xs hV hl hx yj;unfold a5Y at hc;split at hc
 ·rename_i g;split at hc
  ·rename_i hg;subst hg;cases hc;cases hx with
   | fn h1 h2 h3 h4=>
    rename_i ys zs;have hy:ys=[]:=List.eq_nil_of_length_eq_zero h1.symm;have hz:zs=[]:=List.eq_nil_of_length_eq_zero h3.symm;have hxx:xs=[]:=List.eq_nil_of_length_eq_zero yj.len.symm;subst hy hz hxx;have h0:lK (fun _=>none) [] w:=⟨⟨by simp,by simp,by simp⟩,by simp⟩;obtain⟨fn,c,e1,e2,e3,e4⟩:=E8 hm (dF (L:=L) hm hE n) (Yz▸hr) h0 (xs:=[]) .nil;refine⟨{ target:=.fn (.func g) #[],args:=#[] },fun w=>by simp[Deferred.ofValue],.inl ⟨⟨g,#[],?_,fun n=>?_⟩,_,[],[],rfl⟩⟩
    ·have OI : ¬ fn.name = "runtime.NumGoroutine" := (by simpa using e2);simp[invoke,callFunc,program,Sem.run,e1,OI,e3]
    ·refine (e4 n).mono fun e w' hR=>?_;cases e with
     | panicked c=>exact hR.elim
     | outgrown=>exact hR.elim
     | returned v=>
      obtain⟨M2,_,_,hX,WU⟩:=hR;cases WU;have hf:∀ c,c<w.heap.size->w'.heap[c]? = w.heap[c]?:=fun c hc=>hX.frame c hc (by simp);refine⟨M,⟨fun k l hk hd=>?_,hV.own,fun k l hk c hc=>Nat.lt_of_lt_of_le (hV.inb k l hk c hc) hX.size⟩,hl,⟨.refl M,fun c hc _=>hf c hc,fun _ _ _=>rfl,fun _ _ _=>rfl,fun k l hk c hc _=>⟨l,hk,hc⟩,hX.size,fun _ h=>h,by simp,by simp,hX.os,hX.output,hX.tape⟩,.bool _⟩;obtain⟨b,g1,g2⟩:=hV.ok k l hk hd;exact⟨b,g1,g2.mono (.refl _) fun c hc=>hf c (hV.inb k l hk c hc)⟩
  ·cases hc
 ·cases hc
open Go.ChangeShapes Go.WideShapes Go.RowKit
end
end
open Go Go.ChangeShapes Go.WideShapes Go.RowKit
theorem a7Y {H:Type} {enc:TypeId×Value->H} {P:Program} {w:World} {t:TypeId} {ts:List TypeId} {vs:List Value} {ds:List (DataW H)} {ps:List MemPlace} (h:DataW.TrodAll enc P w 0 (fun _=>true) true (t::ts) vs ds ps):∃ d e,ds=d::e∧Rd enc P w t d∧∃ vs ps,DataW.TrodAll enc P w 0 (fun _=>true) true ts vs e ps:=by
 obtain⟨v,vs',d,ds',p,q,rfl,rfl,rfl,⟨fuel,hd⟩,JE⟩:=trodAll_cons h;exact⟨d,ds',rfl,⟨_,fuel,p,hd⟩,_,_,JE⟩
section
variable {H:Type} {P:Program} {g:Nat} {t:TypeId} {ts:List TypeId} {d:DataW H} {ds:List (DataW H)} {h h1 h2:List HB} {xs:List TV}
theorem ag7 {cs:List TV} (ha:oL P t=some true) (he:QW P g t d h=some (cs,h1)) (hr:Um P g ts ds h1=some (xs,h2)):Um P g (t::ts) (d::ds) h=some (.agg cs::xs,h2):=by
 simp only[Um,he,ha,hr]
theorem ag8 {x:TV} (ha:oL P t=some false) (he:QW P g t d h=some ([x],h1)) (hr:Um P g ts ds h1=some (xs,h2)):Um P g (t::ts) (d::ds) h=some (x::xs,h2):=by
 simp only[Um,he,ha,hr]
theorem ag9:Um (H:=H) P g [] [] h=some ([],h):=rfl
end
end Tw
namespace Pv
open Go Tw
section
variable {X:iR} {P:Program} {H:Type} {xu:TypeId×Value->H} {w:World}
abbrev AT:Nat->Prop:=fun _=>True
def RdP (xu:TypeId×Value->H) (X:iR) (P:Program) (w:World) (g t:Nat) {α:Type} (ps:α->List (PV X.Γ)) (Q:α->Prop):Prop:=
 ∀ d,Rd xu P w t d->∃ a,Q a∧∀ h,∃ xs ext,QW P g t d h=some (xs,h++ext)∧∀ e,aH X P AT [] (h++ext++e) (ps a) xs
theorem abz {t g:Nat} {k:IntKind} (ht:P.underlying t=some (.int k)):RdP xu X P w (g+1) t (fun n:Int=>[.int k n]) (fun n=>(Lit.int k n).wf=true):=fun d hd=>by
 obtain⟨n,rfl,hn⟩:=afs ht hd;exact⟨n,hn,fun h=>⟨[.int k n],[],by simp[QW,ht],fun e=>.cons (.int _ _) .nil⟩⟩
theorem a7Z {e g sz:Nat} {Q:X.Γ e->Prop} (hlen:∀ a,(X.enc e a).length=sz) (hr:RdP xu X P w g e (X.enc e) Q):∀ (ds:List (DataW H)),(∀ y∈ds,Rd xu P w e y) ->
  ∃ l:List (X.Γ e),l.length=ds.length∧(∀ a∈l,Q a)∧∀ h,∃ cs ext,Uj (QW P g e) sz ds h=some (cs,h++ext)∧cs.length=l.length*sz∧∀ e2 (j:Nat) a (i:Nat) c v,l[j]? = some a->(X.enc e a)[i]? = some c->cs[j*sz+i]? = some v->VR X P AT [] (h++ext++e2) c v
 | [],_=>⟨[],rfl,by simp,fun h=>⟨[],[],by simp[Uj],by simp,fun e2 j a i c v h1=>by simp at h1⟩⟩
 | d::ds,hd=>by
  obtain⟨a,qa,ha⟩:=hr d (hd d (List.mem_cons_self ..));obtain⟨l,l1,l2,l3⟩:=a7Z hlen hr ds fun y hy=>hd y (List.mem_cons_of_mem _ hy);refine⟨a::l,by simp[l1],fun b hb=>(List.mem_cons.1 hb).elim (fun e=>e▸qa) (l2 b),fun h=>?_⟩;obtain⟨xs,e1,h1,v1⟩:=ha h;obtain⟨cs,e2,h2,c2,v2⟩:=l3 (h++e1);have hx:xs.length=sz:=by rw[<-(v1 []).1];exact hlen a
  refine⟨xs++cs,e1++e2,?_,by simp only[List.length_append,List.length_cons,hx,c2,Nat.add_mul];omega,fun e3 j b i c v hj hi hv=>?_⟩
  ·simp only[Uj,h1,hx,if_true,h2,List.append_assoc]
  ·cases j with
   | zero=>
    simp only[List.getElem?_cons_zero,Option.some.injEq] at hj;subst hj;have WS:i<sz:=by rw[<-hlen a];exact (List.getElem?_eq_some_iff.1 hi).1
    rw[Nat.zero_mul,Nat.zero_add,List.getElem?_append_left (by omega)] at hv;have:=(v1 (e2++e3)).2 i c v hi hv;simp only[List.append_assoc] at this ⊢;exact this
   | succ j=>
    rw[List.getElem?_cons_succ] at hj;rw[List.getElem?_append_right (by rw[hx,Nat.add_mul];omega),hx,show (j+1)*sz+i-sz=j*sz+i by rw[Nat.add_mul];omega] at hv;have:=v2 e3 j b i c v hj hi hv;simp only[List.append_assoc] at this ⊢;exact this
theorem a3M {t e g sz:Nat} {Q:X.Γ e->Prop} (ht:P.underlying t=some (.slice e)) (nR:P.cellsOf e=sz) (hz:aZ P e=some sz) (h0:0<sz) (hlen:∀ a,(X.enc e a).length=sz) (hr:RdP xu X P w g e (X.enc e) Q):RdP xu X P w (g+1) t (fun l:List (X.Γ e)=>[.bK e l false]) (fun l=>∀ a∈l,Q a):=fun d hd=>by
 rcases acv ht hd with rfl | ⟨xs,ys,rfl,hy⟩
 ·exact⟨[],by simp,fun h=>⟨[.nil .slc],[],by simp[QW,ht],fun e=>.cons .jZ .nil⟩⟩
 ·obtain⟨l,l1,l2,l3⟩:=a7Z hlen hr (xs++ys) hy;have hl:xs.length<=l.length:=by rw[l1,List.length_append];omega
  refine⟨l.take xs.length,fun a ha=>l2 a (List.mem_of_mem_take ha),fun h=>?_⟩;obtain⟨cs,e1,h1,c1,v1⟩:=l3 h;refine⟨[.slc (h++e1).length 0 xs.length (xs.length+ys.length) sz true],e1++[.cells .ro cs],?_,fun e2=>.cons ?_ .nil⟩
  ·have dZ:¬sz=0:=(by omega);simp only[QW,ht,nR,h1,dZ,if_false,List.append_assoc]
  ·have hln:(l.take xs.length).length=xs.length:=(by rw[List.length_take,Nat.min_eq_left hl]);have hb:(h++(e1++[HB.cells .ro cs])++e2)[(h++e1).length]? = some (.cells .ro cs):=by
    rw[show h++(e1++[HB.cells .ro cs])++e2=(h++e1)++(HB.cells .ro cs::e2) by simp,List.getElem?_append_right (Nat.le_refl _),Nat.sub_self];rfl
   have qP:(l.take xs.length).length<=xs.length+ys.length:=(by omega);have LD:∀ (j:Nat) a,(l.take xs.length)[j]? = some a->l[j]? = some a:=fun j a hj=>by
    rw[List.getElem?_take] at hj;split at hj
    ·exact hj
    ·cases hj
   have hle:(l.take xs.length).length*sz<=cs.length:=by rw[c1,hln];exact Nat.mul_le_mul_right sz hl
   generalize xs.length+ys.length=cp at qP ⊢;generalize l.take xs.length=l' at qP LD hle hln ⊢;rw[<-hln];exact VR.bK (X:=X) (P:=P) (A:=AT) (m:=[]) (t:=e) (l:=l') (fu:=false) (b:=(h++e1).length) (off:=0) (cap:=cp) (sz:=sz) (ex:=true) (cs:=cs) trivial (by unfold aB;rw[hb]) (fun _=>by unfold iw;rw[hb];simp) hz h0 (by omega) qP (by simp) (fun j a _=>hlen a) (fun j a i c v hj hi hv=>by
    rw[Nat.zero_add] at hv;have:=v1 ([HB.cells .ro cs]++e2) j a i c v (LD j a hj) hi hv;simp only[List.append_assoc] at this ⊢;exact this)
def RdF (xu:TypeId×Value->H) (X:iR) (P:Program) (w:World) (g o:Nat) (fs:List Field) {α:Type} (ps:α->List (PV X.Γ)) (Q:α->Prop):Prop:=
 ∀ ds:List (DataW H),ds.length=fs.length->(∀ (i:Nat) f d,fs[i]? = some f->ds[i]? = some d->Rd xu P w f.type d)->∃ a,Q a∧∀ h,∃ xs ext,Nb P (QW P g) o fs ds h=some (xs,h++ext)∧∀ e,aH X P AT [] (h++ext++e) (ps a) xs
theorem a3N {g o:Nat}:RdF xu X P w g o [] (fun _:Unit=>[]) (fun _=>True):=fun ds hl _=>by
 have:=List.eq_nil_of_length_eq_zero hl;subst this;exact⟨(),trivial,fun h=>⟨[],[],by simp[Nb],fun e=>.nil⟩⟩
theorem wC {g o n:Nat} {f:Field} {fs:List Field} {α β:Type} {p1:α->List (PV X.Γ)} {p2:β->List (PV X.Γ)} {Q1:α->Prop} {Q2:β->Prop} (ho:f.offset=o) (hc:P.cellsOf f.type=n) (hn:∀ a,(p1 a).length=n) (h1:RdP xu X P w g f.type p1 Q1) (h2:RdF xu X P w g (o+n) fs p2 Q2):RdF xu X P w g o (f::fs) (fun x:α×β=>p1 x.1++p2 x.2) (fun x=>Q1 x.1∧Q2 x.2):=fun ds hl hd=>by
 cases ds with
 | nil=>cases hl
 | cons d ds=>
  obtain⟨a,qa,ha⟩:=h1 d (hd 0 f d rfl rfl);obtain⟨b,qb,hb⟩:=h2 ds (by simpa using hl) fun i f' d' e1 e2=>hd (i+1) f' d' e1 e2;refine⟨(a,b),⟨qa,qb⟩,fun h=>?_⟩;obtain⟨xs,e1,g1,v1⟩:=ha h;obtain⟨ys,e2,g2,v2⟩:=hb (h++e1);have hx:xs.length=n:=by rw[<-(v1 []).1];exact hn a
  refine⟨xs++ys,e1++e2,?_,fun e=>?_⟩
  ·simp only[Nb,g1,ho,hx,hc,and_self,if_true,g2,List.append_assoc]
  ·have w1:=v1 (e2++e);have w2:=v2 e;simp only[List.append_assoc] at w1 w2 ⊢;exact w1.app w2
theorem a15 {t g n:Nat} {fs:Array Field} {α:Type} {ps:α->List (PV X.Γ)} {Q:α->Prop} (ht:P.underlying t=some (.struct fs)) (hc:P.cellsOf t=n) (hn:∀ a,(ps a).length=n) (hf:RdF xu X P w g 0 fs.toList ps Q):RdP xu X P w (g+1) t ps Q:=fun d hd=>by
 obtain⟨ds,rfl,hl,Ij⟩:=abP ht hd;obtain⟨a,qa,ha⟩:=hf ds (by simpa using hl) fun i f d e1 e2=>Ij i f d (by simpa using e1) e2;refine⟨a,qa,fun h=>?_⟩;obtain⟨xs,e1,g1,v1⟩:=ha h;have hx:xs.length=n:=by rw[<-(v1 []).1];exact hn a
 refine⟨xs,e1,?_,v1⟩;rw[a8C ht,g1];simp[hx,hc]
theorem RdP.iso {t g:Nat} {α β:Type} {ps:α->List (PV X.Γ)} {Q:α->Prop} (h:RdP xu X P w g t ps Q) (f:α->β) {p2:β->List (PV X.Γ)} {Q2:β->Prop} (hp:∀ a,p2 (f a)=ps a) (hq:∀ a,Q a->Q2 (f a)):RdP xu X P w g t p2 Q2:=fun d hd=>by
 obtain⟨a,qa,ha⟩:=h d hd;exact⟨f a,hq a qa,fun h=>by rw[hp];exact ha h⟩
theorem aga {T:iF} {L n f:Nat} {vs:List (PV X.Γ)} {xs:List TV} {h:List HB} (hc:Con X P (Bd P T L (n+1)) f vs (PV.bool true) []) (hv:aH X P AT [] h vs xs):∃ h',Bd P T L (n+1) (TV.fn f [] []) xs h=some (TV.bool true,h',[]):=by
 obtain⟨x,h',m',c1,_,c3,_⟩:=hc AT h [] xs [] (fun _ _=>trivial) (by simpa using hv);have:x=TV.bool true:=by
  cases c3 with
  | bool=>rfl
  | gone hi _ _=>simp[aG] at hi
 subst this;exact⟨h',c1⟩
end
end Pv
namespace Go.Proofs.YtjkgcifieggcpaaGreat
open Go Tw Pv
section
variable {H:Type} {xu:TypeId×Value->H} {w:World}
abbrev RdX (xu:TypeId×Value->H) (w:World) (g t:Nat) {α:Type} (ps:α->List (PV bM)) (Q:α->Prop):Prop:=RdP xu X0 Tryz.prog w g t ps Q
theorem abA:Tryz.prog.cellsOf 3=1:=by kernel_rfl
theorem akK:Tryz.prog.cellsOf 5=1:=by kernel_rfl
theorem afb:Tryz.prog.cellsOf 79=2:=by kernel_rfl
theorem zI0:aZ Tryz.prog 3=some 1:=by kernel_rfl
theorem aeu {g:Nat}:RdX xu w (g+1) 3 (fun n:Int=>[.int .i64 n]) (fun n=>(Lit.int .i64 n).wf=true):=abz Tryz.underlying3
theorem rU8 {g:Nat}:RdX xu w (g+1) 5 (fun n:Int=>[.int .u8 n]) (fun n=>0<=n∧n<=255):=(abz Tryz.underlying5).iso id (fun _=>rfl) fun n h=>by
 simp only[Lit.wf,Bool.and_eq_true,decide_eq_true_eq] at h;exact h
theorem a9j {g:Nat}:RdX xu w (g+2) 22 (fun l:List Int=>[lI l]) (fun l=>∀ a∈l,(Lit.int .i64 a).wf=true):=a3M (e:=3) Tryz.underlying22 abA zI0 (by decide) (fun _=>rfl) aeu
theorem akL {g:Nat}:RdX xu w (g+2) 79 V.ps (fun v=>0<=v.f∧v.f<=255):=
 (a15 Tryz.underlying79 afb (fun _=>rfl) (wC rfl akK (fun _=>rfl) rU8 (wC rfl abA (fun _=>rfl) aeu a3N))).iso (fun x=>⟨x.1,x.2.1⟩) (fun _=>rfl) fun _ h=>h.1
theorem aiA:aZ Tryz.prog 79=some 2:=by kernel_rfl
theorem aiB {g:Nat}:RdX xu w (g+3) 24 (fun l:List V=>[lV l]) (fun l=>∀ v∈l,0<=v.f∧v.f<=255):=a3M (e:=79) Tryz.underlying24 afb aiA (by decide) (fun _=>rfl) akL
theorem adx:Tryz.prog.cellsOf 22=1:=by kernel_rfl
end
open Go Tw Pv gq
section
variable {H:Type} {xu:TypeId×Value->H} {w:World}
theorem aiC:Tryz.prog.cellsOf 102=2:=by kernel_rfl
theorem akM:aZ Tryz.prog 102=some 2:=by kernel_rfl
theorem aiD:Tryz.prog.cellsOf 25=1:=by kernel_rfl
theorem akN:Tryz.prog.cellsOf 24=1:=by kernel_rfl
theorem agb:Tryz.prog.cellsOf 27=5:=by kernel_rfl
theorem rBr {g:Nat}:RdX xu w (g+3) 102 Br.ps (fun b=>∀ a∈b.kids,(Lit.int .i64 a).wf=true):=
 (a15 Tryz.underlying102 aiC (fun _=>rfl) (wC rfl abA (fun _=>rfl) aeu (wC rfl adx (fun _=>rfl) a9j a3N))).iso (fun x=>⟨x.1,x.2.1⟩) (fun _=>rfl) fun _ h=>h.2.1
theorem akO {g:Nat}:RdX xu w (g+4) 25 (fun l:List Br=>[lBr l]) (fun l=>∀ b∈l,∀ a∈b.kids,(Lit.int .i64 a).wf=true):=a3M (e:=102) Tryz.underlying25 aiC akM (by decide) (fun _=>rfl) rBr
theorem ady {a:Int} (h:(Lit.int .i64 a).wf=true):W64 a:=by
 simp only[Lit.wf,Bool.and_eq_true,decide_eq_true_eq] at h;obtain⟨h1,h2⟩:=h;have e1:IntKind.i64.min=-(2^63):=by decide
 have e2:IntKind.i64.max=2^63-1:=by decide
 exact⟨by omega,by omega⟩
theorem rDg {g:Nat}:RdX xu w (g+5) 27 Dg.ps DgR:=
 (a15 Tryz.underlying27 agb (fun _=>rfl) (wC rfl adx (fun _=>rfl) a9j (wC rfl adx (fun _=>rfl) a9j (wC rfl akN (fun _=>rfl) aiB (wC rfl aiD (fun _=>rfl) akO (wC rfl abA (fun _=>rfl) aeu a3N)))))).iso (fun x=>⟨x.1,x.2.1,x.2.2.1,x.2.2.2.1,x.2.2.2.2.1⟩) (fun _=>rfl) fun x h=>by
  obtain⟨_,_,h3,h4,h5,_⟩:=h;refine⟨fun i hi k hk=>?_,ady h5,fun v hv=>(h3 v hv).1⟩;have hb:D6 ⟨x.1,x.2.1,x.2.2.1,x.2.2.2.1,x.2.2.2.2.1⟩ i∈x.2.2.2.1:=by
   show (x.2.2.2.1).getD i SK∈_;rw[List.getD,List.getElem?_eq_getElem hi];exact List.getElem_mem _
  refine ady (h4 _ hb _ ?_);rw[List.getD,List.getElem?_eq_getElem hk];exact List.getElem_mem _
end
open Go Tw Pv gq
def gLi (a:Int) (k:Nat) (y:List Int):List Int:=if a6W a k=true then y++[(k:Int)] else y
def a0r (a:Int):List Int:=uq (gLi a) 8 0 []
abbrev wLi (a:Int) (y:List Int) (i:Int) (x:List (Nat×PE bM)):aW bM:=⟨[(0,.val (.int .u64 a)),(3,.val (.own 0)),(6,xi i)]++x,[],[.list false false 3 y]⟩
theorem lLi {n:Nat} (hO:Ok n a0R) (a:Int):LpB n 116 0 0 (wLi a [] 0 []) (.exit 0) (wLi a (a0r a) 8 [(7,xl false)]):=by
 refine a0B (σ:=List Int) (N:=8) (g:=gLi a) (s0:=[]) (st:=fun i y=>wLi a y i []) (fin:=fun y=>wLi a y 8 [(7,xl false)]) (fun k y=>y.length<=k) (by kernel_rfl) (by decide) (Nat.le_refl 0) (fun j y hj hy=>by
  unfold gLi;split
  ·rw[List.length_append,List.length_singleton];omega
  omega) (fun j y hj hy m e p g9=>?_) (fun y _=>?_)
 ·unfold gLi at g9;have h0:(0:Int)<=(j:Int):=by omega
  have h2:y.length+[(j:Int)].length<=aO:=by simp only[List.length_singleton];unfold aO;omega
  cases h:a6W a j
  ·rw[h] at g9;exact round hX hO (by kernel_rfl) (.b (a2v hj) (.o h0 (.b h (.go g9))))
  rw[h,if_pos rfl] at g9;exact round hX hO (by kernel_rfl) (.b (a2v hj) (.o h0 (.b h (.o h2 (.goG [.gc [2]] g9)))))
 exact round hX hO (by kernel_rfl) (.b (a5U 8) .ex)
noncomputable def a9l:iO bM:=dL 116 (a1 pA) qA a0r np a0R
theorem aiE:Gd a9l:=abw.add fun n hO p hp=>dS hX hO (by kernel_rfl) (.wG [.flag 0] (lLi (n:=n) hO p) .rr)
def afc (k:Nat):Int:=a5e .u64 1 k
def adz (f:List Fc):Int:=IntKind.u64.wrap (a5e .u64 1 f.length-1)
def aiF (a b:Int):Int:=IntKind.u64.wrap (((BitVec.ofInt 64 a ||| BitVec.ofInt 64 b).toNat:Nat):Int)
def WOk (f:List Fc) (g:Dg):Prop:=(Yo g).1.length<=aO∧∀ k,k<(lW f).length->(cAt (lW f) k).length=(Yo g).1.length
theorem agc (l:List Pc):(ag5 l).length<=l.length:=by
 have:=RH (g:=g4W l) (m:=l.length) (k:=0) (s:=[]) (fun k y=>y.length<=k) (Nat.le_refl 0) fun j y _ _ h=>by
  unfold g4W;split
  ·omega
  rw[List.length_append,List.length_singleton];omega
 rw[Nat.zero_add] at this;exact this
theorem a8q {f:List Fc} {g:Dg}:(a0g f g).length<=(Yo g).1.length:=by
 have:=agc (a9g (lW f) (a9f (Yo g).1));rw[adr,a9M] at this;exact this
open Go Tw Pv gq
abbrev fAt (l:List Fc) (k:Nat):Dg:=(l.getD k Fc0).d
abbrev wRc (b:Nat) (s o:List Int) (f:List Fc) (i:Int) (x:List (Nat×PE bM)):aW bM:=⟨[(0,xL 3 s),(1,xL 3 o),(2,xL 66 f),(b,xi i)]++x,[],[]⟩
def cK1 (f:List Fc) (k:Nat):Bool:=a6t (fAt f k) != 0
def cK2 (s o:List Int) (f:List Fc) (k:Nat):Bool:=!(a0Q (s,o) (fAt f k))
def zR1 (s o:List Int) (f:List Fc):Unit⊕Nat->Ex×aW bM
 | .inl _=>(.exit 0,wRc 8 s o f f.length [(23,xl false)])
 | .inr k=>(.ret,⟨[(6,xi (a6t (fAt f k)))],[],[]⟩)
def zR2 (s o:List Int) (f:List Fc):Unit⊕Nat->Ex×aW bM
 | .inl _=>(.exit 2,wRc 10 s o f f.length [(38,xl false)])
 | .inr _=>(.ret,⟨[(6,xi 2)],[],[]⟩)
theorem lR1 {n:Nat} (hO:Ok n a9l) (s o:List Int) (f:List Fc) (hp:∀ k,k<f.length->DgP (fAt f k)) (hl:f.length<=aO):Lp n 66 0 (wRc 8 s o f 0 []) (zR1 s o f (pJ (cK1 f) f.length)).1 (zR1 s o f (pJ (cK1 f) f.length)).2:=by
 refine kN (st:=fun i _=>wRc 8 s o f i []) (g:=gS (cK1 f)) (out:=zR1 s o f) (fun _ _=>True) (by kernel_rfl) hl trivial (fun k u m hk _ ih=>?_) (fun _ _=>?_)
 ·have h9:=hp k hk;have h1:(fAt f k).order.length<=aO:=by have:=h9.o;unfold aO;omega
  have h2:(fAt f k).ends.length<=aO:=by have:=h9.e;omega
  unfold gS cK1;exact round hX hO (by kernel_rfl) (.b (a2v hk) (.o (bP hk) (.o h1 (.o h2 (.ls (.ou nofun) (.nx (ih _ trivial)))))))
 exact round hX hO (by kernel_rfl) (.b (a5U f.length) (.ou nofun))
theorem lR2 {n:Nat} (hO:Ok n a9l) (s o:List Int) (f:List Fc) (hp:∀ k,k<f.length->DgP (fAt f k)) (hl:f.length<=aO):Lp n 66 1 (wRc 10 s o f 0 []) (zR2 s o f (pJ (cK2 s o f) f.length)).1 (zR2 s o f (pJ (cK2 s o f) f.length)).2:=by
 refine kN (st:=fun i _=>wRc 10 s o f i []) (g:=gS (cK2 s o f)) (out:=zR2 s o f) (fun _ _=>True) (by kernel_rfl) hl trivial (fun k u m hk _ ih=>?_) (fun _ _=>?_)
 ·have h9:=hp k hk;have h1:(fAt f k).order.length<=aO:=by have:=h9.o;unfold aO;omega
  have h2:=h9.s;have hg:gS (cK2 s o f) k u=if (!(a0Q (s,o) (fAt f k)))=true then .inr k else .inl u:=rfl
  unfold a0Q at hg;cases h:(!(decide ((fAt f k).sizes=s)))
  ·have h3:decide ((fAt f k).sizes=s)=true:=(by simpa using h);rw[h3,if_pos rfl] at hg;rw[hg];exact round hX hO (by kernel_rfl) (.b (a2v hk) (.o (bP hk) (.o h2 (.b h (.o (bP hk) (.o h1 (.ls (.ou nofun) (.nx (ih _ trivial)))))))))
  have h3:decide ((fAt f k).sizes=s)=false:=by simpa using h
  have hg:gS (cK2 s o f) k u=.inr k:=by unfold gS cK2 a0Q;rw[h3];rfl
  rw[hg];exact round hX hO (by kernel_rfl) (.b (a2v hk) (.o (bP hk) (.o h2 (.b h (.ou nofun)))))
 exact round hX hO (by kernel_rfl) (.b (a5U f.length) (.ou nofun))
def a0k (s o:List Int) (f:List Fc):Int:=if (jy s o != 0)=true then jy s o else if decide ((f.length:Int)>8)=true then 5 else if G8 (pJ (cK1 f) f.length)=true then (if G8 (pJ (cK2 s o f) f.length)=true then 0 else 2) else a6t (fAt f (a2u 0 (pJ (cK1 f) f.length)))
noncomputable def aiG:iO bM:=dL 66 (a3 qA qA a6a) iA (fun p=>a0k p.1 p.2.1 p.2.2) (fun p=>[p.2.1.length<=aO,p.2.2.length<=aO,∀ k,k<p.2.2.length->DgP (fAt p.2.2 k)]) a9l
abbrev anR (s o:List Int) (f:List Fc) (k:Nat) (c d:Bool):PT bM:=(.s .n (.s .n (.z c (.a (.lg [] (zR1 s o f (.inl ())).1 (zR1 s o f (.inl ())).2) (.z d (.a (.lg [] (zR2 s o f (.inl ())).1 (zR2 s o f (.inl ())).2) .n) (.a (.lg [] (zR2 s o f (.inr 0)).1 (zR2 s o f (.inr 0)).2) .n))) (.a (.lg [] (zR1 s o f (.inr k)).1 (zR1 s o f (.inr k)).2) .n))))
theorem wwR (n:Nat) (s o:List Int) (f:List Fc) (k:Nat) (c d:Bool):(PK X0 Tryz.prog T a9l (qH X0 Tryz.prog (ApN n)) (KO X0 Tryz.prog T (ApN n) LL 66 0) LL 66 ((a3 qA qA a6a).put (s,o,f)) [] (anR s o f k c d)).map frz=.o (o.length<=aO) (.br (jy s o != 0) (.ret (some (iA.put (jy s o)))) (.br (decide ((f.length:Int)>8)) (.ret (some (iA.put 5))) (.br c (.o (Lp n 66 0 (wRc 8 s o f 0 []) (zR1 s o f (.inl ())).1 (zR1 s o f (.inl ())).2) (.br d (.o (Lp n 66 1 (wRc 10 s o f 0 []) (zR2 s o f (.inl ())).1 (zR2 s o f (.inl ())).2) (.ret (some (iA.put 0)))) (.o (Lp n 66 1 (wRc 10 s o f 0 []) (zR2 s o f (.inr 0)).1 (zR2 s o f (.inr 0)).2) (.ret (some (iA.put 2)))))) (.o (Lp n 66 0 (wRc 8 s o f 0 []) (zR1 s o f (.inr k)).1 (zR1 s o f (.inr k)).2) (.ret (some (iA.put (a6t (fAt f k))))))))):=by kernel_rfl
theorem akP:Gd aiG:=aiE.add fun n hO p hp=>by
 obtain⟨s,o,f⟩:=p;have h1:o.length<=aO:=hp _ (.head _);have h2:f.length<=aO:=hp _ (.tail _ (.head _));have h3:∀ k,k<f.length->DgP (fAt f k):=hp _ (.tail _ (.tail _ (.head _)));have l1:=lR1 hO s o f h3 h2;have l2:=lR2 hO s o f h3 h2;show Con X0 Tryz.prog _ _ _ (iA.put (a0k s o f)) _;unfold a0k;exact dS hX hO (wwR n s o f (a2u 0 (pJ (cK1 f) f.length)) (G8 (pJ (cK1 f) f.length)) (G8 (pJ (cK2 s o f) f.length))) (.o h1 (.ss .rr (.ss .rr (.zh (fun h=>.w (pF l1 () h) (.zh (fun h'=>.w (pF l2 () h') .rr) (fun h'=>.w (rC l2 0 h') .rr))) (fun h=>.w (rC l1 0 h) .rr)))))
noncomputable def agd:iO bM:=dL 76 (a4 qA qA a6a dA) iA (fun p=>(if (a0k p.1 p.2.1 p.2.2.1 != 0)=true then a0k p.1 p.2.1 p.2.2.1 else if (a6t p.2.2.2 != 0)=true then a6t p.2.2.2 else if (!(decide (p.2.2.2.sizes=p.1)))=true then 2 else if (!(decide (p.2.2.2.order=p.2.1)))=true then 2 else 0)) (fun p=>[p.2.1.length<=aO,p.2.2.1.length<=aO,∀ k,k<p.2.2.1.length->DgP (fAt p.2.2.1 k),p.2.2.2.order.length<=aO,p.2.2.2.ends.length<=aO,p.2.2.2.sizes.length<=aO]) aiG
theorem akQ:Gd agd:=akP.add fun n hO p hp=>dS hX hO (by kernel_rfl) (.o (hp _ (.head _)) (.o (hp _ (.tail _ (.head _))) (.o (hp _ (.tail _ (.tail _ (.head _)))) (.ss .rr (.o (hp _ (.tail _ (.tail _ (.tail _ (.head _))))) (.o (hp _ (.tail _ (.tail _ (.tail _ (.tail _ (.head _)))))) (.ss .rr (.o (hp _ (.tail _ (.tail _ (.tail _ (.tail _ (.tail _ (.head _))))))) (.ss .rr (.o (hp _ (.tail _ (.tail _ (.tail _ (.head _))))) (.ss .rr .rr)))))))))))
open Go Tw Pv gq
structure adC (d:Dg):Prop where
 t:SL d
 n:d.nodes.length<=6000
 l:iE d=0
 f:nJ d.sizes
 o:d.order.length<=aO
 e:d.ends.length<=aO
def gLs (d:Dg) (k:Nat) (l:List V):List V:=l++[a6v d (a2x d.sizes k)]
theorem agf (d:Dg):uq (gLs d) (cnt d.sizes) 0 []=cellsD d:=by
 have:=RH (g:=gLs d) (m:=cnt d.sizes) (k:=0) (s:=[]) (fun k l=>l=(List.range k).map fun (k:Nat)=>a6v d (a2x d.sizes k)) rfl (fun j l _ _ e=>by rw[gLs,e,List.range_succ,List.map_append];rfl);rw[Nat.zero_add] at this;exact this
abbrev wLs (d:Dg) (y:List V) (i:Int) (x:List (Nat×PE bM)):aW bM:=⟨[(1,.loc 0 0),(3,.val (.own 0)),(4,xi i)]++x,[d.ps],[.list false false 79 y]⟩
theorem lLs {n:Nat} (hO:Ok n agd) (d:Dg) (h:adC d):LpB n 43 0 0 (wLs d [] 0 []) (.exit 0) (wLs d (cellsD d) (cnt d.sizes) [(12,xl false)]):=by
 have hs:d.sizes.length<=aO:=by have:=h.f.len;unfold aO;omega
 have hc:cnt d.sizes<=aO:=by have:=h.f.cnt;have:=h.f.a5W;have:=h.f.many;unfold aO;omega
 rw[<-agf d];refine a0B (σ:=List V) (N:=cnt d.sizes) (g:=gLs d) (s0:=[]) (st:=fun i y=>wLs d y i []) (fin:=fun y=>wLs d y (cnt d.sizes) [(12,xl false)]) (fun k y=>y.length=k) (by kernel_rfl) hc rfl (fun j y hj hy=>by simp[gLs,hy]) (fun j y hj hy m e p g9=>?_) (fun y _=>?_)
 ·have h2:y.length+[a6v d (a2x d.sizes j)].length<=aO:=by rw[hy,List.length_singleton];omega
  exact round hX hO (by kernel_rfl) (.o hs (.b (h.f.lt hj) (.o hs (.o h.f.sz (.o (show (0:Int)<=(j:Int) by omega) (.o (show (j:Int)<2^62 by unfold aO at hc;omega) (.o h.t (.o h.n (.o (a3S (j:Int) h.f.sz) (.o h2 (.goG [.gc [2]] g9)))))))))))
 exact round hX hO (by kernel_rfl) (.o hs (.b h.f.no .ex))
noncomputable def aiI:iO bM:=dL 43 (a1 dA) vsA cellsD (fun d=>[adC d]) agd
theorem akR:Gd aiI:=akQ.add fun n hO p hp=>by
 have h:adC p:=hp _ (.head _);have hb:(iE p != 0)=false:=by rw[h.l];rfl
 exact dS hX hO (by kernel_rfl) (.o h.o (.o h.e (.b hb (.wG [.Nv 3 79] (lLs (n:=n) hO p h) .rr))))
open Go Tw Pv gq
structure FaP (m:List (List Bool)) (g:List Bool):Prop where
 lm:m.length<=aO
 lg:g.length<=aO
 le:∀ k,k<m.length->(m.getD k []).length=g.length
section
variable {n:Nat} {m:List (List Bool)} {g:List Bool} (h:FaP m g) (bits:Int)
include h
end
open Go Tw Pv gq
noncomputable def agh:iO bM:=dL 22 (a1 qA) qA (fun p=>p) (fun p=>[p.length<=aO]) aiI
theorem akS:Gd agh:=akR.add fun n hO p hp=>dS hX hO (by kernel_rfl) (.o (hp _ (.head _)) .rr)
noncomputable abbrev wGn (d:Dg) (acc:List Br) (i:Int) (x:List (Nat×PE bM)):aW bM:=⟨[(1,.loc 0 0),(2,.loc 1 0),(3,.loc 2 0),(4,xi i)]++x,[d.ps,[.nil .slc,.nil .slc,.nil .slc,.nil .slc,.int .i64 0],[.bK 3 d.sizes false,.bK 3 d.order false,.own 0,.own 1,.int .i64 d.root]],[.list true false 79 d.ends,.list false false 102 acc]⟩
noncomputable abbrev adD:Br:=X0.d0 102
theorem lGn {n:Nat} {d:Dg} (hO:Ok n agh) (hl:d.nodes.length<=aO) (hr:∀ b∈d.nodes,b.kids.length<=aO):Lp n 60 0 (wGn d [] 0 []) (.exit 0) (wGn d d.nodes d.nodes.length [(21,xl false)]):=by
 have e:uq (fun k (a:List Br)=>a++[d.nodes.getD k adD]) d.nodes.length 0 []=d.nodes:=by
  rw[a8B,a3T d.nodes adD fun r=>r,List.map_id']
 rw[show wGn d d.nodes d.nodes.length [(21,xl false)]=wGn d (uq (fun k (a:List Br)=>a++[d.nodes.getD k adD]) d.nodes.length 0 []) d.nodes.length [(21,xl false)] by rw[e]];refine a0B (σ:=List Br) (N:=d.nodes.length) (g:=fun k (a:List Br)=>a++[d.nodes.getD k adD]) (s0:=([]:List Br)) (st:=fun i a=>wGn d a i []) (fin:=fun a=>wGn d a d.nodes.length [(21,xl false)]) (fun k a=>a.length=k) (by kernel_rfl) hl rfl (fun k a _ h=>by simp[h]) (fun k a hk ha m e p h=>?_) (fun a _=>?_)
 ·have hm:=hr (d.nodes.getD k adD) (by simp[List.getD,List.getElem?_eq_getElem hk]);have hal:a.length+1<=aO:=by have:a.length=k:=ha;omega
  exact round hX hO (by kernel_rfl) (.b (a2v hk) (.o (bP hk) (.o (bP hk) (.o hm (.o hal (.goG [.gc [0,3]] h))))))
 exact round hX hO (by kernel_rfl) (.b (a5U d.nodes.length) .ex)
noncomputable def agi:iO bM:=dL 60 (a1 dA) dA (fun p=>p) (fun p=>[p.sizes.length<=aO,p.order.length<=aO,p.ends.length<=aO,p.nodes.length<=aO,∀ b∈p.nodes,b.kids.length<=aO]) agh
theorem akU:Gd agi:=akS.add fun n hO p hp=>dS hX hO (by kernel_rfl) (.o (hp _ (.head _)) (.o (hp _ (.tail _ (.head _))) (.o (hp _ (.tail _ (.tail _ (.head _)))) (.wG [.a5f 2 3 102] (lGn hO (hp _ (.tail _ (.tail _ (.tail _ (.head _))))) (hp _ (.tail _ (.tail _ (.tail _ (.tail _ (.head _))))))) .rr))))
structure Few (d:Dg):Prop where
 s:d.sizes.length<=aO
 o:d.order.length<=aO
 e:d.ends.length<=aO
 n:d.nodes.length<=aO
 k:∀ b∈d.nodes,b.kids.length<=aO
abbrev wFa (l:List Fc) (acc:List Fc) (i:Int) (x:List (Nat×PE bM)):aW bM:=⟨[(0,xL 66 l),(3,.val (.own 0)),(4,xi i)]++x,[],[.list false false 66 acc]⟩
theorem agj {α:Type} (l:List α) (z:α):uq (fun k (a:List α)=>a++[l.getD k z]) l.length 0 []=l:=by
 rw[a8B,a3T l z fun r=>r,List.map_id']
theorem lFa {n:Nat} (hO:Ok n agi) (l:List Fc) (hl:l.length<=aO) (hp:∀ k,k<l.length->Few (fAt l k)):LpB n 23 0 0 (wFa l [] 0 []) (.exit 0) (wFa l l l.length [(8,xl false)]):=by
 have e:=agj l Fc0;rw[show wFa l l l.length [(8,xl false)]=wFa l (uq (fun k (a:List Fc)=>a++[l.getD k Fc0]) l.length 0 []) l.length [(8,xl false)] by rw[e]];refine a0B (σ:=List Fc) (N:=l.length) (g:=fun k (a:List Fc)=>a++[l.getD k Fc0]) (s0:=([]:List Fc)) (st:=fun i a=>wFa l a i []) (fin:=fun a=>wFa l a l.length [(8,xl false)]) (fun k a=>a.length=k) (by kernel_rfl) hl rfl (fun k a _ h=>by simp[h]) (fun k a hk ha m e p h=>?_) (fun a _=>?_)
 ·have h9:=hp k hk;have hal:a.length+[l.getD k Fc0].length<=aO:=by rw[ha,List.length_singleton];omega
  exact round hX hO (by kernel_rfl) (.b (a2v hk) (.o (bP hk) (.o (bP hk) (.o h9.s (.o h9.o (.o h9.e (.o h9.n (.o h9.k (.o hal (.goG [.gc [2]] h))))))))))
 exact round hX hO (by kernel_rfl) (.b (a5U l.length) .ex)
noncomputable def aiK:iO bM:=dL 23 (a1 a6a) a6a (fun p=>p) (fun p=>[p.length<=aO,∀ k,k<p.length->Few (fAt p k)]) agi
theorem akV:Gd aiK:=akU.add fun n hO p hp=>dS hX hO (by kernel_rfl) (.wG [.Nv 3 66] (lFa (n:=n) hO p (hp _ (.head _)) (hp _ (.tail _ (.head _)))) .rr)
abbrev wTd (d:Dg) (i:Int) (x:List (Nat×PE bM)):aW bM:=⟨[(1,.loc 0 0),(3,xi i)]++x,[d.ps],[]⟩
def cTd (d:Dg) (k:Nat):Bool:=decide (((d.nodes.getD k SK).kids.length:Int)>12)
def zTd (d:Dg):Unit⊕Nat->Ex×aW bM
 | .inl _=>(.exit 0,wTd d d.nodes.length [(30,xl false)])
 | .inr _=>(.ret,⟨[(2,xl false)],[d.ps],[]⟩)
theorem lTd {n:Nat} (d:Dg) (hl:d.nodes.length<=aO):LpB n 33 0 0 (wTd d 0 []) (zTd d (pJ (cTd d) d.nodes.length)).1 (zTd d (pJ (cTd d) d.nodes.length)).2:=by
 refine kN (st:=fun i _=>wTd d i []) (g:=gS (cTd d)) (out:=zTd d) (fun _ _=>True) (by kernel_rfl) hl trivial (fun k u m hk _ ih=>?_) (fun _ _=>?_)
 ·unfold gS cTd;exact round hX ok0 (by kernel_rfl) (.b (a2v hk) (.o (bP hk) (.ls (.ou nofun) (.nx (ih _ trivial)))))
 exact round hX ok0 (by kernel_rfl) (.b (a5U d.nodes.length) (.ou nofun))
def abB (s o:List Int):Bool:=if (jy s o != 0)=true then true else decide (BA s<=40)
def a1U (d:Dg):Bool:=if decide ((d.sizes.length:Int)>8)=true then false else if decide ((d.order.length:Int)>8)=true then false else if decide ((d.ends.length:Int)>62)=true then false else if decide ((d.nodes.length:Int)>70)=true then false else if G8 (pJ (cTd d) d.nodes.length)=true then abB d.sizes d.order else false
theorem a81 {n b:Nat} (hb:b<=aO) (h:decide ((n:Int)>(b:Int))=false):n<=aO:=by rw[decide_eq_false_iff_not] at h;omega
noncomputable def agk:iO bM:=dL 33 (a1 dA) tA a1U np aiK
theorem akY:Gd agk:=akV.add fun n hO d _=>by
 show Con X0 Tryz.prog _ _ _ (tA.put (a1U d)) _;unfold a1U;cases h1:decide ((d.sizes.length:Int)>8)
 ·cases h2:decide ((d.order.length:Int)>8)
  ·cases h3:decide ((d.ends.length:Int)>62)
   ·cases h4:decide ((d.nodes.length:Int)>70)
    ·have lp:=lTd (n:=n) d (a81 (b:=70) (by decide) h4);have ho:=a81 (b:=8) (by decide) h2;have hs:=a81 (b:=8) (by decide) h1;unfold abB;simp only[Bool.false_eq_true,if_false];exact dS hX hO (by kernel_rfl) (.b h1 (.b h2 (.b h3 (.b h4 (.zh (fun h=>.w (pF lp () h) (.o ho (.ss .rr (.o hs .rr)))) (fun h=>.w (rC lp 0 h) .rr))))))
    ·exact dS hX hO (by kernel_rfl) (.b h1 (.b h2 (.b h3 (.b h4 .rr))))
   ·exact dS hX hO (by kernel_rfl) (.b h1 (.b h2 (.b h3 .rr)))
  ·exact dS hX hO (by kernel_rfl) (.b h1 (.b h2 .rr))
 ·exact dS hX hO (by kernel_rfl) (.b h1 .rr)
open Go Tw Pv gq
structure Ca where
 s:List Int
 o:List Int
 f:List Fc
 g:Dg
noncomputable def caA:Arg Ca:=a5R (Yb (NW qA (NW qA (NW a6a (NW qA (a4 qA vsA Yh iA)))))) (fun p=>⟨p.1,p.2.1,p.2.2.1,⟨p.2.2.2.1,p.2.2.2.2.1,p.2.2.2.2.2.1,p.2.2.2.2.2.2.1,p.2.2.2.2.2.2.2⟩⟩) (fun c=>(c.s,c.o,c.f,c.g.sizes,c.g.order,c.g.ends,c.g.nodes,c.g.root)) fun _=>rfl
abbrev Ca.ps (c:Ca):List (PV bM):=[lI c.s,lI c.o,lFc c.f]++c.g.ps
abbrev wTh (c:Ca) (i:Int) (x:List (Nat×PE bM)):aW bM:=⟨[(1,.loc 0 0),(3,xi i)]++x,[c.ps],[]⟩
def cTh (c:Ca) (k:Nat):Bool:=!(a1U (fAt c.f k))
def zTh (c:Ca):Unit⊕Nat->Ex×aW bM
 | .inl _=>(.exit 0,wTh c c.f.length [(36,xl false)])
 | .inr _=>(.ret,⟨[(2,xl false)],[c.ps],[]⟩)
theorem lTh {n:Nat} (hO:Ok n agk) (c:Ca) (hl:c.f.length<=aO):LpB n 16 0 0 (wTh c 0 []) (zTh c (pJ (cTh c) c.f.length)).1 (zTh c (pJ (cTh c) c.f.length)).2:=by
 refine kN (st:=fun i _=>wTh c i []) (g:=gS (cTh c)) (out:=zTh c) (fun _ _=>True) (by kernel_rfl) hl trivial (fun k u m hk _ ih=>?_) (fun _ _=>?_)
 ·unfold gS cTh;exact round hX hO (by kernel_rfl) (.b (a2v hk) (.o (bP hk) (.ls (.ou nofun) (.nx (ih _ trivial)))))
 exact round hX hO (by kernel_rfl) (.b (a5U c.f.length) (.ou nofun))
def a0e (c:Ca):Bool:=if decide ((c.s.length:Int)>8)=true then false else if decide ((c.o.length:Int)>8)=true then false else if decide ((c.f.length:Int)>10)=true then false else if ((c.f.length:Int)==8)=true then false else if (!(a1U c.g))=true then false else if G8 (pJ (cTh c) c.f.length)=true then abB c.s c.o else false
noncomputable def aiL:iO bM:=dL 16 (a1 caA) tA a0e np agk
theorem al1:Gd aiL:=akY.add fun n hO c _=>by
 show Con X0 Tryz.prog _ _ _ (tA.put (a0e c)) _;unfold a0e;cases h1:decide ((c.s.length:Int)>8)
 ·cases h2:decide ((c.o.length:Int)>8)
  ·cases h3:decide ((c.f.length:Int)>10)
   ·cases h4:((c.f.length:Int)==8)
    ·cases h5:(!(a1U c.g))
     ·have lp:=lTh (n:=n) hO c (a81 (b:=10) (by decide) h3);have ho:=a81 (b:=8) (by decide) h2;have hs:=a81 (b:=8) (by decide) h1;unfold abB;simp only[Bool.false_eq_true,if_false];exact dS hX hO (by kernel_rfl) (.b h1 (.b h2 (.b h3 (.b h4 (.b h5 (.zh (fun h=>.w (pF lp () h) (.o ho (.ss .rr (.o hs .rr)))) (fun h=>.w (rC lp 0 h) .rr)))))))
     ·exact dS hX hO (by kernel_rfl) (.b h1 (.b h2 (.b h3 (.b h4 (.b h5 .rr)))))
    ·exact dS hX hO (by kernel_rfl) (.b h1 (.b h2 (.b h3 (.b h4 .rr))))
   ·exact dS hX hO (by kernel_rfl) (.b h1 (.b h2 (.b h3 .rr)))
  ·exact dS hX hO (by kernel_rfl) (.b h1 (.b h2 .rr))
 ·exact dS hX hO (by kernel_rfl) (.b h1 .rr)
def J3 (c:Ca):Int:=if (a0k c.s c.o c.f != 0)=true then a0k c.s c.o c.f else if (a6t c.g != 0)=true then a6t c.g else if (!(decide (c.g.sizes=c.s)))=true then 2 else if (!(decide (c.g.order=c.o)))=true then 2 else 0
structure CaP (c:Ca):Prop where
 p:aaS c.s c.o c.f c.g
 o:c.o.length<=aO
 d:∀ k,k<c.f.length->DgP (fAt c.f k)
 w:∀ k,k<c.f.length->Few (fAt c.f k)
 g:Few c.g
noncomputable def aiM:iO bM:=dL 30 (a1 caA) iA (fun p=>J3 p) (fun p=>[CaP p]) aiL
theorem al2:Gd aiM:=al1.add fun n hO p hp=>dS hX hO (by kernel_rfl) (have h:CaP p:=hp _ (.head _);.o h.o (.o h.p.lf (.o h.d (.o h.g.o (.o h.g.e (.o h.g.s .rr))))))
theorem agl {n:Nat}:Con X0 Tryz.prog (ApN (n+1)) 17 ((aa2:ajN Unit).put ()) ((tA:Arg Bool).put true) []:=by
 intro A h first args cap hup hv
 have e:=hv.inv0;have e1:first=[]:=by cases first with | nil=>rfl | cons=>cases e
 subst e1;have e2:args=[]:=by cases args with | nil=>rfl | cons=>cases e
 subst e2;have e3:cap=[]:=by cases cap with | nil=>rfl | cons=>cases e
 subst e3;exact⟨.bool true,h,[],rfl,⟨rfl,fun i b hb=>by simp at hb,by simp[aK],hup,fun b hb=>by simp[aK] at hb⟩,.bool _,.refl⟩
noncomputable def a7m:iO bM:=dL 17 aa2 tA (fun _=>true) np aiM
theorem aex:Gd a7m:=al2.deep 0 fun n hn hO p hp=>agl
open Go Tw Pv gq
theorem abC {σ ρ:Type} {g h:Nat->σ->σ⊕ρ}:∀ (m k:Nat) (s:σ),(∀ j s,k<=j->j<k+m->g j s=h j s)->RG g m k s=RG h m k s
 | 0,_,_,_=>rfl
 | m+1,k,s,e=>by
  simp only[RG];rw[e k s (Nat.le_refl _) (by omega)];cases h k s with
  | inl s1=>exact abC m (k+1) s1 fun j s h1 h2=>e j s (by omega) (by omega)
  | inr r=>rfl
theorem aey {c d:Nat->Bool} {n:Nat} (h:∀ k,k<n->c k=d k):pJ c n=pJ d n:=by
 unfold pJ;refine abC n 0 () fun j s _ hj=>?_;unfold gS;rw[h j (by omega)]
structure CaR (c:Ca):Prop where
 f:∀ k,k<c.f.length->DgR (fAt c.f k)
 g:DgR c.g
theorem a88 {d:Dg} (h:DgP d):(oJ d).2=a6t d:=by
 have ho:d.order.length<=aO:=by have:=h.o;unfold aO;omega
 rw[a5x h.r h.s ho h.e]
theorem a0F {d:Dg} (h:DgP d):Yo d=if (a6t d != 0)=true then ([],a6t d) else (cellsD d,0):=ad5 h.r h.s (by have:=h.o;unfold aO;omega) h.e
structure Usd (d:Dg):Prop where
 l:adC d
 c:(cellsD d).length=cnt d.sizes
 m:cnt d.sizes<=aO
 r:a6t d=0
theorem adE {d:Dg} (h:DgP d) (h0:a6t d=0):Usd d:=by
 have ho:d.order.length<=aO:=by have:=h.o;unfold aO;omega
 have he:d.ends.length<=aO:=by have:=h.e;omega
 have WW:=h0;have hl:iE d=0:=by
  unfold a6t at h0;split at h0
  ·exact h0
  rename_i h1;simpa using h1
 have hc:=wK ho he (by rw[hl];rfl);have hf:nJ d.sizes:=by
  have:(jy d.sizes d.order != 0)=false:=by
   cases e:jy d.sizes d.order != 0
   ·rfl
   unfold iE at hl;rw[if_pos e] at hl;rw[hl] at e;cases e
  exact O8 this
 exact⟨⟨hc.1,hc.2,hl,hf,ho,he⟩,by unfold cellsD;rw[List.length_map,List.length_range],hf.a4S,WW⟩
theorem a2F {f:List Fc} {k:Nat}:(lW f).getD k Dg0=fAt f k:=by
 unfold lW fAt;rw[List.getD_eq_getElem?_getD,List.getD_eq_getElem?_getD,List.getElem?_map];cases f[k]?<;>rfl
theorem a3O {f:List Fc}:(lW f).length=f.length:=List.length_map ..
theorem a8r {s o:List Int} {f:List Fc} (h:∀ k,k<f.length->DgP (fAt f k)):a6R s o f=a0k s o f:=by
 have e1:pJ (cCk (lW f)) (lW f).length=pJ (cK1 f) f.length:=by
  rw[a3O];exact aey fun k hk=>by unfold cCk cK1;rw[a2F,a88 (h k hk)]
 have e2:(!((lW f).all (a0Q (s,o))))=!(G8 (pJ (cK2 s o f) f.length)):=by
  congr 1;rw[Bool.eq_iff_iff,Jb,List.all_eq_true];constructor
  ·intro h1 j hj;unfold cK2;have hm:fAt f j∈lW f:=by rw[<-a2F];exact VG (by rw[a3O];exact hj)
   rw[h1 _ hm];rfl
  intro h1 d hd;obtain⟨x,hx,rfl⟩:=List.mem_map.1 hd;obtain⟨j,hj,rfl⟩:=List.mem_iff_getElem.1 hx;have:=h1 j hj;unfold cK2 fAt at this;rw[List.getD_eq_getElem?_getD,List.getElem?_eq_getElem hj] at this;simpa using this
 unfold a6R a0k;rw[e1,e2];cases hb:G8 (pJ (cK1 f) f.length)
 ·simp only[Bool.false_eq_true,if_false];obtain⟨j,hj,_,_,hr⟩:=a4v hb;rw[hr];show (if _ then _ else if _ then _ else (oJ ((lW f).getD j Dg0)).2)=_;rw[a2F,a88 (h j hj)];rfl
 simp only[if_true];cases G8 (pJ (cK2 s o f) f.length)<;>rfl
theorem abD {d:Dg} (h:a1U d=true):d.sizes.length<=8∧d.order.length<=8∧d.ends.length<=62∧d.nodes.length<=70∧∀ b∈d.nodes,b.kids.length<=12:=by
 unfold a1U at h;split at h
 ·cases h
 split at h
 ·cases h
 split at h
 ·cases h
 split at h
 ·cases h
 split at h
 ·rename_i h1 h2 h3 h4 h5;simp only[decide_eq_true_eq] at h1 h2 h3 h4;refine⟨by omega,by omega,by omega,by omega,fun b hb=>?_⟩;obtain⟨j,hj,rfl⟩:=List.mem_iff_getElem.1 hb;have h6:=Jb.1 h5 j hj;unfold cTd at h6;rw[List.getD_eq_getElem?_getD,List.getElem?_eq_getElem hj] at h6;simp only[Option.getD_some,decide_eq_false_iff_not] at h6;omega
 cases h
theorem adF {d:Dg} (h:a1U d=true):Few d:=by
 obtain⟨a,b,c,e,g⟩:=abD h;exact⟨by unfold aO;omega,by unfold aO;omega,by unfold aO;omega,by unfold aO;omega,fun x hx=>by have:=g x hx;unfold aO;omega⟩
theorem adG {d:Dg} (h:a1U d=true) (hr:DgR d):DgP d:=by
 obtain⟨a,b,c,_,_⟩:=abD h;exact⟨hr,by unfold aO;omega,by omega,by unfold aO;omega⟩
theorem a2A {c:Ca} (h:a0e c=true):c.s.length<=8∧c.o.length<=8∧c.f.length<=10∧c.f.length≠8∧a1U c.g=true∧∀ k,k<c.f.length->a1U (fAt c.f k)=true:=by
 unfold a0e at h;split at h
 ·cases h
 split at h
 ·cases h
 split at h
 ·cases h
 split at h
 ·cases h
 split at h
 ·cases h
 split at h
 ·rename_i h1 h2 h3 h4 h5 h6;simp only[decide_eq_true_eq] at h1 h2 h3;have h4:¬(c.f.length:Int)=8:=by simpa using h4
  refine⟨by omega,by omega,by omega,by omega,by simpa using h5,fun k hk=>?_⟩;have:=Jb.1 h6 k hk;unfold cTh at this;simpa using this
 cases h
theorem a18 {c:Ca} (h:a0e c=true) (hr:CaR c):CaP c:=by
 obtain⟨h1,h2,h3,h4,h5,h6⟩:=a2A h;have hd:∀ k,k<c.f.length->DgP (fAt c.f k):=fun k hk=>adG (h6 k hk) (hr.f k hk);refine⟨⟨by unfold aO;omega,by omega,by unfold aO;omega,fun d hd2=>?_,adG h5 hr.g⟩,by unfold aO;omega,hd,fun k hk=>adF (h6 k hk),adF h5⟩;obtain⟨x,hx,rfl⟩:=List.mem_map.1 hd2;obtain⟨j,hj,rfl⟩:=List.mem_iff_getElem.1 hx;have:=hd j hj;unfold fAt at this;rw[List.getD_eq_getElem?_getD,List.getElem?_eq_getElem hj] at this;exact this
theorem a3X {c:Ca} (p:CaP c):yS c.s c.o c.f c.g=J3 c:=by
 unfold yS J3;rw[a8r p.d,a0F p.p.lg];by_cases h1:(a0k c.s c.o c.f != 0)=true
 ·rw[if_pos h1,if_pos h1]
 rw[if_neg h1,if_neg h1];cases h2:(a6t c.g != 0)
 ·simp only[Bool.false_eq_true,if_false];show (if ((0:Int) != 0)=true then _ else _)=_;rw[if_neg (by decide)];unfold a0Q;cases decide (c.g.sizes=c.s)<;>cases decide (c.g.order=c.o)<;>rfl
 simp only[if_true];rw[h2,if_pos rfl]
structure NoE (c:Ca):Prop where
 n:c.f.length<=8
 u:∀ k,k<c.f.length->Usd (fAt c.f k)
 v:Usd c.g
 s:∀ k,k<c.f.length->(fAt c.f k).sizes=c.g.sizes
theorem a3z {c:Ca} (p:CaP c) (h:J3 c=0):NoE c:=by
 unfold J3 at h;split at h
 ·rename_i h1;rw[h] at h1;cases h1
 split at h
 ·rename_i h1;rw[h] at h1;cases h1
 split at h
 ·cases h
 split at h
 ·cases h
 rename_i h1 h2 h3 h4;have h1:a0k c.s c.o c.f=0:=by simpa using h1
 have h2:a6t c.g=0:=by simpa using h2
 have h3:c.g.sizes=c.s:=by simpa using h3
 unfold a0k at h1;split at h1
 ·rename_i h5;rw[h1] at h5;cases h5
 split at h1
 ·cases h1
 rename_i h5 h6;simp only[decide_eq_true_eq] at h6;split at h1
 ·rename_i h7;split at h1
  ·rename_i h8;refine⟨by omega,fun k hk=>adE (p.d k hk) ?_,adE p.p.lg h2,fun k hk=>?_⟩
   ·have:=Jb.1 h7 k hk;unfold cK1 at this;simpa using this
   have:=Jb.1 h8 k hk;unfold cK2 a0Q at this;rw[h3];cases e:decide ((fAt c.f k).sizes=c.s)
   ·rw[e] at this;cases this
   simpa using e
  cases h1
 rename_i h7;exfalso;cases hb:G8 (pJ (cK1 c.f) c.f.length)
 ·obtain⟨j,hj,hc,_,hr⟩:=a4v hb;rw[hr] at h1;have h1:a6t (fAt c.f j)=0:=h1;unfold cK1 at hc;rw[h1] at hc;cases hc
 exact h7 hb
theorem aez {c:Ca} (e:NoE c) {k:Nat} (hk:k<c.f.length):(cellsD (fAt c.f k)).length=(cellsD c.g).length:=by
 rw[(e.u k hk).c,e.v.c,e.s k hk]
open Go Tw Pv gq
abbrev R (n:Nat):List Nat:=List.range n
theorem agn:((R 128).all fun a=>(R 128).all fun b=>(L8 (a:Int) (b:Int)==0)==(R 7).all fun k=>!(a.testBit k)||b.testBit k)=true:=by kernel_rfl
theorem agp:((R 128).all fun a=>(R 7).all fun k=>decide (orB (a:Int) (k:Int)=((a ||| 2^k:Nat):Int))&&decide (aiF (a:Int) (afc k)=((a ||| 2^k:Nat):Int)))=true:=by kernel_rfl
theorem a9m {n:Nat} {p:Nat->Bool} (h:(R n).all p=true) {a:Nat} (ha:a<n):p a=true:=List.all_eq_true.1 h a (List.mem_range.2 ha)
theorem aiO {a b:Nat} (ha:a<128) (hb:b<128):(L8 (a:Int) (b:Int)==0)=(R 7).all fun k=>!(a.testBit k)||b.testBit k:=eq_of_beq (a9m (a9m agn ha) hb)
theorem aiP {a k:Nat} (ha:a<128) (hk:k<7):orB (a:Int) (k:Int)=((a ||| 2^k:Nat):Int)∧aiF (a:Int) (afc k)=((a ||| 2^k:Nat):Int):=by
 have h:=a9m (a9m agp ha) hk;simp only[Bool.and_eq_true,decide_eq_true_eq] at h;exact h
open Go Tw Pv gq
def mk (met:Nat->Nat->Bool) (i:Nat):Nat->Nat
 | 0=>0
 | j+1=>if met j i=true then mk met i j ||| 2^j else mk met i j
open Go Tw Pv gq
def Exp (n N:Nat) (met:Nat->Nat->Bool) (gl:Nat->Bool) (a:Nat):Prop:=∀ i,i<N->(∀ k,k<n->a.testBit k=true->met k i=true)->gl i=true
theorem Exp.mono {n N:Nat} {met:Nat->Nat->Bool} {gl:Nat->Bool} {a b:Nat} (h:Exp n N met gl a) (hb:∀ k,k<n->a.testBit k=true->b.testBit k=true):Exp n N met gl b:=fun i hi h2=>h i hi fun k hk ha=>h2 k hk (hb k hk ha)
theorem a9o {n:Nat} (h:n<=7):2^n<=128:=Nat.pow_le_pow_right (by decide) h
section
variable {c:Ca} (p:CaP c) (e:NoE c) (hn:c.f.length<=7)
include p e
theorem agq {k:Nat} (hk:k<c.f.length):cAt (lW c.f) k=cellsD (fAt c.f k):=by
 unfold cAt;rw[a2F,a0F (p.d k hk),(e.u k hk).r];rfl
theorem afd:(Yo c.g).1=cellsD c.g:=by rw[a0F p.p.lg,e.v.r];rfl
include hn
end
open Go Tw Pv gq
section
variable {c:Ca} (p:CaP c) (e:NoE c) (hn:c.f.length<=7)
include p e hn
end
theorem adH (a:Int):(a0r a).length<=aO:=by
 have:=RH (g:=gLi a) (m:=8) (k:=0) (s:=[]) (fun k y=>y.length<=k) (Nat.le_refl 0) fun j y _ _ h=>by
  unfold gLi;split
  ·rw[List.length_append,List.length_singleton];omega
  omega
 unfold a0r aO;omega
theorem aeA {X:iR} {P:Program} {H:Type} {xu:TypeId×Value->H} {w:World} {t g:Nat} (ht:P.underlying t=some .string):RdP xu X P w (g+1) t (fun s:ByteArray=>[.str s]) (fun _=>True):=fun d hd=>by
 obtain⟨bs,rfl⟩:=aft ht hd;exact⟨⟨bs.toArray⟩,trivial,fun h=>⟨[.str ⟨bs.toArray⟩],[],by simp[QW,ht],fun e=>.cons (.str _) .nil⟩⟩
section
variable {H:Type} {xu:TypeId×Value->H} {w:World}
theorem aiQ:Tryz.prog.cellsOf 9=1:=by kernel_rfl
theorem aiR:Tryz.prog.cellsOf 66=6:=by kernel_rfl
theorem al4:aZ Tryz.prog 66=some 6:=by kernel_rfl
theorem aiS:Tryz.prog.cellsOf 23=1:=by kernel_rfl
theorem al5:Tryz.prog.cellsOf 29=8:=by kernel_rfl
theorem rFc {g:Nat}:RdX xu w (g+6) 66 Fc.ps (fun x=>DgR x.d):=
 (a15 Tryz.underlying66 aiR (fun _=>rfl) (wC rfl aiQ (fun _=>rfl) (aeA Tryz.underlying9) (wC rfl agb (fun _=>rfl) rDg a3N))).iso (fun x=>⟨x.1,x.2.1⟩) (fun _=>rfl) fun _ h=>h.2.1
theorem al6 {g:Nat}:RdX xu w (g+7) 23 (fun l:List Fc=>[lFc l]) (fun l=>∀ x∈l,DgR x.d):=a3M (e:=66) Tryz.underlying23 aiR al4 (by decide) (fun _=>rfl) rFc
theorem rCa {g:Nat}:RdX xu w (g+8) 29 Ca.ps CaR:=
 (a15 Tryz.underlying29 al5 (fun _=>rfl) (wC rfl adx (fun _=>rfl) a9j (wC rfl adx (fun _=>rfl) a9j (wC rfl aiS (fun _=>rfl) al6 (wC rfl agb (fun _=>rfl) rDg a3N))))).iso (fun x=>⟨x.1,x.2.1,x.2.2.1,x.2.2.2.1⟩) (fun _=>rfl) fun x h=>by
  obtain⟨_,_,h3,h4,_⟩:=h;refine⟨fun k hk=>?_,h4⟩;have:=h3 _ (List.getElem_mem hk);show DgR ((x.2.2.1.getD k Fc0).d);rw[List.getD_eq_getElem?_getD,List.getElem?_eq_getElem hk];exact this
end
open Go Tw Pv gq
def chs (n:Nat):Nat->Nat->Nat->List Nat
 | 0,s,_=>[s]
 | k+1,s,i=>(List.range' i (n-k-i)).flatMap fun j=>chs n k (s ||| 2^j) (j+1)
def a3t (n:Nat):List Nat:=(R (n+1)).flatMap fun k=>chs n k 0 0
def a3Y (a b:Nat):Bool:=(R 7).all fun k=>!(a.testBit k)||b.testBit k
theorem agr:((R 8).all fun n=>(a3t n).all fun a=>Nat.blt a (2^n))=true:=by kernel_rfl
theorem aiT {n a:Nat} (hn:n<8) (ha:a∈a3t n):a<2^n:=by
 have:=List.all_eq_true.1 (a9m agr hn) a ha;simpa[Nat.blt_eq] using this
theorem adJ {a b:Nat}:a3Y a b=true↔∀ k,k<7->a.testBit k=true->b.testBit k=true:=by
 unfold a3Y;rw[List.all_eq_true];constructor
 ·intro h k hk ha;have:=h k (List.mem_range.2 hk);rw[ha] at this;simpa using this
 intro h k hk;cases ha:a.testBit k
 ·rfl
 rw[h k (List.mem_range.1 hk) ha];rfl
def fMi (φ:Nat->Bool) (out:List Nat) (s:Nat):List Nat:=if out.any (fun m=>a3Y m s)=true then out else if φ s=true then out++[s] else out
open Go Tw Pv gq
theorem a8a {σ:Type} {g h:Nat->σ->σ}:∀ (m k:Nat) (s:σ),(∀ j s,k<=j->j<k+m->g j s=h j s)->uq g m k s=uq h m k s
 | 0,_,_,_=>rfl
 | m+1,k,s,hs=>by
  rw[uq,uq,hs k s (Nat.le_refl _) (by omega)];exact a8a m (k+1) _ fun j s h1 h2=>hs j s (by omega) (by omega)
def stp {σ ρ:Type} (g:Nat->σ->σ⊕ρ):List Nat->σ->σ⊕ρ
 | [],s=>.inl s
 | a::l,s=>match g a s with
  | .inl s=>stp g l s
  | .inr r=>.inr r
theorem a8s {σ ρ:Type} {g:Nat->σ->σ⊕ρ}:∀ {l r:List Nat} {s:σ},stp g (l++r) s=match stp g l s with
  | .inl s=>stp g r s
  | .inr x=>.inr x
 | [],_,_=>rfl
 | a::l,r,s=>by
  rw[List.cons_append,stp,stp];cases g a s with
  | inl s=>exact a8s
  | inr x=>rfl
theorem a5S {g:Nat->List Nat->List Nat}:∀ {l:List Nat} {s:List Nat},stp (ρ:=Empty) (fun a s=>.inl (g a s)) l s=.inl (l.foldl (fun s a=>g a s) s)
 | [],_=>rfl
 | a::l,s=>by rw[stp,List.foldl_cons];exact a5S
open Go Tw Pv gq
abbrev HI (k ex:Bool) (l:List Int) (s:Int):List (PB bM):=[.list k ex 141 l,.cells [.int .u64 s]]
def a7n (m s:Int):Bool:=L8 m s==0
abbrev wIS (k ex:Bool) (l:List Int) (s:Int) (i:Int) (x:List (Nat×PE bM)):aW bM:=⟨[(0,.val (.own 0)),(1,.val (.fn 135 [] [.ptr 1 0 1])),(7,xi l.length),(8,xi i)]++x,[],HI k ex l s⟩
def zIS (k ex:Bool) (l:List Int) (s:Int):Unit⊕(Nat×Int×Unit)->Ex×aW bM
 | .inl _=>(.exit 0,wIS k ex l s l.length [(9,xl false)])
 | .inr r=>(.ret,⟨[(4,xi r.1)],[],HI k ex l s⟩)
section
variable {n:Nat} (hO:Ok n a7m)
include hO
theorem al8 (s m:Int):qH X0 Tryz.prog (ApN (n+1)) (.fn 135 [] [.ptr 0 0 1]) [.int .u64 m] [.cells [.int .u64 s]] (.bool (a7n m s)) [.cells [.int .u64 s]]:=
 dV (r:=tA) (s:=a7n m s) hX hO (first:=[]) (by kernel_rfl) .sr
theorem al9 (k ex:Bool) (l:List Int) (s:Int) (hl:l.length<=aO):qH X0 Tryz.prog (ApN (n+2)) (.fn 180 [] []) [.own 0,.fn 135 [] [.ptr 1 0 1]] (HI k ex l s) (iA.put (TL (fun m=>a7n m s) l)) (HI k ex l s):=by
 have lp:LpB (n+1) 180 0 2 (wIS k ex l s 0 []) (zIS k ex l s (a0i (Fa (fun m=>a7n m s)) l 0 ())).1 (zIS k ex l s (a0i (Fa (fun m=>a7n m s)) l 0 ())).2:=
  a7o (st:=fun i _=>wIS k ex l s i []) (0:Int) (fun _ _=>True) (by kernel_rfl) hl LLm trivial (fun j t n hk _ ih=>round hX ok0 (by kernel_rfl) (.b (a2v hk) (.o (bP hk) (.fr [1] (al8 hO s (l.getD j 0)) (.ls (.ou nofun) (.nx (ih _ trivial))))))) (fun s _=>round hX ok0 (by kernel_rfl) (.b (a5U l.length) (.ou nofun)))
 exact dV hX ok0 (first:=[]) (cap:=[]) (by kernel_rfl) (.szh (fun h=>.w (pF lp () h) .sr) (fun h=>.w (rC lp (0,0,()) h) .sr))
theorem ags (k ex:Bool) (l:List Int) (s:Int) (hl:l.length<=aO):qH X0 Tryz.prog (ApN (n+3)) (.fn 136 [] []) [.own 0,.fn 135 [] [.ptr 1 0 1]] (HI k ex l s) (tA.put (o8 (fun m=>a7n m s) l)) (HI k ex l s):=
 dV hX ok0 (first:=[]) (cap:=[]) (by kernel_rfl) (.k (al9 hO k ex l s hl) .sr)
end
open Go Tw Pv gq
def gLp {σ ρ:Type} (g:Nat->σ->σ⊕ρ) (n k a:Nat) (x:Nat×σ):(Nat×σ)⊕((Nat×σ)⊕ρ):=if x.1+k<n then (match stp g (chs n k (a ||| 2^x.1) (x.1+1)) x.2 with
  | .inl y=>.inl (x.1+1,y)
  | .inr r=>.inr (.inr r)) else .inr (.inl x)
theorem adK {σ ρ:Type} {g:Nat->σ->σ⊕ρ} {n k a:Nat}:∀ (c i:Nat) (y:σ),n-k-i=c->itF (gLp g n k a) (c+1) (i,y)=some (match stp g ((List.range' i c).flatMap fun j=>chs n k (a ||| 2^j) (j+1)) y with
  | .inl y=>.inl (i+c,y)
  | .inr r=>.inr r)
 | 0,i,y,h=>by
  rw[itF];unfold gLp;rw[if_neg (show ¬(i+k<n) by omega)];rfl
 | c+1,i,y,h=>by
  rw[itF,List.range'_succ,List.flatMap_cons,a8s];unfold gLp;rw[if_pos (show i+k<n by omega)];cases hz:stp g (chs n k (a ||| 2^i) (i+1)) y with
  | inl y1=>
   have ih:=adK (g:=g) (n:=n) (k:=k) (a:=a) c (i+1) y1 (by omega);rw[show i+1+c=i+(c+1) by omega] at ih;exact ih
  | inr r=>rfl
def gTp {σ ρ:Type} (g:Nat->σ->σ⊕ρ) (n:Nat) (x:Nat×σ):(Nat×σ)⊕((Nat×σ)⊕(Nat×ρ)):=if x.1<n+1 then (match stp g (chs n x.1 0 0) x.2 with
  | .inl y=>.inl (x.1+1,y)
  | .inr r=>.inr (.inr (x.1,r))) else .inr (.inl x)
def sT {σ ρ:Type}:(Nat×σ)⊕(Nat×ρ)->σ⊕ρ
 | .inl x=>.inl x.2
 | .inr x=>.inr x.2
theorem adL {σ ρ:Type} {g:Nat->σ->σ⊕ρ} {n:Nat}:∀ (c i:Nat) (y:σ),n+1-i=c->i<=n+1->∃ z,itF (gTp g n) (c+1) (i,y)=some z∧sT z=stp g ((List.range' i c).flatMap fun k=>chs n k 0 0) y∧(∀ x,z=.inl x->x.1=n+1)
 | 0,i,y,h,h2=>by
  refine⟨.inl (i,y),?_,rfl,fun x hx=>by cases hx;show i=_;omega⟩;rw[itF];unfold gTp;rw[if_neg (show ¬(i<n+1) by omega)]
 | c+1,i,y,h,h2=>by
  rw[itF,List.range'_succ,List.flatMap_cons,a8s];unfold gTp;rw[if_pos (show i<n+1 by omega)];cases hz:stp g (chs n i 0 0) y with
  | inl y1=>exact adL (g:=g) (n:=n) c (i+1) y1 (by omega) (by omega)
  | inr r=>exact⟨.inr (i,r),rfl,rfl,fun x hx=>by cases hx⟩
theorem aeB (n:Nat):a3t n=(List.range' 0 (n+1)).flatMap fun k=>chs n k 0 0:=by unfold a3t R;rw[List.range_eq_range']
theorem a9S {n:Nat}:∀ (k a i:Nat),a<2^n->∀ b,b∈chs n k a i->b<2^n
 | 0,a,i,ha,b,hb=>by
  simp only[chs,List.mem_singleton] at hb;rw[hb];exact ha
 | k+1,a,i,ha,b,hb=>by
  simp only[chs,List.mem_flatMap,List.mem_range'_1] at hb;obtain⟨j,⟨h1,h2⟩,h3⟩:=hb;exact a9S k _ _ (Nat.or_lt_two_pow ha (Nat.pow_lt_pow_right (by decide) (by omega))) b h3
theorem jle {j k n:Nat} (hn:n<8) (hk:k<8):decide ((j:Int)<=IntKind.i64.wrap ((n:Int)-((k+1:Nat):Int)))=decide (j+k<n):=by
 have:IntKind.i64.wrap ((n:Int)-((k+1:Nat):Int))=(n:Int)-((k+1:Nat):Int):=wrap_small (by omega) (by omega);rw[this,Bool.eq_iff_iff,decide_eq_true_iff,decide_eq_true_iff];omega
abbrev fCh (sb:Nat):PV bM:=.fn 179 [] [.ptr 9 0 1,.ptr sb 0 1,.ptr 10 0 1]
def oB {σ ρ:Type}:σ⊕ρ->Bool
 | .inl _=>true
 | .inr _=>false
section
variable {N:Nat} {s o:List Int} {f:List Fc} {g:Dg} {m:List Pc} {q:Nat} {φ:Nat->Bool}
theorem ala {n:Nat}:qH X0 Tryz.prog (ApN (n+1)) (.fn 134 [] []) [.ptr 1 0 9] (HT0 s o f g m) (.fn 178 [] [.ptr 2 0 1]) (HT0 s o f g m++[.cells [.ptr 1 0 9]]):=
 a2w hX ok0 (first:=[]) (cap:=[]) (by kernel_rfl) .er
end
open Go Tw Pv gq
abbrev a9T:List (Nat×PE bM):=[(2,.val (.ptr 2 0 1)),(3,.val (.ptr 3 0 1)),(4,.val (.ptr 4 0 1)),(8,.val (.fn 178 [] [.ptr 5 0 1]))]
noncomputable abbrev LRM (rd:Bool) (gK:Option Code):PB bM:=.loop rd 100 (ntP Tryz.prog 100) a9T [9] (a0D Tryz.prog 100) (a2q Tryz.prog 100) gK
abbrev lSt (l:List Nat):PB bM:=.list false false 141 (l.map fun a:Nat=>(a:Int))
noncomputable abbrev HqM (s o:List Int) (f:List Fc) (g:Dg) (m:List Pc) (q:Nat) (x:Nat) (l:PB bM):List (PB bM):=HT0 s o f g m++[.cells [.fn q [] []],.cells [.ptr 1 0 9],.cells [.own x],.cells [.ptr 1 0 9],l]
noncomputable abbrev A0M (s o:List Int) (f:List Fc) (g:Dg) (m:List Pc) (q:Nat) (y:List Nat):List (PB bM):=HqM s o f g m q 6 (lSt y)++[.mark,LRM true none]
noncomputable abbrev NMM (s o:List Int) (f:List Fc) (g:Dg) (m:List Pc) (q:Nat) (y:List Nat):List (PB bM):=A0M s o f g m q y++[.cells [.jk 8],.cells [fCh 5]]
noncomputable abbrev NEM (s o:List Int) (f:List Fc) (g:Dg) (m:List Pc) (q:Nat) (y:List Nat):List (PB bM):=HqM s o f g m q 11 .gone++[.mark,LRM true none,.cells [.jk 8],.cells [fCh 5],lSt y]
noncomputable abbrev NDM (s o:List Int) (f:List Fc) (g:Dg) (m:List Pc) (q:Nat) (r:Empty):List (PB bM):=r.elim
noncomputable def oMM (s o:List Int) (f:List Fc) (g:Dg) (m:List Pc) (q:Nat):(List Nat)⊕Empty->List (PB bM)
 | .inl y=>NEM s o f g m q y
 | .inr r=>NDM s o f g m q r
noncomputable abbrev aiU (s o:List Int) (f:List Fc) (g:Dg) (m:List Pc) (q:Nat) (a k:Nat) (j:Int) (x:(List Nat)) (y:List (Nat×PE bM)):aW bM:=⟨[(0,.val (.int .u64 (a:Int))),(2,.val (.int .i64 (k:Int))),(4,.val (.ptr 5 0 1)),(5,.val (.ptr 10 0 1)),(10,xi j)]++y,[],NEM s o f g m q x⟩
noncomputable abbrev w9M (s o:List Int) (f:List Fc) (g:Dg) (m:List Pc) (q:Nat) (a k:Nat) (x:Nat×(List Nat)) (y:List (Nat×PE bM)):aW bM:=aiU s o f g m q a k x.1 x.2 y
noncomputable def o9M (s o:List Int) (f:List Fc) (g:Dg) (m:List Pc) (q:Nat) (a k:Nat):(Nat×(List Nat))⊕Empty->Ex×aW bM
 | .inl x=>(.exit 0,w9M s o f g m q a k x [(25,xl false)])
 | .inr r=>(.ret,⟨[(9,xl false)],[],NDM s o f g m q r⟩)
noncomputable abbrev aiW (s o:List Int) (f:List Fc) (g:Dg) (m:List Pc) (q:Nat) (j:Int) (x:(List Nat)) (y:List (Nat×PE bM)):aW bM:=⟨[(3,.val (.ptr 10 0 1)),(11,xi (IntKind.i64.wrap (f.length+1))),(12,xi j)]++y,[],NEM s o f g m q x⟩
noncomputable abbrev w8M (s o:List Int) (f:List Fc) (g:Dg) (m:List Pc) (q:Nat) (x:Nat×(List Nat)) (y:List (Nat×PE bM)):aW bM:=aiW s o f g m q x.1 x.2 y
noncomputable def o8M (s o:List Int) (f:List Fc) (g:Dg) (m:List Pc) (q:Nat):(Nat×(List Nat))⊕(Nat×Empty)->Ex×aW bM
 | .inl x=>(.exit 0,w8M s o f g m q x [(13,xl false)])
 | .inr x=>(.exit 0,⟨[(3,.val (.ptr 10 0 1)),(11,xi (IntKind.i64.wrap (f.length+1))),(12,xi x.1),(18,.val (.lit true))],[],NDM s o f g m q x.2⟩)
section
variable {N:Nat} {s o:List Int} {f:List Fc} {g:Dg} {m:List Pc} {q:Nat} {φ:Nat->Bool}
theorem adN {a b:Nat} (ha:a<128) (hb:b<128):a7n (a:Int) (b:Int)=a3Y a b:=by
 unfold a7n a3Y;exact aiO ha hb
theorem a9V {l:List Nat} {a:Nat} (hl:∀ b∈l,b<128) (ha:a<128):o8 (fun m=>a7n m (a:Int)) (l.map fun a:Nat=>(a:Int))=l.any fun m=>a3Y m a:=by
 rw[a1i,List.any_map];rw[Bool.eq_iff_iff,List.any_eq_true,List.any_eq_true];constructor
 ·rintro⟨x,hx,h⟩;exact⟨x,hx,by rw[<-adN (hl x hx) ha];exact h⟩
 rintro⟨x,hx,h⟩;exact⟨x,hx,by show a7n (x:Int) (a:Int)=true;rw[adN (hl x hx) ha];exact h⟩
def gMn (φ:Nat->Bool) (a:Nat) (y:List Nat):List Nat⊕Empty:=.inl (fMi φ y a)
structure a0I (y:List Nat):Prop where
 lt:∀ b∈y,b<128
 nd:y.Nodup
theorem a9s:∀ {n:Nat} {l:List Nat},l.Nodup->(∀ b∈l,b<n)->l.length<=n
 | 0,l,_,h=>by
  cases l with
  | nil=>exact Nat.le_refl _
  | cons a l=>exact absurd (h a (.head _)) (by omega)
 | n+1,l,h1,h2=>by
  have h3:=a9s (n:=n) (l:=l.filter fun b=>decide (b≠n)) (h1.filter _) fun b hb=>by
   have ⟨k1,k2⟩:=List.mem_filter.1 hb;have:=h2 b k1;have:b≠n:=(by simpa using k2);omega
  have h4:∀ (l:List Nat),l.Nodup->l.length<=(l.filter fun b=>decide (b≠n)).length+1:=by
   intro l
   induction l with
   | nil=>intro _;simp
   | cons a l ih=>
    intro hd;obtain⟨hd1,hd2⟩:=List.nodup_cons.1 hd;rw[List.filter_cons];by_cases e:a=n
    ·subst e;have:(l.filter fun b=>decide (b≠a))=l:=List.filter_eq_self.2 fun b hb=>decide_eq_true fun e=>hd1 (e▸hb);rw[if_neg (by simp),this,List.length_cons];omega
    rw[if_pos (decide_eq_true e),List.length_cons,List.length_cons];have:=ih hd2;omega
  have:=h4 l h1;omega
theorem a0I.len {y:List Nat} (h:a0I y):y.length<=128:=a9s h.nd h.lt
theorem acd (a:Nat):a3Y a a=true:=adJ.2 fun k _ h=>h
theorem ace {φ:Nat->Bool} {a:Nat} {y:List Nat} (h:a0I y) (ha:a<128):a0I (fMi φ y a):=by
 unfold fMi;cases hc:y.any fun m=>a3Y m a
 ·rw[if_neg (by simp)];split
  ·refine⟨fun b hb=>?_,?_⟩
   ·rcases List.mem_append.1 hb with hb | hb
    ·exact h.lt b hb
    rw[List.mem_singleton.1 hb];exact ha
   refine a4i h.nd fun hm=>?_;have:(y.any fun m=>a3Y m a)=true:=List.any_eq_true.2 ⟨a,hm,acd a⟩;rw[hc] at this;cases this
  exact h
 rw[if_pos rfl];exact h
theorem yM0 (hO:∀ n,N<=n->Ok n a7m) {n a:Nat} (hn:N<=n) (ha:a<128) {y:List Nat} (hy:a0I y) (h:(y.any fun m=>a3Y m a)=true):qH X0 Tryz.prog (ApN (n+4)) (.jk 8) [.int .u64 (a:Int)] (NMM s o f g m q y) (.bool true) (NEM s o f g m q y):=by
 have hl:(y.map fun a:Nat=>(a:Int)).length<=aO:=by rw[List.length_map];have:=hy.len;unfold aO;omega
 have hc:=ags (hO n hn) false false (y.map fun a:Nat=>(a:Int)) (a:Int) hl;rw[a9V hy.lt ha,h] at hc;have q1:iq X0 Tryz.prog T (ApN (n+3)) LL 100 true (ntP Tryz.prog 100) 11 (a0D Tryz.prog 100) ⟨a0o a9T [9] [.int .u64 (a:Int)],[],NMM s o f g m q y⟩ .norm ⟨[(2,.val (.ptr 2 0 1)),(3,.val (.ptr 3 0 1)),(4,.val (.ptr 4 0 1)),(5,.val (.ptr 11 0 1))],[],HqM s o f g m q 6 (lSt y)++[.mark,LRM true none,.cells [.jk 8],.cells [fCh 5],.cells [.int .u64 (a:Int)]]⟩:=a1c hX ok0 (by kernel_rfl) .xx;have q2:iq X0 Tryz.prog T (ApN (n+3)) LL 100 true (ntP Tryz.prog 100) 11 (a2q Tryz.prog 100) ⟨[(2,.val (.ptr 2 0 1)),(3,.val (.ptr 3 0 1)),(4,.val (.ptr 4 0 1)),(5,.val (.ptr 11 0 1))],[],HqM s o f g m q 6 (lSt y)++[.mark,LRM false none,.cells [.jk 8],.cells [fCh 5],.cells [.int .u64 (a:Int)]]⟩ .norm ⟨[(4,.val (.ptr 4 0 1)),(5,.val (.ptr 11 0 1)),(21,xl false)],[],HqM s o f g m q 6 (lSt y)++[.mark,LRM false none,.cells [.jk 8],.cells [fCh 5],.cells [.int .u64 (a:Int)]]⟩:=a1c hX ok0 (by kernel_rfl) (.fr [6,11] hc (.b (rfl:(!true)=false) .xx));exact qH.gs hX (a4q hX (l:=8) rfl rfl (by kernel_rfl) q1 rfl q2 rfl) [.mv 6,.gc [12]] rfl
theorem yM1 (hO:∀ n,N<=n->Ok n a7m) (hq:∀ n,N<=n->∀ a:Nat,a<128->qH X0 Tryz.prog (ApN (n+3)) (.fn q [] []) [.ptr 1 0 9,.int .u64 (a:Int)] (Hq s o f g m) (.bool (φ a)) (Hq s o f g m)) {n a:Nat} (hn:N<=n) (ha:a<128) {y:List Nat} (hy:a0I y) (h:(y.any fun m=>a3Y m a)=false) (h2:φ a=false):qH X0 Tryz.prog (ApN (n+4)) (.jk 8) [.int .u64 (a:Int)] (NMM s o f g m q y) (.bool true) (NEM s o f g m q y):=by
 have hl:(y.map fun a:Nat=>(a:Int)).length<=aO:=by rw[List.length_map];have:=hy.len;unfold aO;omega
 have hc:=ags (hO n hn) false false (y.map fun a:Nat=>(a:Int)) (a:Int) hl;rw[a9V hy.lt ha,h] at hc;have q1:iq X0 Tryz.prog T (ApN (n+3)) LL 100 true (ntP Tryz.prog 100) 11 (a0D Tryz.prog 100) ⟨a0o a9T [9] [.int .u64 (a:Int)],[],NMM s o f g m q y⟩ .norm ⟨[(2,.val (.ptr 2 0 1)),(3,.val (.ptr 3 0 1)),(4,.val (.ptr 4 0 1)),(5,.val (.ptr 11 0 1))],[],HqM s o f g m q 6 (lSt y)++[.mark,LRM true none,.cells [.jk 8],.cells [fCh 5],.cells [.int .u64 (a:Int)]]⟩:=a1c hX ok0 (by kernel_rfl) .xx;have q2:iq X0 Tryz.prog T (ApN (n+3)) LL 100 true (ntP Tryz.prog 100) 11 (a2q Tryz.prog 100) ⟨[(2,.val (.ptr 2 0 1)),(3,.val (.ptr 3 0 1)),(4,.val (.ptr 4 0 1)),(5,.val (.ptr 11 0 1))],[],HqM s o f g m q 6 (lSt y)++[.mark,LRM false none,.cells [.jk 8],.cells [fCh 5],.cells [.int .u64 (a:Int)]]⟩ .norm ⟨[(4,.val (.ptr 4 0 1)),(5,.val (.ptr 11 0 1)),(21,xl false)],[],HqM s o f g m q 6 (lSt y)++[.mark,LRM false none,.cells [.jk 8],.cells [fCh 5],.cells [.int .u64 (a:Int)]]⟩:=a1c hX ok0 (by kernel_rfl) (.fr [6,11] hc (.b (rfl:(!false)=true) (.frR (H2:=HT0 s o f g m) [0,1] [0,1] (hq n hn a ha) (.b h2 .xx))));exact qH.gs hX (a4q hX (l:=8) rfl rfl (by kernel_rfl) q1 rfl q2 rfl) [.mv 6,.gc [12]] rfl
theorem yM2 (hO:∀ n,N<=n->Ok n a7m) (hq:∀ n,N<=n->∀ a:Nat,a<128->qH X0 Tryz.prog (ApN (n+3)) (.fn q [] []) [.ptr 1 0 9,.int .u64 (a:Int)] (Hq s o f g m) (.bool (φ a)) (Hq s o f g m)) {n a:Nat} (hn:N<=n) (ha:a<128) {y:List Nat} (hy:a0I y) (h:(y.any fun m=>a3Y m a)=false) (h2:φ a=true):qH X0 Tryz.prog (ApN (n+4)) (.jk 8) [.int .u64 (a:Int)] (NMM s o f g m q y) (.bool true) (NEM s o f g m q (y++[a])):=by
 have hl:(y.map fun a:Nat=>(a:Int)).length<=aO:=by rw[List.length_map];have:=hy.len;unfold aO;omega
 have hc:=ags (hO n hn) false false (y.map fun a:Nat=>(a:Int)) (a:Int) hl;rw[a9V hy.lt ha,h] at hc;have q1:iq X0 Tryz.prog T (ApN (n+3)) LL 100 true (ntP Tryz.prog 100) 11 (a0D Tryz.prog 100) ⟨a0o a9T [9] [.int .u64 (a:Int)],[],NMM s o f g m q y⟩ .norm ⟨[(2,.val (.ptr 2 0 1)),(3,.val (.ptr 3 0 1)),(4,.val (.ptr 4 0 1)),(5,.val (.ptr 11 0 1))],[],HqM s o f g m q 6 (lSt y)++[.mark,LRM true none,.cells [.jk 8],.cells [fCh 5],.cells [.int .u64 (a:Int)]]⟩:=a1c hX ok0 (by kernel_rfl) .xx;have hL:(y.map fun a:Nat=>(a:Int)).length+[(a:Int)].length<=aO:=by rw[List.length_map,List.length_singleton];have:=hy.len;unfold aO;omega
 have q2:iq X0 Tryz.prog T (ApN (n+3)) LL 100 true (ntP Tryz.prog 100) 11 (a2q Tryz.prog 100) ⟨[(2,.val (.ptr 2 0 1)),(3,.val (.ptr 3 0 1)),(4,.val (.ptr 4 0 1)),(5,.val (.ptr 11 0 1))],[],HqM s o f g m q 6 (lSt y)++[.mark,LRM false none,.cells [.jk 8],.cells [fCh 5],.cells [.int .u64 (a:Int)]]⟩ .norm ⟨[],[],HqM s o f g m q 13 .gone++[.mark,LRM false none,.cells [.jk 8],.cells [fCh 5],.cells [.int .u64 (a:Int)],.list true true 141 [(a:Int)],.list false false 141 ((y.map fun a:Nat=>(a:Int))++[(a:Int)])]⟩:=a1c hX ok0 (by kernel_rfl) (.fr [6,11] hc (.b (rfl:(!false)=true) (.frR (H2:=HT0 s o f g m) [0,1] [0,1] (hq n hn a ha) (.b h2 (.o hL .xx)))));have e:((y++[a]).map fun a:Nat=>(a:Int))=(y.map fun a:Nat=>(a:Int))++[(a:Int)]:=by rw[List.map_append];rfl
 have key:∀ L:List Int,L=(y.map fun a:Nat=>(a:Int))++[(a:Int)]->qH X0 Tryz.prog (ApN (n+4)) (.jk 8) [.int .u64 (a:Int)] (NMM s o f g m q y) (.bool true) (HqM s o f g m q 11 .gone++[.mark,LRM true none,.cells [.jk 8],.cells [fCh 5],.list false false 141 L]):=by
  rintro _ rfl;exact qH.gs hX (a4q hX (l:=8) rfl rfl (by kernel_rfl) q1 rfl q2 rfl) [.gc [13]] rfl
 exact key _ e
theorem yM (hO:∀ n,N<=n->Ok n a7m) (hq:∀ n,N<=n->∀ a:Nat,a<128->qH X0 Tryz.prog (ApN (n+3)) (.fn q [] []) [.ptr 1 0 9,.int .u64 (a:Int)] (Hq s o f g m) (.bool (φ a)) (Hq s o f g m)) {n a:Nat} (hn:N<=n) (ha:a<128) {y:List Nat} (hy:a0I y):qH X0 Tryz.prog (ApN (n+4)) (.jk 8) [.int .u64 (a:Int)] (NMM s o f g m q y) (.bool (oB (gMn φ a y))) (oMM s o f g m q (gMn φ a y)):=by
 unfold gMn fMi;cases h:y.any fun m=>a3Y m a
 ·rw[if_neg (by simp)];cases h2:φ a
  ·exact yM1 hO hq hn ha hy h h2
  exact yM2 hO hq hn ha hy h h2
 exact yM0 hO hn ha hy h
theorem a3P {φ:Nat->Bool}:∀ {l:List Nat} {y z:List Nat},(∀ b∈l,b<128)->a0I y->stp (gMn φ) l y=.inl z->a0I z
 | [],y,z,_,hy,h=>by cases h;exact hy
 | a::l,y,z,hl,hy,h=>a3P (fun b hb=>hl b (.tail _ hb)) (ace (φ:=φ) hy (hl a (.head _))) h
theorem l9M {n k a i:Nat} (hf:f.length<8) (hk:k<8) (ha:a<2^f.length) (ih:∀ (j:Nat) (y:(List Nat)),j+k<f.length->a0I y->qH X0 Tryz.prog (ApN n) (fCh 5) [.int .u64 ((a ||| 2^j:Nat):Int),.int .i64 ((j+1:Nat):Int),.int .i64 (k:Int)] (NMM s o f g m q y) (.bool (oB (stp (gMn φ) (chs f.length k (a ||| 2^j) (j+1)) y))) (oMM s o f g m q (stp (gMn φ) (chs f.length k (a ||| 2^j) (j+1)) y))) (y:(List Nat)) (hy:a0I y)
  {z:(Nat×(List Nat))⊕Empty} (hz:itF (gLp (gMn φ) f.length k a) (f.length-k-i+1) (i,y)=some z):LpB n 179 0 11 (w9M s o f g m q a (k+1) (i,y) []) (o9M s o f g m q a (k+1) z).1 (o9M s o f g m q a (k+1) z).2:=by
 refine a4J (X:=X0) (P:=Tryz.prog) (T:=T) (st:=fun x=>w9M s o f g m q a (k+1) x []) (g:=gLp (gMn φ) f.length k a) (s:=(i,y)) (out:=o9M s o f g m q a (k+1)) (fun x=>a0I x.2) hz (by kernel_rfl) (show _<=2^24 by omega) hy ?_ ?_
 ·rintro⟨j,y⟩ ⟨j1,y1⟩ hy e;have hy:a0I y:=hy;have e:gLp (gMn φ) f.length k a (j,y)=.inl (j1,y1):=e;unfold gLp at e;split at e
  ·rename_i hj;have hj:j+k<f.length:=hj;cases hz2:stp (gMn φ) (chs f.length k (a ||| 2^j) (j+1)) y with
   | inl y2=>
    rw[show stp (gMn φ) (chs f.length k (a ||| 2^(j,y).1) ((j,y).1+1)) (j,y).2=.inl y2 from hz2] at e;cases e;have agt:=a9o (n:=f.length) (by omega);exact a3P (fun b hb=>by have:=a9S k _ _ (Nat.or_lt_two_pow ha (Nat.pow_lt_pow_right (by decide) (by omega))) b hb;omega) hy hz2
   | inr r=>exact r.elim
  ·cases e
 ·rintro⟨j,y⟩ c r hy ih2;have hy:a0I y:=hy;have ht:=jle (j:=j) (k:=k) (n:=f.length) hf hk;by_cases hj:j+k<f.length
  ·have h7:j<7:=(by omega);have agt:=a9o (n:=f.length) (by omega);have t1:decide ((j:Int)<=IntKind.i64.wrap ((f.length:Int)-((k+1:Nat):Int)))=true:=by rw[ht];exact decide_eq_true hj
   have h0:(0:Int)<=(j:Int):=(by omega);have e1:IntKind.u64.wrap (((BitVec.ofInt 64 (a:Int) ||| BitVec.ofInt 64 (a5e .u64 1 (j:Int))).toNat:Nat):Int)=((a ||| 2^j:Nat):Int):=(aiP (by omega) h7).1;have e2:IntKind.i64.wrap ((j:Int)+1)=((j+1:Nat):Int):=by rw[wrap_small (by omega) (by omega)];omega
   have e3:IntKind.i64.wrap (((k+1:Nat):Int)-1)=(k:Int):=by rw[wrap_small (by omega) (by omega)];omega
   have h3:=ih j y hj hy;have hg:gLp (gMn φ) f.length k a (j,y)=match stp (gMn φ) (chs f.length k (a ||| 2^j) (j+1)) y with
    | .inl y=>.inl (j+1,y)
    | .inr r=>.inr (.inr r):=by
    unfold gLp;rw[if_pos (show (j,y).1+k<f.length from hj)];dsimp only;cases stp (gMn φ) (chs f.length k (a ||| 2^j) (j+1)) y<;>rfl
   generalize stp (gMn φ) (chs f.length k (a ||| 2^j) (j+1)) y=Z at h3 hg;have h4:qH X0 Tryz.prog (ApN n) (fCh 5) [.int .u64 (IntKind.u64.wrap (((BitVec.ofInt 64 (a:Int) ||| BitVec.ofInt 64 (a5e .u64 1 (j:Int))).toNat:Nat):Int)),.int .i64 (IntKind.i64.wrap ((j:Int)+1)),.int .i64 (IntKind.i64.wrap (((k+1:Nat):Int)-1))] (NMM s o f g m q y) (.bool (oB Z)) (oMM s o f g m q Z):=by rw[e1,e2,e3];exact h3
   cases Z with
   | inl y1=>
    have h4:qH X0 Tryz.prog (ApN n) (fCh 5) [.int .u64 (IntKind.u64.wrap (((BitVec.ofInt 64 (a:Int) ||| BitVec.ofInt 64 (a5e .u64 1 (j:Int))).toNat:Nat):Int)),.int .i64 (IntKind.i64.wrap ((j:Int)+1)),.int .i64 (IntKind.i64.wrap (((k+1:Nat):Int)-1))] (NMM s o f g m q y) (.bool true) (NEM s o f g m q y1):=h4;have hg:gLp (gMn φ) f.length k a (j,y)=.inl (j+1,y1):=hg;have h5:vK X0 Tryz.prog T (ApN n) LL 179 false (ntP Tryz.prog 179) 11 (a5T Tryz.prog 179 0) c (aiU s o f g m q a (k+1) (IntKind.i64.wrap ((j:Int)+1)) y1 []) (o9M s o f g m q a (k+1) r).1 (o9M s o f g m q a (k+1) r).2:=by rw[e2];exact ih2 _ hg
    rw[hg];exact round hX ok0 (by kernel_rfl) (.b t1 (.o h0 (.fr [0,1,2,3,4,5,11,7,8,9,10] (h4) (.b (rfl:(!true)=false) (.goG [.gc [12]] h5)))))
   | inr r=>
    exact r.elim
  ·have t1:decide ((j:Int)<=IntKind.i64.wrap ((f.length:Int)-((k+1:Nat):Int)))=false:=by rw[ht];exact decide_eq_false hj
   have hg:gLp (gMn φ) f.length k a (j,y)=.inr (.inl (j,y)):=by unfold gLp;rw[if_neg hj]
   rw[hg];exact round hX ok0 (by kernel_rfl) (.b t1 (.ou nofun))
theorem afe (hf:f.length<8) (hB:∀ n,N<=n->∀ a,a<128->∀ y,a0I y->qH X0 Tryz.prog (ApN (n+4)) (.jk 8) [.int .u64 ((a:Nat):Int)] (NMM s o f g m q y) (.bool (oB (gMn φ a y))) (oMM s o f g m q (gMn φ a y))):∀ (k a i n:Nat) (y:(List Nat)),N+k<=n->k<=f.length->a<2^f.length->a0I y->qH X0 Tryz.prog (ApN (n+5)) (fCh 5) [.int .u64 (a:Int),.int .i64 (i:Int),.int .i64 (k:Int)] (NMM s o f g m q y) (.bool (oB (stp (gMn φ) (chs f.length k a i) y))) (oMM s o f g m q (stp (gMn φ) (chs f.length k a i) y))
 | 0,a,i,n,y,hn,hk,ha,hy=>by
  have agt:=a9o (n:=f.length) (by omega);have h:=hB n (by omega) a (by omega) y hy;have e:stp (gMn φ) (chs f.length 0 a i) y=(gMn φ) a y:=by
   show stp (gMn φ) [a] y=_;rw[stp];cases (gMn φ) a y<;>rfl
  rw[e];generalize (gMn φ) a y=Z at h;cases Z with
  | inl y1=>exact dV (r:=tA) (s:=true) (H1:=NEM s o f g m q y1) hX ok0 (first:=[]) (by kernel_rfl) (.b (rfl:(((0:Nat):Int)==0)=true) (.k h .sr))
  | inr r=>exact r.elim
 | k+1,a,i,n+1,y,hn,hk,ha,hy=>by
  have it:=adK (g:=gMn φ) (n:=f.length) (k:=k) (a:=a) (f.length-k-i) i y rfl;have h0:(((k+1:Nat):Int)==0)=false:=by rw[beq_eq_false_iff_ne];omega
  show qH X0 Tryz.prog (ApN (n+1+5)) (fCh 5) [.int .u64 (a:Int),.int .i64 (i:Int),.int .i64 ((k+1:Nat):Int)] (NMM s o f g m q y) (.bool (oB (stp (gMn φ) ((List.range' i (f.length-k-i)).flatMap fun j=>chs f.length k (a ||| 2^j) (j+1)) y))) (oMM s o f g m q (stp (gMn φ) ((List.range' i (f.length-k-i)).flatMap fun j=>chs f.length k (a ||| 2^j) (j+1)) y));cases hz:stp (gMn φ) ((List.range' i (f.length-k-i)).flatMap fun j=>chs f.length k (a ||| 2^j) (j+1)) y with
  | inl y1=>
   rw[hz] at it;have lp:=l9M (s:=s) (o:=o) (g:=g) (m:=m) (q:=q) (φ:=φ) (n:=n+5) hf (show k<8 by omega) ha (fun j y hj hy=>afe hf hB k (a ||| 2^j) (j+1) n y (by omega) (by omega) (Nat.or_lt_two_pow ha (Nat.pow_lt_pow_right (by decide) (by omega))) hy) y hy it;exact dV (r:=tA) (s:=true) (H1:=NEM s o f g m q y1) hX ok0 (first:=[]) (by kernel_rfl) (.b h0 (.wG [.mv 6,.gc [11]] lp .sr))
  | inr r=>exact r.elim
theorem l8M {n:Nat} (hf:f.length<8) (ih:∀ (k:Nat) (y:(List Nat)),k<f.length+1->a0I y->qH X0 Tryz.prog (ApN n) (fCh 5) [.int .u64 ((0:Nat):Int),.int .i64 ((0:Nat):Int),.int .i64 (k:Int)] (NMM s o f g m q y) (.bool (oB (stp (gMn φ) (chs f.length k 0 0) y))) (oMM s o f g m q (stp (gMn φ) (chs f.length k 0 0) y))) (y:(List Nat)) (hy:a0I y)
  {z:(Nat×(List Nat))⊕(Nat×Empty)} (hz:itF (gTp (gMn φ) f.length) (f.length+1-0+1) (0,y)=some z):LpB n 178 0 9 (w8M s o f g m q (0,y) []) (o8M s o f g m q z).1 (o8M s o f g m q z).2:=by
 have hw:IntKind.i64.wrap ((f.length:Int)+1)=((f.length+1:Nat):Int):=by rw[wrap_small (by omega) (by omega)];omega
 refine a4J (X:=X0) (P:=Tryz.prog) (T:=T) (st:=fun x=>w8M s o f g m q x []) (g:=gTp (gMn φ) f.length) (s:=(0,y)) (out:=o8M s o f g m q) (fun x=>a0I x.2) hz (by kernel_rfl) (show _<=2^24 by omega) hy ?_ ?_
 ·rintro⟨j,y⟩ ⟨j1,y1⟩ hy e;have hy:a0I y:=hy;have e:gTp (gMn φ) f.length (j,y)=.inl (j1,y1):=e;unfold gTp at e;split at e
  ·cases hz2:stp (gMn φ) (chs f.length j 0 0) y with
   | inl y2=>
    rw[show stp (gMn φ) (chs f.length (j,y).1 0 0) (j,y).2=.inl y2 from hz2] at e;cases e;have agt:=a9o (n:=f.length) (by omega);exact a3P (fun b hb=>by have:=a9S j _ _ (Nat.two_pow_pos _) b hb;omega) hy hz2
   | inr r=>exact r.elim
  ·cases e
 ·rintro⟨k,y⟩ c r hy ih2;have hy:a0I y:=hy;by_cases hk:k<f.length+1
  ·have t1:decide ((k:Int)<IntKind.i64.wrap ((f.length:Int)+1))=true:=by rw[hw];exact decide_eq_true (by omega)
   have e2:IntKind.i64.wrap ((k:Int)+1)=((k+1:Nat):Int):=by rw[wrap_small (by omega) (by omega)];omega
   have h3:=ih k y hk hy;have hg:gTp (gMn φ) f.length (k,y)=match stp (gMn φ) (chs f.length k 0 0) y with
    | .inl y=>.inl (k+1,y)
    | .inr r=>.inr (.inr (k,r)):=by
    unfold gTp;rw[if_pos (show (k,y).1<f.length+1 from hk)];dsimp only;cases stp (gMn φ) (chs f.length k 0 0) y<;>rfl
   generalize stp (gMn φ) (chs f.length k 0 0) y=Z at h3 hg;cases Z with
   | inl y1=>
    have h4:qH X0 Tryz.prog (ApN n) (fCh 5) [.int .u64 0,.int .i64 0,.int .i64 (k:Int)] (NMM s o f g m q y) (.bool true) (NEM s o f g m q y1):=h3;have hg:gTp (gMn φ) f.length (k,y)=.inl (k+1,y1):=hg;have h5:vK X0 Tryz.prog T (ApN n) LL 178 false (ntP Tryz.prog 178) 9 (a5T Tryz.prog 178 0) c (aiW s o f g m q (IntKind.i64.wrap ((k:Int)+1)) y1 []) (o8M s o f g m q r).1 (o8M s o f g m q r).2:=by rw[e2];exact ih2 _ hg
    rw[hg];exact round hX ok0 (by kernel_rfl) (.b t1 (.fr [0,1,2,3,4,5,11,7,8,9,10] (h4) (.b (rfl:(!true)=false) (.goG [.gc [9,10,12]] h5))))
   | inr r=>
    exact r.elim
  ·have t1:decide ((k:Int)<IntKind.i64.wrap ((f.length:Int)+1))=false:=by rw[hw];exact decide_eq_false (by omega)
   have hg:gTp (gMn φ) f.length (k,y)=.inr (.inl (k,y)):=by unfold gTp;rw[if_neg hk]
   rw[hg];exact round hX ok0 (by kernel_rfl) (.b t1 (.ou nofun))
theorem aiY (hf:f.length<8) (hB:∀ n,N<=n->∀ a,a<128->∀ y,a0I y->qH X0 Tryz.prog (ApN (n+4)) (.jk 8) [.int .u64 ((a:Nat):Int)] (NMM s o f g m q y) (.bool (oB (gMn φ a y))) (oMM s o f g m q (gMn φ a y))) {n:Nat} (hn:N+f.length<=n) (y:(List Nat)) (hy:a0I y):qH X0 Tryz.prog (ApN (n+6)) (.fn 178 [] [.ptr 5 0 1]) [.jk 8] (A0M s o f g m q y) (.bH []) (oMM s o f g m q (stp (gMn φ) (a3t f.length) y)):=by
 obtain⟨z,hz,e1,_⟩:=adL (g:=gMn φ) (n:=f.length) (f.length+1) 0 y rfl (by omega);rw[<-aeB] at e1;rw[<-e1];have h0:(0:Int)<=(f.length:Int):=by omega
 cases z with
 | inl x=>
  have hz:itF (gTp (gMn φ) f.length) (f.length+1-0+1) (0,y)=some (.inl x):=hz;have lp:=l8M (s:=s) (o:=o) (g:=g) (m:=m) (q:=q) (φ:=φ) (n:=n+5) hf (fun k y hk hy=>afe hf hB k 0 0 n y (by omega) (by omega) (Nat.two_pow_pos _) hy) y hy hz;exact a2w hX ok0 (first:=[]) (cap:=[.ptr 5 0 1]) (by kernel_rfl) (.wG [.mv 6,.gc [9,10,11]] lp .er)
 | inr x=>exact x.2.elim
theorem agu (hf:f.length<8) (hO:∀ n,N<=n->Ok n a7m) (hq:∀ n,N<=n->∀ a:Nat,a<128->qH X0 Tryz.prog (ApN (n+3)) (.fn q [] []) [.ptr 1 0 9,.int .u64 (a:Int)] (Hq s o f g m) (.bool (φ a)) (Hq s o f g m)) {n:Nat} (hn:N+f.length<=n):qH X0 Tryz.prog (ApN (n+7)) (.fn 100 [] []) [.agg [.fn q [] []],.ptr 1 0 9] (HT0 s o f g m) (.own 2) (HT0 s o f g m++[lSt ((a3t f.length).foldl (fMi φ) [])]):=by
 have hs:=aiY (s:=s) (o:=o) (g:=g) (m:=m) (q:=q) (φ:=φ) hf (N:=N) (fun n hn a ha y hy=>yM hO hq hn ha hy) hn [] ⟨fun b hb=>(by cases hb),List.nodup_nil⟩;have e:stp (gMn φ) (a3t f.length) []=.inl ((a3t f.length).foldl (fMi φ) []):=a5S (g:=fun a y=>fMi φ y a);rw[e] at hs;generalize (a3t f.length).foldl (fMi φ) []=L at hs;have hr:iq X0 Tryz.prog T (ApN (n+6)) LL 100 false (ntP Tryz.prog 100) 2 (.rangeFunc (.tmp 8) #[9] (a0D Tryz.prog 100) (a2q Tryz.prog 100)) ⟨a9T,[],HqM s o f g m q 6 (lSt [])⟩ .norm ⟨a9T,[],(NEM s o f g m q L).set 8 (LRM false (some .skip))⟩:=aad hX (ps:=⟨a9T,[],HqM s o f g m q 6 (lSt [])⟩) rfl rfl hs rfl rfl;have h0:qH X0 Tryz.prog (ApN (n+7)) (.fn 100 [] []) [.agg [.fn q [] []],.ptr 1 0 9] (HT0 s o f g m) (.own 11) (HqM s o f g m q 11 .gone++[.mark,LRM false (some .skip),.cells [.jk 8],.cells [fCh 5],lSt L]):=a2w hX ok0 (first:=[]) (cap:=[]) (by kernel_rfl) (.fr [0,1] (ala (s:=s) (o:=o) (f:=f) (g:=g) (m:=m) (n:=n+5)) (.wG [.a5g 4 0 141] hr .er));exact qH.gs hX h0 [.gc [11]] (by kernel_rfl)
end
open Go Tw Pv gq
abbrev lSi (l:List Int):PB bM:=.list false false 141 l
abbrev w99 (l:List Int) (y:List (List Int)) (i:Int) (x:List (Nat×PE bM)):aW bM:=⟨[(2,.val (.own 1)),(5,.val (.own 0)),(6,xi l.length),(7,xi i)]++x,[],[lSi l,.list false false 22 y]⟩
def g99 (l:List Int) (k:Nat) (y:List (List Int)):List (List Int):=y++[a0r (l.getD k 0)]
theorem aeE {l:List Int}:uq (g99 l) l.length 0 []=l.map a0r:=by
 have h:=RH (g:=g99 l) (m:=l.length) (k:=0) (s:=[]) (fun k y=>y=(l.take k).map a0r) rfl (fun j y _ hj h=>by
  have hj:j<l.length:=by omega
  unfold g99;rw[h,List.take_succ_eq_append_getElem hj,List.map_append,List.getD_eq_getElem?_getD,List.getElem?_eq_getElem hj];rfl)
 rw[Nat.zero_add,List.take_of_length_le (Nat.le_refl _)] at h;exact h
theorem l99 {n:Nat} (hO:Ok n a7m) (l:List Int) (hl:l.length<=aO):LpB n 99 0 1 (w99 l [] 0 []) (.exit 0) (w99 l (l.map a0r) l.length [(8,xl false)]):=by
 rw[<-aeE];refine a0B (σ:=List (List Int)) (N:=l.length) (g:=g99 l) (s0:=[]) (st:=fun i y=>w99 l y i []) (fin:=fun y=>w99 l y l.length [(8,xl false)]) (fun k y=>y.length<=k) (by kernel_rfl) hl (Nat.le_refl 0) (fun j y hj hy=>by
  unfold g99;rw[List.length_append,List.length_singleton];omega) (fun j y hj hy m e p g9=>?_) (fun y _=>?_)
 ·have h2:y.length+[a0r (l.getD j 0)].length<=aO:=by simp only[List.length_singleton];omega
  unfold g99 at g9;exact round hX hO (by kernel_rfl) (.b (a2v hj) (.o (bP hj) (.o h2 (.goG [.gc [3]] g9))))
 exact round hX hO (by kernel_rfl) (.b (a5U l.length) .ex)
theorem s99 {n:Nat} (hO:Ok n a7m) (l:List Int) (hl:l.length<=aO) {r:List (List Int)} (hr:l.map a0r=r):qH X0 Tryz.prog (ApN (n+1)) (.fn 99 [] []) [.own 0] [lSi l] (.own 1) [lSi l,.list false false 22 r]:=by
 subst hr;exact a2w hX hO (first:=[]) (cap:=[]) (by kernel_rfl) (.wG [.Nv 2 22] (l99 hO l hl) .er)
def a19 (φ:Nat->Bool) (n:Nat):List (List Int):=((a3t n).foldl (fMi φ) []).map fun a:Nat=>a0r (a:Int)
def fEx (f:List Fc) (g:Dg) (a:Nat):Bool:=uy (a0g f g) (a:Int)
def a0J (s o:List Int) (f:List Fc) (g:Dg):List (List Int)×Int:=if yS s o f g=0 then (a19 (fEx f g) f.length,0) else ([],yS s o f g)
theorem alg {n:Nat} (hQ:∀ k,n<=k->Ok k a0R) (s o:List Int) (f:List Fc) (g:Dg) (m:List Pc) (hm:m.length<LL):∀ k,n<=k->∀ a:Nat,a<128->qH X0 Tryz.prog (ApN (k+3)) (.fn 113 [] []) [.ptr 1 0 9,.int .u64 (a:Int)] (Hq s o f g m) (.bool (uy m (a:Int))) (Hq s o f g m):=
 fun k hk a _=>aiz (hQ (k+2) (by omega)) s o f g m (a:Int) hm
theorem a3Q (φ:Nat->Bool) {n:Nat} (hn:n<8):a0I ((a3t n).foldl (fMi φ) []):=by
 have e:stp (gMn φ) (a3t n) []=.inl ((a3t n).foldl (fMi φ) []):=a5S (g:=fun a y=>fMi φ y a);exact a3P (fun b hb=>by have:=aiT hn hb;have:=a9o (n:=n) (by omega);omega) ⟨fun b hb=>(by cases hb),List.nodup_nil⟩ e
noncomputable def aiZ:iO bM:=dL 87 (a4 qA qA a6a dA) (Vb (a2 a4W iA)) (fun p=>a0J p.1 p.2.1 p.2.2.1 p.2.2.2) (fun p=>[aaS p.1 p.2.1 p.2.2.1 p.2.2.2,yS p.1 p.2.1 p.2.2.1 p.2.2.2=0->WOk p.2.2.1 p.2.2.2,yS p.1 p.2.1 p.2.2.1 p.2.2.2=0->p.2.2.1.length<8]) a7m
theorem alh:Gd aiZ:=aex.aic 20 abw aex fun n hn hO hQ hB p hp=>by
 obtain⟨s,o,f,g⟩:=p;have h1:aaS s o f g:=hp _ (.head _);have h2:yS s o f g=0->WOk f g:=hp _ (.tail _ (.head _));have h3:yS s o f g=0->f.length<8:=hp _ (.tail _ (.tail _ (.head _)));obtain⟨n,rfl⟩:∃ k,n=k+20:=⟨n-20,by omega⟩;show Con X0 Tryz.prog _ _ _ ((Vb (a2 a4W iA)).put (a0J s o f g)) _;unfold a0J;by_cases h:yS s o f g=0
 ·rw[if_pos h];obtain⟨hc,hd⟩:=h2 h;have hf:=h3 h;have w:=ads (hQ (n+19) (by omega)) h1 h hc hd;have hm:(a0g f g).length<LL:=by have:=a8q (f:=f) (g:=g);have:=LLm;omega
  have e:=agu (N:=n) (φ:=fEx f g) hf (fun k hk=>hB k (by omega)) (alg (n:=n) (fun k hk=>hQ k (by omega)) s o f g (a0g f g) hm) (n:=n+13) (by omega);have hi:=a3Q (fEx f g) hf;unfold a19;generalize (a3t f.length).foldl (fMi (fEx f g)) []=L at e hi;have e9:=s99 (hB (n+19) (by omega)) (L.map fun a:Nat=>(a:Int)) (by rw[List.length_map];have:=hi.len;unfold aO;omega) (r:=L.map fun a:Nat=>a0r (a:Int)) (List.map_map ..);exact dS hX (hO (n+20) (by omega)) (by kernel_rfl) (.fr [] w (.b (rfl:((0:Int) != 0)=false) (.fr [0,1] e (.fr [2] e9 .rr))))
 ·rw[if_neg h];have w:=ag6 (hQ (n+19) (by omega)) h1 h;exact dS hX (hO (n+20) (by omega)) (by kernel_rfl) (.fr [] w (.b (show (yS s o f g != 0)=true by simpa using h) (.rn (.bH [.nil .slc,.int .i64 (yS s o f g)]) rfl)))
open Go Tw Pv gq
def a9w (v:V):Int:=if (!(Vg v))=true then 2 else 0
noncomputable def aff:iO bM:=dL 177 (a1 vA) iA (fun p=>a9w p) np aiZ
theorem aj0:Gd aff:=alh.add fun n hO p hp=>dS hX hO (by kernel_rfl) (.ss .rr .rr)
abbrev cDg (s o:List Int) (v:V):Dg:=⟨s,o,[v],[],-1⟩
noncomputable def afg:iO bM:=dL 165 (a3 qA qA vA) dA (fun p=>cDg p.1 p.2.1 p.2.2) (fun p=>[p.1.length<=aO,p.2.1.length<=aO]) aff
theorem aj1:Gd afg:=aj0.add fun n hO p hp=>dS hX hO (by kernel_rfl) (.o (hp _ (.head _)) (.o (hp _ (.tail _ (.head _))) (.rn (.agg [lI p.1,lI p.2.1,lV [p.2.2],.nil .slc,.int .i64 (-1)]) rfl)))
def a9x (s o:List Int) (v:V):Dg×Int:=if (jy s o != 0)=true then (Dg0,jy s o) else if (a9w v != 0)=true then (Dg0,4) else (cDg s o v,0)
noncomputable def a8c:iO bM:=dL 132 (a3 qA qA vA) (Vb (a2 dA iA)) (fun p=>a9x p.1 p.2.1 p.2.2) (fun p=>[p.1.length<=aO,p.2.1.length<=2^20]) afg
theorem adO:Gd a8c:=aj1.add fun n hO p hp=>dS hX hO (by kernel_rfl) (.o (hp _ (.head _)) (.o (hp _ (.tail _ (.head _))) (.ss (.rn (.bH [.agg [.nil .slc,.nil .slc,.nil .slc,.nil .slc,.int .i64 0],.int .i64 (jy p.1 p.2.1)]) rfl) (.ss (.rn (.bH [.agg [.nil .slc,.nil .slc,.nil .slc,.nil .slc,.int .i64 0],.int .i64 4]) rfl) (.o (hp _ (.head _)) (.o (show p.2.1.length<=aO from by have:p.2.1.length<=2^20:=hp _ (.tail _ (.head _));unfold aO;omega) .rr))))))
open Go Tw Pv gq
abbrev nv (s o:List Int):Dg:=cDg s o V0
theorem adP (s o:List Int):cellsD (nv s o)=List.replicate (cnt s) V0:=by
 refine List.eq_replicate_iff.2 ⟨by unfold cellsD;simp,fun b hb=>?_⟩;unfold cellsD at hb;obtain⟨k,_,rfl⟩:=List.mem_map.1 hb;unfold a6v;show [V0].getD _ V0=V0;cases (BU (atR (nv s o) (a2x s ↑k))).toNat with
 | zero=>rfl
 | succ i=>rfl
theorem adQ (s o:List Int):vN (nv s o)=true:=by kernel_rfl
theorem aeF (s o:List Int):KZ (nv s o)=true:=by kernel_rfl
theorem adR {s o:List Int} (h:jy s o=0):a6t (nv s o)=0:=by
 have h1:iE (nv s o)=0:=by
  unfold iE;rw[if_neg (by rw[show (nv s o).sizes=s from rfl,show (nv s o).order=o from rfl,h];simp),if_neg (by simp),adQ];rfl
 unfold a6t;rw[if_neg (by rw[h1];simp),aeF];rfl
theorem a9X {s o:List Int} (hs:s.length<=aO) (ho:o.length<=2^20):DgP (nv s o):=
 ⟨⟨fun i hi=>(by cases hi),⟨(by decide:(-2^63:Int)<=-1),(by decide:(-1:Int)<2^63)⟩,fun v hv=>(by rw[List.mem_singleton.1 hv];decide)⟩,hs,ho,show 1+1<=aO by unfold aO;omega⟩
theorem a8t {s o:List Int} (hs:s.length<=aO) (ho:o.length<=2^20) (h:jy s o=0):Yo (nv s o)=(List.replicate (cnt s) V0,0):=by
 rw[a0F (a9X hs ho),adR h,adP];rfl
theorem aeG (s o:List Int):a0Q (s,o) (nv s o)=true:=by
 unfold a0Q;simp
theorem aeH {s o:List Int} {f:List Fc} (hs:s.length<=aO) (ho:o.length<=2^20) (h:jy s o=0):yS s o f (nv s o)=a6R s o f:=by
 unfold yS;by_cases hb:a6R s o f=0
 ·rw[if_neg (by rw[hb];simp),a8t hs ho h,if_neg (by simp),aeG,hb];rfl
 rw[if_pos (by simpa using hb)]
theorem acf {s o:List Int} {f:List Fc} (h:a6R s o f=0):jy s o=0:=by
 unfold a6R at h;split at h
 ·exact h
 rename_i h2;simpa using h2
structure CsP (s o:List Int) (f:List Fc):Prop where
 ls:s.length<=aO
 lo:o.length<=2^20
 lf:f.length<=aO
 ld:∀ d∈lW f,DgP d
theorem CsP.cas {s o:List Int} {f:List Fc} (h:CsP s o f):aaS s o f (nv s o):=⟨h.ls,h.lo,h.lf,h.ld,a9X h.ls h.lo⟩
section
variable {n:Nat} (hO:Ok (n+1) a8c) (hQ:Ok n a0R) {s o:List Int} {f:List Fc} (hp:CsP s o f)
include hO hQ hp
theorem adS (h:a6R s o f≠0):qH X0 Tryz.prog (ApN (n+2)) (.fn 96 [] []) [lI s,lI o,lFc f] [] (.bH [.nil .ptr,.int .i64 (a6R s o f)]) []:=
 a2w hX hO (first:=[]) (cap:=[]) (by kernel_rfl) (.o hp.ls (.o hp.lo (.o hp.lf (.o hp.ld (.b (show (a6R s o f != 0)=true by simpa using h) .er)))))
theorem adT (h:a6R s o f=0) (hc:WOk f (nv s o)):qH X0 Tryz.prog (ApN (n+2)) (.fn 96 [] []) [lI s,lI o,lFc f] [] (.bH [.ptr 1 0 9,.int .i64 0]) (HT0 s o f (nv s o) (a0g f (nv s o))):=by
 have hf:=acf h;have w:=ads hQ hp.cas ((aeH hp.ls hp.lo hf).trans h) hc.1 hc.2;have h1:(a6R s o f != 0)=false:=by rw[h];rfl
 have e:a9x s o V0=(nv s o,0):=by
  unfold a9x;rw[if_neg (by rw[hf];simp),if_neg (by decide)]
 have e1:((a9x s o V0).2 != 0)=false:=by rw[e];rfl
 have w2:qH X0 Tryz.prog (ApN (n+1)) (.fn 112 [] []) [lI s,lI o,lFc f,.agg (a9x s o V0).1.ps] [] (.bH [.ptr 1 0 9,.int .i64 0]) (HT0 s o f (nv s o) (a0g f (nv s o))):=by rw[e];exact w
 exact a2w hX hO (first:=[]) (cap:=[]) (by kernel_rfl) (.o hp.ls (.o hp.lo (.o hp.lf (.o hp.ld (.b h1 (.o hp.ls (.o hp.lo (.b e1 (.fr [] w2 .er)))))))))
end
def abH (f:List Fc) (m:List Pc) (a:Int):Bool:=!(uw m (L8 (adz f) a))
theorem aeJ {n:Nat} (s o:List Int) (f:List Fc) (g:Dg) (m:List Pc):qH X0 Tryz.prog (ApN (n+1)) (.fn 114 [] []) [.ptr 1 0 9] (Hq s o f g m) (.int .u64 (adz f)) (Hq s o f g m):=
 a2w hX ok0 (first:=[]) (cap:=[]) (by kernel_rfl) (.o (show (0:Int)<=(f.length:Int) by omega) .er)
theorem alj {n:Nat} (hO:Ok n a8c) (a b:Int):qH X0 Tryz.prog (ApN n) (.fn 115 [] []) [.int .u64 a,.int .u64 b] [] (.int .u64 (L8 a b)) []:=
 Con.afY hX (first:=[]) (cap:=[]) (hO 115 [.int .u64 a,.int .u64 b] (pA.put (L8 a b)) [] [] (by kernel_rfl) (fun p h=>by cases h)) rfl rfl rfl rfl
theorem alk {n:Nat} (hO:Ok (n+1) a8c) (hQ:Ok n a0R) (s o:List Int) (f:List Fc) (g:Dg) (m:List Pc) (hm:m.length<LL) (a:Int):qH X0 Tryz.prog (ApN (n+2)) (.fn 129 [] []) [.ptr 1 0 9,.int .u64 a] (Hq s o f g m) (.bool (abH f m a)) (Hq s o f g m):=
 a2w hX ok0 (first:=[]) (cap:=[]) (by kernel_rfl) (.k (aeJ (n:=n) s o f g m) (.fr [] (alj hO (adz f) a) (.k (afa hQ s o f g m (L8 (adz f) a) hm) .er)))
end Go.Proofs.YtjkgcifieggcpaaGreat
namespace Pv
open Go Tw
theorem Good.afi {X:iR} {P:Program} {T:iF} {L:Nat} {α β:Type} {f:FuncId} {a:NV X P α} {r:Ar X P β} {S:α->β} {pre:α->List Prop} {kX a8x ad9 aj2:iO X.Γ} (d:Nat) (hg:Good X P T L kX) (hg2:Good X P T L a8x) (hg3:Good X P T L ad9) (hg4:Good X P T L aj2)
  (hf:∀ n,d<=n->(∀ m,n-d<=m->lC X P (Bd P T L m) kX)->(∀ m,n-d<=m->lC X P (Bd P T L m) a8x)->(∀ m,n-d<=m->lC X P (Bd P T L m) ad9)->(∀ m,n-d<=m->lC X P (Bd P T L m) aj2)->∀ x,(∀ p∈pre x,p)->Con X P (Bd P T L (n+1)) f (a.put x) (r.put (S x)) []):Good X P T L (dL f a r S pre kX):=by
 obtain⟨N2,hN2⟩:=hg2;obtain⟨N3,hN3⟩:=hg3;obtain⟨N4,hN4⟩:=hg4;obtain⟨M,hM⟩:=hg;refine⟨M+N2+N3+N4+d+1,fun n hn=>?_⟩;obtain⟨k,rfl⟩:∃ k,n=k+1:=⟨n-1,by omega⟩;intro g vs v ext ps ho hp;unfold dL at ho;split at ho
 ·rename_i e;have e:=Nat.eq_of_beq_eq_true e;subst e;split at ho
  ·rename_i x hx;cases ho;intro A h first args cap hup hv
   exact hf k (by omega) (fun m hm=>hM m (by omega)) (fun m hm=>hN2 m (by omega)) (fun m hm=>hN3 m (by omega)) (fun m hm=>hN4 m (by omega)) x hp A h first args cap hup (a.ok hx hv)
  ·exact hM (k+1) (by omega) g vs v ext ps ho hp
 ·exact hM (k+1) (by omega) g vs v ext ps ho hp
end Pv
namespace Go.Proofs.YtjkgcifieggcpaaGreat
open Go Tw Pv gq
def fCf (s o:List Int) (f:List Fc) (a:Nat):Bool:=uw (a0g f (nv s o)) (a:Int)
def fGu (s o:List Int) (f:List Fc) (a:Nat):Bool:=abH f (a0g f (nv s o)) (a:Int)
def o9 (φ:List Int->List Int->List Fc->Nat->Bool) (s o:List Int) (f:List Fc):List (List Int)×Int:=if a6R s o f=0 then (a19 (φ s o f) f.length,0) else ([],a6R s o f)
abbrev OkP (p:List Int×List Int×List Fc):Prop:=a6R p.1 p.2.1 p.2.2=0->WOk p.2.2 (nv p.1 p.2.1)∧p.2.2.length<8
theorem aln {n:Nat} (hQ:∀ k,n<=k->Ok k a0R) (s o:List Int) (f:List Fc) (g:Dg) (m:List Pc) (hm:m.length<LL):∀ k,n<=k->∀ a:Nat,a<128->qH X0 Tryz.prog (ApN (k+3)) (.fn 97 [] []) [.ptr 1 0 9,.int .u64 (a:Int)] (Hq s o f g m) (.bool (uw m (a:Int))) (Hq s o f g m):=
 fun k hk a _=>afa (hQ (k+2) (by omega)) s o f g m (a:Int) hm
theorem alo {n:Nat} (hO:∀ k,n<=k->Ok k a8c) (hQ:∀ k,n<=k->Ok k a0R) (s o:List Int) (f:List Fc) (g:Dg) (m:List Pc) (hm:m.length<LL):∀ k,n<=k->∀ a:Nat,a<128->qH X0 Tryz.prog (ApN (k+3)) (.fn 129 [] []) [.ptr 1 0 9,.int .u64 (a:Int)] (Hq s o f g m) (.bool (abH f m (a:Int))) (Hq s o f g m):=
 fun k hk a _=>alk (hO (k+2) (by omega)) (hQ (k+1) (by omega)) s o f g m hm (a:Int)
noncomputable def aj3:iO bM:=dL 65 (a3 qA qA a6a) (Vb (a2 a4W iA)) (fun p=>o9 fCf p.1 p.2.1 p.2.2) (fun p=>[CsP p.1 p.2.1 p.2.2,OkP p]) a8c
theorem alp:Gd aj3:=adO.afi 20 abw aex adO fun n hn hO hQ hB hC p hp=>by
 obtain⟨s,o,f⟩:=p;have h1:CsP s o f:=hp _ (.head _);have h2:a6R s o f=0->WOk f (nv s o)∧f.length<8:=hp _ (.tail _ (.head _));obtain⟨n,rfl⟩:∃ k,n=k+20:=⟨n-20,by omega⟩;show Con X0 Tryz.prog _ _ _ ((Vb (a2 a4W iA)).put (o9 fCf s o f)) _;unfold o9;by_cases h:a6R s o f=0
 ·rw[if_pos h];obtain⟨hw,hf⟩:=h2 h;have w:=adT (hC (n+19) (by omega)) (hQ (n+18) (by omega)) h1 h hw;have hm:(a0g f (nv s o)).length<LL:=by have:=a8q (f:=f) (g:=nv s o);have:=LLm;have:=hw.1;omega
  have e:=agu (N:=n) (φ:=fCf s o f) hf (fun k hk=>hB k (by omega)) (aln (n:=n) (fun k hk=>hQ k (by omega)) s o f (nv s o) (a0g f (nv s o)) hm) (n:=n+13) (by omega);have hi:=a3Q (fCf s o f) hf;unfold a19;generalize (a3t f.length).foldl (fMi (fCf s o f)) []=L at e hi;have e9:=s99 (hB (n+19) (by omega)) (L.map fun a:Nat=>(a:Int)) (by rw[List.length_map];have:=hi.len;unfold aO;omega) (r:=L.map fun a:Nat=>a0r (a:Int)) (List.map_map ..);exact dS hX (hO (n+20) (by omega)) (by kernel_rfl) (.fr [] w (.b (rfl:((0:Int) != 0)=false) (.fr [0,1] e (.fr [2] e9 .rr))))
 ·rw[if_neg h];have w:=adS (hC (n+19) (by omega)) (hQ (n+18) (by omega)) h1 h;exact dS hX (hO (n+20) (by omega)) (by kernel_rfl) (.fr [] w (.b (show (a6R s o f != 0)=true by simpa using h) (.rn (.bH [.nil .slc,.int .i64 (a6R s o f)]) rfl)))
noncomputable def agv:iO bM:=dL 88 (a3 qA qA a6a) (Vb (a2 a4W iA)) (fun p=>o9 fGu p.1 p.2.1 p.2.2) (fun p=>[CsP p.1 p.2.1 p.2.2,OkP p]) aj3
theorem alq:Gd agv:=alp.afi 20 abw aex adO fun n hn hO hQ hB hC p hp=>by
 obtain⟨s,o,f⟩:=p;have h1:CsP s o f:=hp _ (.head _);have h2:a6R s o f=0->WOk f (nv s o)∧f.length<8:=hp _ (.tail _ (.head _));obtain⟨n,rfl⟩:∃ k,n=k+20:=⟨n-20,by omega⟩;show Con X0 Tryz.prog _ _ _ ((Vb (a2 a4W iA)).put (o9 fGu s o f)) _;unfold o9;by_cases h:a6R s o f=0
 ·rw[if_pos h];obtain⟨hw,hf⟩:=h2 h;have w:=adT (hC (n+19) (by omega)) (hQ (n+18) (by omega)) h1 h hw;have hm:(a0g f (nv s o)).length<LL:=by have:=a8q (f:=f) (g:=nv s o);have:=LLm;have:=hw.1;omega
  have e:=agu (N:=n) (φ:=fGu s o f) hf (fun k hk=>hB k (by omega)) (alo (n:=n) (fun k hk=>hC k (by omega)) (fun k hk=>hQ k (by omega)) s o f (nv s o) (a0g f (nv s o)) hm) (n:=n+13) (by omega);have hi:=a3Q (fGu s o f) hf;unfold a19;generalize (a3t f.length).foldl (fMi (fGu s o f)) []=L at e hi;have e9:=s99 (hB (n+19) (by omega)) (L.map fun a:Nat=>(a:Int)) (by rw[List.length_map];have:=hi.len;unfold aO;omega) (r:=L.map fun a:Nat=>a0r (a:Int)) (List.map_map ..);exact dS hX (hO (n+20) (by omega)) (by kernel_rfl) (.fr [] w (.b (rfl:((0:Int) != 0)=false) (.fr [0,1] e (.fr [2] e9 .rr))))
 ·rw[if_neg h];have w:=adS (hC (n+19) (by omega)) (hQ (n+18) (by omega)) h1 h;exact dS hX (hO (n+20) (by omega)) (by kernel_rfl) (.fr [] w (.b (show (a6R s o f != 0)=true by simpa using h) (.rn (.bH [.nil .slc,.int .i64 (a6R s o f)]) rfl)))
open Go Tw Pv gq
abbrev wSS (a b:List (List Int)) (i:Int) (x:List (Nat×PE bM)):aW bM:=⟨[(0,.val (.bK 22 a false)),(1,.val (.bK 22 b false)),(5,xi i)]++x,[],[]⟩
def cSS (a b:List (List Int)) (k:Nat):Bool:=!(decide (a.getD k []=b.getD k []))
def zSS (a b:List (List Int)):Unit⊕Nat->Ex×aW bM
 | .inl _=>(.exit 0,wSS a b a.length [(14,xl false)])
 | .inr _=>(.ret,⟨[(4,xl false)],[],[]⟩)
structure SsP (a b:List (List Int)):Prop where
 la:a.length<=aO
 a:∀ x∈a,x.length<=aO
theorem lSS {n:Nat} (hO:Ok n agv) {a b:List (List Int)} (h:SsP a b) (he:a.length=b.length):LpB n 27 0 0 (wSS a b 0 []) (zSS a b (pJ (cSS a b) a.length)).1 (zSS a b (pJ (cSS a b) a.length)).2:=by
 refine kN (st:=fun i _=>wSS a b i []) (g:=gS (cSS a b)) (out:=zSS a b) (fun _ _=>True) (by kernel_rfl) h.la trivial (fun k u m hk _ ih=>?_) (fun _ _=>?_)
 ·have h1:(a.getD k []).length<=aO:=h.a _ (VG hk);unfold gS cSS;exact round hX hO (by kernel_rfl) (.b (a2v hk) (.o (bP hk) (.o (bP (show k<b.length by omega)) (.o h1 (.ls (.ou nofun) (.nx (ih _ trivial)))))))
 exact round hX hO (by kernel_rfl) (.b (a5U a.length) (.ou nofun))
theorem agx {a b:List (List Int)} (he:a.length=b.length):G8 (pJ (cSS a b) a.length)=decide (a=b):=by
 rw[Bool.eq_iff_iff,Jb,decide_eq_true_iff];constructor
 ·intro h;refine List.ext_getElem he fun i h1 h2=>?_;have:=h i h1;unfold cSS at this;simpa[List.getD_eq_getElem?_getD,List.getElem?_eq_getElem h1,List.getElem?_eq_getElem h2] using this
 intro h j _;subst h;unfold cSS;simp
noncomputable def aj6:iO bM:=dL 27 (a2 a4W a4W) tA (fun p=>decide (p.1=p.2)) (fun p=>[SsP p.1 p.2]) agv
theorem alu:Gd aj6:=alq.add fun n hO p hp=>by
 obtain⟨a,b⟩:=p;have h:SsP a b:=hp _ (.head _);show Con X0 Tryz.prog _ _ _ (tA.put (decide (a=b))) _;by_cases he:a.length=b.length
 ·have hb:((a.length:Int) != (b.length:Int))=false:=by rw[he];simp
  have lp:=lSS (n:=n) hO h he;rw[<-agx he];cases hs:G8 (pJ (cSS a b) a.length)
  ·exact dS hX hO (by kernel_rfl) (.b hb (.w (rC lp 0 hs) .rr))
  ·exact dS hX hO (by kernel_rfl) (.b hb (.w (pF lp () hs) .rr))
 ·have hb:((a.length:Int) != (b.length:Int))=true:=by simp;omega
  rw[decide_eq_false (fun e=>he (by rw[e]))];exact dS hX hO (by kernel_rfl) (.b hb .rr)
structure CkP (c:Ca):Prop where
 p:CaP c
 w:yS c.s c.o c.f c.g=0->WOk c.f c.g
 n:yS c.s c.o c.f c.g=0->c.f.length<8
 q:CsP c.s c.o c.f
 k:OkP (c.s,c.o,c.f)
noncomputable def aj7:iO bM:=dL 44 (a1 caA) (Vb (a2 a4W iA)) (fun p=>a0J p.s p.o p.f p.g) (fun p=>[CkP p]) aj6
theorem alv:Gd aj7:=alu.add fun n hO p hp=>dS hX hO (by kernel_rfl) (have k:CkP p:=hp _ (.head _);have h:=k.p;.o h.p.ls (.o h.o (.o h.p.lf (.o h.w (.o h.g.s (.o h.g.o (.o h.g.e (.o h.g.n (.o h.g.k (.o h.p (.o k.w (.o k.n .rr))))))))))))
noncomputable def aj8:iO bM:=dL 19 (a1 caA) (Vb (a2 a4W iA)) (fun p=>o9 fCf p.s p.o p.f) (fun p=>[CkP p]) aj7
theorem alx:Gd aj8:=alv.add fun n hO p hp=>dS hX hO (by kernel_rfl) (have k:CkP p:=hp _ (.head _);have h:=k.p;.o h.p.ls (.o h.o (.o h.p.lf (.o h.w (.o k.q (.o k.k .rr))))))
noncomputable def aj9:iO bM:=dL 45 (a1 caA) (Vb (a2 a4W iA)) (fun p=>o9 fGu p.s p.o p.f) (fun p=>[CkP p]) aj8
theorem aly:Gd aj9:=alx.add fun n hO p hp=>dS hX hO (by kernel_rfl) (have k:CkP p:=hp _ (.head _);have h:=k.p;.o h.p.ls (.o h.o (.o h.p.lf (.o h.w (.o k.q (.o k.k .rr))))))
open Go Tw Pv gq
theorem a8u (φ:Nat->Bool) {n:Nat} (hn:n<8) (b:List (List Int)):SsP (a19 φ n) b:=by
 refine⟨by unfold a19;rw[List.length_map];have:=(a3Q φ hn).len;unfold aO;omega,fun x hx=>?_⟩;unfold a19 at hx;obtain⟨a,_,rfl⟩:=List.mem_map.1 hx;exact adH _
abbrev nc (c:Ca):Ca:=⟨c.s,c.o,c.f,nv c.s c.o⟩
theorem alz {c:Ca} (p:CaP c):CaP (nc c):=
 ⟨⟨p.p.ls,p.p.lo,p.p.lf,p.p.ld,a9X p.p.ls p.p.lo⟩,p.o,p.d,p.w,⟨p.p.ls,p.o,show 1<=aO by unfold aO;omega,Nat.zero_le _,fun b hb=>(by cases hb)⟩⟩
theorem a8d {s o:List Int} {f:List Fc} (h:a0k s o f=0):jy s o=0:=by
 unfold a0k at h;split at h
 ·exact h
 rename_i h2;simpa using h2
theorem aeK {c:Ca} (p:CaP c):J3 (nc c)=a6R c.s c.o c.f:=by
 rw[a8r p.d];unfold J3;by_cases h:a0k c.s c.o c.f=0
 ·rw[if_neg (by rw[show (nc c).s=c.s from rfl,show (nc c).o=c.o from rfl,show (nc c).f=c.f from rfl,h];simp),adR (a8d h),if_neg (by simp),if_neg (by simp),if_neg (by simp),h]
 rw[if_pos (by simpa using h)]
theorem agz {c:Ca} (p:CaP c) (e:NoE c):WOk c.f c.g:=by
 refine⟨by rw[afd p e,e.v.c];exact e.v.m,fun k hk=>?_⟩;rw[a3O] at hk;rw[agq p e hk,afd p e,aez e hk]
theorem adU {c:Ca} (p:CaP c) (h8:c.f.length≠8) (h0:J3 c=0):WOk c.f c.g∧c.f.length<8:=by
 have e:=a3z p h0;have h9:=e.n;exact⟨agz p e,Nat.lt_of_le_of_ne h9 h8⟩
theorem aa0 {c:Ca} (hr:CaR c) (h:a0e c=true):CkP c where
 p:=a18 h hr
 w h0:=(adU (a18 h hr) (a2A h).2.2.2.1 ((a3X (a18 h hr)).symm.trans h0)).1
 n h0:=(adU (a18 h hr) (a2A h).2.2.2.1 ((a3X (a18 h hr)).symm.trans h0)).2
 q:=⟨(a18 h hr).p.ls,(a18 h hr).p.lo,(a18 h hr).p.lf,(a18 h hr).p.ld⟩
 k h0:=adU (c:=nc c) (alz (a18 h hr)) (a2A h).2.2.2.1 ((aeK (a18 h hr)).trans h0)
open Go Tw Pv gq
theorem a9y {s:List Int} (h:nJ s):BA s=((cnt s:Nat):Int)∧cnt s<=2000∧dD s=((cnt s:Nat):Int):=by
 have h1:=h.many;have h2:=KW h.sz;have h0:=qy h.sz;unfold cnt;rw[h2];refine⟨by omega,by omega,by omega⟩
abbrev nd (s o:List Int):Dg:=aaJ s o (List.replicate (cnt s) V0)
open Go Tw Pv gq
theorem a9z {f f':List Fc} {g g':Dg} (hl:f.length=f'.length) (hc:∀ k,k<f.length->cAt (lW f) k=cAt (lW f') k) (hg:(Yo g).1=(Yo g').1):a0g f g=a0g f' g':=by
 unfold a0g a9g;rw[hg,a3O,a3O,<-hl];congr 1;exact a8a _ _ _ fun j s _ hj=>by unfold g2W;rw[hc j (by omega)]
def tOn (o:List Int) (b:Nat):List Int:=(List.range o.length).map fun i=>o.getD ((b+i)%o.length) 0
theorem abI (o:List Int) (b:Nat):(tOn o b).length=o.length:=by unfold tOn;simp
theorem agA {n b i j:Nat} (hn:n<=6) (hi:i<j) (hj:j<n):(b+i)%n≠(b+j)%n:=by
 have:n=1∨n=2∨n=3∨n=4∨n=5∨n=6:=by omega
 rcases this with rfl | rfl | rfl | rfl | rfl | rfl<;>omega
theorem a3R {n:Nat} {o:List Int} (b:Nat) (ho:ES n o=true) (h6:o.length<=6):ES n (tOn o b)=true:=by
 unfold ES at ho ⊢;rw[decide_eq_true_eq] at ho ⊢;obtain⟨h1,h2,h3⟩:=ho;have aN:∀ i,i<o.length->(b+i)%o.length<o.length:=fun i hi=>Nat.mod_lt _ (by omega);refine⟨by rw[abI,h1],fun a ha=>?_,?_⟩
 ·unfold tOn at ha;obtain⟨i,hi,rfl⟩:=List.mem_map.1 ha;exact h2 _ (VG (aN i (List.mem_range.1 hi)))
 unfold tOn;rw[List.Nodup,List.pairwise_map];refine List.Pairwise.imp_of_mem (fun {i j} hi hj BN=>?_) List.pairwise_lt_range;have hi:=List.mem_range.1 hi;have hj:=List.mem_range.1 hj;have dZ:=agA (b:=b) h6 BN hj;have hp:=List.pairwise_iff_getElem.1 h3;rw[List.getD_eq_getElem?_getD,List.getD_eq_getElem?_getD,List.getElem?_eq_getElem (aN i hi),List.getElem?_eq_getElem (aN j hj)];rcases Nat.lt_or_ge ((b+i)%o.length) ((b+j)%o.length) with h | h
 ·exact hp _ _ (aN i hi) (aN j hj) h
 exact fun e=>hp _ _ (aN j hj) (aN i hi) (by omega) e.symm
abbrev tFc (s o:List Int) (x:Fc):Fc:=⟨⟨#[]⟩,aaJ s o (cellsD x.d)⟩
abbrev tCa (c:Ca) (b:Nat):Ca:=⟨c.s,tOn c.o b,c.f.map (tFc c.s (tOn c.o b)),aaJ c.s (tOn c.o b) (cellsD c.g)⟩
theorem a8e {d:Dg} {v:V} (hv:v∈cellsD d):v∈d.ends∨v=V0:=by
 unfold cellsD at hv;obtain⟨k,_,rfl⟩:=List.mem_map.1 hv;unfold a6v;rw[List.getD_eq_getElem?_getD];cases h:d.ends[(BU (atR d (a2x d.sizes k))).toNat]? with
 | none=>exact .inr rfl
 | some x=>exact .inl (List.mem_of_getElem? h)
theorem acg {d:Dg} (h:iE d=0):∀ v∈cellsD d,vOk v=true:=fun v hv=>by
 rcases a8e hv with h1 | rfl
 ·unfold iE at h;split at h
  ·rename_i h2;rw[h] at h2;cases h2
  split at h
  ·cases h
  split at h
  ·cases h
  rename_i h3;have h3:vN d=true:=by simpa using h3
  unfold vN at h3;split at h3
  ·rename_i h4;obtain⟨k,hk,rfl⟩:=List.mem_iff_getElem.1 h1;have:=Jb.1 h4 k hk;unfold cLe at this;rw[List.getD_eq_getElem?_getD,List.getElem?_eq_getElem hk] at this;simpa using this
  ·cases h3
 ·decide
theorem ach {d:Dg} (h:DgR d):∀ v∈cellsD d,0<=v.f:=fun v hv=>by
 rcases a8e hv with h1 | rfl
 ·exact h.fault v h1
 ·decide
theorem abJ {d:Dg} {s o:List Int} (u:Usd d) (hf:nJ s) (ho:ES s.length o=true) (hs:d.sizes=s):OfP s o (cellsD d):=
 ⟨hf,ho,by rw[u.c,hs,(a9y hf).2.2]⟩
theorem abK {d:Dg} {s o:List Int} (hr:DgR d) (u:Usd d) (hf:nJ s) (ho:ES s.length o=true) (hs:d.sizes=s):DgR (aaJ s o (cellsD d))∧a6t (aaJ s o (cellsD d))=0∧cellsD (aaJ s o (cellsD d))=cellsD d∧DgP (aaJ s o (cellsD d)):=by
 have q:=abJ u hf ho hs;have hv:=acg u.l.l;obtain⟨h1,h2⟩:=aer q hv (ach hr);have h3:=(a3y q hv).2.1;have ho6:o.length<=6:=by rw[q.p.2.2];exact hf.len
 exact⟨h1,h2,a5L q hv,h1,hf.aa5,show o.length<=2^20 by omega,show (aaJ s o (cellsD d)).ends.length+1<=aO by unfold aO;omega⟩
section
variable {c:Ca} (p:CaP c) (h0:J3 c=0)
include p h0
theorem a2J:nJ c.s∧ES c.s.length c.o=true:=by
 have h1:a0k c.s c.o c.f=0:=by
  unfold J3 at h0;split at h0
  ·exact h0
  rename_i h;simpa using h
 exact O6.1 (a8d h1)
theorem aa1:c.g.sizes=c.s:=by
 unfold J3 at h0;split at h0
 ·rename_i h1;rw[h0] at h1;cases h1
 split at h0
 ·rename_i h1;rw[h0] at h1;cases h1
 split at h0
 ·cases h0
 rename_i h1;simpa using h1
theorem adV {b k:Nat} (hk:k<c.f.length):fAt (tCa c b).f k=aaJ c.s (tOn c.o b) (cellsD (fAt c.f k)):=by
 unfold fAt;show ((c.f.map (tFc c.s (tOn c.o b))).getD k Fc0).d=_;rw[List.getD_eq_getElem?_getD,List.getElem?_map,List.getD_eq_getElem?_getD,List.getElem?_eq_getElem hk];rfl
theorem t_f (b:Nat) {k:Nat} (hk:k<c.f.length):DgR (fAt (tCa c b).f k)∧a6t (fAt (tCa c b).f k)=0∧cellsD (fAt (tCa c b).f k)=cellsD (fAt c.f k)∧DgP (fAt (tCa c b).f k):=by
 obtain⟨hf,ho⟩:=a2J p h0;have e:=a3z p h0;have h6:c.o.length<=6:=by have:=hf.len;unfold ES at ho;rw[decide_eq_true_eq] at ho;omega
 rw[adV p h0 hk];exact abK (p.d k hk).r (e.u k hk) hf (a3R b ho h6) ((e.s k hk).trans (aa1 p h0))
theorem t_g (b:Nat):DgR (tCa c b).g∧a6t (tCa c b).g=0∧cellsD (tCa c b).g=cellsD c.g∧DgP (tCa c b).g:=by
 obtain⟨hf,ho⟩:=a2J p h0;have e:=a3z p h0;have h6:c.o.length<=6:=by have:=hf.len;unfold ES at ho;rw[decide_eq_true_eq] at ho;omega
 exact abK p.p.lg.r e.v hf (a3R b ho h6) (aa1 p h0)
theorem aja (b:Nat):CaR (tCa c b):=⟨fun k hk=>(t_f p h0 b (by simpa using hk)).1,(t_g p h0 b).1⟩
end
open Go Tw Pv gq
theorem ajb {call:ay} {f nt B:Nat} {c:Code} {s s1 s2:aW bM} {e:Ex} (gs:List G) (h:iq X0 Tryz.prog T call LL f false nt B c s e s1) (hg:jX B gs s1=some s2):iq X0 Tryz.prog T call LL f false nt B c s e s2:=by
 intro A W fl m ts hS;obtain⟨t1,m1,x1,x2,x3,x4⟩:=h A W fl m ts hS;obtain⟨m2,y1,y2,y3⟩:=je hX hg A W fl m1 t1 x2;exact⟨t1,m2,x1,y1,x3.trans y2,x4.trans y3⟩
def a1Q (c:Ca):Bool:=if a0e c=true then J3 c==0 else false
noncomputable def adW:iO bM:=dL 41 (a1 caA) tA a1Q (fun c=>[a0e c=true->CaP c]) aj9
theorem alC:Gd adW:=aly.add fun n hO c hp=>by
 have h:a0e c=true->CaP c:=hp _ (.head _);show Con X0 Tryz.prog _ _ _ (tA.put (a1Q c)) _;unfold a1Q;cases ht:a0e c
 ·exact dS hX hO (by kernel_rfl) (.b ht .rr)
 ·exact dS hX hO (by kernel_rfl) (.b ht (.o (h ht) .rr))
theorem fold_map {α:Type} (h:Nat->α):∀ n:Nat,uq (fun k (y:List α)=>y++[h k]) n 0 []=(List.range n).map h
 | 0=>rfl
 | n+1=>by rw[EP,fold_map h n,List.range_succ,List.map_append];simp
theorem agB:((R 256).all fun b=>(R 6).all fun j=>(R 7).all fun n=>Nat.beq n 0||decide (a5d .i64 (IntKind.i64.wrap (IntKind.i64.wrap (b:Int)+(j:Int))) (n:Int)=(((b+j)%n:Nat):Int)))=true:=by kernel_rfl
theorem ajc {b j n:Nat} (hb:b<256) (hj:j<6) (hn:n<7) (h0:n≠0):a5d .i64 (IntKind.i64.wrap (IntKind.i64.wrap (b:Int)+(j:Int))) (n:Int)=(((b+j)%n:Nat):Int):=by
 have h:=a9m (a9m (a9m agB hb) hj) hn;rw[Bool.or_eq_true] at h;rcases h with h | h
 ·exact absurd (Nat.eq_of_beq_eq_true h) h0
 exact of_decide_eq_true h
abbrev yC (s:List Int) (o f:PV bM):List (PV bM):=[lI s,o,f,.nil .slc,.nil .slc,.nil .slc,.nil .slc,.int .i64 0]
abbrev wT0 (c:Ca) (b:Int) (y:List Int) (i:Int) (x:List (Nat×PE bM)):aW bM:=⟨[(1,.val (.int .u8 b)),(2,.loc 0 0),(5,.loc 1 0),(6,xi i)]++x,[c.ps,yC c.s (.own 0) (.nil .slc)],[.list false false 3 y]⟩
theorem lT0 {n:Nat} (hO:Ok n adW) (c:Ca) {b:Nat} (hb:b<256) (h6:c.o.length<=6):LpB n 6 0 0 (wT0 c b [] 0 []) (.exit 0) ⟨[(1,.val (.int .u8 b)),(2,.loc 0 0),(5,.loc 1 0),(6,xi c.o.length),(31,xl false)],[c.ps,yC c.s (lI (tOn c.o b)) (.nil .slc)],[]⟩:=by
 have lp:LpB n 6 0 0 (wT0 c b [] 0 []) (.exit 0) (wT0 c b (tOn c.o b) c.o.length [(31,xl false)]):=by
  unfold tOn;rw[<-fold_map];refine a0B (σ:=List Int) (N:=c.o.length) (g:=fun k y=>y++[c.o.getD ((b+k)%c.o.length) 0]) (s0:=[]) (st:=fun i y=>wT0 c b y i []) (fin:=fun y=>wT0 c b y c.o.length [(31,xl false)]) (fun k y=>y.length<=k) (by kernel_rfl) (by unfold aO;omega) (Nat.le_refl 0) (fun j y hj hy=>by rw[List.length_append,List.length_singleton];omega) (fun j y hj hy m e p g9=>?_) (fun y _=>?_)
  ·have h0:(c.o.length:Int)≠0:=(by omega);have hr:=ajc hb (j:=j) (n:=c.o.length) (by omega) (by omega) (by omega);have hi:CO (a5d .i64 (IntKind.i64.wrap (IntKind.i64.wrap (b:Int)+(j:Int))) (c.o.length:Int)) c.o.length:=by rw[hr];exact bP (Nat.mod_lt _ (by omega))
   have e1:c.o.getD ((b+j)%c.o.length) 0=c.o.getD (a5d .i64 (IntKind.i64.wrap (IntKind.i64.wrap (b:Int)+(j:Int))) (c.o.length:Int)).toNat 0:=(by rw[hr,Int.toNat_natCast]);rw[e1] at g9;have h2:y.length+[c.o.getD (a5d .i64 (IntKind.i64.wrap (IntKind.i64.wrap (b:Int)+(j:Int))) (c.o.length:Int)).toNat 0].length<=aO:=by simp only[List.length_singleton];unfold aO;omega
   exact round hX hO (by kernel_rfl) (.b (a2v hj) (.o h0 (.o hi (.o h2 (.goG [.gc [2]] g9)))))
  exact round hX hO (by kernel_rfl) (.b (a5U c.o.length) .ex)
 exact ajb [.fz 0,.gc []] lp (by kernel_rfl)
abbrev wT1 (c:Ca) (o:List Int) (y:List Fc) (i:Int) (x:List (Nat×PE bM)):aW bM:=⟨[(2,.loc 0 0),(5,.loc 1 0),(7,xi i)]++x,[c.ps,yC c.s (lI o) (.own 0)],[.list false false 66 y]⟩
structure OfW (s o:List Int) (d:Dg):Prop where
 l:adC d
 p:PtP s o (cellsD d)
 n:o.length<=6
 w:wO s o<=aO
theorem lT1 {n:Nat} (hO:Ok n adW) (c:Ca) (o:List Int) (hl:c.f.length<=aO) (hw:∀ k,k<c.f.length->OfW c.s o (fAt c.f k)):LpB n 6 1 0 (wT1 c o [] 0 []) (.exit 2) ⟨[(2,.loc 0 0),(5,.loc 1 0),(7,xi c.f.length),(55,xl false)],[c.ps,yC c.s (lI o) (lFc (c.f.map (tFc c.s o)))],[]⟩:=by
 have lp:LpB n 6 1 0 (wT1 c o [] 0 []) (.exit 2) (wT1 c o (c.f.map (tFc c.s o)) c.f.length [(55,xl false)]):=by
  have e0:c.f.map (tFc c.s o)=(List.range c.f.length).map fun k=>tFc c.s o (c.f.getD k Fc0):=(a3T c.f Fc0 (tFc c.s o)).symm;rw[e0,<-fold_map];refine a0B (σ:=List Fc) (N:=c.f.length) (g:=fun k y=>y++[tFc c.s o (c.f.getD k Fc0)]) (s0:=[]) (st:=fun i y=>wT1 c o y i []) (fin:=fun y=>wT1 c o y c.f.length [(55,xl false)]) (fun k y=>y.length<=k) (by kernel_rfl) hl (Nat.le_refl 0) (fun j y hj hy=>by rw[List.length_append,List.length_singleton];omega) (fun j y hj hy m e p g9=>?_) (fun y _=>?_)
  ·have h:=hw j hj;have h2:y.length+[tFc c.s o (c.f.getD j Fc0)].length<=aO:=by simp only[List.length_singleton];omega
   exact round hX hO (by kernel_rfl) (.b (a2v hj) (.o (bP hj) (.o h.l (.o h.p (.o h.n (.o h.w (.o h2 (.goG [.gc [2]] g9))))))))
  exact round hX hO (by kernel_rfl) (.b (a5U c.f.length) .ex)
 exact ajb [.fz 0,.gc []] lp (by kernel_rfl)
open Go Tw Pv gq
section
variable {c:Ca} (p:CaP c) (h0:J3 c=0)
include p h0
theorem a8v:c.o.length<=6:=by
 obtain⟨hf,ho⟩:=a2J p h0;have:=hf.len;unfold ES at ho;rw[decide_eq_true_eq] at ho;omega
theorem ajf (b:Nat) {d:Dg} (u:Usd d) (hs:d.sizes=c.s):OfW c.s (tOn c.o b) d:=by
 obtain⟨hf,ho⟩:=a2J p h0;have h6:=a8v p h0;have ho':=a3R b ho h6;have h1:=a9I hf.sz ho';obtain⟨_,c2,c3⟩:=a9y hf;exact⟨u.l,(abJ u hf ho' hs).p.1,by rw[abI];exact h6,by unfold aO;omega⟩
theorem agC (b:Nat):J3 (tCa c b)=0:=by
 obtain⟨hf,ho⟩:=a2J p h0;have h6:=a8v p h0;have ho':=a3R b ho h6;have e:=a3z p h0;have hl:(tCa c b).f.length=c.f.length:=List.length_map ..;have h8:=e.n;have h1:jy c.s (tOn c.o b)=0:=O6.2 ⟨hf,ho'⟩;have h2:G8 (pJ (cK1 (tCa c b).f) (tCa c b).f.length)=true:=Jb.2 fun k hk=>by
  unfold cK1;rw[(t_f p h0 b (by omega)).2.1];rfl
 have h3:G8 (pJ (cK2 c.s (tOn c.o b) (tCa c b).f) (tCa c b).f.length)=true:=Jb.2 fun k hk=>by
  unfold cK2;rw[adV p h0 (by omega)];show (!(a0Q (c.s,tOn c.o b) (aaJ c.s (tOn c.o b) _)))=false;unfold a0Q aaJ;simp
 have h4:a0k c.s (tOn c.o b) (tCa c b).f=0:=by
  unfold a0k;rw[h1,if_neg (by simp),if_neg (by rw[decide_eq_true_eq];omega),if_pos h2,if_pos h3]
 unfold J3;show (if (a0k c.s (tOn c.o b) (tCa c b).f != 0)=true then _ else _)=(0:Int);rw[h4,if_neg (by simp),(t_g p h0 b).2.1,if_neg (by simp)];show (if (!(decide (c.s=c.s)))=true then (2:Int) else if (!(decide (tOn c.o b=tOn c.o b)))=true then 2 else 0)=0;simp
theorem abL (b:Nat) {k:Nat} (hk:k<c.f.length) (pt:CaP (tCa c b)):cAt (lW c.f) k=cAt (lW (tCa c b).f) k:=by
 have hl:(tCa c b).f.length=c.f.length:=List.length_map ..;unfold cAt;rw[a2F,a2F];obtain⟨_,h2,h3,h4⟩:=t_f p h0 b hk;rw[a0F (p.d k hk),a0F h4,((a3z p h0).u k hk).r,h2,h3]
theorem ajg (b:Nat) (pt:CaP (tCa c b)):a0g c.f c.g=a0g (tCa c b).f (tCa c b).g:=by
 refine a9z (List.length_map ..).symm (fun k hk=>abL p h0 b hk pt) ?_;obtain⟨_,h2,h3,h4⟩:=t_g p h0 b;rw[a0F p.p.lg,a0F h4,(a3z p h0).v.r,h2,h3]
theorem ajh (b:Nat) (pt:CaP (tCa c b)):a0g c.f (nv c.s c.o)=a0g (tCa c b).f (nv (tCa c b).s (tCa c b).o):=by
 obtain⟨hf,ho⟩:=a2J p h0;have ho':=a3R b ho (a8v p h0);refine a9z (List.length_map ..).symm (fun k hk=>abL p h0 b hk pt) ?_;rw[a8t p.p.ls p.p.lo (O6.2 ⟨hf,ho⟩),a8t pt.p.ls pt.p.lo (O6.2 ⟨hf,ho'⟩)]
end
theorem afk {c:Ca} (p:CaP c) (h0:J3 c=0):o9 fCf c.s c.o c.f=(a19 (fCf c.s c.o c.f) c.f.length,0)∧a0J c.s c.o c.f c.g=(a19 (fEx c.f c.g) c.f.length,0)∧o9 fGu c.s c.o c.f=(a19 (fGu c.s c.o c.f) c.f.length,0):=by
 have hg:a0k c.s c.o c.f=0:=by
  unfold J3 at h0;split at h0
  ·exact h0
  rename_i h;simpa using h
 have hbk:a6R c.s c.o c.f=0:=(a8r p.d).trans hg;have w0:=(a3X p).trans h0;refine⟨?_,?_,?_⟩
 ·unfold o9;rw[if_pos hbk]
 ·unfold a0J;rw[if_pos w0]
 unfold o9;rw[if_pos hbk]
theorem aa9 {n:Nat} (hO:Ok n adW) (c:Ca) (b:Nat) (hb:b<256) (hr:CaR c):Con X0 Tryz.prog (ApN (n+1)) 6 ((a2 caA uA).put (c,(b:Int))) (tA.put true) []:=by
 have hp:a0e c=true->CaP c:=fun h=>(aa0 hr h).p;cases hy:a1Q c
 ·have h1:(!(a1Q c))=true:=by rw[hy];rfl
  exact dS hX hO (by kernel_rfl) (.o hp (.b h1 .rr))
 have h1:(!(a1Q c))=false:=by rw[hy];rfl
 have hy2:a0e c=true∧J3 c=0:=by
  unfold a1Q at hy;split at hy
  ·rename_i h;exact⟨h,by simpa using hy⟩
  cases hy
 obtain⟨ht,h0⟩:=hy2;have k:=aa0 hr ht;have e:=a3z k.p h0;obtain⟨t1,t2,t3,t4,t5,t6⟩:=a2A ht;have hs:=aa1 k.p h0;have l0:=lT0 hO c hb (a8v k.p h0);have l1:=lT1 hO c (tOn c.o b) k.p.p.lf fun j hj=>ajf k.p h0 b (e.u j hj) ((e.s j hj).trans hs);have w:=ajf k.p h0 b e.v hs;cases hz:a0e (tCa c b)
 ·have h2:(!(a0e (tCa c b)))=true:=by rw[hz];rfl
  exact dS hX hO (by kernel_rfl) (.o hp (.b h1 (.wG [.a5f 1 1 3] l0 (.wG [.a5f 1 2 66] l1 (.o w.l (.o w.p (.o w.n (.o w.w (.b h2 .rr)))))))))
 have h2:(!(a0e (tCa c b)))=false:=by rw[hz];rfl
 have k':=aa0 (aja k.p h0 b) hz;obtain⟨a1,a2,a3⟩:=afk k.p h0;obtain⟨b1,b2,b3⟩:=afk k'.p (agC k.p h0 b);have hn8:c.f.length<8:=by have:=e.n;omega
 have hl:(tCa c b).f.length=c.f.length:=List.length_map ..;have pG:=ajg k.p h0 b k'.p;have pN:=ajh k.p h0 b k'.p;have e1:(o9 fCf c.s c.o c.f).1=(o9 fCf (tCa c b).s (tCa c b).o (tCa c b).f).1:=by rw[a1,b1,hl];unfold fCf;rw[pN]
 have e2:(a0J c.s c.o c.f c.g).1=(a0J (tCa c b).s (tCa c b).o (tCa c b).f (tCa c b).g).1:=by rw[a2,b2,hl];unfold fEx;rw[pG]
 have e3:(o9 fGu c.s c.o c.f).1=(o9 fGu (tCa c b).s (tCa c b).o (tCa c b).f).1:=by rw[a3,b3,hl];unfold fGu abH adz;rw[pN,hl]
 have s1:SsP (o9 fCf c.s c.o c.f).1 (o9 fCf (tCa c b).s (tCa c b).o (tCa c b).f).1:=by rw[a1];exact a8u _ hn8 _
 have s2:SsP (a0J c.s c.o c.f c.g).1 (a0J (tCa c b).s (tCa c b).o (tCa c b).f (tCa c b).g).1:=by rw[a2];exact a8u _ hn8 _
 have s3:SsP (o9 fGu c.s c.o c.f).1 (o9 fGu (tCa c b).s (tCa c b).o (tCa c b).f).1:=by rw[a3];exact a8u _ hn8 _
 have q1:((o9 fCf c.s c.o c.f).2==0)=true:=by rw[a1];rfl
 have q2:((o9 fCf (tCa c b).s (tCa c b).o (tCa c b).f).2==0)=true:=by rw[b1];rfl
 have q3:=decide_eq_true e1;have q4:((a0J c.s c.o c.f c.g).2==0)=true:=by rw[a2];rfl
 have q5:((a0J (tCa c b).s (tCa c b).o (tCa c b).f (tCa c b).g).2==0)=true:=by rw[b2];rfl
 have q6:=decide_eq_true e2;have q7:((o9 fGu c.s c.o c.f).2==0)=true:=by rw[a3];rfl
 have q8:((o9 fGu (tCa c b).s (tCa c b).o (tCa c b).f).2==0)=true:=by rw[b3];rfl
 have q9:=decide_eq_true e3;exact dS hX hO (by kernel_rfl) (.o hp (.b h1 (.wG [.a5f 1 1 3] l0 (.wG [.a5f 1 2 66] l1 (.o w.l (.o w.p (.o w.n (.o w.w (.b h2 (.o k (.o k' (.o k (.o k' (.o k (.o k' (.b q1 (.b q2 (.o s1 (.b q3 (.b q4 (.b q5 (.o s2 (.b q6 (.b q7 (.b q8 (.o s3 (.b q9 .rr)))))))))))))))))))))))))))
noncomputable def oc6:iO bM:=dL 6 (a2 caA uA) tA (fun _=>true) (fun p=>[CaR p.1,0<=p.2∧p.2<=255]) adW
theorem gc6:Gd oc6:=alC.add fun n hO p hp=>by
 obtain⟨c,b⟩:=p;have hb:0<=b∧b<=255:=hp _ (.tail _ (.head _));obtain⟨j,rfl⟩:=Int.eq_ofNat_of_zero_le hb.1;exact aa9 hO c j (by have:=hb.2;omega) (hp _ (.head _))
open Go Tw Pv Go.ChangeShapes Go.WideShapes Go.ChangeAt Go.RowKit
theorem Tryz.own:ownKnob Tryz.prog.godebug=none:=by kernel_rfl
theorem Tryz.laidOut:laidOutB Tryz.prog=true:=by kernel_rfl
theorem Tryz.mixed:Tryz.prog.follows .mixedOrders=true:=by kernel_rfl
theorem agD:aj Tryz.prog T.ext:=ae4 (adu (T:=TM) Tryz.mixed abu adI)
theorem Tryz.tys6:Tryz.f6.params.toList=[29,5]:=by kernel_rfl
set_option maxRecDepth 100000 in
theorem a3A (os:Os) (started:os.Started) (H:Type) (enc:TypeId×Value->H) :
  ReturnsInHanded {} Tryz.checked os 6 .any (Rows.blameTurnedSpec.pre6 enc Tryz.prog Tryz.f6 Rows.blameTurnedRow.domain false) (Rows.blameTurnedSpec.post enc Tryz.prog Tryz.f6 false true false false):=by
 refine returnsInHanded_of_change (C:=Tryz.checked) Tryz.own started (by kernel_rfl) Tryz.func6
  (ChangeSpec.witness6 (enc:=enc) (C:=Tryz.checked) false ⟨#[],#[.agg #[.slice none 0 0,.slice none 0 0,.slice none 0 0,.slice none 0 0,.slice none 0 0,.slice none 0 0,.slice none 0 0,.int .i64 0],.int .u8 0],[]⟩ 8 (by kernel_rfl) (by kernel_rfl) (by kernel_rfl) (by kernel_rfl)) ?_
 intro W base args ds gs before aji hW anI _;have a9n:∀ (j:Nat) t v,Tryz.f6.params[j]? = some t->args[j]? = some v->Value.okWide Tryz.prog W .any base t v:=aji;have hW':=hW;obtain⟨p,q,alE,hV,rfl,hfz,lH⟩:=hW;have hTA:DataW.TrodAll enc Tryz.prog W 0 (fun _=>true) true Tryz.f6.params.toList args.toList ds p:=alE;obtain⟨rfl,rfl⟩:=trodVars_none hV;rw[Tryz.tys6] at hTA;obtain⟨d0,_,rfl,r0,_,_,hTA⟩:=a7Y hTA;obtain⟨d1,_,rfl,r1,_,_,hTA⟩:=a7Y hTA;obtain⟨_,rfl,_⟩:=trodAll_nil hTA;obtain⟨a0,q0,h0⟩:=rCa (g:=0) d0 r0;obtain⟨a1,q1,h1⟩:=rU8 (g:=7) d1 r1;obtain⟨x0,e0,g0,v0⟩:=h0 ([]);obtain⟨x1,e1,g1,v1⟩:=h1 ([]++e0);have w0:=v0 (e1);simp only[List.append_assoc,List.nil_append,List.append_nil] at w0;have w1:=v1 ([]);simp only[List.append_assoc,List.nil_append,List.append_nil] at w1;obtain⟨y1,_,rfl,u1,z1⟩:=w1.inv;cases z1.inv0;obtain⟨N,hN⟩:=gc6;have alF:=hN (N+1) (by omega) 6 ((Pv.a2 caA uA).put (a0,a1)) (tA.put true) [] [CaR a0,0<=a1∧a1<=255] rfl (by
  intro p hp;simp only[List.mem_cons,List.not_mem_nil,or_false] at hp;rcases hp with rfl | rfl
  ·exact q0
  ·exact q1)
 obtain⟨h',hr⟩:=aga (h:=[]++e0++e1) alF (by simp only[List.append_assoc,List.nil_append,List.append_nil];exact .cons (.agg w0.1 w0.2) (.cons u1 .nil));exact a9C (P:=Tryz.prog) (T:=T) (L:=LL) (n:=N) (g:=8) Tryz.mixed Tryz.laidOut rfl rfl (by kernel_rfl) Tryz.underlying4 (by kernel_rfl) hW' a9n
  (by rw[Tryz.tys6];exact (ag7 (by kernel_rfl) g0 (ag8 (by kernel_rfl) g1 ag9))) agD (by kernel_rfl) (by kernel_rfl) hr
theorem a3C:joinedFacts Tryz.pinned.checked.prog 6 Tryz.f6 Rows.blameTurnedSpec Rows.blameTurnedRow=true:=by kernel_rfl
theorem BlameTurned_holds:Rows.BlameTurnedSaid:=
 OpenClaim.holds_of_wide 6 Tryz.f6 rfl rfl rfl rfl rfl rfl rfl ⟨rfl,rfl,rfl,rfl,rfl⟩ rfl rfl rfl rfl rfl (by kernel_rfl) Tryz.func6 a3C
  (of_decide_eq_true (by kernel_rfl)) (by unfold Func.isWrapper;first | (rw[if_pos (by decide +kernel)];kernel_rfl) | (rw[if_neg (by decide +kernel)];exact⟨rfl,rfl⟩))
  (fun os started H enc _=>a3A os started H enc)
end Go.Proofs.YtjkgcifieggcpaaGreat
