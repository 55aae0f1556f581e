/- The smallest set that can be given up, and all minimal ones, are as the document says, or the error is (statement BlameRelaxes: conditions as BlameConflicts). -/
import Derived.Test.YtjkgcifieggcpaaGreatRows
import Derived.ProofKit
import Derived.Test.YtjkgcifieggcpaaGreatP16
set_option linter.constructorNameAsVariable false
set_option linter.unusedVariables false
set_option linter.unusedSimpArgs false
set_option linter.unusedSectionVars false
namespace Go.Proofs.YtjkgcifieggcpaaGreat
open Go Tw Pv fZ
theorem adB {s:List Int}(hs:BN s):∀{o:List Int},(∀c∈o,CB c s.length)->1<=wO s o
 |[],_=>Nat.le_refl _
 |c::r,h=>by
  have h1:=adB hs (o:=r) fun c hc=>h c (by simp[hc]);obtain⟨h2,h3⟩:=h c (by simp);have h4:=hs _ (KP (s:=s) (k:=c.toNat) (by omega));have h5:1*1<=(s.getD c.toNat 0).toNat*wO s r:=Nat.mul_le_mul (by omega) h1;simpa[wO]using h5
theorem aan (E:List V)(v:V):(Vp E v).length<=E.length+1:=by
 unfold Vp;split<;>simp
theorem adC (N:List Br)(c:Int)(ks:List Int):(aax N c ks).length<=N.length+1:=by
 unfold aax;split
 ·omega
 split<;>simp
theorem abH {f:List Int->EN->Int×EN}{c:Int}{p:List Int}{n w:Nat}(h:∀q x,(f q x).2.1.length<=x.1.length+w∧(f q x).2.2.length+1<=x.2.length+w)(x:EN):(uo (gPt f c p) n 0 ([],x)).1.length=n∧(uo (gPt f c p) n 0 ([],x)).2.1.length<=x.1.length+n*w∧(uo (gPt f c p) n 0 ([],x)).2.2.length+n<=x.2.length+n*w:=by
 have:=Ru (g:=gPt f c p) (m:=n) (k:=0) (s:=([],x)) (fun k y=>y.1.length=k∧y.2.1.length<=x.1.length+k*w∧y.2.2.length+k<=x.2.length+k*w) ⟨rfl,by simp,by simp⟩ (fun j y _ _ hy=>by
  obtain⟨h1,h2,h3⟩:=hy;have:=h (p.set c.toNat j) y.2;refine⟨by simp[gPt,h1],?_,?_⟩
  ·simp only[gPt,Nat.add_mul,Nat.one_mul];omega
  simp only[gPt,Nat.add_mul,Nat.one_mul];omega)
 rw[Nat.zero_add]at this;exact this
theorem adD {s:List Int}{l:List V}(hs:BN s):∀(o p:List Int) (x:EN),(∀c∈o,CB c s.length)->(Yi s l o p x).2.1.length<=x.1.length+wO s o∧(Yi s l o p x).2.2.length+1<=x.2.length+wO s o
 |[],p,x,_=>by
  have:=aan x.1 (l.getD (XW s p).toNat V0);exact⟨this,by simp[Yi,wO]⟩
 |c::r,p,x,h=>by
  obtain⟨h1,h2,h3⟩:=abH (f:=Yi s l r) (c:=c) (p:=p) (n:=(s.getD c.toNat 0).toNat) (w:=wO s r) (fun q x=>adD hs r q x fun c hc=>h c (by simp[hc])) x;obtain⟨i1,i2⟩:=h c (by simp);have h4:=hs _ (KP (s:=s) (k:=c.toNat) (by omega));simp only[Yi,wO];generalize uo (gPt (Yi s l r) c p) (s.getD c.toNat 0).toNat 0 ([],x)=y at h1 h2 h3;refine⟨h2,?_⟩;by_cases hn:(s.getD c.toNat 0).toNat=1
  ·have e:aax y.2.2 c y.1=y.2.2:=by
    unfold aax;rw[if_pos];rw[hn]at h1
    match hy:y.1,h1 with
    |[a],_=>simp
   rw[e];omega
  have:=adC y.2.2 c y.1;omega
abbrev dP (s o:List Int)(i j:Nat):PV bM:=.agg [lI s,lI o,.own i,.own j,.int .i64 0]
abbrev d0P:List (PV bM):=[.nil .slc,.nil .slc,.nil .slc,.nil .slc,.int .i64 0]
abbrev w1P (s o:List Int)(v:V)(i:Int)(x:List (Nat×PE bM))(H:List (PB bM)):aV bM:=⟨[(4,.loc 0 0),(8,.loc 1 0),(10,.loc 2 0),(11,xi i)]++x,[[lI s,lI o,.own 0,.own 1,.int .i64 0],d0P,v.ps],H⟩
def z1P (s o:List Int)(E:List V)(v:V)(H:List (PB bM)):Unit⊕Nat->Ex×aV bM
 |.inl _=>(.exit 0,w1P s o v E.length [(33,xl false)] H)
 |.inr k=>(.ret,⟨[(8,.loc 1 0),(9,xi (IntKind.i64.wrap (-1-(k:Int))))],[[lI s,lI o,.own 0,.own 1,.int .i64 0],[lI s,lI o,.own 0,.own 1,.int .i64 0],v.ps],H⟩)
abbrev c1P (E:List V)(v:V)(k:Nat):Bool:=decide (E.getD k V0=v)
theorem l1P {n:Nat}(hO:Ok n a6H)(s o:List Int){E:List V}(N:List Br)(v:V)(pl:List Int)(ko ex:Bool)(hl:E.length<=aO):LpB n 83 0 3 (w1P s o v 0 [] [lsV E,lsB N,oI ko ex pl]) (z1P s o E v [lsV E,lsB N,oI ko ex pl] (pz (c1P E v) E.length)).1 (z1P s o E v [lsV E,lsB N,oI ko ex pl] (pz (c1P E v) E.length)).2:=
 rC (st:=fun i _=>w1P s o v i [] [lsV E,lsB N,oI ko ex pl]) (fun _ _=>True) (by kernel_rfl) hl trivial (fun k u m hk _ ih=>round hX hO (by kernel_rfl) (.b (a2m hk) (.o (dB hk) (.q (.bool (c1P E v k)) (G6 (.tmp 40) (.tmp 41) (E.getD k V0) v) (.ls (.ou nofun) (.nx (ih _ trivial)))))))
  (fun _ _=>round hX hO (by kernel_rfl) (.b (a5L E.length) (.ou nofun)))
theorem a9s {α:Type}[DecidableEq α]{l:List α}{d a:α}{c:Nat->Bool}(hc:∀k,k<l.length->c k=decide (l.getD k d=a)):(a∈l->pz c l.length=.inr (l.idxOf a))∧(a∉l->G5 (pz c l.length)=true):=by
 constructor
 ·intro h;have hi:=List.idxOf_lt_length_iff.2 h;have h1:c (l.idxOf a)=true:=by
   rw[hc _ hi,decide_eq_true_eq,List.getD,List.getElem?_eq_getElem hi,Option.getD_some,List.getElem_idxOf]
  cases e:G5 (pz c l.length)
  ·obtain⟨j,hj,cj,hb,e2⟩:=a5f e;rw[e2];congr 1;rcases Nat.lt_trichotomy j (l.idxOf a)with g|g|g
   ·exfalso;rw[hc j hj,decide_eq_true_eq,List.getD,List.getElem?_eq_getElem hj,Option.getD_some]at cj;have:=List.not_of_lt_findIdx (p:=(·==a)) g;rw[cj]at this;simp at this
   ·exact g
   rw[hb _ g]at h1;cases h1
  rw[J8.1 e _ hi]at h1;cases h1
 intro h;refine J8.2 fun j hj=>?_;rw[hc j hj,decide_eq_false_iff_not,List.getD,List.getElem?_eq_getElem hj,Option.getD_some];rintro rfl;exact h (List.getElem_mem hj)
abbrev w2P (s o:List Int)(l:List V)(a c:Int)(k:Nat)(x:Int)(y:List (Nat×PE bM))(H:List (PB bM)):aV bM:=⟨[(1,xL 79 l),(2,xi a),(3,.val (.own 2)),(4,.loc 0 0),(8,.loc 1 0),(12,.loc 2 0),(13,xi x)]++y,[[lI s,lI o,.own 3,.own 4,.int .i64 0],d0P,[.int .i64 c,.own k]],H⟩
abbrev HP (pl:List Int)(ko ex:Bool)(x:EN):List (PB bM):=[.gone,.gone,oI ko ex pl,lsV x.1,lsB x.2]
theorem l2P {M:Nat}(hO:Ok M a6H){s o:List Int}{l:List V}{a c:Int}{pl:List Int}{ko ex:Bool}{f:List Int->EN->Int×EN}{w:Nat}(hs:BN s)(hc:CB c s.length)(hp:Ae s pl=true)(hpm:pl.length<=aO)(x:EN)(hl:∀q x,(f q x).2.1.length<=x.1.length+w∧(f q x).2.2.length+1<=x.2.length+w)
  (hx:x.1.length+(s.getD c.toNat 0).toNat*w<=aO∧x.2.length+(s.getD c.toNat 0).toNat*w<=aO) (Q:EN->Prop) (hQ:Q x) (hQf:∀q y,Q y->Q (f q y).2)
  (hf:∀q y,Ae s q=true->y.1.length+w<=aO->y.2.length+w<=aO->Q y->qC X0 Tryz.prog (ApN M) (.fn 83 [] []) [dP s o 0 1,lV l,.int .i64 (IntKind.i64.wrap (a+1)),.own 2] [lsV y.1,lsB y.2,oI true false q] (.bH [dP s o 3 4,.int .i64 (f q y).1]) (HP q true false (f q y).2)) :
  LpB M 83 1 3 (w2P s o l a c 5 0 [] (HP pl ko ex x++[oI false false []])) (.exit 2) (w2P s o l a c 5 (((s.getD c.toNat 0).toNat:Nat):Int) [(70,xl false)] (HP pl ko ex (uo (gPt f c pl) (s.getD c.toNat 0).toNat 0 ([],x)).2++[oI false false (uo (gPt f c pl) (s.getD c.toNat 0).toNat 0 ([],x)).1])):=by
 obtain⟨c1,c2⟩:=hc;have hz:=hs _ (KP (s:=s) (k:=c.toNat) (by omega));have en:(((s.getD c.toNat 0).toNat:Nat):Int)=s.getD c.toNat 0:=by omega
 have qK:=a0Y hp;have hic:CB c s.length:=⟨c1,c2⟩;have hip:CB c pl.length:=by rw[qK];exact hic
 have hw:∀k,k<(s.getD c.toNat 0).toNat->k*w+w<=(s.getD c.toNat 0).toNat*w:=fun k hk=>by
  have:(k+1)*w<=(s.getD c.toNat 0).toNat*w:=Nat.mul_le_mul_right w hk;rw[Nat.add_mul]at this;omega
 refine a0j (σ:=List Int×EN) (N:=(s.getD c.toNat 0).toNat) (g:=gPt f c pl) (s0:=([],x)) (st:=fun k y=>w2P s o l a c 5 k [] (HP pl ko ex y.2++[oI false false y.1])) (fin:=fun y=>w2P s o l a c 5 (((s.getD c.toNat 0).toNat:Nat):Int) [(70,xl false)] (HP pl ko ex y.2++[oI false false y.1])) (fun k y=>(y.1.length=k∧y.2.1.length<=x.1.length+k*w∧y.2.2.length<=x.2.length+k*w)∧Q y.2) (by kernel_rfl) (by unfold aO;omega) ⟨⟨rfl,by simp,by simp⟩,hQ⟩ (fun j y hj hy=>?_) (fun j y hj hy m e p g=>?_) (fun y _=>?_)
 ·obtain⟨⟨h1,h2,h3⟩,hq⟩:=hy;have:=hl (pl.set c.toNat j) y.2;refine⟨⟨by simp[gPt,h1],?_,?_⟩,hQf _ _ hq⟩
  ·simp only[gPt,Nat.add_mul,Nat.one_mul];omega
  ·simp only[gPt,Nat.add_mul,Nat.one_mul];omega
 ·obtain⟨⟨h1,h2,h3⟩,hqy⟩:=hy;have hwj:=hw j hj;have hq:Ae s (pl.set c.toNat j)=true:=a94 hp hic (by rw[<-en]at hz ⊢;exact⟨by omega,by omega⟩);have aaK:=hf (pl.set c.toNat j) y.2 hq (by omega) (by omega) hqy;have t1:decide ((j:Int)<s.getD c.toNat 0)=true:=by rw[decide_eq_true_eq];omega
  unfold gPt at g;generalize f (pl.set c.toNat j) y.2=z at aaK g;obtain⟨v,E',N'⟩:=z;exact round hX hO (by kernel_rfl) (.o hic (.b t1 (.o hpm (.o hip (.fr [3,4,6] aaK (.o (show y.1.length+[v].length<=aO by simp only[List.length_singleton];unfold aO;omega) (.goG [.gc [7,8,10]] g)))))))
 ·have t1:decide ((((s.getD c.toNat 0).toNat:Nat):Int)<s.getD c.toNat 0)=false:=by rw[decide_eq_false_iff_not];omega
  exact round hX hO (by kernel_rfl) (.o hic (.b t1 .ex))
abbrev w3P (s o:List Int)(c:Int)(x:Int)(y:List (Nat×PE bM))(H:List (PB bM)):aV bM:=⟨[(4,.loc 0 0),(8,.loc 1 0),(12,.loc 2 0),(16,xi x)]++y,[[lI s,lI o,.own 3,.own 4,.int .i64 0],d0P,[.int .i64 c,.own 5]],H⟩
def z3P (s o:List Int)(c:Int)(N:List Br)(H:List (PB bM)):Unit⊕Nat->Ex×aV bM
 |.inl _=>(.exit 4,w3P s o c N.length [(106,xl false)] H)
 |.inr k=>(.ret,⟨[(8,.loc 1 0),(9,xi (k:Int))],[[lI s,lI o,.own 3,.own 4,.int .i64 0],[lI s,lI o,.own 3,.own 4,.int .i64 0],[.int .i64 c,.own 5]],H⟩)
abbrev c3P (N:List Br)(c:Int)(ks:List Int)(k:Nat):Bool:=if ((N.getD k SB).var==c)=true then decide ((N.getD k SB).kids=ks)else false
theorem agM {N:List Br}{c:Int}{ks:List Int}{k:Nat}(_:k<N.length):c3P N c ks k=decide (N.getD k SB=⟨c,ks⟩):=by
 unfold c3P;rcases N.getD k SB with⟨v,l⟩;by_cases h1:v=c
 ·by_cases h2:l=ks<;>simp[h1,h2]
 simp[h1]
theorem l3P {n:Nat}(hO:Ok n a6H)(s o:List Int)(E:List V){N:List Br}(c:Int)(ks pl:List Int)(ko ex:Bool)(hl:N.length<=aO)(hk:∀b∈N,b.kids.length<=aO):LpB n 83 2 3 (w3P s o c 0 [] (HP pl ko ex (E,N)++[oI false false ks])) (z3P s o c N (HP pl ko ex (E,N)++[oI false false ks]) (pz (c3P N c ks) N.length)).1 (z3P s o c N (HP pl ko ex (E,N)++[oI false false ks]) (pz (c3P N c ks) N.length)).2:=by
 refine rC (st:=fun i _=>w3P s o c i [] (HP pl ko ex (E,N)++[oI false false ks])) (g:=gS (c3P N c ks)) (out:=z3P s o c N (HP pl ko ex (E,N)++[oI false false ks])) (fun _ _=>True) (by kernel_rfl) hl trivial (fun k u m BX _ ih=>?_) (fun _ _=>?_)
 ·have h1:=(V8 (d:=SB) (p:=fun b=>b.kids.length<=aO)).2 hk k BX;unfold gS c3P;cases e:(N.getD k SB).var==c
  ·exact round hX hO (by kernel_rfl) (.b (a2m BX) (.o (dB BX) (.b e (.nx (ih _ trivial)))))
  exact round hX hO (by kernel_rfl) (.b (a2m BX) (.o (dB BX) (.b e (.o (dB BX) (.o h1 (.ls (.ou nofun) (.nx (ih _ trivial))))))))
 exact round hX hO (by kernel_rfl) (.b (a5L N.length) (.ou nofun))
theorem adE (c:Int)(ks:List Int):Vf ⟨c,ks⟩=ks.all fun x=>x==ks.getD 0 0:=a6S ⟨c,ks⟩
theorem alS {n:Nat}(hO:Ok n a6H){s o:List Int}{l:List V}(h:PtP s o l)(pl:List Int)(ko ex:Bool)(hp:Ae s pl=true)(x:EN)(hx:x.1.length+1<=aO):qC X0 Tryz.prog (ApN (n+1)) (.fn 83 [] []) [dP s o 0 1,lV l,.int .i64 o.length,.own 2] [lsV x.1,lsB x.2,oI ko ex pl] (.bH [dP s o 3 4,.int .i64 (IntKind.i64.wrap (-1-(x.1.idxOf (l.getD (XW s pl).toNat V0):Nat)))]) (HP pl ko ex (Vp x.1 (l.getD (XW s pl).toNat V0),x.2)):=by
 obtain⟨E,N⟩:=x;have hr:=a5q hp h.fine.sz;have vT:CB (XW s pl) l.length:=⟨hr.1,by rw[h.len];exact hr.2⟩;have t0:((o.length:Int)==(o.length:Int))=true:=by simp
 have hE:E.length+1<=aO:=hx;have l1:=l1P hO s o (E:=E) N (l.getD (XW s pl).toNat V0) pl ko ex (by omega);have hs:=a9s (l:=E) (d:=V0) (a:=l.getD (XW s pl).toNat V0) (c:=c1P E (l.getD (XW s pl).toNat V0)) (fun _ _=>rfl);have hf:=h.fine;show qC X0 Tryz.prog _ _ _ _ (.bH [_,.int .i64 (IntKind.i64.wrap (-1-(E.idxOf (l.getD (XW s pl).toNat V0):Nat)))]) (HP pl ko ex (Vp E (l.getD (XW s pl).toNat V0),N));by_cases c:l.getD (XW s pl).toNat V0∈E
 ·rw[show Vp E (l.getD (XW s pl).toNat V0)=E from if_pos c];rw[hs.1 c]at l1;generalize E.idxOf (l.getD (XW s pl).toNat V0)=j at l1 ⊢;exact qC.gs hX (a2n hX hO (first:=[]) (cap:=[]) (v:=.bH [dP s o 0 1,.int .i64 (IntKind.i64.wrap (-1-(j:Nat)))]) (H1:=[lsV E,lsB N,oI ko ex pl]) (by kernel_rfl) (.b t0 (.o hp (.o hf (.o vT (.w l1 .er)))))) [.mv 0,.mv 1] rfl
 rw[show Vp E (l.getD (XW s pl).toNat V0)=E++[l.getD (XW s pl).toNat V0]from if_neg c,List.idxOf_eq_length c];have hi:=hs.2 c;have hz:z1P s o E (l.getD (XW s pl).toNat V0) [lsV E,lsB N,oI ko ex pl] (pz (c1P E (l.getD (XW s pl).toNat V0)) E.length)=(.exit 0,w1P s o (l.getD (XW s pl).toNat V0) E.length [(33,xl false)] [lsV E,lsB N,oI ko ex pl]):=by
  cases e:pz (c1P E (l.getD (XW s pl).toNat V0)) E.length with
  |inl _=>rfl
  |inr _=>rw[e]at hi;cases hi
 rw[hz]at l1;have ew:IntKind.i64.wrap (-1-(E.length:Nat))=IntKind.i64.wrap (0-((E++[l.getD (XW s pl).toNat V0]).length:Int)):=by
  rw[List.length_append,List.length_singleton];congr 1;push_cast;omega
 rw[ew];exact qC.gs hX (a2n hX hO (first:=[]) (cap:=[]) (v:=.bH [dP s o 4 1,.int .i64 (IntKind.i64.wrap (0-((E++[l.getD (XW s pl).toNat V0]).length:Int)))]) (H1:=[.gone,lsB N,oI ko ex pl,.list true true 79 [l.getD (XW s pl).toNat V0],lsV (E++[l.getD (XW s pl).toNat V0])]) (by kernel_rfl) (.b t0 (.o hp (.o hf (.o vT (.w l1 (.o (show E.length+[l.getD (XW s pl).toNat V0].length<=aO by simpa using hE) .er))))))) [.mv 1,.gc [4,5]] rfl
theorem alT {n:Nat}(hO:Ok n a6H){s o:List Int}{l:List V}{a:Nat}{c:Int}(ha:a<o.length)(hc:o.getD a 0=c)(pl:List Int)(ko ex:Bool)(E0:List V)(N0:List Br)(q:Int){ks:List Int}{E:List V}{N:List Br}(hk:1<=ks.length∧ks.length<=12)(hN:N.length+1<=aO)(hb:∀b∈N,b.kids.length<=aO)
  (l2:LpB n 83 1 3 (w2P s o l a c 5 0 [] (HP pl ko ex (E0,N0)++[oI false false []])) (.exit 2) (w2P s o l a c 5 q [(70,xl false)] (HP pl ko ex (E,N)++[oI false false ks]))):qC X0 Tryz.prog (ApN (n+1)) (.fn 83 [] []) [dP s o 0 1,lV l,.int .i64 a,.own 2] [lsV E0,lsB N0,oI ko ex pl] (.bH [dP s o 3 4,.int .i64 (aaw N c ks)]) (HP pl ko ex (E,aax N c ks)):=by
 have t0:((a:Int)==(o.length:Int))=false:=by simp;omega
 have ia:CB (a:Int) o.length:=dB ha;have hkm:ks.length<=aO:=by unfold aO;omega
 have i0:CB 0 ks.length:=⟨by omega,by omega⟩;unfold aaw aax;subst hc;cases hf:ks.all fun x=>x==ks.getD 0 0
 ·rw[if_neg (by simp),if_neg (by simp)];have hf2:Vf ⟨o.getD a 0,ks⟩=false:=by rw[adE];exact hf
  have l3:=l3P hO s o E (o.getD a 0) ks pl ko ex (by omega) hb;have hs:=a9s (l:=N) (d:=SB) (a:=⟨o.getD a 0,ks⟩) (c:=c3P N (o.getD a 0) ks) (fun _ h=>agM h);by_cases hm:(⟨o.getD a 0,ks⟩:Br)∈N
  ·rw[if_pos hm];rw[hs.1 hm]at l3;generalize N.idxOf (⟨o.getD a 0,ks⟩:Br)=j at l3 ⊢;exact qC.gs hX (a2n hX hO (first:=[]) (cap:=[]) (v:=.bH [dP s o 3 4,.int .i64 (j:Nat)]) (H1:=HP pl ko ex (E,N)++[oI false false ks]) (by kernel_rfl) (.b t0 (.o ia (.wG [.mv 0,.mv 1,.a4W 2 1 3] l2 (.o hkm (.b hf2 (.w l3 .er))))))) [.gc [3,4]] rfl
  ·rw[if_neg hm,List.idxOf_eq_length hm];have hi:=hs.2 hm;have hz:z3P s o (o.getD a 0) N (HP pl ko ex (E,N)++[oI false false ks]) (pz (c3P N (o.getD a 0) ks) N.length)=(.exit 4,w3P s o (o.getD a 0) N.length [(106,xl false)] (HP pl ko ex (E,N)++[oI false false ks])):=by
    cases e:pz (c3P N (o.getD a 0) ks) N.length with
    |inl _=>rfl
    |inr _=>rw[e]at hi;cases hi
   rw[hz]at l3;have ew:((N.length:Nat):Int)=IntKind.i64.wrap (((N++[(⟨o.getD a 0,ks⟩:Br)]).length:Int)-1):=by
    rw[List.length_append,List.length_singleton,CX (by unfold aO at hN;omega) (by unfold aO at hN;omega)];omega
   rw[ew];exact qC.gs hX (a2n hX hO (first:=[]) (cap:=[]) (v:=.bH [dP s o 3 7,.int .i64 (IntKind.i64.wrap (((N++[(⟨o.getD a 0,ks⟩:Br)]).length:Int)-1))]) (H1:=[.gone,.gone,oI ko ex pl,lsV E,.gone,.gone,.list true true 102 [⟨o.getD a 0,ks⟩],lsB (N++[(⟨o.getD a 0,ks⟩:Br)])]) (by kernel_rfl) (.b t0 (.o ia (.wG [.mv 0,.mv 1,.a4W 2 1 3] l2 (.o hkm (.b hf2 (.w l3 (.o (show N.length+[(⟨o.getD a 0,ks⟩:Br)].length<=aO by simpa using hN) .er)))))))) [.gc [3,7]] rfl
 ·rw[if_pos rfl,if_pos rfl];have hf2:Vf ⟨o.getD a 0,ks⟩=true:=by rw[adE];exact hf
  exact qC.gs hX (a2n hX hO (first:=[]) (cap:=[]) (v:=.bH [dP s o 3 4,.int .i64 (ks.getD 0 0)]) (H1:=HP pl ko ex (E,N)++[oI false false ks]) (by kernel_rfl) (.b t0 (.o ia (.wG [.mv 0,.mv 1,.a4W 2 1 3] l2 (.o hkm (.b hf2 (.o i0 .er))))))) [.gc [3,4]] rfl
theorem a8z {s:List Int}{l:List V}(hs:BN s):∀(o p:List Int) (x:EN),(∀c∈o,CB c s.length)->(∀b∈x.2,b.kids.length<=12)->∀b∈(Yi s l o p x).2.2,b.kids.length<=12
 |[],p,x,_,hx=>hx
 |c::r,p,x,h,hx=>by
  have:=Ru (g:=gPt (Yi s l r) c p) (m:=(s.getD c.toNat 0).toNat) (k:=0) (s:=([],x)) (fun k y=>y.1.length=k∧∀b∈y.2.2,b.kids.length<=12) ⟨rfl,hx⟩ (fun j y _ _ hy=>⟨by simp[gPt,hy.1],a8z hs r _ y.2 (fun c hc=>h c (by simp[hc])) hy.2⟩);rw[Nat.zero_add]at this;obtain⟨i1,i2⟩:=h c (by simp);have h4:=hs _ (KP (s:=s) (k:=c.toNat) (by omega));simp only[Yi];generalize uo (gPt (Yi s l r) c p) (s.getD c.toNat 0).toNat 0 ([],x)=y at this;intro b hb;unfold aax at hb;split at hb
  ·exact this.2 b hb
  split at hb
  ·exact this.2 b hb
  rcases List.mem_append.1 hb with hb|hb
  ·exact this.2 b hb
  rw[List.mem_singleton.1 hb];show y.1.length<=12;omega
theorem sPt {n0:Nat}(hO:∀m,n0<=m->Ok m a6H){s o:List Int}{l:List V}(h:PtP s o l):∀(r:List Int) (a:Nat) (pl:List Int) (ko ex:Bool) (x:EN),o.drop a=r->a<=o.length->Ae s pl=true->x.1.length+wO s r<=aO->x.2.length+wO s r<=aO->(∀b∈x.2,b.kids.length<=12)->qC X0 Tryz.prog (ApN (n0+r.length+1)) (.fn 83 [] []) [dP s o 0 1,lV l,.int .i64 a,.own 2] [lsV x.1,lsB x.2,oI ko ex pl] (.bH [dP s o 3 4,.int .i64 (Yi s l r pl x).1]) (HP pl ko ex (Yi s l r pl x).2)
 |[],a,pl,ko,ex,x,hr,ha,hp,h1,h2,_=>by
  have:a=o.length:=by
   have:=congrArg List.length hr;rw[List.length_drop,List.length_nil]at this;omega
  subst this;exact alS (hO _ (by omega)) h pl ko ex hp x h1
 |c::r,a,pl,ko,ex,x,hr,ha,hp,h1,h2,hb=>by
  have aN:a<o.length:=by
   have:=congrArg List.length hr;rw[List.length_drop,List.length_cons]at this;omega
  have hd:=List.drop_eq_getElem_cons aN;rw[hr]at hd;obtain⟨hc,hr2⟩:=List.cons.inj hd;have Sz:c∈o:=by rw[hc];exact List.getElem_mem aN
  have hic:=h.ord c Sz;have hri:∀c'∈r,CB c' s.length:=fun c' Gf=>h.ord c' (by rw[hr2]at Gf;exact List.mem_of_mem_drop Gf);have hcg:o.getD a 0=c:=by rw[hc];simp[List.getD,List.getElem?_eq_getElem aN]
  have ho6:IntKind.i64.wrap ((a:Int)+1)=((a+1:Nat):Int):=by
   have:=h.afa;unfold aO at this;rw[CX (by omega) (by omega)];omega
  have hz:=h.fine.sz _ (KP (s:=s) (k:=c.toNat) (by have:=hic.1;have:=hic.2;omega));have hl:=fun q (x:EN)=>adD (l:=l) h.fine.sz r q x hri;have hp1:=adB h.fine.sz hri;simp only[wO]at h1 h2;have hpm:pl.length<=aO:=by rw[a0Y hp];exact h.slen
  obtain⟨f1,f2,f3⟩:=abH (f:=Yi s l r) (c:=c) (p:=pl) (n:=(s.getD c.toNat 0).toNat) hl x;have afN:=Ru (g:=gPt (Yi s l r) c pl) (m:=(s.getD c.toNat 0).toNat) (k:=0) (s:=([],x)) (fun k y=>∀b∈y.2.2,b.kids.length<=12) hb (fun j y _ _ hy=>a8z h.fine.sz r _ y.2 hri hy);have hfx:∀(M:Nat),n0+r.length+1=M->∀q (y:EN),Ae s q=true->y.1.length+wO s r<=aO->y.2.length+wO s r<=aO->(∀b∈y.2,b.kids.length<=12)->qC X0 Tryz.prog (ApN M) (.fn 83 [] []) [dP s o 0 1,lV l,.int .i64 (IntKind.i64.wrap ((a:Int)+1)),.own 2] [lsV y.1,lsB y.2,oI true false q] (.bH [dP s o 3 4,.int .i64 (Yi s l r q y).1]) (HP q true false (Yi s l r q y).2):=by
   rintro M rfl q y hq y1 y2 y3;rw[ho6];exact sPt hO h r (a+1) q true false y hr2.symm aN hq y1 y2 y3
  have l2:=l2P (hO (n0+(r.length+1)) (by omega)) (s:=s) (o:=o) (l:=l) (a:=a) (c:=c) (pl:=pl) (ko:=ko) (ex:=ex) (f:=Yi s l r) (w:=wO s r) h.fine.sz hic hp hpm x hl ⟨h1,h2⟩ (fun y=>∀b∈y.2,b.kids.length<=12) hb (fun q y hy=>a8z h.fine.sz r q y hri hy) (hfx _ (by omega));simp only[Yi];generalize uo (gPt (Yi s l r) c pl) (s.getD c.toNat 0).toNat 0 ([],x)=y at l2 f1 f2 f3 afN;obtain⟨ks,E,N⟩:=y;have f1:ks.length=(s.getD c.toNat 0).toNat:=f1;have f3:N.length+(s.getD c.toNat 0).toNat<=x.2.length+(s.getD c.toNat 0).toNat*wO s r:=f3;exact alT (hO (n0+(r.length+1)) (by omega)) aN hcg pl ko ex x.1 x.2 _ ⟨by omega,by omega⟩ (by omega) (fun b hb=>by have:=afN b hb;unfold aO;omega) l2
open Go Tw Pv fZ
theorem a9t:∀{s:List Int},BN s->Ae s (List.replicate s.length 0)=true
 |[],_=>rfl
 |a::s,h=>by
  have:=h a (List.mem_cons_self ..);simp only[List.length_cons,List.replicate_succ,Ae,Bool.and_eq_true,decide_eq_true_eq];exact⟨⟨Int.le_refl _,by omega⟩,a9t h.tail⟩
theorem alU {n0:Nat}(hO:∀m,n0<=m->Ok m a6H){s o:List Int}{l:List V}(h:PtP s o l)(hw:wO s o<=aO){k1 e1 k2 e2:Bool}:qC X0 Tryz.prog (ApN (n0+o.length+1)) (.fn 83 [] []) [.agg [.own 0,.own 1,.nil .slc,.nil .slc,.int .i64 0],lV l,.int .i64 0,.own 2] [oI k1 e1 s,oI k2 e2 o,oI true true (List.replicate s.length 0)] (.bH [dP s o 5 6,.int .i64 (Yi s l o (List.replicate s.length 0) ([],[])).1]) [.gone,.gone,oI true true (List.replicate s.length 0),.gone,.gone,lsV (aay s o l).ends,lsB (aay s o l).nodes]:=by
 have hb:=sPt hO h o 0 (List.replicate s.length 0) true true ([],[]) rfl (Nat.zero_le _) (a9t h.fine.sz) (by simpa using hw) (by simpa using hw) (by simp);unfold aay;generalize Yi s l o (List.replicate s.length 0) ([],[])=z at hb ⊢;obtain⟨q,E,N⟩:=z;have h1:=qC.frame hX (ks:=[3,4,2]) (H':=[.gone,.gone,oI true true (List.replicate s.length 0),lsV [],lsB []]) (Hp:=[lsV [],lsB [],oI true true (List.replicate s.length 0)]) (LC:=[.gone,.gone,oI true true (List.replicate s.length 0),lsV E,lsB N]) (v':=.bH [dP s o 5 6,.int .i64 q]) (fv':=.fn 83 [] []) (xs':=[.agg ([lI s,lI o]++[.own 3,.own 4,.int .i64 0]),lV l,.int .i64 0,.own 2]) hb (by decide) rfl rfl rfl rfl rfl rfl rfl;have h2:=qC.pre hX (H:=[.gone,.gone,oI true true (List.replicate s.length 0)]) (cs:=[lI s,lI o]++[.nil .slc,.nil .slc,.int .i64 0]) [.a4W 0 2 79,.a4W 0 3 102] h1 rfl;exact qC.fz hX (H:=[oI k1 e1 s,oI k2 e2 o,oI true true (List.replicate s.length 0)]) (cs:=[.own 0,.own 1]) [0,1] h2 rfl (fun i hi=>by simpa[qV.mZ,qV]using hi)
theorem alV:Gd aaz:=ajh.deep 7 fun n hn hO p hp=>by
 obtain⟨s,o,l⟩:=p;have h:PtP s o l:=hp _ (.head _);have h6:o.length<=6:=hp _ (.tail _ (.head _));have hw:wO s o<=aO:=hp _ (.tail _ (.tail _ (.head _)));have hs:=alU (n0:=n-(o.length+1)) (fun m hm=>hO m (by omega)) h hw (k1:=true) (e1:=false) (k2:=true) (e2:=false);rw[show n-(o.length+1)+o.length+1=n by omega]at hs;have hsl:=h.slen;have hol:=h.afa;show Con _ _ _ _ _ (dA.put (aay s o l)) _;have e:aay s o l=⟨s,o,(aay s o l).ends,(aay s o l).nodes,(aay s o l).root⟩:=rfl;have er:(Yi s l o (List.replicate s.length 0) ([],[])).1=(aay s o l).root:=rfl;rw[er]at hs;generalize aay s o l=d at hs e;obtain⟨s',o',E,N,q⟩:=d;injection e with e1 e2;subst e1 e2;have i1:(s'.length:Int)=s'.length:=rfl;have i2:(0:Int)<=s'.length:=by omega
 have i3:(s'.length:Int)<=(aO:Int):=by omega
 exact dS hX (hO n (by omega)) (by kernel_rfl) (.o hsl (.o hol (.o i1 (.o i2 (.o i3 (.fr [0,1,2] hs .rr))))))
open Go Tw Pv fZ
theorem af2 {s:List Int}{a b:List Int}(h:a.Perm b):wO s a=wO s b:=by
 induction h with
 |nil=>rfl
 |cons x _ ih=>simp only[wO,ih]
 |swap x y l=>simp only[wO];rw[<-Nat.mul_assoc,<-Nat.mul_assoc,Nat.mul_comm (s.getD y.toNat 0).toNat]
 |trans _ _ i1 i2=>rw[i1,i2]
theorem a9u {s:List Int}(hs:BN s):∀(m k:Nat),k+m=s.length->(wO s ((List.range' k m).map fun (j:Nat)=>(j:Int)):Int)=dD (s.drop k)
 | 0,k,h=>by rw[List.drop_of_length_le (by omega)];rfl
 |m+1,k,h=>by
  have hk:k<s.length:=by omega
  have hz:=hs _ (KP (s:=s) (k:=k) hk);rw[List.range'_succ,List.map_cons,wO,a5u hk,Int.natCast_mul,a9u hs m (k+1) (by omega),Int.toNat_natCast,Int.toNat_of_nonneg (by omega)]
theorem agN {s o:List Int}(hs:BN s)(h:EM s.length o=true):(wO s o:Int)=dD s:=by
 have h':=h;unfold EM at h';rw[decide_eq_true_eq]at h';have hi:=a7Y s.length;have nO:=hi;unfold EM at nO;rw[decide_eq_true_eq]at nO;have hp:o.Perm (a0E s.length):=(List.perm_ext_iff_of_nodup h'.2.2 nO.2.2).2 fun a=>⟨fun ha=>a2M hi (h'.2.1 a ha),fun ha=>a2M h (nO.2.1 a ha)⟩;rw[af2 hp];have:=a9u hs s.length 0 (by omega);rw[<-List.range_eq_range']at this;exact this
open Go Tw Pv fZ
theorem alW:Gd aaA:=alV.add fun n hO p hp=>dS hX hO (by kernel_rfl) (.o (hp _ (.head _)) (.o (hp _ (.tail _ (.head _))) (.o (hp _ (.tail _ (.tail _ (.head _)))) (.o (hp _ (.tail _ (.tail _ (.tail _ (.head _))))) .rr))))
end Go.Proofs.YtjkgcifieggcpaaGreat
namespace Pv
open Go Tw
variable {X:iQ}{P:Program}
theorem Con.af4 (hX:aX X P){call:ay}{f:FuncId}{first xs cap vs:List (PV X.Γ)}{v v':PV X.Γ}{ext ext':List (PB X.Γ)}(hc:Con X P call f vs v ext)(hv:views [] (first++xs++cap)=some vs)(hs:mF X 0 ext=some ext')
  (e:shift 0 v=v') (he:(if sD v||ext.any (hasB X)then aK (qV.mZ (first++xs++cap)) []else [])=([]:List (PB X.Γ))):qC X P call (.fn f first cap) xs [] v' ext':=by
 subst e;intro A m h tf nH hr hf hx;cases hf with
 |gone hi _ _=>simp[aG]at hi
 |fn p1 p2 p3 p4=>
  obtain⟨w,h',m1,c1,c2,c3,c4,c5⟩:=XH hX hc hr hv hs ⟨p1,p2⟩ hx ⟨p3,p4⟩;rw[he]at c2;exact⟨w,h',[],m1,c1,c2,c3,c4,c5,fun b hb=>by cases hb⟩
end Pv
namespace Go.Proofs.YtjkgcifieggcpaaGreat
open Go Tw Pv fZ
def acs {α:Type}(g:α->Bool)(i:Nat)(x:α)(s:Unit):Unit⊕(Nat×α×Unit):=if (g x)=true then .inr (i,x,s)else .inl ()
def agO {α:Type}(d:α)(g:α->Bool)(l:List α):Int:=if (G5 (a0C (acs g) l 0 ()))=true then -1 else (((a2l (0,d,()) (a0C (acs g) l 0 ())).1:Int))
theorem adF {α:Type}(g:α->Bool):∀(l:List α) (i:Nat),G5 (a0C (acs g) l i ())=!(l.any g)
 |[],i=>rfl
 |x::l,i=>by
  simp only[a0C,acs,List.any_cons];cases g x
  ·simpa using adF g l (i+1)
  simp[G5]
theorem agP {α:Type}(d:α)(g:α->Bool)(l:List α):decide (agO d g l>=0)=l.any g:=by
 have:=adF g l 0;unfold agO;rw[this];cases l.any g<;>simp
abbrev agQ (f:Nat)(a c:List (PV bM))(H:List (PB bM))(l:List Dg)(i:Int)(x:List (Nat×PE bM)):aV bM:=⟨[(0,xL 27 l),(1,.val (.fn f a c)),(7,xi l.length),(8,xi i)]++x,[],H⟩
def ajj (f:Nat)(a c:List (PV bM))(H:List (PB bM))(l:List Dg):Unit⊕(Nat×Dg×Unit)->Ex×aV bM
 |.inl _=>(.exit 0,agQ f a c H l l.length [(9,xl false)])
 |.inr r=>(.ret,⟨[(4,xi r.1)],[],H⟩)
theorem alX {n f:Nat}{a c:List (PV bM)}{H:List (PB bM)}{g:Dg->Bool}(l:List Dg)(hf:∀x∈l,qC X0 Tryz.prog (ApN n) (.fn f a c) [.agg x.ps] H (.bool (g x)) H)(hl:l.length<=aO):qC X0 Tryz.prog (ApN (n+1)) (.fn 145 [] []) [lDg l,.fn f a c] H (iA.put (agO Dg0 g l)) H:=by
 have lp:LpB n 145 0 H.length (agQ f a c H l 0 []) (ajj f a c H l (a0C (acs g) l 0 ())).1 (ajj f a c H l (a0C (acs g) l 0 ())).2:=
  a7R (st:=fun i _=>agQ f a c H l i []) Dg0 (fun _ _=>True) (by kernel_rfl) hl LLm trivial (fun k s n hk _ ih=>round hX ok0 (by kernel_rfl) (.b (a2m hk) (.o (dB hk) (.k (hf (l.getD k Dg0) (Vw hk)) (.ls (.ou nofun) (.nx (ih _ trivial))))))) (fun s _=>round hX ok0 (by kernel_rfl) (.b (a5L l.length) (.ou nofun)))
 exact kN hX ok0 (first:=[]) (cap:=[]) (by kernel_rfl) (.szh (fun h=>.w (xC lp () h) .sr) (fun h=>.w (Fa lp (0,Dg0,()) h) .sr))
theorem alY {n f:Nat}{a c:List (PV bM)}{H:List (PB bM)}{g:Dg->Bool}(l:List Dg)(hf:∀x∈l,qC X0 Tryz.prog (ApN n) (.fn f a c) [.agg x.ps] H (.bool (g x)) H)(hl:l.length<=aO):qC X0 Tryz.prog (ApN (n+2)) (.fn 108 [] []) [lDg l,.fn f a c] H (tA.put (l.any g)) H:=by
 rw[<-agP Dg0 g l];have h1:=alX l hf hl;exact kN hX ok0 (first:=[]) (cap:=[]) (by kernel_rfl) (.k h1 .sr)
open Go Tw Pv fZ
def gDs (l:List Fc)(k:Nat)(y:List Dg):List Dg:=y++[(l.getD k Fc0).d]
theorem agR (l:List Fc):uo (gDs l) l.length 0 []=lW l:=by
 have:=Ru (g:=gDs l) (m:=l.length) (k:=0) (s:=[]) (fun k y=>y=(l.take k).map (·.d)) rfl (fun j y _ h e=>by
  have hj:j<l.length:=by omega
  have e2:l.getD j Fc0=l[j]:=by simp only[List.getD,List.getElem?_eq_getElem hj,Option.getD_some]
  rw[gDs,e,e2,List.take_add_one,List.getElem?_eq_getElem hj,List.map_append];rfl)
 rw[Nat.zero_add,List.take_length]at this;exact this
abbrev wDs (l:List Fc)(y:List Dg)(i:Int)(x:List (Nat×PE bM)):aV bM:=⟨[(2,.val (.own 0)),(5,xL 66 l),(6,xi l.length),(7,xi i)]++x,[],[.list false false 27 y]⟩
theorem lDs {n:Nat}(l:List Fc)(hl:l.length<=aO):LpB n 68 0 0 (wDs l [] 0 []) (.exit 0) (wDs l (lW l) l.length [(8,xl false)]):=by
 rw[<-agR l];refine a0j (σ:=List Dg) (N:=l.length) (g:=gDs l) (s0:=[]) (st:=fun i y=>wDs l y i []) (fin:=fun y=>wDs l y l.length [(8,xl false)]) (fun k y=>y.length=k) (by kernel_rfl) hl rfl (fun j y hj hy=>by simp[gDs,hy]) (fun j y hj hy m e p g9=>?_) (fun y _=>?_)
 ·have h2:y.length+[(l.getD j Fc0).d].length<=aO:=by rw[hy,List.length_singleton];omega
  exact round hX ok0 (by kernel_rfl) (.b (a2m hj) (.o (dB hj) (.o h2 (.goG [.gc [2]] g9))))
 exact round hX ok0 (by kernel_rfl) (.b (a5L l.length) .ex)
theorem alZ:Gd aaC:=alW.add fun n hO l hp=>dS hX hO (by kernel_rfl) (.wG [.Nr 2 27] (lDs (n:=n) l (hp _ (.head _))) .rr)
theorem am0:Gd aaD:=alZ.add fun n hO p hp=>dS hX hO (by kernel_rfl) (.o (hp _ (.head _)) (.ss (.o (hp _ (.tail _ (.head _))) .rr) .rr))
abbrev acu (f:List Int×List Int):PV bM:=.fn 70 [.agg [lI f.1,lI f.2]] []
theorem ajl {n:Nat}(hO:Ok n aaD)(f:List Int×List Int)(l:List Dg)(hp:∀d∈l,DgP d)(hl:l.length<=aO):qC X0 Tryz.prog (ApN (n+4)) (.fn 71 [] []) [lDg l,acu f] [] (tA.put (l.all (a0J f))) []:=by
 have hs:∀d∈l,qC X0 Tryz.prog (ApN n) (acu f) [.agg d.ps] [] (tA.put (a0J f d)) []:=fun d hd=>Con.af4 hX (first:=[.agg [lI f.1,lI f.2]]) (cap:=[]) (hO 70 [.agg [lI f.1,lI f.2],.agg d.ps] (tA.put (a0J f d)) [] [d.sizes.length<=aO,d.order.length<=aO] (by kernel_rfl) (fun p h=>by
  have h9:=hp d hd;have h8:=h9.o;rcases List.mem_cons.1 h with rfl|h
  ·exact h9.s
  rw[List.mem_singleton.1 h];exact h8)) rfl rfl rfl rfl
 have h1:∀d∈l,qC X0 Tryz.prog (ApN (n+1)) (.fn 109 [] [.ptr 0 0 1]) [.agg d.ps] [.cells [acu f]] (tA.put (!(a0J f d))) [.cells [acu f]]:=fun d hd=>
  kN hX ok0 (first:=[]) (by kernel_rfl) (.fr [] (hs d hd) .sr)
 have h2:=alY l h1 hl;rw[<-a3R l (a0J f)];exact qC.drop hX (kN hX ok0 (first:=[]) (cap:=[]) (H1:=[.cells [acu f]]) (by kernel_rfl) (.k h2 .sr)) rfl rfl
theorem am1 {n:Nat}(hO:Ok n aaD)(l:List Fc)(hl:l.length<=aO):qC X0 Tryz.prog (ApN n) (.fn 68 [] []) [lFc l] [] (lDg (lW l)) []:=
 Con.af4 hX (first:=[]) (cap:=[]) (hO 68 [lFc l] (aa3.put (lW l)) [] [l.length<=aO] (by kernel_rfl) (List.forall_mem_singleton.2 hl)) rfl rfl rfl rfl
theorem lBc {n:Nat}(hO:Ok n aaD)(s o:List Int)(f:List Fc)(hp:∀d∈lW f,DgP d)(hl:(lW f).length<=aO):Lp n 21 0 (wBc s o f 0 []) (zBc s o f (pz (cCk (lW f)) (lW f).length)).1 (zBc s o f (pz (cCk (lW f)) (lW f).length)).2:=by
 refine rC (st:=fun i _=>wBc s o f i []) (g:=gS (cCk (lW f))) (out:=zBc s o f) (fun _ _=>True) (by kernel_rfl) hl trivial (fun k u m hk _ ih=>?_) (fun _ _=>?_)
 ·have h9:=hp _ (Vw (d:=Dg0) hk);unfold gS cCk;exact round hX hO (by kernel_rfl) (.b (a2m hk) (.o (dB hk) (.o h9.r (.o h9.s (.o h9.o (.o h9.e (.ls (.ou nofun) (.nx (ih _ trivial)))))))))
 exact round hX hO (by kernel_rfl) (.b (a5L (lW f).length) (.ou nofun))
noncomputable abbrev ww (n:Nat)(s o:List Int)(f:List Fc)(k:Nat)(c:Bool):OT (PV bM×List (PB bM)):=Pz X0 Tryz.prog T aaD (qC X0 Tryz.prog (ApN n)) (KJ X0 Tryz.prog T (ApN n) LL 21 0) LL 21 ((a3 qw qw a5R).put (s,o,f)) [] (Bo s o f k c)
theorem wwe (n:Nat)(s o:List Int)(f:List Fc)(k:Nat)(c:Bool):(ww n s o f k c).map frz=.o (s.length<=aO) (.o (o.length<=2^20) (.br (jy s o != 0) (.ret (some (iA.put (jy s o)))) (.br (decide ((f.length:Int)>8)) (.ret (some (iA.put 5))) (.o (f.length<=aO) (.br c (.o (Lp n 21 0 (wBc s o f 0 []) (zBc s o f (.inl ())).1 (zBc s o f (.inl ())).2) (.o (qC X0 Tryz.prog (ApN n) (.fn 68 [] []) [lFc f] [] (lDg (lW f)) []) (.o (qC X0 Tryz.prog (ApN n) (.fn 71 [] []) [lDg (lW f),acu (s,o)] [] (tA.put ((lW f).all (a0J (s,o)))) []) (.br (!((lW f).all (a0J (s,o)))) (.ret (some (iA.put 2))) (.ret (some (iA.put 0))))))) (.o (Lp n 21 0 (wBc s o f 0 []) (zBc s o f (.inr k)).1 (zBc s o f (.inr k)).2) (.ret (some (iA.put (oH ((lW f).getD k Dg0)).2))))))))):=by kernel_rfl
theorem am2:Gd aaE:=am0.deep 4 fun n hn hO p hp=>by
 obtain⟨s,o,f⟩:=p;have h1:s.length<=aO:=hp _ (.head _);have h2:o.length<=2^20:=hp _ (.tail _ (.head _));have h3:f.length<=aO:=hp _ (.tail _ (.tail _ (.head _)));have h4:∀d∈lW f,DgP d:=hp _ (.tail _ (.tail _ (.tail _ (.head _))));have h5:(lW f).length<=aO:=by simpa[lW]using h3
 have hs:=ajl (n:=n-4) (hO (n-4) (by omega)) (s,o) (lW f) h4 h5;rw[show n-4+4=n by omega]at hs;have hl:=lBc (hO n (by omega)) s o f h4 h5;show Con X0 Tryz.prog _ _ _ (iA.put (a6I s o f)) _;unfold a6I;have t1:=am1 (hO n (by omega)) f h3;exact dS hX (hO n (by omega)) (wwe n s o f (a2l 0 (pz (cCk (lW f)) (lW f).length)) (G5 (pz (cCk (lW f)) (lW f).length))) (.o h1 (.o h2 (.ss .rr (.ss .rr (.o h3 (.zh (fun h=>.w (xC hl () h) (.fr [] t1 (.fr [] hs (.ss .rr .rr)))) (fun h=>.w (Fa hl 0 h) .rr)))))))
open Go Tw Pv fZ
theorem ajm:Gd a6L:=am2.add fun n hO p hp=>dS hX hO (by kernel_rfl) (.q (.bool (decide (p=V1))) (G6 (.tmp 3) (.tmp 4) p V1) .rr)
theorem ajn:Gd a6M:=ajm.add fun n hO p hp=>dS hX hO (by kernel_rfl) (.q (.bool (decide (p=V1))) (G6 (.tmp 3) (.tmp 4) p V1) .rr)
theorem ajo:Gd a6O:=ajn.add fun n hO p hp=>dS hX hO (by kernel_rfl) .rr
theorem ajp:Gd a6P:=ajo.add fun n hO p hp=>dS hX hO (by kernel_rfl) (.o (hp _ (.head _)) .rr)
theorem adG:Gd a0K:=ajp.add fun n hO p hp=>dS hX hO (by kernel_rfl) .rr
open Go Tw Pv fZ
abbrev tP (s o:List Int)(f:List Fc)(g:Dg):List (PV bM):=[lI s,lI o,lFc f,lI g.sizes,lI g.order,lV g.ends,lBr g.nodes,.int .i64 g.root,.map 0]
abbrev lP (l:List Pc):PB bM:=.list true true 164 l
noncomputable abbrev HT (s o:List Int)(f:List Fc)(g:Dg)(m:List Pc)(l:List Pc):List (PB bM):=[.map (D5 m),.cells (tP s o f g),lP l]
noncomputable abbrev w1W (s o:List Int)(f:List Fc)(g:Dg)(c:List V)(l:List Pc)(i:Int)(x:List (Nat×PE bM)):aV bM:=⟨[(2,xL 66 f),(11,.val (.ptr 1 0 9)),(14,.val (.own 2)),(60,xL 79 c),(61,xi c.length),(62,xi i)]++x,[],HT s o f g [] l⟩
noncomputable abbrev w3W (s o:List Int)(f:List Fc)(g:Dg)(c:List V)(D:List Dg)(b k:Int)(l:List Pc)(i:Int)(x:List (Nat×PE bM)):aV bM:=⟨[(11,.val (.ptr 1 0 9)),(14,.val (.own 2)),(17,xi b),(75,xL 27 D),(76,xi D.length),(77,xi k),(87,xL 79 c),(88,xi c.length),(89,xi i)]++x,[],HT s o f g [] l⟩
noncomputable abbrev w4W (s o:List Int)(f:List Fc)(g:Dg)(l:List Pc)(m:List Pc)(i:Int)(x:List (Nat×PE bM)):aV bM:=⟨[(11,.val (.ptr 1 0 9)),(108,.val (.own 2)),(109,xi l.length),(110,xi i)]++x,[],HT s o f g m l⟩
theorem a4N {α:Type}{l:List α}{a:α}(h:l.Nodup)(ha:a∉l):(l++[a]).Nodup:=by
 rw[List.nodup_append];exact⟨h,by simp,fun x hx y hy e=>by simp at hy;subst hy;subst e;exact ha hx⟩
noncomputable abbrev w2W (s o:List Int)(f:List Fc)(g:Dg)(D:List Dg)(l:List Pc)(i:Int)(x:List (Nat×PE bM)):aV bM:=⟨[(11,.val (.ptr 1 0 9)),(14,.val (.own 2)),(75,xL 27 D),(76,xi D.length),(77,xi i)]++x,[],HT s o f g [] l⟩
def orB (a b:Int):Int:=IntKind.u64.wrap (((BitVec.ofInt 64 a ||| BitVec.ofInt 64 (a4V .u64 1 b)).toNat:Nat):Int)
def g1W (c:List V)(k:Nat)(l:List Pc):List Pc:=l.set k ⟨(l.getD k Ag).facts,decide (c.getD k V0=V1)⟩
def gIW (b:Int)(c:List V)(k:Nat)(l:List Pc):List Pc:=if decide (c.getD k V0=V1)=true then l.set k ⟨orB (l.getD k Ag).facts b,(l.getD k Ag).goal⟩else l
abbrev cAt (D:List Dg)(k:Nat):List V:=(Yh (D.getD k Dg0)).1
def g2W (D:List Dg)(k:Nat)(l:List Pc):List Pc:=uo (gIW k (cAt D k)) (cAt D k).length 0 l
def g4W (l:List Pc)(k:Nat)(m:List Pc):List Pc:=if l.getD k Ag∈m then m else m++[l.getD k Ag]
def a1Q (c:List V):List Pc:=uo (g1W c) c.length 0 (List.replicate c.length Ag)
def a3L (D:List Dg)(l:List Pc):List Pc:=uo (g2W D) D.length 0 l
def acv (l:List Pc):List Pc:=uo (g4W l) l.length 0 []
theorem af5 (s o:List Int)(f:List Fc)(g:Dg)(m l:List Pc)(x:Pc):HT s o f g (m++[x]) l=[.map (D5 m++[(.agg x.ps,.bool true)]),.cells (tP s o f g),lP l]:=by
 unfold HT D5 G7.es;rw[List.map_append,List.map_append];rfl
theorem adH {b:Int}{c:List V}{k:Nat}{l:List Pc}:(gIW b c k l).length=l.length:=by
 unfold gIW;split
 ·exact List.length_set
 rfl
theorem aat {b:Int}{c:List V}{n:Nat}{l:List Pc}:(uo (gIW b c) n 0 l).length=l.length:=by
 have:=Ru (g:=gIW b c) (m:=n) (k:=0) (s:=l) (fun _ y=>y.length=l.length) rfl fun j y _ _ h=>by rw[adH,h]
 exact this
theorem afP (y:List Pc):((y.map fun e=>(e,(PV.bool true:PV bM))).map fun e=>e.1)=y:=by rw[List.map_map];exact List.map_id y
theorem aju (x:Pc):Instr.sameBits 10000 (kP.v x) (kP.v x)=true:=by
 obtain⟨a,b⟩:=x;show Instr.sameBits 10000 (.agg #[.int .u64 a,.bool b]) (.agg #[.int .u64 a,.bool b])=true;simp[Instr.sameBits]
section
variable {n:Nat}(s o:List Int)(f:List Fc)(g:Dg)
theorem l1W (hO:Ok n a0K)(c:List V)(hc:c.length<=aO):LpB n 112 0 0 ⟨(w1W s o f g c (List.replicate c.length Ag) 0 []).env,[g.ps],(w1W s o f g c (List.replicate c.length Ag) 0 []).heap⟩ (.exit 1) (w1W s o f g c (a1Q c) c.length [(63,xl false)]):=by
 refine a0j (σ:=List Pc) (N:=c.length) (g:=g1W c) (s0:=List.replicate c.length Ag) (st:=fun i y=>w1W s o f g c y i []) (fin:=fun y=>w1W s o f g c y c.length [(63,xl false)]) (fun k y=>y.length=c.length) (by kernel_rfl) hc (by simp) (fun j y hj hy=>by simp[g1W,hy]) (fun j y hj hy m e p g9=>?_) (fun y _=>?_)
 ·exact round hX hO (by kernel_rfl) (.b (a2m hj) (.o (dB hj) (.o (dB (show j<y.length by omega)) (.go g9))))
 exact round hX hO (by kernel_rfl) (.b (a5L c.length) .ex)
theorem l3W (hO:Ok n a0K)(c:List V)(D:List Dg)(b:Nat)(d:Dg)(hc:c.length<=aO)(l:List Pc)(hl:l.length=c.length):LpB n 112 2 0 ⟨(w3W s o f g c D b b l 0 []).env,[d.ps],(w3W s o f g c D b b l 0 []).heap⟩ (.exit 5) (w3W s o f g c D b b (uo (gIW b c) c.length 0 l) c.length [(90,xl false)]):=by
 refine a0j (σ:=List Pc) (N:=c.length) (g:=gIW b c) (s0:=l) (st:=fun i y=>w3W s o f g c D b b y i []) (fin:=fun y=>w3W s o f g c D b b y c.length [(90,xl false)]) (fun k y=>y.length=c.length) (by kernel_rfl) hc hl (fun j y hj hy=>by rw[adH,hy]) (fun j y hj hy m e p g9=>?_) (fun y _=>?_)
 ·unfold gIW at g9;cases h:decide (c.getD j V0=V1)
  ·rw[h]at g9;exact round hX hO (by kernel_rfl) (.b (a2m hj) (.o (dB hj) (.b h (.go g9))))
  rw[h,if_pos rfl]at g9;have h1:CB (j:Int) y.length:=dB (by omega);exact round hX hO (by kernel_rfl) (.b (a2m hj) (.o (dB hj) (.b h (.o h1 (.o (show (0:Int)<=(b:Int)by omega) (.o h1 (.go g9)))))))
 exact round hX hO (by kernel_rfl) (.b (a5L c.length) .ex)
theorem l2W (hO:Ok n a0K)(N:Nat)(D:List Dg)(hD:D.length<=aO)(hN:N<=aO)(hp:∀d∈D,DgP d)(hc:∀k,k<D.length->(cAt D k).length=N)(l:List Pc)(hl:l.length=N):LpB n 112 1 0 (w2W s o f g D l 0 []) (.exit 3) (w2W s o f g D (a3L D l) D.length [(78,xl false)]):=by
 refine a0j (σ:=List Pc) (N:=D.length) (g:=g2W D) (s0:=l) (st:=fun i y=>w2W s o f g D y i []) (fin:=fun y=>w2W s o f g D y D.length [(78,xl false)]) (fun k y=>y.length=N) (by kernel_rfl) hD hl (fun j y hj hy=>by rw[g2W,aat,hy]) (fun j y hj hy m e p g9=>?_) (fun y _=>?_)
 ·have h9:=hp _ (Vw (d:=Dg0) hj);have h8:=hc j hj;have lp:=l3W (n:=n) s o f g hO (cAt D j) D j (D.getD j Dg0) (by omega) y (by omega);unfold g2W at g9;exact round hX hO (by kernel_rfl) (.b (a2m hj) (.o (dB hj) (.o h9.r (.o h9.s (.o h9.o (.o h9.e (.w lp (.go g9))))))))
 exact round hX hO (by kernel_rfl) (.b (a5L D.length) .ex)
theorem l4W (hO:Ok n a0K)(l:List Pc)(hl:l.length<=aO):LpB n 112 3 0 (w4W s o f g l [] 0 []) (.exit 7) (w4W s o f g l (acv l) l.length [(111,xl false)]):=by
 refine a0j (σ:=List Pc) (N:=l.length) (g:=g4W l) (s0:=[]) (st:=fun i y=>w4W s o f g l y i []) (fin:=fun y=>w4W s o f g l y l.length [(111,xl false)]) (fun k y=>y.Nodup) (by kernel_rfl) hl List.nodup_nil (fun j y hj hy=>?_) (fun j y hj hy m e p g9=>?_) (fun y _=>?_)
 ·unfold g4W;split
  ·exact hy
  rename_i h;exact a4N hy h
 ·unfold g4W at g9;by_cases h:l.getD j Ag∈y
  ·rw[if_pos h]at g9;have hs:a4Y X0 Tryz.prog 164 (D5 y) (.agg [.int .u64 (l.getD j Ag).facts,.bool (l.getD j Ag).goal]) (.agg (l.getD j Ag).ps) (.bool true):=kP.seat (x:=l.getD j Ag) (aju _) (by show ((y.map fun e=>(e,(PV.bool true:PV bM))).map fun e=>e.1).Nodup;rw[afP];exact hy) (List.mem_map.2 ⟨_,h,rfl⟩);exact round hX hO (by kernel_rfl) (.b (a2m hj) (.o (dB hj) (.c (.bool true) [] hs (.go g9))))
  rw[if_neg h]at g9;unfold w4W at g9;rw[af5]at g9;have hs:Eo X0 Tryz.prog 164 (D5 y) (.agg [.int .u64 (l.getD j Ag).facts,.bool (l.getD j Ag).goal]):=kP.fresh (x:=l.getD j Ag) (by show l.getD j Ag∉((y.map fun e=>(e,(PV.bool true:PV bM))).map fun e=>e.1);rw[afP];exact h);exact round hX hO (by kernel_rfl) (.b (a2m hj) (.o (dB hj) (.q (.bool true) (kP.ck (l.getD j Ag)) (.o hs (.go g9)))))
 exact round hX hO (by kernel_rfl) (.b (a5L l.length) .ex)
end
open Go Tw Pv fZ
def a3u (s o:List Int)(f:List Fc)(g:Dg):Int:=if (a6I s o f != 0)=true then a6I s o f else if ((Yh g).2 != 0)=true then (Yh g).2 else if (!(a0J (s,o) g))=true then 2 else 0
def a13 (f:List Fc)(g:Dg):List Pc:=acv (a3L (lW f) (a1Q (Yh g).1))
noncomputable abbrev HT0 (s o:List Int)(f:List Fc)(g:Dg)(m:List Pc):List (PB bM):=[.map (D5 m),.cells (tP s o f g)]
theorem a4q (c:List V):(a1Q c).length=c.length:=by
 have:=Ru (g:=g1W c) (m:=c.length) (k:=0) (s:=List.replicate c.length Ag) (fun _ y=>y.length=c.length) (by simp) fun j y _ _ h=>by unfold g1W;rw[List.length_set,h]
 exact this
theorem a8C (D:List Dg)(l:List Pc):(a3L D l).length=l.length:=by
 have:=Ru (g:=g2W D) (m:=D.length) (k:=0) (s:=l) (fun _ y=>y.length=l.length) rfl fun j y _ _ h=>by unfold g2W;rw[aat,h]
 exact this
section
variable {n:Nat}(hO:Ok n a0K){s o:List Int}{f:List Fc}{g:Dg}(hp:aaH s o f g)
include hO hp
theorem agS (h:a3u s o f g=0)(hc:(Yh g).1.length<=aO)(hd:∀k,k<(lW f).length->(cAt (lW f) k).length=(Yh g).1.length):qC X0 Tryz.prog (ApN (n+1)) (.fn 112 [] []) [lI s,lI o,lFc f,.agg g.ps] [] (.bH [.ptr 1 0 9,.int .i64 0]) (HT0 s o f g (a13 f g)):=by
 have ho:g.order.length<=aO:=by have:=hp.lg.o;unfold aO;omega
 unfold a3u at h;have h1:(a6I s o f != 0)=false:=by
  cases h1:a6I s o f != 0
  ·rfl
  rw[h1,if_pos rfl]at h;rw[h]at h1;simp at h1
 rw[h1,if_neg (by simp)]at h;have h2:((Yh g).2 != 0)=false:=by
  cases h2:(Yh g).2 != 0
  ·rfl
  rw[h2,if_pos rfl]at h;rw[h]at h2;simp at h2
 rw[h2,if_neg (by simp)]at h;have h3:(!(a0J (s,o) g))=false:=by
  cases h3:(!(a0J (s,o) g))
  ·rfl
  rw[h3]at h;exact absurd h (by decide)
 have l1:=l1W (n:=n) s o f g hO (Yh g).1 hc;have l2:=l2W (n:=n) s o f g hO (Yh g).1.length (lW f) (by simpa[lW]using hp.lf) hc hp.ld hd (a1Q (Yh g).1) (a4q _);have hl:(a3L (lW f) (a1Q (Yh g).1)).length<=aO:=by rw[a8C,a4q];exact hc
 have l4:=l4W (n:=n) s o f g hO (a3L (lW f) (a1Q (Yh g).1)) hl;have h0:qC X0 Tryz.prog (ApN (n+1)) (.fn 112 [] []) [lI s,lI o,lFc f,.agg g.ps] [] (.bH [.ptr 1 0 9,.int .i64 0]) (HT s o f g (a13 f g) (a3L (lW f) (a1Q (Yh g).1))):=
  a2n hX hO (first:=[]) (cap:=[]) (by kernel_rfl) (.o hp.ls (.o hp.lo (.o hp.lf (.o hp.ld (.b h1 (.o hp.lg.r (.o hp.lg.s (.o hp.lg.o (.o hp.lg.e (.b h2 (.o hp.lg.s (.o ho (.b h3 (.o (rfl:((Yh g).1.length:Int)=((Yh g).1.length:Int)) (.o (show (0:Int)<=((Yh g).1.length:Int)by omega) (.o (show ((Yh g).1.length:Int)<=(aO:Int)by omega) (.w l1 (.o hp.lf (.w l2 (.w l4 .er))))))))))))))))))))
 exact qC.gs hX h0 [.gc [0,1]] (by kernel_rfl)
end
end Go.Proofs.YtjkgcifieggcpaaGreat
namespace Pv
open Go Tw
section
variable {X:iQ}{P:Program}{A B:Nat->Prop}{m m' m1:List MB}{h h':List HB}{g:Nat->Option Nat}
theorem adI (hX:aX X P){T:iF}{L n f:Nat}{t:FnT}{first xs cap:List (PV X.Γ)}{H N:List (PB X.Γ)}{v:PV X.Γ}{tv:Nat->TV}{tN:List HB}(hd:T.Lh.contains f=true)(hx:T.exts.contains f=false)(ht:FP P f=some t)(hN:wJ H=true)
  (BL:∀A m h,HR X P A m H h->∃m1,HR X P A m1 (H++N) (h++tN)∧VR X P (AA A m1) m1 (h++tN) v (tv h.length)∧Fr m h m1 (h++tN)∧Up m m1)
  (hE:bf X P T (AZ P T L n) (IE P T (AZ P T L n) L) L f t.nt H.length t.body ⟨vk X 0 (first++xs++cap),[],H⟩ fun e s=>(e=.norm∨e=.ret)∧∃us,Ep X P s t.results=some us∧a6Q X P (T.a0Z.contains f) (Uw X us) s.heap tv tN):qC X P (AZ P T L (n+1)) (.fn f first cap) xs H v (H++N):=by
 intro A m h tf nH hr hf yg;cases hf with
 |gone hi _ _=>simp[aG]at hi
 |fn p1 p2 p3 p4=>
  rename_i a' c';have wo:=(aH.app ⟨p1,p2⟩ yg).app ⟨p3,p4⟩;have hb:=O7 hN hr;have hS:SR X P A (fun _=>False) h.length m ⟨vk X 0 (first++xs++cap),[],H⟩ ⟨gq 0 (a'++nH++c'),[],h,[]⟩:=
   ⟨⟨hr,rfl,fun k cs hk=>by simp at hk,J7 wo⟩,fun b h1=>(by rw[hb]at h1;cases h1),fun b hb=>(by cases hb),Nat.le_refl _⟩
  have hO:JW P T (AZ P T L n) L f t (a'++nH++c') h (tv h.length,h++tN):=by
   refine hE A _ _ m _ _ hS fun e dX fJ m1 ⟨he,us,X4,hpv⟩ h3 h4 h5=>?_;obtain⟨ws,g1,g2⟩:=DX hX h3.st X4;exact⟨he,ws,g1,List.eq_nil_iff_forall_not_mem.2 fun b hb=>h3.ws b hb,hpv A m1 h dX.heap _ h3.st.heap (PY g2) fun b hb=>(h3.own b hb).resolve_left id⟩
  obtain⟨m1,q1,q2,q3,q4⟩:=BL A m h hr;refine⟨tv h.length,h++tN,[],m1,?_,q1,q2,q3,q4,fun b hb=>by cases hb⟩;simp only[AZ,hx,hd,Bool.false_eq_true,if_false,if_true];exact Xp ht hO
theorem af6 (hX:aX X P){T:iF}{L n f:Nat}{t:FnT}{first xs cap:List (PV X.Γ)}{H:List (PB X.Γ)}{v:PV X.Γ}{tv:TV}(hd:T.Lh.contains f=true)(hx:T.exts.contains f=false)(ht:FP P f=some t)(hN:wJ H=true)(hv:tC v=some tv)
  (hE:bf X P T (AZ P T L n) (IE P T (AZ P T L n) L) L f t.nt H.length t.body ⟨vk X 0 (first++xs++cap),[],H⟩ fun e s=>(e=.norm∨e=.ret)∧∃us,Ep X P s t.results=some us∧Uw X us=v):qC X P (AZ P T L (n+1)) (.fn f first cap) xs H v H:=by
 have:=adI (N:=[]) (v:=v) (tv:=fun _=>tv) (tN:=[]) hX hd hx ht hN (fun A m h hr=>⟨m,by simpa using hr,pq hv,by simpa using Fr.refl,.refl⟩) (hE.mono fun e s ⟨h1,us,h2,h3⟩=>⟨h1,us,h2,by rw[h3];exact O8 hv fun cs hc=>by subst hc;cases v<;>simp[tC,mY]at hv⟩)
 rwa [List.append_nil]at this
end
end Pv
namespace Go.Proofs.YtjkgcifieggcpaaGreat
open Go Tw Pv fZ
noncomputable abbrev Hq (s o:List Int)(f:List Fc)(g:Dg)(m:List Pc):List (PB bM):=[.vU (D5 m),.fF (tP s o f g)]
section
variable {n:Nat}(hO:Ok n a0K)(s o:List Int)(f:List Fc)(g:Dg)(m:List Pc)(a:Int)
include hO
set_option maxRecDepth 20000 in
theorem ajv (hm:m.length<LL):qC X0 Tryz.prog (ApN (n+1)) (.fn 97 [] []) [.ptr 1 0 9,.int .u64 a] (Hq s o f g m) (.bool (uq m a)) (Hq s o f g m):=by
 refine af6 (X:=X0) (P:=Tryz.prog) (T:=T) (L:=LL) (n:=n) (f:=97) (first:=[]) (cap:=[]) (xs:=[.ptr 1 0 9,.int .u64 a]) (H:=Hq s o f g m) (v:=.bool (uq m a)) (t:=fnP Tryz.prog 97) (tv:=.bool (uq m a)) hX (by kernel_rfl) (by kernel_rfl) (by kernel_rfl) (by kernel_rfl) (by kernel_rfl) ?_;refine I5 (kX:=a0K) (r0:=cR0 bdC) (r1:=cR1 bdC) (x:=cX bdC) (r6:=cR6 bdC) (ops:=a6R (G8 (cLb bdC))) (draw:=false) (i0:=0) (i1:=1) (id:=2) (it:=10) (nx:=11) (mo:=12) (b:=2) (r:=0) (n:=(D5 m).length) (es:=D5 m) (bad:=fun j=>bC a (m.getD j Ag))
  (s1:=⟨[(0,.val (.ptr 1 0 9)),(1,.val (.int .u64 a))],[],Hq s o f g m⟩) (sI:=⟨[(1,.val (.int .u64 a)),(10,.val (.iter 2))],[],Hq s o f g m++[.bn 0 (D5 m).length []]⟩)
  (sR:=fun seen=>⟨[(1,.val (.int .u64 a)),(10,.val (.iter 2))],[],Hq s o f g m++[.bn 0 (D5 m).length seen]⟩)
  (sX:=fun j e seen=>⟨[(1,.val (.int .u64 a)),(10,.val (.iter 2)),(18,.val (.lit false))],[(m.getD j Ag).ps],Hq s o f g m++[.bn 0 (D5 m).length seen]⟩)
  (sE:=fun seen=>⟨[(4,.val (.lit true))],[],Hq s o f g m++[.bn 0 (D5 m).length seen]⟩)
  (sB:=fun j e seen=>⟨[(4,.val (.lit false))],[(m.getD j Ag).ps],Hq s o f g m++[.bn 0 (D5 m).length seen]⟩)
  hX hO (by kernel_rfl) (by kernel_rfl) (by kernel_rfl) (by kernel_rfl) (by kernel_rfl) ?_ ?_ (by kernel_rfl) (fun j e seen=>by kernel_rfl) (by kernel_rfl) (of_decide_eq_true (by kernel_rfl)) (of_decide_eq_true (by kernel_rfl)) (fun seen=>by kernel_rfl) (fun seen=>by kernel_rfl) (fun seen=>by kernel_rfl) rfl (by rw[xG];exact hm) (fun seen=>by kernel_rfl) (fun seen e=>by kernel_rfl) (fun seen=>?_) (fun j e seen he=>?_) (fun j e seen hj hb=>?_) (fun hb seen=>?_)
 ·exact SE hX hO (an:=.n) (by kernel_rfl) (.r rfl)
 ·exact SE hX hO (an:=.n) (by kernel_rfl) (.r rfl)
 ·exact SE hX hO (an:=.n) (by kernel_rfl) (.r rfl)
 ·have ho:=he;obtain rfl:=Ob he;have ho:(D5 m).length=(D5 m).length∧(D5 m)[j]? = some (.agg (m.getD j Ag).ps,.bool true):=⟨rfl,ho⟩;exact⟨fun hb=>SE hX hO (by kernel_rfl) (.c (.bH [.agg (m.getD j Ag).ps,.bool true]) [] ho (.b hb (.r rfl))),fun hb=>SE hX hO (by kernel_rfl) (.c (.bH [.agg (m.getD j Ag).ps,.bool true]) [] ho (.b hb (.r rfl)))⟩
 ·have e2:uq m a=false:=by unfold uq;rw[yX.2 ⟨j,by rw[xG]at hj;exact hj,hb⟩];rfl
  rw[e2];exact⟨.inr rfl,[.bool false],by kernel_rfl,rfl⟩
 have e2:uq m a=true:=by
  unfold uq;cases h:m.any (bC a)
  ·rfl
  obtain⟨j,hj,hc⟩:=yX.1 h;rw[hb j (by rw[xG];exact hj)]at hc;cases hc
 rw[e2];exact⟨.inr rfl,[.bool true],by kernel_rfl,rfl⟩
end
end Go.Proofs.YtjkgcifieggcpaaGreat
namespace Tw
open Go
noncomputable section
section
variable (P:Program)(call:ay)(site:Nat->Bool)(s:St)
theorem adJ {P:Program}{T:iF}{L n f:Nat}(hm:P.follows .mixedOrders=true)(hE:aj P T.ext)(hr:isT (RP P T (jA P T L n) L f [] [])=true):aj P (a5P f true):=by
 obtain⟨h0,hr⟩:∃h0,RP P T (jA P T L n) L f [] []=some (.bool true,h0,[]):=by
  unfold isT at hr;split at hr
  ·exact⟨_,‹_›⟩
  ·cases hr
 intro fv args h v h' ws hc M w x xs hV hl hx yg;unfold a5P at hc;split at hc
 ·rename_i g;split at hc
  ·rename_i hg;subst hg;cases hc;cases hx with
   |fn h1 h2 h3 h4=>
    rename_i ys zs;have hy:ys=[]:=List.eq_nil_of_length_eq_zero h1.symm;have hz:zs=[]:=List.eq_nil_of_length_eq_zero h3.symm;have hxx:xs=[]:=List.eq_nil_of_length_eq_zero yg.len.symm;subst hy hz hxx;have h0:lK (fun _=>none) [] w:=⟨⟨by simp,by simp,by simp⟩,by simp⟩;obtain⟨fn,c,e1,e2,e3,e4⟩:=DY hm (dF (L:=L) hm hE n) (Yr▸hr) h0 (xs:=[]) .nil;refine⟨{ target:=.fn (.func g) #[],args:=#[] },fun w=>by simp[Deferred.ofValue],.inl ⟨⟨g,#[],?_,fun n=>?_⟩,_,[],[],rfl⟩⟩
    ·have OE : ¬ fn.name = "runtime.NumGoroutine" := (by simpa using e2);simp[invoke,callFunc,program,Sem.run,e1,OE,e3]
    ·refine (e4 n).mono fun e w' hR=>?_;cases e with
     |panicked c=>exact hR.elim
     |outgrown=>exact hR.elim
     |returned v=>
      obtain⟨M2,_,_,hX,WJ⟩:=hR;cases WJ;have hf:∀c,c<w.heap.size->w'.heap[c]? = w.heap[c]?:=fun c hc=>hX.frame c hc (by simp);refine⟨M,⟨fun k l hk hd=>?_,hV.own,fun k l hk c hc=>Nat.lt_of_lt_of_le (hV.inb k l hk c hc) hX.size⟩,hl,⟨.refl M,fun c hc _=>hf c hc,fun _ _ _=>rfl,fun _ _ _=>rfl,fun k l hk c hc _=>⟨l,hk,hc⟩,hX.size,fun _ h=>h,by simp,by simp,hX.os,hX.output,hX.tape⟩,.bool _⟩;obtain⟨b,g1,g2⟩:=hV.ok k l hk hd;exact⟨b,g1,g2.mono (.refl _) fun c hc=>hf c (hV.inb k l hk c hc)⟩
  ·cases hc
 ·cases hc
open Go.ChangeShapes Go.WideShapes Go.RowKit
end
end
open Go Go.ChangeShapes Go.WideShapes Go.RowKit
theorem acw {H:Type}{enc:TypeId×Value->H}{P:Program}{w:World}{t:TypeId}{ts:List TypeId}{vs:List Value}{ds:List (DataW H)}{ps:List MemPlace}(h:DataW.TrodAll enc P w 0 (fun _=>true) true (t::ts) vs ds ps):∃d e,ds=d::e∧Rd enc P w t d∧∃vs ps,DataW.TrodAll enc P w 0 (fun _=>true) true ts vs e ps:=by
 obtain⟨v,vs',d,ds',p,q,rfl,rfl,rfl,⟨fuel,hd⟩,JB⟩:=trodAll_cons h;exact⟨d,ds',rfl,⟨_,fuel,p,hd⟩,_,_,JB⟩
section
variable {H:Type}{P:Program}{g:Nat}{t:TypeId}{ts:List TypeId}{d:DataW H}{ds:List (DataW H)}{h h1 h2:List HB}{xs:List TV}
theorem agT {cs:List TV}(ha:oK P t=some true)(he:QM P g t d h=some (cs,h1))(hr:Ug P g ts ds h1=some (xs,h2)):Ug P g (t::ts) (d::ds) h=some (.agg cs::xs,h2):=by
 simp only[Ug,he,ha,hr]
theorem agU:Ug (H:=H) P g [] [] h=some ([],h):=rfl
end
end Tw
namespace Pv
open Go Tw
section
variable {X:iQ}{P:Program}{H:Type}{a07:TypeId×Value->H}{w:World}
abbrev AT:Nat->Prop:=fun _=>True
def RdP (a07:TypeId×Value->H)(X:iQ)(P:Program)(w:World)(g t:Nat){α:Type}(ps:α->List (PV X.Γ))(Q:α->Prop):Prop:=
 ∀d,Rd a07 P w t d->∃a,Q a∧∀h,∃xs ext,QM P g t d h=some (xs,h++ext)∧∀e,aH X P AT [] (h++ext++e) (ps a) xs
theorem abI {t g:Nat}{k:IntKind}(ht:P.underlying t=some (.int k)):RdP a07 X P w (g+1) t (fun n:Int=>[.int k n]) (fun n=>(Lit.int k n).wf=true):=fun d hd=>by
 obtain⟨n,rfl,hn⟩:=agf ht hd;exact⟨n,hn,fun h=>⟨[.int k n],[],by simp[QM,ht],fun e=>.cons (.int _ _) .nil⟩⟩
theorem a8g {e g sz:Nat}{Q:X.Γ e->Prop}(hlen:∀a,(X.enc e a).length=sz)(hr:RdP a07 X P w g e (X.enc e) Q):∀(ds:List (DataW H)),(∀y∈ds,Rd a07 P w e y) ->
  ∃l:List (X.Γ e),l.length=ds.length∧(∀a∈l,Q a)∧∀h,∃cs ext,Ud (QM P g e) sz ds h=some (cs,h++ext)∧cs.length=l.length*sz∧∀e2 (j:Nat) a (i:Nat) c v,l[j]? = some a->(X.enc e a)[i]? = some c->cs[j*sz+i]? = some v->VR X P AT [] (h++ext++e2) c v
 |[],_=>⟨[],rfl,by simp,fun h=>⟨[],[],by simp[Ud],by simp,fun e2 j a i c v h1=>by simp at h1⟩⟩
 |d::ds,hd=>by
  obtain⟨a,qa,ha⟩:=hr d (hd d (List.mem_cons_self ..));obtain⟨l,l1,l2,l3⟩:=a8g hlen hr ds fun y hy=>hd y (List.mem_cons_of_mem _ hy);refine⟨a::l,by simp[l1],fun b hb=>(List.mem_cons.1 hb).elim (fun e=>e▸qa) (l2 b),fun h=>?_⟩;obtain⟨xs,e1,h1,v1⟩:=ha h;obtain⟨cs,e2,h2,c2,v2⟩:=l3 (h++e1);have hx:xs.length=sz:=by rw[<-(v1 []).1];exact hlen a
  refine⟨xs++cs,e1++e2,?_,by simp only[List.length_append,List.length_cons,hx,c2,Nat.add_mul];omega,fun e3 j b i c v hj hi hv=>?_⟩
  ·simp only[Ud,h1,hx,if_true,h2,List.append_assoc]
  ·cases j with
   |zero=>
    simp only[List.getElem?_cons_zero,Option.some.injEq]at hj;subst hj;have WH:i<sz:=by rw[<-hlen a];exact (List.getElem?_eq_some_iff.1 hi).1
    rw[Nat.zero_mul,Nat.zero_add,List.getElem?_append_left (by omega)]at hv;have:=(v1 (e2++e3)).2 i c v hi hv;simp only[List.append_assoc]at this ⊢;exact this
   |succ j=>
    rw[List.getElem?_cons_succ]at hj;rw[List.getElem?_append_right (by rw[hx,Nat.add_mul];omega),hx,show (j+1)*sz+i-sz=j*sz+i by rw[Nat.add_mul];omega]at hv;have:=v2 e3 j b i c v hj hi hv;simp only[List.append_assoc]at this ⊢;exact this
theorem a3Y {t e g sz:Nat}{Q:X.Γ e->Prop}(ht:P.underlying t=some (.slice e))(nP:P.cellsOf e=sz)(hz:aZ P e=some sz)(h0:0<sz)(hlen:∀a,(X.enc e a).length=sz)(hr:RdP a07 X P w g e (X.enc e) Q):RdP a07 X P w (g+1) t (fun l:List (X.Γ e)=>[.bK e l false]) (fun l=>∀a∈l,Q a):=fun d hd=>by
 rcases acU ht hd with rfl|⟨xs,ys,rfl,hy⟩
 ·exact⟨[],by simp,fun h=>⟨[.nil .slc],[],by simp[QM,ht],fun e=>.cons .jZ .nil⟩⟩
 ·obtain⟨l,l1,l2,l3⟩:=a8g hlen hr (xs++ys) hy;have hl:xs.length<=l.length:=by rw[l1,List.length_append];omega
  refine⟨l.take xs.length,fun a ha=>l2 a (List.mem_of_mem_take ha),fun h=>?_⟩;obtain⟨cs,e1,h1,c1,v1⟩:=l3 h;refine⟨[.slc (h++e1).length 0 xs.length (xs.length+ys.length) sz true],e1++[.cells .ro cs],?_,fun e2=>.cons ?_ .nil⟩
  ·have dZ:¬sz=0:=(by omega);simp only[QM,ht,nP,h1,dZ,if_false,List.append_assoc]
  ·have hln:(l.take xs.length).length=xs.length:=(by rw[List.length_take,Nat.min_eq_left hl]);have hb:(h++(e1++[HB.cells .ro cs])++e2)[(h++e1).length]? = some (.cells .ro cs):=by
    rw[show h++(e1++[HB.cells .ro cs])++e2=(h++e1)++(HB.cells .ro cs::e2)by simp,List.getElem?_append_right (Nat.le_refl _),Nat.sub_self];rfl
   have qM:(l.take xs.length).length<=xs.length+ys.length:=(by omega);have Ls:∀(j:Nat) a,(l.take xs.length)[j]? = some a->l[j]? = some a:=fun j a hj=>by
    rw[List.getElem?_take]at hj;split at hj
    ·exact hj
    ·cases hj
   have hle:(l.take xs.length).length*sz<=cs.length:=by rw[c1,hln];exact Nat.mul_le_mul_right sz hl
   generalize xs.length+ys.length=cp at qM ⊢;generalize l.take xs.length=l' at qM Ls hle hln ⊢;rw[<-hln];exact VR.bK (X:=X) (P:=P) (A:=AT) (m:=[]) (t:=e) (l:=l') (fu:=false) (b:=(h++e1).length) (off:=0) (cap:=cp) (sz:=sz) (ex:=true) (cs:=cs) trivial (by unfold aB;rw[hb]) (fun _=>by unfold iw;rw[hb];simp) hz h0 (by omega) qM (by simp) (fun j a _=>hlen a) (fun j a i c v hj hi hv=>by
    rw[Nat.zero_add]at hv;have:=v1 ([HB.cells .ro cs]++e2) j a i c v (Ls j a hj) hi hv;simp only[List.append_assoc]at this ⊢;exact this)
def RdF (a07:TypeId×Value->H)(X:iQ)(P:Program)(w:World)(g o:Nat)(fs:List Field){α:Type}(ps:α->List (PV X.Γ))(Q:α->Prop):Prop:=
 ∀ds:List (DataW H),ds.length=fs.length->(∀(i:Nat) f d,fs[i]? = some f->ds[i]? = some d->Rd a07 P w f.type d)->∃a,Q a∧∀h,∃xs ext,N8 P (QM P g) o fs ds h=some (xs,h++ext)∧∀e,aH X P AT [] (h++ext++e) (ps a) xs
theorem a3Z {g o:Nat}:RdF a07 X P w g o [] (fun _:Unit=>[]) (fun _=>True):=fun ds hl _=>by
 have:=List.eq_nil_of_length_eq_zero hl;subst this;exact⟨(),trivial,fun h=>⟨[],[],by simp[N8],fun e=>.nil⟩⟩
theorem J3 {g o n:Nat}{f:Field}{fs:List Field}{α β:Type}{p1:α->List (PV X.Γ)}{p2:β->List (PV X.Γ)}{Q1:α->Prop}{Q2:β->Prop}(ho:f.offset=o)(hc:P.cellsOf f.type=n)(hn:∀a,(p1 a).length=n)(h1:RdP a07 X P w g f.type p1 Q1)(h2:RdF a07 X P w g (o+n) fs p2 Q2):RdF a07 X P w g o (f::fs) (fun x:α×β=>p1 x.1++p2 x.2) (fun x=>Q1 x.1∧Q2 x.2):=fun ds hl hd=>by
 cases ds with
 |nil=>cases hl
 |cons d ds=>
  obtain⟨a,qa,ha⟩:=h1 d (hd 0 f d rfl rfl);obtain⟨b,qb,hb⟩:=h2 ds (by simpa using hl) fun i f' d' e1 e2=>hd (i+1) f' d' e1 e2;refine⟨(a,b),⟨qa,qb⟩,fun h=>?_⟩;obtain⟨xs,e1,g1,v1⟩:=ha h;obtain⟨ys,e2,g2,v2⟩:=hb (h++e1);have hx:xs.length=n:=by rw[<-(v1 []).1];exact hn a
  refine⟨xs++ys,e1++e2,?_,fun e=>?_⟩
  ·simp only[N8,g1,ho,hx,hc,and_self,if_true,g2,List.append_assoc]
  ·have w1:=v1 (e2++e);have w2:=v2 e;simp only[List.append_assoc]at w1 w2 ⊢;exact w1.app w2
theorem a1l {t g n:Nat}{fs:Array Field}{α:Type}{ps:α->List (PV X.Γ)}{Q:α->Prop}(ht:P.underlying t=some (.struct fs))(hc:P.cellsOf t=n)(hn:∀a,(ps a).length=n)(hf:RdF a07 X P w g 0 fs.toList ps Q):RdP a07 X P w (g+1) t ps Q:=fun d hd=>by
 obtain⟨ds,rfl,hl,Ig⟩:=ac8 ht hd;obtain⟨a,qa,ha⟩:=hf ds (by simpa using hl) fun i f d e1 e2=>Ig i f d (by simpa using e1) e2;refine⟨a,qa,fun h=>?_⟩;obtain⟨xs,e1,g1,v1⟩:=ha h;have hx:xs.length=n:=by rw[<-(v1 []).1];exact hn a
 refine⟨xs,e1,?_,v1⟩;rw[a8X ht,g1];simp[hx,hc]
theorem RdP.iso {t g:Nat}{α β:Type}{ps:α->List (PV X.Γ)}{Q:α->Prop}(h:RdP a07 X P w g t ps Q)(f:α->β){p2:β->List (PV X.Γ)}{Q2:β->Prop}(hp:∀a,p2 (f a)=ps a)(hq:∀a,Q a->Q2 (f a)):RdP a07 X P w g t p2 Q2:=fun d hd=>by
 obtain⟨a,qa,ha⟩:=h d hd;exact⟨f a,hq a qa,fun h=>by rw[hp];exact ha h⟩
theorem agV {T:iF}{L n f:Nat}{vs:List (PV X.Γ)}{xs:List TV}{h:List HB}(hc:Con X P (AZ P T L (n+1)) f vs (PV.bool true) [])(hv:aH X P AT [] h vs xs):∃h',AZ P T L (n+1) (TV.fn f [] []) xs h=some (TV.bool true,h',[]):=by
 obtain⟨x,h',m',c1,_,c3,_⟩:=hc AT h [] xs [] (fun _ _=>trivial) (by simpa using hv);have:x=TV.bool true:=by
  cases c3 with
  |bool=>rfl
  |gone hi _ _=>simp[aG]at hi
 subst this;exact⟨h',c1⟩
end
end Pv
namespace Go.Proofs.YtjkgcifieggcpaaGreat
open Go Tw Pv
section
variable {H:Type}{a07:TypeId×Value->H}{w:World}
abbrev RdX (a07:TypeId×Value->H)(w:World)(g t:Nat){α:Type}(ps:α->List (PV bM))(Q:α->Prop):Prop:=RdP a07 X0 Tryz.prog w g t ps Q
theorem abK:Tryz.prog.cellsOf 3=1:=by kernel_rfl
theorem am3:Tryz.prog.cellsOf 5=1:=by kernel_rfl
theorem afQ:Tryz.prog.cellsOf 79=2:=by kernel_rfl
theorem zI0:aZ Tryz.prog 3=some 1:=by kernel_rfl
theorem af7 {g:Nat}:RdX a07 w (g+1) 3 (fun n:Int=>[.int .i64 n]) (fun n=>(Lit.int .i64 n).wf=true):=abI Tryz.underlying3
theorem rU8 {g:Nat}:RdX a07 w (g+1) 5 (fun n:Int=>[.int .u8 n]) (fun n=>0<=n∧n<=255):=(abI Tryz.underlying5).iso id (fun _=>rfl) fun n h=>by
 simp only[Lit.wf,Bool.and_eq_true,decide_eq_true_eq]at h;exact h
theorem a9w {g:Nat}:RdX a07 w (g+2) 22 (fun l:List Int=>[lI l]) (fun l=>∀a∈l,(Lit.int .i64 a).wf=true):=a3Y (e:=3) Tryz.underlying22 abK zI0 (by decide) (fun _=>rfl) af7
theorem am4 {g:Nat}:RdX a07 w (g+2) 79 V.ps (fun v=>0<=v.f∧v.f<=255):=
 (a1l Tryz.underlying79 afQ (fun _=>rfl) (J3 rfl am3 (fun _=>rfl) rU8 (J3 rfl abK (fun _=>rfl) af7 a3Z))).iso (fun x=>⟨x.1,x.2.1⟩) (fun _=>rfl) fun _ h=>h.1
theorem ajw:aZ Tryz.prog 79=some 2:=by kernel_rfl
theorem ajx {g:Nat}:RdX a07 w (g+3) 24 (fun l:List V=>[lV l]) (fun l=>∀v∈l,0<=v.f∧v.f<=255):=a3Y (e:=79) Tryz.underlying24 afQ ajw (by decide) (fun _=>rfl) am4
theorem adM:Tryz.prog.cellsOf 22=1:=by kernel_rfl
end
open Go Tw Pv fZ
section
variable {H:Type}{a07:TypeId×Value->H}{w:World}
theorem ajy:Tryz.prog.cellsOf 102=2:=by kernel_rfl
theorem am5:aZ Tryz.prog 102=some 2:=by kernel_rfl
theorem ajz:Tryz.prog.cellsOf 25=1:=by kernel_rfl
theorem am6:Tryz.prog.cellsOf 24=1:=by kernel_rfl
theorem agW:Tryz.prog.cellsOf 27=5:=by kernel_rfl
theorem rBr {g:Nat}:RdX a07 w (g+3) 102 Br.ps (fun b=>∀a∈b.kids,(Lit.int .i64 a).wf=true):=
 (a1l Tryz.underlying102 ajy (fun _=>rfl) (J3 rfl abK (fun _=>rfl) af7 (J3 rfl adM (fun _=>rfl) a9w a3Z))).iso (fun x=>⟨x.1,x.2.1⟩) (fun _=>rfl) fun _ h=>h.2.1
theorem am7 {g:Nat}:RdX a07 w (g+4) 25 (fun l:List Br=>[lBr l]) (fun l=>∀b∈l,∀a∈b.kids,(Lit.int .i64 a).wf=true):=a3Y (e:=102) Tryz.underlying25 ajy am5 (by decide) (fun _=>rfl) rBr
theorem adN {a:Int}(h:(Lit.int .i64 a).wf=true):W64 a:=by
 simp only[Lit.wf,Bool.and_eq_true,decide_eq_true_eq]at h;obtain⟨h1,h2⟩:=h;have e1:IntKind.i64.min=-(2^63):=by decide
 have e2:IntKind.i64.max=2^63-1:=by decide
 exact⟨by omega,by omega⟩
theorem rDg {g:Nat}:RdX a07 w (g+5) 27 Dg.ps DgR:=
 (a1l Tryz.underlying27 agW (fun _=>rfl) (J3 rfl adM (fun _=>rfl) a9w (J3 rfl adM (fun _=>rfl) a9w (J3 rfl am6 (fun _=>rfl) ajx (J3 rfl ajz (fun _=>rfl) am7 (J3 rfl abK (fun _=>rfl) af7 a3Z)))))).iso (fun x=>⟨x.1,x.2.1,x.2.2.1,x.2.2.2.1,x.2.2.2.2.1⟩) (fun _=>rfl) fun x h=>by
  obtain⟨_,_,h3,h4,h5,_⟩:=h;refine⟨fun i hi k hk=>?_,adN h5,fun v hv=>(h3 v hv).1⟩;have hb:CY ⟨x.1,x.2.1,x.2.2.1,x.2.2.2.1,x.2.2.2.2.1⟩ i∈x.2.2.2.1:=by
   show (x.2.2.2.1).getD i SB∈_;rw[List.getD,List.getElem?_eq_getElem hi];exact List.getElem_mem _
  refine adN (h4 _ hb _ ?_);rw[List.getD,List.getElem?_eq_getElem hk];exact List.getElem_mem _
end
open Go Tw Pv fZ
def gLi (a:Int)(k:Nat)(y:List Int):List Int:=if a6N a k=true then y++[(k:Int)]else y
def TL (a:Int):List Int:=uo (gLi a) 8 0 []
abbrev wLi (a:Int)(y:List Int)(i:Int)(x:List (Nat×PE bM)):aV bM:=⟨[(0,.val (.int .u64 a)),(3,.val (.own 0)),(6,xi i)]++x,[],[.list false false 3 y]⟩
theorem lLi {n:Nat}(hO:Ok n a0K)(a:Int):LpB n 116 0 0 (wLi a [] 0 []) (.exit 0) (wLi a (TL a) 8 [(7,xl false)]):=by
 refine a0j (σ:=List Int) (N:=8) (g:=gLi a) (s0:=[]) (st:=fun i y=>wLi a y i []) (fin:=fun y=>wLi a y 8 [(7,xl false)]) (fun k y=>y.length<=k) (by kernel_rfl) (by decide) (Nat.le_refl 0) (fun j y hj hy=>by
  unfold gLi;split
  ·rw[List.length_append,List.length_singleton];omega
  omega) (fun j y hj hy m e p g9=>?_) (fun y _=>?_)
 ·unfold gLi at g9;have h0:(0:Int)<=(j:Int):=by omega
  have h2:y.length+[(j:Int)].length<=aO:=by simp only[List.length_singleton];unfold aO;omega
  cases h:a6N a j
  ·rw[h]at g9;exact round hX hO (by kernel_rfl) (.b (a2m hj) (.o h0 (.b h (.go g9))))
  rw[h,if_pos rfl]at g9;exact round hX hO (by kernel_rfl) (.b (a2m hj) (.o h0 (.b h (.o h2 (.goG [.gc [2]] g9)))))
 exact round hX hO (by kernel_rfl) (.b (a5L 8) .ex)
noncomputable def a9x:iO bM:=dL 116 (a1 pA) qw TL np a0K
theorem ajA:Gd a9x:=adG.add fun n hO p hp=>dS hX hO (by kernel_rfl) (.wG [.flag 0] (lLi (n:=n) hO p) .rr)
def afR (k:Nat):Int:=a4V .u64 1 k
def adO (f:List Fc):Int:=IntKind.u64.wrap (a4V .u64 1 f.length-1)
def ajB (a b:Int):Int:=IntKind.u64.wrap (((BitVec.ofInt 64 a ||| BitVec.ofInt 64 b).toNat:Nat):Int)
def WOk (f:List Fc)(g:Dg):Prop:=(Yh g).1.length<=aO∧∀k,k<(lW f).length->(cAt (lW f) k).length=(Yh g).1.length
theorem agY (l:List Pc):(acv l).length<=l.length:=by
 have:=Ru (g:=g4W l) (m:=l.length) (k:=0) (s:=[]) (fun k y=>y.length<=k) (Nat.le_refl 0) fun j y _ _ h=>by
  unfold g4W;split
  ·omega
  rw[List.length_append,List.length_singleton];omega
 rw[Nat.zero_add]at this;exact this
theorem abL {f:List Fc}{g:Dg}:(a13 f g).length<=(Yh g).1.length:=by
 have:=agY (a3L (lW f) (a1Q (Yh g).1));rw[a8C,a4q]at this;exact this
open Go Tw Pv fZ
abbrev fAt (l:List Fc)(k:Nat):Dg:=(l.getD k Fc0).d
abbrev wRc (b:Nat)(s o:List Int)(f:List Fc)(i:Int)(x:List (Nat×PE bM)):aV bM:=⟨[(0,xL 3 s),(1,xL 3 o),(2,xL 66 f),(b,xi i)]++x,[],[]⟩
def cK1 (f:List Fc)(k:Nat):Bool:=a6k (fAt f k) != 0
def cK2 (s o:List Int)(f:List Fc)(k:Nat):Bool:=!(a0J (s,o) (fAt f k))
def zR1 (s o:List Int)(f:List Fc):Unit⊕Nat->Ex×aV bM
 |.inl _=>(.exit 0,wRc 8 s o f f.length [(23,xl false)])
 |.inr k=>(.ret,⟨[(6,xi (a6k (fAt f k)))],[],[]⟩)
def zR2 (s o:List Int)(f:List Fc):Unit⊕Nat->Ex×aV bM
 |.inl _=>(.exit 2,wRc 10 s o f f.length [(38,xl false)])
 |.inr _=>(.ret,⟨[(6,xi 2)],[],[]⟩)
theorem lR1 {n:Nat}(hO:Ok n a9x)(s o:List Int)(f:List Fc)(hp:∀k,k<f.length->DgP (fAt f k))(hl:f.length<=aO):Lp n 66 0 (wRc 8 s o f 0 []) (zR1 s o f (pz (cK1 f) f.length)).1 (zR1 s o f (pz (cK1 f) f.length)).2:=by
 refine rC (st:=fun i _=>wRc 8 s o f i []) (g:=gS (cK1 f)) (out:=zR1 s o f) (fun _ _=>True) (by kernel_rfl) hl trivial (fun k u m hk _ ih=>?_) (fun _ _=>?_)
 ·have h9:=hp k hk;have h1:(fAt f k).order.length<=aO:=by have:=h9.o;unfold aO;omega
  have h2:(fAt f k).ends.length<=aO:=by have:=h9.e;omega
  unfold gS cK1;exact round hX hO (by kernel_rfl) (.b (a2m hk) (.o (dB hk) (.o h1 (.o h2 (.ls (.ou nofun) (.nx (ih _ trivial)))))))
 exact round hX hO (by kernel_rfl) (.b (a5L f.length) (.ou nofun))
theorem lR2 {n:Nat}(hO:Ok n a9x)(s o:List Int)(f:List Fc)(hp:∀k,k<f.length->DgP (fAt f k))(hl:f.length<=aO):Lp n 66 1 (wRc 10 s o f 0 []) (zR2 s o f (pz (cK2 s o f) f.length)).1 (zR2 s o f (pz (cK2 s o f) f.length)).2:=by
 refine rC (st:=fun i _=>wRc 10 s o f i []) (g:=gS (cK2 s o f)) (out:=zR2 s o f) (fun _ _=>True) (by kernel_rfl) hl trivial (fun k u m hk _ ih=>?_) (fun _ _=>?_)
 ·have h9:=hp k hk;have h1:(fAt f k).order.length<=aO:=by have:=h9.o;unfold aO;omega
  have h2:=h9.s;have hg:gS (cK2 s o f) k u=if (!(a0J (s,o) (fAt f k)))=true then .inr k else .inl u:=rfl
  unfold a0J at hg;cases h:(!(decide ((fAt f k).sizes=s)))
  ·have h3:decide ((fAt f k).sizes=s)=true:=(by simpa using h);rw[h3,if_pos rfl]at hg;rw[hg];exact round hX hO (by kernel_rfl) (.b (a2m hk) (.o (dB hk) (.o h2 (.b h (.o (dB hk) (.o h1 (.ls (.ou nofun) (.nx (ih _ trivial)))))))))
  have h3:decide ((fAt f k).sizes=s)=false:=by simpa using h
  have hg:gS (cK2 s o f) k u=.inr k:=by unfold gS cK2 a0J;rw[h3];rfl
  rw[hg];exact round hX hO (by kernel_rfl) (.b (a2m hk) (.o (dB hk) (.o h2 (.b h (.ou nofun)))))
 exact round hX hO (by kernel_rfl) (.b (a5L f.length) (.ou nofun))
def a0z (s o:List Int)(f:List Fc):Int:=if (jy s o != 0)=true then jy s o else if decide ((f.length:Int)>8)=true then 5 else if G5 (pz (cK1 f) f.length)=true then (if G5 (pz (cK2 s o f) f.length)=true then 0 else 2)else a6k (fAt f (a2l 0 (pz (cK1 f) f.length)))
noncomputable def agZ:iO bM:=dL 66 (a3 qw qw a5R) iA (fun p=>a0z p.1 p.2.1 p.2.2) (fun p=>[p.2.1.length<=aO,p.2.2.length<=aO,∀k,k<p.2.2.length->DgP (fAt p.2.2 k)]) a9x
abbrev anR (s o:List Int)(f:List Fc)(k:Nat)(c d:Bool):PT bM:=(.s .n (.s .n (.z c (.a (.lg [] (zR1 s o f (.inl ())).1 (zR1 s o f (.inl ())).2) (.z d (.a (.lg [] (zR2 s o f (.inl ())).1 (zR2 s o f (.inl ())).2) .n) (.a (.lg [] (zR2 s o f (.inr 0)).1 (zR2 s o f (.inr 0)).2) .n))) (.a (.lg [] (zR1 s o f (.inr k)).1 (zR1 s o f (.inr k)).2) .n))))
theorem wwR (n:Nat)(s o:List Int)(f:List Fc)(k:Nat)(c d:Bool):(Pz X0 Tryz.prog T a9x (qC X0 Tryz.prog (ApN n)) (KJ X0 Tryz.prog T (ApN n) LL 66 0) LL 66 ((a3 qw qw a5R).put (s,o,f)) [] (anR s o f k c d)).map frz=.o (o.length<=aO) (.br (jy s o != 0) (.ret (some (iA.put (jy s o)))) (.br (decide ((f.length:Int)>8)) (.ret (some (iA.put 5))) (.br c (.o (Lp n 66 0 (wRc 8 s o f 0 []) (zR1 s o f (.inl ())).1 (zR1 s o f (.inl ())).2) (.br d (.o (Lp n 66 1 (wRc 10 s o f 0 []) (zR2 s o f (.inl ())).1 (zR2 s o f (.inl ())).2) (.ret (some (iA.put 0)))) (.o (Lp n 66 1 (wRc 10 s o f 0 []) (zR2 s o f (.inr 0)).1 (zR2 s o f (.inr 0)).2) (.ret (some (iA.put 2)))))) (.o (Lp n 66 0 (wRc 8 s o f 0 []) (zR1 s o f (.inr k)).1 (zR1 s o f (.inr k)).2) (.ret (some (iA.put (a6k (fAt f k))))))))):=by kernel_rfl
theorem am8:Gd agZ:=ajA.add fun n hO p hp=>by
 obtain⟨s,o,f⟩:=p;have h1:o.length<=aO:=hp _ (.head _);have h2:f.length<=aO:=hp _ (.tail _ (.head _));have h3:∀k,k<f.length->DgP (fAt f k):=hp _ (.tail _ (.tail _ (.head _)));have l1:=lR1 hO s o f h3 h2;have l2:=lR2 hO s o f h3 h2;show Con X0 Tryz.prog _ _ _ (iA.put (a0z s o f)) _;unfold a0z;exact dS hX hO (wwR n s o f (a2l 0 (pz (cK1 f) f.length)) (G5 (pz (cK1 f) f.length)) (G5 (pz (cK2 s o f) f.length))) (.o h1 (.ss .rr (.ss .rr (.zh (fun h=>.w (xC l1 () h) (.zh (fun h'=>.w (xC l2 () h') .rr) (fun h'=>.w (Fa l2 0 h') .rr))) (fun h=>.w (Fa l1 0 h) .rr)))))
open Go Tw Pv fZ
structure aau (d:Dg):Prop where
 t:SC d
 n:d.nodes.length<=6000
 l:iE d=0
 f:nI d.sizes
 o:d.order.length<=aO
 e:d.ends.length<=aO
def gLs (d:Dg)(k:Nat)(l:List V):List V:=l++[a6m d (a2o d.sizes k)]
theorem ah0 (d:Dg):uo (gLs d) (cnt d.sizes) 0 []=cellsD d:=by
 have:=Ru (g:=gLs d) (m:=cnt d.sizes) (k:=0) (s:=[]) (fun k l=>l=(List.range k).map fun (k:Nat)=>a6m d (a2o d.sizes k)) rfl (fun j l _ _ e=>by rw[gLs,e,List.range_succ,List.map_append];rfl);rw[Nat.zero_add]at this;exact this
abbrev wLs (d:Dg)(y:List V)(i:Int)(x:List (Nat×PE bM)):aV bM:=⟨[(1,.loc 0 0),(3,.val (.own 0)),(4,xi i)]++x,[d.ps],[.list false false 79 y]⟩
theorem lLs {n:Nat}(hO:Ok n agZ)(d:Dg)(h:aau d):LpB n 43 0 0 (wLs d [] 0 []) (.exit 0) (wLs d (cellsD d) (cnt d.sizes) [(12,xl false)]):=by
 have hs:d.sizes.length<=aO:=by have:=h.f.len;unfold aO;omega
 have hc:cnt d.sizes<=aO:=by have:=h.f.cnt;have:=h.f.a5N;have:=h.f.many;unfold aO;omega
 rw[<-ah0 d];refine a0j (σ:=List V) (N:=cnt d.sizes) (g:=gLs d) (s0:=[]) (st:=fun i y=>wLs d y i []) (fin:=fun y=>wLs d y (cnt d.sizes) [(12,xl false)]) (fun k y=>y.length=k) (by kernel_rfl) hc rfl (fun j y hj hy=>by simp[gLs,hy]) (fun j y hj hy m e p g9=>?_) (fun y _=>?_)
 ·have h2:y.length+[a6m d (a2o d.sizes j)].length<=aO:=by rw[hy,List.length_singleton];omega
  exact round hX hO (by kernel_rfl) (.o hs (.b (h.f.lt hj) (.o hs (.o h.f.sz (.o (show (0:Int)<=(j:Int)by omega) (.o (show (j:Int)<2^62 by unfold aO at hc;omega) (.o h.t (.o h.n (.o (a7X (j:Int) h.f.sz) (.o h2 (.goG [.gc [2]] g9)))))))))))
 exact round hX hO (by kernel_rfl) (.o hs (.b h.f.no .ex))
noncomputable def ah1:iO bM:=dL 43 (a1 dA) vsA cellsD (fun d=>[aau d]) agZ
theorem am9:Gd ah1:=am8.add fun n hO p hp=>by
 have h:aau p:=hp _ (.head _);have hb:(iE p != 0)=false:=by rw[h.l];rfl
 exact dS hX hO (by kernel_rfl) (.o h.o (.o h.e (.b hb (.wG [.Nr 3 79] (lLs (n:=n) hO p h) .rr))))
def gMt (c:List V)(k:Nat)(l:List Bool):List Bool:=l++[decide (c.getD k V0=V1)]
def a7h (c:List V):List Bool:=c.map fun v=>decide (v=V1)
theorem ah2 (c:List V):uo (gMt c) c.length 0 []=a7h c:=by
 have:=Ru (g:=gMt c) (m:=c.length) (k:=0) (s:=[]) (fun k l=>l=(c.take k).map fun v=>decide (v=V1)) rfl (fun j y _ h e=>by
  have hj:j<c.length:=by omega
  have e2:c.getD j V0=c[j]:=by simp only[List.getD,List.getElem?_eq_getElem hj,Option.getD_some]
  rw[gMt,e,e2,List.take_add_one,List.getElem?_eq_getElem hj,List.map_append];rfl)
 rw[Nat.zero_add,List.take_length]at this;exact this
abbrev wMt (c:List V)(y:List Bool)(i:Int)(x:List (Nat×PE bM)):aV bM:=⟨[(3,.val (.own 0)),(4,xL 79 c),(5,xi i)]++x,[],[.list false false 4 y]⟩
theorem lMt {n:Nat}(hO:Ok n ah1)(d:Dg)(c:List V)(hl:c.length<=aO):LpB n 111 0 0 ⟨(wMt c [] 0 []).env,[d.ps],(wMt c [] 0 []).heap⟩ (.exit 0) (wMt c (a7h c) c.length [(11,xl false)]):=by
 rw[<-ah2 c];refine a0j (σ:=List Bool) (N:=c.length) (g:=gMt c) (s0:=[]) (st:=fun i y=>wMt c y i []) (fin:=fun y=>wMt c y c.length [(11,xl false)]) (fun k y=>y.length=k) (by kernel_rfl) hl rfl (fun j y hj hy=>by simp[gMt,hy]) (fun j y hj hy m e p g9=>?_) (fun y _=>?_)
 ·have h2:y.length+[decide (c.getD j V0=V1)].length<=aO:=by rw[hy,List.length_singleton];omega
  exact round hX hO (by kernel_rfl) (.b (a2m hj) (.o (dB hj) (.o h2 (.goG [.gc [2]] g9))))
 exact round hX hO (by kernel_rfl) (.b (a5L c.length) .ex)
def wC (d:Dg):List Bool:=a7h (cellsD d)
noncomputable def adR:iO bM:=dL 111 (a1 dA) ai7 wC (fun d=>[aau d,(cellsD d).length<=aO]) ah1
theorem ajF:Gd adR:=am9.add fun n hO p hp=>by
 have h:aau p:=hp _ (.head _);have h2:(cellsD p).length<=aO:=hp _ (.tail _ (.head _));exact dS hX hO (by kernel_rfl) (.o h (.wG [.Nr 3 4] (lMt (n:=n) hO p (cellsD p) h2) .rr))
open Go Tw Pv fZ
noncomputable abbrev faA:=XT (a2 ala ai7)
abbrev wGv (l:List Fc)(g:Dg)(y:List (List Bool))(i:Int)(x:List (Nat×PE bM)):aV bM:=⟨[(0,xL 66 l),(3,.loc 0 0),(4,.loc 1 0),(5,.loc 2 0),(6,xi i)]++x,[g.ps,[.nil .slc,.nil .slc],[.own 0,.nil .slc]],[.list false false 45 y]⟩
abbrev wEi (m:List (List Bool))(g:List Bool)(bits p:Int)(y:Bool)(i:Int)(x:List (Nat×PE bM)):aV bM:=⟨[(1,xi bits),(2,.loc 0 0),(5,xi p),(6,.val (.bool y)),(7,xi i)]++x,[[lBs m,lB g]],[]⟩
abbrev wEo (m:List (List Bool))(g:List Bool)(bits:Int)(i:Int)(x:List (Nat×PE bM)):aV bM:=⟨[(1,xi bits),(2,.loc 0 0),(5,xi i)]++x,[[lBs m,lB g]],[]⟩
abbrev wBi (bits:Int)(y:List Int)(i:Int)(x:List (Nat×PE bM)):aV bM:=⟨[(0,xi bits),(3,.val (.own 0)),(4,xi i)]++x,[],[.list false false 3 y]⟩
abbrev wSm (a b:List Int)(i:Int)(x:List (Nat×PE bM)):aV bM:=⟨[(0,xL 3 a),(1,xL 3 b),(5,xi i)]++x,[],[]⟩
theorem u0 (x:Int):0<=IntKind.u64.wrap x:=by
 have h:(0:Int)<=x%2^64:=by omega
 simpa[IntKind.wrap,IntKind.signed,IntKind.bits]using h
def gGv (l:List Fc)(k:Nat)(y:List (List Bool)):List (List Bool):=y++[wC (fAt l k)]
def pF (l:List Fc):List (List Bool):=l.map fun x=>wC x.d
theorem ah4 (l:List Fc):uo (gGv l) l.length 0 []=pF l:=by
 have:=Ru (g:=gGv l) (m:=l.length) (k:=0) (s:=[]) (fun k y=>y=(l.take k).map fun x=>wC x.d) rfl (fun j y _ h e=>by
  have hj:j<l.length:=by omega
  have e2:fAt l j=l[j].d:=by unfold fAt;simp only[List.getD,List.getElem?_eq_getElem hj,Option.getD_some]
  rw[gGv,e,e2,List.take_add_one,List.getElem?_eq_getElem hj,List.map_append];rfl)
 rw[Nat.zero_add,List.take_length]at this;exact this
structure a7P (d:Dg):Prop where
 l:aau d
 c:(cellsD d).length<=aO
theorem lGv {n:Nat}(hO:Ok n adR)(l:List Fc)(g:Dg)(hl:l.length<=aO)(hp:∀k,k<l.length->a7P (fAt l k)):LpB n 73 0 0 (wGv l g [] 0 []) (.exit 0) (wGv l g (pF l) l.length [(10,xl false)]):=by
 rw[<-ah4 l];refine a0j (σ:=List (List Bool)) (N:=l.length) (g:=gGv l) (s0:=[]) (st:=fun i y=>wGv l g y i []) (fin:=fun y=>wGv l g y l.length [(10,xl false)]) (fun k y=>y.length=k) (by kernel_rfl) hl rfl (fun j y hj hy=>by simp[gGv,hy]) (fun j y hj hy m e p g9=>?_) (fun y _=>?_)
 ·have h9:=hp j hj;have h2:y.length+[wC (fAt l j)].length<=aO:=by rw[hy,List.length_singleton];omega
  exact round hX hO (by kernel_rfl) (.b (a2m hj) (.o (dB hj) (.o h9.l (.o h9.c (.o h2 (.goG [.gc [2]] g9))))))
 exact round hX hO (by kernel_rfl) (.b (a5L l.length) .ex)
noncomputable def ajH:iO bM:=dL 73 (a2 a5R dA) faA (fun p=>(pF p.1,wC p.2)) (fun p=>[p.1.length<=aO,∀k,k<p.1.length->a7P (fAt p.1 k),a7P p.2]) adR
theorem amc:Gd ajH:=ajF.add fun n hO p hp=>by
 obtain⟨l,g⟩:=p;have h1:l.length<=aO:=hp _ (.head _);have h2:∀k,k<l.length->a7P (fAt l k):=hp _ (.tail _ (.head _));have h3:a7P g:=hp _ (.tail _ (.tail _ (.head _)));exact dS hX hO (by kernel_rfl) (.wG [.a4W 2 0 45] (lGv (n:=n) hO l g h1 h2) (.o h3.l (.o h3.c .rr)))
def adS (m:List (List Bool))(bits:Int)(p:Nat)(k:Nat)(y:Bool):Bool:=if y=true then (if (a4U .i64 (a1A .i64 bits (IntKind.u64.wrap k)) 2==0)=true then true else (m.getD k []).getD p false)else false
def a7z (m:List (List Bool))(bits:Int)(p:Nat):Bool:=uo (adS m bits p) m.length 0 true
def cEx (m:List (List Bool))(g:List Bool)(bits:Int)(p:Nat):Bool:=if a7z m bits p=true then !(g.getD p false)else false
def a1q (m:List (List Bool))(g:List Bool)(bits:Int):Bool:=if G5 (pz (cEx m g bits) g.length)=true then true else false
structure FaP (m:List (List Bool))(g:List Bool):Prop where
 lm:m.length<=aO
 lg:g.length<=aO
 le:∀k,k<m.length->(m.getD k []).length=g.length
def zEx (m:List (List Bool))(g:List Bool)(bits:Int):Unit⊕Nat->Ex×aV bM
 |.inl _=>(.exit 0,wEo m g bits g.length [(12,xl false)])
 |.inr _=>(.ret,⟨[(4,xl false)],[[lBs m,lB g]],[]⟩)
section
variable {n:Nat}{m:List (List Bool)}{g:List Bool}(h:FaP m g)(bits:Int)
include h
theorem lEi (p:Nat)(hp:p<g.length):LpB n 37 1 0 (wEi m g bits p true 0 []) (.exit 2) (wEi m g bits p (a7z m bits p) m.length [(19,xl false)]):=by
 refine a0j (σ:=Bool) (N:=m.length) (g:=adS m bits p) (s0:=true) (st:=fun i y=>wEi m g bits p y i []) (fin:=fun y=>wEi m g bits p y m.length [(19,xl false)]) (fun _ _=>True) (by kernel_rfl) h.lm trivial (fun _ _ _ _=>trivial) (fun j y hj hy m1 e p1 g9=>?_) (fun y _=>?_)
 ·unfold adS at g9;cases y
  ·rw[if_neg (by simp)]at g9;exact round hX ok0 (by kernel_rfl) (.b (a2m hj) (.b (rfl:false=false) (.goG [.lit] g9)))
  rw[if_pos rfl]at g9;have t2:(2:Int)≠0:=by decide
  cases hb:(a4U .i64 (a1A .i64 bits (IntKind.u64.wrap j)) 2==0)
  ·rw[hb,if_neg (by simp)]at g9;have hk:CB (p:Int) (m.getD j []).length:=dB (by rw[h.le j hj];exact hp);exact round hX ok0 (by kernel_rfl) (.b (a2m hj) (.b (rfl:true=true) (.o (u0 (j:Int)) (.o t2 (.b hb (.o (dB hj) (.o hk (.goG [.lit] g9))))))))
  rw[hb,if_pos rfl]at g9;exact round hX ok0 (by kernel_rfl) (.b (a2m hj) (.b (rfl:true=true) (.o (u0 (j:Int)) (.o t2 (.b hb (.goG [.lit] g9))))))
 exact round hX ok0 (by kernel_rfl) (.b (a5L m.length) .ex)
theorem lEo:LpB n 37 0 0 (wEo m g bits 0 []) (zEx m g bits (pz (cEx m g bits) g.length)).1 (zEx m g bits (pz (cEx m g bits) g.length)).2:=by
 refine rC (st:=fun i _=>wEo m g bits i []) (g:=gS (cEx m g bits)) (out:=zEx m g bits) (fun _ _=>True) (by kernel_rfl) h.lg trivial (fun k u m1 hk _ ih=>?_) (fun _ _=>?_)
 ·have lp:=lEi (n:=n) h bits k hk;have hg:gS (cEx m g bits) k u=if (if a7z m bits k=true then !(g.getD k false)else false)=true then .inr k else .inl u:=rfl
  generalize a7z m bits k=y at lp hg;cases y
  ·have hg:gS (cEx m g bits) k u=.inl u:=hg;rw[hg];exact round hX ok0 (by kernel_rfl) (.b (a2m hk) (.wG [.lit] lp (.b (rfl:false=false) (.nx (ih _ trivial)))))
  rw[if_pos rfl]at hg;rw[hg];exact round hX ok0 (by kernel_rfl) (.b (a2m hk) (.wG [.lit] lp (.b (rfl:true=true) (.o (dB hk) (.ls (.ou nofun) (.nx (ih _ trivial)))))))
 exact round hX ok0 (by kernel_rfl) (.b (a5L g.length) (.ou nofun))
end
noncomputable def ajI:iO bM:=dL 37 (a2 faA iA) tA (fun p=>a1q p.1.1 p.1.2 p.2) (fun p=>[FaP p.1.1 p.1.2]) ajH
theorem ame:Gd ajI:=amc.add fun n hO p hp=>by
 obtain⟨⟨m,g⟩,bits⟩:=p;have h:FaP m g:=hp _ (.head _);have lp:=lEo (n:=n) h bits;show Con X0 Tryz.prog _ _ _ (tA.put (a1q m g bits)) _;unfold a1q;exact dS hX hO (by kernel_rfl) (.zh (fun h=>.w (xC lp () h) .rr) (fun h=>.w (Fa lp 0 h) .rr))
open Go Tw Pv fZ
theorem abO {n:Nat}(h:n<=10):a4V .i64 1 (IntKind.u64.wrap n)=((2^n:Nat):Int):=by
 have:n=0∨n=1∨n=2∨n=3∨n=4∨n=5∨n=6∨n=7∨n=8∨n=9∨n=10:=by omega
 rcases this with rfl|rfl|rfl|rfl|rfl|rfl|rfl|rfl|rfl|rfl|rfl<;>decide
def ah5 (n:Nat):Int:=IntKind.i64.wrap (a4V .i64 1 (IntKind.u64.wrap n)-1)
def a7A (n:Nat)(b:Int):Int:=IntKind.i64.wrap (((BitVec.ofInt 64 (ah5 n) &&& ~~~BitVec.ofInt 64 b).toNat:Nat):Int)
noncomputable def afS:iO bM:=dL 110 (a2 faA iA) tA (fun p=>!(a1q p.1.1 p.1.2 (a7A p.1.1.length p.2))) (fun p=>[FaP p.1.1 p.1.2]) ajI
theorem ajJ:Gd afS:=ame.add fun n hO p hp=>dS hX hO (by kernel_rfl) (.o (u0 (p.1.1.length:Int)) (.o (hp _ (.head _)) .rr))
noncomputable def ajK:iO bM:=dL 72 (a3 faA iA tA) tA (fun p=>(if p.2.2=true then !(a1q p.1.1 p.1.2 (a7A p.1.1.length p.2.1))else a1q p.1.1 p.1.2 p.2.1)) (fun p=>[FaP p.1.1 p.1.2]) afS
theorem amf:Gd ajK:=ajJ.add fun n hO p hp=>dS hX hO (by kernel_rfl) (.ss (.o (hp _ (.head _)) .rr) (.o (hp _ (.head _)) .rr))
def bGo (bits:Int)(j:Nat):Bool:=decide (a1A .i64 bits (IntKind.u64.wrap j)>0)
def bOn (bits:Int)(j:Nat):Bool:=a4U .i64 (a1A .i64 bits (IntKind.u64.wrap j)) 2==1
def a3m (bits:Int):Nat:=(List.range 63).findIdx fun j=>!(bGo bits j)
theorem afT {bits:Int}{j:Nat}(hj:j<a3m bits):bGo bits j=true:=by
 have h:=List.not_of_lt_findIdx hj;have hl:a3m bits<=63:=by have:=List.findIdx_le_length (xs:=List.range 63) (p:=fun j=>!(bGo bits j));simpa[a3m]using this
 rw[List.getElem_range]at h;simpa using h
theorem ajL {bits:Int}(h:a3m bits<63):bGo bits (a3m bits)=false:=by
 have h2:=List.findIdx_getElem (xs:=List.range 63) (p:=fun j=>!(bGo bits j)) (w:=by simpa[a3m]using h);rw[List.getElem_range]at h2;unfold a3m;simpa using h2
def gBi (bits:Int)(k:Nat)(y:List Int):List Int:=if bOn bits k=true then y++[(k:Int)]else y
def dV (bits:Int):List Int:=uo (gBi bits) (a3m bits) 0 []
theorem lBi {n:Nat}(bits:Int)(h:a3m bits<63):LpB n 51 0 0 (wBi bits [] 0 []) (.exit 0) (wBi bits (dV bits) (a3m bits) [(9,xl false)]):=by
 refine a0j (σ:=List Int) (N:=a3m bits) (g:=gBi bits) (s0:=[]) (st:=fun i y=>wBi bits y i []) (fin:=fun y=>wBi bits y (a3m bits) [(9,xl false)]) (fun k y=>y.length<=k) (by kernel_rfl) (by unfold aO;omega) (Nat.le_refl 0) (fun j y hj hy=>by
  unfold gBi;split
  ·rw[List.length_append,List.length_singleton];omega
  omega) (fun j y hj hy m e p g9=>?_) (fun y _=>?_)
 ·have h2:y.length+[(j:Int)].length<=aO:=by simp only[List.length_singleton];unfold aO;omega
  have t2:(2:Int)≠0:=by decide
  have hb:=afT hj;unfold gBi at g9;cases ho:bOn bits j
  ·rw[ho]at g9;exact round hX ok0 (by kernel_rfl) (.o (u0 (j:Int)) (.b hb (.o (u0 (j:Int)) (.o t2 (.b ho (.go g9))))))
  rw[ho,if_pos rfl]at g9;exact round hX ok0 (by kernel_rfl) (.o (u0 (j:Int)) (.b hb (.o (u0 (j:Int)) (.o t2 (.b ho (.o h2 (.goG [.gc [2]] g9)))))))
 exact round hX ok0 (by kernel_rfl) (.o (u0 (a3m bits:Int)) (.b (ajL h) .ex))
noncomputable def ajM:iO bM:=dL 51 (a1 iA) qw dV (fun p=>[a3m p<63]) ajK
theorem amg:Gd ajM:=amf.add fun n hO p hp=>dS hX hO (by kernel_rfl) (.wG [.Nr 3 3] (lBi (n:=n) p (hp _ (.head _))) .rr)
def cSm (a b:List Int)(k:Nat):Bool:=a.getD k 0 != b.getD k 0
def zSm (a b:List Int):Unit⊕Nat->Ex×aV bM
 |.inl _=>(.exit 0,wSm a b a.length [(19,xl false)])
 |.inr k=>(.ret,⟨[(4,.val (.bool (decide (a.getD k 0<b.getD k 0))))],[],[]⟩)
theorem lSm {n:Nat}(a b:List Int)(hl:a.length<=aO)(he:a.length=b.length):LpB n 55 0 0 (wSm a b 0 []) (zSm a b (pz (cSm a b) a.length)).1 (zSm a b (pz (cSm a b) a.length)).2:=by
 refine rC (st:=fun i _=>wSm a b i []) (g:=gS (cSm a b)) (out:=zSm a b) (fun _ _=>True) (by kernel_rfl) hl trivial (fun k u m hk _ ih=>?_) (fun _ _=>?_)
 ·have i1:CB (k:Int) a.length:=dB hk;have i2:CB (k:Int) b.length:=dB (he▸hk);have hg:gS (cSm a b) k u=if (a.getD k 0 != b.getD k 0)=true then .inr k else .inl u:=rfl
  rw[hg];exact round hX ok0 (by kernel_rfl) (.b (a2m hk) (.o i1 (.o i2 (.ls (.o i1 (.o i2 (.ou nofun))) (.nx (ih _ trivial))))))
 exact round hX ok0 (by kernel_rfl) (.b (a5L a.length) (.ou nofun))
def a0f (a b:List Int):Bool:=if ((a.length:Int) != (b.length:Int))=true then decide ((a.length:Int)<(b.length:Int))else if G5 (pz (cSm a b) a.length)=true then false else decide (a.getD (a2l 0 (pz (cSm a b) a.length)) 0<b.getD (a2l 0 (pz (cSm a b) a.length)) 0)
noncomputable def ah8:iO bM:=dL 55 (a2 qw qw) tA (fun p=>a0f p.1 p.2) (fun p=>[p.1.length<=aO]) ajM
theorem ami:Gd ah8:=amg.add fun n hO p hp=>by
 obtain⟨a,b⟩:=p;have h1:a.length<=aO:=hp _ (.head _);show Con X0 Tryz.prog _ _ _ (tA.put (a0f a b)) _;unfold a0f;by_cases he:a.length=b.length
 ·have hb:((a.length:Int) != (b.length:Int))=false:=by rw[he];simp
  have lp:=lSm (n:=n) a b h1 he;rw[if_neg (by rw[hb];simp)];exact dS hX hO (by kernel_rfl) (.b hb (.zh (fun h=>.w (xC lp () h) .rr) (fun h=>.w (Fa lp 0 h) .rr)))
 ·have hb:((a.length:Int) != (b.length:Int))=true:=by simp;omega
  rw[if_pos hb];exact dS hX hO (by kernel_rfl) (.b hb .rr)
abbrev bP (f:Bool)(b:List Int):PV bM:=match f with
 |true=>.bK 3 b false
 |false=>.nil .slc
abbrev wSl (m:List (List Bool))(g:List Bool)(up:Bool)(y:List Int×Bool)(i:Int)(x:List (Nat×PE bM)):aV bM:=⟨[(1,.val (.bool up)),(2,.loc 0 0),(6,.val (bP y.2 y.1)),(7,.val (.bool y.2)),(8,xi i)]++x,[[lBs m,lB g]],[]⟩
theorem ah9:((List.range 1024).all fun k=>bGo (k:Int) 10==false)=true:=by kernel_rfl
theorem a7B {k:Nat}(h:k<1024):a3m (k:Int)<63:=by
 have h1:=List.all_eq_true.1 ah9 k (List.mem_range.2 h);have h1:bGo (k:Int) 10=false:=by simpa using h1
 by_cases h2:10<a3m (k:Int)
 ·have:=afT h2;rw[h1]at this;cases this
 omega
theorem a9y (b:Int):(dV b).length<=a3m b:=by
 have:=Ru (g:=gBi b) (m:=a3m b) (k:=0) (s:=[]) (fun k y=>y.length<=k) (Nat.le_refl 0) fun j y _ _ h=>by
  unfold gBi;split
  ·rw[List.length_append,List.length_singleton];omega
  omega
 rw[Nat.zero_add]at this;exact this
def a1I (m:List (List Bool))(g:List Bool)(b:Int)(up:Bool):Bool:=if up=true then !(a1q m g (a7A m.length b))else a1q m g b
def gSl (m:List (List Bool))(g:List Bool)(up:Bool)(k:Nat)(y:List Int×Bool):List Int×Bool:=if a1I m g k up=true then (if y.2=true then (if a0f (dV k) y.1=true then (dV k,true)else y)else (dV k,true))else y
def a0k (m:List (List Bool))(g:List Bool)(up:Bool):List Int×Bool:=uo (gSl m g up) (2^m.length) 0 ([],false)
theorem afU {n:Nat}(h:n<=10):2^n<=1024:=Nat.pow_le_pow_right (by decide) h
theorem lSl {n:Nat}(hO:Ok n ah8){m:List (List Bool)}{g:List Bool}(h:FaP m g)(hm:m.length<=10)(up:Bool):LpB n 24 0 0 (wSl m g up ([],false) 0 []) (.exit 0) (wSl m g up (a0k m g up) ((2^m.length:Nat):Int) [(16,xl false)]):=by
 have h2:=abO hm;have h3:=afU hm;refine a0j (σ:=List Int×Bool) (N:=2^m.length) (g:=gSl m g up) (s0:=([],false)) (st:=fun i y=>wSl m g up y i []) (fin:=fun y=>wSl m g up y ((2^m.length:Nat):Int) [(16,xl false)]) (fun _ _=>True) (by kernel_rfl) (by unfold aO;omega) trivial (fun _ _ _ _=>trivial) (fun j y hj hy m1 e p1 g9=>?_) (fun y _=>?_)
 ·have t1:decide ((j:Int)<a4V .i64 1 (IntKind.u64.wrap m.length))=true:=by rw[h2];exact a2m hj
  have hb:a3m (j:Int)<63:=a7B (by omega);have hl:(dV (j:Int)).length<=aO:=by have:=a9y (j:Int);unfold aO;omega
  obtain⟨b,f⟩:=y;unfold gSl at g9;cases hf:a1I m g j up
  ·rw[hf,if_neg (by simp)]at g9;exact round hX hO (by kernel_rfl) (.o (u0 (m.length:Int)) (.b t1 (.o hb (.o h (.b hf (.go g9))))))
  rw[hf,if_pos rfl]at g9;cases f
  ·rw[if_neg (by simp)]at g9;exact round hX hO (by kernel_rfl) (.o (u0 (m.length:Int)) (.b t1 (.o hb (.o h (.b hf (.b (rfl:(!false)=true) (.goG [.lit] g9)))))))
  rw[if_pos rfl]at g9;cases hs:a0f (dV (j:Int)) b
  ·rw[hs,if_neg (by simp)]at g9;exact round hX hO (by kernel_rfl) (.o (u0 (m.length:Int)) (.b t1 (.o hb (.o h (.b hf (.b (rfl:(!true)=false) (.o hl (.b hs (.go g9)))))))))
  rw[hs,if_pos rfl]at g9;exact round hX hO (by kernel_rfl) (.o (u0 (m.length:Int)) (.b t1 (.o hb (.o h (.b hf (.b (rfl:(!true)=false) (.o hl (.b hs (.goG [.lit] g9)))))))))
 have t1:decide ((((2^m.length:Nat)):Int)<a4V .i64 1 (IntKind.u64.wrap m.length))=false:=by rw[h2];exact a5L _
 exact round hX hO (by kernel_rfl) (.o (u0 (m.length:Int)) (.b t1 .ex))
noncomputable def ajN:iO bM:=dL 24 (a2 faA tA) (V3 (a2 qw tA)) (fun p=>if (a0k p.1.1 p.1.2 p.2).2=true then ((a0k p.1.1 p.1.2 p.2).1,true)else ([],false)) (fun p=>[FaP p.1.1 p.1.2,p.1.1.length<=10]) ah8
theorem amj:Gd ajN:=ami.add fun n hO p hp=>by
 obtain⟨⟨m,g⟩,up⟩:=p;have h:FaP m g:=hp _ (.head _);have hm:m.length<=10:=hp _ (.tail _ (.head _));have lp:=lSl (n:=n) hO h hm up;show Con X0 Tryz.prog _ _ _ ((V3 (a2 qw tA)).put (if (a0k m g up).2=true then ((a0k m g up).1,true)else ([],false))) _;generalize a0k m g up=y at lp ⊢;obtain⟨b,f⟩:=y;cases f
 ·exact dS hX hO (by kernel_rfl) (.wG [.lit] lp (.rn (.bH [.nil .slc,.bool false]) rfl))
 ·exact dS hX hO (by kernel_rfl) (.wG [.lit] lp .rr)
open Go Tw Pv fZ
noncomputable def aha:iO bM:=dL 22 (a1 qw) qw (fun p=>p) (fun p=>[p.length<=aO]) ajN
theorem amk:Gd aha:=amj.add fun n hO p hp=>dS hX hO (by kernel_rfl) (.o (hp _ (.head _)) .rr)
noncomputable abbrev wGn (d:Dg)(acc:List Br)(i:Int)(x:List (Nat×PE bM)):aV bM:=⟨[(1,.loc 0 0),(2,.loc 1 0),(3,.loc 2 0),(4,xi i)]++x,[d.ps,[.nil .slc,.nil .slc,.nil .slc,.nil .slc,.int .i64 0],[.bK 3 d.sizes false,.bK 3 d.order false,.own 0,.own 1,.int .i64 d.root]],[.list true false 79 d.ends,.list false false 102 acc]⟩
noncomputable abbrev adT:Br:=X0.d0 102
theorem lGn {n:Nat}{d:Dg}(hO:Ok n aha)(hl:d.nodes.length<=aO)(hr:∀b∈d.nodes,b.kids.length<=aO):Lp n 60 0 (wGn d [] 0 []) (.exit 0) (wGn d d.nodes d.nodes.length [(21,xl false)]):=by
 have e:uo (fun k (a:List Br)=>a++[d.nodes.getD k adT]) d.nodes.length 0 []=d.nodes:=by
  rw[a8W,a7Z d.nodes adT fun r=>r,List.map_id']
 rw[show wGn d d.nodes d.nodes.length [(21,xl false)]=wGn d (uo (fun k (a:List Br)=>a++[d.nodes.getD k adT]) d.nodes.length 0 []) d.nodes.length [(21,xl false)]by rw[e]];refine a0j (σ:=List Br) (N:=d.nodes.length) (g:=fun k (a:List Br)=>a++[d.nodes.getD k adT]) (s0:=([]:List Br)) (st:=fun i a=>wGn d a i []) (fin:=fun a=>wGn d a d.nodes.length [(21,xl false)]) (fun k a=>a.length=k) (by kernel_rfl) hl rfl (fun k a _ h=>by simp[h]) (fun k a hk ha m e p h=>?_) (fun a _=>?_)
 ·have hm:=hr (d.nodes.getD k adT) (by simp[List.getD,List.getElem?_eq_getElem hk]);have hal:a.length+1<=aO:=by have:a.length=k:=ha;omega
  exact round hX hO (by kernel_rfl) (.b (a2m hk) (.o (dB hk) (.o (dB hk) (.o hm (.o hal (.goG [.gc [0,3]] h))))))
 exact round hX hO (by kernel_rfl) (.b (a5L d.nodes.length) .ex)
noncomputable def ahb:iO bM:=dL 60 (a1 dA) dA (fun p=>p) (fun p=>[p.sizes.length<=aO,p.order.length<=aO,p.ends.length<=aO,p.nodes.length<=aO,∀b∈p.nodes,b.kids.length<=aO]) aha
theorem amm:Gd ahb:=amk.add fun n hO p hp=>dS hX hO (by kernel_rfl) (.o (hp _ (.head _)) (.o (hp _ (.tail _ (.head _))) (.o (hp _ (.tail _ (.tail _ (.head _)))) (.wG [.a4W 2 3 102] (lGn hO (hp _ (.tail _ (.tail _ (.tail _ (.head _))))) (hp _ (.tail _ (.tail _ (.tail _ (.tail _ (.head _))))))) .rr))))
structure Few (d:Dg):Prop where
 s:d.sizes.length<=aO
 o:d.order.length<=aO
 e:d.ends.length<=aO
 n:d.nodes.length<=aO
 k:∀b∈d.nodes,b.kids.length<=aO
abbrev wFa (l:List Fc)(acc:List Fc)(i:Int)(x:List (Nat×PE bM)):aV bM:=⟨[(0,xL 66 l),(3,.val (.own 0)),(4,xi i)]++x,[],[.list false false 66 acc]⟩
theorem ahc {α:Type}(l:List α)(z:α):uo (fun k (a:List α)=>a++[l.getD k z]) l.length 0 []=l:=by
 rw[a8W,a7Z l z fun r=>r,List.map_id']
theorem lFa {n:Nat}(hO:Ok n ahb)(l:List Fc)(hl:l.length<=aO)(hp:∀k,k<l.length->Few (fAt l k)):LpB n 23 0 0 (wFa l [] 0 []) (.exit 0) (wFa l l l.length [(8,xl false)]):=by
 have e:=ahc l Fc0;rw[show wFa l l l.length [(8,xl false)]=wFa l (uo (fun k (a:List Fc)=>a++[l.getD k Fc0]) l.length 0 []) l.length [(8,xl false)]by rw[e]];refine a0j (σ:=List Fc) (N:=l.length) (g:=fun k (a:List Fc)=>a++[l.getD k Fc0]) (s0:=([]:List Fc)) (st:=fun i a=>wFa l a i []) (fin:=fun a=>wFa l a l.length [(8,xl false)]) (fun k a=>a.length=k) (by kernel_rfl) hl rfl (fun k a _ h=>by simp[h]) (fun k a hk ha m e p h=>?_) (fun a _=>?_)
 ·have h9:=hp k hk;have hal:a.length+[l.getD k Fc0].length<=aO:=by rw[ha,List.length_singleton];omega
  exact round hX hO (by kernel_rfl) (.b (a2m hk) (.o (dB hk) (.o (dB hk) (.o h9.s (.o h9.o (.o h9.e (.o h9.n (.o h9.k (.o hal (.goG [.gc [2]] h))))))))))
 exact round hX hO (by kernel_rfl) (.b (a5L l.length) .ex)
noncomputable def ajP:iO bM:=dL 23 (a1 a5R) a5R (fun p=>p) (fun p=>[p.length<=aO,∀k,k<p.length->Few (fAt p k)]) ahb
theorem amn:Gd ajP:=amm.add fun n hO p hp=>dS hX hO (by kernel_rfl) (.wG [.Nr 3 66] (lFa (n:=n) hO p (hp _ (.head _)) (hp _ (.tail _ (.head _)))) .rr)
abbrev wTd (d:Dg)(i:Int)(x:List (Nat×PE bM)):aV bM:=⟨[(1,.loc 0 0),(3,xi i)]++x,[d.ps],[]⟩
def cTd (d:Dg)(k:Nat):Bool:=decide (((d.nodes.getD k SB).kids.length:Int)>12)
def zTd (d:Dg):Unit⊕Nat->Ex×aV bM
 |.inl _=>(.exit 0,wTd d d.nodes.length [(30,xl false)])
 |.inr _=>(.ret,⟨[(2,xl false)],[d.ps],[]⟩)
theorem lTd {n:Nat}(d:Dg)(hl:d.nodes.length<=aO):LpB n 33 0 0 (wTd d 0 []) (zTd d (pz (cTd d) d.nodes.length)).1 (zTd d (pz (cTd d) d.nodes.length)).2:=by
 refine rC (st:=fun i _=>wTd d i []) (g:=gS (cTd d)) (out:=zTd d) (fun _ _=>True) (by kernel_rfl) hl trivial (fun k u m hk _ ih=>?_) (fun _ _=>?_)
 ·unfold gS cTd;exact round hX ok0 (by kernel_rfl) (.b (a2m hk) (.o (dB hk) (.ls (.ou nofun) (.nx (ih _ trivial)))))
 exact round hX ok0 (by kernel_rfl) (.b (a5L d.nodes.length) (.ou nofun))
def abP (s o:List Int):Bool:=if (jy s o != 0)=true then true else decide (Bq s<=40)
def a3q (d:Dg):Bool:=if decide ((d.sizes.length:Int)>8)=true then false else if decide ((d.order.length:Int)>8)=true then false else if decide ((d.ends.length:Int)>62)=true then false else if decide ((d.nodes.length:Int)>70)=true then false else if G5 (pz (cTd d) d.nodes.length)=true then abP d.sizes d.order else false
theorem a8h {n b:Nat}(hb:b<=aO)(h:decide ((n:Int)>(b:Int))=false):n<=aO:=by rw[decide_eq_false_iff_not]at h;omega
noncomputable def ahd:iO bM:=dL 33 (a1 dA) tA a3q np ajP
theorem amr:Gd ahd:=amn.add fun n hO d _=>by
 show Con X0 Tryz.prog _ _ _ (tA.put (a3q d)) _;unfold a3q;cases h1:decide ((d.sizes.length:Int)>8)
 ·cases h2:decide ((d.order.length:Int)>8)
  ·cases h3:decide ((d.ends.length:Int)>62)
   ·cases h4:decide ((d.nodes.length:Int)>70)
    ·have lp:=lTd (n:=n) d (a8h (b:=70) (by decide) h4);have ho:=a8h (b:=8) (by decide) h2;have hs:=a8h (b:=8) (by decide) h1;unfold abP;simp only[Bool.false_eq_true,if_false];exact dS hX hO (by kernel_rfl) (.b h1 (.b h2 (.b h3 (.b h4 (.zh (fun h=>.w (xC lp () h) (.o ho (.ss .rr (.o hs .rr)))) (fun h=>.w (Fa lp 0 h) .rr))))))
    ·exact dS hX hO (by kernel_rfl) (.b h1 (.b h2 (.b h3 (.b h4 .rr))))
   ·exact dS hX hO (by kernel_rfl) (.b h1 (.b h2 (.b h3 .rr)))
  ·exact dS hX hO (by kernel_rfl) (.b h1 (.b h2 .rr))
 ·exact dS hX hO (by kernel_rfl) (.b h1 .rr)
open Go Tw Pv fZ
structure Ca where
 s:List Int
 o:List Int
 f:List Fc
 g:Dg
noncomputable def caA:Arg Ca:=a5I (XT (NT qw (NT qw (NT a5R (NT qw (a4 qw vsA Ya iA)))))) (fun p=>⟨p.1,p.2.1,p.2.2.1,⟨p.2.2.2.1,p.2.2.2.2.1,p.2.2.2.2.2.1,p.2.2.2.2.2.2.1,p.2.2.2.2.2.2.2⟩⟩) (fun c=>(c.s,c.o,c.f,c.g.sizes,c.g.order,c.g.ends,c.g.nodes,c.g.root)) fun _=>rfl
abbrev Ca.ps (c:Ca):List (PV bM):=[lI c.s,lI c.o,lFc c.f]++c.g.ps
abbrev wTh (c:Ca)(i:Int)(x:List (Nat×PE bM)):aV bM:=⟨[(1,.loc 0 0),(3,xi i)]++x,[c.ps],[]⟩
def cTh (c:Ca)(k:Nat):Bool:=!(a3q (fAt c.f k))
def zTh (c:Ca):Unit⊕Nat->Ex×aV bM
 |.inl _=>(.exit 0,wTh c c.f.length [(36,xl false)])
 |.inr _=>(.ret,⟨[(2,xl false)],[c.ps],[]⟩)
theorem lTh {n:Nat}(hO:Ok n ahd)(c:Ca)(hl:c.f.length<=aO):LpB n 16 0 0 (wTh c 0 []) (zTh c (pz (cTh c) c.f.length)).1 (zTh c (pz (cTh c) c.f.length)).2:=by
 refine rC (st:=fun i _=>wTh c i []) (g:=gS (cTh c)) (out:=zTh c) (fun _ _=>True) (by kernel_rfl) hl trivial (fun k u m hk _ ih=>?_) (fun _ _=>?_)
 ·unfold gS cTh;exact round hX hO (by kernel_rfl) (.b (a2m hk) (.o (dB hk) (.ls (.ou nofun) (.nx (ih _ trivial)))))
 exact round hX hO (by kernel_rfl) (.b (a5L c.f.length) (.ou nofun))
def a2r (c:Ca):Bool:=if decide ((c.s.length:Int)>8)=true then false else if decide ((c.o.length:Int)>8)=true then false else if decide ((c.f.length:Int)>10)=true then false else if ((c.f.length:Int)==8)=true then false else if (!(a3q c.g))=true then false else if G5 (pz (cTh c) c.f.length)=true then abP c.s c.o else false
noncomputable def ajQ:iO bM:=dL 16 (a1 caA) tA a2r np ahd
theorem amv:Gd ajQ:=amr.add fun n hO c _=>by
 show Con X0 Tryz.prog _ _ _ (tA.put (a2r c)) _;unfold a2r;cases h1:decide ((c.s.length:Int)>8)
 ·cases h2:decide ((c.o.length:Int)>8)
  ·cases h3:decide ((c.f.length:Int)>10)
   ·cases h4:((c.f.length:Int)==8)
    ·cases h5:(!(a3q c.g))
     ·have lp:=lTh (n:=n) hO c (a8h (b:=10) (by decide) h3);have ho:=a8h (b:=8) (by decide) h2;have hs:=a8h (b:=8) (by decide) h1;unfold abP;simp only[Bool.false_eq_true,if_false];exact dS hX hO (by kernel_rfl) (.b h1 (.b h2 (.b h3 (.b h4 (.b h5 (.zh (fun h=>.w (xC lp () h) (.o ho (.ss .rr (.o hs .rr)))) (fun h=>.w (Fa lp 0 h) .rr)))))))
     ·exact dS hX hO (by kernel_rfl) (.b h1 (.b h2 (.b h3 (.b h4 (.b h5 .rr)))))
    ·exact dS hX hO (by kernel_rfl) (.b h1 (.b h2 (.b h3 (.b h4 .rr))))
   ·exact dS hX hO (by kernel_rfl) (.b h1 (.b h2 (.b h3 .rr)))
  ·exact dS hX hO (by kernel_rfl) (.b h1 (.b h2 .rr))
 ·exact dS hX hO (by kernel_rfl) (.b h1 .rr)
def a3M (c:Ca):Int:=if (a0z c.s c.o c.f != 0)=true then a0z c.s c.o c.f else if (a6k c.g != 0)=true then a6k c.g else if (!(decide (c.g.sizes=c.s)))=true then 2 else if (!(decide (c.g.order=c.o)))=true then 2 else 0
structure CaP (c:Ca):Prop where
 p:aaH c.s c.o c.f c.g
 o:c.o.length<=aO
 d:∀k,k<c.f.length->DgP (fAt c.f k)
 w:∀k,k<c.f.length->Few (fAt c.f k)
 g:Few c.g
theorem ahe {n:Nat}:Con X0 Tryz.prog (ApN (n+1)) 17 ((a9R:al9 Unit).put ()) ((tA:Arg Bool).put true) []:=by
 intro A h first args cap hup hv
 have e:=hv.inv0;have e1:first=[]:=by cases first with|nil=>rfl|cons=>cases e
 subst e1;have e2:args=[]:=by cases args with|nil=>rfl|cons=>cases e
 subst e2;have e3:cap=[]:=by cases cap with|nil=>rfl|cons=>cases e
 subst e3;exact⟨.bool true,h,[],rfl,⟨rfl,fun i b hb=>by simp at hb,by simp[aJ],hup,fun b hb=>by simp[aJ]at hb⟩,.bool _,.refl⟩
noncomputable def a4b:iO bM:=dL 17 a9R tA (fun _=>true) np ajQ
theorem ahf:Gd a4b:=amv.deep 0 fun n hn hO p hp=>ahe
open Go Tw Pv fZ
theorem abQ {σ ρ:Type}{g h:Nat->σ->σ⊕ρ}:∀(m k:Nat) (s:σ),(∀j s,k<=j->j<k+m->g j s=h j s)->Rt g m k s=Rt h m k s
 | 0,_,_,_=>rfl
 |m+1,k,s,e=>by
  simp only[Rt];rw[e k s (Nat.le_refl _) (by omega)];cases h k s with
  |inl s1=>exact abQ m (k+1) s1 fun j s h1 h2=>e j s (by omega) (by omega)
  |inr r=>rfl
theorem af8 {c d:Nat->Bool}{n:Nat}(h:∀k,k<n->c k=d k):pz c n=pz d n:=by
 unfold pz;refine abQ n 0 () fun j s _ hj=>?_;unfold gS;rw[h j (by omega)]
structure CaR (c:Ca):Prop where
 f:∀k,k<c.f.length->DgR (fAt c.f k)
 g:DgR c.g
theorem a8i {d:Dg}(h:DgP d):(oH d).2=a6k d:=by
 have ho:d.order.length<=aO:=by have:=h.o;unfold aO;omega
 rw[a7d h.r h.s ho h.e]
theorem a4d {d:Dg}(h:DgP d):Yh d=if (a6k d != 0)=true then ([],a6k d)else (cellsD d,0):=adA h.r h.s (by have:=h.o;unfold aO;omega) h.e
structure Usd (d:Dg):Prop where
 l:aau d
 c:(cellsD d).length=cnt d.sizes
 m:cnt d.sizes<=aO
 r:a6k d=0
theorem adU {d:Dg}(h:DgP d)(h0:a6k d=0):Usd d:=by
 have ho:d.order.length<=aO:=by have:=h.o;unfold aO;omega
 have he:d.ends.length<=aO:=by have:=h.e;omega
 have WM:=h0;have hl:iE d=0:=by
  unfold a6k at h0;split at h0
  ·exact h0
  rename_i h1;simpa using h1
 have hc:=wI ho he (by rw[hl];rfl);have hf:nI d.sizes:=by
  have:(jy d.sizes d.order != 0)=false:=by
   cases e:jy d.sizes d.order != 0
   ·rfl
   unfold iE at hl;rw[if_pos e]at hl;rw[hl]at e;cases e
  exact O5 this
 exact⟨⟨hc.1,hc.2,hl,hf,ho,he⟩,by unfold cellsD;rw[List.length_map,List.length_range],hf.a5y,WM⟩
theorem a5n {f:List Fc}{k:Nat}:(lW f).getD k Dg0=fAt f k:=by
 unfold lW fAt;rw[List.getD_eq_getElem?_getD,List.getD_eq_getElem?_getD,List.getElem?_map];cases f[k]?<;>rfl
theorem a1g {f:List Fc}:(lW f).length=f.length:=List.length_map ..
theorem a8D {s o:List Int}{f:List Fc}(h:∀k,k<f.length->DgP (fAt f k)):a6I s o f=a0z s o f:=by
 have e1:pz (cCk (lW f)) (lW f).length=pz (cK1 f) f.length:=by
  rw[a1g];exact af8 fun k hk=>by unfold cCk cK1;rw[a5n,a8i (h k hk)]
 have e2:(!((lW f).all (a0J (s,o))))=!(G5 (pz (cK2 s o f) f.length)):=by
  congr 1;rw[Bool.eq_iff_iff,J8,List.all_eq_true];constructor
  ·intro h1 j hj;unfold cK2;have hm:fAt f j∈lW f:=by rw[<-a5n];exact Vw (by rw[a1g];exact hj)
   rw[h1 _ hm];rfl
  intro h1 d hd;obtain⟨x,hx,rfl⟩:=List.mem_map.1 hd;obtain⟨j,hj,rfl⟩:=List.mem_iff_getElem.1 hx;have:=h1 j hj;unfold cK2 fAt at this;rw[List.getD_eq_getElem?_getD,List.getElem?_eq_getElem hj]at this;simpa using this
 unfold a6I a0z;rw[e1,e2];cases hb:G5 (pz (cK1 f) f.length)
 ·simp only[Bool.false_eq_true,if_false];obtain⟨j,hj,_,_,hr⟩:=a5f hb;rw[hr];show (if _ then _ else if _ then _ else (oH ((lW f).getD j Dg0)).2)=_;rw[a5n,a8i (h j hj)];rfl
 simp only[if_true];cases G5 (pz (cK2 s o f) f.length)<;>rfl
theorem abR {d:Dg}(h:a3q d=true):d.sizes.length<=8∧d.order.length<=8∧d.ends.length<=62∧d.nodes.length<=70∧∀b∈d.nodes,b.kids.length<=12:=by
 unfold a3q at h;split at h
 ·cases h
 split at h
 ·cases h
 split at h
 ·cases h
 split at h
 ·cases h
 split at h
 ·rename_i h1 h2 h3 h4 h5;simp only[decide_eq_true_eq]at h1 h2 h3 h4;refine⟨by omega,by omega,by omega,by omega,fun b hb=>?_⟩;obtain⟨j,hj,rfl⟩:=List.mem_iff_getElem.1 hb;have h6:=J8.1 h5 j hj;unfold cTd at h6;rw[List.getD_eq_getElem?_getD,List.getElem?_eq_getElem hj]at h6;simp only[Option.getD_some,decide_eq_false_iff_not]at h6;omega
 cases h
theorem adV {d:Dg}(h:a3q d=true):Few d:=by
 obtain⟨a,b,c,e,g⟩:=abR h;exact⟨by unfold aO;omega,by unfold aO;omega,by unfold aO;omega,by unfold aO;omega,fun x hx=>by have:=g x hx;unfold aO;omega⟩
theorem adW {d:Dg}(h:a3q d=true)(hr:DgR d):DgP d:=by
 obtain⟨a,b,c,_,_⟩:=abR h;exact⟨hr,by unfold aO;omega,by omega,by unfold aO;omega⟩
theorem a3v {c:Ca}(h:a2r c=true):c.s.length<=8∧c.o.length<=8∧c.f.length<=10∧c.f.length≠8∧a3q c.g=true∧∀k,k<c.f.length->a3q (fAt c.f k)=true:=by
 unfold a2r at h;split at h
 ·cases h
 split at h
 ·cases h
 split at h
 ·cases h
 split at h
 ·cases h
 split at h
 ·cases h
 split at h
 ·rename_i h1 h2 h3 h4 h5 h6;simp only[decide_eq_true_eq]at h1 h2 h3;have h4:¬(c.f.length:Int)=8:=by simpa using h4
  refine⟨by omega,by omega,by omega,by omega,by simpa using h5,fun k hk=>?_⟩;have:=J8.1 h6 k hk;unfold cTh at this;simpa using this
 cases h
theorem a1M {c:Ca}(h:a2r c=true)(hr:CaR c):CaP c:=by
 obtain⟨h1,h2,h3,h4,h5,h6⟩:=a3v h;have hd:∀k,k<c.f.length->DgP (fAt c.f k):=fun k hk=>adW (h6 k hk) (hr.f k hk);refine⟨⟨by unfold aO;omega,by omega,by unfold aO;omega,fun d hd2=>?_,adW h5 hr.g⟩,by unfold aO;omega,hd,fun k hk=>adV (h6 k hk),adV h5⟩;obtain⟨x,hx,rfl⟩:=List.mem_map.1 hd2;obtain⟨j,hj,rfl⟩:=List.mem_iff_getElem.1 hx;have:=hd j hj;unfold fAt at this;rw[List.getD_eq_getElem?_getD,List.getElem?_eq_getElem hj]at this;exact this
theorem a8j {c:Ca}(p:CaP c):a3u c.s c.o c.f c.g=a3M c:=by
 unfold a3u a3M;rw[a8D p.d,a4d p.p.lg];by_cases h1:(a0z c.s c.o c.f != 0)=true
 ·rw[if_pos h1,if_pos h1]
 rw[if_neg h1,if_neg h1];cases h2:(a6k c.g != 0)
 ·simp only[Bool.false_eq_true,if_false];show (if ((0:Int) != 0)=true then _ else _)=_;rw[if_neg (by decide)];unfold a0J;cases decide (c.g.sizes=c.s)<;>cases decide (c.g.order=c.o)<;>rfl
 simp only[if_true];rw[h2,if_pos rfl]
structure NoE (c:Ca):Prop where
 n:c.f.length<=8
 u:∀k,k<c.f.length->Usd (fAt c.f k)
 v:Usd c.g
 s:∀k,k<c.f.length->(fAt c.f k).sizes=c.g.sizes
theorem adX {c:Ca}(p:CaP c)(h:a3M c=0):NoE c:=by
 unfold a3M at h;split at h
 ·rename_i h1;rw[h]at h1;cases h1
 split at h
 ·rename_i h1;rw[h]at h1;cases h1
 split at h
 ·cases h
 split at h
 ·cases h
 rename_i h1 h2 h3 h4;have h1:a0z c.s c.o c.f=0:=by simpa using h1
 have h2:a6k c.g=0:=by simpa using h2
 have h3:c.g.sizes=c.s:=by simpa using h3
 unfold a0z at h1;split at h1
 ·rename_i h5;rw[h1]at h5;cases h5
 split at h1
 ·cases h1
 rename_i h5 h6;simp only[decide_eq_true_eq]at h6;split at h1
 ·rename_i h7;split at h1
  ·rename_i h8;refine⟨by omega,fun k hk=>adU (p.d k hk) ?_,adU p.p.lg h2,fun k hk=>?_⟩
   ·have:=J8.1 h7 k hk;unfold cK1 at this;simpa using this
   have:=J8.1 h8 k hk;unfold cK2 a0J at this;rw[h3];cases e:decide ((fAt c.f k).sizes=c.s)
   ·rw[e]at this;cases this
   simpa using e
  cases h1
 rename_i h7;exfalso;cases hb:G5 (pz (cK1 c.f) c.f.length)
 ·obtain⟨j,hj,hc,_,hr⟩:=a5f hb;rw[hr]at h1;have h1:a6k (fAt c.f j)=0:=h1;unfold cK1 at hc;rw[h1]at hc;cases hc
 exact h7 hb
theorem abS {c:Ca}(e:NoE c){k:Nat}(hk:k<c.f.length):(cellsD (fAt c.f k)).length=(cellsD c.g).length:=by
 rw[(e.u k hk).c,e.v.c,e.s k hk]
theorem a9z {l:List Fc}{k:Nat}(hk:k<l.length):(pF l).getD k []=wC (fAt l k):=by
 unfold pF fAt;rw[List.getD_eq_getElem?_getD,List.getD_eq_getElem?_getD,List.getElem?_map,List.getElem?_eq_getElem hk];rfl
theorem a14 {l:List Fc}:(pF l).length=l.length:=List.length_map ..
theorem a5o {d:Dg}:(wC d).length=(cellsD d).length:=List.length_map ..
theorem ahg {c:Ca}(e:NoE c):FaP (pF c.f) (wC c.g):=by
 have:=e.n;refine⟨by rw[a14];unfold aO;omega,by rw[a5o,e.v.c];exact e.v.m,fun k hk=>?_⟩;rw[a14]at hk;rw[a9z hk,a5o,a5o,abS e hk]
open Go Tw Pv fZ
abbrev R (n:Nat):List Nat:=List.range n
def af9 (a:Nat):List Int:=((R 8).filter fun k=>a.testBit k).map fun k:Nat=>(k:Int)
theorem ajR:((R 128).all fun a=>(R 8).all fun k=>(a4U .i64 (a1A .i64 (a:Int) (IntKind.u64.wrap (k:Int))) 2==0)==!(a.testBit k))=true:=by kernel_rfl
theorem adY:((R 128).all fun a=>decide (dV (a:Int)=af9 a))=true:=by kernel_rfl
theorem adZ:((R 128).all fun a=>decide (TL (a:Int)=af9 a))=true:=by kernel_rfl
theorem ahh:((R 128).all fun a=>(R 128).all fun b=>(KY (a:Int) (b:Int)==0)==(R 7).all fun k=>!(a.testBit k)||b.testBit k)=true:=by kernel_rfl
theorem ahi:((R 128).all fun a=>(R 7).all fun k=>decide (orB (a:Int) (k:Int)=((a ||| 2^k:Nat):Int))&&decide (ajB (a:Int) (afR k)=((a ||| 2^k:Nat):Int)))=true:=by kernel_rfl
theorem a0W {n:Nat}{p:Nat->Bool}(h:(R n).all p=true){a:Nat}(ha:a<n):p a=true:=List.all_eq_true.1 h a (List.mem_range.2 ha)
theorem ahj {a k:Nat}(ha:a<128)(hk:k<8):(a4U .i64 (a1A .i64 (a:Int) (IntKind.u64.wrap (k:Int))) 2==0)=!(a.testBit k):=by simpa using a0W (a0W ajR ha) hk
theorem abT {a:Nat}(ha:a<128):dV (a:Int)=af9 a:=by simpa using a0W adY ha
theorem abU {a:Nat}(ha:a<128):TL (a:Int)=af9 a:=by simpa using a0W adZ ha
theorem afX {a b:Nat}(ha:a<128)(hb:b<128):(KY (a:Int) (b:Int)==0)=(R 7).all fun k=>!(a.testBit k)||b.testBit k:=eq_of_beq (a0W (a0W ahh ha) hb)
theorem ae0 {a k:Nat}(ha:a<128)(hk:k<7):orB (a:Int) (k:Int)=((a ||| 2^k:Nat):Int)∧ajB (a:Int) (afR k)=((a ||| 2^k:Nat):Int):=by
 have h:=a0W (a0W ahi ha) hk;simp only[Bool.and_eq_true,decide_eq_true_eq]at h;exact h
open Go Tw Pv fZ
theorem a7C {α:Type}(z:α)(F:Nat->α->α)(l:List α):∀m:Nat,m<=l.length->(uo (fun k (y:List α)=>y.set k (F k (y.getD k z))) m 0 l).length=l.length∧∀i,(uo (fun k (y:List α)=>y.set k (F k (y.getD k z))) m 0 l).getD i z=if i<m then F i (l.getD i z)else l.getD i z
 | 0,_=>⟨rfl,fun i=>by rw[if_neg (by omega)];rfl⟩
 |m+1,h=>by
  obtain⟨h1,h2⟩:=a7C z F l m (by omega);rw[EL,Nat.zero_add];refine⟨by rw[List.length_set,h1],fun i=>?_⟩;rw[List.getD_eq_getElem?_getD];by_cases e:m=i
  ·subst e;rw[List.getElem?_set_self (by omega),if_pos (by omega),Option.getD_some,h2 m,if_neg (by omega)]
  rw[List.getElem?_set_ne e,<-List.getD_eq_getElem?_getD,h2 i];by_cases e2:i<m
  ·rw[if_pos e2,if_pos (by omega)]
  rw[if_neg e2,if_neg (by omega)]
theorem ae1 {α:Type}(z:α)(l:List α)(k:Nat):l.set k (l.getD k z)=l:=by
 refine List.ext_getElem? fun i=>?_;by_cases e:k=i
 ·subst e;by_cases h:k<l.length
  ·rw[List.getElem?_set_self h,List.getD_eq_getElem?_getD,List.getElem?_eq_getElem h];rfl
  rw[List.getElem?_eq_none (by rw[List.length_set];omega),List.getElem?_eq_none (by omega)]
 rw[List.getElem?_set_ne e]
def mk (met:Nat->Nat->Bool)(i:Nat):Nat->Nat
 | 0=>0
 |j+1=>if met j i=true then mk met i j ||| 2^j else mk met i j
theorem ae2 (met:Nat->Nat->Bool)(i:Nat):∀j,mk met i j<2^j∧∀k,(mk met i j).testBit k=(decide (k<j)&&met k i)
 | 0=>⟨by simp[mk],fun k=>by simp[mk]⟩
 |j+1=>by
  obtain⟨h1,h2⟩:=ae2 met i j;unfold mk;cases h:met j i
  ·rw[if_neg (by simp)];refine⟨by rw[Nat.pow_succ];omega,fun k=>?_⟩;rw[h2 k];by_cases e:k=j
   ·subst e;simp[h]
   have:decide (k<j+1)=decide (k<j):=by rw[Bool.eq_iff_iff,decide_eq_true_eq,decide_eq_true_eq];omega
   rw[this]
  rw[if_pos rfl];refine⟨Nat.or_lt_two_pow (by rw[Nat.pow_succ];omega) (Nat.pow_lt_pow_right (by decide) (by omega)),fun k=>?_⟩;rw[Nat.testBit_or,h2 k,Nat.testBit_two_pow];by_cases e:k=j
  ·subst e;simp[h]
  have:decide (k<j+1)=decide (k<j):=by rw[Bool.eq_iff_iff,decide_eq_true_eq,decide_eq_true_eq];omega
  rw[this,show decide (j=k)=false from decide_eq_false (fun h=>e h.symm)];simp
section
variable (D:List Dg)(c0:List V)
def a4v (k i:Nat):Bool:=decide ((cAt D k).getD i V0=V1)
theorem ahk {i:Nat}(hi:i<c0.length):(a1Q c0).getD i Ag=⟨0,decide (c0.getD i V0=V1)⟩:=by
 have h:=(a7C Ag (fun k (x:Pc)=>(⟨x.facts,decide (c0.getD k V0=V1)⟩:Pc)) (List.replicate c0.length Ag) c0.length (by simp)).2 i;rw[if_pos hi]at h;unfold a1Q;show (uo (fun k (y:List Pc)=>y.set k ⟨(y.getD k Ag).facts,decide (c0.getD k V0=V1)⟩) c0.length 0 (List.replicate c0.length Ag)).getD i Ag=_;rw[h];have:(List.replicate c0.length Ag).getD i Ag=Ag:=by
  rw[List.getD_eq_getElem?_getD,List.getElem?_replicate];split<;>rfl
 rw[this]
theorem ahl (b:Nat)(c:List V)(l:List Pc)(hc:c.length<=l.length)(i:Nat)(hi:i<c.length):(uo (gIW (b:Int) c) c.length 0 l).getD i Ag=if decide (c.getD i V0=V1)=true then ⟨orB (l.getD i Ag).facts b,(l.getD i Ag).goal⟩else l.getD i Ag:=by
 have h:=(a7C Ag (fun k (x:Pc)=>if decide (c.getD k V0=V1)=true then (⟨orB x.facts b,x.goal⟩:Pc)else x) l c.length hc).2 i;rw[if_pos hi]at h;rw[<-h];congr 2
 funext k y
 unfold gIW;split
 ·rfl
 rw[ae1]
theorem aaB (N:Nat)(Xr:c0.length=N)(hc:∀k,k<D.length->(cAt D k).length=N){i:Nat}(hi:i<N):∀j,j<=D.length->j<=7->(uo (g2W D) j 0 (a1Q c0)).length=N∧(uo (g2W D) j 0 (a1Q c0)).getD i Ag=⟨((mk (a4v D) i j:Nat):Int),decide (c0.getD i V0=V1)⟩
 | 0,_,_=>⟨by rw[<-Xr];exact a4q c0,ahk c0 (by omega)⟩
 |j+1,hj,h7=>by
  obtain⟨h1,h2⟩:=aaB N Xr hc hi j (by omega) (by omega);rw[EL,Nat.zero_add];have hl:=hc j (by omega);refine⟨by show (uo (gIW (j:Int) (cAt D j)) (cAt D j).length 0 (uo (g2W D) j 0 (a1Q c0))).length=N;rw[aat,h1],?_⟩;show (uo (gIW (j:Int) (cAt D j)) (cAt D j).length 0 (uo (g2W D) j 0 (a1Q c0))).getD i Ag=_;rw[ahl j (cAt D j) _ (by omega) i (by omega),h2];have hm:=(ae2 (a4v D) i j).1;have a3p:2^j<=2^6:=Nat.pow_le_pow_right (by decide) (by omega);have ho:=(ae0 (a:=mk (a4v D) i j) (k:=j) (by omega) (by omega)).1;show (if a4v D j i=true then _ else _)=_;rw[mk];cases a4v D j i
  ·rfl
  rw[if_pos rfl,if_pos rfl];show (⟨orB ((mk (a4v D) i j:Nat):Int) (j:Int),_⟩:Pc)=_;rw[ho]
end
theorem aaG (l:List Pc)(x:Pc):x∈acv l↔∃i,i<l.length∧l.getD i Ag=x:=by
 have h:=Ru (g:=g4W l) (m:=l.length) (k:=0) (s:=[]) (fun k y=>∀x,x∈y↔∃i,i<k∧l.getD i Ag=x) (fun x=>by simp) (fun j y _ _ h x=>by
  unfold g4W;split
  ·rename_i hm;rw[h x];constructor
   ·rintro⟨i,hi,e⟩;exact⟨i,by omega,e⟩
   rintro⟨i,hi,e⟩;by_cases e2:i=j
   ·subst e2;rw[<-e];exact (h _).1 hm
   exact⟨i,by omega,e⟩
  rw[List.mem_append,h x,List.mem_singleton];constructor
  ·rintro (⟨i,hi,e⟩|e)
   ·exact⟨i,by omega,e⟩
   exact⟨j,by omega,e.symm⟩
  rintro⟨i,hi,e⟩;by_cases e2:i=j
  ·subst e2;exact .inr e.symm
  exact .inl ⟨i,by omega,e⟩)
 rw[Nat.zero_add]at h;exact h x
open Go Tw Pv fZ
def Exp (n N:Nat)(met:Nat->Nat->Bool)(gl:Nat->Bool)(a:Nat):Prop:=∀i,i<N->(∀k,k<n->a.testBit k=true->met k i=true)->gl i=true
theorem Exp.mono {n N:Nat}{met:Nat->Nat->Bool}{gl:Nat->Bool}{a b:Nat}(h:Exp n N met gl a)(hb:∀k,k<n->a.testBit k=true->b.testBit k=true):Exp n N met gl b:=fun i hi h2=>h i hi fun k hk ha=>h2 k hk (hb k hk ha)
theorem afb {m:List (List Bool)}{bits:Int}{p:Nat}:a7z m bits p=true↔∀k,k<m.length->(a4U .i64 (a1A .i64 bits (IntKind.u64.wrap k)) 2==0)=true∨(m.getD k []).getD p false=true:=by
 have h:=Ru (g:=adS m bits p) (m:=m.length) (k:=0) (s:=true) (fun j y=>y=true↔∀k,k<j->(a4U .i64 (a1A .i64 bits (IntKind.u64.wrap k)) 2==0)=true∨(m.getD k []).getD p false=true) ⟨fun _ k hk=>by omega,fun _=>rfl⟩ (fun j y _ _ h=>by
  unfold adS;cases y
  ·rw[if_neg (by simp)];constructor
   ·intro h2;cases h2
   intro h2;have:=h.2 fun k hk=>h2 k (by omega);cases this
  rw[if_pos rfl];have h1:=h.1 rfl;cases hb:(a4U .i64 (a1A .i64 bits (IntKind.u64.wrap j)) 2==0)
  ·rw[if_neg (by simp)];constructor
   ·intro h2 k hk;by_cases e:k=j
    ·subst e;exact .inr h2
    exact h1 k (by omega)
   intro h2;rcases h2 j (by omega)with h3|h3
   ·rw[hb]at h3;cases h3
   exact h3
  rw[if_pos rfl];refine⟨fun _ k hk=>?_,fun _=>rfl⟩;by_cases e:k=j
  ·subst e;exact .inl hb
  exact h1 k (by omega))
 rw[Nat.zero_add]at h;exact h
section
variable {c:Ca}(p:CaP c)(e:NoE c)(hn:c.f.length<=7)
abbrev aaL (c:Ca)(k i:Nat):Bool:=decide ((cellsD (fAt c.f k)).getD i V0=V1)
abbrev glC (c:Ca)(i:Nat):Bool:=decide ((cellsD c.g).getD i V0=V1)
abbrev ExC (c:Ca)(a:Nat):Prop:=Exp c.f.length (cnt c.g.sizes) (aaL c) (glC c) a
theorem a0A {n:Nat}(h:n<=7):2^n<=128:=Nat.pow_le_pow_right (by decide) h
theorem ae4 {a n k:Nat}(h:a<2^n)(hk:a.testBit k=true):k<n:=by
 refine Classical.byContradiction fun h2=>?_;have:a<2^k:=Nat.lt_of_lt_of_le h (Nat.pow_le_pow_right (by decide) (by omega));rw[Nat.testBit_lt_two_pow this]at hk;cases hk
include p e
theorem a7D {k:Nat}(hk:k<c.f.length):cAt (lW c.f) k=cellsD (fAt c.f k):=by
 unfold cAt;rw[a5n,a4d (p.d k hk),(e.u k hk).r];rfl
theorem abV:(Yh c.g).1=cellsD c.g:=by rw[a4d p.p.lg,e.v.r];rfl
include hn
theorem a4f {a:Nat}(ha:a<2^c.f.length):uw (a13 c.f c.g) (a:Int)=true↔ExC c a:=by
 have a3p:=a0A hn;have hg:=abV p e;have Xr:(Yh c.g).1.length=cnt c.g.sizes:=by rw[hg];exact e.v.c
 have hc:∀k,k<(lW c.f).length->(cAt (lW c.f) k).length=cnt c.g.sizes:=fun k hk=>by
  rw[a1g]at hk;rw[a7D p e hk,(e.u k hk).c,e.s k hk]
 have hP:∀i,i<cnt c.g.sizes->(a3L (lW c.f) (a1Q (Yh c.g).1)).getD i Ag=⟨((mk (a4v (lW c.f)) i c.f.length:Nat):Int),glC c i⟩:=fun i hi=>by
  have:=(aaB (lW c.f) (Yh c.g).1 (cnt c.g.sizes) Xr hc hi c.f.length (by rw[a1g];omega) hn).2;unfold a3L;rw[a1g,this,hg]
 have hbe:∀i,i<cnt c.g.sizes->(bE (a:Int) ((a3L (lW c.f) (a1Q (Yh c.g).1)).getD i Ag)=false↔((∀k,k<c.f.length->a.testBit k=true->aaL c k i=true)->glC c i=true)):=fun i hi=>by
  rw[hP i hi];have hm:=ae2 (a4v (lW c.f)) i c.f.length;unfold bE;show ((KY (a:Int) ((mk (a4v (lW c.f)) i c.f.length:Nat):Int)==0)&&!(glC c i))=false↔_;rw[afX (by omega) (by omega)];have hq:((R 7).all fun k=>!(a.testBit k)||(mk (a4v (lW c.f)) i c.f.length).testBit k)=true↔∀k,k<c.f.length->a.testBit k=true->aaL c k i=true:=by
   rw[List.all_eq_true];constructor
   ·intro h k hk hb;have:=h k (List.mem_range.2 (by omega));rw[hb,hm.2 k]at this;simp only[Bool.not_true,Bool.false_or,Bool.and_eq_true]at this;have h3:=this.2;unfold a4v at h3;rw[a7D p e hk]at h3;exact h3
   intro h k _;cases hb:a.testBit k
   ·rfl
   have hk:=ae4 ha hb;rw[hm.2 k,decide_eq_true hk];have h3:=h k hk hb;unfold a4v;rw[a7D p e hk];simpa using h3
  cases hx:(R 7).all fun k=>!(a.testBit k)||(mk (a4v (lW c.f)) i c.f.length).testBit k
  ·have:¬∀k,k<c.f.length->a.testBit k=true->aaL c k i=true:=fun h=>by rw[hq.2 h]at hx;cases hx
   exact⟨fun _ h=>absurd h this,fun _=>rfl⟩
  have h3:=hq.1 hx;cases glC c i
  ·exact⟨fun h=>(by cases h),fun h=>absurd (h h3) (by simp)⟩
  exact⟨fun _ _=>rfl,fun _=>rfl⟩
 have hl:(a3L (lW c.f) (a1Q (Yh c.g).1)).length=cnt c.g.sizes:=by rw[a8C,a4q,Xr]
 unfold uw a13;constructor
 ·intro h i hi;refine (hbe i hi).1 ?_;cases hb:bE (a:Int) ((a3L (lW c.f) (a1Q (Yh c.g).1)).getD i Ag)
  ·rfl
  have:(acv (a3L (lW c.f) (a1Q (Yh c.g).1))).any (bE (a:Int))=true:=List.any_eq_true.2 ⟨_,(aaG _ _).2 ⟨i,by omega,rfl⟩,hb⟩;rw[this]at h;cases h
 intro h;cases hb:(acv (a3L (lW c.f) (a1Q (Yh c.g).1))).any (bE (a:Int))
 ·rfl
 obtain⟨x,hx,hbx⟩:=List.any_eq_true.1 hb;obtain⟨i,hi,rfl⟩:=(aaG _ _).1 hx;rw[(hbe i (by omega)).2 (h i (by omega))]at hbx;cases hbx
theorem ae5 {a:Nat}(ha:a<2^c.f.length):a1q (pF c.f) (wC c.g) (a:Int)=true↔ExC c a:=by
 have a3p:=a0A hn;have hgl:∀i,i<cnt c.g.sizes->(wC c.g).getD i false=glC c i:=fun i hi=>by
  unfold wC a7h;have:i<(cellsD c.g).length:=by rw[e.v.c];exact hi
  unfold glC;simp only[List.getD_eq_getElem?_getD,List.getElem?_map,List.getElem?_eq_getElem this,Option.map_some,Option.getD_some]
 have hme:∀k i,k<c.f.length->i<cnt c.g.sizes->((pF c.f).getD k []).getD i false=aaL c k i:=fun k i hk hi=>by
  rw[a9z hk];unfold wC a7h aaL;have:i<(cellsD (fAt c.f k)).length:=by rw[(e.u k hk).c,e.s k hk];exact hi
  simp only[List.getD_eq_getElem?_getD,List.getElem?_map,List.getElem?_eq_getElem this,Option.map_some,Option.getD_some]
 have DK:∀i,i<cnt c.g.sizes->(a7z (pF c.f) (a:Int) i=true↔∀k,k<c.f.length->a.testBit k=true->aaL c k i=true):=fun i hi=>by
  rw[afb,a14];constructor
  ·intro h k hk hb;rcases h k hk with h2|h2
   ·rw[ahj (by omega) (by omega),hb]at h2;cases h2
   rw[hme k i hk hi]at h2;exact h2
  intro h k hk;rw[ahj (by omega) (by omega)];cases hb:a.testBit k
  ·exact .inl rfl
  right;rw[hme k i hk hi];exact h k hk hb
 have hr:a1q (pF c.f) (wC c.g) (a:Int)=G5 (pz (cEx (pF c.f) (wC c.g) (a:Int)) (wC c.g).length):=by
  unfold a1q;cases G5 (pz (cEx (pF c.f) (wC c.g) (a:Int)) (wC c.g).length)<;>rfl
 rw[hr,J8,a5o,e.v.c];constructor
 ·intro h i hi h2;have h3:=h i hi;unfold cEx at h3;rw[(DK i hi).2 h2,if_pos rfl,hgl i hi]at h3;simpa using h3
 intro h i hi;unfold cEx;cases hx:a7z (pF c.f) (a:Int) i
 ·rfl
 rw[if_pos rfl,hgl i hi,h i hi ((DK i hi).1 hx)];rfl
end
open Go Tw Pv fZ
section
variable {c:Ca}(p:CaP c)(e:NoE c)(hn:c.f.length<=7)
include p e hn
end
theorem a9A (a:Int):(TL a).length<=aO:=by
 have:=Ru (g:=gLi a) (m:=8) (k:=0) (s:=[]) (fun k y=>y.length<=k) (Nat.le_refl 0) fun j y _ _ h=>by
  unfold gLi;split
  ·rw[List.length_append,List.length_singleton];omega
  omega
 unfold TL aO;omega
theorem afc {X:iQ}{P:Program}{H:Type}{a07:TypeId×Value->H}{w:World}{t g:Nat}(ht:P.underlying t=some .string):RdP a07 X P w (g+1) t (fun s:ByteArray=>[.str s]) (fun _=>True):=fun d hd=>by
 obtain⟨bs,rfl⟩:=agh ht hd;exact⟨⟨bs.toArray⟩,trivial,fun h=>⟨[.str ⟨bs.toArray⟩],[],by simp[QM,ht],fun e=>.cons (.str _) .nil⟩⟩
section
variable {H:Type}{a07:TypeId×Value->H}{w:World}
theorem ajS:Tryz.prog.cellsOf 9=1:=by kernel_rfl
theorem ajT:Tryz.prog.cellsOf 66=6:=by kernel_rfl
theorem amx:aZ Tryz.prog 66=some 6:=by kernel_rfl
theorem ajU:Tryz.prog.cellsOf 23=1:=by kernel_rfl
theorem amy:Tryz.prog.cellsOf 29=8:=by kernel_rfl
theorem rFc {g:Nat}:RdX a07 w (g+6) 66 Fc.ps (fun x=>DgR x.d):=
 (a1l Tryz.underlying66 ajT (fun _=>rfl) (J3 rfl ajS (fun _=>rfl) (afc Tryz.underlying9) (J3 rfl agW (fun _=>rfl) rDg a3Z))).iso (fun x=>⟨x.1,x.2.1⟩) (fun _=>rfl) fun _ h=>h.2.1
theorem amA {g:Nat}:RdX a07 w (g+7) 23 (fun l:List Fc=>[lFc l]) (fun l=>∀x∈l,DgR x.d):=a3Y (e:=66) Tryz.underlying23 ajT amx (by decide) (fun _=>rfl) rFc
theorem rCa {g:Nat}:RdX a07 w (g+8) 29 Ca.ps CaR:=
 (a1l Tryz.underlying29 amy (fun _=>rfl) (J3 rfl adM (fun _=>rfl) a9w (J3 rfl adM (fun _=>rfl) a9w (J3 rfl ajU (fun _=>rfl) amA (J3 rfl agW (fun _=>rfl) rDg a3Z))))).iso (fun x=>⟨x.1,x.2.1,x.2.2.1,x.2.2.2.1⟩) (fun _=>rfl) fun x h=>by
  obtain⟨_,_,h3,h4,_⟩:=h;refine⟨fun k hk=>?_,h4⟩;have:=h3 _ (List.getElem_mem hk);show DgR ((x.2.2.1.getD k Fc0).d);rw[List.getD_eq_getElem?_getD,List.getElem?_eq_getElem hk];exact this
end
open Go Tw Pv fZ
def chs (n:Nat):Nat->Nat->Nat->List Nat
 | 0,s,_=>[s]
 |k+1,s,i=>(List.range' i (n-k-i)).flatMap fun j=>chs n k (s ||| 2^j) (j+1)
def a0h (n:Nat):List Nat:=(R (n+1)).flatMap fun k=>chs n k 0 0
def bq (b:Bool)(x:Nat):Nat:=match b with
 |true=>x
 |false=>0
def pop (a:Nat):Nat:=bq (a.testBit 0) 1+bq (a.testBit 1) 1+bq (a.testBit 2) 1+bq (a.testBit 3) 1+bq (a.testBit 4) 1+bq (a.testBit 5) 1+bq (a.testBit 6) 1
def rev (a:Nat):Nat:=bq (a.testBit 0) 64+bq (a.testBit 1) 32+bq (a.testBit 2) 16+bq (a.testBit 3) 8+bq (a.testBit 4) 4+bq (a.testBit 5) 2+bq (a.testBit 6) 1
def rk (a:Nat):Nat:=pop a*128+(127-rev a)
def a0T (a b:Nat):Bool:=(R 7).all fun k=>!(a.testBit k)||b.testBit k
def a2t (a k:Nat):Nat:=a ^^^ (a &&& 2^k)
def acA:List Nat->Bool
 |a::b::l=>Nat.blt a b&&acA (b::l)
 |_=>true
theorem a8k:∀{l:List Nat} {a:Nat},acA (a::l)=true->∀b,b∈l->a<b
 |[],_,_,b,hb=>by cases hb
 |c::l,a,h,b,hb=>by
  simp only[acA,Bool.and_eq_true]at h;have h1:a<c:=by simpa[Nat.blt_eq]using h.1
  rcases List.mem_cons.1 hb with rfl|hb
  ·exact h1
  exact Nat.lt_trans h1 (a8k h.2 b hb)
theorem abW:∀{l:List Nat},acA l=true->l.Pairwise (·<·)
 |[],_=>.nil
 |[a],_=>.cons (fun b hb=>by cases hb) .nil
 |a::b::l,h=>.cons (a8k h) (abW (by simp only[acA,Bool.and_eq_true]at h;exact h.2))
theorem afd:((R 8).all fun n=>(R (2^n)).all fun a=>(a0h n).contains a)=true:=by kernel_rfl
theorem ahn:((R 8).all fun n=>(a0h n).all fun a=>Nat.blt a (2^n))=true:=by kernel_rfl
theorem afe:((R 8).all fun n=>acA ((a0h n).map rk))=true:=by kernel_rfl
theorem aff:((R 128).all fun a=>(R 128).all fun b=>a0f (dV (a:Int)) (dV (b:Int))==Nat.blt (rk a) (rk b))=true:=by kernel_rfl
theorem afg:((R 128).all fun a=>(R 7).all fun k=>Nat.ble (a2t a k) a&&((R 7).all fun j=>(a2t a k).testBit j==(a.testBit j&&!(Nat.beq j k))))=true:=by kernel_rfl
theorem afh:((R 128).all fun a=>(R 128).all fun b=>!(a0T a b)||(Nat.beq a b||Nat.blt (rk a) (rk b)))=true:=by kernel_rfl
theorem a7E {n a:Nat}(hn:n<8)(ha:a<2^n):a∈a0h n:=by simpa using a0W (a0W afd hn) ha
theorem a3w {n a:Nat}(hn:n<8)(ha:a∈a0h n):a<2^n:=by
 have:=List.all_eq_true.1 (a0W ahn hn) a ha;simpa[Nat.blt_eq]using this
theorem a8E {n:Nat}(hn:n<8):(a0h n).Pairwise fun a b=>rk a<rk b:=List.pairwise_map.1 (abW (a0W afe hn))
theorem aaM {a b:Nat}(ha:a<128)(hb:b<128):a0f (dV (a:Int)) (dV (b:Int))=decide (rk a<rk b):=by
 have h:a0f (dV (a:Int)) (dV (b:Int))=Nat.blt (rk a) (rk b):=eq_of_beq (a0W (a0W aff ha) hb);rw[h,Bool.eq_iff_iff,decide_eq_true_iff,Nat.blt_eq]
theorem a3N {a k:Nat}(ha:a<128)(hk:k<7):a2t a k<=a∧∀j,j<7->(a2t a k).testBit j=(a.testBit j&&!(decide (j=k))):=by
 have h:=a0W (a0W afg ha) hk;simp only[Bool.and_eq_true]at h;refine⟨Nat.le_of_ble_eq_true h.1,fun j hj=>?_⟩;have h2:(a2t a k).testBit j=(a.testBit j&&!(Nat.beq j k)):=eq_of_beq (a0W h.2 hj);rw[h2];by_cases e:j=k
 ·subst e;simp[Nat.beq_refl]
 have e2:Nat.beq j k=false:=by
  cases h3:Nat.beq j k
  ·rfl
  exact absurd (Nat.eq_of_beq_eq_true h3) e
 rw[e2,decide_eq_false e]
theorem aho {a b:Nat}(ha:a<128)(hb:b<128)(h:a0T a b=true):a=b∨rk a<rk b:=by
 have h2:=a0W (a0W afh ha) hb;rw[h]at h2;simp only[Bool.not_true,Bool.false_or,Bool.or_eq_true]at h2;rcases h2 with h2|h2
 ·exact .inl (Nat.eq_of_beq_eq_true h2)
 exact .inr (by simpa[Nat.blt_eq]using h2)
theorem a0c {a b:Nat}:a0T a b=true↔∀k,k<7->a.testBit k=true->b.testBit k=true:=by
 unfold a0T;rw[List.all_eq_true];constructor
 ·intro h k hk ha;have:=h k (List.mem_range.2 hk);rw[ha]at this;simpa using this
 intro h k hk;cases ha:a.testBit k
 ·rfl
 rw[h k (List.mem_range.1 hk) ha];rfl
theorem a7F {a b c:Nat}(h1:a0T a b=true)(h2:a0T b c=true):a0T a c=true:=
 a0c.2 fun k hk h=>a0c.1 h2 k hk (a0c.1 h1 k hk h)
theorem ahp {a b:Nat}(ha:a<128)(hb:b<128)(h:∀k,k<7->a.testBit k=b.testBit k):a=b:=by
 refine Nat.eq_of_testBit_eq fun k=>?_;by_cases hk:k<7
 ·exact h k hk
 have hp:128<=2^k:=Nat.pow_le_pow_right (n:=2) (i:=7) (by decide) (by omega);rw[Nat.testBit_lt_two_pow (by omega),Nat.testBit_lt_two_pow (by omega)]
theorem abX {a k:Nat}(ha:a<128)(hk:k<7):a0T (a2t a k) a=true:=a0c.2 fun j hj h=>by
 rw[(a3N ha hk).2 j hj,Bool.and_eq_true]at h;exact h.1
theorem ae6 {a k:Nat}(ha:a<128)(hk:k<7)(hb:a.testBit k=true):a2t a k<a:=by
 refine Nat.lt_of_le_of_ne (a3N ha hk).1 fun e=>?_;have:=(a3N ha hk).2 k hk;rw[e,hb]at this;simp at this
theorem a9B {φ:Nat->Bool}:∀{l:List Nat} {a b:Nat},l.Pairwise (fun a b=>rk a<rk b)->l.find? φ=some a->b∈l->φ b=true->a=b∨rk a<rk b
 |[],_,_,_,h,_,_=>by cases h
 |x::l,a,b,hp,h,hb,hf=>by
  cases hp with
  |cons h1 h2=>
  rw[List.find?_cons]at h;cases hx:φ x
  ·rw[hx]at h;rcases List.mem_cons.1 hb with rfl|hb
   ·rw[hx]at hf;cases hf
   exact a9B h2 h hb hf
  rw[hx]at h;cases h;rcases List.mem_cons.1 hb with rfl|hb
  ·exact .inl rfl
  exact .inr (h1 b hb)
def gSm (φ:Nat->Bool)(k:Nat)(y:List Int×Bool):List Int×Bool:=if φ k=true then (if y.2=true then (if a0f (dV k) y.1=true then (dV k,true)else y)else (dV k,true))else y
def acB (φ:Nat->Bool)(n:Nat):List Int×Bool:=match (a0h n).find? φ with
 |some a=>(dV a,true)
 |none=>([],false)
theorem a8F (φ:Nat->Bool){n:Nat}(hn:n<8):uo (gSm φ) (2^n) 0 ([],false)=acB φ n:=by
 have a3p:=a0A (n:=n) (by omega);have h:=Ru (g:=gSm φ) (m:=2^n) (k:=0) (s:=([],false)) (fun j y=>j<=128->(y=([],false)∧∀k,k<j->φ k=false)∨∃b,b<j∧φ b=true∧y=(dV b,true)∧∀k,k<j->φ k=true->rk b<=rk k)
  (fun _=>.inl ⟨rfl,fun k hk=>by omega⟩) (fun j y _ _ ih hj=>by
   unfold gSm;cases hf:φ j
   ·rw[if_neg (by simp)];rcases ih (by omega)with⟨e,h⟩|⟨b,h1,h2,h3,h4⟩
    ·exact .inl ⟨e,fun k hk=>by by_cases e:k=j;(· rw[e];exact hf);(· exact h k (by omega))⟩
    ·exact .inr ⟨b,by omega,h2,h3,fun k hk h=>by by_cases e:k=j;(· rw[e,hf]at h;cases h);(· exact h4 k (by omega) h)⟩
   ·rw[if_pos rfl];rcases ih (by omega)with⟨e,h⟩|⟨b,h1,h2,h3,h4⟩
    ·rw[e,if_neg (by simp)];exact .inr ⟨j,by omega,hf,rfl,fun k hk h5=>by by_cases e:k=j;(· rw[e];exact Nat.le_refl _);(· rw[h k (by omega)]at h5;cases h5)⟩
    ·rw[h3,if_pos rfl,aaM (by omega) (by omega)];by_cases hr:rk j<rk b
     ·rw[if_pos (decide_eq_true hr)];exact .inr ⟨j,by omega,hf,rfl,fun k hk h5=>by by_cases e:k=j;(· rw[e];exact Nat.le_refl _);(· have:=h4 k (by omega) h5;omega)⟩
     ·rw[if_neg (by simpa using hr)];exact .inr ⟨b,by omega,h2,rfl,fun k hk h5=>by by_cases e:k=j;(· rw[e];omega);(· exact h4 k (by omega) h5)⟩)
 rw[Nat.zero_add]at h;unfold acB;rcases h a3p with⟨e,h⟩|⟨b,h1,h2,h3,h4⟩
 ·rw[e,List.find?_eq_none.2 fun a ha=>by rw[h a (a3w hn ha)];simp]
 rw[h3];cases hq:(a0h n).find? φ with
 |none=>exact absurd h2 (by rw[List.find?_eq_none]at hq;exact hq b (a7E hn h1))
 |some a=>
  have ha:=List.mem_of_find?_eq_some hq;have:=h4 a (a3w hn ha) (List.find?_some hq);rcases a9B (a8E hn) hq (a7E hn h1) h2 with e|e
  ·rw[e]
  omega
def a0l (φ:Nat->Bool)(n a:Nat):Bool:=φ a&&(R n).all fun i=>!(a.testBit i)||!(φ (a2t a i))
def fMi (φ:Nat->Bool)(out:List Nat)(s:Nat):List Nat:=if out.any (fun m=>a0T m s)=true then out else if φ s=true then out++[s]else out
theorem a3B {φ:Nat->Bool}{n a:Nat}:a0l φ n a=true↔φ a=true∧∀i,i<n->a.testBit i=true->φ (a2t a i)=false:=by
 unfold a0l;rw[Bool.and_eq_true,List.all_eq_true];refine and_congr Iff.rfl ⟨fun h i hi hb=>?_,fun h i hi=>?_⟩
 ·have:=h i (List.mem_range.2 hi);rw[hb]at this;simpa using this
 cases hb:a.testBit i
 ·rfl
 rw[h i (List.mem_range.1 hi) hb];rfl
abbrev aaO (φ:Nat->Bool)(n:Nat):Prop:=∀a b,a<2^n->b<2^n->a0T a b=true->φ a=true->φ b=true
theorem ajV {φ:Nat->Bool}{n:Nat}(hn:n<8):∀(a:Nat),a<2^n->φ a=true->∃m,m<2^n∧a0l φ n m=true∧a0T m a=true:=by
 intro a
 induction a using Nat.strongRecOn with
 |ind a ih=>
  intro ha hf;have a3p:=a0A (n:=n) (by omega);by_cases h:∃i,i<n∧a.testBit i=true∧φ (a2t a i)=true
  ·obtain⟨i,hi,hb,hq⟩:=h;have hl:=ae6 (a:=a) (by omega) (by omega:i<7) hb;obtain⟨m,h1,h2,h3⟩:=ih _ hl (by omega) hq;exact⟨m,h1,h2,a7F h3 (abX (by omega) (by omega))⟩
  refine⟨a,ha,a3B.2 ⟨hf,fun i hi hb=>?_⟩,a0c.2 fun k _ h=>h⟩;cases hq:φ (a2t a i)
  ·rfl
  exact absurd ⟨i,hi,hb,hq⟩ h
theorem ae7 {φ:Nat->Bool}{n:Nat}(hn:n<8)(hm:aaO φ n){pre post:List Nat}{x:Nat}(hL:a0h n=pre++x::post):((pre.filter (a0l φ n)).any fun m=>a0T m x)=false->φ x=true->a0l φ n x=true:=by
 intro h1 h2;have a3p:=a0A (n:=n) (by omega);have hx:x<2^n:=a3w hn (by rw[hL];simp);have hp:=a8E hn;rw[hL,List.pairwise_append]at hp;refine a3B.2 ⟨h2,fun i hi hb=>?_⟩;cases hq:φ (a2t x i)
 ·rfl
 have hl:=ae6 (a:=x) (by omega) (by omega:i<7) hb;obtain⟨m,k1,k2,k3⟩:=ajV hn _ (by omega) hq;have k4:=a7F k3 (abX (a:=x) (by omega) (by omega:i<7));have k5:m≠x:=fun e=>by
  have:=a0c.1 k3 i (by omega) (by rw[e];exact hb);rw[(a3N (a:=x) (by omega) (by omega)).2 i (by omega)]at this;simp at this
 have k6:rk m<rk x:=(aho (by omega) (by omega) k4).resolve_left k5;have k7:m∈pre:=by
  have:=a7E hn k1;rw[hL,List.mem_append,List.mem_cons]at this;rcases this with h|h|h
  ·exact h
  ·exact absurd h k5
  have h3:=hp.2.1;cases h3 with
  |cons h3 _=>have:=h3 m h;omega
 have:((pre.filter (a0l φ n)).any fun m=>a0T m x)=true:=List.any_eq_true.2 ⟨m,List.mem_filter.2 ⟨k7,k2⟩,k4⟩;rw[h1]at this;cases this
theorem ae8 {φ:Nat->Bool}{n:Nat}(hn:n<8)(hm:aaO φ n){pre post:List Nat}{x:Nat}(hL:a0h n=pre++x::post):a0l φ n x=true->((pre.filter (a0l φ n)).any fun m=>a0T m x)=false:=by
 intro h1;have a3p:=a0A (n:=n) (by omega);have hx:x<2^n:=a3w hn (by rw[hL];simp);have hp:=a8E hn;rw[hL,List.pairwise_append]at hp;cases hq:(pre.filter (a0l φ n)).any fun m=>a0T m x
 ·rfl
 obtain⟨m,Ij,hm2⟩:=List.any_eq_true.1 hq;obtain⟨hm3,hm4⟩:=List.mem_filter.1 Ij;have hml:m<2^n:=a3w hn (by rw[hL];simp[hm3]);have hr:rk m<rk x:=hp.2.2 m hm3 x (by simp);have hi:∃i,i<7∧x.testBit i=true∧m.testBit i=false:=by
  refine Classical.byContradiction fun hno=>?_;have:m=x:=ahp (by omega) (by omega) fun k hk=>by
   cases h2:m.testBit k
   ·cases h3:x.testBit k
    ·rfl
    exact absurd ⟨k,hk,h3,h2⟩ hno
   rw[a0c.1 hm2 k hk h2]
  rw[this]at hr;omega
 obtain⟨i,hi,hb,vX⟩:=hi;have vT:=ae4 hx hb;have h3:=(a3B.1 h1).2 i vT hb;have h4:a0T m (a2t x i)=true:=a0c.2 fun k hk h=>by
  rw[(a3N (a:=x) (by omega) hi).2 k hk,a0c.1 hm2 k hk h];by_cases e:k=i
  ·subst e;rw[vX]at h;cases h
  rw[decide_eq_false e];rfl
 have h5:=hm m (a2t x i) hml (Nat.lt_of_le_of_lt (a3N (a:=x) (by omega) hi).1 hx) h4 (a3B.1 hm4).1;rw[h3]at h5;cases h5
theorem a4R {φ:Nat->Bool}{n:Nat}(hn:n<8)(hm:aaO φ n):∀(post pre:List Nat),a0h n=pre++post->post.foldl (fMi φ) (pre.filter (a0l φ n))=(a0h n).filter (a0l φ n)
 |[],pre,h=>by rw[h];simp
 |x::post,pre,h=>by
  rw[List.foldl_cons];have ih:=a4R hn hm post (pre++[x]) (by rw[h];simp);have e:fMi φ (pre.filter (a0l φ n)) x=(pre++[x]).filter (a0l φ n):=by
   have hs:[x].filter (a0l φ n)=if a0l φ n x=true then [x]else []:=by rw[List.filter_cons];rfl
   rw[List.filter_append,hs];unfold fMi;cases ha:(pre.filter (a0l φ n)).any fun m=>a0T m x
   ·rw[if_neg (by simp)];cases hx:φ x
    ·have:a0l φ n x=false:=by unfold a0l;rw[hx];rfl
     rw[if_neg (by simp),this];simp
    rw[if_pos rfl,ae7 hn hm h ha hx];simp
   rw[if_pos rfl];cases hx:a0l φ n x
   ·simp
   rw[ae8 hn hm h hx]at ha;cases ha
  rw[e,ih]
def aaV (x:List Int)(out:List (List Int)):List (List Int):=out.takeWhile (fun y=>a0f y x)++x::out.dropWhile (fun y=>a0f y x)
def gMr (ψ:Nat->Bool)(k:Nat)(out:List (List Int)):List (List Int):=if ψ k=true then aaV (dV k) out else out
theorem a8l {α:Type}{p:α->Bool}:∀{l r:List α},(∀a,a∈l->p a=true)->(∀a,a∈r->p a=false)->(l++r).takeWhile p=l∧(l++r).dropWhile p=r
 |[],[],_,_=>⟨rfl,rfl⟩
 |[],b::r,_,h2=>by
  have:=h2 b (.head _);constructor
  ·rw[List.nil_append,List.takeWhile_cons,this];rfl
  rw[List.nil_append,List.dropWhile_cons,this];rfl
 |a::l,r,h1,h2=>by
  have h:=a8l (l:=l) (r:=r) (fun a ha=>h1 a (.tail _ ha)) h2;have ha:=h1 a (.head _);constructor
  ·rw[List.cons_append,List.takeWhile_cons,ha,if_pos rfl,h.1]
  rw[List.cons_append,List.dropWhile_cons,ha,if_pos rfl,h.2]
theorem aaW (ψ:Nat->Bool){n:Nat}(hn:n<8):uo (gMr ψ) (2^n) 0 []=((a0h n).filter ψ).map fun a:Nat=>dV (a:Int):=by
 have a3p:=a0A (n:=n) (by omega);have h:=Ru (g:=gMr ψ) (m:=2^n) (k:=0) (s:=[]) (fun j y=>j<=2^n->y=((a0h n).filter fun a=>decide (a<j)&&ψ a).map fun a:Nat=>dV (a:Int))
  (fun _=>by rw[List.filter_eq_nil_iff.2 fun a _=>by simp];rfl) (fun j y _ _ ih hj=>by
   have ih:=ih (by omega);unfold gMr;cases hf:ψ j
   ·rw[if_neg (by simp),ih];congr 1;refine List.filter_congr fun a _=>?_;by_cases e:a=j
    ·subst e;rw[hf];simp
    ·have:decide (a<j)=decide (a<j+1):=by rw[Bool.eq_iff_iff];simp;omega
     rw[this]
   ·rw[if_pos rfl,ih];obtain⟨pre,post,hL⟩:=List.append_of_mem (a7E hn (by omega:j<2^n));have hp:=a8E hn;rw[hL,List.pairwise_append]at hp;obtain⟨_,hp1,hp2⟩:=hp;cases hp1 with
    |cons hp1 hp3=>
    have n1:∀a,a∈pre->a≠j∧rk a<rk j:=fun a ha=>⟨fun e=>by have:=hp2 a ha j (by simp);rw[e]at this;omega,hp2 a ha j (by simp)⟩;have n2:∀a,a∈post->a≠j∧rk j<rk a:=fun a ha=>⟨fun e=>by have:=hp1 a ha;rw[e]at this;omega,hp1 a ha⟩;have l1:∀a,a∈pre->a<128:=fun a ha=>by have:=a3w hn (a:=a) (by rw[hL];simp[ha]);omega
    have l2:∀a,a∈post->a<128:=fun a ha=>by have:=a3w hn (a:=a) (by rw[hL];simp[ha]);omega
    have f1:∀l:List Nat,(∀a,a∈l->a≠j)->(l.filter fun a=>decide (a<j+1)&&ψ a)=l.filter fun a=>decide (a<j)&&ψ a:=fun l hl=>List.filter_congr fun a ha=>by
     have:decide (a<j+1)=decide (a<j):=by rw[Bool.eq_iff_iff];simp;have:=hl a ha;omega
     rw[this]
    rw[hL,List.filter_append,List.filter_append,List.filter_cons,List.filter_cons,if_neg (by simp),if_pos (by simp[hf]),f1 pre fun a ha=>(n1 a ha).1,f1 post fun a ha=>(n2 a ha).1,List.map_append,List.map_append,List.map_cons];unfold aaV;have t:=a8l (p:=fun y=>a0f y (dV (j:Int))) (l:=(pre.filter fun a=>decide (a<j)&&ψ a).map fun a:Nat=>dV (a:Int)) (r:=(post.filter fun a=>decide (a<j)&&ψ a).map fun a:Nat=>dV (a:Int))
     (fun y hy=>by
      obtain⟨a,ha,rfl⟩:=List.mem_map.1 hy;have ha:=(List.mem_filter.1 ha).1;show a0f (dV (a:Int)) (dV (j:Int))=true;rw[aaM (l1 a ha) (by omega)];exact decide_eq_true (n1 a ha).2)
     (fun y hy=>by
      obtain⟨a,ha,rfl⟩:=List.mem_map.1 hy;have ha:=(List.mem_filter.1 ha).1;show a0f (dV (a:Int)) (dV (j:Int))=false;rw[aaM (l2 a ha) (by omega)];exact decide_eq_false (by have:=(n2 a ha).2;omega))
    rw[t.1,t.2])
 rw[Nat.zero_add]at h;rw[h (Nat.le_refl _)];congr 1;refine List.filter_congr fun a ha=>?_;rw[decide_eq_true (a3w hn ha)];rfl
open Go Tw Pv fZ
theorem a4w {σ:Type}{g h:Nat->σ->σ}:∀(m k:Nat) (s:σ),(∀j s,k<=j->j<k+m->g j s=h j s)->uo g m k s=uo h m k s
 | 0,_,_,_=>rfl
 |m+1,k,s,hs=>by
  rw[uo,uo,hs k s (Nat.le_refl _) (by omega)];exact a4w m (k+1) _ fun j s h1 h2=>hs j s (by omega) (by omega)
theorem a9E {m:List (List Bool)}{g:List Bool}{up:Bool}{φ:Nat->Bool}{n:Nat}(hm:m.length=n)(hn:n<8)(h:∀a:Nat,a<2^n->a1I m g (a:Int) up=φ a):a0k m g up=acB φ n:=by
 unfold a0k;rw[hm,<-a8F φ hn];refine a4w _ _ _ fun j s _ hj=>?_;unfold gSl gSm;rw[h j (by omega)]
def ahq (b:Int)(i:Nat):Int:=IntKind.i64.wrap (((BitVec.ofInt 64 b &&& ~~~BitVec.ofInt 64 (a4V .i64 1 (IntKind.u64.wrap i))).toNat:Nat):Int)
theorem ahr:((R 128).all fun a=>(R 7).all fun k=>decide (ahq (a:Int) k=((a2t a k:Nat):Int)))=true:=by kernel_rfl
theorem ajW {a k:Nat}(ha:a<128)(hk:k<7):ahq (a:Int) k=((a2t a k:Nat):Int):=by simpa using a0W (a0W ahr ha) hk
def gIm (m:List (List Bool))(g:List Bool)(up:Bool)(b:Int)(i:Nat)(y:Bool):Bool:=if y=true then (if (a4U .i64 (a1A .i64 b (IntKind.u64.wrap i)) 2==0)=true then true else !(a1I m g (ahq b i) up))else false
def a9H (m:List (List Bool))(g:List Bool)(up:Bool)(b:Int):Bool:=uo (gIm m g up b) m.length 0 (a1I m g b up)
def gRm (m:List (List Bool))(g:List Bool)(up:Bool)(k:Nat)(out:List (List Int)):List (List Int):=if a9H m g up k=true then aaV (dV k) out else out
def a3x (m:List (List Bool))(g:List Bool)(up:Bool):List (List Int):=uo (gRm m g up) (2^m.length) 0 []
theorem afi {m:List (List Bool)}{g:List Bool}{up:Bool}{φ:Nat->Bool}{n:Nat}(hm:m.length=n)(hn:n<8)(h:∀a:Nat,a<2^n->a1I m g (a:Int) up=φ a){a:Nat}(ha:a<2^n):a9H m g up (a:Int)=a0l φ n a:=by
 have a3p:=a0A (n:=n) (by omega);unfold a9H;rw[hm,h a ha];have q:=Ru (g:=gIm m g up (a:Int)) (m:=n) (k:=0) (s:=φ a) (fun j y=>y=(φ a&&(R j).all fun i=>!(a.testBit i)||!(φ (a2t a i)))) (by simp[R]) (fun j y _ hj ih=>by
  rw[ih];have hj:j<n:=by omega
  show gIm m g up (a:Int) j _=_;unfold gIm R;have hs:([j].all fun i=>!(a.testBit i)||!(φ (a2t a i)))=(!(a.testBit j)||!(φ (a2t a j))):=by simp only[List.all_cons,List.all_nil,Bool.and_true]
  rw[List.range_succ,List.all_append,hs,ahj (by omega) (by omega),ajW (by omega) (by omega),h (a2t a j) (Nat.lt_of_le_of_lt (a3N (a:=a) (by omega) (by omega)).1 ha)];cases φ a
  ·rw[if_neg (by simp)];rfl
  rw[Bool.true_and,Bool.true_and];cases (List.range j).all fun i=>!(a.testBit i)||!(φ (a2t a i))
  ·rw[if_neg (by simp)];rfl
  rw[if_pos rfl];cases a.testBit j
  ·simp
  simp)
 rw[Nat.zero_add]at q;exact q
theorem ae9 {m:List (List Bool)}{g:List Bool}{up:Bool}{φ:Nat->Bool}{n:Nat}(hm:m.length=n)(hn:n<8)(h:∀a:Nat,a<2^n->a1I m g (a:Int) up=φ a):a3x m g up=((a0h n).filter (a0l φ n)).map fun a:Nat=>dV (a:Int):=by
 unfold a3x;rw[hm,<-aaW (a0l φ n) hn];refine a4w _ _ _ fun j s _ hj=>?_;unfold gRm gMr;rw[afi hm hn h (by omega)]
def stp {σ ρ:Type}(g:Nat->σ->σ⊕ρ):List Nat->σ->σ⊕ρ
 |[],s=>.inl s
 |a::l,s=>match g a s with
  |.inl s=>stp g l s
  |.inr r=>.inr r
theorem a8H {σ ρ:Type}{g:Nat->σ->σ⊕ρ}:∀{l r:List Nat} {s:σ},stp g (l++r) s=match stp g l s with
  |.inl s=>stp g r s
  |.inr x=>.inr x
 |[],_,_=>rfl
 |a::l,r,s=>by
  rw[List.cons_append,stp,stp];cases g a s with
  |inl s=>exact a8H
  |inr x=>rfl
def VB (φ:Nat->Bool)(a:Nat)(_:Unit):Unit⊕Nat:=if φ a=true then .inr a else .inl ()
theorem abY {φ:Nat->Bool}:∀{l:List Nat},stp (VB φ) l ()=match l.find? φ with
  |some a=>.inr a
  |none=>.inl ()
 |[]=>rfl
 |a::l=>by
  rw[stp,List.find?_cons];unfold VB;cases φ a
  ·rw[if_neg (by simp)];exact abY
  rw[if_pos rfl]
theorem a7G {g:Nat->List Nat->List Nat}:∀{l:List Nat} {s:List Nat},stp (ρ:=Empty) (fun a s=>.inl (g a s)) l s=.inl (l.foldl (fun s a=>g a s) s)
 |[],_=>rfl
 |a::l,s=>by rw[stp,List.foldl_cons];exact a7G
section
variable {c:Ca}(p:CaP c)(e:NoE c)(hn:c.f.length<=7)
def phX (c:Ca)(a:Nat):Bool:=uw (a13 c.f c.g) (a:Int)
include p e hn
theorem aea:aaO (phX c) c.f.length:=fun a b ha hb hi h=>by
 have a3p:=a0A hn;unfold phX at h ⊢;exact (a4f p e hn hb).2 (((a4f p e hn ha).1 h).mono fun k hk hx=>a0c.1 hi k (by omega) hx)
theorem afj {a:Nat}(ha:a<2^c.f.length):a1I (pF c.f) (wC c.g) (a:Int) false=phX c a:=by
 unfold phX;rw[Bool.eq_iff_iff,a4f p e hn ha];exact ae5 p e hn ha
end
open Go Tw Pv fZ
abbrev HI (k ex:Bool)(l:List Int)(s:Int):List (PB bM):=[.list k ex 141 l,.cells [.int .u64 s]]
def a7Q (m s:Int):Bool:=KY m s==0
abbrev wIS (k ex:Bool)(l:List Int)(s:Int)(i:Int)(x:List (Nat×PE bM)):aV bM:=⟨[(0,.val (.own 0)),(1,.val (.fn 135 [] [.ptr 1 0 1])),(7,xi l.length),(8,xi i)]++x,[],HI k ex l s⟩
def zIS (k ex:Bool)(l:List Int)(s:Int):Unit⊕(Nat×Int×Unit)->Ex×aV bM
 |.inl _=>(.exit 0,wIS k ex l s l.length [(9,xl false)])
 |.inr r=>(.ret,⟨[(4,xi r.1)],[],HI k ex l s⟩)
section
variable {n:Nat}(hO:Ok n a4b)
include hO
theorem amC (s m:Int):qC X0 Tryz.prog (ApN (n+1)) (.fn 135 [] [.ptr 0 0 1]) [.int .u64 m] [.cells [.int .u64 s]] (.bool (a7Q m s)) [.cells [.int .u64 s]]:=
 kN (r:=tA) (s:=a7Q m s) hX hO (first:=[]) (by kernel_rfl) .sr
theorem amD (k ex:Bool)(l:List Int)(s:Int)(hl:l.length<=aO):qC X0 Tryz.prog (ApN (n+2)) (.fn 180 [] []) [.own 0,.fn 135 [] [.ptr 1 0 1]] (HI k ex l s) (iA.put (a0w (fun m=>a7Q m s) l)) (HI k ex l s):=by
 have lp:LpB (n+1) 180 0 2 (wIS k ex l s 0 []) (zIS k ex l s (a0C (a0d (fun m=>a7Q m s)) l 0 ())).1 (zIS k ex l s (a0C (a0d (fun m=>a7Q m s)) l 0 ())).2:=
  a7R (st:=fun i _=>wIS k ex l s i []) (0:Int) (fun _ _=>True) (by kernel_rfl) hl LLm trivial (fun j t n hk _ ih=>round hX ok0 (by kernel_rfl) (.b (a2m hk) (.o (dB hk) (.fr [1] (amC hO s (l.getD j 0)) (.ls (.ou nofun) (.nx (ih _ trivial))))))) (fun s _=>round hX ok0 (by kernel_rfl) (.b (a5L l.length) (.ou nofun)))
 exact kN hX ok0 (first:=[]) (cap:=[]) (by kernel_rfl) (.szh (fun h=>.w (xC lp () h) .sr) (fun h=>.w (Fa lp (0,0,()) h) .sr))
theorem aht (k ex:Bool)(l:List Int)(s:Int)(hl:l.length<=aO):qC X0 Tryz.prog (ApN (n+3)) (.fn 136 [] []) [.own 0,.fn 135 [] [.ptr 1 0 1]] (HI k ex l s) (tA.put (xu (fun m=>a7Q m s) l)) (HI k ex l s):=
 kN hX ok0 (first:=[]) (cap:=[]) (by kernel_rfl) (.k (amD hO k ex l s hl) .sr)
end
open Go Tw Pv fZ
def gLp {σ ρ:Type}(g:Nat->σ->σ⊕ρ)(n k a:Nat)(x:Nat×σ):(Nat×σ)⊕((Nat×σ)⊕ρ):=if x.1+k<n then (match stp g (chs n k (a ||| 2^x.1) (x.1+1)) x.2 with
  |.inl y=>.inl (x.1+1,y)
  |.inr r=>.inr (.inr r))else .inr (.inl x)
theorem aaX {σ ρ:Type}{g:Nat->σ->σ⊕ρ}{n k a:Nat}:∀(c i:Nat) (y:σ),n-k-i=c->itF (gLp g n k a) (c+1) (i,y)=some (match stp g ((List.range' i c).flatMap fun j=>chs n k (a ||| 2^j) (j+1)) y with
  |.inl y=>.inl (i+c,y)
  |.inr r=>.inr r)
 | 0,i,y,h=>by
  rw[itF];unfold gLp;rw[if_neg (show ¬(i+k<n)by omega)];rfl
 |c+1,i,y,h=>by
  rw[itF,List.range'_succ,List.flatMap_cons,a8H];unfold gLp;rw[if_pos (show i+k<n by omega)];cases hz:stp g (chs n k (a ||| 2^i) (i+1)) y with
  |inl y1=>
   have ih:=aaX (g:=g) (n:=n) (k:=k) (a:=a) c (i+1) y1 (by omega);rw[show i+1+c=i+(c+1)by omega]at ih;exact ih
  |inr r=>rfl
def gTp {σ ρ:Type}(g:Nat->σ->σ⊕ρ)(n:Nat)(x:Nat×σ):(Nat×σ)⊕((Nat×σ)⊕(Nat×ρ)):=if x.1<n+1 then (match stp g (chs n x.1 0 0) x.2 with
  |.inl y=>.inl (x.1+1,y)
  |.inr r=>.inr (.inr (x.1,r)))else .inr (.inl x)
def sT {σ ρ:Type}:(Nat×σ)⊕(Nat×ρ)->σ⊕ρ
 |.inl x=>.inl x.2
 |.inr x=>.inr x.2
theorem aaY {σ ρ:Type}{g:Nat->σ->σ⊕ρ}{n:Nat}:∀(c i:Nat) (y:σ),n+1-i=c->i<=n+1->∃z,itF (gTp g n) (c+1) (i,y)=some z∧sT z=stp g ((List.range' i c).flatMap fun k=>chs n k 0 0) y∧(∀x,z=.inl x->x.1=n+1)
 | 0,i,y,h,h2=>by
  refine⟨.inl (i,y),?_,rfl,fun x hx=>by cases hx;show i=_;omega⟩;rw[itF];unfold gTp;rw[if_neg (show ¬(i<n+1)by omega)]
 |c+1,i,y,h,h2=>by
  rw[itF,List.range'_succ,List.flatMap_cons,a8H];unfold gTp;rw[if_pos (show i<n+1 by omega)];cases hz:stp g (chs n i 0 0) y with
  |inl y1=>exact aaY (g:=g) (n:=n) c (i+1) y1 (by omega) (by omega)
  |inr r=>exact⟨.inr (i,r),rfl,rfl,fun x hx=>by cases hx⟩
theorem abZ (n:Nat):a0h n=(List.range' 0 (n+1)).flatMap fun k=>chs n k 0 0:=by unfold a0h R;rw[List.range_eq_range']
theorem aaZ {n:Nat}:∀(k a i:Nat),a<2^n->∀b,b∈chs n k a i->b<2^n
 | 0,a,i,ha,b,hb=>by
  simp only[chs,List.mem_singleton]at hb;rw[hb];exact ha
 |k+1,a,i,ha,b,hb=>by
  simp only[chs,List.mem_flatMap,List.mem_range'_1]at hb;obtain⟨j,⟨h1,h2⟩,h3⟩:=hb;exact aaZ k _ _ (Nat.or_lt_two_pow ha (Nat.pow_lt_pow_right (by decide) (by omega))) b h3
theorem jle {j k n:Nat}(hn:n<8)(hk:k<8):decide ((j:Int)<=IntKind.i64.wrap ((n:Int)-((k+1:Nat):Int)))=decide (j+k<n):=by
 have:IntKind.i64.wrap ((n:Int)-((k+1:Nat):Int))=(n:Int)-((k+1:Nat):Int):=wrap_small (by omega) (by omega);rw[this,Bool.eq_iff_iff,decide_eq_true_iff,decide_eq_true_iff];omega
abbrev fCh (sb:Nat):PV bM:=.fn 179 [] [.ptr 9 0 1,.ptr sb 0 1,.ptr 10 0 1]
abbrev a8I:List (Nat×PE bM):=[(2,.val (.ptr 2 0 1)),(3,.val (.ptr 3 0 1)),(4,.val (.ptr 4 0 1)),(5,.val (.ptr 5 0 1)),(8,.val (.fn 178 [] [.ptr 6 0 1]))]
noncomputable abbrev LRS (rd:Bool)(gG:Option Code):PB bM:=.loop rd 98 (ntP Tryz.prog 98) a8I [9] (a0b Tryz.prog 98) (a0X Tryz.prog 98) gG
noncomputable abbrev HqS (s o:List Int)(f:List Fc)(g:Dg)(m:List Pc)(q:Nat)(x:PV bM):List (PB bM):=HT0 s o f g m++[.cells [.fn q [] []],.cells [.ptr 1 0 9],.cells [x],.cells [.int .i64 0],.cells [.ptr 1 0 9]]
noncomputable abbrev A0S (s o:List Int)(f:List Fc)(g:Dg)(m:List Pc)(q:Nat)(_:Unit):List (PB bM):=HqS s o f g m q (.nil .slc)++[.mark,LRS true none]
noncomputable abbrev NMS (s o:List Int)(f:List Fc)(g:Dg)(m:List Pc)(q:Nat)(y:Unit):List (PB bM):=A0S s o f g m q y++[.cells [.jk 8],.cells [fCh 6]]
noncomputable abbrev NES (s o:List Int)(f:List Fc)(g:Dg)(m:List Pc)(q:Nat)(y:Unit):List (PB bM):=NMS s o f g m q y
noncomputable abbrev NDS (s o:List Int)(f:List Fc)(g:Dg)(m:List Pc)(q:Nat)(r:Nat):List (PB bM):=HqS s o f g m q (lI (TL r))++[.mark,LRS false (mP .ret),.cells [.jk 8],.cells [fCh 6]]
noncomputable def oMS (s o:List Int)(f:List Fc)(g:Dg)(m:List Pc)(q:Nat):Unit⊕Nat->List (PB bM)
 |.inl y=>NES s o f g m q y
 |.inr r=>NDS s o f g m q r
def oB {σ ρ:Type}:σ⊕ρ->Bool
 |.inl _=>true
 |.inr _=>false
noncomputable abbrev ajY (s o:List Int)(f:List Fc)(g:Dg)(m:List Pc)(q:Nat)(a k:Nat)(j:Int)(x:Unit)(y:List (Nat×PE bM)):aV bM:=⟨[(0,.val (.int .u64 (a:Int))),(2,.val (.int .i64 (k:Int))),(4,.val (.ptr 6 0 1)),(5,.val (.ptr 10 0 1)),(10,xi j)]++y,[],NES s o f g m q x⟩
noncomputable abbrev w9S (s o:List Int)(f:List Fc)(g:Dg)(m:List Pc)(q:Nat)(a k:Nat)(x:Nat×Unit)(y:List (Nat×PE bM)):aV bM:=ajY s o f g m q a k x.1 x.2 y
noncomputable def o9S (s o:List Int)(f:List Fc)(g:Dg)(m:List Pc)(q:Nat)(a k:Nat):(Nat×Unit)⊕Nat->Ex×aV bM
 |.inl x=>(.exit 0,w9S s o f g m q a k x [(25,xl false)])
 |.inr r=>(.ret,⟨[(9,xl false)],[],NDS s o f g m q r⟩)
noncomputable abbrev ak0 (s o:List Int)(f:List Fc)(g:Dg)(m:List Pc)(q:Nat)(j:Int)(x:Unit)(y:List (Nat×PE bM)):aV bM:=⟨[(3,.val (.ptr 10 0 1)),(11,xi (IntKind.i64.wrap (f.length+1))),(12,xi j)]++y,[],NES s o f g m q x⟩
noncomputable abbrev w8S (s o:List Int)(f:List Fc)(g:Dg)(m:List Pc)(q:Nat)(x:Nat×Unit)(y:List (Nat×PE bM)):aV bM:=ak0 s o f g m q x.1 x.2 y
noncomputable def o8S (s o:List Int)(f:List Fc)(g:Dg)(m:List Pc)(q:Nat):(Nat×Unit)⊕(Nat×Nat)->Ex×aV bM
 |.inl x=>(.exit 0,w8S s o f g m q x [(13,xl false)])
 |.inr x=>(.exit 0,⟨[(3,.val (.ptr 10 0 1)),(11,xi (IntKind.i64.wrap (f.length+1))),(12,xi x.1),(18,.val (.lit true))],[],NDS s o f g m q x.2⟩)
section
variable {N:Nat}{s o:List Int}{f:List Fc}{g:Dg}{m:List Pc}{q:Nat}{φ:Nat->Bool}
theorem sLi {n:Nat}(hO:Ok n a4b)(a:Int):qC X0 Tryz.prog (ApN n) (.fn 116 [] []) [.int .u64 a] [] (lI (TL a)) []:=
 Con.af4 hX (first:=[]) (cap:=[]) (hO 116 [.int .u64 a] (qw.put (TL a)) [] [] (by kernel_rfl) (fun p h=>by cases h)) rfl rfl rfl rfl
theorem yS0 (hq:∀n,N<=n->∀a:Nat,a<128->qC X0 Tryz.prog (ApN (n+3)) (.fn q [] []) [.ptr 1 0 9,.int .u64 (a:Int)] (Hq s o f g m) (.bool (φ a)) (Hq s o f g m)){n a:Nat}(hn:N<=n)(ha:a<128)(h:φ a=false):qC X0 Tryz.prog (ApN (n+4)) (.jk 8) [.int .u64 (a:Int)] (NMS s o f g m q ()) (.bool true) (NMS s o f g m q ()):=by
 have q1:iq X0 Tryz.prog T (ApN (n+3)) LL 98 true (ntP Tryz.prog 98) 11 (a0b Tryz.prog 98) ⟨a0u a8I [9] [.int .u64 (a:Int)],[],NMS s o f g m q ()⟩ .norm ⟨[(2,.val (.ptr 2 0 1)),(3,.val (.ptr 3 0 1)),(4,.val (.ptr 4 0 1)),(5,.val (.ptr 5 0 1)),(6,.val (.int .u64 (a:Int)))],[],NMS s o f g m q ()⟩:=a0B hX ok0 (by kernel_rfl) .xx;have q2:iq X0 Tryz.prog T (ApN (n+3)) LL 98 true (ntP Tryz.prog 98) 11 (a0X Tryz.prog 98) ⟨[(2,.val (.ptr 2 0 1)),(3,.val (.ptr 3 0 1)),(4,.val (.ptr 4 0 1)),(5,.val (.ptr 5 0 1)),(6,.val (.int .u64 (a:Int)))],[],HqS s o f g m q (.nil .slc)++[.mark,LRS false none,.cells [.jk 8],.cells [fCh 6]]⟩ .norm ⟨[(4,.val (.ptr 4 0 1)),(5,.val (.ptr 5 0 1)),(6,.val (.int .u64 (a:Int))),(14,xl false)],[],HqS s o f g m q (.nil .slc)++[.mark,LRS false none,.cells [.jk 8],.cells [fCh 6]]⟩:=a0B hX ok0 (by kernel_rfl) (.frR (H2:=HT0 s o f g m) [0,1] [0,1] (hq n hn a ha) (.b h .xx));exact a3y hX (l:=8) rfl rfl (by kernel_rfl) q1 rfl q2 rfl
theorem yS1 (hO:∀n,N<=n->Ok n a4b)(hq:∀n,N<=n->∀a:Nat,a<128->qC X0 Tryz.prog (ApN (n+3)) (.fn q [] []) [.ptr 1 0 9,.int .u64 (a:Int)] (Hq s o f g m) (.bool (φ a)) (Hq s o f g m)){n a:Nat}(hn:N<=n)(ha:a<128)(h:φ a=true):qC X0 Tryz.prog (ApN (n+4)) (.jk 8) [.int .u64 (a:Int)] (NMS s o f g m q ()) (.bool false) (NDS s o f g m q a):=by
 have q1:iq X0 Tryz.prog T (ApN (n+3)) LL 98 true (ntP Tryz.prog 98) 11 (a0b Tryz.prog 98) ⟨a0u a8I [9] [.int .u64 (a:Int)],[],NMS s o f g m q ()⟩ .norm ⟨[(2,.val (.ptr 2 0 1)),(3,.val (.ptr 3 0 1)),(4,.val (.ptr 4 0 1)),(5,.val (.ptr 5 0 1)),(6,.val (.int .u64 (a:Int)))],[],NMS s o f g m q ()⟩:=a0B hX ok0 (by kernel_rfl) .xx;have q2:iq X0 Tryz.prog T (ApN (n+3)) LL 98 true (ntP Tryz.prog 98) 11 (a0X Tryz.prog 98) ⟨[(2,.val (.ptr 2 0 1)),(3,.val (.ptr 3 0 1)),(4,.val (.ptr 4 0 1)),(5,.val (.ptr 5 0 1)),(6,.val (.int .u64 (a:Int)))],[],HqS s o f g m q (.nil .slc)++[.mark,LRS false none,.cells [.jk 8],.cells [fCh 6]]⟩ .ret ⟨[(4,.val (.ptr 4 0 1)),(5,.val (.ptr 5 0 1))],[],HqS s o f g m q (lI (TL a))++[.mark,LRS false none,.cells [.jk 8],.cells [fCh 6]]⟩:=a0B hX ok0 (by kernel_rfl) (.frR (H2:=HT0 s o f g m) [0,1] [0,1] (hq n hn a ha) (.b h (.fr [] (sLi (hO (n+3) (by omega)) a) .xx)));exact a3y hX (l:=8) rfl rfl (by kernel_rfl) q1 rfl q2 rfl
theorem yS (hO:∀n,N<=n->Ok n a4b)(hq:∀n,N<=n->∀a:Nat,a<128->qC X0 Tryz.prog (ApN (n+3)) (.fn q [] []) [.ptr 1 0 9,.int .u64 (a:Int)] (Hq s o f g m) (.bool (φ a)) (Hq s o f g m)){n a:Nat}(hn:N<=n)(ha:a<128)(y:Unit):qC X0 Tryz.prog (ApN (n+4)) (.jk 8) [.int .u64 (a:Int)] (NMS s o f g m q y) (.bool (oB (VB φ a y))) (oMS s o f g m q (VB φ a y)):=by
 unfold VB;cases h:φ a
 ·exact yS0 hq hn ha h
 exact yS1 hO hq hn ha h
theorem l9S {n k a i:Nat}(hf:f.length<8)(hk:k<8)(ha:a<2^f.length)(ih:∀(j:Nat) (y:Unit),j+k<f.length->True->qC X0 Tryz.prog (ApN n) (fCh 6) [.int .u64 ((a ||| 2^j:Nat):Int),.int .i64 ((j+1:Nat):Int),.int .i64 (k:Int)] (NMS s o f g m q y) (.bool (oB (stp (VB φ) (chs f.length k (a ||| 2^j) (j+1)) y))) (oMS s o f g m q (stp (VB φ) (chs f.length k (a ||| 2^j) (j+1)) y)))(y:Unit)(hy:True)
  {z:(Nat×Unit)⊕Nat} (hz:itF (gLp (VB φ) f.length k a) (f.length-k-i+1) (i,y)=some z):LpB n 179 0 11 (w9S s o f g m q a (k+1) (i,y) []) (o9S s o f g m q a (k+1) z).1 (o9S s o f g m q a (k+1) z).2:=by
 refine a3K (X:=X0) (P:=Tryz.prog) (T:=T) (st:=fun x=>w9S s o f g m q a (k+1) x []) (g:=gLp (VB φ) f.length k a) (s:=(i,y)) (out:=o9S s o f g m q a (k+1)) (fun x=>True) hz (by kernel_rfl) (show _<=2^24 by omega) hy ?_ ?_
 ·rintro⟨j,y⟩ ⟨j1,y1⟩ hy e;trivial
 ·rintro⟨j,y⟩ c r hy ih2;have hy:True:=hy;have ht:=jle (j:=j) (k:=k) (n:=f.length) hf hk;by_cases hj:j+k<f.length
  ·have h7:j<7:=(by omega);have a3p:=a0A (n:=f.length) (by omega);have t1:decide ((j:Int)<=IntKind.i64.wrap ((f.length:Int)-((k+1:Nat):Int)))=true:=by rw[ht];exact decide_eq_true hj
   have h0:(0:Int)<=(j:Int):=(by omega);have e1:IntKind.u64.wrap (((BitVec.ofInt 64 (a:Int) ||| BitVec.ofInt 64 (a4V .u64 1 (j:Int))).toNat:Nat):Int)=((a ||| 2^j:Nat):Int):=(ae0 (by omega) h7).1;have e2:IntKind.i64.wrap ((j:Int)+1)=((j+1:Nat):Int):=by rw[wrap_small (by omega) (by omega)];omega
   have e3:IntKind.i64.wrap (((k+1:Nat):Int)-1)=(k:Int):=by rw[wrap_small (by omega) (by omega)];omega
   have h3:=ih j y hj hy;have hg:gLp (VB φ) f.length k a (j,y)=match stp (VB φ) (chs f.length k (a ||| 2^j) (j+1)) y with
    |.inl y=>.inl (j+1,y)
    |.inr r=>.inr (.inr r):=by
    unfold gLp;rw[if_pos (show (j,y).1+k<f.length from hj)];dsimp only;cases stp (VB φ) (chs f.length k (a ||| 2^j) (j+1)) y<;>rfl
   generalize stp (VB φ) (chs f.length k (a ||| 2^j) (j+1)) y=Z at h3 hg;have h4:qC X0 Tryz.prog (ApN n) (fCh 6) [.int .u64 (IntKind.u64.wrap (((BitVec.ofInt 64 (a:Int) ||| BitVec.ofInt 64 (a4V .u64 1 (j:Int))).toNat:Nat):Int)),.int .i64 (IntKind.i64.wrap ((j:Int)+1)),.int .i64 (IntKind.i64.wrap (((k+1:Nat):Int)-1))] (NMS s o f g m q y) (.bool (oB Z)) (oMS s o f g m q Z):=by rw[e1,e2,e3];exact h3
   cases Z with
   |inl y1=>
    have h4:qC X0 Tryz.prog (ApN n) (fCh 6) [.int .u64 (IntKind.u64.wrap (((BitVec.ofInt 64 (a:Int) ||| BitVec.ofInt 64 (a4V .u64 1 (j:Int))).toNat:Nat):Int)),.int .i64 (IntKind.i64.wrap ((j:Int)+1)),.int .i64 (IntKind.i64.wrap (((k+1:Nat):Int)-1))] (NMS s o f g m q y) (.bool true) (NES s o f g m q y1):=h4;have hg:gLp (VB φ) f.length k a (j,y)=.inl (j+1,y1):=hg;have h5:vJ X0 Tryz.prog T (ApN n) LL 179 false (ntP Tryz.prog 179) 11 (a5K Tryz.prog 179 0) c (ajY s o f g m q a (k+1) (IntKind.i64.wrap ((j:Int)+1)) y1 []) (o9S s o f g m q a (k+1) r).1 (o9S s o f g m q a (k+1) r).2:=by rw[e2];exact ih2 _ hg
    rw[hg];exact round hX ok0 (by kernel_rfl) (.b t1 (.o h0 (.k (h4) (.b (rfl:(!true)=false) (.go h5)))))
   |inr r=>
    have h4:qC X0 Tryz.prog (ApN n) (fCh 6) [.int .u64 (IntKind.u64.wrap (((BitVec.ofInt 64 (a:Int) ||| BitVec.ofInt 64 (a4V .u64 1 (j:Int))).toNat:Nat):Int)),.int .i64 (IntKind.i64.wrap ((j:Int)+1)),.int .i64 (IntKind.i64.wrap (((k+1:Nat):Int)-1))] (NMS s o f g m q y) (.bool false) (NDS s o f g m q r):=h4;have hg:gLp (VB φ) f.length k a (j,y)=.inr (.inr r):=hg;rw[hg];exact round hX ok0 (by kernel_rfl) (.b t1 (.o h0 (.k (h4) (.b (rfl:(!false)=true) .re))))
  ·have t1:decide ((j:Int)<=IntKind.i64.wrap ((f.length:Int)-((k+1:Nat):Int)))=false:=by rw[ht];exact decide_eq_false hj
   have hg:gLp (VB φ) f.length k a (j,y)=.inr (.inl (j,y)):=by unfold gLp;rw[if_neg hj]
   rw[hg];exact round hX ok0 (by kernel_rfl) (.b t1 (.ou nofun))
theorem ac0 (hf:f.length<8)(hB:∀n,N<=n->∀a,a<128->∀y,True->qC X0 Tryz.prog (ApN (n+4)) (.jk 8) [.int .u64 ((a:Nat):Int)] (NMS s o f g m q y) (.bool (oB (VB φ a y))) (oMS s o f g m q (VB φ a y))):∀(k a i n:Nat) (y:Unit),N+k<=n->k<=f.length->a<2^f.length->True->qC X0 Tryz.prog (ApN (n+5)) (fCh 6) [.int .u64 (a:Int),.int .i64 (i:Int),.int .i64 (k:Int)] (NMS s o f g m q y) (.bool (oB (stp (VB φ) (chs f.length k a i) y))) (oMS s o f g m q (stp (VB φ) (chs f.length k a i) y))
 | 0,a,i,n,y,hn,hk,ha,hy=>by
  have a3p:=a0A (n:=f.length) (by omega);have h:=hB n (by omega) a (by omega) y hy;have e:stp (VB φ) (chs f.length 0 a i) y=(VB φ) a y:=by
   show stp (VB φ) [a] y=_;rw[stp];cases (VB φ) a y<;>rfl
  rw[e];generalize (VB φ) a y=Z at h;cases Z with
  |inl y1=>exact kN (r:=tA) (s:=true) (H1:=NES s o f g m q y1) hX ok0 (first:=[]) (by kernel_rfl) (.b (rfl:(((0:Nat):Int)==0)=true) (.k h .sr))
  |inr r=>exact kN (r:=tA) (s:=false) (H1:=NDS s o f g m q r) hX ok0 (first:=[]) (by kernel_rfl) (.b (rfl:(((0:Nat):Int)==0)=true) (.k h .sr))
 |k+1,a,i,n+1,y,hn,hk,ha,hy=>by
  have it:=aaX (g:=VB φ) (n:=f.length) (k:=k) (a:=a) (f.length-k-i) i y rfl;have h0:(((k+1:Nat):Int)==0)=false:=by rw[beq_eq_false_iff_ne];omega
  show qC X0 Tryz.prog (ApN (n+1+5)) (fCh 6) [.int .u64 (a:Int),.int .i64 (i:Int),.int .i64 ((k+1:Nat):Int)] (NMS s o f g m q y) (.bool (oB (stp (VB φ) ((List.range' i (f.length-k-i)).flatMap fun j=>chs f.length k (a ||| 2^j) (j+1)) y))) (oMS s o f g m q (stp (VB φ) ((List.range' i (f.length-k-i)).flatMap fun j=>chs f.length k (a ||| 2^j) (j+1)) y));cases hz:stp (VB φ) ((List.range' i (f.length-k-i)).flatMap fun j=>chs f.length k (a ||| 2^j) (j+1)) y with
  |inl y1=>
   rw[hz]at it;have lp:=l9S (s:=s) (o:=o) (g:=g) (m:=m) (q:=q) (φ:=φ) (n:=n+5) hf (show k<8 by omega) ha (fun j y hj hy=>ac0 hf hB k (a ||| 2^j) (j+1) n y (by omega) (by omega) (Nat.or_lt_two_pow ha (Nat.pow_lt_pow_right (by decide) (by omega))) hy) y hy it;exact kN (r:=tA) (s:=true) (H1:=NES s o f g m q y1) hX ok0 (first:=[]) (by kernel_rfl) (.b h0 (.w lp .sr))
  |inr r=>
   rw[hz]at it;have lp:=l9S (s:=s) (o:=o) (g:=g) (m:=m) (q:=q) (φ:=φ) (n:=n+5) hf (show k<8 by omega) ha (fun j y hj hy=>ac0 hf hB k (a ||| 2^j) (j+1) n y (by omega) (by omega) (Nat.or_lt_two_pow ha (Nat.pow_lt_pow_right (by decide) (by omega))) hy) y hy it;exact kN (r:=tA) (s:=false) (H1:=NDS s o f g m q r) hX ok0 (first:=[]) (by kernel_rfl) (.b h0 (.w lp .sr))
theorem l8S {n:Nat}(hf:f.length<8)(ih:∀(k:Nat) (y:Unit),k<f.length+1->True->qC X0 Tryz.prog (ApN n) (fCh 6) [.int .u64 ((0:Nat):Int),.int .i64 ((0:Nat):Int),.int .i64 (k:Int)] (NMS s o f g m q y) (.bool (oB (stp (VB φ) (chs f.length k 0 0) y))) (oMS s o f g m q (stp (VB φ) (chs f.length k 0 0) y)))(y:Unit)(hy:True)
  {z:(Nat×Unit)⊕(Nat×Nat)} (hz:itF (gTp (VB φ) f.length) (f.length+1-0+1) (0,y)=some z):LpB n 178 0 9 (w8S s o f g m q (0,y) []) (o8S s o f g m q z).1 (o8S s o f g m q z).2:=by
 have hw:IntKind.i64.wrap ((f.length:Int)+1)=((f.length+1:Nat):Int):=by rw[wrap_small (by omega) (by omega)];omega
 refine a3K (X:=X0) (P:=Tryz.prog) (T:=T) (st:=fun x=>w8S s o f g m q x []) (g:=gTp (VB φ) f.length) (s:=(0,y)) (out:=o8S s o f g m q) (fun x=>True) hz (by kernel_rfl) (show _<=2^24 by omega) hy ?_ ?_
 ·rintro⟨j,y⟩ ⟨j1,y1⟩ hy e;trivial
 ·rintro⟨k,y⟩ c r hy ih2;have hy:True:=hy;by_cases hk:k<f.length+1
  ·have t1:decide ((k:Int)<IntKind.i64.wrap ((f.length:Int)+1))=true:=by rw[hw];exact decide_eq_true (by omega)
   have e2:IntKind.i64.wrap ((k:Int)+1)=((k+1:Nat):Int):=by rw[wrap_small (by omega) (by omega)];omega
   have h3:=ih k y hk hy;have hg:gTp (VB φ) f.length (k,y)=match stp (VB φ) (chs f.length k 0 0) y with
    |.inl y=>.inl (k+1,y)
    |.inr r=>.inr (.inr (k,r)):=by
    unfold gTp;rw[if_pos (show (k,y).1<f.length+1 from hk)];dsimp only;cases stp (VB φ) (chs f.length k 0 0) y<;>rfl
   generalize stp (VB φ) (chs f.length k 0 0) y=Z at h3 hg;cases Z with
   |inl y1=>
    have h4:qC X0 Tryz.prog (ApN n) (fCh 6) [.int .u64 0,.int .i64 0,.int .i64 (k:Int)] (NMS s o f g m q y) (.bool true) (NES s o f g m q y1):=h3;have hg:gTp (VB φ) f.length (k,y)=.inl (k+1,y1):=hg;have h5:vJ X0 Tryz.prog T (ApN n) LL 178 false (ntP Tryz.prog 178) 9 (a5K Tryz.prog 178 0) c (ak0 s o f g m q (IntKind.i64.wrap ((k:Int)+1)) y1 []) (o8S s o f g m q r).1 (o8S s o f g m q r).2:=by rw[e2];exact ih2 _ hg
    rw[hg];exact round hX ok0 (by kernel_rfl) (.b t1 (.k (h4) (.b (rfl:(!true)=false) (.go h5))))
   |inr r=>
    have hg:gTp (VB φ) f.length (k,y)=.inr (.inr (k,r)):=hg;have h4:qC X0 Tryz.prog (ApN n) (fCh 6) [.int .u64 0,.int .i64 0,.int .i64 (k:Int)] (NMS s o f g m q y) (.bool false) (NDS s o f g m q r):=h3;rw[hg];exact round hX ok0 (by kernel_rfl) (.b t1 (.k (h4) (.b (rfl:(!false)=true) .ex)))
  ·have t1:decide ((k:Int)<IntKind.i64.wrap ((f.length:Int)+1))=false:=by rw[hw];exact decide_eq_false (by omega)
   have hg:gTp (VB φ) f.length (k,y)=.inr (.inl (k,y)):=by unfold gTp;rw[if_neg hk]
   rw[hg];exact round hX ok0 (by kernel_rfl) (.b t1 (.ou nofun))
theorem ak2 (hf:f.length<8)(hB:∀n,N<=n->∀a,a<128->∀y,True->qC X0 Tryz.prog (ApN (n+4)) (.jk 8) [.int .u64 ((a:Nat):Int)] (NMS s o f g m q y) (.bool (oB (VB φ a y))) (oMS s o f g m q (VB φ a y))){n:Nat}(hn:N+f.length<=n)(y:Unit)(hy:True):qC X0 Tryz.prog (ApN (n+6)) (.fn 178 [] [.ptr 6 0 1]) [.jk 8] (A0S s o f g m q y) (.bH []) (oMS s o f g m q (stp (VB φ) (a0h f.length) y)):=by
 obtain⟨z,hz,e1,_⟩:=aaY (g:=VB φ) (n:=f.length) (f.length+1) 0 y rfl (by omega);rw[<-abZ]at e1;rw[<-e1];have h0:(0:Int)<=(f.length:Int):=by omega
 cases z with
 |inl x=>
  have hz:itF (gTp (VB φ) f.length) (f.length+1-0+1) (0,y)=some (.inl x):=hz;have lp:=l8S (s:=s) (o:=o) (g:=g) (m:=m) (q:=q) (φ:=φ) (n:=n+5) hf (fun k y hk hy=>ac0 hf hB k 0 0 n y (by omega) (by omega) (Nat.two_pow_pos _) hy) y hy hz;exact a2n hX ok0 (first:=[]) (cap:=[.ptr 6 0 1]) (by kernel_rfl) (.w lp .er)
 |inr x=>
  have hz:itF (gTp (VB φ) f.length) (f.length+1-0+1) (0,y)=some (.inr x):=hz;have lp:=l8S (s:=s) (o:=o) (g:=g) (m:=m) (q:=q) (φ:=φ) (n:=n+5) hf (fun k y hk hy=>ac0 hf hB k 0 0 n y (by omega) (by omega) (Nat.two_pow_pos _) hy) y hy hz;exact a2n hX ok0 (first:=[]) (cap:=[.ptr 6 0 1]) (by kernel_rfl) (.w lp .er)
theorem ahu {n:Nat}:qC X0 Tryz.prog (ApN (n+1)) (.fn 134 [] []) [.ptr 1 0 9] (HT0 s o f g m) (.fn 178 [] [.ptr 2 0 1]) (HT0 s o f g m++[.cells [.ptr 1 0 9]]):=
 a2n hX ok0 (first:=[]) (cap:=[]) (by kernel_rfl) .er
theorem ahv (hf:f.length<8)(hO:∀n,N<=n->Ok n a4b)(hq:∀n,N<=n->∀a:Nat,a<128->qC X0 Tryz.prog (ApN (n+3)) (.fn q [] []) [.ptr 1 0 9,.int .u64 (a:Int)] (Hq s o f g m) (.bool (φ a)) (Hq s o f g m)){n:Nat}(hn:N+f.length<=n):qC X0 Tryz.prog (ApN (n+7)) (.fn 98 [] []) [.agg [.fn q [] []],.ptr 1 0 9] (HT0 s o f g m) (.bH (match (a0h f.length).find? φ with
  |some a=>[lI (TL a),.int .i64 0]
  |none=>[.nil .slc,.int .i64 7])) (HT0 s o f g m):=by
 have hs:=ak2 (s:=s) (o:=o) (g:=g) (m:=m) (q:=q) (φ:=φ) hf (N:=N) (fun n hn a ha y _=>yS hO hq hn ha y) hn () trivial;rw[abY]at hs;cases hz:(a0h f.length).find? φ with
 |none=>
  rw[hz]at hs;have hr:iq X0 Tryz.prog T (ApN (n+6)) LL 98 false (ntP Tryz.prog 98) 2 (.rangeFunc (.tmp 8) #[9] (a0b Tryz.prog 98) (a0X Tryz.prog 98)) ⟨a8I,[],HqS s o f g m q (.nil .slc)⟩ .norm ⟨a8I,[],(NES s o f g m q ()).set 8 (LRS false (some .skip))⟩:=a5e hX (ps:=⟨a8I,[],HqS s o f g m q (.nil .slc)⟩) rfl rfl hs rfl rfl;have h0:qC X0 Tryz.prog (ApN (n+7)) (.fn 98 [] []) [.agg [.fn q [] []],.ptr 1 0 9] (HT0 s o f g m) (.bH [.nil .slc,.int .i64 7]) (HT0 s o f g m++[.cells [.fn q [] []],.cells [.ptr 1 0 9],.cells [.nil .slc],.cells [.int .i64 7],.cells [.ptr 1 0 9],.mark,LRS false (some .skip),.cells [.jk 8],.cells [fCh 6]]):=a2n hX ok0 (first:=[]) (cap:=[]) (by kernel_rfl) (.fr [0,1] (ahu (s:=s) (o:=o) (f:=f) (g:=g) (m:=m) (n:=n+5)) (.w hr .er));exact qC.gs hX h0 [.gc []] (by kernel_rfl)
 |some a=>
  rw[hz]at hs;have hr:iq X0 Tryz.prog T (ApN (n+6)) LL 98 false (ntP Tryz.prog 98) 2 (.rangeFunc (.tmp 8) #[9] (a0b Tryz.prog 98) (a0X Tryz.prog 98)) ⟨a8I,[],HqS s o f g m q (.nil .slc)⟩ .ret ⟨a8I,[],(NDS s o f g m q a).set 8 (LRS false (some .skip))⟩:=a5e hX (ps:=⟨a8I,[],HqS s o f g m q (.nil .slc)⟩) rfl rfl hs rfl rfl;have h0:qC X0 Tryz.prog (ApN (n+7)) (.fn 98 [] []) [.agg [.fn q [] []],.ptr 1 0 9] (HT0 s o f g m) (.bH [lI (TL a),.int .i64 0]) (HqS s o f g m q (lI (TL a))++[.mark,LRS false (some .skip),.cells [.jk 8],.cells [fCh 6]]):=a2n hX ok0 (first:=[]) (cap:=[]) (by kernel_rfl) (.fr [0,1] (ahu (s:=s) (o:=o) (f:=f) (g:=g) (m:=m) (n:=n+5)) (.w hr .er));exact qC.gs hX h0 [.gc []] (by kernel_rfl)
end
open Go Tw Pv fZ
abbrev ab1:List (Nat×PE bM):=[(2,.val (.ptr 2 0 1)),(3,.val (.ptr 3 0 1)),(4,.val (.ptr 4 0 1)),(8,.val (.fn 178 [] [.ptr 5 0 1]))]
noncomputable abbrev LRM (rd:Bool)(gG:Option Code):PB bM:=.loop rd 100 (ntP Tryz.prog 100) ab1 [9] (a0b Tryz.prog 100) (a0X Tryz.prog 100) gG
abbrev lSt (l:List Nat):PB bM:=.list false false 141 (l.map fun a:Nat=>(a:Int))
noncomputable abbrev HqM (s o:List Int)(f:List Fc)(g:Dg)(m:List Pc)(q:Nat)(x:Nat)(l:PB bM):List (PB bM):=HT0 s o f g m++[.cells [.fn q [] []],.cells [.ptr 1 0 9],.cells [.own x],.cells [.ptr 1 0 9],l]
noncomputable abbrev A0M (s o:List Int)(f:List Fc)(g:Dg)(m:List Pc)(q:Nat)(y:List Nat):List (PB bM):=HqM s o f g m q 6 (lSt y)++[.mark,LRM true none]
noncomputable abbrev NMM (s o:List Int)(f:List Fc)(g:Dg)(m:List Pc)(q:Nat)(y:List Nat):List (PB bM):=A0M s o f g m q y++[.cells [.jk 8],.cells [fCh 5]]
noncomputable abbrev NEM (s o:List Int)(f:List Fc)(g:Dg)(m:List Pc)(q:Nat)(y:List Nat):List (PB bM):=HqM s o f g m q 11 .gone++[.mark,LRM true none,.cells [.jk 8],.cells [fCh 5],lSt y]
noncomputable abbrev NDM (s o:List Int)(f:List Fc)(g:Dg)(m:List Pc)(q:Nat)(r:Empty):List (PB bM):=r.elim
noncomputable def oMM (s o:List Int)(f:List Fc)(g:Dg)(m:List Pc)(q:Nat):(List Nat)⊕Empty->List (PB bM)
 |.inl y=>NEM s o f g m q y
 |.inr r=>NDM s o f g m q r
noncomputable abbrev ak3 (s o:List Int)(f:List Fc)(g:Dg)(m:List Pc)(q:Nat)(a k:Nat)(j:Int)(x:(List Nat))(y:List (Nat×PE bM)):aV bM:=⟨[(0,.val (.int .u64 (a:Int))),(2,.val (.int .i64 (k:Int))),(4,.val (.ptr 5 0 1)),(5,.val (.ptr 10 0 1)),(10,xi j)]++y,[],NEM s o f g m q x⟩
noncomputable abbrev w9M (s o:List Int)(f:List Fc)(g:Dg)(m:List Pc)(q:Nat)(a k:Nat)(x:Nat×(List Nat))(y:List (Nat×PE bM)):aV bM:=ak3 s o f g m q a k x.1 x.2 y
noncomputable def o9M (s o:List Int)(f:List Fc)(g:Dg)(m:List Pc)(q:Nat)(a k:Nat):(Nat×(List Nat))⊕Empty->Ex×aV bM
 |.inl x=>(.exit 0,w9M s o f g m q a k x [(25,xl false)])
 |.inr r=>(.ret,⟨[(9,xl false)],[],NDM s o f g m q r⟩)
noncomputable abbrev ak5 (s o:List Int)(f:List Fc)(g:Dg)(m:List Pc)(q:Nat)(j:Int)(x:(List Nat))(y:List (Nat×PE bM)):aV bM:=⟨[(3,.val (.ptr 10 0 1)),(11,xi (IntKind.i64.wrap (f.length+1))),(12,xi j)]++y,[],NEM s o f g m q x⟩
noncomputable abbrev w8M (s o:List Int)(f:List Fc)(g:Dg)(m:List Pc)(q:Nat)(x:Nat×(List Nat))(y:List (Nat×PE bM)):aV bM:=ak5 s o f g m q x.1 x.2 y
noncomputable def o8M (s o:List Int)(f:List Fc)(g:Dg)(m:List Pc)(q:Nat):(Nat×(List Nat))⊕(Nat×Empty)->Ex×aV bM
 |.inl x=>(.exit 0,w8M s o f g m q x [(13,xl false)])
 |.inr x=>(.exit 0,⟨[(3,.val (.ptr 10 0 1)),(11,xi (IntKind.i64.wrap (f.length+1))),(12,xi x.1),(18,.val (.lit true))],[],NDM s o f g m q x.2⟩)
section
variable {N:Nat}{s o:List Int}{f:List Fc}{g:Dg}{m:List Pc}{q:Nat}{φ:Nat->Bool}
theorem aed {a b:Nat}(ha:a<128)(hb:b<128):a7Q (a:Int) (b:Int)=a0T a b:=by
 unfold a7Q a0T;exact afX ha hb
theorem ab3 {l:List Nat}{a:Nat}(hl:∀b∈l,b<128)(ha:a<128):xu (fun m=>a7Q m (a:Int)) (l.map fun a:Nat=>(a:Int))=l.any fun m=>a0T m a:=by
 rw[a2w,List.any_map];rw[Bool.eq_iff_iff,List.any_eq_true,List.any_eq_true];constructor
 ·rintro⟨x,hx,h⟩;exact⟨x,hx,by rw[<-aed (hl x hx) ha];exact h⟩
 rintro⟨x,hx,h⟩;exact⟨x,hx,by show a7Q (x:Int) (a:Int)=true;rw[aed (hl x hx) ha];exact h⟩
def gMn (φ:Nat->Bool)(a:Nat)(y:List Nat):List Nat⊕Empty:=.inl (fMi φ y a)
structure a18 (y:List Nat):Prop where
 lt:∀b∈y,b<128
 nd:y.Nodup
theorem a9J:∀{n:Nat} {l:List Nat},l.Nodup->(∀b∈l,b<n)->l.length<=n
 | 0,l,_,h=>by
  cases l with
  |nil=>exact Nat.le_refl _
  |cons a l=>exact absurd (h a (.head _)) (by omega)
 |n+1,l,h1,h2=>by
  have h3:=a9J (n:=n) (l:=l.filter fun b=>decide (b≠n)) (h1.filter _) fun b hb=>by
   have ⟨k1,k2⟩:=List.mem_filter.1 hb;have:=h2 b k1;have:b≠n:=(by simpa using k2);omega
  have h4:∀(l:List Nat),l.Nodup->l.length<=(l.filter fun b=>decide (b≠n)).length+1:=by
   intro l
   induction l with
   |nil=>intro _;simp
   |cons a l ih=>
    intro hd;obtain⟨hd1,hd2⟩:=List.nodup_cons.1 hd;rw[List.filter_cons];by_cases e:a=n
    ·subst e;have:(l.filter fun b=>decide (b≠a))=l:=List.filter_eq_self.2 fun b hb=>decide_eq_true fun e=>hd1 (e▸hb);rw[if_neg (by simp),this,List.length_cons];omega
    rw[if_pos (decide_eq_true e),List.length_cons,List.length_cons];have:=ih hd2;omega
  have:=h4 l h1;omega
theorem a18.len {y:List Nat}(h:a18 y):y.length<=128:=a9J h.nd h.lt
theorem acC (a:Nat):a0T a a=true:=a0c.2 fun k _ h=>h
theorem acD {φ:Nat->Bool}{a:Nat}{y:List Nat}(h:a18 y)(ha:a<128):a18 (fMi φ y a):=by
 unfold fMi;cases hc:y.any fun m=>a0T m a
 ·rw[if_neg (by simp)];split
  ·refine⟨fun b hb=>?_,?_⟩
   ·rcases List.mem_append.1 hb with hb|hb
    ·exact h.lt b hb
    rw[List.mem_singleton.1 hb];exact ha
   refine a4N h.nd fun hm=>?_;have:(y.any fun m=>a0T m a)=true:=List.any_eq_true.2 ⟨a,hm,acC a⟩;rw[hc]at this;cases this
  exact h
 rw[if_pos rfl];exact h
theorem yM0 (hO:∀n,N<=n->Ok n a4b){n a:Nat}(hn:N<=n)(ha:a<128){y:List Nat}(hy:a18 y)(h:(y.any fun m=>a0T m a)=true):qC X0 Tryz.prog (ApN (n+4)) (.jk 8) [.int .u64 (a:Int)] (NMM s o f g m q y) (.bool true) (NEM s o f g m q y):=by
 have hl:(y.map fun a:Nat=>(a:Int)).length<=aO:=by rw[List.length_map];have:=hy.len;unfold aO;omega
 have hc:=aht (hO n hn) false false (y.map fun a:Nat=>(a:Int)) (a:Int) hl;rw[ab3 hy.lt ha,h]at hc;have q1:iq X0 Tryz.prog T (ApN (n+3)) LL 100 true (ntP Tryz.prog 100) 11 (a0b Tryz.prog 100) ⟨a0u ab1 [9] [.int .u64 (a:Int)],[],NMM s o f g m q y⟩ .norm ⟨[(2,.val (.ptr 2 0 1)),(3,.val (.ptr 3 0 1)),(4,.val (.ptr 4 0 1)),(5,.val (.ptr 11 0 1))],[],HqM s o f g m q 6 (lSt y)++[.mark,LRM true none,.cells [.jk 8],.cells [fCh 5],.cells [.int .u64 (a:Int)]]⟩:=a0B hX ok0 (by kernel_rfl) .xx;have q2:iq X0 Tryz.prog T (ApN (n+3)) LL 100 true (ntP Tryz.prog 100) 11 (a0X Tryz.prog 100) ⟨[(2,.val (.ptr 2 0 1)),(3,.val (.ptr 3 0 1)),(4,.val (.ptr 4 0 1)),(5,.val (.ptr 11 0 1))],[],HqM s o f g m q 6 (lSt y)++[.mark,LRM false none,.cells [.jk 8],.cells [fCh 5],.cells [.int .u64 (a:Int)]]⟩ .norm ⟨[(4,.val (.ptr 4 0 1)),(5,.val (.ptr 11 0 1)),(21,xl false)],[],HqM s o f g m q 6 (lSt y)++[.mark,LRM false none,.cells [.jk 8],.cells [fCh 5],.cells [.int .u64 (a:Int)]]⟩:=a0B hX ok0 (by kernel_rfl) (.fr [6,11] hc (.b (rfl:(!true)=false) .xx));exact qC.gs hX (a3y hX (l:=8) rfl rfl (by kernel_rfl) q1 rfl q2 rfl) [.mv 6,.gc [12]] rfl
theorem yM1 (hO:∀n,N<=n->Ok n a4b)(hq:∀n,N<=n->∀a:Nat,a<128->qC X0 Tryz.prog (ApN (n+3)) (.fn q [] []) [.ptr 1 0 9,.int .u64 (a:Int)] (Hq s o f g m) (.bool (φ a)) (Hq s o f g m)){n a:Nat}(hn:N<=n)(ha:a<128){y:List Nat}(hy:a18 y)(h:(y.any fun m=>a0T m a)=false)(h2:φ a=false):qC X0 Tryz.prog (ApN (n+4)) (.jk 8) [.int .u64 (a:Int)] (NMM s o f g m q y) (.bool true) (NEM s o f g m q y):=by
 have hl:(y.map fun a:Nat=>(a:Int)).length<=aO:=by rw[List.length_map];have:=hy.len;unfold aO;omega
 have hc:=aht (hO n hn) false false (y.map fun a:Nat=>(a:Int)) (a:Int) hl;rw[ab3 hy.lt ha,h]at hc;have q1:iq X0 Tryz.prog T (ApN (n+3)) LL 100 true (ntP Tryz.prog 100) 11 (a0b Tryz.prog 100) ⟨a0u ab1 [9] [.int .u64 (a:Int)],[],NMM s o f g m q y⟩ .norm ⟨[(2,.val (.ptr 2 0 1)),(3,.val (.ptr 3 0 1)),(4,.val (.ptr 4 0 1)),(5,.val (.ptr 11 0 1))],[],HqM s o f g m q 6 (lSt y)++[.mark,LRM true none,.cells [.jk 8],.cells [fCh 5],.cells [.int .u64 (a:Int)]]⟩:=a0B hX ok0 (by kernel_rfl) .xx;have q2:iq X0 Tryz.prog T (ApN (n+3)) LL 100 true (ntP Tryz.prog 100) 11 (a0X Tryz.prog 100) ⟨[(2,.val (.ptr 2 0 1)),(3,.val (.ptr 3 0 1)),(4,.val (.ptr 4 0 1)),(5,.val (.ptr 11 0 1))],[],HqM s o f g m q 6 (lSt y)++[.mark,LRM false none,.cells [.jk 8],.cells [fCh 5],.cells [.int .u64 (a:Int)]]⟩ .norm ⟨[(4,.val (.ptr 4 0 1)),(5,.val (.ptr 11 0 1)),(21,xl false)],[],HqM s o f g m q 6 (lSt y)++[.mark,LRM false none,.cells [.jk 8],.cells [fCh 5],.cells [.int .u64 (a:Int)]]⟩:=a0B hX ok0 (by kernel_rfl) (.fr [6,11] hc (.b (rfl:(!false)=true) (.frR (H2:=HT0 s o f g m) [0,1] [0,1] (hq n hn a ha) (.b h2 .xx))));exact qC.gs hX (a3y hX (l:=8) rfl rfl (by kernel_rfl) q1 rfl q2 rfl) [.mv 6,.gc [12]] rfl
theorem yM2 (hO:∀n,N<=n->Ok n a4b)(hq:∀n,N<=n->∀a:Nat,a<128->qC X0 Tryz.prog (ApN (n+3)) (.fn q [] []) [.ptr 1 0 9,.int .u64 (a:Int)] (Hq s o f g m) (.bool (φ a)) (Hq s o f g m)){n a:Nat}(hn:N<=n)(ha:a<128){y:List Nat}(hy:a18 y)(h:(y.any fun m=>a0T m a)=false)(h2:φ a=true):qC X0 Tryz.prog (ApN (n+4)) (.jk 8) [.int .u64 (a:Int)] (NMM s o f g m q y) (.bool true) (NEM s o f g m q (y++[a])):=by
 have hl:(y.map fun a:Nat=>(a:Int)).length<=aO:=by rw[List.length_map];have:=hy.len;unfold aO;omega
 have hc:=aht (hO n hn) false false (y.map fun a:Nat=>(a:Int)) (a:Int) hl;rw[ab3 hy.lt ha,h]at hc;have q1:iq X0 Tryz.prog T (ApN (n+3)) LL 100 true (ntP Tryz.prog 100) 11 (a0b Tryz.prog 100) ⟨a0u ab1 [9] [.int .u64 (a:Int)],[],NMM s o f g m q y⟩ .norm ⟨[(2,.val (.ptr 2 0 1)),(3,.val (.ptr 3 0 1)),(4,.val (.ptr 4 0 1)),(5,.val (.ptr 11 0 1))],[],HqM s o f g m q 6 (lSt y)++[.mark,LRM true none,.cells [.jk 8],.cells [fCh 5],.cells [.int .u64 (a:Int)]]⟩:=a0B hX ok0 (by kernel_rfl) .xx;have hL:(y.map fun a:Nat=>(a:Int)).length+[(a:Int)].length<=aO:=by rw[List.length_map,List.length_singleton];have:=hy.len;unfold aO;omega
 have q2:iq X0 Tryz.prog T (ApN (n+3)) LL 100 true (ntP Tryz.prog 100) 11 (a0X Tryz.prog 100) ⟨[(2,.val (.ptr 2 0 1)),(3,.val (.ptr 3 0 1)),(4,.val (.ptr 4 0 1)),(5,.val (.ptr 11 0 1))],[],HqM s o f g m q 6 (lSt y)++[.mark,LRM false none,.cells [.jk 8],.cells [fCh 5],.cells [.int .u64 (a:Int)]]⟩ .norm ⟨[],[],HqM s o f g m q 13 .gone++[.mark,LRM false none,.cells [.jk 8],.cells [fCh 5],.cells [.int .u64 (a:Int)],.list true true 141 [(a:Int)],.list false false 141 ((y.map fun a:Nat=>(a:Int))++[(a:Int)])]⟩:=a0B hX ok0 (by kernel_rfl) (.fr [6,11] hc (.b (rfl:(!false)=true) (.frR (H2:=HT0 s o f g m) [0,1] [0,1] (hq n hn a ha) (.b h2 (.o hL .xx)))));have e:((y++[a]).map fun a:Nat=>(a:Int))=(y.map fun a:Nat=>(a:Int))++[(a:Int)]:=by rw[List.map_append];rfl
 have key:∀L:List Int,L=(y.map fun a:Nat=>(a:Int))++[(a:Int)]->qC X0 Tryz.prog (ApN (n+4)) (.jk 8) [.int .u64 (a:Int)] (NMM s o f g m q y) (.bool true) (HqM s o f g m q 11 .gone++[.mark,LRM true none,.cells [.jk 8],.cells [fCh 5],.list false false 141 L]):=by
  rintro _ rfl;exact qC.gs hX (a3y hX (l:=8) rfl rfl (by kernel_rfl) q1 rfl q2 rfl) [.gc [13]] rfl
 exact key _ e
theorem yM (hO:∀n,N<=n->Ok n a4b)(hq:∀n,N<=n->∀a:Nat,a<128->qC X0 Tryz.prog (ApN (n+3)) (.fn q [] []) [.ptr 1 0 9,.int .u64 (a:Int)] (Hq s o f g m) (.bool (φ a)) (Hq s o f g m)){n a:Nat}(hn:N<=n)(ha:a<128){y:List Nat}(hy:a18 y):qC X0 Tryz.prog (ApN (n+4)) (.jk 8) [.int .u64 (a:Int)] (NMM s o f g m q y) (.bool (oB (gMn φ a y))) (oMM s o f g m q (gMn φ a y)):=by
 unfold gMn fMi;cases h:y.any fun m=>a0T m a
 ·rw[if_neg (by simp)];cases h2:φ a
  ·exact yM1 hO hq hn ha hy h h2
  exact yM2 hO hq hn ha hy h h2
 exact yM0 hO hn ha hy h
theorem a4h {φ:Nat->Bool}:∀{l:List Nat} {y z:List Nat},(∀b∈l,b<128)->a18 y->stp (gMn φ) l y=.inl z->a18 z
 |[],y,z,_,hy,h=>by cases h;exact hy
 |a::l,y,z,hl,hy,h=>a4h (fun b hb=>hl b (.tail _ hb)) (acD (φ:=φ) hy (hl a (.head _))) h
theorem l9M {n k a i:Nat}(hf:f.length<8)(hk:k<8)(ha:a<2^f.length)(ih:∀(j:Nat) (y:(List Nat)),j+k<f.length->a18 y->qC X0 Tryz.prog (ApN n) (fCh 5) [.int .u64 ((a ||| 2^j:Nat):Int),.int .i64 ((j+1:Nat):Int),.int .i64 (k:Int)] (NMM s o f g m q y) (.bool (oB (stp (gMn φ) (chs f.length k (a ||| 2^j) (j+1)) y))) (oMM s o f g m q (stp (gMn φ) (chs f.length k (a ||| 2^j) (j+1)) y)))(y:(List Nat))(hy:a18 y)
  {z:(Nat×(List Nat))⊕Empty} (hz:itF (gLp (gMn φ) f.length k a) (f.length-k-i+1) (i,y)=some z):LpB n 179 0 11 (w9M s o f g m q a (k+1) (i,y) []) (o9M s o f g m q a (k+1) z).1 (o9M s o f g m q a (k+1) z).2:=by
 refine a3K (X:=X0) (P:=Tryz.prog) (T:=T) (st:=fun x=>w9M s o f g m q a (k+1) x []) (g:=gLp (gMn φ) f.length k a) (s:=(i,y)) (out:=o9M s o f g m q a (k+1)) (fun x=>a18 x.2) hz (by kernel_rfl) (show _<=2^24 by omega) hy ?_ ?_
 ·rintro⟨j,y⟩ ⟨j1,y1⟩ hy e;have hy:a18 y:=hy;have e:gLp (gMn φ) f.length k a (j,y)=.inl (j1,y1):=e;unfold gLp at e;split at e
  ·rename_i hj;have hj:j+k<f.length:=hj;cases hz2:stp (gMn φ) (chs f.length k (a ||| 2^j) (j+1)) y with
   |inl y2=>
    rw[show stp (gMn φ) (chs f.length k (a ||| 2^(j,y).1) ((j,y).1+1)) (j,y).2=.inl y2 from hz2]at e;cases e;have a3p:=a0A (n:=f.length) (by omega);exact a4h (fun b hb=>by have:=aaZ k _ _ (Nat.or_lt_two_pow ha (Nat.pow_lt_pow_right (by decide) (by omega))) b hb;omega) hy hz2
   |inr r=>exact r.elim
  ·cases e
 ·rintro⟨j,y⟩ c r hy ih2;have hy:a18 y:=hy;have ht:=jle (j:=j) (k:=k) (n:=f.length) hf hk;by_cases hj:j+k<f.length
  ·have h7:j<7:=(by omega);have a3p:=a0A (n:=f.length) (by omega);have t1:decide ((j:Int)<=IntKind.i64.wrap ((f.length:Int)-((k+1:Nat):Int)))=true:=by rw[ht];exact decide_eq_true hj
   have h0:(0:Int)<=(j:Int):=(by omega);have e1:IntKind.u64.wrap (((BitVec.ofInt 64 (a:Int) ||| BitVec.ofInt 64 (a4V .u64 1 (j:Int))).toNat:Nat):Int)=((a ||| 2^j:Nat):Int):=(ae0 (by omega) h7).1;have e2:IntKind.i64.wrap ((j:Int)+1)=((j+1:Nat):Int):=by rw[wrap_small (by omega) (by omega)];omega
   have e3:IntKind.i64.wrap (((k+1:Nat):Int)-1)=(k:Int):=by rw[wrap_small (by omega) (by omega)];omega
   have h3:=ih j y hj hy;have hg:gLp (gMn φ) f.length k a (j,y)=match stp (gMn φ) (chs f.length k (a ||| 2^j) (j+1)) y with
    |.inl y=>.inl (j+1,y)
    |.inr r=>.inr (.inr r):=by
    unfold gLp;rw[if_pos (show (j,y).1+k<f.length from hj)];dsimp only;cases stp (gMn φ) (chs f.length k (a ||| 2^j) (j+1)) y<;>rfl
   generalize stp (gMn φ) (chs f.length k (a ||| 2^j) (j+1)) y=Z at h3 hg;have h4:qC X0 Tryz.prog (ApN n) (fCh 5) [.int .u64 (IntKind.u64.wrap (((BitVec.ofInt 64 (a:Int) ||| BitVec.ofInt 64 (a4V .u64 1 (j:Int))).toNat:Nat):Int)),.int .i64 (IntKind.i64.wrap ((j:Int)+1)),.int .i64 (IntKind.i64.wrap (((k+1:Nat):Int)-1))] (NMM s o f g m q y) (.bool (oB Z)) (oMM s o f g m q Z):=by rw[e1,e2,e3];exact h3
   cases Z with
   |inl y1=>
    have h4:qC X0 Tryz.prog (ApN n) (fCh 5) [.int .u64 (IntKind.u64.wrap (((BitVec.ofInt 64 (a:Int) ||| BitVec.ofInt 64 (a4V .u64 1 (j:Int))).toNat:Nat):Int)),.int .i64 (IntKind.i64.wrap ((j:Int)+1)),.int .i64 (IntKind.i64.wrap (((k+1:Nat):Int)-1))] (NMM s o f g m q y) (.bool true) (NEM s o f g m q y1):=h4;have hg:gLp (gMn φ) f.length k a (j,y)=.inl (j+1,y1):=hg;have h5:vJ X0 Tryz.prog T (ApN n) LL 179 false (ntP Tryz.prog 179) 11 (a5K Tryz.prog 179 0) c (ak3 s o f g m q a (k+1) (IntKind.i64.wrap ((j:Int)+1)) y1 []) (o9M s o f g m q a (k+1) r).1 (o9M s o f g m q a (k+1) r).2:=by rw[e2];exact ih2 _ hg
    rw[hg];exact round hX ok0 (by kernel_rfl) (.b t1 (.o h0 (.fr [0,1,2,3,4,5,11,7,8,9,10] (h4) (.b (rfl:(!true)=false) (.goG [.gc [12]] h5)))))
   |inr r=>
    exact r.elim
  ·have t1:decide ((j:Int)<=IntKind.i64.wrap ((f.length:Int)-((k+1:Nat):Int)))=false:=by rw[ht];exact decide_eq_false hj
   have hg:gLp (gMn φ) f.length k a (j,y)=.inr (.inl (j,y)):=by unfold gLp;rw[if_neg hj]
   rw[hg];exact round hX ok0 (by kernel_rfl) (.b t1 (.ou nofun))
theorem afZ (hf:f.length<8)(hB:∀n,N<=n->∀a,a<128->∀y,a18 y->qC X0 Tryz.prog (ApN (n+4)) (.jk 8) [.int .u64 ((a:Nat):Int)] (NMM s o f g m q y) (.bool (oB (gMn φ a y))) (oMM s o f g m q (gMn φ a y))):∀(k a i n:Nat) (y:(List Nat)),N+k<=n->k<=f.length->a<2^f.length->a18 y->qC X0 Tryz.prog (ApN (n+5)) (fCh 5) [.int .u64 (a:Int),.int .i64 (i:Int),.int .i64 (k:Int)] (NMM s o f g m q y) (.bool (oB (stp (gMn φ) (chs f.length k a i) y))) (oMM s o f g m q (stp (gMn φ) (chs f.length k a i) y))
 | 0,a,i,n,y,hn,hk,ha,hy=>by
  have a3p:=a0A (n:=f.length) (by omega);have h:=hB n (by omega) a (by omega) y hy;have e:stp (gMn φ) (chs f.length 0 a i) y=(gMn φ) a y:=by
   show stp (gMn φ) [a] y=_;rw[stp];cases (gMn φ) a y<;>rfl
  rw[e];generalize (gMn φ) a y=Z at h;cases Z with
  |inl y1=>exact kN (r:=tA) (s:=true) (H1:=NEM s o f g m q y1) hX ok0 (first:=[]) (by kernel_rfl) (.b (rfl:(((0:Nat):Int)==0)=true) (.k h .sr))
  |inr r=>exact r.elim
 |k+1,a,i,n+1,y,hn,hk,ha,hy=>by
  have it:=aaX (g:=gMn φ) (n:=f.length) (k:=k) (a:=a) (f.length-k-i) i y rfl;have h0:(((k+1:Nat):Int)==0)=false:=by rw[beq_eq_false_iff_ne];omega
  show qC X0 Tryz.prog (ApN (n+1+5)) (fCh 5) [.int .u64 (a:Int),.int .i64 (i:Int),.int .i64 ((k+1:Nat):Int)] (NMM s o f g m q y) (.bool (oB (stp (gMn φ) ((List.range' i (f.length-k-i)).flatMap fun j=>chs f.length k (a ||| 2^j) (j+1)) y))) (oMM s o f g m q (stp (gMn φ) ((List.range' i (f.length-k-i)).flatMap fun j=>chs f.length k (a ||| 2^j) (j+1)) y));cases hz:stp (gMn φ) ((List.range' i (f.length-k-i)).flatMap fun j=>chs f.length k (a ||| 2^j) (j+1)) y with
  |inl y1=>
   rw[hz]at it;have lp:=l9M (s:=s) (o:=o) (g:=g) (m:=m) (q:=q) (φ:=φ) (n:=n+5) hf (show k<8 by omega) ha (fun j y hj hy=>afZ hf hB k (a ||| 2^j) (j+1) n y (by omega) (by omega) (Nat.or_lt_two_pow ha (Nat.pow_lt_pow_right (by decide) (by omega))) hy) y hy it;exact kN (r:=tA) (s:=true) (H1:=NEM s o f g m q y1) hX ok0 (first:=[]) (by kernel_rfl) (.b h0 (.wG [.mv 6,.gc [11]] lp .sr))
  |inr r=>exact r.elim
theorem l8M {n:Nat}(hf:f.length<8)(ih:∀(k:Nat) (y:(List Nat)),k<f.length+1->a18 y->qC X0 Tryz.prog (ApN n) (fCh 5) [.int .u64 ((0:Nat):Int),.int .i64 ((0:Nat):Int),.int .i64 (k:Int)] (NMM s o f g m q y) (.bool (oB (stp (gMn φ) (chs f.length k 0 0) y))) (oMM s o f g m q (stp (gMn φ) (chs f.length k 0 0) y)))(y:(List Nat))(hy:a18 y)
  {z:(Nat×(List Nat))⊕(Nat×Empty)} (hz:itF (gTp (gMn φ) f.length) (f.length+1-0+1) (0,y)=some z):LpB n 178 0 9 (w8M s o f g m q (0,y) []) (o8M s o f g m q z).1 (o8M s o f g m q z).2:=by
 have hw:IntKind.i64.wrap ((f.length:Int)+1)=((f.length+1:Nat):Int):=by rw[wrap_small (by omega) (by omega)];omega
 refine a3K (X:=X0) (P:=Tryz.prog) (T:=T) (st:=fun x=>w8M s o f g m q x []) (g:=gTp (gMn φ) f.length) (s:=(0,y)) (out:=o8M s o f g m q) (fun x=>a18 x.2) hz (by kernel_rfl) (show _<=2^24 by omega) hy ?_ ?_
 ·rintro⟨j,y⟩ ⟨j1,y1⟩ hy e;have hy:a18 y:=hy;have e:gTp (gMn φ) f.length (j,y)=.inl (j1,y1):=e;unfold gTp at e;split at e
  ·cases hz2:stp (gMn φ) (chs f.length j 0 0) y with
   |inl y2=>
    rw[show stp (gMn φ) (chs f.length (j,y).1 0 0) (j,y).2=.inl y2 from hz2]at e;cases e;have a3p:=a0A (n:=f.length) (by omega);exact a4h (fun b hb=>by have:=aaZ j _ _ (Nat.two_pow_pos _) b hb;omega) hy hz2
   |inr r=>exact r.elim
  ·cases e
 ·rintro⟨k,y⟩ c r hy ih2;have hy:a18 y:=hy;by_cases hk:k<f.length+1
  ·have t1:decide ((k:Int)<IntKind.i64.wrap ((f.length:Int)+1))=true:=by rw[hw];exact decide_eq_true (by omega)
   have e2:IntKind.i64.wrap ((k:Int)+1)=((k+1:Nat):Int):=by rw[wrap_small (by omega) (by omega)];omega
   have h3:=ih k y hk hy;have hg:gTp (gMn φ) f.length (k,y)=match stp (gMn φ) (chs f.length k 0 0) y with
    |.inl y=>.inl (k+1,y)
    |.inr r=>.inr (.inr (k,r)):=by
    unfold gTp;rw[if_pos (show (k,y).1<f.length+1 from hk)];dsimp only;cases stp (gMn φ) (chs f.length k 0 0) y<;>rfl
   generalize stp (gMn φ) (chs f.length k 0 0) y=Z at h3 hg;cases Z with
   |inl y1=>
    have h4:qC X0 Tryz.prog (ApN n) (fCh 5) [.int .u64 0,.int .i64 0,.int .i64 (k:Int)] (NMM s o f g m q y) (.bool true) (NEM s o f g m q y1):=h3;have hg:gTp (gMn φ) f.length (k,y)=.inl (k+1,y1):=hg;have h5:vJ X0 Tryz.prog T (ApN n) LL 178 false (ntP Tryz.prog 178) 9 (a5K Tryz.prog 178 0) c (ak5 s o f g m q (IntKind.i64.wrap ((k:Int)+1)) y1 []) (o8M s o f g m q r).1 (o8M s o f g m q r).2:=by rw[e2];exact ih2 _ hg
    rw[hg];exact round hX ok0 (by kernel_rfl) (.b t1 (.fr [0,1,2,3,4,5,11,7,8,9,10] (h4) (.b (rfl:(!true)=false) (.goG [.gc [9,10,12]] h5))))
   |inr r=>
    exact r.elim
  ·have t1:decide ((k:Int)<IntKind.i64.wrap ((f.length:Int)+1))=false:=by rw[hw];exact decide_eq_false (by omega)
   have hg:gTp (gMn φ) f.length (k,y)=.inr (.inl (k,y)):=by unfold gTp;rw[if_neg hk]
   rw[hg];exact round hX ok0 (by kernel_rfl) (.b t1 (.ou nofun))
theorem ak7 (hf:f.length<8)(hB:∀n,N<=n->∀a,a<128->∀y,a18 y->qC X0 Tryz.prog (ApN (n+4)) (.jk 8) [.int .u64 ((a:Nat):Int)] (NMM s o f g m q y) (.bool (oB (gMn φ a y))) (oMM s o f g m q (gMn φ a y))){n:Nat}(hn:N+f.length<=n)(y:(List Nat))(hy:a18 y):qC X0 Tryz.prog (ApN (n+6)) (.fn 178 [] [.ptr 5 0 1]) [.jk 8] (A0M s o f g m q y) (.bH []) (oMM s o f g m q (stp (gMn φ) (a0h f.length) y)):=by
 obtain⟨z,hz,e1,_⟩:=aaY (g:=gMn φ) (n:=f.length) (f.length+1) 0 y rfl (by omega);rw[<-abZ]at e1;rw[<-e1];have h0:(0:Int)<=(f.length:Int):=by omega
 cases z with
 |inl x=>
  have hz:itF (gTp (gMn φ) f.length) (f.length+1-0+1) (0,y)=some (.inl x):=hz;have lp:=l8M (s:=s) (o:=o) (g:=g) (m:=m) (q:=q) (φ:=φ) (n:=n+5) hf (fun k y hk hy=>afZ hf hB k 0 0 n y (by omega) (by omega) (Nat.two_pow_pos _) hy) y hy hz;exact a2n hX ok0 (first:=[]) (cap:=[.ptr 5 0 1]) (by kernel_rfl) (.wG [.mv 6,.gc [9,10,11]] lp .er)
 |inr x=>exact x.2.elim
theorem amJ (hf:f.length<8)(hO:∀n,N<=n->Ok n a4b)(hq:∀n,N<=n->∀a:Nat,a<128->qC X0 Tryz.prog (ApN (n+3)) (.fn q [] []) [.ptr 1 0 9,.int .u64 (a:Int)] (Hq s o f g m) (.bool (φ a)) (Hq s o f g m)){n:Nat}(hn:N+f.length<=n):qC X0 Tryz.prog (ApN (n+7)) (.fn 100 [] []) [.agg [.fn q [] []],.ptr 1 0 9] (HT0 s o f g m) (.own 2) (HT0 s o f g m++[lSt ((a0h f.length).foldl (fMi φ) [])]):=by
 have hs:=ak7 (s:=s) (o:=o) (g:=g) (m:=m) (q:=q) (φ:=φ) hf (N:=N) (fun n hn a ha y hy=>yM hO hq hn ha hy) hn [] ⟨fun b hb=>(by cases hb),List.nodup_nil⟩;have e:stp (gMn φ) (a0h f.length) []=.inl ((a0h f.length).foldl (fMi φ) []):=a7G (g:=fun a y=>fMi φ y a);rw[e]at hs;generalize (a0h f.length).foldl (fMi φ) []=L at hs;have hr:iq X0 Tryz.prog T (ApN (n+6)) LL 100 false (ntP Tryz.prog 100) 2 (.rangeFunc (.tmp 8) #[9] (a0b Tryz.prog 100) (a0X Tryz.prog 100)) ⟨ab1,[],HqM s o f g m q 6 (lSt [])⟩ .norm ⟨ab1,[],(NEM s o f g m q L).set 8 (LRM false (some .skip))⟩:=a5e hX (ps:=⟨ab1,[],HqM s o f g m q 6 (lSt [])⟩) rfl rfl hs rfl rfl;have h0:qC X0 Tryz.prog (ApN (n+7)) (.fn 100 [] []) [.agg [.fn q [] []],.ptr 1 0 9] (HT0 s o f g m) (.own 11) (HqM s o f g m q 11 .gone++[.mark,LRM false (some .skip),.cells [.jk 8],.cells [fCh 5],lSt L]):=a2n hX ok0 (first:=[]) (cap:=[]) (by kernel_rfl) (.fr [0,1] (ahu (s:=s) (o:=o) (f:=f) (g:=g) (m:=m) (n:=n+5)) (.wG [.a4X 4 0 141] hr .er));exact qC.gs hX h0 [.gc [11]] (by kernel_rfl)
end
open Go Tw Pv fZ
abbrev lSi (l:List Int):PB bM:=.list false false 141 l
abbrev w99 (l:List Int)(y:List (List Int))(i:Int)(x:List (Nat×PE bM)):aV bM:=⟨[(2,.val (.own 1)),(5,.val (.own 0)),(6,xi l.length),(7,xi i)]++x,[],[lSi l,.list false false 22 y]⟩
def g99 (l:List Int)(k:Nat)(y:List (List Int)):List (List Int):=y++[TL (l.getD k 0)]
theorem afn {l:List Int}:uo (g99 l) l.length 0 []=l.map TL:=by
 have h:=Ru (g:=g99 l) (m:=l.length) (k:=0) (s:=[]) (fun k y=>y=(l.take k).map TL) rfl (fun j y _ hj h=>by
  have hj:j<l.length:=by omega
  unfold g99;rw[h,List.take_succ_eq_append_getElem hj,List.map_append,List.getD_eq_getElem?_getD,List.getElem?_eq_getElem hj];rfl)
 rw[Nat.zero_add,List.take_of_length_le (Nat.le_refl _)]at h;exact h
theorem l99 {n:Nat}(hO:Ok n a4b)(l:List Int)(hl:l.length<=aO):LpB n 99 0 1 (w99 l [] 0 []) (.exit 0) (w99 l (l.map TL) l.length [(8,xl false)]):=by
 rw[<-afn];refine a0j (σ:=List (List Int)) (N:=l.length) (g:=g99 l) (s0:=[]) (st:=fun i y=>w99 l y i []) (fin:=fun y=>w99 l y l.length [(8,xl false)]) (fun k y=>y.length<=k) (by kernel_rfl) hl (Nat.le_refl 0) (fun j y hj hy=>by
  unfold g99;rw[List.length_append,List.length_singleton];omega) (fun j y hj hy m e p g9=>?_) (fun y _=>?_)
 ·have h2:y.length+[TL (l.getD j 0)].length<=aO:=by simp only[List.length_singleton];omega
  unfold g99 at g9;exact round hX hO (by kernel_rfl) (.b (a2m hj) (.o (dB hj) (.o h2 (.goG [.gc [3]] g9))))
 exact round hX hO (by kernel_rfl) (.b (a5L l.length) .ex)
theorem s99 {n:Nat}(hO:Ok n a4b)(l:List Int)(hl:l.length<=aO){r:List (List Int)}(hr:l.map TL=r):qC X0 Tryz.prog (ApN (n+1)) (.fn 99 [] []) [.own 0] [lSi l] (.own 1) [lSi l,.list false false 22 r]:=by
 subst hr;exact a2n hX hO (first:=[]) (cap:=[]) (by kernel_rfl) (.wG [.Nr 2 22] (l99 hO l hl) .er)
def a3C (φ:Nat->Bool)(n:Nat):List Int×Int:=match (a0h n).find? φ with
 |some a=>(TL a,0)
 |none=>([],7)
def a3O (φ:Nat->Bool)(n:Nat):List (List Int):=((a0h n).foldl (fMi φ) []).map fun a:Nat=>TL (a:Int)
theorem a9K (φ:Nat->Bool){n:Nat}(hn:n<8):a18 ((a0h n).foldl (fMi φ) []):=by
 have e:stp (gMn φ) (a0h n) []=.inl ((a0h n).foldl (fMi φ) []):=a7G (g:=fun a y=>fMi φ y a);exact a4h (fun b hb=>by have:=a3w hn hb;have:=a0A (n:=n) (by omega);omega) ⟨fun b hb=>(by cases hb),List.nodup_nil⟩ e
open Go Tw Pv fZ
def a9M (v:V):Int:=if (!(V7 v))=true then 2 else 0
noncomputable def ag0:iO bM:=dL 177 (a1 vA) iA (fun p=>a9M p) np a4b
theorem ak8:Gd ag0:=ahf.add fun n hO p hp=>dS hX hO (by kernel_rfl) (.ss .rr .rr)
abbrev cDg (s o:List Int)(v:V):Dg:=⟨s,o,[v],[],-1⟩
noncomputable def ag2:iO bM:=dL 165 (a3 qw qw vA) dA (fun p=>cDg p.1 p.2.1 p.2.2) (fun p=>[p.1.length<=aO,p.2.1.length<=aO]) ag0
theorem ak9:Gd ag2:=ak8.add fun n hO p hp=>dS hX hO (by kernel_rfl) (.o (hp _ (.head _)) (.o (hp _ (.tail _ (.head _))) (.rn (.agg [lI p.1,lI p.2.1,lV [p.2.2],.nil .slc,.int .i64 (-1)]) rfl)))
def a9N (s o:List Int)(v:V):Dg×Int:=if (jy s o != 0)=true then (Dg0,jy s o)else if (a9M v != 0)=true then (Dg0,4)else (cDg s o v,0)
noncomputable def a8o:iO bM:=dL 132 (a3 qw qw vA) (V3 (a2 dA iA)) (fun p=>a9N p.1 p.2.1 p.2.2) (fun p=>[p.1.length<=aO,p.2.1.length<=2^20]) ag2
theorem aee:Gd a8o:=ak9.add fun n hO p hp=>dS hX hO (by kernel_rfl) (.o (hp _ (.head _)) (.o (hp _ (.tail _ (.head _))) (.ss (.rn (.bH [.agg [.nil .slc,.nil .slc,.nil .slc,.nil .slc,.int .i64 0],.int .i64 (jy p.1 p.2.1)]) rfl) (.ss (.rn (.bH [.agg [.nil .slc,.nil .slc,.nil .slc,.nil .slc,.int .i64 0],.int .i64 4]) rfl) (.o (hp _ (.head _)) (.o (show p.2.1.length<=aO from by have:p.2.1.length<=2^20:=hp _ (.tail _ (.head _));unfold aO;omega) .rr))))))
open Go Tw Pv fZ
abbrev nv (s o:List Int):Dg:=cDg s o V0
theorem a7I (s o:List Int):cellsD (nv s o)=List.replicate (cnt s) V0:=by
 refine List.eq_replicate_iff.2 ⟨by unfold cellsD;simp,fun b hb=>?_⟩;unfold cellsD at hb;obtain⟨k,_,rfl⟩:=List.mem_map.1 hb;unfold a6m;show [V0].getD _ V0=V0;cases (BO (atR (nv s o) (a2o s ↑k))).toNat with
 |zero=>rfl
 |succ i=>rfl
theorem aef (s o:List Int):vM (nv s o)=true:=by kernel_rfl
theorem afo (s o:List Int):KU (nv s o)=true:=by kernel_rfl
theorem aeg {s o:List Int}(h:jy s o=0):a6k (nv s o)=0:=by
 have h1:iE (nv s o)=0:=by
  unfold iE;rw[if_neg (by rw[show (nv s o).sizes=s from rfl,show (nv s o).order=o from rfl,h];simp),if_neg (by simp),aef];rfl
 unfold a6k;rw[if_neg (by rw[h1];simp),afo];rfl
theorem ab4 {s o:List Int}(hs:s.length<=aO)(ho:o.length<=2^20):DgP (nv s o):=
 ⟨⟨fun i hi=>(by cases hi),⟨(by decide:(-2^63:Int)<=-1),(by decide:(-1:Int)<2^63)⟩,fun v hv=>(by rw[List.mem_singleton.1 hv];decide)⟩,hs,ho,show 1+1<=aO by unfold aO;omega⟩
theorem afp {s o:List Int}(hs:s.length<=aO)(ho:o.length<=2^20)(h:jy s o=0):Yh (nv s o)=(List.replicate (cnt s) V0,0):=by
 rw[a4d (ab4 hs ho),aeg h,a7I];rfl
theorem afq (s o:List Int):a0J (s,o) (nv s o)=true:=by
 unfold a0J;simp
theorem afr {s o:List Int}{f:List Fc}(hs:s.length<=aO)(ho:o.length<=2^20)(h:jy s o=0):a3u s o f (nv s o)=a6I s o f:=by
 unfold a3u;by_cases hb:a6I s o f=0
 ·rw[if_neg (by rw[hb];simp),afp hs ho h,if_neg (by simp),afq,hb];rfl
 rw[if_pos (by simpa using hb)]
theorem acE {s o:List Int}{f:List Fc}(h:a6I s o f=0):jy s o=0:=by
 unfold a6I at h;split at h
 ·exact h
 rename_i h2;simpa using h2
structure CsP (s o:List Int)(f:List Fc):Prop where
 ls:s.length<=aO
 lo:o.length<=2^20
 lf:f.length<=aO
 ld:∀d∈lW f,DgP d
theorem CsP.cas {s o:List Int}{f:List Fc}(h:CsP s o f):aaH s o f (nv s o):=⟨h.ls,h.lo,h.lf,h.ld,ab4 h.ls h.lo⟩
section
variable {n:Nat}(hO:Ok (n+1) a8o)(hQ:Ok n a0K){s o:List Int}{f:List Fc}(hp:CsP s o f)
include hO hQ hp
theorem aeh (h:a6I s o f≠0):qC X0 Tryz.prog (ApN (n+2)) (.fn 96 [] []) [lI s,lI o,lFc f] [] (.bH [.nil .ptr,.int .i64 (a6I s o f)]) []:=
 a2n hX hO (first:=[]) (cap:=[]) (by kernel_rfl) (.o hp.ls (.o hp.lo (.o hp.lf (.o hp.ld (.b (show (a6I s o f != 0)=true by simpa using h) .er)))))
theorem aei (h:a6I s o f=0)(hc:WOk f (nv s o)):qC X0 Tryz.prog (ApN (n+2)) (.fn 96 [] []) [lI s,lI o,lFc f] [] (.bH [.ptr 1 0 9,.int .i64 0]) (HT0 s o f (nv s o) (a13 f (nv s o))):=by
 have hf:=acE h;have w:=agS hQ hp.cas ((afr hp.ls hp.lo hf).trans h) hc.1 hc.2;have h1:(a6I s o f != 0)=false:=by rw[h];rfl
 have e:a9N s o V0=(nv s o,0):=by
  unfold a9N;rw[if_neg (by rw[hf];simp),if_neg (by decide)]
 have e1:((a9N s o V0).2 != 0)=false:=by rw[e];rfl
 have w2:qC X0 Tryz.prog (ApN (n+1)) (.fn 112 [] []) [lI s,lI o,lFc f,.agg (a9N s o V0).1.ps] [] (.bH [.ptr 1 0 9,.int .i64 0]) (HT0 s o f (nv s o) (a13 f (nv s o))):=by rw[e];exact w
 exact a2n hX hO (first:=[]) (cap:=[]) (by kernel_rfl) (.o hp.ls (.o hp.lo (.o hp.lf (.o hp.ld (.b h1 (.o hp.ls (.o hp.lo (.b e1 (.fr [] w2 .er)))))))))
end
def ac3 (f:List Fc)(m:List Pc)(a:Int):Bool:=!(uq m (KY (adO f) a))
theorem afs {n:Nat}(s o:List Int)(f:List Fc)(g:Dg)(m:List Pc):qC X0 Tryz.prog (ApN (n+1)) (.fn 114 [] []) [.ptr 1 0 9] (Hq s o f g m) (.int .u64 (adO f)) (Hq s o f g m):=
 a2n hX ok0 (first:=[]) (cap:=[]) (by kernel_rfl) (.o (show (0:Int)<=(f.length:Int)by omega) .er)
theorem amL {n:Nat}(hO:Ok n a8o)(a b:Int):qC X0 Tryz.prog (ApN n) (.fn 115 [] []) [.int .u64 a,.int .u64 b] [] (.int .u64 (KY a b)) []:=
 Con.af4 hX (first:=[]) (cap:=[]) (hO 115 [.int .u64 a,.int .u64 b] (pA.put (KY a b)) [] [] (by kernel_rfl) (fun p h=>by cases h)) rfl rfl rfl rfl
theorem amM {n:Nat}(hO:Ok (n+1) a8o)(hQ:Ok n a0K)(s o:List Int)(f:List Fc)(g:Dg)(m:List Pc)(hm:m.length<LL)(a:Int):qC X0 Tryz.prog (ApN (n+2)) (.fn 129 [] []) [.ptr 1 0 9,.int .u64 a] (Hq s o f g m) (.bool (ac3 f m a)) (Hq s o f g m):=
 a2n hX ok0 (first:=[]) (cap:=[]) (by kernel_rfl) (.k (afs (n:=n) s o f g m) (.fr [] (amL hO (adO f) a) (.k (ajv hQ s o f g m (KY (adO f) a) hm) .er)))
end Go.Proofs.YtjkgcifieggcpaaGreat
namespace Pv
open Go Tw
theorem Good.ag4 {X:iQ}{P:Program}{T:iF}{L:Nat}{α β:Type}{f:FuncId}{a:NS X P α}{r:Ar X P β}{S:α->β}{pre:α->List Prop}{kX acN akb akc:iO X.Γ}(d:Nat)(hg:Good X P T L kX)(hg2:Good X P T L acN)(hg3:Good X P T L akb)(hg4:Good X P T L akc)
  (hf:∀n,d<=n->(∀m,n-d<=m->lC X P (AZ P T L m) kX)->(∀m,n-d<=m->lC X P (AZ P T L m) acN)->(∀m,n-d<=m->lC X P (AZ P T L m) akb)->(∀m,n-d<=m->lC X P (AZ P T L m) akc)->∀x,(∀p∈pre x,p)->Con X P (AZ P T L (n+1)) f (a.put x) (r.put (S x)) []):Good X P T L (dL f a r S pre kX):=by
 obtain⟨N2,hN2⟩:=hg2;obtain⟨N3,hN3⟩:=hg3;obtain⟨N4,hN4⟩:=hg4;obtain⟨M,hM⟩:=hg;refine⟨M+N2+N3+N4+d+1,fun n hn=>?_⟩;obtain⟨k,rfl⟩:∃k,n=k+1:=⟨n-1,by omega⟩;intro g vs v ext ps ho hp;unfold dL at ho;split at ho
 ·rename_i e;have e:=Nat.eq_of_beq_eq_true e;subst e;split at ho
  ·rename_i x hx;cases ho;intro A h first args cap hup hv
   exact hf k (by omega) (fun m hm=>hM m (by omega)) (fun m hm=>hN2 m (by omega)) (fun m hm=>hN3 m (by omega)) (fun m hm=>hN4 m (by omega)) x hp A h first args cap hup (a.ok hx hv)
  ·exact hM (k+1) (by omega) g vs v ext ps ho hp
 ·exact hM (k+1) (by omega) g vs v ext ps ho hp
end Pv
namespace Go.Proofs.YtjkgcifieggcpaaGreat
open Go Tw Pv fZ
def fGu (s o:List Int)(f:List Fc)(a:Nat):Bool:=ac3 f (a13 f (nv s o)) (a:Int)
def a0U (φ:List Int->List Int->List Fc->Nat->Bool)(s o:List Int)(f:List Fc):List Int×Int:=if a6I s o f=0 then a3C (φ s o f) f.length else ([],a6I s o f)
def a0V (φ:List Int->List Int->List Fc->Nat->Bool)(s o:List Int)(f:List Fc):List (List Int)×Int:=if a6I s o f=0 then (a3O (φ s o f) f.length,0)else ([],a6I s o f)
abbrev OkP (p:List Int×List Int×List Fc):Prop:=a6I p.1 p.2.1 p.2.2=0->WOk p.2.2 (nv p.1 p.2.1)∧p.2.2.length<8
theorem akd {n:Nat}(hO:∀k,n<=k->Ok k a8o)(hQ:∀k,n<=k->Ok k a0K)(s o:List Int)(f:List Fc)(g:Dg)(m:List Pc)(hm:m.length<LL):∀k,n<=k->∀a:Nat,a<128->qC X0 Tryz.prog (ApN (k+3)) (.fn 129 [] []) [.ptr 1 0 9,.int .u64 (a:Int)] (Hq s o f g m) (.bool (ac3 f m (a:Int))) (Hq s o f g m):=
 fun k hk a _=>amM (hO (k+2) (by omega)) (hQ (k+1) (by omega)) s o f g m hm (a:Int)
noncomputable def ake:iO bM:=dL 90 (a3 qw qw a5R) (V3 (a2 qw iA)) (fun p=>a0U fGu p.1 p.2.1 p.2.2) (fun p=>[CsP p.1 p.2.1 p.2.2,OkP p]) a8o
theorem amO:Gd ake:=aee.ag4 20 adG ahf aee fun n hn hO hQ hB hC p hp=>by
 obtain⟨s,o,f⟩:=p;have h1:CsP s o f:=hp _ (.head _);have h2:a6I s o f=0->WOk f (nv s o)∧f.length<8:=hp _ (.tail _ (.head _));obtain⟨n,rfl⟩:∃k,n=k+20:=⟨n-20,by omega⟩;show Con X0 Tryz.prog _ _ _ ((V3 (a2 qw iA)).put (a0U fGu s o f)) _;unfold a0U;by_cases h:a6I s o f=0
 ·rw[if_pos h];obtain⟨hw,hf⟩:=h2 h;have w:=aei (hC (n+19) (by omega)) (hQ (n+18) (by omega)) h1 h hw;have hm:(a13 f (nv s o)).length<LL:=by have:=abL (f:=f) (g:=nv s o);have:=LLm;have:=hw.1;omega
  have e:=ahv (N:=n) (φ:=fGu s o f) hf (fun k hk=>hB k (by omega)) (akd (n:=n) (fun k hk=>hC k (by omega)) (fun k hk=>hQ k (by omega)) s o f (nv s o) (a13 f (nv s o)) hm) (n:=n+13) (by omega);unfold a3C;cases hz:(a0h f.length).find? (fGu s o f)with
  |none=>
   rw[hz]at e;exact dS hX (hO (n+20) (by omega)) (by kernel_rfl) (.fr [] w (.b (rfl:((0:Int) != 0)=false) (.fr [0,1] e (.rn (.bH [.nil .slc,.int .i64 7]) rfl))))
  |some a=>
   rw[hz]at e;exact dS hX (hO (n+20) (by omega)) (by kernel_rfl) (.fr [] w (.b (rfl:((0:Int) != 0)=false) (.fr [0,1] e .rr)))
 ·rw[if_neg h];have w:=aeh (hC (n+19) (by omega)) (hQ (n+18) (by omega)) h1 h;exact dS hX (hO (n+20) (by omega)) (by kernel_rfl) (.fr [] w (.b (show (a6I s o f != 0)=true by simpa using h) (.rn (.bH [.nil .slc,.int .i64 (a6I s o f)]) rfl)))
noncomputable def aej:iO bM:=dL 88 (a3 qw qw a5R) (V3 (a2 ac9 iA)) (fun p=>a0V fGu p.1 p.2.1 p.2.2) (fun p=>[CsP p.1 p.2.1 p.2.2,OkP p]) ake
theorem amP:Gd aej:=amO.ag4 20 adG ahf aee fun n hn hO hQ hB hC p hp=>by
 obtain⟨s,o,f⟩:=p;have h1:CsP s o f:=hp _ (.head _);have h2:a6I s o f=0->WOk f (nv s o)∧f.length<8:=hp _ (.tail _ (.head _));obtain⟨n,rfl⟩:∃k,n=k+20:=⟨n-20,by omega⟩;show Con X0 Tryz.prog _ _ _ ((V3 (a2 ac9 iA)).put (a0V fGu s o f)) _;unfold a0V;by_cases h:a6I s o f=0
 ·rw[if_pos h];obtain⟨hw,hf⟩:=h2 h;have w:=aei (hC (n+19) (by omega)) (hQ (n+18) (by omega)) h1 h hw;have hm:(a13 f (nv s o)).length<LL:=by have:=abL (f:=f) (g:=nv s o);have:=LLm;have:=hw.1;omega
  have e:=amJ (N:=n) (φ:=fGu s o f) hf (fun k hk=>hB k (by omega)) (akd (n:=n) (fun k hk=>hC k (by omega)) (fun k hk=>hQ k (by omega)) s o f (nv s o) (a13 f (nv s o)) hm) (n:=n+13) (by omega);have hi:=a9K (fGu s o f) hf;unfold a3O;generalize (a0h f.length).foldl (fMi (fGu s o f)) []=L at e hi;have e9:=s99 (hB (n+19) (by omega)) (L.map fun a:Nat=>(a:Int)) (by rw[List.length_map];have:=hi.len;unfold aO;omega) (r:=L.map fun a:Nat=>TL (a:Int)) (List.map_map ..);exact dS hX (hO (n+20) (by omega)) (by kernel_rfl) (.fr [] w (.b (rfl:((0:Int) != 0)=false) (.fr [0,1] e (.fr [2] e9 .rr))))
 ·rw[if_neg h];have w:=aeh (hC (n+19) (by omega)) (hQ (n+18) (by omega)) h1 h;exact dS hX (hO (n+20) (by omega)) (by kernel_rfl) (.fr [] w (.b (show (a6I s o f != 0)=true by simpa using h) (.rn (.bH [.nil .slc,.int .i64 (a6I s o f)]) rfl)))
open Go Tw Pv fZ
abbrev wMn (m:List (List Bool))(g:List Bool)(up:Bool)(y:List (List Int))(i:Int)(x:List (Nat×PE bM)):aV bM:=⟨[(1,.val (.bool up)),(2,.loc 0 0),(5,.val (.own 0)),(6,xi i)]++x,[[lBs m,lB g]],[.list false false 22 y]⟩
abbrev wIm (m:List (List Bool))(g:List Bool)(up:Bool)(y:List (List Int))(i:Int)(b:Bool)(j:Int)(x:List (Nat×PE bM)):aV bM:=⟨[(1,.val (.bool up)),(2,.loc 0 0),(5,.val (.own 0)),(6,xi i),(7,.val (.bool b)),(8,xi j)]++x,[[lBs m,lB g]],[.list false false 22 y]⟩
abbrev wA2 (m:List (List Bool))(g:List Bool)(up:Bool)(y:List (List Int))(i:Int)(z:List Int)(j:Int)(x:List (Nat×PE bM)):aV bM:=⟨[(1,.val (.bool up)),(2,.loc 0 0),(5,.val (.own 0)),(6,xi i),(9,.val (lI z)),(10,xi j)]++x,[[lBs m,lB g]],[.list false false 22 y]⟩
theorem lIm {n:Nat}(hO:Ok n aej){m:List (List Bool)}{g:List Bool}(h:FaP m g)(hm:m.length<=10)(up:Bool)(y:List (List Int))(i:Int):LpB n 28 1 0 (wIm m g up y i (a1I m g i up) 0 []) (.exit 2) (wIm m g up y i (a9H m g up i) m.length [(29,xl false)]):=by
 refine a0j (σ:=Bool) (N:=m.length) (g:=gIm m g up i) (s0:=a1I m g i up) (st:=fun j b=>wIm m g up y i b j []) (fin:=fun b=>wIm m g up y i b m.length [(29,xl false)]) (fun _ _=>True) (by kernel_rfl) (by unfold aO;omega) trivial (fun _ _ _ _=>trivial) (fun j b hj _ m1 e p g9=>?_) (fun b _=>?_)
 ·unfold gIm at g9;have t2:(2:Int)≠0:=by decide
  cases b
  ·rw[if_neg (by simp)]at g9;exact round hX hO (by kernel_rfl) (.b (a2m hj) (.b (rfl:false=false) (.goG [.lit] g9)))
  rw[if_pos rfl]at g9;cases hr:(a4U .i64 (a1A .i64 i (IntKind.u64.wrap j)) 2==0)
  ·rw[hr,if_neg (by simp)]at g9;exact round hX hO (by kernel_rfl) (.b (a2m hj) (.b (rfl:true=true) (.o (u0 (j:Int)) (.o t2 (.b hr (.o (u0 (j:Int)) (.o h (.go g9))))))))
  rw[hr,if_pos rfl]at g9;exact round hX hO (by kernel_rfl) (.b (a2m hj) (.b (rfl:true=true) (.o (u0 (j:Int)) (.o t2 (.b hr (.goG [.lit] g9))))))
 exact round hX hO (by kernel_rfl) (.b (a5L m.length) .ex)
def a9O (y:List (List Int))(z:List Int)(k:Nat)(_:Unit):Unit⊕Nat:=if a0f (y.getD k []) z=true then .inl ()else .inr k
def a7J (y:List (List Int))(z:List Int):Nat:=(y.takeWhile fun a=>a0f a z).length
theorem ac4 {y:List (List Int)}{z:List Int}:∀(m k:Nat),k+m=y.length->Rt (a9O y z) m k ()=if ((y.drop k).takeWhile fun a=>a0f a z).length<m then .inr (k+((y.drop k).takeWhile fun a=>a0f a z).length)else .inl ()
 | 0,k,h=>by
  rw[Rt,if_neg (by omega)]
 |m+1,k,h=>by
  have hk:k<y.length:=by omega
  have hd:y.drop k=y[k]::y.drop (k+1):=List.drop_eq_getElem_cons hk;have hg:y.getD k []=y[k]:=by rw[List.getD_eq_getElem?_getD,List.getElem?_eq_getElem hk];rfl
  rw[Rt];unfold a9O;rw[hg,hd,List.takeWhile_cons];cases hs:a0f y[k] z
  ·simp only[Bool.false_eq_true,if_false,List.length_nil,Nat.add_zero];rw[if_pos (Nat.succ_pos m)]
  rw[if_pos rfl,if_pos rfl,List.length_cons];have ih:=ac4 (y:=y) (z:=z) m (k+1) (by omega);unfold a9O at ih;show Rt _ m (k+1) ()=_;rw[ih];by_cases hl:((y.drop (k+1)).takeWhile fun a=>a0f a z).length<m
  ·rw[if_pos hl,if_pos (by omega)];congr 1;omega
  rw[if_neg hl,if_neg (by omega)]
theorem ahw (y:List (List Int))(z:List Int):Rt (a9O y z) y.length 0 ()=if a7J y z<y.length then .inr (a7J y z)else .inl ():=by
 have h:=ac4 (y:=y) (z:=z) y.length 0 (by omega);rw[List.drop_zero,Nat.zero_add]at h;exact h
theorem a8K (y:List (List Int))(z:List Int):a7J y z<=y.length:=(List.takeWhile_sublist _).length_le
def zA2 (m:List (List Bool))(g:List Bool)(up:Bool)(y:List (List Int))(i:Int)(z:List Int):Unit⊕Nat->Ex×aV bM
 |.inl _=>(.exit 4,wA2 m g up y i z y.length [(67,xl false)])
 |.inr k=>(.exit 4,wA2 m g up y i z k [(67,xl false)])
theorem lA2 {n:Nat}(hO:Ok n aej)(m:List (List Bool))(g:List Bool)(up:Bool){y:List (List Int)}(hy:y.length<=aO)(hs:∀a∈y,a.length<=aO)(i:Int)(z:List Int):LpB n 28 2 0 (wA2 m g up y i z 0 []) (.exit 4) (wA2 m g up y i z (a7J y z) [(67,xl false)]):=by
 have lp:LpB n 28 2 0 (wA2 m g up y i z 0 []) (zA2 m g up y i z (Rt (a9O y z) y.length 0 ())).1 (zA2 m g up y i z (Rt (a9O y z) y.length 0 ())).2:=by
  refine rC (st:=fun j _=>wA2 m g up y i z j []) (g:=a9O y z) (out:=zA2 m g up y i z) (fun _ _=>True) (by kernel_rfl) hy trivial (fun k u c hk _ ih=>?_) (fun _ _=>?_)
  ·have hl:(y.getD k []).length<=aO:=hs _ (Vw hk);unfold a9O;exact round hX hO (by kernel_rfl) (.b (a2m hk) (.o (dB hk) (.o hl (.ls (.nx (ih _ trivial)) (.ou nofun)))))
  exact round hX hO (by kernel_rfl) (.b (a5L y.length) (.ou nofun))
 rw[ahw]at lp;have hle:=a8K y z;by_cases h:a7J y z<y.length
 ·rw[if_pos h]at lp;exact lp
 rw[if_neg h]at lp;have:y.length=a7J y z:=by omega
 have lp:LpB n 28 2 0 (wA2 m g up y i z 0 []) (.exit 4) (wA2 m g up y i z y.length [(67,xl false)]):=lp;rw[show ((y.length:Nat):Int)=((a7J y z:Nat):Int)by rw[this]]at lp;exact lp
theorem a8L (z:List Int)(y:List (List Int)):aaV z y=y.take (a7J y z)++z::y.drop (a7J y z):=by
 unfold aaV a7J;have h:=List.takeWhile_append_dropWhile (p:=fun a=>a0f a z) (l:=y);have e1:=List.take_left (l₁:=y.takeWhile fun a=>a0f a z) (l₂:=y.dropWhile fun a=>a0f a z);have e2:=List.drop_left (l₁:=y.takeWhile fun a=>a0f a z) (l₂:=y.dropWhile fun a=>a0f a z);rw[h]at e1 e2;rw[e1,e2]
theorem ahx (z:List Int)(y:List (List Int)){a:Nat}(ha:a<y.length):(yG y ((a:Int).toNat-((0:Nat):Int).toNat) [z].length [z]).take ((a:Int).toNat-((0:Nat):Int).toNat+[z].length)++([]++(y.drop (a:Int).toNat).take (((y.length:Nat):Int).toNat-(a:Int).toNat))=y.take a++z::y.drop a:=by
 have e1:(a:Int).toNat=a:=Int.toNat_natCast a;have e2:((y.length:Nat):Int).toNat=y.length:=Int.toNat_natCast _;have e3:((0:Nat):Int).toNat=0:=rfl;rw[e1,e2,e3,Nat.sub_zero,List.nil_append,List.length_singleton];have e4:(y.drop a).take (y.length-a)=y.drop a:=List.take_of_length_le (by rw[List.length_drop];omega);rw[e4];unfold yG;rw[List.take_append_of_le_length (by simp;omega),List.take_of_length_le (by simp;omega)];simp
theorem aft (z:List Int)(y:List (List Int)){a:Nat}(ha:a=y.length):(y.take ((a:Int).toNat-((0:Nat):Int).toNat)++[z])++([]++(y.drop (a:Int).toNat).take (((y.length:Nat):Int).toNat-(a:Int).toNat))=y.take a++z::y.drop a:=by
 have e1:(a:Int).toNat=a:=Int.toNat_natCast a;have e3:((0:Nat):Int).toNat=0:=rfl;rw[e1,e3,Nat.sub_zero,List.nil_append];subst ha;simp
theorem aek (z:List Int)(y:List (List Int)):(aaV z y).length=y.length+1:=by
 rw[a8L];have:=a8K y z;simp;omega
theorem ael {z:List Int}{y:List (List Int)}{a:List Int}(h:a∈aaV z y):a=z∨a∈y:=by
 rw[a8L]at h;rcases List.mem_append.1 h with h|h
 ·exact .inr (List.mem_of_mem_take h)
 rcases List.mem_cons.1 h with h|h
 ·exact .inl h
 exact .inr (List.mem_of_mem_drop h)
theorem lMn {n:Nat}(hO:Ok n aej){m:List (List Bool)}{g:List Bool}(h:FaP m g)(hm:m.length<=10)(up:Bool):LpB n 28 0 0 (wMn m g up [] 0 []) (.exit 0) (wMn m g up (a3x m g up) ((2^m.length:Nat):Int) [(18,xl false)]):=by
 have h2:=abO hm;have h3:=afU hm;refine a0j (σ:=List (List Int)) (N:=2^m.length) (g:=gRm m g up) (s0:=[]) (st:=fun i y=>wMn m g up y i []) (fin:=fun y=>wMn m g up y ((2^m.length:Nat):Int) [(18,xl false)]) (fun k y=>y.length<=k∧∀a∈y,a.length<=aO) (by kernel_rfl) (by unfold aO;omega) ⟨Nat.le_refl 0,fun a ha=>(by cases ha)⟩ (fun j y hj hy=>?_) (fun j y hj hy m1 e p g9=>?_) (fun y _=>?_)
 ·unfold gRm;split
  ·refine⟨by rw[aek];have:=hy.1;omega,fun a ha=>?_⟩;rcases ael ha with rfl|ha
   ·have:=a9y (j:Int);have:=a7B (k:=j) (by omega);unfold aO;omega
   exact hy.2 a ha
  exact⟨by have:=hy.1;omega,hy.2⟩
 ·have t1:decide ((j:Int)<a4V .i64 1 (IntKind.u64.wrap m.length))=true:=by rw[h2];exact a2m hj
  have hb:a3m (j:Int)<63:=a7B (by omega);have hyl:y.length<=1024:=by have:=hy.1;omega
  have l1:=lIm hO h hm up y (j:Int);have l2:=lA2 hO m g up (y:=y) (by unfold aO;omega) hy.2 (j:Int) (dV (j:Int));unfold gRm at g9;cases hi:a9H m g up (j:Int)
  ·rw[hi,if_neg (by simp)]at g9;rw[hi]at l1;exact round hX hO (by kernel_rfl) (.o (u0 (m.length:Int)) (.b t1 (.o h (.w l1 (.b (rfl:(!false)=true) (.go g9))))))
  rw[hi,if_pos rfl,a8L]at g9;rw[hi]at l1;have hle:=a8K y (dV (j:Int));generalize dV (j:Int)=z at g9 l2 hle;generalize a7J y z=a at g9 l2 hle;have o1:(0:Int)<=(a:Int):=by omega
  have o2:(a:Int)<=((y.length:Nat):Int):=by omega
  have o3:((y.length:Nat):Int)<=((y.length:Nat):Int):=Int.le_refl _;have e1:(a:Int).toNat=a:=Int.toNat_natCast a;have e2:((y.length:Nat):Int).toNat=y.length:=Int.toNat_natCast _;have e3:((0:Nat):Int).toNat=0:=rfl;have o4:([]:List (List Int)).length+((y.drop (a:Int).toNat).take (((y.length:Nat):Int).toNat-(a:Int).toNat)).length<=aO:=by
   rw[List.length_take,List.length_drop,List.length_nil,e1,e2];unfold aO;omega
  have o5:((0:Nat):Int)<=(a:Int):=by omega
  have o0:(0:Int)<=((0:Nat):Int):=by omega
  have hr:(([]:List (List Int))++(y.drop (a:Int).toNat).take (((y.length:Nat):Int).toNat-(a:Int).toNat)).length=y.length-a:=by
   rw[List.nil_append,List.length_take,List.length_drop,e1,e2];omega
  by_cases ha:a<y.length
  ·rw[<-ahx z y ha]at g9;have o6:[z]≠[]:=(by simp);have o7:(a:Int).toNat-((0:Nat):Int).toNat+[z].length<=y.length:=by rw[e1,e3,List.length_singleton];omega
   have hp:(yG y ((a:Int).toNat-((0:Nat):Int).toNat) [z].length [z]).length=y.length:=Bc o7 (Nat.le_refl _);have o8:(yG y ((a:Int).toNat-((0:Nat):Int).toNat) [z].length [z]).length<(a:Int).toNat-((0:Nat):Int).toNat+[z].length+(([]:List (List Int))++(y.drop (a:Int).toNat).take (((y.length:Nat):Int).toNat-(a:Int).toNat)).length:=by
    rw[hp,hr,e1,e3,List.length_singleton];omega
   have o9:(a:Int).toNat-((0:Nat):Int).toNat+[z].length+(([]:List (List Int))++(y.drop (a:Int).toNat).take (((y.length:Nat):Int).toNat-(a:Int).toNat)).length<=aO:=by
    rw[hr,e1,e3,List.length_singleton];unfold aO;omega
   have o10:(a:Int).toNat-((0:Nat):Int).toNat+[z].length=0->yG y ((a:Int).toNat-((0:Nat):Int).toNat) [z].length [z]=[]:=fun h=>by rw[List.length_singleton]at h;omega
   exact round hX hO (by kernel_rfl) (.o (u0 (m.length:Int)) (.b t1 (.o h (.w l1 (.b (rfl:(!true)=false) (.o hb (.w l2 (.o o1 (.o o2 (.o o3 (.o o4 (.o o0 (.o o5 (.o o2 (.a .no (.o o6 (.o o7 (.o o8 (.o o9 (.o o10 (.goG [.gc [4]] g9)))))))))))))))))))))
  have ha:a=y.length:=by omega
  rw[<-aft z y ha]at g9;have o6:y.length<(a:Int).toNat-((0:Nat):Int).toNat+[z].length:=by rw[e1,e3,List.length_singleton];omega
  have o7:(a:Int).toNat-((0:Nat):Int).toNat+[z].length<=aO:=by rw[e1,e3,List.length_singleton];unfold aO;omega
  have o8:(a:Int).toNat-((0:Nat):Int).toNat=0->y=[]:=fun h=>by rw[e1,e3]at h;exact List.length_eq_zero_iff.1 (by omega)
  have o9:(y.take ((a:Int).toNat-((0:Nat):Int).toNat)++[z]).length+(([]:List (List Int))++(y.drop (a:Int).toNat).take (((y.length:Nat):Int).toNat-(a:Int).toNat)).length<=aO:=by
   rw[hr,List.length_append,List.length_take,List.length_singleton,e1,e3];unfold aO;omega
  exact round hX hO (by kernel_rfl) (.o (u0 (m.length:Int)) (.b t1 (.o h (.w l1 (.b (rfl:(!true)=false) (.o hb (.w l2 (.o o1 (.o o2 (.o o3 (.o o4 (.o o0 (.o o5 (.o o2 (.o o6 (.o o7 (.o o8 (.o o9 (.goG [.gc [5]] g9)))))))))))))))))))
 have t1:decide ((((2^m.length:Nat)):Int)<a4V .i64 1 (IntKind.u64.wrap m.length))=false:=by rw[h2];exact a5L _
 exact round hX hO (by kernel_rfl) (.o (u0 (m.length:Int)) (.b t1 .ex))
noncomputable def ahy:iO bM:=dL 28 (a2 faA tA) ac9 (fun p=>a3x p.1.1 p.1.2 p.2) (fun p=>[FaP p.1.1 p.1.2,p.1.1.length<=10]) aej
theorem amR:Gd ahy:=amP.add fun n hO p hp=>by
 obtain⟨⟨m,g⟩,up⟩:=p;exact dS hX hO (by kernel_rfl) (.wG [.Nr 5 22] (lMn (n:=n) hO (hp _ (.head _)) (hp _ (.tail _ (.head _))) up) .rr)
open Go Tw Pv fZ
abbrev wSS (a b:List (List Int))(i:Int)(x:List (Nat×PE bM)):aV bM:=⟨[(0,.val (.bK 22 a false)),(1,.val (.bK 22 b false)),(5,xi i)]++x,[],[]⟩
def cSS (a b:List (List Int))(k:Nat):Bool:=!(decide (a.getD k []=b.getD k []))
def zSS (a b:List (List Int)):Unit⊕Nat->Ex×aV bM
 |.inl _=>(.exit 0,wSS a b a.length [(14,xl false)])
 |.inr _=>(.ret,⟨[(4,xl false)],[],[]⟩)
structure SsP (a b:List (List Int)):Prop where
 la:a.length<=aO
 a:∀x∈a,x.length<=aO
theorem lSS {n:Nat}(hO:Ok n ahy){a b:List (List Int)}(h:SsP a b)(he:a.length=b.length):LpB n 27 0 0 (wSS a b 0 []) (zSS a b (pz (cSS a b) a.length)).1 (zSS a b (pz (cSS a b) a.length)).2:=by
 refine rC (st:=fun i _=>wSS a b i []) (g:=gS (cSS a b)) (out:=zSS a b) (fun _ _=>True) (by kernel_rfl) h.la trivial (fun k u m hk _ ih=>?_) (fun _ _=>?_)
 ·have h1:(a.getD k []).length<=aO:=h.a _ (Vw hk);unfold gS cSS;exact round hX hO (by kernel_rfl) (.b (a2m hk) (.o (dB hk) (.o (dB (show k<b.length by omega)) (.o h1 (.ls (.ou nofun) (.nx (ih _ trivial)))))))
 exact round hX hO (by kernel_rfl) (.b (a5L a.length) (.ou nofun))
theorem ahz {a b:List (List Int)}(he:a.length=b.length):G5 (pz (cSS a b) a.length)=decide (a=b):=by
 rw[Bool.eq_iff_iff,J8,decide_eq_true_iff];constructor
 ·intro h;refine List.ext_getElem he fun i h1 h2=>?_;have:=h i h1;unfold cSS at this;simpa[List.getD_eq_getElem?_getD,List.getElem?_eq_getElem h1,List.getElem?_eq_getElem h2]using this
 intro h j _;subst h;unfold cSS;simp
noncomputable def akg:iO bM:=dL 27 (a2 ac9 ac9) tA (fun p=>decide (p.1=p.2)) (fun p=>[SsP p.1 p.2]) ahy
theorem amU:Gd akg:=amR.add fun n hO p hp=>by
 obtain⟨a,b⟩:=p;have h:SsP a b:=hp _ (.head _);show Con X0 Tryz.prog _ _ _ (tA.put (decide (a=b))) _;by_cases he:a.length=b.length
 ·have hb:((a.length:Int) != (b.length:Int))=false:=by rw[he];simp
  have lp:=lSS (n:=n) hO h he;rw[<-ahz he];cases hs:G5 (pz (cSS a b) a.length)
  ·exact dS hX hO (by kernel_rfl) (.b hb (.w (Fa lp 0 hs) .rr))
  ·exact dS hX hO (by kernel_rfl) (.b hb (.w (xC lp () hs) .rr))
 ·have hb:((a.length:Int) != (b.length:Int))=true:=by simp;omega
  rw[decide_eq_false (fun e=>he (by rw[e]))];exact dS hX hO (by kernel_rfl) (.b hb .rr)
structure CkP (c:Ca):Prop where
 p:CaP c
 w:a3u c.s c.o c.f c.g=0->WOk c.f c.g
 n:a3u c.s c.o c.f c.g=0->c.f.length<8
 q:CsP c.s c.o c.f
 k:OkP (c.s,c.o,c.f)
noncomputable def aki:iO bM:=dL 47 (a1 caA) (V3 (a2 qw iA)) (fun p=>a0U fGu p.s p.o p.f) (fun p=>[CkP p]) akg
theorem amV:Gd aki:=amU.add fun n hO p hp=>dS hX hO (by kernel_rfl) (have k:CkP p:=hp _ (.head _);have h:=k.p;.o h.p.ls (.o h.o (.o h.p.lf (.o h.w (.o k.q (.o k.k .rr))))))
noncomputable def ahA:iO bM:=dL 45 (a1 caA) (V3 (a2 ac9 iA)) (fun p=>a0V fGu p.s p.o p.f) (fun p=>[CkP p]) aki
theorem amW:Gd ahA:=amV.add fun n hO p hp=>dS hX hO (by kernel_rfl) (have k:CkP p:=hp _ (.head _);have h:=k.p;.o h.p.ls (.o h.o (.o h.p.lf (.o h.w (.o k.q (.o k.k .rr))))))
open Go Tw Pv fZ
theorem acF {m:List (List Bool)}{g:List Bool}{up:Bool}{φ:Nat->Bool}{n:Nat}(hm:m.length=n)(hn:n<8)(h:∀a:Nat,a<2^n->a1I m g (a:Int) up=φ a):a3C φ n=if (a0k m g up).2=true then ((a0k m g up).1,0)else ([],7):=by
 rw[a9E hm hn h];unfold a3C acB;cases hz:(a0h n).find? φ with
 |none=>rfl
 |some a=>
  have h1:=a3w hn (List.mem_of_find?_eq_some hz);have h2:=a0A (n:=n) (by omega);show (TL (a:Int),(0:Int))=(dV (a:Int),0);rw[abU (by omega),abT (by omega)]
theorem aem {m:List (List Bool)}{g:List Bool}{up:Bool}{φ:Nat->Bool}{n:Nat}(hm:m.length=n)(hn:n<8)(h:∀a:Nat,a<2^n->a1I m g (a:Int) up=φ a)(hmo:aaO φ n):a3O φ n=a3x m g up:=by
 rw[ae9 hm hn h];unfold a3O;rw[show (a0h n).foldl (fMi φ) []=(a0h n).filter (a0l φ n)from a4R hn hmo (a0h n) [] rfl];refine List.map_congr_left fun a ha=>?_;have h1:=a3w hn (List.mem_filter.1 ha).1;have h2:=a0A (n:=n) (by omega);rw[abU (by omega),abT (by omega)]
theorem afu (φ:Nat->Bool){n:Nat}(hn:n<8)(b:List (List Int)):SsP (a3O φ n) b:=by
 refine⟨by unfold a3O;rw[List.length_map];have:=(a9K φ hn).len;unfold aO;omega,fun x hx=>?_⟩;unfold a3O at hx;obtain⟨a,_,rfl⟩:=List.mem_map.1 hx;exact a9A _
theorem acG (φ:Nat->Bool)(n:Nat):(a3C φ n).1.length<=aO:=by
 unfold a3C;split
 ·exact a9A _
 exact Nat.zero_le _
abbrev nc (c:Ca):Ca:=⟨c.s,c.o,c.f,nv c.s c.o⟩
theorem acH {c:Ca}(p:CaP c):CaP (nc c):=
 ⟨⟨p.p.ls,p.p.lo,p.p.lf,p.p.ld,ab4 p.p.ls p.p.lo⟩,p.o,p.d,p.w,⟨p.p.ls,p.o,show 1<=aO by unfold aO;omega,Nat.zero_le _,fun b hb=>(by cases hb)⟩⟩
theorem a8p {s o:List Int}{f:List Fc}(h:a0z s o f=0):jy s o=0:=by
 unfold a0z at h;split at h
 ·exact h
 rename_i h2;simpa using h2
theorem ac5 {c:Ca}(p:CaP c):a3M (nc c)=a6I c.s c.o c.f:=by
 rw[a8D p.d];unfold a3M;by_cases h:a0z c.s c.o c.f=0
 ·rw[if_neg (by rw[show (nc c).s=c.s from rfl,show (nc c).o=c.o from rfl,show (nc c).f=c.f from rfl,h];simp),aeg (a8p h),if_neg (by simp),if_neg (by simp),if_neg (by simp),h]
 rw[if_pos (by simpa using h)]
theorem ahB {c:Ca}(p:CaP c)(e:NoE c):WOk c.f c.g:=by
 refine⟨by rw[abV p e,e.v.c];exact e.v.m,fun k hk=>?_⟩;rw[a1g]at hk;rw[a7D p e hk,abV p e,abS e hk]
theorem aen {c:Ca}(p:CaP c)(h8:c.f.length≠8)(h0:a3M c=0):WOk c.f c.g∧c.f.length<8:=by
 have e:=adX p h0;have h9:=e.n;exact⟨ahB p e,Nat.lt_of_le_of_ne h9 h8⟩
theorem ahC {c:Ca}(hr:CaR c)(h:a2r c=true):CkP c where
 p:=a1M h hr
 w h0:=(aen (a1M h hr) (a3v h).2.2.2.1 ((a8j (a1M h hr)).symm.trans h0)).1
 n h0:=(aen (a1M h hr) (a3v h).2.2.2.1 ((a8j (a1M h hr)).symm.trans h0)).2
 q:=⟨(a1M h hr).p.ls,(a1M h hr).p.lo,(a1M h hr).p.lf,(a1M h hr).p.ld⟩
 k h0:=aen (c:=nc c) (acH (a1M h hr)) (a3v h).2.2.2.1 ((ac5 (a1M h hr)).trans h0)
open Go Tw Pv fZ
abbrev wKo (s o:List Int)(v:V)(y:List V)(i:Int)(x:List (Nat×PE bM)):aV bM:=⟨[(0,.val (lI s)),(1,.val (lI o)),(5,.loc 0 0),(6,.loc 1 0),(7,.val (.own 0)),(8,xi i)]++x,[v.ps,[.nil .slc,.nil .slc,.nil .slc,.nil .slc,.int .i64 0]],[.list false false 79 y]⟩
theorem akj (v:V):∀n:Nat,uo (fun _ (y:List V)=>y++[v]) n 0 []=List.replicate n v
 | 0=>rfl
 |n+1=>by rw[EL,akj v n,List.replicate_succ']
structure aeo (p:List Int×List Int×V):Prop where
 fine:nI p.1
 ord:EM p.1.length p.2.1=true
theorem a9P {s:List Int}(h:nI s):Bq s=((cnt s:Nat):Int)∧cnt s<=2000∧dD s=((cnt s:Nat):Int):=by
 have h1:=h.many;have h2:=KQ h.sz;have h0:=qp h.sz;unfold cnt;rw[h2];refine⟨by omega,by omega,by omega⟩
theorem lKo {n:Nat}(hO:Ok n ahA){s o:List Int}(h:nI s)(v:V):LpB n 56 0 0 (wKo s o v [] 0 []) (.exit 0) (wKo s o v (List.replicate (cnt s) v) (cnt s) [(12,xl false)]):=by
 obtain⟨c1,c2,_⟩:=a9P h;rw[<-akj v (cnt s)];refine a0j (σ:=List V) (N:=cnt s) (g:=fun _ y=>y++[v]) (s0:=[]) (st:=fun i y=>wKo s o v y i []) (fin:=fun y=>wKo s o v y (cnt s) [(12,xl false)]) (fun k y=>y.length<=k) (by kernel_rfl) (by unfold aO;omega) (Nat.le_refl 0) (fun j y hj hy=>by rw[List.length_append,List.length_singleton];omega) (fun j y hj hy m e p g9=>?_) (fun y _=>?_)
 ·have t1:decide ((j:Int)<Bq s)=true:=by rw[c1];exact a2m hj
  have h2:y.length+[v].length<=aO:=by simp only[List.length_singleton];unfold aO;omega
  exact round hX hO (by kernel_rfl) (.o h.a9U (.b t1 (.o h2 (.goG [.gc [2]] g9))))
 have t1:decide (((cnt s:Nat):Int)<Bq s)=false:=by rw[c1];exact a5L _
 exact round hX hO (by kernel_rfl) (.o h.a9U (.b t1 .ex))
theorem afv {s o:List Int}(hf:nI s)(ho:EM s.length o=true)(v:V):PtP s o (List.replicate (cnt s) v)∧o.length<=6∧wO s o<=aO:=by
 obtain⟨c1,c2,c3⟩:=a9P hf;have hw:=agN hf.sz ho;unfold EM at ho;rw[decide_eq_true_eq]at ho;obtain⟨h1,h2,_⟩:=ho;have h6:=hf.len;exact⟨⟨hf,fun c hc=>⟨(h2 c hc).1,(h2 c hc).2⟩,by rw[List.length_replicate,c3],by rw[h1];exact hf.a9U,hf.a9U⟩,by omega,by unfold aO;omega⟩
theorem a9Q {s:List Int}{l:List V}(hl:∀i,l.getD i V0=V0):∀(o p:List Int) (x:EN),(∀c∈o,1<=(s.getD c.toNat 0).toNat)->(x=([],[])∨x=([V0],[]))->Yi s l o p x=(-1,([V0],[]))
 |[],p,x,_,hx=>by
  unfold Yi;rw[hl];rcases hx with rfl|rfl<;>decide
 |c::r,p,x,h,hx=>by
  have hm:=h c (by simp);have f:=Ru (g:=gPt (Yi s l r) c p) (m:=(s.getD c.toNat 0).toNat) (k:=0) (s:=([],x)) (fun k y=>y.1=List.replicate k (-1)∧(y.2=([],[])∨y.2=([V0],[]))∧(1<=k->y.2=([V0],[]))) ⟨rfl,hx,fun h=>by omega⟩ (fun j y _ _ hy=>by
   obtain⟨h1,h2,_⟩:=hy;have e:=a9Q hl r (p.set c.toNat j) y.2 (fun c hc=>h c (by simp[hc])) h2;unfold gPt;rw[e,h1];exact⟨List.replicate_succ'.symm,.inr rfl,fun _=>rfl⟩)
  rw[Nat.zero_add]at f;obtain⟨f1,_,f3⟩:=f;have f3:=f3 hm;unfold Yi;dsimp only;generalize uo (gPt (Yi s l r) c p) (s.getD c.toNat 0).toNat 0 ([],x)=y at f1 f3;obtain⟨ks,z⟩:=y;dsimp only at f1 f3;subst f1;subst f3;have DK:((List.replicate (s.getD c.toNat 0).toNat (-1:Int)).all fun x=>x==(List.replicate (s.getD c.toNat 0).toNat (-1:Int)).getD 0 0)=true∧(List.replicate (s.getD c.toNat 0).toNat (-1:Int)).getD 0 0=-1:=by
   obtain⟨k,hk⟩:∃k,(s.getD c.toNat 0).toNat=k+1:=⟨(s.getD c.toNat 0).toNat-1,by omega⟩;rw[hk,List.replicate_succ];refine⟨List.all_eq_true.2 fun x hx=>?_,rfl⟩;rw[<-List.replicate_succ]at hx;rw[List.eq_of_mem_replicate hx];rfl
  unfold aaw aax;rw[if_pos DK.1,if_pos DK.1,DK.2]
theorem ab5 {s o:List Int}(hf:nI s)(ho:EM s.length o=true):aay s o (List.replicate (cnt s) V0)=cDg s o V0:=by
 unfold EM at ho;rw[decide_eq_true_eq]at ho;obtain⟨h1,h2,_⟩:=ho;unfold aay;rw[a9Q (fun i=>by rw[List.getD_eq_getElem?_getD,List.getElem?_replicate];split<;>rfl) o _ _ (fun c hc=>by
  have h3:=h2 c hc;have:=hf.sz _ (KP (s:=s) (k:=c.toNat) (by omega));omega) (.inl rfl)]
noncomputable def akk:iO bM:=dL 56 (a3 qw qw vA) dA (fun p=>aay p.1 p.2.1 (List.replicate (cnt p.1) p.2.2)) (fun p=>[aeo p]) ahA
theorem amY:Gd akk:=amW.add fun n hO p hp=>by
 obtain⟨s,o,v⟩:=p;have h:aeo (s,o,v):=hp _ (.head _);have hf:nI s:=h.fine;have ho:EM s.length o=true:=h.ord;have lp:=lKo (n:=n) hO (o:=o) hf v;obtain⟨q1,q2,q3⟩:=afv hf ho v;exact dS hX hO (by kernel_rfl) (.wG [.Nr 7 79] lp (.o q1 (.o q2 (.o q3 .rr))))
abbrev nd (s o:List Int):Dg:=aay s o (List.replicate (cnt s) V0)
noncomputable def akl:iO bM:=dL 74 (a2 qw qw) dA (fun p=>nd p.1 p.2) (fun p=>[aeo (p.1,p.2,V0)]) akk
theorem amZ:Gd akl:=amY.add fun n hO p hp=>dS hX hO (by kernel_rfl) (.o (hp _ (.head _)) .rr)
noncomputable def akm:iO bM:=dL 20 (a1 caA) iA (fun p=>a0z p.s p.o p.f) (fun p=>[CaP p]) akl
theorem an0:Gd akm:=amZ.add fun n hO p hp=>dS hX hO (by kernel_rfl) (have h:CaP p:=hp _ (.head _);.o h.o (.o h.p.lf (.o h.d .rr)))
noncomputable def ahD:iO bM:=dL 25 (a1 caA) faA (fun p=>(pF p.f,wC (nd p.s p.o))) (fun p=>[aeo (p.s,p.o,V0),p.f.length<=aO,∀k,k<p.f.length->a7P (fAt p.f k),a7P (nd p.s p.o)]) akm
theorem an4:Gd ahD:=an0.add fun n hO p hp=>dS hX hO (by kernel_rfl) (.o (hp _ (.head _)) (.o (hp _ (.tail _ (.head _))) (.o (hp _ (.tail _ (.tail _ (.head _)))) (.o (hp _ (.tail _ (.tail _ (.tail _ (.head _))))) .rr))))
open Go Tw Pv fZ
def a3n (n a:Nat):Nat:=(2^n-1) ^^^ ((2^n-1) &&& a)
theorem ahE:((R 8).all fun n=>(R 128).all fun a=>decide (KY (IntKind.u64.wrap (a4V .u64 1 (n:Int)-1)) (a:Int)=((a3n n a:Nat):Int)))=true:=by kernel_rfl
theorem ahF:((R 8).all fun n=>(R 128).all fun a=>decide (a7A n (a:Int)=((a3n n a:Nat):Int)))=true:=by kernel_rfl
theorem ahG:((R 8).all fun n=>(R 128).all fun a=>Nat.blt (a3n n a) (2^n)&&((R 7).all fun j=>(a3n n a).testBit j==(decide (j<n)&&!(a.testBit j))))=true:=by kernel_rfl
theorem akn {n a:Nat}(hn:n<8)(ha:a<128):KY (IntKind.u64.wrap (a4V .u64 1 (n:Int)-1)) (a:Int)=((a3n n a:Nat):Int):=by simpa using a0W (a0W ahE hn) ha
theorem ako {n a:Nat}(hn:n<8)(ha:a<128):a7A n (a:Int)=((a3n n a:Nat):Int):=by simpa using a0W (a0W ahF hn) ha
theorem a7K {n a:Nat}(hn:n<8)(ha:a<128):a3n n a<2^n∧∀j,j<7->(a3n n a).testBit j=(decide (j<n)&&!(a.testBit j)):=by
 have h:=a0W (a0W ahG hn) ha;simp only[Bool.and_eq_true]at h;exact⟨by simpa[Nat.blt_eq]using h.1,fun j hj=>eq_of_beq (a0W h.2 hj)⟩
theorem aep {n a b:Nat}(hn:n<8)(ha:a<128)(hb:b<128)(h:a0T a b=true):a0T (a3n n b) (a3n n a)=true:=a0c.2 fun k hk h1=>by
 rw[(a7K hn hb).2 k hk,Bool.and_eq_true]at h1;rw[(a7K hn ha).2 k hk,h1.1];cases hx:a.testBit k
 ·rfl
 ·rw[a0c.1 h k hk hx]at h1;simp at h1
theorem ag7 {s o:List Int}(hf:nI s)(ho:EM s.length o=true):nd s o=nv s o:=ab5 hf ho
section
variable {c:Ca}(p:CaP c)(e:NoE (nc c))(hn:c.f.length<=7)
include p e hn
theorem aes:∀x∈a13 c.f (nv c.s c.o),x.goal=false:=fun x hx=>by
 have pn:=acH p;have hg:=abV pn e;have Xr:(Yh (nc c).g).1.length=cnt (nc c).g.sizes:=by rw[hg];exact e.v.c
 have hc:∀k,k<(lW (nc c).f).length->(cAt (lW (nc c).f) k).length=cnt (nc c).g.sizes:=fun k hk=>by
  rw[a1g]at hk;rw[a7D pn e hk,(e.u k hk).c,e.s k hk]
 unfold a13 at hx;obtain⟨i,hi,rfl⟩:=(aaG _ _).1 hx;have hi:i<cnt (nc c).g.sizes:=by rw[a8C,a4q]at hi;exact Xr▸hi
 have:=(aaB (lW (nc c).f) (Yh (nc c).g).1 (cnt (nc c).g.sizes) Xr hc hi c.f.length (by rw[a1g];exact Nat.le_refl _) hn).2;unfold a3L;rw[a1g];have h2:(uo (g2W (lW (nc c).f)) c.f.length 0 (a1Q (Yh (nc c).g).1)).getD i Ag=_:=this;show ((uo (g2W (lW (nc c).f)) c.f.length 0 (a1Q (Yh (nc c).g).1)).getD i Ag).goal=false;rw[h2,hg];show decide ((cellsD (nv c.s c.o)).getD i V0=V1)=false;rw[a7I];have:(List.replicate (cnt c.s) V0).getD i V0=V0:=by
  rw[List.getD_eq_getElem?_getD,List.getElem?_replicate];split<;>rfl
 rw[this];rfl
theorem acI (a:Int):uq (a13 c.f (nv c.s c.o)) a=uw (a13 c.f (nv c.s c.o)) a:=by
 have hg:=aes p e hn;unfold uq uw;congr 1;rw[Bool.eq_iff_iff,List.any_eq_true,List.any_eq_true];constructor
 ·rintro⟨x,hx,h⟩;refine⟨x,hx,?_⟩;unfold bE;unfold bC at h;rw[h,hg x hx];rfl
 rintro⟨x,hx,h⟩;refine⟨x,hx,?_⟩;unfold bE at h;unfold bC;rw[Bool.and_eq_true]at h;exact h.1
theorem aeu (hf:nI c.s)(ho:EM c.s.length c.o=true):wC (nd c.s c.o)=wC (nc c).g:=by
 rw[ag7 hf ho]
theorem ab6 {a:Nat}(ha:a<128):fGu c.s c.o c.f a=!(phX (nc c) (a3n c.f.length a)):=by
 unfold fGu ac3 adO;rw[akn (by omega) ha,acI p e hn];rfl
theorem afw (hf:nI c.s)(ho:EM c.s.length c.o=true){a:Nat}(ha:a<2^c.f.length):a1I (pF c.f) (wC (nd c.s c.o)) (a:Int) true=fGu c.s c.o c.f a:=by
 have a3p:=a0A hn;have h8:c.f.length<8:=by omega
 rw[ab6 p e hn (by omega),<-afj (acH p) e hn (a7K h8 (by omega:a<128)).1,<-aeu p e hn hf ho];unfold a1I;rw[if_pos rfl,if_neg (by simp),a14,ako h8 (by omega)]
theorem aev:aaO (fGu c.s c.o c.f) c.f.length:=fun a b ha hb hi h=>by
 have a3p:=a0A hn;have h8:c.f.length<8:=by omega
 rw[ab6 p e hn (by omega)]at h ⊢;cases hx:phX (nc c) (a3n c.f.length b)
 ·rfl
 ·have:=aea (acH p) e hn _ _ (a7K h8 (by omega)).1 (a7K h8 (by omega)).1 (aep h8 (by omega) (by omega) hi) hx;rw[this]at h;cases h
theorem aew (hf:nI c.s):(acB (fGu c.s c.o c.f) c.f.length).2=true:=by
 have a3p:=a0A hn;have h8:c.f.length<8:=by omega
 have hp:=Nat.two_pow_pos c.f.length;have DK:fGu c.s c.o c.f (2^c.f.length-1)=true:=by
  rw[ab6 p e hn (by omega)];cases hx:phX (nc c) (a3n c.f.length (2^c.f.length-1))
  ·rfl
  exfalso;have h0:=(a4f (acH p) e hn (a7K h8 (by omega)).1).1 hx;have hc:0<cnt c.s:=by have:=qp hf.sz;unfold cnt;omega
  have:=h0 0 hc fun k hk hb=>by
   rw[(a7K h8 (by omega)).2 k (by have:k<c.f.length:=hk;omega),Nat.testBit_two_pow_sub_one]at hb;simp at hb
  have h9:decide ((cellsD (nv c.s c.o)).getD 0 V0=V1)=true:=this;rw[a7I]at h9;have:(List.replicate (cnt c.s) V0).getD 0 V0=V0:=by
   rw[List.getD_eq_getElem?_getD,List.getElem?_replicate];split<;>rfl
  rw[this]at h9;cases h9
 unfold acB;cases hz:(a0h c.f.length).find? (fGu c.s c.o c.f)with
 |some a=>rfl
 |none=>exact absurd DK (by rw[List.find?_eq_none]at hz;exact hz _ (a7E h8 (by omega)))
end
open Go Tw Pv fZ
theorem a9Y {n:Nat}(hO:Ok n ahD)(c:Ca)(hr:CaR c):Con X0 Tryz.prog (ApN (n+1)) 8 ((a1 caA).put c) (tA.put true) []:=by
 cases ht:a2r c
 ·have h1:(!(a2r c))=true:=by rw[ht];rfl
  exact dS hX hO (by kernel_rfl) (.b h1 .rr)
 have h1:(!(a2r c))=false:=by rw[ht];rfl
 obtain⟨t1,t2,t3,t4,t5,t6⟩:=a3v ht;have k:=ahC hr ht;have p:=k.p;have hb:=a8D (s:=c.s) (o:=c.o) p.d;have hlm:(pF c.f).length<=10:=by rw[a14];exact t3
 by_cases hg:a0z c.s c.o c.f=0
 ·have hg1:(a0z c.s c.o c.f != 0)=false:=by rw[hg];rfl
  have hbk:a6I c.s c.o c.f=0:=hb.trans hg;have e:=adX (acH p) ((ac5 p).trans hbk);have hn:c.f.length<=7:=by have:(nc c).f.length<=8:=e.n;have:c.f.length<=8:=this;omega
  have hn8:c.f.length<8:=by omega
  obtain⟨hf,ho⟩:=O1.1 (a8p hg);have Qu:aeo (c.s,c.o,V0):=⟨hf,ho⟩;have cf:∀j,j<c.f.length->a7P (fAt c.f j):=fun j hj=>⟨(e.u j hj).l,by rw[(e.u j hj).c];exact (e.u j hj).m⟩;have cg0:a7P (nc c).g:=⟨e.v.l,by rw[e.v.c];exact e.v.m⟩;have cg:a7P (nd c.s c.o):=by rw[ag7 hf ho];exact cg0
  have fa:FaP (pF c.f) (wC (nd c.s c.o)):=by rw[aeu p e hn hf ho];exact ahg e
  have hφ:∀a:Nat,a<2^c.f.length->a1I (pF c.f) (wC (nd c.s c.o)) (a:Int) true=fGu c.s c.o c.f a:=fun a ha=>afw p e hn hf ho ha;have hmo:aaO (fGu c.s c.o c.f) c.f.length:=aev p e hn;have hs:=acF (m:=pF c.f) a14 hn8 hφ;have hm:=aem (m:=pF c.f) a14 hn8 hφ hmo;have e1:a0U fGu c.s c.o c.f=if (a0k (pF c.f) (wC (nd c.s c.o)) true).2=true then ((a0k (pF c.f) (wC (nd c.s c.o)) true).1,0)else ([],7):=by
   unfold a0U;rw[if_pos hbk];exact hs
  have e2:a0V fGu c.s c.o c.f=(a3x (pF c.f) (wC (nd c.s c.o)) true,0):=by
   unfold a0V;rw[if_pos hbk];exact congrArg (fun x=>(x,(0:Int))) hm
  have hl:(a0U fGu c.s c.o c.f).1.length<=aO:=by unfold a0U;rw[if_pos hbk];exact acG _ _
  have hss:SsP (a0V fGu c.s c.o c.f).1 (a3x (pF c.f) (wC (nd c.s c.o)) true):=by unfold a0V;rw[if_pos hbk];exact afu _ hn8 _
  have q1:((a0V fGu c.s c.o c.f).2==0)=true:=by rw[e2];rfl
  have q2:decide ((a0V fGu c.s c.o c.f).1=a3x (pF c.f) (wC (nd c.s c.o)) true)=true:=by rw[e2];exact decide_eq_true rfl
  have hx:(a0k (pF c.f) (wC (nd c.s c.o)) true).2=true:=by rw[a9E a14 hn8 hφ];exact aew p e hn hf
  rw[hx,if_pos rfl]at e1;have h3:(if (a0k (pF c.f) (wC (nd c.s c.o)) true).2=true then ((a0k (pF c.f) (wC (nd c.s c.o)) true).1,true)else (([]:List Int),false)).2=true:=by rw[hx];rfl
  have h5:((a0U fGu c.s c.o c.f).2==0)=true:=by rw[e1];rfl
  have h6:decide ((a0U fGu c.s c.o c.f).1=(if (a0k (pF c.f) (wC (nd c.s c.o)) true).2=true then ((a0k (pF c.f) (wC (nd c.s c.o)) true).1,true)else (([]:List Int),false)).1)=true:=by rw[e1,hx];exact decide_eq_true rfl
  exact dS hX hO (by kernel_rfl) (.b h1 (.o k (.o k (.o p (.b hg1 (.o Qu (.o p.p.lf (.o cf (.o cg (.o fa (.o hlm (.b h3 (.b h5 (.o hl (.b h6 (.b q1 (.o Qu (.o p.p.lf (.o cf (.o cg (.o fa (.o hlm (.o hss (.b q2 .rr))))))))))))))))))))))))
 have hg1:(a0z c.s c.o c.f != 0)=true:=by simpa using hg
 have hbk:¬a6I c.s c.o c.f=0:=fun h=>hg (hb.symm.trans h);have e1:a0U fGu c.s c.o c.f=([],a0z c.s c.o c.f):=by unfold a0U;rw[if_neg hbk,hb]
 have e2:a0V fGu c.s c.o c.f=([],a0z c.s c.o c.f):=by unfold a0V;rw[if_neg hbk,hb]
 have h2:((a0U fGu c.s c.o c.f).2==a0z c.s c.o c.f)=true:=by rw[e1];simp
 have h3:((a0V fGu c.s c.o c.f).2==a0z c.s c.o c.f)=true:=by rw[e2];simp
 have h4:(IntKind.i64.wrap (((a0U fGu c.s c.o c.f).1.length:Int)+((a0V fGu c.s c.o c.f).1.length:Int))==0)=true:=by rw[e1,e2];rfl
 exact dS hX hO (by kernel_rfl) (.b h1 (.o k (.o k (.o p (.b hg1 (.b h2 (.b h3 (.b h4 .rr))))))))
noncomputable def oc8:iO bM:=dL 8 (a1 caA) tA (fun _=>true) (fun c=>[CaR c]) ahD
theorem gc8:Gd oc8:=an4.add fun n hO c hp=>a9Y hO c (hp _ (.head _))
open Go Tw Pv Go.ChangeShapes Go.WideShapes Go.ChangeAt Go.RowKit
theorem Tryz.own:ownKnob Tryz.prog.godebug=none:=by kernel_rfl
theorem Tryz.laidOut:laidOutB Tryz.prog=true:=by kernel_rfl
theorem Tryz.mixed:Tryz.prog.follows .mixedOrders=true:=by kernel_rfl
theorem ahH:aj Tryz.prog T.ext:=aeH (adJ (T:=TM) Tryz.mixed abh adx)
theorem Tryz.tys8:Tryz.f8.params.toList=[29]:=by kernel_rfl
set_option maxRecDepth 100000 in
theorem a3F (os:Os)(started:os.Started)(H:Type)(enc:TypeId×Value->H) :
  ReturnsInHanded {} Tryz.checked os 8 .any (Rows.blameRelaxesSpec.pre6 enc Tryz.prog Tryz.f8 Rows.blameRelaxesRow.domain false) (Rows.blameRelaxesSpec.post enc Tryz.prog Tryz.f8 false true false false):=by
 refine returnsInHanded_of_change (C:=Tryz.checked) Tryz.own started (by kernel_rfl) Tryz.func8
  (ChangeSpec.witness6 (enc:=enc) (C:=Tryz.checked) false ⟨#[],#[.agg #[.slice none 0 0,.slice none 0 0,.slice none 0 0,.slice none 0 0,.slice none 0 0,.slice none 0 0,.slice none 0 0,.int .i64 0]],[]⟩ 8 (by kernel_rfl) (by kernel_rfl) (by kernel_rfl) (by kernel_rfl)) ?_
 intro W base args ds gs before akp hW apt _;have a9c:∀(j:Nat) t v,Tryz.f8.params[j]? = some t->args[j]? = some v->Value.okWide Tryz.prog W .any base t v:=akp;have hW':=hW;obtain⟨p,q,an6,hV,rfl,hfz,lH⟩:=hW;have hTA:DataW.TrodAll enc Tryz.prog W 0 (fun _=>true) true Tryz.f8.params.toList args.toList ds p:=an6;obtain⟨rfl,rfl⟩:=trodVars_none hV;rw[Tryz.tys8]at hTA;obtain⟨d0,_,rfl,r0,_,_,hTA⟩:=acw hTA;obtain⟨_,rfl,_⟩:=trodAll_nil hTA;obtain⟨a0,q0,h0⟩:=rCa (g:=0) d0 r0;obtain⟨x0,e0,g0,v0⟩:=h0 ([]);have w0:=v0 ([]);simp only[List.append_assoc,List.nil_append,List.append_nil]at w0;obtain⟨N,hN⟩:=gc8;have an7:=hN (N+1) (by omega) 8 ((Pv.a1 caA).put a0) (tA.put true) [] [CaR a0] rfl (by
  intro p hp;simp only[List.mem_cons,List.not_mem_nil,or_false]at hp;rcases hp with rfl;exact q0)
 obtain⟨h',hr⟩:=agV (h:=[]++e0) an7 (by simp only[List.append_assoc,List.nil_append,List.append_nil];exact .cons (.agg w0.1 w0.2) .nil);exact a9Z (P:=Tryz.prog) (T:=T) (L:=LL) (n:=N) (g:=8) Tryz.mixed Tryz.laidOut rfl rfl (by kernel_rfl) Tryz.underlying4 (by kernel_rfl) hW' a9c
  (by rw[Tryz.tys8];exact (agT (by kernel_rfl) g0 agU)) ahH (by kernel_rfl) (by kernel_rfl) hr
theorem a3G:joinedFacts Tryz.pinned.checked.prog 8 Tryz.f8 Rows.blameRelaxesSpec Rows.blameRelaxesRow=true:=by kernel_rfl
theorem BlameRelaxes_holds:Rows.BlameRelaxesSaid:=
 OpenClaim.holds_of_wide 8 Tryz.f8 rfl rfl rfl rfl rfl rfl rfl ⟨rfl,rfl,rfl,rfl,rfl⟩ rfl rfl rfl rfl rfl (by kernel_rfl) Tryz.func8 a3G
  (of_decide_eq_true (by kernel_rfl)) (by unfold Func.isWrapper;first|(rw[if_pos (by decide +kernel)];kernel_rfl)|(rw[if_neg (by decide +kernel)];exact⟨rfl,rfl⟩))
  (fun os started H enc _=>a3F os started H enc)
end Go.Proofs.YtjkgcifieggcpaaGreat
