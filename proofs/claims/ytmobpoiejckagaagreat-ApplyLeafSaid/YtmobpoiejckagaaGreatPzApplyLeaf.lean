/- ApplyLeaf: the diagram of any cell, and of any choice, in any frame, are the document's, or the errors are (the Go function of this name returns true for every input). -/
import Derived.ProofKit
import Derived.Test.YtmobpoiejckagaaGreatRows
import Derived.Test.YtmobpoiejckagaaGreatP05
set_option linter.constructorNameAsVariable false
set_option linter.unusedVariables false
set_option linter.unusedSimpArgs false
set_option linter.unusedSectionVars false
open Go.IntKind (i64)
noncomputable section
namespace Go.Proofs.YtmobpoiejckagaaGreat
open Go Tw Pv dB
def Yi(φ:V->Int)(l:List V):Int:=if qC (l.drop 1)=true then φ (l.getD 0 V0)else 0
theorem agb(φ:V->Int)(l:List V)(w:Int)(t:List (V×Int)):dI φ (yT l w t)=dI φ t+w*Yi φ l:=by
 unfold yT Yi;cases qC (l.drop 1)
 .rw[a0q (by simp),a0q (by simp)];omega
 rw[a0u rfl,a0u rfl,zN]
abbrev sH2(J:Jb)(f:Nat)(t:List (V×Int))(now:List (S3×Int))(seen:List Nat):aT aC:=⟨[(1,.val (.kX 4)),(2,.loc 0 0),(94,.val (.iter 6))],[J.ps (.fn f [] [])],QN J f true none t++[.map (kS.im now),.dD 5 now.length seen]⟩
structure a0b(t:List (V×Int)):Prop where
 nd:(t.map (·.1)).Nodup
 pos:∀e∈t,0<e.2
theorem a0b.y{t:List (V×Int)}(h:a0b t)(l:List V){w:Int}(hw:0<w):a0b (yT l w t):=by
 unfold yT;split
 .exact⟨G8 h.nd _ _,P9 hw h.pos⟩
 exact h
section
variable {n:Nat} {J:Jb} (hJ:kQ J) {f:Nat} {now:List (S3×Int)}
def aql(J:Jb)(f:Nat)(now:List (S3×Int))(seen:List Nat)(s:aT aC):Prop:=
 seen.Nodup∧(∀j∈seen,j<now.length)∧∃t,a0b t∧(∀φ,dI φ t=eu (fun j=>(nowAt now j).2*Yi φ (aW J.D (nowAt now j).1)) seen)∧gW X0 (T.eY 136 (dU bL2)) s=sH2 J f t now seen
theorem akX(l:List V):0<=Yi (fun _=>1) l∧Yi (fun _=>1) l<=1:=by unfold Yi;split<;>simp
include hJ
theorem agc(h:yJ J J.o.length now){seen:List Nat}(jG:seen.Nodup)(aQ:∀j∈seen,j<now.length){t:List (V×Int)}(ht:a0b t)(hs:∀φ,dI φ t=eu (fun j=>(nowAt now j).2*Yi φ (aW J.D (nowAt now j).1)) seen):Tal t:=by
 refine⟨ht.nd,ht.pos,fun e he=>?_⟩;have h1:=(IC ht.pos).2 e he;have hp:∀j,j<now.length->0<(nowAt now j).2:=fun k hk=>h.i.pos _ (gY (d:=(⟨⟨0,0,0⟩,0⟩:S3×Int)) hk);have h2:=Vy (φ:=fun j=>(nowAt now j).2*Yi (fun _=>1) (aW J.D (nowAt now j).1)) jG aQ fun k hk=>adW (aey (hp k hk)) (akX _).1;have h3:eu (fun j=>(nowAt now j).2*Yi (fun _=>1) (aW J.D (nowAt now j).1)) (List.range now.length)<=eu (fun j=>(nowAt now j).2*1) (List.range now.length):=by
  have:∀l:List Nat,(∀j∈l,j<now.length)->eu (fun j=>(nowAt now j).2*Yi (fun _=>1) (aW J.D (nowAt now j).1)) l<=eu (fun j=>(nowAt now j).2*1) l:=by
   intro l
   induction l with
   |nil=>intro _;exact a9d _
   |cons j l ih=>
    intro hl;have:=ih fun k hk=>hl k (by simp[hk]);have:=a95 (akX (aW J.D (nowAt now j).1)).2 (aey (hp j (hl j (by simp))));simp only[eu];omega
  exact this _ fun j hj=>a4B.1 hj
 rw[IE (φ:=fun _=>1)]at h3;have h4:=Nl hJ now h;rw[List.drop_length]at h4;have h4:dI (fun _=>1) now<=2000:=h4;rw[<-hs]at h2;omega
set_option maxRecDepth 20000 in
theorem a4c(hO:Ok n rY)(h:yJ J J.o.length now)(hD:0<J.D.length):aJ X0 Qp T (iC (n+1)) D8 LL 136 ntE 5 (.block 7 (.loop bL2)) (sH2 J f [] now [])
  fun e s=>e=.norm∧∃t seen,a0b t∧(∀φ,dI φ t=dI (fun st=>Yi φ (aW J.D st)) now)∧s={ sH2 J f t now seen with env:=jo (T.iE 136 23) ((96,.val (.bool false))::(95,.val (.cO [.bool false]))::(sH2 J f t now seen).env) }:=by
 have e0:bL2=.seq (.region 23 (a6U (eU bL2)) false) (.seq (.cond (.tmp 96) .skip (.exit 7)) (.block 8 bX2)):=by kernel_rfl
 rw[e0];have hlen:=a2k hJ now h;refine V5 hX (n:=now.length) (b:=6) (r:=5) (it:=94) (nx:=95) (mo:=96) (es:=kS.im now) (fun seen s=>aql J f now seen s) (by kernel_rfl) (a81 (by kernel_rfl)) (a81 (by kernel_rfl)) (kS.pR now) (by unfold LL;omega)
  ⟨a5L,(fun j hj=>(by cases hj)),[],⟨a5L,(fun e he=>(by cases he))⟩,(fun φ=>rfl),(by kernel_rfl)⟩ (fun seen s hi=>?_)
 obtain⟨jG,aQ,t,h1,h2,h3⟩:=hi;rw[<-e0];refine⟨_,h3,by kernel_rfl,by kernel_rfl,by kernel_rfl,fun ho=>⟨by kernel_rfl,t,seen,h1,fun φ=>?_,rfl⟩,fun j e hj he=>⟨by kernel_rfl,?_⟩⟩
 .rw[h2,Qg jG aQ ho,IE (φ:=fun st=>Yi φ (aW J.D st))]
 .rw[kS.Bv,a0i]at he;obtain⟨⟨st,w⟩,sD,rfl⟩:=he;obtain⟨q1,q2,q3⟩:=Yg sD;have Gl:(j::seen).Nodup:=a4z.2 ⟨hj,jG⟩;have Gm:∀k∈j::seen,k<now.length:=fun k hk=>by
   rcases a1F.1 hk with rfl|hk
   .exact q2
   .exact aQ k hk
  have ho:=a2j sD;have pV:(aW J.D st).length=J.D.length:=by simp[aW]
  have hw:=h.i.pos _ q3;have hc:=a2d (M:=n) (f:=f) J st hJ.d3 fun k hk=>(JJ hJ (h.i.dp _ q3) hk).2;have hd3:=hJ.d3;have hy:=aqe (n:=n) hO J f (agc hJ h jG aQ h1 h2) (aW J.D st) (w:=w) (by omega) (by unfold ah;omega) ⟨hw,hlen.2 _ q3⟩;refine aJ.step (e:=.norm) (by kernel_rfl) (zO (ps1:=⟨[(1,.val (.kX 4)),(2,.loc 0 0),(94,.val (.iter 6)),(106,xl false)],[J.ps (.fn f [] []),st.ps],QN J f true none (yT (aW J.D st) w t)++[.map (kS.im now),.dD 5 now.length (j::seen)]⟩) hX gK (by kernel_rfl) (.c (.cO [.agg st.ps,.int .i64 w]) [] ho (.fr [] hc (.fr [0,1,2,3,4] hy (.b (rfl:(!true)=false) (.r rfl)))))) ⟨.inl rfl,Gl,Gm,yT (aW J.D st) w t,h1.y _ hw,fun φ=>?_,by kernel_rfl⟩;rw[agb,h2,eu,q1,ah2]
def a8p(J:Jb)(t:List (V×Int)):Prop:=a0b t∧∀φ,dI φ t=eu (fun q=>Yi φ (J.D.map fun d=>Ci d q)) (Yb J)
omit hJ in
theorem a4d(hJ:kQ J):yJ J 0 [(fO J.D,1)]:=by
 refine⟨⟨by simp,fun e he=>?_,fun e he=>?_⟩,fun ψ=>?_⟩
 .rw[a2D.1 he];show(0:Int)<1;decide
 .rw[a2D.1 he];exact Yc hJ
 simp[dI]
set_option maxRecDepth 20000 in
theorem akY(hO:Ok n rY)(hD:0<J.D.length):aaf X0 Qp (uV Qp T (iC (n+1)) LL) (.fn 136 [.agg (J.ps (.fn f [] []))] []) [.kX 4] (QN J f true none []) fun v H1=>∃(t:List (V×Int)) (G:List (PB aC)),a8p J t∧H1=QN J f true none t++G:=by
 refine a1B (t:=SY Qp 136) hX (by kernel_rfl) ?_;have e0:(SY Qp 136).body=.seq (eU QM) (.seq (eU (eX QM)) (.seq (.seq (eU (eU (eX (eX QM)))) (.block 0 (.loop bLB))) (.seq (eU (eX (eX (eX QM)))) (.block 7 (.loop bL2))))):=by kernel_rfl
 rw[e0];have hs:=a06 (M:=n) (f:=f) (a:=[]) (cc:=[]) (H:=[]) J hJ.d3;have hf:nV X0 Qp 148 (kS.es []) (kS.tv (fO J.D)):=kS.fresh (x:=fO J.D) (by simp);have x0:ExE n (eU QM) ⟨lD X0 0 [.agg (J.ps (.fn f [] [])),.kX 4],[],QN J f true none []⟩ .norm ⟨[(1,.val (.kX 4)),(2,.loc 0 0)],[J.ps (.fn f [] [])],QN J f true none []⟩:=zO hX gK (an:=.n) (by kernel_rfl) (.r rfl);have x1:ExE n (eU (eX QM)) ⟨[(1,.val (.kX 4)),(2,.loc 0 0)],[J.ps (.fn f [] [])],QN J f true none []⟩ .norm ⟨[(1,.val (.kX 4)),(2,.loc 0 0),(4,.val (.map 5))],[J.ps (.fn f [] [])],HN J f [] [(fO J.D,1)]⟩:=zO hX gK (by kernel_rfl) (.fr [] hs (.q (.bool false) (kS.ck (fO J.D)) (.o hf (.r rfl))));have x2:ExE n (eU (eU (eX (eX QM)))) ⟨[(1,.val (.kX 4)),(2,.loc 0 0),(4,.val (.map 5))],[J.ps (.fn f [] [])],HN J f [] [(fO J.D,1)]⟩ .norm (Vz J f [] [(fO J.D,1)] 0 []):=zO hX gK (an:=.n) (by kernel_rfl) (.r rfl);refine aJ.BA (by kernel_rfl) x0 (aJ.BA (by kernel_rfl) x1 (aJ.seq (R:=fun e s=>e=.norm∧∃JU,yJ J J.o.length JU∧s=Vz J f [] JU J.o.length [(24,.val (.bool (decide ((J.o.length:Int)<(J.o.length:Int)))))]) (aJ.BA (by kernel_rfl) x2 (ab8 (n:=n) hJ [] (a4d hJ))) (fun s h=>?_) (fun i s h=>by cases h.1) (fun s h=>by cases h.1)));obtain⟨_,now,h1,rfl⟩:=h;have x3:ExE n (eU (eX (eX (eX QM)))) (Vz J f [] now J.o.length [(24,.val (.bool (decide ((J.o.length:Int)<(J.o.length:Int)))))]) .norm ⟨[(1,.val (.kX 4)),(2,.loc 0 0),(94,.val (.iter 6))],[J.ps (.fn f [] [])],QN J f true none []++[.map (kS.im now),.dD 5 (kS.im now).length []]⟩:=zO hX gK (an:=.n) (by kernel_rfl) (.r rfl);rw[kS.pR now]at x3;refine aJ.BA (by kernel_rfl) x3 ((a4c hJ hO h1 hD).mono fun e s h=>?_);obtain⟨rfl,t,seen,g1,g2,rfl⟩:=h;refine⟨.inl rfl,[],by kernel_rfl,t,[.map (kS.im now),.dD 5 now.length seen],⟨g1,fun φ=>?_⟩,rfl⟩;rw[g2];have:=h1.s fun st=>Yi φ (aW J.D st);rw[List.drop_length]at this;rw[<-ab1 hJ (Yi φ)];exact this
end
open Go Tw Pv dB
def a0c(J:Jb):List (List V):=(Yb J).map fun q=>J.D.map fun d=>Ci d q
def vg(J:Jb):List V:=((a0c J).filter fun l=>qC (l.drop 1)).map fun l=>l.getD 0 V0
abbrev Yj(e:V×Int):LI0:=RJ e.1.tv
def fA(J:Jb):List (V×Int):=zC Yj (AZ (vg J))
theorem a2l(φ:V->Int):∀L:List (List V),eu (Yi φ) L=eu φ ((L.filter fun l=>qC (l.drop 1)).map fun l=>l.getD 0 V0)
 | []=>rfl
 |l::L=>by
  rw[eu,a2l φ L];unfold Yi;cases h:qC (l.drop 1)
  .rw[a0q (by simp),adu (by rw[h];simp)];omega
  rw[a0u rfl,adw (by rw[h]),a4t,eu]
theorem key_inj{l:List (V×Int)}(hn:(l.map (·.1)).Nodup):∀a∈l,∀b∈l,Yj a=Yj b->a=b:=fun a ha b hb h=>by
 have h1:a.1=b.1:=by have h:[a.1.f,a.1.n]=[b.1.f,b.1.n]:=h;simp only[aed,and_true]at h;obtain⟨⟨a1,a2⟩,_⟩:=a;obtain⟨⟨b1,b2⟩,_⟩:=b;simp only at h;rw[h.1,h.2]
 have h2:=Ib hn ha;have h3:=Ib hn hb;rw[h1,h3]at h2;exact ado h1 h2.symm
theorem a8q{J:Jb}{t:List (V×Int)}(h:a8p J t):t.Perm (AZ (vg J)):=by obtain⟨f1,f2⟩:=G9 (vg J);refine V3 h.1.nd f1 h.1.pos f2 fun φ=>?_;rw[h.2,SQ];unfold vg;rw[<-a2l];unfold a0c;rw[zZ]
theorem a8r{J:Jb}{t:List (V×Int)}(h:a8p J t):zC Yj t=fA J:=Fh (a8q h) (key_inj h.1.nd)
abbrev ab9(e:V×Int):TV×TV:=(e.1.tv,.int .i64 e.2)
theorem VA:∀t:List (V×Int),xq (kV.im t)=some (t.map ab9)
 | []=>rfl
 |e::t=>by
  have:=VA t;show(match qp (kV.pv e.1),qp (PV.int .i64 e.2:PV aC),xq (kV.im t)with
   |some k,some v,some r=>some ((k,v)::r)
   |_,_,_=>none)=_
  rw[this];rfl
section
variable {n:Nat} {J:Jb} (hJ:kQ J) {f:Nat}
include hJ
set_option maxRecDepth 20000 in
theorem Qh(hO:Ok n rY)(hD:0<J.D.length):iW (n+2) (.fn 87 [] []) [.agg (J.ps (.fn f [] []))] [] (.map 0) [.map (kV.im (fA J))]:=by
 refine a6R (X:=X0) (P:=Qp) (T:=T) (L:=LL) (n:=n+1) (f:=87) (first:=[]) (cap:=[]) (H:=[]) (t:=SY Qp 87) (es0:=kV.im (fA J)) (a3t:=(fA J).map ab9) hX (by kernel_rfl) (by kernel_rfl) (by kernel_rfl) rfl (VA _) ?_;have e0:(SY Qp 87).body=.seq (eU Ye) (.seq (eU (eX Ye)) (.seq (.seq (eU (eU (eX (eX Ye)))) (.block 0 (.rangeFunc (.tmp 8) #[9,10] (xk Qp 87) (AY Qp 87)))) (.seq (eU (eX (eX (eX Ye)))) .ret))):=by kernel_rfl
 rw[e0];have x0:dN X0 Qp T (iC (n+1)) LL 87 false (Cm Qp 87) 0 (eU Ye) ⟨lD X0 0 [.agg (J.ps (.fn f [] []))],[],[]⟩ .norm ⟨[(1,.val (.ptr 0 0 5)),(2,.val (.nil .map))],[],[.cells (J.ps (.fn f [] []))]⟩:=zO hX gK (an:=.n) (by kernel_rfl) (.r rfl);have x1:dN X0 Qp T (iC (n+1)) LL 87 false (Cm Qp 87) 0 (eU (eX Ye)) ⟨[(1,.val (.ptr 0 0 5)),(2,.val (.nil .map))],[],[.cells (J.ps (.fn f [] []))]⟩ .norm ⟨[(1,.val (.ptr 0 0 5)),(2,.val (.nil .map)),(3,.val (.ptr 2 0 1))],[],HQc J f []⟩:=zO hX gK (an:=.n) (by kernel_rfl) (.r rfl);have x2:dN X0 Qp T (iC (n+1)) LL 87 false (Cm Qp 87) 0 (eU (eU (eX (eX Ye)))) ⟨[(1,.val (.ptr 0 0 5)),(2,.val (.nil .map)),(3,.val (.ptr 2 0 1))],[],HQc J f []⟩ .norm ⟨a8k J f,[],HQc J f []⟩:=zO hX gK (an:=.n) (by kernel_rfl) (.r rfl);refine aJ.BA (by kernel_rfl) x0 (aJ.BA (by kernel_rfl) x1 (aJ.seq (R:=fun e s=>e=.norm∧∃(t:List (V×Int)) (G:List (PB aC)),a8p J t∧s=⟨a8k J f,[],QN J f false (some .skip) t++G⟩) (aJ.BA (by kernel_rfl) x2 (aJ.block ?_)) (fun s h=>?_) (fun i s h=>by cases h.1) (fun s h=>by cases h.1)))
 .refine aJ.range (f1:=136) (a1:=[.agg (J.ps (.fn f [] []))]) (b1:=[]) (K:=fun v H1=>∃(t:List (V×Int)) (G:List (PB aC)),a8p J t∧H1=QN J f true none t++G) hX rfl (by kernel_rfl) (by kernel_rfl) (akY hJ hO hD) (fun v H1 hk=>?_);obtain⟨t,G,h1,rfl⟩:=hk;exact⟨true,_,_,_,_,_,_,none,.norm,rfl,rfl,rfl,t,G,h1,rfl⟩
 obtain⟨_,t,G,h1,rfl⟩:=h;have x3:dN X0 Qp T (iC (n+1)) LL 87 false (Cm Qp 87) 0 (.seq (eU (eX (eX (eX Ye)))) .ret) ⟨a8k J f,[],QN J f false (some .skip) t++G⟩ .ret ⟨[(2,.val (.map 1))],[],QN J f false (some .skip) t++G⟩:=zO hX gK (an:=.n) (by kernel_rfl) (.r rfl);refine aJ.step (by kernel_rfl) x3 ⟨.inr rfl,[.map 1],by kernel_rfl,1,kV.im t,t.map ab9,rfl,rfl,VA t,?_⟩;unfold RP;rw[SV (g:=ab9) (key:=Yj) (a6N:=fun e=>RJ e.1) (fun _=>rfl),a8r h1]
end
open Go Tw Pv dB
abbrev Qi(t:List (V×Int))(j:Nat):V×Int:=t.getD j (V0,0)
theorem VB{t:List (V×Int)}{j:Nat}{e:V×Int}(h:t[j]? = some e):Qi t j=e∧j<t.length∧e∈t:=by obtain⟨h1,h2⟩:=a0a.1 h;exact⟨by simp[Qi,List.getD,h],h1,h2▸a4D h1⟩
theorem agd(t:List (V×Int)):t=(List.range t.length).map fun j=>Qi t j:=
 (rO (d:=((V0,0):V×Int)) (by simp)).2 fun k hk=>by simp[List.getD,hk]
theorem Yk(t:List (V×Int)):eu (fun j=>(Qi t j).2) (List.range t.length)=dI (fun _=>1) t:=by
 have h1:dI (fun _=>1) t=eu (fun e:V×Int=>e.2) t:=by
  induction t with
  |nil=>rfl
  |cons e m ih=>simp only[dI,eu,ih,acf]
 rw[h1]
 conv=>rhs;rw[agd t]
 rw[zZ]
theorem BD{t:List (V×Int)}{j:Nat}{v:V}{w:Int}(h:t[j]? = some (v,w)):(kV.im t).length=t.length∧(kV.im t)[j]? = some (.agg v.ps,.int .i64 w):=by refine⟨kV.pR t,?_⟩;rw[kV.Bv,h];rfl
structure JV(t:List (V×Int)):Prop where
 pos:∀e∈t,0<e.2
 tot:dI (fun _=>1) t<=2000
theorem JV.len{t:List (V×Int)}(h:JV t):t.length<=2000:=by
 have h6:∀{m:List (V×Int)},(∀e∈m,0<e.2)->(m.length:Int)<=dI (fun _=>1) m:=by
  intro m
  induction m with
  |nil=>intro _;exact a9d _
  |cons e m ih=>
   intro hp;have:=ih fun e he=>hp e (by simp[he]);have:=hp e (by simp);simp only[dI,a4q,acf];omega
 have:=h6 h.pos;have:=h.tot;omega
abbrev a4e:Code:=(SY Qp 90).body
abbrev lpA:Code:=eU (eU (eX (eU (eX a4e))))
abbrev xA:Code:=eU (eX (eX lpA))
abbrev sA(t:List (V×Int))(z:Int)(js:List Nat):aT aC:=⟨[(2,xi z),(6,.val (.iter 1))],[],[.iI (kV.im t),.dD 0 t.length js]⟩
section
variable {n:Nat} {t:List (V×Int)}
set_option maxRecDepth 20000 in
theorem aqm(h:JV t):iW (n+1) (.fn 90 [] []) [.map 0] [.iI (kV.im t)] (.int .i64 (dI (fun _=>1) t)) [.iI (kV.im t)]:=by
 refine aah (X:=X0) (P:=Qp) (T:=T) (L:=LL) (n:=n) (f:=90) (first:=[]) (cap:=[]) (xs:=[.map 0]) (H:=[.iI (kV.im t)]) (v:=.int .i64 (dI (fun _=>1) t)) (t:=SY Qp 90) (tv:=.int .i64 (dI (fun _=>1) t)) hX (by kernel_rfl) (by kernel_rfl) (by kernel_rfl) rfl rfl ?_;have e0:(SY Qp 90).body=.seq (eU a4e) (.seq (.seq (eU (eU (eX a4e))) (.block 0 (.loop lpA))) (.seq (eU (eX (eX a4e))) .ret)):=by kernel_rfl
 have e1:lpA=.seq (.region 2 (a6U (eU lpA)) false) (.seq (.cond (.tmp 8) .skip (.exit 0)) (.block 1 xA)):=by kernel_rfl
 have x0:dN X0 Qp T (iC n) LL 90 false (Cm Qp 90) 1 (eU a4e) ⟨lD X0 0 [.map 0],[],[.iI (kV.im t)]⟩ .norm ⟨[(0,.val (.map 0)),(2,xi 0)],[],[.iI (kV.im t)]⟩:=zO hX gK (an:=.n) (by kernel_rfl) (.r rfl);have x1:dN X0 Qp T (iC n) LL 90 false (Cm Qp 90) 1 (eU (eU (eX a4e))) ⟨[(0,.val (.map 0)),(2,xi 0)],[],[.iI (kV.im t)]⟩ .norm ⟨[(2,xi 0),(6,.val (.iter 1))],[],[.iI (kV.im t),.dD 0 (kV.im t).length []]⟩:=zO hX gK (an:=.n) (by kernel_rfl) (.r rfl);rw[kV.pR t]at x1;have hlen:=h.len;have hpj:∀j,j<t.length->0<(Qi t j).2:=fun k hk=>h.pos _ (gY (d:=((V0,0):V×Int)) hk);rw[e0];refine aJ.BA (by kernel_rfl) x0 (aJ.seq (R:=fun e s=>e=.norm∧∃seen,s={ sA t (dI (fun _=>1) t) seen with env:=jo (T.iE 90 2) ((8,.val (.bool false))::(7,.val (.cO [.bool false]))::(sA t (dI (fun _=>1) t) seen).env) }) (aJ.BA (by kernel_rfl) x1 ?_) (fun s hs=>?_) (fun i s h=>by cases h.1) (fun s h=>by cases h.1))
 .rw[e1];refine V5 hX (n:=t.length) (b:=1) (r:=0) (it:=6) (nx:=7) (mo:=8) (es:=kV.im t) (fun seen s=>seen.Nodup∧(∀j∈seen,j<t.length)∧gW X0 (T.eY 90 (dU lpA)) s=sA t (eu (fun j=>(Qi t j).2) seen) seen) (by kernel_rfl) (a81 (by kernel_rfl)) (a81 (by kernel_rfl)) (kV.pR t) (by unfold LL;omega)
   ⟨a5L,(fun j hj=>(by cases hj)),(by kernel_rfl)⟩ (fun seen s hi=>?_)
  obtain⟨jG,aQ,h3⟩:=hi;rw[<-e1];refine⟨_,h3,by kernel_rfl,by kernel_rfl,by kernel_rfl,fun ho=>⟨by kernel_rfl,seen,?_⟩,fun j e hj he=>⟨by kernel_rfl,?_⟩⟩
  .rw[Qg jG aQ ho,Yk]
  rw[kV.Bv,a0i]at he;obtain⟨⟨v,w⟩,sD,rfl⟩:=he;obtain⟨q1,q2,q3⟩:=VB sD;have Gl:(j::seen).Nodup:=a4z.2 ⟨hj,jG⟩;have Gm:∀k∈j::seen,k<t.length:=fun k hk=>by
   rcases a1F.1 hk with rfl|hk
   .exact q2
   exact aQ k hk
  have hb:=Vy (φ:=fun j=>(Qi t j).2) Gl Gm fun k hk=>aey (hpj k hk);have Ad:=Vx (φ:=fun j=>(Qi t j).2) (l:=seen) fun k hk=>aey (hpj k (aQ k hk));rw[Yk,eu,q1]at hb;have ht:=h.tot;have hw:=h.pos _ q3;have Yw:i64.wrap (eu (fun j=>(Qi t j).2) seen+w)=eu (fun j=>(Qi t j).2) (j::seen):=by rw[eP (by have:(0:Int)<w:=hw;omega) (by have:w+eu (fun j=>(Qi t j).2) seen<=dI (fun _=>1) t:=hb;omega),eu,q1,ah2]
  refine aJ.step (e:=.norm) (by kernel_rfl) (zO (ps1:=⟨[(2,xi (i64.wrap (eu (fun j=>(Qi t j).2) seen+w))),(6,.val (.iter 1))],[],[.iI (kV.im t),.dD 0 t.length (j::seen)]⟩) hX gK (by kernel_rfl) (.c (.cO [.agg v.ps,.int .i64 w]) [] (BD sD) (.r rfl))) ⟨.inl rfl,Gl,Gm,?_⟩;rw[Yw]
  kernel_rfl
 obtain⟨_,seen,rfl⟩:=hs;exact aJ.step (by kernel_rfl) (zO (e:=.ret) (ps1:=⟨[(2,xi (dI (fun _=>1) t))],[],[.iI (kV.im t),.dD 0 t.length seen]⟩) hX gK (an:=.n) (by kernel_rfl) (.r rfl)) ⟨.inr rfl,[.int .i64 (dI (fun _=>1) t)],by kernel_rfl,rfl⟩
end
open Go Tw Pv dB
abbrev a0d:Code:=(SY Qp 88).body
abbrev lpB:Code:=eU (eU (eX (eU (eX a0d))))
abbrev xB:Code:=eU (eX (eX lpB))
def DY(t:List (V×Int))(js:List Nat):LI0:=(js.reverse.filter fun j=>!decide ((Qi t j).1.f>0)).map fun j=>(Qi t j).1.n
def fOf(t:List (V×Int))(js:List Nat):Bool:=js.any fun j=>decide ((Qi t j).1.f>0)
theorem a4f(t:List (V×Int))(j:Nat)(js:List Nat):DY t (j::js)=DY t js++(if decide ((Qi t j).1.f>0)=true then []else [(Qi t j).1.n]):=by
 unfold DY;rw[List.reverse_cons,List.filter_append,a4s];congr 1;cases h:decide ((Qi t j).1.f>0)
 .rw[adw (by rw[h];rfl),a0q (by simp)];rfl
 rw[adu (by rw[h];simp),a0u rfl];rfl
def mD(t:List (V×Int)):LI0:=gX ((t.filter fun e=>!decide (e.1.f>0)).map fun e=>e.1.n)
def uP(t:List (V×Int)):Bool:=t.any fun e=>decide (e.1.f>0)
theorem a0e{l l':LI0}(h:l.Perm l'):gX l=gX l':=by
 unfold gX;have hs:∀l:LI0,(l.mergeSort fun x y=>decide (x<=y)).Pairwise fun a b=>decide (a<=b)=true:=fun l=>
  List.pairwise_mergeSort (fun a b c h1 h2=>by simp at *;omega) (fun a b=>by simp;omega) l
 exact List.Perm.eq_of_pairwise (le:=fun a b=>decide (a<=b)=true) (fun a b _ _ h1 h2=>by simp at h1 h2;omega) (hs l) (hs l') ((ae5 l _).trans (h.trans (ae5 l' _).symm))
theorem agh{t:List (V×Int)}{js:List Nat}(hn:js.Nodup)(hl:∀j∈js,j<t.length)(ha:∀j,j<t.length->j∈js):gX (DY t js)=mD t∧fOf t js=uP t:=by
 have hp:(js.reverse).Perm (List.range t.length):=(List.reverse_perm js).trans ((a7H hn ae0).2 fun j=>⟨fun h=>a4B.2 (hl j h),fun h=>ha j (a4B.1 h)⟩);constructor
 .refine a0e ?_;unfold DY;have e:((t.filter fun e=>!decide (e.1.f>0)).map fun e=>e.1.n)=((List.range t.length).filter fun j=>!decide ((Qi t j).1.f>0)).map fun j=>(Qi t j).1.n:=by
   conv=>lhs;rw[agd t]
   rw[List.filter_map,a8m];rfl
  rw[e];exact(hp.filter _).map _
 unfold fOf uP;rw[a4J,agD,agD];constructor
 .rintro⟨j,hj,h⟩;exact⟨Qi t j,gY (d:=((V0,0):V×Int)) (hl j hj),h⟩
 rintro⟨e,he,h⟩;obtain⟨j,hj,rfl⟩:=a4N.1 he;exact⟨j,ha j hj,by rw[(VB (a0n hj)).1];exact h⟩
abbrev sBl(t:List (V×Int))(l:LI0)(b:Bool)(js:List Nat):aT aC:=match l with
 | []=>⟨[(2,.val (.nil .aP)),(3,xl b),(6,.val (.iter 1))],[],[.iI (kV.im t),.dD 0 t.length js]⟩
 |x::l=>⟨[(2,.val (.own 2)),(3,xl b),(6,.val (.iter 1))],[],[.iI (kV.im t),.dD 0 t.length js,.list false false 3 (x::l)]⟩
theorem agi{n:Nat}:iW (n+1) (.fn 137 [] []) [.nil .aP] [] (.cO []) []:=by intro A m h tf qN hr hf hx;obtain⟨x,r,rfl,h1,h2⟩:=hx.inv;have:=h2.inv0;subst this;have htf:=hf.UQ;subst htf;have hx:x=.nil .aP:=jT h1 rfl;subst hx;exact⟨.cO [],h,[],m,rfl,hr,.cO rfl (fun i x y hx=>by simp at hx),.refl,.refl,fun b hb=>by cases hb⟩
section
variable {n:Nat} {t:List (V×Int)}
set_option maxRecDepth 20000 in
theorem abb(h:JV t):aJ X0 Qp T (iC (n+1)) (uV Qp T (iC (n+1)) LL) LL 88 (Cm Qp 88) 1 (.block 0 (.loop lpB)) (sBl t [] false [])
  fun e s=>e=.norm∧∃l seen,gX l=mD t∧s={ sBl t l (uP t) seen with env:=jo (T.iE 88 2) ((8,.val (.bool false))::(7,.val (.cO [.bool false]))::(sBl t l (uP t) seen).env) }:=by
 have e1:lpB=.seq (.region 2 (a6U (eU lpB)) false) (.seq (.cond (.tmp 8) .skip (.exit 0)) (.block 1 xB)):=by kernel_rfl
 have hlen:=h.len;rw[e1];refine Pm hX (n:=t.length) (b:=1) (r:=0) (it:=6) (nx:=7) (mo:=8) (es:=kV.im t) (fun seen s=>seen.Nodup∧(∀j∈seen,j<t.length)∧∃gs,kT 1 gs (gW X0 (T.eY 88 (dU lpB)) s)=some (sBl t (DY t seen) (fOf t seen) seen)) (by kernel_rfl) (a81 (by kernel_rfl)) (a81 (by kernel_rfl)) (kV.pR t) (by unfold LL;omega)
  ⟨a5L,(fun j hj=>(by cases hj)),[],(by kernel_rfl)⟩ (fun seen s hi=>?_)
 obtain⟨jG,aQ,gs,h3⟩:=hi;rw[<-e1];refine⟨gs,_,h3,?_,?_,?_,fun ho=>?_,fun j e hj he=>?_⟩
 .cases DY t seen<;>kernel_rfl
 .cases DY t seen<;>kernel_rfl
 .cases DY t seen<;>kernel_rfl
 .obtain⟨a1,a2⟩:=agh jG aQ ho;refine⟨?_,DY t seen,seen,a1,?_⟩
  .cases DY t seen<;>kernel_rfl
  .rw[a2]
 .rw[kV.Bv,a0i]at he;obtain⟨⟨v,w⟩,sD,rfl⟩:=he;obtain⟨q1,q2,q3⟩:=VB sD;have Gl:(j::seen).Nodup:=a4z.2 ⟨hj,jG⟩;have Gm:∀k∈j::seen,k<t.length:=fun k hk=>by
   rcases a1F.1 hk with rfl|hk
   .exact q2
   .exact aQ k hk
  have hll:(DY t seen).length<=2000:=by
   have h1:(DY t seen).length<=seen.length:=by unfold DY;rw[a4A];exact a4Z (a9z ..) (by simp)
   have h2:seen.length<=t.length:=by have:=(JR jG aQ).length_eq;have h3:=a9z (fun j=>seen.contains j) (List.range t.length);rw[a98]at h3;omega
   omega
  have E8:=a4f t j seen;have Xm:fOf t (j::seen)=(decide (v.f>0)||fOf t seen):=by unfold fOf;rw[ady,q1]
  rw[q1]at E8;generalize fOf t seen=b at Xm;have E8:DY t (j::seen)=DY t seen++(if decide (v.f>0)=true then []else [v.n]):=E8;generalize DY t seen=l at E8 hll;cases hv:decide (v.f>0)
  .rw[hv,a0q (by simp)]at E8;rw[hv,agf]at Xm;have hv1:decide (v.f>0)=false:=hv;cases l with
   |nil=>
    have a1:[v.n].length<=ah:=by rw[a3j];unfold ah;omega
    refine⟨by kernel_rfl,aJ.step (e:=.norm) (by kernel_rfl) (zO (ps1:=⟨[(2,.val (.own 3)),(3,xl b),(6,.val (.iter 1))],[v.ps],[.iI (kV.im t),.dD 0 t.length (j::seen),.list true true 3 [v.n],.list true false 3 [v.n]]⟩) hX gK (by kernel_rfl) (.c (.cO [.agg v.ps,.int .i64 w]) [] (BD sD) (.b hv1 (.o a1 (.r rfl))))) ⟨.inl rfl,Gl,Gm,[.flag 3,.gc [1,3]],?_⟩⟩;rw[E8,Xm]
    kernel_rfl
   |cons x l=>
    have a1:(x::l).length+[v.n].length<=ah:=by rw[a3j];unfold ah;omega
    refine⟨by kernel_rfl,aJ.step (e:=.norm) (by kernel_rfl) (zO (ps1:=⟨[(2,.val (.own 4)),(3,xl b),(6,.val (.iter 1))],[v.ps],[.iI (kV.im t),.dD 0 t.length (j::seen),.gone,.list true true 3 [v.n],.list false false 3 (x::l++[v.n])]⟩) hX gK (by kernel_rfl) (.c (.cO [.agg v.ps,.int .i64 w]) [] (BD sD) (.b hv1 (.o a1 (.r rfl))))) ⟨.inl rfl,Gl,Gm,[.gc [1,4]],?_⟩⟩;rw[E8,Xm]
    kernel_rfl
  .rw[hv,a0u rfl,a5F]at E8;rw[hv,Bool.true_or]at Xm;have hv1:decide (v.f>0)=true:=hv;cases l with
   |nil=>
    refine⟨by kernel_rfl,aJ.step (e:=.exit 1) (by kernel_rfl) (zO (ps1:=⟨[(2,.val (.nil .aP)),(3,xl true),(6,.val (.iter 1))],[v.ps],[.iI (kV.im t),.dD 0 t.length (j::seen)]⟩) hX gK (by kernel_rfl) (.c (.cO [.agg v.ps,.int .i64 w]) [] (BD sD) (.b hv1 (.r rfl)))) ⟨.inr rfl,Gl,Gm,[],?_⟩⟩;rw[E8,Xm]
    kernel_rfl
   |cons x l=>
    refine⟨by kernel_rfl,aJ.step (e:=.exit 1) (by kernel_rfl) (zO (ps1:=⟨[(2,.val (.own 2)),(3,xl true),(6,.val (.iter 1))],[v.ps],[.iI (kV.im t),.dD 0 t.length (j::seen),.list false false 3 (x::l)]⟩) hX gK (by kernel_rfl) (.c (.cO [.agg v.ps,.int .i64 w]) [] (BD sD) (.b hv1 (.r rfl)))) ⟨.inr rfl,Gl,Gm,[],?_⟩⟩;rw[E8,Xm]
    kernel_rfl
theorem EF:∀l:LI0,iQ (EK X0 3 l)=some (l.map fun n=>TV.int .i64 n)
 | []=>rfl
 |a::l=>by
  have:=EF l;show(match qY (PV.int .i64 a:PV aC),iQ (EK X0 3 l)with
   |some a,some b=>some (a::b)
   |_,_=>none)=_
  rw[this];rfl
theorem a4g{nH:Bool}{b:Bool}{Hs:List (PB aC)}:a3s X0 Qp nH (.cO [.nil .aP,.bool b]) Hs (fun _=>.cO [.nil .aP,.bool b]) []:=fun A m h h1 w hr hw _=>by
 cases hw with
 |gone hi _ _=>simp[bD]at hi
 |cO a1 a2=>
  obtain⟨x,r,rfl,v0,v1⟩:=Pv.bY.inv (⟨a1,a2⟩:Pv.bY X0 Qp _ _ _ _ _);obtain⟨y,r,rfl,v2,v3⟩:=v1.inv;have:=v3.inv0;subst this;have:=jT v2 (show qp (PV.bool b:PV aC)=some (TV.bool b)from rfl);subst this;have:=jT v0 (show qp (PV.nil .aP:PV aC)=some (TV.nil .aP)from rfl);subst this;unfold Oe;simp only[BZ,BZ.EY,wR,nO,nO.zB,D9,Uj,Lm,a4t,abS,a5F,a0A]
set_option maxRecDepth 20000 in
theorem adK(h:JV t):(mD t=[]->iW (n+2) (.fn 88 [] []) [.map 0] [.iI (kV.im t)] (.cO [.nil .aP,.bool (uP t)]) [.iI (kV.im t)]) ∧
  (mD t≠[]->iW (n+2) (.fn 88 [] []) [.map 0] [.iI (kV.im t)] (.cO [.own 1,.bool (uP t)]) [.iI (kV.im t),.list false false 3 (mD t)]):=by
 have e0:(SY Qp 88).body=.seq (eU a0d) (.seq (.seq (eU (eU (eX a0d))) (.block 0 (.loop lpB))) (eX (eX a0d))):=by kernel_rfl
 have x0:dN X0 Qp T (iC (n+1)) LL 88 false (Cm Qp 88) 1 (eU a0d) ⟨lD X0 0 [.map 0],[],[.iI (kV.im t)]⟩ .norm ⟨[(0,.val (.map 0)),(2,.val (.nil .aP)),(3,xl false)],[],[.iI (kV.im t)]⟩:=zO hX gK (an:=.n) (by kernel_rfl) (.r rfl);have x1:dN X0 Qp T (iC (n+1)) LL 88 false (Cm Qp 88) 1 (eU (eU (eX a0d))) ⟨[(0,.val (.map 0)),(2,.val (.nil .aP)),(3,xl false)],[],[.iI (kV.im t)]⟩ .norm ⟨[(2,.val (.nil .aP)),(3,xl false),(6,.val (.iter 1))],[],[.iI (kV.im t),.dD 0 (kV.im t).length []]⟩:=zO hX gK (an:=.n) (by kernel_rfl) (.r rfl);rw[kV.pR t]at x1;have run:∀Q:Ex->aT aC->Prop,(∀l seen,gX l=mD t->aJ X0 Qp T (iC (n+1)) (uV Qp T (iC (n+1)) LL) LL 88 (Cm Qp 88) 1 (eX (eX a0d)) { sBl t l (uP t) seen with env:=jo (T.iE 88 2) ((8,.val (.bool false))::(7,.val (.cO [.bool false]))::(sBl t l (uP t) seen).env) } Q) ->
   aJ X0 Qp T (iC (n+1)) (uV Qp T (iC (n+1)) LL) LL 88 (Cm Qp 88) 1 (SY Qp 88).body ⟨lD X0 0 [.map 0],[],[.iI (kV.im t)]⟩ Q:=fun Q hQ=>by
  rw[e0];refine aJ.BA (by kernel_rfl) x0 (aJ.seq (R:=fun e s=>e=.norm∧∃l seen,gX l=mD t∧s={ sBl t l (uP t) seen with env:=jo (T.iE 88 2) ((8,.val (.bool false))::(7,.val (.cO [.bool false]))::(sBl t l (uP t) seen).env) }) (aJ.BA (by kernel_rfl) x1 (abb (n:=n) h)) (fun s hs=>?_) (fun i s h=>by cases h.1) (fun s h=>by cases h.1));obtain⟨_,l,seen,h1,rfl⟩:=hs;exact hQ l seen h1
 have hlen:∀l:LI0,gX l=mD t->l.length<=2^20:=fun l hl=>by
  have h1:(gX l).length=l.length:=by unfold gX;rw[ab7]
  have h2:(mD t).length<=t.length:=by unfold mD gX;rw[ab7,a4A];exact a9z ..
  have:=h.len;rw[hl]at h1;omega
 have aqo:gX []=([]:LI0):=by simp[gX]
 constructor
 .intro hn;have:=Dz (X:=X0) (P:=Qp) (T:=T) (L:=LL) (n:=n+1) (f:=88) (first:=[]) (cap:=[]) (xs:=[.map 0]) (H:=[.iI (kV.im t)]) (N:=[]) (v:=.cO [.nil .aP,.bool (uP t)]) (tv:=fun _=>.cO [.nil .aP,.bool (uP t)]) (tN:=[]) (t:=SY Qp 88) hX (by kernel_rfl) (by kernel_rfl) (by kernel_rfl) rfl (fun A m h hr=>⟨m,by simpa using hr,Pv.bY.cons (.nil .aP) (.cons (.bool _) .nil) |> fun h=>.cO h.1 h.2,by simpa using Fr.refl,.refl⟩) (run _ fun l seen hl=>?_)
  .exact this
  .rw[hn]at hl;have qM:l=[]:=by
    have h1:(gX l).length=l.length:=by unfold gX;rw[ab7]
    rw[hl]at h1;exact a4a h1.symm
   subst qM;exact aJ.step (by kernel_rfl) (zO (e:=.ret) (ps1:=⟨[(2,.val (.nil .aP)),(3,xl (uP t))],[],[.iI (kV.im t),.dD 0 t.length seen]⟩) hX gK (by kernel_rfl) (.fr [] (agi (n:=n)) (.r rfl))) ⟨.inr rfl,[.nil .aP,.bool (uP t)],by kernel_rfl,a4g⟩
 .intro hn;have:=Dz (X:=X0) (P:=Qp) (T:=T) (L:=LL) (n:=n+1) (f:=88) (first:=[]) (cap:=[]) (xs:=[.map 0]) (H:=[.iI (kV.im t)]) (N:=[.list false false 3 (mD t)]) (v:=.cO [.own 1,.bool (uP t)]) (tv:=fun n=>.cO [.aP n 0 (mD t).length (mD t).length 1 false,.bool (uP t)]) (tN:=[.cells .last ((mD t).map fun n=>TV.int .i64 n)]) (t:=SY Qp 88) hX (by kernel_rfl) (by kernel_rfl) (by kernel_rfl) rfl (fun A m h hr=>aaj hX (H:=[.iI (kV.im t)]) (ty:=3) (l:=mD t) hn (EF _) KW (by decide) (fun _ _ _=>rfl) rfl hr) (run _ fun l seen hl=>?_)
  .exact this
  .cases l with
   |nil=>rw[aqo]at hl;exact absurd hl.symm hn
   |cons x l=>
    have hs:=ad2 (n:=n) (k:=false) (ex:=false) (x::l) (hlen _ hl);rw[hl]at hs;exact aJ.step (by kernel_rfl) (zO (e:=.ret) (ps1:=⟨[(2,.val (.own 2)),(3,xl (uP t))],[],[.iI (kV.im t),.dD 0 t.length seen,.list false false 3 (mD t)]⟩) hX gK (by kernel_rfl) (.fr [2] hs (.r rfl))) ⟨.inr rfl,[.own 2,.bool (uP t)],by kernel_rfl,a6T hX (i:=2) (ty:=3) (l:=mD t) rfl hn (EF _) KW rfl⟩
end
open Go Tw Pv dB
abbrev vF:PV aC:=.fn 139 [] [.ptr 1 0 1]
abbrev a8s:Code:=(SY Qp 138).body
abbrev agj:Code:=(SY Qp 139).body
abbrev lpW:Code:=eU (eU (eX agj))
abbrev xW:Code:=eU (eX (eX lpW))
abbrev a8t:List (Nat×PE aC):=[(2,.val (.ptr 2 0 1)),(4,.val (.nil .aP)),(6,.val vF)]
abbrev Qj(rd:Bool)(jP:Option Code):PB aC:=.loop rd 138 (Cm Qp 138) a8t [7] (xk Qp 138) (AY Qp 138) jP
abbrev H3(t:List (V×Int))(x:PV aC):List (PB aC):=[.iI (kV.im t),.aF [.map 0],.cells [x]]
theorem one_le(w:Int):[w].length<=ah:=by rw[a3j];unfold ah;omega
theorem aqp{n:Nat}(t:List (V×Int))(w:Int):iW (n+1) (.kX 4) [.int .i64 w] (H3 t (.nil .aP)++[.mark,Qj true none]) (.bool true) (H3 t (.own 6)++[.mark,Qj true none,.list true true 3 [w],.list true false 3 [w]]):=by have q1:dN X0 Qp T (iC n) LL 138 true (Cm Qp 138) 5 (xk Qp 138) ⟨uq a8t [7] [.int .i64 w],[],H3 t (.nil .aP)++[.mark,Qj true none]⟩ .norm ⟨[(2,.val (.ptr 2 0 1)),(5,xi w)],[],H3 t (.nil .aP)++[.mark,Qj true none]⟩:=yF hX gK (by kernel_rfl) .xx;have q2:dN X0 Qp T (iC n) LL 138 true (Cm Qp 138) 5 (AY Qp 138) ⟨[(2,.val (.ptr 2 0 1)),(5,xi w)],[],H3 t (.nil .aP)++[.mark,Qj false none]⟩ .norm ⟨[],[],H3 t (.own 6)++[.mark,Qj false none,.list true true 3 [w],.list true false 3 [w]]⟩:=yF hX gK (by kernel_rfl) (.o (one_le w) .xx);exact I8 hX (l:=4) rfl rfl (by kernel_rfl) q1 rfl q2 rfl
theorem aqr{n:Nat}(t:List (V×Int))(l:LI0)(w:Int)(hl:l.length+[w].length<=ah):iW (n+1) (.kX 4) [.int .i64 w] (H3 t (.own 5)++[.mark,Qj true none,.list false false 3 l]) (.bool true) (H3 t (.own 7)++[.mark,Qj true none,.gone,.list true true 3 [w],.list false false 3 (l++[w])]):=by have q1:dN X0 Qp T (iC n) LL 138 true (Cm Qp 138) 6 (xk Qp 138) ⟨uq a8t [7] [.int .i64 w],[],H3 t (.own 5)++[.mark,Qj true none,.list false false 3 l]⟩ .norm ⟨[(2,.val (.ptr 2 0 1)),(5,xi w)],[],H3 t (.own 5)++[.mark,Qj true none,.list false false 3 l]⟩:=yF hX gK (by kernel_rfl) .xx;have q2:dN X0 Qp T (iC n) LL 138 true (Cm Qp 138) 6 (AY Qp 138) ⟨[(2,.val (.ptr 2 0 1)),(5,xi w)],[],H3 t (.own 5)++[.mark,Qj false none,.list false false 3 l]⟩ .norm ⟨[],[],H3 t (.own 7)++[.mark,Qj false none,.gone,.list true true 3 [w],.list false false 3 (l++[w])]⟩:=yF hX gK (by kernel_rfl) (.o hl .xx);exact I8 hX (l:=4) rfl rfl (by kernel_rfl) q1 rfl q2 rfl
def EM(t:List (V×Int))(js:List Nat):LI0:=js.reverse.map fun j=>(Qi t j).2
theorem a4h(t:List (V×Int))(j:Nat)(js:List Nat):EM t (j::js)=EM t js++[(Qi t j).2]:=by simp[EM]
abbrev sWl(t:List (V×Int))(l:LI0)(js:List Nat):aT aC:=match l with
 | []=>⟨[(0,.val (.kX 4)),(6,.val (.iter 5))],[],H3 t (.nil .aP)++[.mark,Qj true none,.dD 0 t.length js]⟩
 |x::l=>⟨[(0,.val (.kX 4)),(6,.val (.iter 5))],[],H3 t (.own 6)++[.mark,Qj true none,.dD 0 t.length js,.list false false 3 (x::l)]⟩
section
variable {n:Nat} {t:List (V×Int)}
set_option maxRecDepth 20000 in
theorem abd(h:JV t):aJ X0 Qp T (iC (n+1)) D8 LL 139 (Cm Qp 139) 5 (.block 0 (.loop lpW)) (sWl t [] [])
  fun e s=>e=.norm∧∃l seen,l.Perm (t.map (·.2))∧s={ sWl t l seen with env:=jo (T.iE 139 1) ((8,.val (.bool false))::(7,.val (.cO [.bool false]))::(sWl t l seen).env) }:=by
 have e1:lpW=.seq (.region 1 (a6U (eU lpW)) false) (.seq (.cond (.tmp 8) .skip (.exit 0)) (.block 1 xW)):=by kernel_rfl
 have hlen:=h.len;rw[e1];refine Pm hX (n:=t.length) (b:=5) (r:=0) (it:=6) (nx:=7) (mo:=8) (es:=kV.im t) (fun seen s=>seen.Nodup∧(∀j∈seen,j<t.length)∧∃gs,kT 5 gs (gW X0 (T.eY 139 (dU lpW)) s)=some (sWl t (EM t seen) seen)) (by kernel_rfl) (a81 (by kernel_rfl)) (a81 (by kernel_rfl)) (kV.pR t) (by unfold LL;omega)
  ⟨a5L,(fun j hj=>(by cases hj)),[],(by kernel_rfl)⟩ (fun seen s hi=>?_)
 obtain⟨jG,aQ,gs,h3⟩:=hi;rw[<-e1];refine⟨gs,_,h3,?_,?_,?_,fun ho=>?_,fun j e hj he=>?_⟩
 .cases EM t seen<;>kernel_rfl
 .cases EM t seen<;>kernel_rfl
 .cases EM t seen<;>kernel_rfl
 .refine⟨?_,EM t seen,seen,?_,rfl⟩
  .cases EM t seen<;>kernel_rfl
  .have hp:(seen.reverse).Perm (List.range t.length):=(List.reverse_perm seen).trans ((a7H jG ae0).2 fun j=>⟨fun h=>a4B.2 (aQ j h),fun h=>ho j (a4B.1 h)⟩);unfold EM
   conv=>rhs;rw[agd t]
   rw[a8m];exact hp.map _
 .rw[kV.Bv,a0i]at he;obtain⟨⟨v,w⟩,sD,rfl⟩:=he;obtain⟨q1,q2,q3⟩:=VB sD;have Gl:(j::seen).Nodup:=a4z.2 ⟨hj,jG⟩;have Gm:∀k∈j::seen,k<t.length:=fun k hk=>by
   rcases a1F.1 hk with rfl|hk
   .exact q2
   .exact aQ k hk
  have hll:(EM t seen).length<=2000:=by
   have h2:seen.length<=t.length:=by have:=(JR jG aQ).length_eq;have h3:=a9z (fun j=>seen.contains j) (List.range t.length);rw[a98]at h3;omega
   have h1:(EM t seen).length=seen.length:=(by simp[EM]);omega
  have E8:=a4h t j seen;rw[q1]at E8;have E8:EM t (j::seen)=EM t seen++[w]:=E8;generalize EM t seen=l at E8 hll;cases l with
  |nil=>
   refine⟨by kernel_rfl,aJ.step (e:=.norm) (by kernel_rfl) (zO (ps1:=⟨[(0,.val (.kX 4)),(6,.val (.iter 5)),(14,xl false)],[],H3 t (.own 7)++[.mark,Qj true none,.dD 0 t.length (j::seen),.list true true 3 [w],.list true false 3 [w]]⟩) hX gK (by kernel_rfl) (.c (.cO [.agg v.ps,.int .i64 w]) [] (BD sD) (.fr [0,1,2,3,4] (aqp (n:=n) t w) (.b (rfl:(!true)=false) (.r rfl))))) ⟨.inl rfl,Gl,Gm,[.flag 7,.gc [5,7]],?_⟩⟩;rw[E8]
   kernel_rfl
  |cons x l=>
   have a1:(x::l).length+[w].length<=ah:=by rw[a3j];unfold ah;omega
   refine⟨by kernel_rfl,aJ.step (e:=.norm) (by kernel_rfl) (zO (ps1:=⟨[(0,.val (.kX 4)),(6,.val (.iter 5)),(14,xl false)],[],H3 t (.own 8)++[.mark,Qj true none,.dD 0 t.length (j::seen),.gone,.list true true 3 [w],.list false false 3 (x::l++[w])]⟩) hX gK (by kernel_rfl) (.c (.cO [.agg v.ps,.int .i64 w]) [] (BD sD) (.fr [0,1,2,3,4,6] (aqr (n:=n) t (x::l) w a1) (.b (rfl:(!true)=false) (.r rfl))))) ⟨.inl rfl,Gl,Gm,[.gc [5,8]],?_⟩⟩;rw[E8]
   kernel_rfl
end
open Go Tw Pv dB
def rZ(t:List (V×Int)):LI0:=zC (fun n=>[n]) (t.map fun e:V×Int=>e.2)
abbrev QO(n:Int):TV:=.int .i64 n
abbrev LH(n:Int):PV aC:=.int .i64 n
theorem a4i{t:List (V×Int)}{l:LI0}(h:l.Perm (t.map fun e:V×Int=>e.2)):RQ (l.map QO)=(rZ t).map QO:=by unfold RQ;rw[SV (g:=QO) (key:=fun n=>[n]) (a6N:=RJ) (fun _=>rfl),Fh h fun a _ b _ e=>by simpa using e];rfl
theorem JW:∀l:LI0,Uo (l.map LH)=some (l.map QO)
 | []=>rfl
 |a::l=>by
  have:=JW l;show(match qp (LH a),Uo (l.map LH)with
   |some a,some b=>some (a::b)
   |_,_=>none)=_
  rw[this];rfl
section
variable {n:Nat} {t:List (V×Int)}
set_option maxRecDepth 20000 in
theorem al0(h:JV t)(ht:t≠[]):aaf X0 Qp (uV Qp T (iC (n+1)) LL) vF [.kX 4] (H3 t (.nil .aP)++[.mark,Qj true none]) fun v H1=>∃(l:LI0) (seen:List Nat),l.Perm (t.map fun e:V×Int=>e.2)∧H1=H3 t (.own 6)++[.mark,Qj true none,.dD 0 t.length seen,.list false false 3 l]:=by
 refine a1B (t:=SY Qp 139) hX (by kernel_rfl) ?_;have e0:(SY Qp 139).body=.seq (eU agj) (.block 0 (.loop lpW)):=by kernel_rfl
 rw[e0];have x0:dN X0 Qp T (iC (n+1)) LL 139 false (Cm Qp 139) 5 (eU agj) ⟨lD X0 0 [.kX 4,.ptr 1 0 1],[],H3 t (.nil .aP)++[.mark,Qj true none]⟩ .norm ⟨[(0,.val (.kX 4)),(6,.val (.iter 5))],[],H3 t (.nil .aP)++[.mark,Qj true none,.dD 0 (kV.im t).length []]⟩:=zO hX gK (an:=.n) (by kernel_rfl) (.r rfl);rw[kV.pR t]at x0;refine aJ.BA (by kernel_rfl) x0 ((abd (n:=n) h).mono fun e s h1=>?_);obtain⟨rfl,l,seen,h2,rfl⟩:=h1;cases l with
 |nil=>
  have:=h2.length_eq;rw[a4A]at this;exact absurd (a4a this.symm) ht
 |cons x l=>exact⟨.inl rfl,[],by kernel_rfl,x::l,seen,h2,rfl⟩
set_option maxRecDepth 20000 in
theorem abe(h:JV t)(ht:t≠[]):iW (n+2) (.fn 138 [] []) [.nil .aP,vF] [.iI (kV.im t),.aF [.map 0]] (.aP 2 0 t.length t.length 1 false) [.iI (kV.im t),.aF [.map 0],.nH ((rZ t).map LH)]:=by
 have e0:(SY Qp 138).body=.seq (eU a8s) (.seq (.seq (eU (eU (eX a8s))) (.block 0 (.rangeFunc (.tmp 6) #[7] (xk Qp 138) (AY Qp 138)))) (eX (eX a8s))):=by kernel_rfl
 have x0:dN X0 Qp T (iC (n+1)) LL 138 false (Cm Qp 138) 2 (eU a8s) ⟨lD X0 0 [.nil .aP,vF],[],[.iI (kV.im t),.aF [.map 0]]⟩ .norm ⟨[(1,.val vF),(2,.val (.ptr 2 0 1)),(4,.val (.nil .aP))],[],H3 t (.nil .aP)⟩:=zO hX gK (an:=.n) (by kernel_rfl) (.r rfl);have x1:dN X0 Qp T (iC (n+1)) LL 138 false (Cm Qp 138) 2 (eU (eU (eX a8s))) ⟨[(1,.val vF),(2,.val (.ptr 2 0 1)),(4,.val (.nil .aP))],[],H3 t (.nil .aP)⟩ .norm ⟨a8t,[],H3 t (.nil .aP)⟩:=zO hX gK (an:=.n) (by kernel_rfl) (.r rfl);have:=Dz (X:=X0) (P:=Qp) (T:=T) (L:=LL) (n:=n+1) (f:=138) (first:=[]) (cap:=[]) (xs:=[.nil .aP,vF]) (H:=[.iI (kV.im t),.aF [.map 0]]) (N:=[.nH ((rZ t).map LH)]) (v:=.aP 2 0 t.length t.length 1 false) (tv:=fun k=>.aP k 0 t.length t.length 1 false) (tN:=[.nH ((rZ t).map QO)]) (t:=SY Qp 138) hX (by kernel_rfl) (by kernel_rfl) (by kernel_rfl) rfl (fun A m h hr=>aai (H:=[.iI (kV.im t),.aF [.map 0]]) (n:=t.length) (sz:=1) (JW _) hr) ?_
 .exact this
 rw[e0];refine aJ.BA (by kernel_rfl) x0 (aJ.seq (R:=fun e s=>e=.norm∧∃(l:LI0) (seen:List Nat),l.Perm (t.map fun e:V×Int=>e.2)∧s=⟨a8t,[],H3 t (.own 6)++[.mark,Qj false (some .skip),.dD 0 t.length seen,.list false false 3 l]⟩) (aJ.BA (by kernel_rfl) x1 (aJ.block ?_)) (fun s hs=>?_) (fun i s h=>by cases h.1) (fun s h=>by cases h.1))
 .refine aJ.range (f1:=139) (a1:=[]) (b1:=[.ptr 1 0 1]) (K:=fun v H1=>∃(l:LI0) (seen:List Nat),l.Perm (t.map fun e:V×Int=>e.2)∧H1=H3 t (.own 6)++[.mark,Qj true none,.dD 0 t.length seen,.list false false 3 l]) hX rfl (by kernel_rfl) (by kernel_rfl) (al0 (n:=n) h ht) (fun v H1 hk=>?_);obtain⟨l,seen,h1,rfl⟩:=hk;exact⟨true,_,_,_,_,_,_,none,.norm,rfl,rfl,rfl,l,seen,h1,rfl⟩
 obtain⟨_,l,seen,h1,rfl⟩:=hs;have hl:l≠[]:=fun e=>by subst e;have:=h1.length_eq;rw[a4A]at this;exact absurd (a4a this.symm) ht
 have hlen:t.length=l.length:=by rw[h1.length_eq,a4A]
 refine aJ.step (by kernel_rfl) (zO (e:=.ret) (ps1:=⟨[(4,.val (.own 6))],[],H3 t (.own 6)++[.mark,Qj false (some .skip),.dD 0 t.length seen,.list false false 3 l]⟩) hX gK (an:=.n) (by kernel_rfl) (.r rfl)) ⟨.inr rfl,[.own 6],by kernel_rfl,?_⟩;rw[<-a4i h1,hlen];exact a6S hX (i:=6) (ty:=3) (l:=l) rfl hl (EF _) KW
end
def Qk:LI0->Int
 | []=>0
 |x::l=>l.foldl max x
theorem Yl:∀(l:LI0) (x:Int),(l.foldl max x=x∨l.foldl max x∈l)∧x<=l.foldl max x∧∀y∈l,y<=l.foldl max x
 | [],x=>⟨.inl rfl,a9d _,fun y hy=>by cases hy⟩
 |a::l,x=>by
  obtain⟨h1,h2,h3⟩:=Yl l (max x a);rw[adB];have hm:max x a=x∨max x a=a:=by omega
  refine⟨?_,by omega,fun y hy=>?_⟩
  .rcases h1 with h1|h1
   .rcases hm with e|e
    .exact .inl (h1.trans e)
    rw[h1,e];exact .inr (by simp)
   exact .inr (by simp[h1])
  rcases a1F.1 hy with rfl|hy
  .omega
  exact h3 y hy
theorem Ym{l:LI0}(h:l≠[]):Qk l∈l∧∀y∈l,y<=Qk l:=by
 cases l with
 |nil=>exact absurd rfl h
 |cons x l=>
  obtain⟨h1,h2,h3⟩:=Yl l x;refine⟨?_,fun y hy=>?_⟩
  .rcases h1 with h1|h1
   .show l.foldl max x∈_;rw[h1];simp
   exact a3h _ h1
  rcases a1F.1 hy with rfl|hy
  .exact h2
  exact h3 y hy
theorem a4j{l l':LI0}(h:l.Perm l')(hl:l≠[]):Qk l=Qk l':=by
 have hl':l'≠[]:=fun e=>by subst e;exact hl h.eq_nil
 obtain⟨a1,a2⟩:=Ym hl;obtain⟨b1,b2⟩:=Ym hl';have:=a2 _ (h.mem_iff.2 b1);have:=b2 _ (h.mem_iff.1 a1);omega
open Go Tw Pv dB
abbrev ApM(n:Nat):aY:=lC Qp Tm (2^24) n
theorem okM{n:Nat}:jJ X0 Qp (ApM n) aa5:=fun _ _ _ _ _ h _=>by cases h
def gMx(l:LI0)(k:Nat)(m:Int):Int:=if l.getD (i64.wrap ((k:Int)+1)).toNat 0>m then l.getD (i64.wrap ((k:Int)+1)).toNat 0 else m
theorem a2m{x:Int}{r:LI0}(h:r.length<=ah):∀k,k<=r.length->aU (gMx (x::r)) k 0 x=(r.take k).foldl max x
 | 0,_=>rfl
 |k+1,hk=>by
  rw[qE,a2m h k (by omega)];unfold gMx;rw[a3I,yE (by omega),a4T];have e:(x::r).getD (k+1) 0=r[k]'(by omega):=by simp[List.getD,a0n (show k<r.length by omega)]
  rw[e,a5r (by omega),List.foldl_append];simp only[adB,List.foldl_nil];omega
abbrev wMx(l:LI0)(m i:Int)(x:List (Nat×PE aC)):aT aC:=⟨[(0,xL 3 l),(3,xi m),(4,xi (i64.wrap (i+1)))]++x,[],[]⟩
set_option maxRecDepth 20000 in
theorem al2{l:LI0}(h0:l≠[])(hl:l.length<=2000):bZ X0 Qp (ApM 2) (.fn 94 [] []) [.dJ 3 l false] [] (.int .i64 (Qk l)) []:=by
 cases l with
 |nil=>exact absurd rfl h0
 |cons x r=>
  have hr:r.length<=ah:=by have:(x::r).length=r.length+1:=rfl;unfold ah;omega
  have lp:dN X0 Qp Tm (ApM 1) LL 94 false (Cm Qp 94) 0 (.loop (SC Qp 94 0)) ⟨[(0,xL 3 (x::r)),(3,xi x),(4,xi 1)],[],[]⟩ (.exit 0) (wMx (x::r) (aU (gMx (x::r)) r.length 0 x) r.length [(15,xl false)]):=by
   refine KO (X:=X0) (N:=r.length) (g:=gMx (x::r)) (s0:=x) (st:=fun i m=>wMx (x::r) m i []) (fin:=fun m=>wMx (x::r) m r.length [(15,xl false)]) (fun _ _=>True) (by kernel_rfl) hr QH trivial (fun _ _ _ _=>trivial) (fun k m hk _ n e p g9=>?_) (fun m _=>?_)
   .have e1:i64.wrap ((k:Int)+1)=((k+1:Nat):Int):=yE (by omega);have t1:decide (i64.wrap ((k:Int)+1)<((x::r).length:Int))=true:=by rw[e1,a1n,a4q];omega
    have i1:fF (i64.wrap ((k:Int)+1)) (x::r).length:=by rw[e1];exact aG (by rw[a4q];omega)
    exact round hX okM (by kernel_rfl) (.b t1 (.o i1 (.go g9)))
   have e1:i64.wrap ((r.length:Int)+1)=((r.length+1:Nat):Int):=yE (by omega);have t1:decide (i64.wrap ((r.length:Int)+1)<((x::r).length:Int))=false:=by rw[e1,a2K,a4q];omega
   exact round hX okM (by kernel_rfl) (.b t1 .ex)
  have e:aU (gMx (x::r)) r.length 0 x=Qk (x::r):=by rw[a2m hr _ (a0E _),abN];rfl
  rw[e]at lp;have hc:((x::r).length:Int)=r.length+1:=by simp
  have t0:decide (((x::r).length:Int)<1)=false:=by rw[a2K,hc];omega
  have i0:fF 0 (x::r).length:=⟨by decide,by rw[hc];omega⟩;exact jV hX okM (first:=[]) (cap:=[]) (by kernel_rfl) (.b t0 (.o i0 (.w lp .er)))
theorem abf(n:Nat)(x:TV)(h:List HB):lC Qp T LL (n+1) (.fn 94 [] []) [x] h=a3o 94 (ApM 2) (.fn 94 [] []) [x] h:=rfl
theorem al3{n:Nat}{vs:LI0}(h0:vs≠[])(hl:vs.length<=2000):iW (n+1) (.fn 94 [] []) [.aP 0 0 vs.length vs.length 1 false] [.nH (vs.map LH)] (.int .i64 (Qk vs)) [.nH (vs.map LH)]:=by
 intro A m h tf qN hr hf hx;obtain⟨x,r,rfl,h1,h2⟩:=hx.inv;have:=h2.inv0;subst this;have htf:=hf.UQ;subst htf;obtain⟨mb,g1,g2⟩:=hr.at_ 0 _ rfl;cases mb with
 |gJ c=>
  obtain⟨ts,g3,g4⟩:=g2;have g5:=g4.symm.trans (JW vs);cases g5;have hx2:x=.aP c 0 vs.length vs.length 1 false:=by
   cases h1 with
   |aP e=>rw[g1]at e;cases e;rfl
   |gone hi e _=>simp only[bD,a01]at hi;subst hi;rw[g1]at e;cases e
  subst hx2;have EL:c∈bC m:=bf g1 rfl;have aQ:=(a0a.1 g3).1;show ∃w h1 ws m1,lC Qp T LL (n+1) _ _ h=_∧_;rw[abf,aae (k:=.i64) (n:=Qk vs)]
  .exact⟨_,h,[],m,rfl,hr,.int _ _,.refl,.refl,fun b hb=>by cases hb⟩
  .refine⟨⟨_,_,rfl⟩,rfl,fun h' hu=>?_⟩;obtain⟨cs',p1,p2⟩:=hu.2 c _ g3;obtain⟨l,hp,rfl⟩:∃l:LI0,l.Perm vs∧cs'=l.map QO:=by
    have hq:∀y∈cs',∃i:Int,y=QO i:=fun y hy=>by obtain⟨i,_,rfl⟩:=a1k.1 (p1.mem_iff.1 hy);exact⟨i,rfl⟩
    have hun:∀L:List TV,(∀y∈L,∃i:Int,y=QO i)->∃l:LI0,L=l.map QO:=by
     intro L
     induction L with
     |nil=>exact fun _=>⟨[],rfl⟩
     |cons y L ih=>
      intro hL;obtain⟨i,rfl⟩:=hL y (by simp);obtain⟨l,rfl⟩:=ih fun z hz=>hL z (by simp[hz]);exact⟨i::l,rfl⟩
    obtain⟨l,rfl⟩:=hun cs' hq;refine⟨l,?_,rfl⟩;have:=p1.map fun y=>match y with|.int _ n=>n|_=>0
    rw[a8m,a8m]at this;simpa[Function.comp_def]using this
   have hlen:l.length=vs.length:=hp.length_eq;have qM:l≠[]:=fun e=>by subst e;exact h0 (a4a hlen.symm)
   have al4:h'.length=h.length:=by
    have e:=fun b=>SL hu b;refine Nat.le_antisymm (ad8 fun hb=>?_) (ad8 fun hb=>?_)
    .have:=e h.length;rw[a0n hb,a4r (a0E _)]at this;cases this
    have:=e h'.length;rw[a0n hb,a4r (a0E _)]at this;cases this
   have hm:=al2 qM (by omega);have hvr:Pv.VR X0 Qp (AA A []) [] h' (.dJ 3 l false) (.aP c 0 vs.length vs.length 1 false):=by
    rw[<-hlen];refine Pv.VR.dJ (cs:=l.map QO) ⟨hr.Di c EL,by simp[bC]⟩ (by simp only[aX,p2]) (fun _=>by simp[mM,p2]) KW (by decide) (by simp;exact a0E _) (a0E _) (by intro h;cases h) ?_ ?_
    .intro j a _;rfl
    have hrw:=Tq (A:=AA A []) (m:=[]) (h:=h') l;intro j a i c v a1 a2 a3;exact hrw.2.2 j a i c v a1 a2 a3
   obtain⟨w,h2,ws,m1,c1,c2,c3,c4,c5,c6⟩:=hm A [] h' (.fn 94 [] []) [.aP c 0 vs.length vs.length 1 false] ⟨rfl,fun i b hi=>by simp at hi,by simp[bC],fun b hb=>hr.up b (by rw[<-al4];exact hb),fun b hb=>by simp[bC]at hb⟩ (.fn rfl (fun i x y hi=>by simp at hi) rfl (fun i x y hi=>by simp at hi)) (.cons hvr .nil)
   .have hw:w=.int .i64 (Qk vs):=by rw[<-a4j hp qM];exact c3.a1w
    subst hw;have YJ:ws=[]:=a7d.2 fun b hb=>by have:=c6 b hb;simp[bC]at this
    subst YJ;exact⟨h2,c1⟩
  obtain⟨h',hu⟩:∃h',P7 h h':=⟨_,Xq h (fun b=>match h[b]? with|some (.nH cs)=>cs|_=>[]) fun b cs e=>by rw[e]⟩;exact⟨h',hu⟩
 |_=>exact g2.elim
open Go Tw Pv dB
theorem al5{n:Nat}(hO:Ok n rY){k:Int}(hk:0<=k∧k<=6):iW (n+1) (.fn 124 [] []) [.own 0,.int .i64 k] [.list true true 3 ([-1]:LI0)] (.own 1) [.list true true 3 ([-1]:LI0),.list true true 3 (List.replicate k.toNat (-1):LI0)]:=by
 rcases a7V hk with rfl|rfl|rfl|rfl|rfl|rfl|rfl
 .exact fK hO (first:=[]) (cap:=[]) (.b (rfl:decide ((0:Int)<0)=false) (.o (rfl:(1:Int)=1) (.o (⟨by decide,by decide⟩:(0:Int)<=0∧(0:Int)<=6) (.b (rfl:decide ((0:Int)>0)=false) (.b (rfl:decide ((0:Int)>9223372036854775807)=false) (.o (rfl:(0:Int)=0) (.o (show(0:Int)<=0 by decide) (.o (show(0:Int)<=(ah:Int) by decide) (.m 8 le8 (.b (rfl:decide ((0:Int)<0)=false) .er))))))))))
 .exact fK hO (first:=[]) (cap:=[]) (.b (rfl:decide ((1:Int)<0)=false) (.o (rfl:(1:Int)=1) (.o (⟨by decide,by decide⟩:(0:Int)<=1∧(1:Int)<=6) (.b (rfl:decide ((0:Int)>0)=false) (.b (rfl:decide ((1:Int)>9223372036854775807)=false) (.o (rfl:(1:Int)=1) (.o (show(0:Int)<=1 by decide) (.o (show(1:Int)<=(ah:Int) by decide) (.m 8 le8 (.b (rfl:decide ((1:Int)<1)=false) .er))))))))))
 .exact fK hO (first:=[]) (cap:=[]) (.b (rfl:decide ((2:Int)<0)=false) (.o (rfl:(1:Int)=1) (.o (⟨by decide,by decide⟩:(0:Int)<=2∧(2:Int)<=6) (.b (rfl:decide ((0:Int)>0)=false) (.b (rfl:decide ((2:Int)>9223372036854775807)=false) (.o (rfl:(2:Int)=2) (.o (show(0:Int)<=2 by decide) (.o (show(2:Int)<=(ah:Int) by decide) (.m 8 le8 (.b (rfl:decide ((1:Int)<2)=true) (.o (show(0:Int)<=1 by decide) (.o (show(1:Int)<=2 by decide) (.o (show(2:Int)<=2 by decide) (.o (show(0:Int)<=0 by decide) (.o (show(0:Int)<=1 by decide) (.o (show(1:Int)<=2 by decide) (.b (rfl:decide ((2:Int)<2)=false) .er)))))))))))))))))
 .exact fK hO (first:=[]) (cap:=[]) (.b (rfl:decide ((3:Int)<0)=false) (.o (rfl:(1:Int)=1) (.o (⟨by decide,by decide⟩:(0:Int)<=3∧(3:Int)<=6) (.b (rfl:decide ((0:Int)>0)=false) (.b (rfl:decide ((3:Int)>9223372036854775807)=false) (.o (rfl:(3:Int)=3) (.o (show(0:Int)<=3 by decide) (.o (show(3:Int)<=(ah:Int) by decide) (.m 8 le8 (.b (rfl:decide ((1:Int)<3)=true) (.o (show(0:Int)<=1 by decide) (.o (show(1:Int)<=3 by decide) (.o (show(3:Int)<=3 by decide) (.o (show(0:Int)<=0 by decide) (.o (show(0:Int)<=1 by decide) (.o (show(1:Int)<=3 by decide) (.b (rfl:decide ((2:Int)<3)=true) (.o (show(0:Int)<=2 by decide) (.o (show(2:Int)<=3 by decide) (.o (show(3:Int)<=3 by decide) (.o (show(0:Int)<=0 by decide) (.o (show(0:Int)<=2 by decide) (.o (show(2:Int)<=3 by decide) (.b (rfl:decide ((3:Int)<3)=false) .er))))))))))))))))))))))))
 .exact fK hO (first:=[]) (cap:=[]) (.b (rfl:decide ((4:Int)<0)=false) (.o (rfl:(1:Int)=1) (.o (⟨by decide,by decide⟩:(0:Int)<=4∧(4:Int)<=6) (.b (rfl:decide ((0:Int)>0)=false) (.b (rfl:decide ((4:Int)>9223372036854775807)=false) (.o (rfl:(4:Int)=4) (.o (show(0:Int)<=4 by decide) (.o (show(4:Int)<=(ah:Int) by decide) (.m 8 le8 (.b (rfl:decide ((1:Int)<4)=true) (.o (show(0:Int)<=1 by decide) (.o (show(1:Int)<=4 by decide) (.o (show(4:Int)<=4 by decide) (.o (show(0:Int)<=0 by decide) (.o (show(0:Int)<=1 by decide) (.o (show(1:Int)<=4 by decide) (.b (rfl:decide ((2:Int)<4)=true) (.o (show(0:Int)<=2 by decide) (.o (show(2:Int)<=4 by decide) (.o (show(4:Int)<=4 by decide) (.o (show(0:Int)<=0 by decide) (.o (show(0:Int)<=2 by decide) (.o (show(2:Int)<=4 by decide) (.b (rfl:decide ((4:Int)<4)=false) .er))))))))))))))))))))))))
 .exact fK hO (first:=[]) (cap:=[]) (.b (rfl:decide ((5:Int)<0)=false) (.o (rfl:(1:Int)=1) (.o (⟨by decide,by decide⟩:(0:Int)<=5∧(5:Int)<=6) (.b (rfl:decide ((0:Int)>0)=false) (.b (rfl:decide ((5:Int)>9223372036854775807)=false) (.o (rfl:(5:Int)=5) (.o (show(0:Int)<=5 by decide) (.o (show(5:Int)<=(ah:Int) by decide) (.m 8 le8 (.b (rfl:decide ((1:Int)<5)=true) (.o (show(0:Int)<=1 by decide) (.o (show(1:Int)<=5 by decide) (.o (show(5:Int)<=5 by decide) (.o (show(0:Int)<=0 by decide) (.o (show(0:Int)<=1 by decide) (.o (show(1:Int)<=5 by decide) (.b (rfl:decide ((2:Int)<5)=true) (.o (show(0:Int)<=2 by decide) (.o (show(2:Int)<=5 by decide) (.o (show(5:Int)<=5 by decide) (.o (show(0:Int)<=0 by decide) (.o (show(0:Int)<=2 by decide) (.o (show(2:Int)<=5 by decide) (.b (rfl:decide ((4:Int)<5)=true) (.o (show(0:Int)<=4 by decide) (.o (show(4:Int)<=5 by decide) (.o (show(5:Int)<=5 by decide) (.o (show(0:Int)<=0 by decide) (.o (show(0:Int)<=4 by decide) (.o (show(4:Int)<=5 by decide) (.b (rfl:decide ((5:Int)<5)=false) .er)))))))))))))))))))))))))))))))
 exact fK hO (first:=[]) (cap:=[]) (.b (rfl:decide ((6:Int)<0)=false) (.o (rfl:(1:Int)=1) (.o (⟨by decide,by decide⟩:(0:Int)<=6∧(6:Int)<=6) (.b (rfl:decide ((0:Int)>0)=false) (.b (rfl:decide ((6:Int)>9223372036854775807)=false) (.o (rfl:(6:Int)=6) (.o (show(0:Int)<=6 by decide) (.o (show(6:Int)<=(ah:Int) by decide) (.m 8 le8 (.b (rfl:decide ((1:Int)<6)=true) (.o (show(0:Int)<=1 by decide) (.o (show(1:Int)<=6 by decide) (.o (show(6:Int)<=6 by decide) (.o (show(0:Int)<=0 by decide) (.o (show(0:Int)<=1 by decide) (.o (show(1:Int)<=6 by decide) (.b (rfl:decide ((2:Int)<6)=true) (.o (show(0:Int)<=2 by decide) (.o (show(2:Int)<=6 by decide) (.o (show(6:Int)<=6 by decide) (.o (show(0:Int)<=0 by decide) (.o (show(0:Int)<=2 by decide) (.o (show(2:Int)<=6 by decide) (.b (rfl:decide ((4:Int)<6)=true) (.o (show(0:Int)<=4 by decide) (.o (show(4:Int)<=6 by decide) (.o (show(6:Int)<=6 by decide) (.o (show(0:Int)<=0 by decide) (.o (show(0:Int)<=4 by decide) (.o (show(4:Int)<=6 by decide) (.b (rfl:decide ((6:Int)<6)=false) .er)))))))))))))))))))))))))))))))
def fD(D:List Dg):Jb:=⟨(D.getD 0 mG).aA,(D.getD 0 mG).aH,D,List.replicate (D.getD 0 mG).aA.length (-1)⟩
theorem al6{n f:Nat}(hO:Ok (n+1) rY)(Cc:Ok n rY){D:List Dg}(h0:0<D.length)(h6:(D.getD 0 mG).aA.length<=6){k ex:Bool}:iW (n+2) (.fn 78 [] []) [.fn f [] [],.own 0] [.list k ex 26 D] (.agg [lI (fD D).s,lI (fD D).o,.own 0,.own 1,.fn f [] []]) [.list k ex 26 D,.list true true 3 (fD D).g]:=by have i0:fF 0 D.length:=aG h0;have hs:=al5 Cc (k:=((D.getD 0 mG).aA.length:Int)) ⟨by omega,by omega⟩;rw[a4T]at hs;have h:iW (n+2) (.fn 78 [] []) [.fn f [] [],.own 0] [.list k ex 26 D] (.agg [lI (fD D).s,lI (fD D).o,.own 0,.own 2,.fn f [] []]) [.list k ex 26 D,.list true true 3 ([-1]:LI0),.list true true 3 (fD D).g]:=fK hO (first:=[]) (cap:=[]) (.o i0 (.o i0 (.o i0 (.fr [1] hs .er))));exact bZ.gs hX h [.gc [2]] rfl
theorem al7{n f:Nat}(u:Int)(hO:Ok (n+1) rY)(Cc:Ok n rY){D:List Dg}(h0:0<D.length)(h6:(D.getD 0 mG).aA.length<=6){k ex:Bool}:iW (n+2) (.fn 78 [] []) [.fn f [] [.ptr 1 0 1],.own 0] [.list k ex 26 D,.aF [.int .u8 u]] (.agg [lI (fD D).s,lI (fD D).o,.own 0,.own 2,.fn f [] [.ptr 1 0 1]]) [.list k ex 26 D,.aF [.int .u8 u],.list true true 3 (fD D).g]:=by have i0:fF 0 D.length:=aG h0;have hs:=al5 Cc (k:=((D.getD 0 mG).aA.length:Int)) ⟨by omega,by omega⟩;rw[a4T]at hs;have h:iW (n+2) (.fn 78 [] []) [.fn f [] [.ptr 1 0 1],.own 0] [.list k ex 26 D,.aF [.int .u8 u]] (.agg [lI (fD D).s,lI (fD D).o,.own 0,.own 3,.fn f [] [.ptr 1 0 1]]) [.list k ex 26 D,.aF [.int .u8 u],.list true true 3 ([-1]:LI0),.list true true 3 (fD D).g]:=fK hO (first:=[]) (cap:=[]) (.o i0 (.o i0 (.o i0 (.fr [2] hs .er))));exact bZ.gs hX h [.gc [3]] rfl
theorem aqu{n f:Nat}{J:Jb}{d:Dg}{k ex k2 LJ:Bool}(h:iW n (.fn 80 [] []) [.agg (J.ps (.fn f [] []))] [] (dA.put d) []):iW n (.fn 80 [] []) [.agg [lI J.s,lI J.o,.own 0,.own 1,.fn f [] []]] [.list k ex 26 J.D,.list k2 LJ 3 J.g] (dA.put d) [.gone,.gone]:=by have h1:=bZ.frame hX (ks:=[]) (H':=[.gone,.gone]) (Hp:=[]) (Qo:=[]) (v':=dA.put d) (fv':=.fn 80 [] []) (xs':=[.agg (J.ps (.fn f [] []))]) h (by decide) rfl rfl rfl rfl rfl rfl rfl;exact bZ.fz hX (H:=[.list k ex 26 J.D,.list k2 LJ 3 J.g]) (cs:=[lI J.s,lI J.o,.own 0,.own 1]) (rest:=[.fn f [] []]) [0,1] h1 rfl (fun i hi=>by simpa[kG.ku,kG]using hi)
theorem aqv{n f:Nat}{u:Int}{J:Jb}{d:Dg}{k ex k2 LJ:Bool}(h:iW n (.fn 80 [] []) [.agg (J.ps (.fn f [] [.ptr 0 0 1]))] [.aF [.int .u8 u]] (dA.put d) [.aF [.int .u8 u]]):iW n (.fn 80 [] []) [.agg [lI J.s,lI J.o,.own 0,.own 2,.fn f [] [.ptr 1 0 1]]] [.list k ex 26 J.D,.aF [.int .u8 u],.list k2 LJ 3 J.g] (dA.put d) [.gone,.aF [.int .u8 u],.gone]:=by have h1:=bZ.frame hX (ks:=[1]) (H':=[.gone,.aF [.int .u8 u],.gone]) (Hp:=[.aF [.int .u8 u]]) (Qo:=[.aF [.int .u8 u]]) (v':=dA.put d) (fv':=.fn 80 [] []) (xs':=[.agg (J.ps (.fn f [] [.ptr 1 0 1]))]) h (by decide) rfl rfl rfl rfl rfl rfl rfl;exact bZ.fz hX (H:=[.list k ex 26 J.D,.aF [.int .u8 u],.list k2 LJ 3 J.g]) (cs:=[lI J.s,lI J.o,.own 0,.own 2]) (rest:=[.fn f [] [.ptr 1 0 1]]) [0,2] h1 rfl (fun i hi=>by simpa[kG.ku,kG]using hi)
open Go Tw Pv dB
structure DgG(d:Dg):Prop where
 t:Ce d
 n:d.au.length<=6000
 ord:iG d.aA.length d.aH=true
 rk:∀i,i<d.au.length->∀k,k<(fE d i).ay.length->d.aH.idxOf (fE d i).var+1<=Ey d.aH d.au ((fE d i).ay.getD k 0)
 two:∀i,i<d.au.length->2<=(fE d i).ay.length
 c:∀v∈d.aK,Gs v
 dd:DgD d
 l0:aZ d=0
theorem agk{d:Dg}(hp:sF d)(h:vN d=0):DgG d:=by
 have h0:aZ d=0∧ql d=true:=by
  unfold vN at h;split at h
  .rename_i c;rw[h]at c;cases c
  rename_i c;split at h
  .cases h
  rename_i c2;exact⟨by simpa using c,by simpa using c2⟩
 have ho:d.aH.length<=ah:=by have:=hp.o;unfold ah;omega
 have he:d.aK.length<=ah:=by have:=hp.e;omega
 obtain⟨t,n⟩:=jK ho he (by rw[h0.1];rfl);obtain⟨D,_⟩:=XZ.1 h0.2;have hf:aV d.aA d.aH=0∧lX d=true:=by
  have hl:=h0.1;unfold aZ at hl;split at hl
  .rename_i c;rw[hl]at c;cases c
  rename_i c;split at hl
  .cases hl
  split at hl
  .cases hl
  rename_i _ c2;exact⟨by simpa using c,by simpa using c2⟩
 obtain⟨bI,ord⟩:=iM.1 hf.1;refine⟨t,n,ord,Y6 h0.1,fun i hi=>?_,fun v hv=>?_,D,h0.1⟩
 .have:=D.flat i hi;rcases hk:(fE d i).ay with _|⟨a,_|⟨b,r⟩⟩
  .rw[hk]at this;simp at this
  .rw[hk]at this;simp at this
  simp
 refine⟨?_,hp.r.fault v hv⟩;have hl:=hf.2;unfold lX at hl;obtain⟨k,hk,e⟩:=ads hv;have hs:kU (bK (cLe d) d.aK.length)=true:=by revert hl;cases kU (bK (cLe d) d.aK.length)<;>simp
 have:=eG.1 hs k hk;unfold cLe at this;rw[a4p,a0n hk]at this;simpa[e]using this
theorem a0f{l:List Dg}(hp:∀d∈l,sF d)(h:bW l=0):∀d∈l,DgG d∧d.aA=(l.getD 0 mG).aA∧d.aH=(l.getD 0 mG).aH:=by
 intro d hd;unfold bW at h;split at h
 .rename_i c;split at h
  .cases h
  rename_i c2;simp only[agA,adI,a4I]at c2;have e:=c2 d hd;unfold Qd at e;split at e
  .rename_i e1;refine⟨agk (hp d hd) ?_,by simpa using e1,by simpa using e⟩;obtain⟨k,hk,e9⟩:=ads hd;have:=eG.1 c k hk;unfold cCk at this;rw[a4p,a0n hk,a6k,e9]at this;have h9:=hp d hd;rw[a7I h9.r h9.s (by have:=h9.o;unfold ah;omega) h9.e]at this;simpa using this
  cases e
 rename_i c;obtain⟨j,_,e,_,e2⟩:=UR (by simpa using c);rw[e2]at h;unfold cCk at e;have h':(yI (l.getD j mG)).2=0:=h;rw[h']at e;cases e
theorem adL{D:List Dg}(h3:D.length<=3)(h0:0<D.length)(h1:∀d∈D,DgG d∧d.aA=(D.getD 0 mG).aA∧d.aH=(D.getD 0 mG).aH):kQ (fD D):=by
 have Rf:D.getD 0 mG∈D:=gY h0;obtain⟨g0,_,_⟩:=h1 _ Rf;refine⟨h3,g0.t.bI,g0.ord,fun k hk=>?_,a7h,fun c hc hg=>?_⟩
 .obtain⟨g,e1,e2⟩:=h1 (lF D k) (gY hk);exact⟨g.t,g.n,e1,e2,g.rk,g.two⟩
 exfalso;revert hg;show ¬(0<=(List.replicate (D.getD 0 mG).aA.length (-1:Int)).getD c.toNat 0);have:=hc.1;have:=hc.2;rw[a4p,List.getElem?_replicate,a0u (show c.toNat<(D.getD 0 mG).aA.length by have:c<((D.getD 0 mG).aA.length:Int):=hc.2;omega)];decide
theorem BF{D:List Dg}(h3:D.length<=3)(h0:0<D.length)(hp:∀d∈D,sF d)(h:bW D=0):kQ (fD D):=adL h3 h0 (a0f hp h)
open Go Tw Pv dB
theorem Ql{J:Jb}(hJ:kQ J)(hc:∀k,k<J.D.length->∀v∈(lF J.D k).aK,Gs v){op:List V->V}(h:∀l:List V,l.length=J.D.length->(∀v∈l,Gs v)->Gs (op l)):xI J op:=fun t hd=>h _ (by simp[aW]) fun v hv=>by
 unfold aW at hv;obtain⟨k,hk,rfl⟩:=a1k.1 hv;have hk:=a4B.1 hk;have h3:(ji (t.get k)).toNat<(lF J.D k).aK.length:=by obtain⟨h1,h2⟩:=(JJ hJ hd hk).2;omega
 exact hc k hk _ (gY h3)
theorem Jb.inD{D:List Dg}(hp:∀d∈D,sF d)(h:bW D=0):∀k,k<D.length->∀v∈(lF D k).aK,Gs v:=fun k hk=>(a0f hp h _ (gY hk)).1.c
theorem JX{n f:Nat}(h2:2<=n)(hO:∀m,n-2<=m->Ok m rY){D:List Dg}(h0:0<D.length)(h6:(D.getD 0 mG).aA.length<=6){k ex:Bool}:iW n (.fn 78 [] []) [.fn f [] [],.own 0] [.list k ex 26 D] (.agg [lI (fD D).s,lI (fD D).o,.own 0,.own 1,.fn f [] []]) [.list k ex 26 D,.list true true 3 (fD D).g]:=by
 have h:=al6 (n:=n-2) (f:=f) (hO _ (by omega)) (hO _ (by omega)) h0 h6 (k:=k) (ex:=ex)
 rwa [show n-2+2=n by omega]at h
theorem agl{n f:Nat}(u:Int)(h2:2<=n)(hO:∀m,n-2<=m->Ok m rY){D:List Dg}(h0:0<D.length)(h6:(D.getD 0 mG).aA.length<=6){k ex:Bool}:iW n (.fn 78 [] []) [.fn f [] [.ptr 1 0 1],.own 0] [.list k ex 26 D,.aF [.int .u8 u]] (.agg [lI (fD D).s,lI (fD D).o,.own 0,.own 2,.fn f [] [.ptr 1 0 1]]) [.list k ex 26 D,.aF [.int .u8 u],.list true true 3 (fD D).g]:=by
 have h:=al7 (n:=n-2) (f:=f) u (hO _ (by omega)) (hO _ (by omega)) h0 h6 (k:=k) (ex:=ex)
 rwa [show n-2+2=n by omega]at h
theorem a8u{n f:Nat}{J:Jb}(hJ:kQ J){op:List V->V}(kY:xI J op)(h2:20<=n)(hO:∀m,n-20<=m->Ok m Iy)(hs:∀m,n-20<=m->∀l:List V,l.length=J.D.length->bZ X0 Qp (iC m) (.fn f [] []) [lV l] [] (.agg (op l).ps) []){k ex k2 LJ:Bool}:iW n (.fn 80 [] []) [.agg [lI J.s,lI J.o,.own 0,.own 1,.fn f [] []]] [.list k ex 26 J.D,.list k2 LJ 3 J.g] (dA.put (JL J op)) [.gone,.gone]:=by have h6:=(kQ.o2 hJ).2.1;have h7:=hJ.bI.len;have h:=ag6 (N:=n-20) hJ kY hs hO (m:=n-1) (by omega);rw[show n-1+1=n by omega]at h;exact aqu h
theorem al9{n f:Nat}(u:Int){J:Jb}(hJ:kQ J){op:List V->V}(kY:xI J op)(h2:20<=n)(hO:∀m,n-20<=m->Ok m Iy)(hs:∀m,n-20<=m->∀l:List V,l.length=J.D.length->bZ X0 Qp (iC m) (.fn f [] [.ptr 0 0 1]) [lV l] [.aF [.int .u8 u]] (.agg (op l).ps) [.aF [.int .u8 u]]){k ex k2 LJ:Bool}:iW n (.fn 80 [] []) [.agg [lI J.s,lI J.o,.own 0,.own 2,.fn f [] [.ptr 1 0 1]]] [.list k ex 26 J.D,.aF [.int .u8 u],.list k2 LJ 3 J.g] (dA.put (JL J op)) [.gone,.aF [.int .u8 u],.gone]:=by have h6:=(kQ.o2 hJ).2.1;have h7:=hJ.bI.len;have h:=ag7 (N:=n-20) u hJ kY hs hO (m:=n-1) (by omega);rw[show n-1+1=n by omega]at h;exact aqv h
abbrev JY(a b x:Int):Bool:=if decide (x>=a)=true then decide (x<=b)else false
theorem a0g{k:Nat}{x:Int}(h:(!(JY 0 (i64.wrap ((k:Int)-1)) x))=false)(hk:k<=ah):fF x k:=by
 rw[wrap_small (by unfold ah at hk;omega) (by unfold ah at hk;omega)]at h;unfold JY at h;by_cases h1:x>=0
 .simp[h1]at h;exact⟨h1,by omega⟩
 simp[h1]at h
theorem abg{z x:Int}(h:(!(JY 0 (i64.wrap (z-1)) x))=false)(h0:0<=z)(h1:z<=12):0<=x∧x<z:=by
 rw[wrap_small (by omega) (by omega)]at h;unfold JY at h;by_cases h1:x>=0
 .simp[h1]at h;exact⟨h1,by omega⟩
 simp[h1]at h
def ala(d:Dg)(c g:Int):Jb:=⟨d.aA,d.aH,[d],(fD [d]).g.set c.toNat g⟩
abbrev op0(l:List V):V:=l.getD 0 V0
theorem abh{d:Dg}(hp:sF d)(h:bW [d]=0){c g:Int}(hc:fF c d.aA.length)(hg:0<=g∧g<d.aA.getD c.toNat 0):kQ (ala d c g):=by
 have hJ:=BF (D:=[d]) (by simp) (by simp) (fun x hx=>by rw[a2D.1 hx];exact hp) h;refine⟨hJ.d3,hJ.bI,hJ.ord,fun k hk=>have h:=hJ.dg k hk;⟨h.t,h.n,h.s,h.o,h.rk,h.two⟩,?_,fun c2 KA h2=>?_⟩
 .show((fD [d]).g.set c.toNat g).length=_;rw[a4F];exact hJ.gl
 have hl:(fD [d]).g.length=d.aA.length:=hJ.gl;have a0:=hc.1;have a1:=hc.2;have b0:=KA.1;have b1:c2<(d.aA.length:Int):=KA.2
 change 0<=((fD [d]).g.set c.toNat g).getD c2.toNat 0 at h2
 show((fD [d]).g.set c.toNat g).getD c2.toNat 0<d.aA.getD c2.toNat 0;by_cases e:c.toNat=c2.toNat
 .rw[<-e,a4p,a1E (by omega)];exact hg.2
 rw[a4p,a1l e,<-a4p]at h2 ⊢;exact hJ.gv c2 KA h2
theorem alb{m:Nat}(hO:Ok m rY){l:List V}(h:0<l.length):bZ X0 Qp (iC m) (.fn 79 [] []) [lV l] [] (.agg (op0 l).ps) []:=pO.a3V hX (first:=[]) (cap:=[]) (hO 79 [lV l] (vA.put (op0 l)) [] [0<l.length] (by kernel_rfl) (fun p h9=>by rw[a2D.1 h9];exact h)) rfl rfl rfl rfl
def L8(p:Dg×Int×Int):Dg×Int:=if(bW [p.1] != 0)=true then(mG,bW [p.1])else if(!(JY 0 (i64.wrap ((p.1.aA.length:Int)-1)) p.2.1))=true then(mG,3)else if(!(JY 0 (i64.wrap (p.1.aA.getD p.2.1.toNat 0-1)) p.2.2))=true then(mG,3)else(JL (ala p.1 p.2.1 p.2.2) op0,0)
def alc:fB aC:=cu 20 (a3 dA iA iA) (dS (a2 dA iA)) L8 (fun p=>[sF p.1]) rY
theorem a4k:(1:Nat)<=ah:=by unfold ah;omega
theorem aqy:Gd alc:=Good.Xk 24 KZ Y8 fun n hn hO IV p hp=>by
 have h1:sF p.1:=hp _ iD;have h2:∀d∈[p.1],sF d:=fun x hx=>by rw[a2D.1 hx];exact h1
 have h3:0<[p.1].length∧[p.1].length<=ah:=⟨by simp,a4k⟩;obtain⟨d,c,g⟩:=p;show pO X0 Qp _ _ _ ((dS (a2 dA iA)).put (L8 (d,c,g))) _;unfold L8;have hJ:(bW [d] != 0)=false->kQ (fD [d]):=fun e1=>BF (D:=[d]) (by simp) (by simp) h2 (by simpa using e1);have hc:(bW [d] != 0)=false->(!(JY 0 (i64.wrap ((d.aA.length:Int)-1)) c))=false->fF c d.aA.length:=fun _ e2=>a0g e2 h1.s;have s1:=fun(e1:(bW [d] != 0)=false)=>JX (n:=n) (f:=79) (by omega) (fun m hm=>hO m (by omega)) (D:=[d]) (by simp) (hJ e1).bI.len (k:=true) (ex:=true);have s2:=fun(e1:(bW [d] != 0)=false) (e2:(!(JY 0 (i64.wrap ((d.aA.length:Int)-1)) c))=false) (e3:(!(JY 0 (i64.wrap (d.aA.getD c.toNat 0-1)) g))=false)=>
  have hz:=(hJ e1).bI.sz (d.aA.getD c.toNat 0) (bT (show c.toNat<d.aA.length by obtain⟨a,b⟩:=hc e1 e2;omega));have hR:=abh h1 (by simpa using e1) (hc e1 e2) (abg e3 (Int.le_trans (by decide) hz.1) hz.2)
  a8u (n:=n) (f:=79) hR (Ql hR (Jb.inD h2 (show bW [d]=0 by simpa using e1)) fun l hl hv=>hv _ (gY (by rw[hl];exact Nat.zero_lt_one))) (by omega) (fun m hm=>IV m (by omega)) (fun m hm l hl=>alb (hO m (by omega)) (by rw[hl];exact Nat.zero_lt_one)) (k:=true) (ex:=true) (k2:=true) (LJ:=true)
 have i2:=fun(e1:(bW [d] != 0)=false) (e2:(!(JY 0 (i64.wrap ((d.aA.length:Int)-1)) c))=false)=>show fF c (fD [d]).g.length by rw[(hJ e1).gl];exact hc e1 e2
 exact aO (hO n (by omega)) (.o h2 (.o h3 (.sh (fun _=>.rn (.cO [.agg [.nil .aP,.nil .aP,.nil .aP,.nil .aP,.int .i64 0],.int .i64 (bW [d])]) rfl) fun e1=>.sh (fun _=>.rn (.cO [.agg [.nil .aP,.nil .aP,.nil .aP,.nil .aP,.int .i64 0],.int .i64 3]) rfl) fun e2=>.o (hc e1 e2) (.sh (fun _=>.rn (.cO [.agg [.nil .aP,.nil .aP,.nil .aP,.nil .aP,.int .i64 0],.int .i64 3]) rfl) fun e3=>.fr [1] (s1 e1) (.o (i2 e1 e2) (.fr [1,2] (s2 e1 e2 e3) .rr))))))
open Go Tw Pv dB
def Fj(k:Int):Bool:=decide (7<=k∧k<=16)
def pU(k:Int)(a b:V):V×Int:=if Fj k=true then Ih k a b else(V0,2)
theorem bne{a b:Int}(h:a≠b):(a==b)=false:=by simpa using h
def a8v:fB aC:=ZN 101 (a1 uA) (fun _=>.nil .fn) (fun _=>[]) (fun p=>[Fj p=false]) alc
theorem agm:Gd a8v:=aqy.Xj 0 fun n _ hO p hp=>by
 have h:¬(7<=p∧p<=16):=by simpa[Fj]using hp _ iD
 exact BP hX (hO n (by omega)) (by kernel_rfl) (.b (bne (show p≠7 by omega)) (.b (bne (show p≠8 by omega)) (.b (bne (show p≠9 by omega)) (.b (bne (show p≠10 by omega)) (.b (bne (show p≠11 by omega)) (.b (bne (show p≠12 by omega)) (.b (bne (show p≠13 by omega)) (.b (bne (show p≠14 by omega)) .er))))))))
def Yn:fB aC:=cu 45 (a3 uA vA vA) (dS (a2 vA iA)) (fun p=>pU p.1 p.2.1 p.2.2) np a8v
theorem a2n:Gd Yn:=agm.deep 1 fun n hn hO p hp=>by
 obtain⟨k,a,b⟩:=p;cases h:Fj k
 .have h9:¬(7<=k∧k<=16):=by simpa[Fj]using h
  show pO X0 Qp _ _ _ ((dS (a2 vA iA)).put (pU k a b)) _;unfold pU;rw[h];exact aO (hO n (by omega)) (.b (bne (show k≠15 by omega)) (.b (bne (show k≠16 by omega)) (.o h (.b (rfl:true=true) .rr))))
 .show pO X0 Qp _ _ _ ((dS (a2 vA iA)).put (pU k a b)) _;unfold pU;rw[a0u h];exact hO (n+1) (by omega) 45 ((a3 uA vA vA).put (k,a,b)) ((dS (a2 vA iA)).put (Ih k a b)) [] [7<=k∧k<=16] (by kernel_rfl) (fun q hq=>by rw[a2D.1 hq];simpa[Fj]using h)
open Go Tw Pv dB
theorem yK{v:V}:Gs v↔l9 v:=by
 unfold Gs YC jq;constructor
 .rintro⟨h,h0⟩;split at h
  .rename_i e;split at h
   .rename_i e2;simp at e e2 h;exact⟨h0,by omega,fun _=>⟨e2,h⟩,fun hz=>absurd e hz⟩
   cases h
  split at h
  .rename_i e e2;simp at e e2 h;exact⟨h0,e2,fun hz=>absurd hz e,fun _=>h⟩
  cases h
 intro h;refine⟨?_,h.f0⟩;by_cases e:v.f=0
 .rw[a0u (by simpa using e),a0u (by simpa using(h.n e).1)];simpa using(h.n e).2
 rw[a0q (by simpa using e),a0u (by simpa using h.f1)];simpa using h.z e
theorem abj{k:Int}{a b:V}:(Ih k a b).1=gV k a b:=by
 unfold Ih gV
 repeat' split
 all_goals rfl
theorem abk{k:Int}(h:Fj k=true){a b:V}(ha:Gs a)(hb:Gs b):Gs (pU k a b).1∧(pU k a b).1=bH k a b:=by have:=afk (by simpa[Fj]using h) (yK.1 ha) (yK.1 hb);unfold pU;rw[a0u h,abj,this.1];exact⟨yK.2 this.2,rfl⟩
theorem abl{k:Int}{a b:V}(h:((pU k a b).2 != 0)=false):Fj k=true:=by
 unfold pU at h;cases e:Fj k
 .rw[e]at h;simp at h
 rfl
theorem abm:Gs lY:=⟨by decide,by decide⟩
theorem agn:Gs V0:=⟨by decide,by decide⟩
abbrev abn(u:Int)(l:List V):V:=(pU u (l.getD 0 V0) (l.getD 1 V0)).1
abbrev abo(l:List V):V:=(jM (l.getD 0 V0) (l.getD 1 V0) (l.getD 2 V0)).1
theorem ald{m:Nat}{u:Int}(h1:1<=m)(hO:Ok (m-1) Yn){l:List V}(h:l.length=2):bZ X0 Qp (iC m) (.fn 112 [] [.ptr 0 0 1]) [lV l] [.aF [.int .u8 u]] (.agg (abn u l).ps) [.aF [.int .u8 u]]:=by obtain⟨m,rfl⟩:∃k,m=k+1:=⟨m-1,by omega⟩;exact fK hO (first:=[]) (cap:=[.ptr 0 0 1]) (.o (aG (by omega:0<l.length)) (.o (aG (by omega:1<l.length)) .er))
theorem aqz{m:Nat}(h1:1<=m)(hO:Ok (m-1) Yn){l:List V}(h:l.length=3):bZ X0 Qp (iC m) (.fn 113 [] []) [lV l] [] (.agg (abo l).ps) []:=by obtain⟨m,rfl⟩:∃k,m=k+1:=⟨m-1,by omega⟩;exact fK hO (first:=[]) (cap:=[]) (.o (aG (by omega:0<l.length)) (.o (aG (by omega:1<l.length)) (.o (aG (by omega:2<l.length)) .er)))
theorem ale{m:Nat}(hO:Ok m Yn){l:List V}(h:l.length<=ah):bZ X0 Qp (iC m) (.fn 117 [] []) [lV l] [] (.agg (oz l).ps) []:=pO.a3V hX (first:=[]) (cap:=[]) (hO 117 [lV l] (vA.put (oz l)) [] [l.length<=ah] (by kernel_rfl) (fun p h9=>by rw[a2D.1 h9];exact h)) rfl rfl rfl rfl
theorem abp(l:List V):Gs (oz l):=by unfold oz;split;exact abm;exact agn
theorem a0h{a b c:V}(ha:Gs a)(hb:Gs b)(hc:Gs c):Gs (jM a b c).1:=by have:=a3A (yK.1 ha) (yK.1 hb) (yK.1 hc);rw[this.1];exact yK.2 this.2
def xJ(p:Int×Dg×Dg):Dg×Int:=if(bW [p.2.1,p.2.2] != 0)=true then(mG,bW [p.2.1,p.2.2])else if((pU p.1 lY lY).2 != 0)=true then(mG,(pU p.1 lY lY).2)else(JL (fD [p.2.1,p.2.2]) (abn p.1),0)
def Yo(p:Dg×Dg×Dg):Dg×Int:=if(bW [p.1,p.2.1,p.2.2] != 0)=true then(mG,bW [p.1,p.2.1,p.2.2])else(JL (fD [p.1,p.2.1,p.2.2]) abo,0)
def Ac(p:Dg):Dg×Int:=if(bW [p] != 0)=true then(mG,bW [p])else(JL (fD [p]) oz,0)
theorem abq{P:Dg->Prop}{a b:Dg}(ha:P a)(hb:P b):∀d∈[a,b],P d:=fun x hx=>by
 rcases a1F.1 hx with rfl|hx
 .exact ha
 .rw[a2D.1 hx];exact hb
theorem aqA{P:Dg->Prop}{a b c:Dg}(ha:P a)(hb:P b)(hc:P c):∀d∈[a,b,c],P d:=fun x hx=>by
 rcases a1F.1 hx with rfl|hx
 .exact ha
 .exact abq hb hc x hx
abbrev rnE(e:Int):PV aC:=.cO [.agg [.nil .aP,.nil .aP,.nil .aP,.nil .aP,.int .i64 0],.int .i64 e]
abbrev HcA(D:List Dg)(u:Int)(g:LI0):List (PB aC):=[.list true true 26 D,.cells [.int .u8 u],.list true true 3 g]
abbrev HcB(u:Int):List (PB aC):=[.gone,.cells [.int .u8 u],.gone]
theorem rE(e:Int):Fp (Γ:=X0.Γ) (Is (X:=X0) (P:=Qp) (dS (a2 dA iA)) (mG,e)) .n (.ret (some (rnE e))):=by have h:(dS (a2 dA iA)).get (rnE e)=some (mG,e):=rfl;exact Fp.rn (X:=X0) (P:=Qp) (rnE e) h
def alf:fB aC:=cu 62 (a3 uA dA dA) (dS (a2 dA iA)) xJ (fun p=>[sF p.2.1,sF p.2.2]) Yn
theorem abr:(2:Nat)<=ah:=by unfold ah;omega
theorem agp:(3:Nat)<=ah:=by unfold ah;omega
theorem aqC:Gd alf:=Good.a6V 24 a2n Y8 KZ a2n fun n hn hO IV hO3 hO4 p hp=>by obtain⟨u,d,e⟩:=p;have h1:∀x∈[d,e],sF x:=abq (hp _ iD) (hp _ xM);have h3:0<[d,e].length∧[d,e].length<=ah:=⟨by simp,abr⟩;have hJ:(bW [d,e] != 0)=false->kQ (fD [d,e]):=fun e1=>BF (D:=[d,e]) (by simp) (by simp) h1 (by simpa using e1);have s1:=fun(e1:(bW [d,e] != 0)=false)=>agl (n:=n) (f:=112) u (by omega) (fun m hm=>hO3 m (by omega)) (D:=[d,e]) (by simp) (hJ e1).bI.len (k:=true) (ex:=true);have s2:=fun(e1:(bW [d,e] != 0)=false) (e2:((pU u lY lY).2 != 0)=false)=>al9 (n:=n) (f:=112) u (hJ e1) (op:=abn u) (Ql (hJ e1) (Jb.inD h1 (show bW [d,e]=0 by simpa using e1)) fun l hl hv=>(abk (abl e2) (hv _ (gY (show 0<l.length by rw[hl];exact Nat.zero_lt_two))) (hv _ (gY (show 1<l.length by rw[hl];exact Nat.one_lt_two)))).1) (by omega) (fun m hm=>IV m (by omega)) (fun m hm l hl=>ald (by omega) (hO4 _ (by omega)) hl) (k:=true) (ex:=true) (k2:=true) (LJ:=true);show pO X0 Qp _ _ _ ((dS (a2 dA iA)).put (if(bW [d,e] != 0)=true then(mG,bW [d,e])else if((pU u lY lY).2 != 0)=true then(mG,(pU u lY lY).2)else(JL (fD [d,e]) (abn u),0))) _;exact aO (hO n (by omega)) (.o h1 (.o h3 (.sh (fun _=>rE _) fun e1=>.sh (fun _=>rE _) fun e2=>.QC (H2:=HcA [d,e] u (fD [d,e]).g) [2,0] [1] (s1 e1) (.QC (H2:=HcB u) [2,0,3] [1] (s2 e1 e2) .rr))))
def alh:fB aC:=cu 63 (a3 dA dA dA) (dS (a2 dA iA)) Yo (fun p=>[sF p.1,sF p.2.1,sF p.2.2]) alf
theorem aqD:Gd alh:=Good.a6V 24 aqC Y8 KZ a2n fun n hn hO IV hO3 hO4 p hp=>by obtain⟨a,b,c⟩:=p;have h1:∀x∈[a,b,c],sF x:=aqA (hp _ iD) (hp _ xM) (hp _ hh2);have h3:0<[a,b,c].length∧[a,b,c].length<=ah:=⟨by simp,agp⟩;have hJ:(bW [a,b,c] != 0)=false->kQ (fD [a,b,c]):=fun e1=>BF (D:=[a,b,c]) (by simp) (by simp) h1 (by simpa using e1);have s1:=fun(e1:(bW [a,b,c] != 0)=false)=>JX (n:=n) (f:=113) (by omega) (fun m hm=>hO3 m (by omega)) (D:=[a,b,c]) (by simp) (hJ e1).bI.len (k:=true) (ex:=true);have s2:=fun(e1:(bW [a,b,c] != 0)=false)=>a8u (n:=n) (f:=113) (hJ e1) (op:=abo) (Ql (hJ e1) (Jb.inD h1 (show bW [a,b,c]=0 by simpa using e1)) fun l hl hv=>a0h (hv _ (gY (show 0<l.length by rw[hl];exact Nat.succ_pos 2))) (hv _ (gY (show 1<l.length by rw[hl];exact Nat.succ_lt_succ (Nat.succ_pos 1)))) (hv _ (gY (show 2<l.length by rw[hl];exact Nat.lt_succ_self 2)))) (by omega) (fun m hm=>IV m (by omega)) (fun m hm l hl=>aqz (by omega) (hO4 _ (by omega)) hl) (k:=true) (ex:=true) (k2:=true) (LJ:=true);show pO X0 Qp _ _ _ ((dS (a2 dA iA)).put (if(bW [a,b,c] != 0)=true then(mG,bW [a,b,c])else(JL (fD [a,b,c]) abo,0))) _;exact aO (hO n (by omega)) (.o h1 (.o h3 (.sh (fun _=>rE _) fun e1=>.fr [1] (s1 e1) (.fr [1,2] (s2 e1) .rr))))
def ali:fB aC:=cu 67 (a1 dA) (dS (a2 dA iA)) Ac (fun p=>[sF p]) alh
theorem aqE:Gd ali:=Good.a6V 24 aqD Y8 KZ a2n fun n hn hO IV hO3 hO4 d hp=>by
 have h1:∀x∈[d],sF x:=fun x hx=>by rw[a2D.1 hx];exact hp _ iD
 have h3:0<[d].length∧[d].length<=ah:=⟨by simp,a4k⟩;have hJ:(bW [d] != 0)=false->kQ (fD [d]):=fun e1=>BF (D:=[d]) (by simp) (by simp) h1 (by simpa using e1);have s1:=fun(e1:(bW [d] != 0)=false)=>JX (n:=n) (f:=117) (by omega) (fun m hm=>hO3 m (by omega)) (D:=[d]) (by simp) (hJ e1).bI.len (k:=true) (ex:=true);have s2:=fun(e1:(bW [d] != 0)=false)=>a8u (n:=n) (f:=117) (hJ e1) (op:=oz) (fun t hd=>abp _) (by omega) (fun m hm=>IV m (by omega)) (fun m hm l hl=>ale (hO4 m (by omega)) (by rw[hl];exact a4k)) (k:=true) (ex:=true) (k2:=true) (LJ:=true);show pO X0 Qp _ _ _ ((dS (a2 dA iA)).put (if(bW [d] != 0)=true then(mG,bW [d])else(JL (fD [d]) oz,0))) _;exact aO (hO n (by omega)) (.o h1 (.o h3 (.sh (fun _=>rE _) fun e1=>.fr [1] (s1 e1) (.fr [1,2] (s2 e1) .rr))))
open Go Tw Pv dB
def kL(v:V):Int:=if(!(xu v))=true then 2 else 0
def adM:fB aC:=cu 106 (a1 vA) iA (fun p=>kL p) np ali
theorem alj:Gd adM:=aqE.add fun n hO p hp=>aO hO (.ss .rr .rr)
abbrev cDg(s o:LI0)(v:V):Dg:=⟨s,o,[v],[],-1⟩
def adN:fB aC:=cu 107 (a3 oh oh vA) dA (fun p=>cDg p.1 p.2.1 p.2.2) (fun p=>[p.1.length<=ah,p.2.1.length<=ah]) adM
theorem alk:Gd adN:=alj.add fun n hO p hp=>aO hO (.o (hp _ iD) (.o (hp _ xM) (.rn (.agg [lI p.1,lI p.2.1,lV [p.2.2],.nil .aP,.int .i64 (-1)]) rfl)))
def vP(s o:LI0)(v:V):Dg×Int:=if(aV s o != 0)=true then(mG,aV s o)else if(kL v != 0)=true then(mG,4)else(cDg s o v,0)
def a8x:fB aC:=cu 55 (a3 oh oh vA) (dS (a2 dA iA)) (fun p=>vP p.1 p.2.1 p.2.2) (fun p=>[p.1.length<=ah,p.2.1.length<=2^20]) adN
theorem alm:Gd a8x:=alk.add fun n hO p hp=>aO hO (.o (hp _ iD) (.o (hp _ xM) (.ss (.rn (.cO [.agg [.nil .aP,.nil .aP,.nil .aP,.nil .aP,.int .i64 0],.int .i64 (aV p.1 p.2.1)]) rfl) (.ss (.rn (.cO [.agg [.nil .aP,.nil .aP,.nil .aP,.nil .aP,.int .i64 0],.int .i64 4]) rfl) (.o (hp _ iD) (.o (show p.2.1.length<=ah from by have:p.2.1.length<=2^20:=hp _ xM;unfold ah;omega) .rr))))))
theorem a8y{n f:Nat}{J:Jb}{k ex k2 LJ:Bool}(h:iW n (.fn 87 [] []) [.agg (J.ps (.fn f [] []))] [] (.map 0) [.map (kV.im (fA J))]):iW n (.fn 87 [] []) [.agg [lI J.s,lI J.o,.own 0,.own 1,.fn f [] []]] [.list k ex 26 J.D,.list k2 LJ 3 J.g] (.map 2) [.gone,.gone,.map (kV.im (fA J))]:=by have h1:=bZ.frame hX (ks:=[]) (H':=[.gone,.gone]) (Hp:=[]) (Qo:=[.map (kV.im (fA J))]) (v':=.map 2) (fv':=.fn 87 [] []) (xs':=[.agg (J.ps (.fn f [] []))]) h (by decide) rfl rfl rfl rfl rfl rfl rfl;exact bZ.fz hX (H:=[.list k ex 26 J.D,.list k2 LJ 3 J.g]) (cs:=[lI J.s,lI J.o,.own 0,.own 1]) (rest:=[.fn f [] []]) [0,1] h1 rfl (fun i hi=>by simpa[kG.ku,kG]using hi)
open Go Tw Pv dB
def look(t:List (V×Int))(v:V):Int:=((t.find? fun e=>decide (e.1=v)).map (·.2)).getD 0
theorem IG{t:List (V×Int)}(hn:(t.map (·.1)).Nodup)(v:V):(qB X0 Qp 39 (kV.im t) (kV.tv v) (.int .i64 (look t v)))∨(look t v=0∧nV X0 Qp 39 (kV.im t) (kV.tv v)):=by
 by_cases h:v∈t.map (·.1)
 .obtain⟨e,he,hv⟩:=a1k.1 h;obtain⟨e2,h2⟩:=a5h.1 (List.find?_isSome (p:=fun e:V×Int=>decide (e.1=v)) |>.2 ⟨e,he,show decide (e.1=v)=true by simpa using hv⟩);have h3:e2.1=v:=by simpa using List.find?_some h2
  refine .inl (kV.found (by rw[Aa];exact hn) (a1k.2 ⟨e2,List.mem_of_find?_eq_some h2,?_⟩));unfold look;rw[h2,h3];rfl
 refine .inr ⟨?_,kV.fresh (by rw[Aa];exact h)⟩;unfold look;rw[aez.2 fun e he=>by simp only[a1n];intro hv;exact h (a1k.2 ⟨e,he,hv⟩)]
 rfl
abbrev aln:PV aC:=.agg [.nil .aP,.nil .aP,.nil .aP,.nil .aP,.nil .fn]
abbrev a8z(J:Jb)(f:Nat)(a b:Nat):PV aC:=.agg [lI J.s,lI J.o,.own a,.own b,.fn f [] []]
abbrev HO(D:List Dg)(g:LI0):List (PB aC):=[.list true true 26 D,.list true true 3 g]
theorem a8A{P:Dg->Prop}{d:Dg}(h:P d):∀x∈[d],P x:=fun x hx=>by rw[a2D.1 hx];exact h
theorem alo{n:Nat}(hO:Ok n a8x){d:Dg}{v:V}(hp:sF d)(e1:(bW [d] != 0)=true):iW (n+1) (.fn 86 [] []) [.agg d.ps,.agg v.ps] [] (.cO [aln,.int .i64 (bW [d])]) []:=by have h1:∀x∈[d],sF x:=a8A hp;have h3:0<[d].length∧[d].length<=ah:=⟨by simp,a4k⟩;exact bZ.drop hX (jV hX hO (first:=[]) (cap:=[]) (H1:=[.list true true 26 [d]]) (by kernel_rfl) (.o h1 (.o h3 (.b e1 .er)))) rfl rfl
theorem alp{n:Nat}(hO:Ok n a8x){d:Dg}{v:V}(hp:sF d)(e1:(bW [d] != 0)=false)(e2:(kL v != 0)=true):iW (n+1) (.fn 86 [] []) [.agg d.ps,.agg v.ps] [] (.cO [aln,.int .i64 4]) []:=by have h1:∀x∈[d],sF x:=a8A hp;have h3:0<[d].length∧[d].length<=ah:=⟨by simp,a4k⟩;exact bZ.drop hX (jV hX hO (first:=[]) (cap:=[]) (H1:=[.list true true 26 [d]]) (by kernel_rfl) (.o h1 (.o h3 (.b e1 (.b e2 .er))))) rfl rfl
theorem alq{n:Nat}(h2:2<=n)(Cc:Ok n a8x)(hO:∀m,n-2<=m->Ok m rY){d:Dg}{v:V}(hp:sF d)(e1:(bW [d] != 0)=false)(e2:(kL v != 0)=false):iW (n+1) (.fn 86 [] []) [.agg d.ps,.agg v.ps] [] (.cO [a8z (fD [d]) 79 0 1,.int .i64 0]) (HO [d] (fD [d]).g):=by have h1:∀x∈[d],sF x:=a8A hp;have h3:0<[d].length∧[d].length<=ah:=⟨by simp,a4k⟩;have hJ:kQ (fD [d]):=BF (D:=[d]) (by simp) (by simp) h1 (by simpa using e1);have s1:=JX (n:=n) (f:=79) h2 hO (D:=[d]) (by simp) hJ.bI.len (k:=true) (ex:=true);have h:iW (n+1) (.fn 86 [] []) [.agg d.ps,.agg v.ps] [] (.cO [a8z (fD [d]) 79 1 2,.int .i64 0]) [.list true true 26 [d],.list true true 26 [d],.list true true 3 (fD [d]).g]:=fK Cc (first:=[]) (cap:=[]) (.o h1 (.o h3 (.b e1 (.b e2 (.fr [1] s1 .er)))));exact bZ.gs hX h [.gc [1,2]] rfl
theorem BG(J:Jb):((fA J).map (·.1)).Nodup:=(((qA Yj (AZ (vg J))).map (·.1)).nodup_iff).2 (G9 (vg J)).1
theorem Yp(φ:V->Int)(J:Jb):dI φ (fA J)=eu φ (vg J):=by unfold fA;rw[a3r φ (qA Yj (AZ (vg J))),SQ]
theorem Yq{α:Type}:∀l:List α,eu (fun _=>1) l=(l.length:Int)
 | []=>rfl
 |a::l=>by have:=Yq l;simp only[eu,a4q];omega
theorem TM{J:Jb}(hJ:kQ J):JV (fA J):=by
 refine⟨fun e he=>(G9 (vg J)).2 e ((qA Yj (AZ (vg J))).mem_iff.1 he),?_⟩;rw[Yp,Yq];have h1:(vg J).length<=(Yb J).length:=by unfold vg a0c;rw[a4A];exact a4Z (a9z _ _) (by rw[a4A];exact a0E _)
 have h2:(Yb J).length<=uM J.s:=a4Z (a9z _ _) (by rw[a4A,a98];exact a0E _);have h3:=hJ.bI.a6F;have h4:=hJ.bI.many;omega
def VD(p:Dg×V):Int×Int:=if(bW [p.1] != 0)=true then(0,bW [p.1])else if(kL p.2 != 0)=true then(0,4)else(look (fA (fD [p.1])) p.2,0)
def agq:fB aC:=cu 27 (a2 dA vA) (dS (a2 iA iA)) VD (fun p=>[sF p.1]) a8x
theorem aqF:Gd agq:=Good.Xk 24 alm KZ fun n hn hO IV p hp=>by
 obtain⟨d,v⟩:=p;have h1:sF d:=hp _ iD;obtain⟨n,rfl⟩:∃k,n=k+1:=⟨n-1,by omega⟩;have Cc:=hO (n+1) (by omega);cases e1:(bW [d] != 0)
 .cases e2:(kL v != 0)
  .have s1:=alq (n:=n) (by omega) (hO n (by omega)) (fun m hm=>IV m (by omega)) h1 e1 e2;have hJ:kQ (fD [d]):=BF (D:=[d]) (by simp) (by simp) (a8A h1) (by simpa using e1);have s2:=a8y (k:=true) (ex:=true) (k2:=true) (LJ:=true) (Qh hJ (n:=n-1) (f:=79) (IV _ (by omega)) (show 0<[d].length by simp));rw[show n-1+2=n+1 by omega]at s2;show pO X0 Qp _ _ _ ((dS (a2 iA iA)).put (if(bW [d] != 0)=true then(0,bW [d])else if(kL v != 0)=true then(0,4)else(look (fA (fD [d])) v,0))) _;rw[e1,e2];rcases IG (BG (fD [d])) v with hf|⟨hz,hf⟩
   .exact aO Cc (.fr [] s1 (.b (rfl:((0:Int) != 0)=false) (.fr [0,1] s2 (.c (.int .i64 (look (fA (fD [d])) v)) [] hf .rr))))
   .rw[hz];exact aO Cc (.fr [] s1 (.b (rfl:((0:Int) != 0)=false) (.fr [0,1] s2 (.a .calm (.o hf .rr)))))
  .have s1:=alp (n:=n) (hO n (by omega)) h1 e1 e2;show pO X0 Qp _ _ _ ((dS (a2 iA iA)).put (if(bW [d] != 0)=true then(0,bW [d])else if(kL v != 0)=true then(0,4)else(look (fA (fD [d])) v,0))) _;rw[e1,e2];exact aO Cc (.fr [] s1 (.b (rfl:((4:Int) != 0)=true) .rr))
 .have s1:=alo (n:=n) (v:=v) (hO n (by omega)) h1 e1;show pO X0 Qp _ _ _ ((dS (a2 iA iA)).put (if(bW [d] != 0)=true then(0,bW [d])else if(kL v != 0)=true then(0,4)else(look (fA (fD [d])) v,0))) _;rw[a0u e1];exact aO Cc (.fr [] s1 (.b e1 .rr))
open Go Tw Pv dB
structure An where
 q:Int
 none:Bool
 yes:Bool
 n:Int
 lo:Int
 hi:Int
 fault:Bool
 set:LI0
deriving DecidableEq
abbrev VN:An:=⟨0,false,false,0,0,0,false,[]⟩
def alr:Ar X0 Qp Unit where
 put _:=.nil .aP
 get v:=match v with
  |.nil .aP=>some ()
  |_=>none
 ok:=by
  intro v a hg A m h x hv;split at hg
  .exact hv
  .cases hg
def YF:Arg An:=aeY (a3k (Ls uA (Ls tA (Ls tA (Ls iA (Ls iA (a4 iA tA oh alr)))))))
 (fun p=>⟨p.1,p.2.1,p.2.2.1,p.2.2.2.1,p.2.2.2.2.1,p.2.2.2.2.2.1,p.2.2.2.2.2.2.1,p.2.2.2.2.2.2.2.1⟩) (fun a=>(a.q,a.none,a.yes,a.n,a.lo,a.hi,a.fault,a.set,())) fun _=>rfl
abbrev anW(a:An)(s:PV aC):PV aC:=.agg [.int .u8 a.q,.bool a.none,.bool a.yes,.int .i64 a.n,.int .i64 a.lo,.int .i64 a.hi,.bool a.fault,s,.nil .aP]
theorem rA(a:An)(h:a.set=[])(e:Int):Fp (Γ:=X0.Γ) (Is (X:=X0) (P:=Qp) (dS (a2 YF iA)) (a,e)) .n (.ret (some (.cO [anW a (.nil .aP),.int .i64 e]))):=by obtain⟨q,no,y,n,l,hi,f,s⟩:=a;cases h;have h:(dS (a2 YF iA)).get (.cO [anW ⟨q,no,y,n,l,hi,f,[]⟩ (.nil .aP),.int .i64 e])=some (⟨q,no,y,n,l,hi,f,[]⟩,e):=rfl;exact Fp.rn (X:=X0) (P:=Qp) _ h
def a8C(q:Int)(t:List (V×Int)):An×Int:=
 if(q==1)=true then(⟨q,false,look t lY==dI (fun _=>1) t,0,0,0,false,[]⟩,0)
 else if(q==2)=true then(⟨q,false,decide (look t lY>0),0,0,0,false,[]⟩,0)
 else if(q==3)=true then(⟨q,false,false,look t lY,0,0,false,[]⟩,0)
 else if(q==4)=true then(if mD t=[]then(⟨q,true,false,0,0,0,uP t,[]⟩,0)else(⟨q,((mD t).length:Int)==0,false,0,(mD t).getD 0 0,(mD t).getD (i64.wrap ((mD t).length-1)).toNat 0,uP t,[]⟩,0))
 else(⟨q,false,false,0,0,0,uP t,mD t⟩,0)
def Gn(q:Int)(t:List (V×Int)):An×Int:=if t=[]then(⟨q,true,false,0,0,0,false,[]⟩,0)else a8C q t
def a2o(p:Int×Dg×Dg):An×Int:=if(bW [p.2.1,p.2.2] != 0)=true then(VN,bW [p.2.1,p.2.2])else if decide (p.1<1)=true then(VN,2)else if decide (p.1>5)=true then(VN,2)else Gn p.1 (fA (fD [p.2.1,p.2.2]))
def abt:fB aC:=cu 33 (a3 uA dA dA) (dS (a2 YF iA)) a2o (fun p=>[sF p.2.1,sF p.2.2]) agq
theorem agr{t:List (V×Int)}(h:JV t):(mD t).length<=2000:=by unfold mD;rw[show ∀l:LI0,(gX l).length=l.length from fun l=>(ae5 l _).length_eq,a4A];exact a4Z (a9z _ _) h.len
abbrev HMt(t:List (V×Int)):List (PB aC):=[.map (kV.im t)]
abbrev HMn(t:List (V×Int)):List (PB aC):=[.map (kV.im t),.list false false 3 (mD t)]
section
variable {n:Nat} {q:Int} {d e:Dg} (hO:Ok n agq) (h1:∀ x∈[d,e],sF x) (e1:(bW [d,e] != 0)=false) (e2:decide (q<1)=false) (e3:decide (q>5)=false) {t:List (V×Int)} (ht:JV t)
 (s1:bZ X0 Tryz.prog (iC n) (.fn 78 [] []) [.fn 79 [] [],.own 0] [.list true true 26 [d,e]] (a8z (fD [d,e]) 79 0 1) (HO [d,e] (fD [d,e]).g))
 (s2:bZ X0 Tryz.prog (iC n) (.fn 87 [] []) [a8z (fD [d,e]) 79 0 1] (HO [d,e] (fD [d,e]).g) (.map 2) [.gone,.gone,.map (kV.im t)])
 (s3:bZ X0 Tryz.prog (iC n) (.fn 90 [] []) [.map 0] [.iI (kV.im t)] (.int .i64 (dI (fun _=>1) t)) [.iI (kV.im t)])
 (s4:mD t=[]->bZ X0 Tryz.prog (iC n) (.fn 88 [] []) [.map 0] [.iI (kV.im t)] (.cO [.nil .aP,.bool (uP t)]) [.iI (kV.im t)])
 (s5:mD t≠[]->bZ X0 Tryz.prog (iC n) (.fn 88 [] []) [.map 0] [.iI (kV.im t)] (.cO [.own 1,.bool (uP t)]) [.iI (kV.im t),.list false false 3 (mD t)])
include hO h1 e1 e2 e3 s1 s2
theorem abu(h:t=[]):pO X0 Qp (iC (n+1)) 33 ((a3 uA dA dA).put (q,d,e)) ((dS (a2 YF iA)).put (⟨q,true,false,0,0,0,false,[]⟩,0)) []:=by subst h;have h3:0<[d,e].length∧[d,e].length<=ah:=⟨by simp,abr⟩;exact aO hO (.o h1 (.o h3 (.b e1 (.b e2 (.b e3 (.fr [1] s1 (.fr [1,2] s2 (.b (show(((kV.im ([]:List (V×Int))).length:Int)==0)=true from rfl) (rA _ rfl _)))))))))
variable (hd:(t.map (·.1)).Nodup)
include ht s3 s4 s5 hd
theorem a8D(h:t≠[]):pO X0 Qp (iC (n+1)) 33 ((a3 uA dA dA).put (q,d,e)) ((dS (a2 YF iA)).put (a8C q t)) []:=by
 have h3:0<[d,e].length∧[d,e].length<=ah:=⟨by simp,abr⟩;have hl:(((kV.im t).length:Int)==0)=false:=by
  rw[kV.pR];cases t with
  |nil=>exact absurd rfl h
  |cons a r=>exact bne (by simp only[a4q];omega)
 have QZ:=agr ht;have s0:iW n (.fn 89 [] []) [] [] (.agg lY.ps) []:=pO.a3V hX (first:=[]) (cap:=[]) (hO 89 [] (vA.put lY) [] [] (by kernel_rfl) (fun p h=>by cases h)) rfl rfl rfl rfl;unfold a8C;by_cases hn:mD t=[]
 .rw[a0u hn];rcases IG hd lY with hf|⟨hz,hf⟩
  .exact aO hO (.o h1 (.o h3 (.b e1 (.b e2 (.b e3 (.fr [1] s1 (.fr [1,2] s2 (.b hl (.QC (H2:=HMt t) [3] [0] (s4 hn) (.ss (.fr [] s0 (.c (.int .i64 (look t lY)) [] hf (.QC (H2:=HMt t) [3] [0] s3 (rA _ rfl _)))) (.ss (.fr [] s0 (.c (.int .i64 (look t lY)) [] hf (rA _ rfl _))) (.ss (.fr [] s0 (.c (.int .i64 (look t lY)) [] hf (rA _ rfl _))) (.ss (.b (c:=!((0:Int)==0)) (t:=false) rfl (rA _ rfl _)) (rA ⟨q,false,false,0,0,0,uP t,mD t⟩ hn _))))))))))))))
  rw[hz];exact aO hO (.o h1 (.o h3 (.b e1 (.b e2 (.b e3 (.fr [1] s1 (.fr [1,2] s2 (.b hl (.QC (H2:=HMt t) [3] [0] (s4 hn) (.ss (.a .calm (.o hf (.QC (H2:=HMt t) [3] [0] s3 (rA _ rfl _)))) (.ss (.a .calm (.o hf (rA _ rfl _))) (.ss (.a .calm (.o hf (rA _ rfl _))) (.ss (.b (c:=!((0:Int)==0)) (t:=false) rfl (rA _ rfl _)) (rA ⟨q,false,false,0,0,0,uP t,mD t⟩ hn _))))))))))))))
 rw[a0q hn];have hp:0<(mD t).length:=abL.2 hn;have hb:(!(((mD t).length:Int)==0))=true:=by rw[bne (by omega)];rfl
 have i0:fF 0 (mD t).length:=aG hp;have i1:fF (i64.wrap ((mD t).length-1)) (mD t).length:=by rw[wrap_small (by omega) (by omega)];exact⟨by omega,by omega⟩
 rcases IG hd lY with hf|⟨hz,hf⟩
 .exact aO hO (.o h1 (.o h3 (.b e1 (.b e2 (.b e3 (.fr [1] s1 (.fr [1,2] s2 (.b hl (.QC (H2:=HMn t) [3] [0] (s5 hn) (.ss (.fr [] s0 (.c (.int .i64 (look t lY)) [] hf (.QC (H2:=HMt t) [3] [0] s3 (rA _ rfl _)))) (.ss (.fr [] s0 (.c (.int .i64 (look t lY)) [] hf (rA _ rfl _))) (.ss (.fr [] s0 (.c (.int .i64 (look t lY)) [] hf (rA _ rfl _))) (.ss (.b hb (.o i0 (.o i1 (rA _ rfl _)))) .rr)))))))))))))
 rw[hz];exact aO hO (.o h1 (.o h3 (.b e1 (.b e2 (.b e3 (.fr [1] s1 (.fr [1,2] s2 (.b hl (.QC (H2:=HMn t) [3] [0] (s5 hn) (.ss (.a .calm (.o hf (.QC (H2:=HMt t) [3] [0] s3 (rA _ rfl _)))) (.ss (.a .calm (.o hf (rA _ rfl _))) (.ss (.a .calm (.o hf (rA _ rfl _))) (.ss (.b hb (.o i0 (.o i1 (rA _ rfl _)))) .rr)))))))))))))
end
theorem als:Gd abt:=Good.Xk 24 aqF KZ fun n hn hO IV p hp=>by
 obtain⟨q,d,e⟩:=p;have h1:∀x∈[d,e],sF x:=abq (hp _ iD) (hp _ xM);have h3:0<[d,e].length∧[d,e].length<=ah:=⟨by simp,abr⟩;have Cc:=hO n (by omega);show pO X0 Qp _ _ _ ((dS (a2 YF iA)).put (if(bW [d,e] != 0)=true then(VN,bW [d,e])else if decide (q<1)=true then(VN,2)else if decide (q>5)=true then(VN,2)else Gn q (fA (fD [d,e])))) _;cases e1:(bW [d,e] != 0)
 .cases e2:decide (q<1)
  .cases e3:decide (q>5)
   .have hJ:=BF (D:=[d,e]) (by simp) (by simp) h1 (by simpa using e1);have ht:=TM hJ;have s1:=JX (n:=n) (f:=79) (by omega) (fun m hm=>IV m (by omega)) (D:=[d,e]) (by simp) hJ.bI.len (k:=true) (ex:=true);have s2:=a8y (k:=true) (ex:=true) (k2:=true) (LJ:=true) (Qh hJ (n:=n-2) (f:=79) (IV _ (by omega)) (show 0<[d,e].length by simp));have s3:=aqm (n:=n-1) ht;have s4:=(adK (n:=n-2) ht).1;have s5:=(adK (n:=n-2) ht).2;rw[show n-2+2=n by omega]at s2 s4 s5;rw[show n-1+1=n by omega]at s3;show pO X0 Qp _ _ _ ((dS (a2 YF iA)).put (Gn q (fA (fD [d,e])))) _;unfold Gn;by_cases h:fA (fD [d,e])=[]
    .rw[a0u h];exact abu Cc h1 e1 e2 e3 s1 s2 h
    .rw[a0q h];exact a8D Cc h1 e1 e2 e3 ht s1 s2 s3 s4 s5 (BG _) h
   .exact aO Cc (.o h1 (.o h3 (.b e1 (.b e2 (.b e3 (rA _ rfl _))))))
  .exact aO Cc (.o h1 (.o h3 (.b e1 (.b e2 (rA _ rfl _)))))
 .exact aO Cc (.o h1 (.o h3 (.b e1 (rA _ rfl _))))
open Go Tw Pv dB
section
variable {n:Nat} {t:List (V×Int)} (h:JV t) (ht:t≠[])
theorem alu{k:Bool}:iW (n+1) (.fn 96 [] []) [.map 0] [.map (kV.im t)] vF [.map (kV.im t),.cells [.map 0]]:=
 fK gK (first:=[]) (cap:=[]) .er
include h ht
theorem alv:iW (n+3) (.fn 95 [] []) [vF] [.iI (kV.im t),.aF [.map 0]] (.aP 2 0 t.length t.length 1 false) [.iI (kV.im t),.aF [.map 0],.nH ((rZ t).map LH)]:=by have h1:=abe (n:=n) h ht;exact fK gK (first:=[]) (cap:=[]) (.k h1 .er)
omit ht in
theorem a8E:(rZ t).length=t.length:=by unfold rZ;rw[(qA _ _).length_eq,a4A]
theorem alx:iW (n+1) (.fn 94 [] []) [.aP 0 0 t.length t.length 1 false] [.nH ((rZ t).map LH)] (.int .i64 (Qk (rZ t))) [.nH ((rZ t).map LH)]:=by
 have hl:=a8E h;have h0:rZ t≠[]:=fun e=>ht (a6i.1 (by rw[<-hl,e];rfl));have:=al3 (n:=n) h0 (by rw[hl];exact h.len)
 rwa [hl]at this
end
open Go Tw Pv dB
abbrev lkC(no:Bool)(n:Int)(s:PV aC):List (PV aC):=[.int .u8 8,.bool no,.bool false,.int .i64 n,.int .i64 0,.int .i64 0,.bool false,s,.nil .aP]
abbrev wLk(f:Bool×Bool)(l:List Dg)(d:Dg)(n:Int)(s:PV aC)(H:List (PB aC))(i:Int)(x:List (Nat×PE aC)):aT aC:=⟨[(3,.loc 0 0),(4,.loc 1 0),(31,.val (.own 0)),(32,xi l.length),(33,xi i)]++x,[d.ps,lkC false n s],.list f.1 f.2 26 l::H⟩
abbrev hLk(b:Int):List (PB aC):=[.list true true 3 ([b]:LI0)]
def aly(f:Bool×Bool)(l:List Dg)(d:Dg)(i:Int)(x:List (Nat×PE aC)):Option (Int×Int)->aT aC
 |none=>wLk f l d 0 (.nil .aP) [] i x
 |some (b,z)=>wLk f l d z (.own 1) (hLk b) i x
def tLk(l:List Dg)(d:Dg)(k:Nat):List (V×Int):=fA (fD [l.getD k mG,d])
def mLk(l:List Dg)(d:Dg)(k:Nat):Int:=Qk (rZ (tLk l d k))
def gLk(l:List Dg)(d:Dg)(k:Nat)(s:Option (Int×Int)):Option (Int×Int)⊕(Option (Int×Int)×Nat):=
 if tLk l d k=[]then .inr (s,k)else match s with
  |none=>.inl (some ((k:Int),mLk l d k))
  |some (b,z)=>if decide (mLk l d k<z)=true then .inl (some ((k:Int),mLk l d k))else .inl (some (b,z))
def zLk(f:Bool×Bool)(l:List Dg)(d:Dg):Option (Int×Int)⊕(Option (Int×Int)×Nat)->Ex×aT aC
 |.inl s=>(.exit 1,aly f l d l.length [(34,xl false)] s)
 |.inr (none,k)=>(.ret,⟨[(4,.loc 1 0),(5,xi 0)],[d.ps,lkC true 0 (.nil .aP),(l.getD k mG).ps],[.list f.1 f.2 26 l]⟩)
 |.inr (some (b,z),k)=>(.ret,⟨[(4,.loc 1 0),(5,xi 0)],[d.ps,lkC true z (.own 1),(l.getD k mG).ps],.list f.1 f.2 26 l::hLk b⟩)
structure LkP(l:List Dg)(d:Dg):Prop where
 p:∀x∈l++[d],sF x
 g:∀x∈l++[d],DgG x∧x.aA=((l++[d]).getD 0 mG).aA∧x.aH=((l++[d]).getD 0 mG).aH
theorem LkP.j{l:List Dg}{d:Dg}(h:LkP l d){k:Nat}(hk:k<l.length):kQ (fD [l.getD k mG,d]):=by have h1:=h.g (l.getD k mG) (a5j _ (gY hk));have h2:=h.g d (abW _ (a2D.2 rfl));exact adL (D:=[l.getD k mG,d]) (by simp) (by simp) (abq (P:=fun x=>DgG x∧x.aA=(l.getD k mG).aA∧x.aH=(l.getD k mG).aH) ⟨h1.1,rfl,rfl⟩ ⟨h2.1,h2.2.1.trans h1.2.1.symm,h2.2.2.trans h1.2.2.symm⟩)
theorem lLk{n:Nat}(hn:24<=n)(hO:∀m,n-24<=m->Ok m rY)(f:Bool×Bool){l:List Dg}{d:Dg}(h:LkP l d)(hl:l.length<=ah):Ii n 39 0 1 (wLk f l d 0 (.nil .aP) [] 0 []) (zLk f l d (nJ (gLk l d) l.length 0 none)).1 (zLk f l d (nJ (gLk l d) l.length 0 none)).2:=by
 refine jh (st:=fun i s=>aly f l d i [] s) (g:=gLk l d) (out:=zLk f l d) (s0:=none) (fun k s=>k=0↔s=none) (by kernel_rfl) hl (by simp) (fun k s m hk hi ih=>?_) (fun s _=>?_)
 .have hJ:=h.j hk;have ht:JV (tLk l d k):=TM hJ;have s1:=JX (n:=n) (f:=79) (by omega) (fun m hm=>hO m (by omega)) (D:=[l.getD k mG,d]) (by simp) hJ.bI.len (k:=true) (ex:=true);have s2:=a8y (k:=true) (ex:=true) (k2:=true) (LJ:=true) (Qh hJ (n:=n-2) (f:=79) (hO _ (by omega)) (show 0<[l.getD k mG,d].length by simp));rw[show n-2+2=n by omega]at s2
  change bZ _ _ _ _ _ _ _ [.gone,.gone,.map (kV.im (tLk l d k))]at s2
  unfold gLk;by_cases h0:tLk l d k=[]
  .rw[a0u h0];rw[h0]at s2;have hz:(((kV.im ([]:List (V×Int))).length:Int)==0)=true:=rfl;rcases s with _|⟨b,z⟩
   .exact aN gK (.b (bF hk) (.o (aG hk) (.fr [1] s1 (.fr [1,2] s2 (.b hz (.ouG [.gc []] nofun))))))
   exact aN gK (.b (bF hk) (.o (aG hk) (.fr [2] s1 (.fr [2,3] s2 (.b hz (.ouG [.gc [1]] nofun))))))
  rw[a0q h0];have hz:(((kV.im (tLk l d k)).length:Int)==0)=false:=by rw[kV.pR];exact bne (by have:=abL.2 h0;omega)
  have s3:=alu (n:=n-1) (t:=tLk l d k) (k:=true);have s4:=alv (n:=n-3) ht h0;have s5:=alx (n:=n-1) ht h0;rw[show n-1+1=n by omega]at s3 s5;rw[show n-3+3=n by omega]at s4;rcases s with _|⟨b,z⟩
  .have hk0:k=0:=hi.2 rfl;have hb:((k:Int)==0)=true:=by rw[hk0];rfl
   exact aN gK (.b (bF hk) (.o (aG hk) (.fr [1] s1 (.fr [1,2] s2 (.b hz (.fr [3] s3 (.QC (H2:=[.map (kV.im (tLk l d k)),.cells [.map 0],.nH ((rZ (tLk l d k)).map LH)]) [3,4] [0,1] s4 (.fr [5] s5 (.b hb (.nxG [.gc [6]] (ih _ (by simp))))))))))))
  have hk0:k≠0:=fun e=>by cases hi.1 e
  have hb:((k:Int)==0)=false:=bne (by omega);exact aN gK (.b (bF hk) (.o (aG hk) (.fr [2] s1 (.fr [2,3] s2 (.b hz (.fr [4] s3 (.QC (H2:=[.map (kV.im (tLk l d k)),.cells [.map 0],.nH ((rZ (tLk l d k)).map LH)]) [4,5] [0,1] s4 (.fr [6] s5 (.b hb (.ls (.nxG [.gc [7]] (ih _ (by simp))) (.nxG [.gc [1]] (ih _ (by simp)))))))))))))
 rcases s with _|⟨b,z⟩
 .exact aN gK (.b (fH l.length) (.ou nofun))
 exact aN gK (.b (fH l.length) (.ou nofun))
theorem agt{n:Nat}{k ex:Bool}{l:List Dg}:iW (n+1) (.fn 93 [] []) [.own 0] [.list k ex 26 l] (.Gq 0) [.list k ex 26 l]:=fK gK (first:=[]) (cap:=[]) (.o (rfl:((0:Nat):Int)=0) (.o (rfl:(l.length:Int)=(l.length:Int)) (.o (rfl:(l.length:Int)=(l.length:Int)) .er)))
def alz:Option (Int×Int)⊕(Option (Int×Int)×Nat)->An
 |.inl none=>⟨8,false,false,0,0,0,false,[]⟩
 |.inl (some (b,z))=>⟨8,false,false,z,0,0,false,[b]⟩
 |.inr (none,_)=>⟨8,true,false,0,0,0,false,[]⟩
 |.inr (some (b,z),_)=>⟨8,true,false,z,0,0,false,[b]⟩
def a2p(p:List Dg×Dg):An×Int:=if decide ((p.1.length:Int)>4)=true then(VN,5)else if(bW (p.1++[p.2]) != 0)=true then(VN,bW (p.1++[p.2]))else if((p.1.length:Int)==0)=true then(VN,7)else(alz (nJ (gLk p.1 p.2) p.1.length 0 none),0)
theorem bZ.got{call:aY}{fv v:PV aC}{xs:List (PV aC)}{H H1:List (PB aC)}{β:Type}{r:Ar X0 Qp β}{s:β}(hs:bZ X0 Qp call fv xs H v H1)(hg:r.get v=some s):bZ X0 Qp call fv xs H (r.put s) H1:=by intro A m h tf qN hr hf hx;obtain⟨w,h',ws,m1,c1,c2,c3,c4⟩:=hs A m h tf qN hr hf hx;exact⟨w,h',ws,m1,c1,c2,r.ok hg c3,c4⟩
theorem alA{n:Nat}(hn:24<=n)(Cc:Ok n abt)(IV:∀m,n-24<=m->Ok m rY){k ex:Bool}{l:List Dg}{d:Dg}(h1:∀x∈l++[d],sF x)(h2:l.length<=1000):iW (n+1) (.fn 39 [] []) [.own 0,.agg d.ps] [.list k ex 26 l] ((dS (a2 YF iA)).put (a2p (l,d))) [.list k ex 26 l]:=by
 have hl:l.length<=ah:=by unfold ah;omega
 have h3:0<(l++[d]).length∧(l++[d]).length<=ah:=by rw[a1o,a3j];unfold ah;omega
 have h4:l.length+[d].length<=ah:=by rw[a3j];unfold ah;omega
 have h5:[d]≠[]:=by simp
 have s0:=agt (n:=n-1) (k:=k) (ex:=ex) (l:=l);rw[show n-1+1=n by omega]at s0;show bZ X0 Qp _ _ _ _ ((dS (a2 YF iA)).put (if decide ((l.length:Int)>4)=true then(VN,5)else if(bW (l++[d]) != 0)=true then(VN,bW (l++[d]))else if((l.length:Int)==0)=true then(VN,7)else(alz (nJ (gLk l d) l.length 0 none),0))) _;cases e1:decide ((l.length:Int)>4)
 .cases e2:(bW (l++[d]) != 0)
  .cases e3:((l.length:Int)==0)
   .have hk:LkP l d:=⟨h1,a0f h1 (by simpa using e2)⟩;have lp:=lLk (n:=n) hn IV (k,ex) hk hl;revert lp;rcases nJ (gLk l d) l.length 0 none with(_|⟨b,z⟩)|⟨_|⟨b,z⟩,j⟩
    .intro lp;exact bZ.got (v:=.cO [anW ⟨8,false,false,0,0,0,false,[]⟩ (.nil .aP),.int .i64 0]) (fK Cc (first:=[]) (cap:=[]) (.b e1 (.fr [0] s0 (.o h4 (.o h5 (.o h1 (.o h3 (.b e2 (.b e3 (.wG [.gc []] lp .er)))))))))) rfl
    .intro lp;exact bZ.gs hX (jV hX Cc (first:=[]) (cap:=[]) (v:=.cO [anW ⟨8,false,false,z,0,0,false,[]⟩ (.own 1),.int .i64 0]) (H1:=.list k ex 26 l::hLk b) (by kernel_rfl) (.b e1 (.fr [0] s0 (.o h4 (.o h5 (.o h1 (.o h3 (.b e2 (.b e3 (.wG [.gc []] lp .er)))))))))) [.fz 1,.gc []] rfl
    .intro lp;exact bZ.got (v:=.cO [anW ⟨8,true,false,0,0,0,false,[]⟩ (.nil .aP),.int .i64 0]) (fK Cc (first:=[]) (cap:=[]) (.b e1 (.fr [0] s0 (.o h4 (.o h5 (.o h1 (.o h3 (.b e2 (.b e3 (.wG [.gc []] lp .er)))))))))) rfl
    intro lp;exact bZ.gs hX (jV hX Cc (first:=[]) (cap:=[]) (v:=.cO [anW ⟨8,true,false,z,0,0,false,[]⟩ (.own 1),.int .i64 0]) (H1:=.list k ex 26 l::hLk b) (by kernel_rfl) (.b e1 (.fr [0] s0 (.o h4 (.o h5 (.o h1 (.o h3 (.b e2 (.b e3 (.wG [.gc []] lp .er)))))))))) [.fz 1,.gc []] rfl
   exact bZ.got (v:=.cO [anW VN (.nil .aP),.int .i64 7]) (bZ.gs hX (jV hX Cc (first:=[]) (cap:=[]) (v:=.cO [anW VN (.nil .aP),.int .i64 7]) (H1:=[.list k ex 26 l,.list true true 26 [d],.list true false 26 (l++[d])]) (by kernel_rfl) (.b e1 (.fr [0] s0 (.o h4 (.o h5 (.o h1 (.o h3 (.b e2 (.b e3 .er))))))))) [.gc []] rfl) rfl
  exact bZ.got (v:=.cO [anW VN (.nil .aP),.int .i64 (bW (l++[d]))]) (bZ.gs hX (jV hX Cc (first:=[]) (cap:=[]) (v:=.cO [anW VN (.nil .aP),.int .i64 (bW (l++[d]))]) (H1:=[.list k ex 26 l,.list true true 26 [d],.list true false 26 (l++[d])]) (by kernel_rfl) (.b e1 (.fr [0] s0 (.o h4 (.o h5 (.o h1 (.o h3 (.b e2 .er)))))))) [.gc []] rfl) rfl
 exact bZ.got (v:=.cO [anW VN (.nil .aP),.int .i64 5]) (fK Cc (first:=[]) (cap:=[]) (.b e1 .er)) rfl
open Go Tw Pv dB
def jg(d:Dg)(g:LI0):Jb:=⟨d.aA,d.aH,[d],g⟩
structure GOk(d:Dg)(g:LI0):Prop where
 len:g.length=d.aA.length
 v:∀c,fF c d.aA.length->0<=g.getD c.toNat 0->g.getD c.toNat 0<d.aA.getD c.toNat 0
theorem alB{d:Dg}(hJ:kQ (fD [d])){g:LI0}(h:GOk d g):kQ (jg d g):=⟨hJ.d3,hJ.bI,hJ.ord,fun k hk=>have h:=hJ.dg k hk;⟨h.t,h.n,h.s,h.o,h.rk,h.two⟩,h.len,h.v⟩
theorem GOk.set{d:Dg}{g:LI0}(h:GOk d g){c k:Nat}(hk:(k:Int)<d.aA.getD (c:Int).toNat 0):GOk d (g.set (c:Int).toNat (k:Int)):=by
 refine⟨by rw[a4F];exact h.len,fun c2 KA h2=>?_⟩;by_cases e:(c:Int).toNat=c2.toNat
 .obtain⟨q0,q1⟩:=KA;rw[<-e,a4p,a1E (by rw[h.len];omega)];exact hk
 rw[a4p,a1l e,<-a4p]at h2 ⊢;exact h.v c2 KA h2
theorem aqK{d:Dg}(hJ:kQ (fD [d])):GOk d (fD [d]).g:=⟨hJ.gl,hJ.gv⟩
abbrev jcF(d:Dg):List (PV aC):=[lI d.aA,lI d.aH,.own 0,.own 1,.fn 79 [] []]
abbrev hF(d:Dg)(g:LI0):List (PB aC):=[.list true true 26 [d],.list true true 3 g]
abbrev wFo(d:Dg)(v:V)(g:LI0)(c:Int)(x:List (Nat×PE aC)):aT aC:=⟨[(3,.loc 1 0),(6,.loc 2 0),(29,xL 3 d.aA),(30,xi d.aA.length),(31,xi c)]++x,[d.ps,v.ps,jcF d],hF d g⟩
abbrev wFi(d:Dg)(v:V)(g:LI0)(c:Int)(i:Int)(x:List (Nat×PE aC)):aT aC:=⟨[(3,.loc 1 0),(6,.loc 2 0),(8,xi c),(29,xL 3 d.aA),(30,xi d.aA.length),(31,xi c),(36,xi (d.aA.getD c.toNat 0)),(37,xi i)]++x,[d.ps,v.ps,jcF d],hF d g⟩
theorem adO{n f:Nat}{J:Jb}{k ex k2 LJ:Bool}(h:iW n (.fn 87 [] []) [.agg (J.ps (.fn f [] []))] [] (.map 0) [.map (kV.im (fA J))]):iW n (.fn 87 [] []) [a8z J f 0 1] [.list k ex 26 J.D,.list k2 LJ 3 J.g] (.map 2) [.list k ex 26 J.D,.list k2 LJ 3 J.g,.map (kV.im (fA J))]:=by have h1:=bZ.frame hX (ks:=[]) (H':=[.gone,.gone]) (Hp:=[]) (Qo:=[.map (kV.im (fA J))]) (v':=.map 2) (fv':=.fn 87 [] []) (xs':=[.agg (J.ps (.fn f [] []))]) h (by decide) rfl rfl rfl rfl rfl rfl rfl;exact bZ.lend hX (H:=[.list k ex 26 J.D,.list k2 LJ 3 J.g]) (cs:=[lI J.s,lI J.o,.own 0,.own 1]) (rest:=[.fn f [] []]) [0,1] h1 rfl (fun i hi=>by simpa[kG.ku,kG]using hi) rfl
def lkF(d:Dg)(v:V)(g:LI0):Int:=look (fA (jg d g)) v
def gIn(d:Dg)(v:V)(c:Nat)(k:Nat)(g:LI0):LI0⊕(LI0×Nat):=if decide (lkF d v (g.set (c:Int).toNat (k:Int))>0)=true then .inr (g.set (c:Int).toNat (k:Int),k)else .inl (g.set (c:Int).toNat (k:Int))
def oIn:LI0⊕(LI0×Nat)->LI0
 |.inl g=>g
 |.inr r=>r.1
def nIn(d:Dg)(c:Nat):Nat:=(d.aA.getD (c:Int).toNat 0).toNat
def a4l(d:Dg)(v:V)(c:Nat)(g:LI0):LI0:=oIn (nJ (gIn d v c) (nIn d c) 0 g)
def zFi(d:Dg)(v:V)(c:Nat):LI0⊕(LI0×Nat)->Ex×aT aC
 |.inl g=>(.exit 3,wFi d v g (c:Int) (nIn d c) [(38,xl false)])
 |.inr (g,k)=>(.exit 2,wFi d v g (c:Int) k [(49,xl true)])
theorem a8H{d:Dg}{v:V}{c:Nat}:∀(m k:Nat) (g:LI0),k+m<=nIn d c->GOk d g->GOk d (oIn (nJ (gIn d v c) m k g))
 | 0,_,g,_,h=>h
 |m+1,k,g,hk,h=>by
  have h1:GOk d (g.set (c:Int).toNat (k:Int)):=h.set (by unfold nIn at hk;omega);simp only[nJ,gIn];by_cases e:decide (lkF d v (g.set (c:Int).toNat (k:Int))>0)=true
  .rw[a0u e];exact h1
  rw[a0q e];exact a8H m (k+1) _ (by omega) h1
section
variable {n:Nat} (hn:24<=n) (hO:∀ m,n-24<=m->Ok m rY) {d:Dg} (hJ:kQ (fD [d])) {v:V}
include hn hO hJ
theorem lFi{c:Nat}(hc:c<d.aA.length){g:LI0}(hg:GOk d g):Lp n 28 1 (wFi d v g (c:Int) 0 []) (zFi d v c (nJ (gIn d v c) (nIn d c) 0 g)).1 (zFi d v c (nJ (gIn d v c) (nIn d c) 0 g)).2:=by
 have hz:=hJ.bI.sz (d.aA.getD (c:Int).toNat 0) (bT (show(c:Int).toNat<d.aA.length by simpa using hc));have hN:((nIn d c:Nat):Int)=d.aA.getD (c:Int).toNat 0:=by unfold nIn;omega
 refine jh (st:=fun i g=>wFi d v g (c:Int) i []) (g:=gIn d v c) (out:=zFi d v c) (s0:=g) (fun k g=>GOk d g) (by kernel_rfl) (by unfold ah;omega) hg (fun k g m hk hi ih=>?_) (fun g _=>?_)
 .have t1:decide ((k:Int)<d.aA.getD (c:Int).toNat 0)=true:=by rw[<-hN,a1n];omega
  have hg2:GOk d (g.set (c:Int).toNat (k:Int)):=hi.set (by rw[<-hN];omega);have i1:fF (c:Int) g.length:=by rw[hi.len];exact aG hc
  have s2:=adO (k:=true) (ex:=true) (k2:=true) (LJ:=true) (Qh (alB hJ hg2) (n:=n-2) (f:=79) (hO _ (by omega)) (show 0<[d].length by simp));rw[show n-2+2=n by omega]at s2;unfold gIn lkF;rcases IG (BG (jg d (g.set (c:Int).toNat (k:Int)))) v with hf|⟨hz2,hf⟩
  .exact aN gK (.b t1 (.o i1 (.fr [0,1] s2 (.c (.int .i64 (look (fA (jg d (g.set (c:Int).toNat (k:Int)))) v)) [] hf (.ls (.ouG [.gc [0,1]] nofun) (.nxG [.gc [0,1]] (ih _ hg2)))))))
  rw[hz2];exact aN gK (.b t1 (.o i1 (.fr [0,1] s2 (.a .calm (.o hf (.ls (.ouG [.gc [0,1]] nofun) (.nxG [.gc [0,1]] (ih _ hg2))))))))
 have t1:decide (((nIn d c:Nat):Int)<d.aA.getD (c:Int).toNat 0)=false:=by rw[<-hN];exact fH _
 exact aN gK (.b t1 (.ou nofun))
set_option maxRecDepth 20000 in
theorem lFo:Lp n 28 0 (wFo d v (fD [d]).g 0 []) (.exit 1) (wFo d v (aU (a4l d v) d.aA.length 0 (fD [d]).g) d.aA.length [(32,xl false)]):=by
 have hl:d.aA.length<=ah:=by have:d.aA.length<=6:=hJ.bI.len;unfold ah;omega
 refine KO (X:=X0) (N:=d.aA.length) (g:=a4l d v) (s0:=(fD [d]).g) (st:=fun c g=>wFo d v g c []) (fin:=fun g=>wFo d v g d.aA.length [(32,xl false)]) (fun _ g=>GOk d g) (by kernel_rfl) hl QH (aqK hJ) (fun c g hc hg=>a8H (nIn d c) 0 g (by omega) hg) (fun c g hc hg m e p g9=>?_) (fun g _=>?_)
 .have lp:=lFi hn hO hJ (v:=v) hc hg;unfold a4l at g9;revert lp g9;rcases nJ (gIn d v c) (nIn d c) 0 g with g1|⟨g1,k⟩
  .intro g9 lp;exact aN gK (.b (bF hc) (.o (aG hc) (.w lp (.go g9))))
  intro g9 lp;exact aN gK (.b (bF hc) (.o (aG hc) (.w lp (.go g9))))
 exact aN gK (.b (fH d.aA.length) .ex)
end
open Go Tw Pv dB
def II(p:Dg×V):LI0×Int:=if(bW [p.1] != 0)=true then([],bW [p.1])else if(kL p.2 != 0)=true then([],4)else if(look (fA (fD [p.1])) p.2==0)=true then([],7)else(aU (a4l p.1 p.2) p.1.aA.length 0 (fD [p.1]).g,0)
def alC:fB aC:=cu 28 (a2 dA vA) (dS (a2 oh iA)) II (fun p=>[sF p.1]) abt
theorem rF(e:Int):Fp (Γ:=X0.Γ) (Is (X:=X0) (P:=Qp) (dS (a2 oh iA)) (([]:LI0),e)) .n (.ret (some (.cO [.nil .aP,.int .i64 e]))):=by have h:(dS (a2 oh iA)).get (.cO [.nil .aP,.int .i64 e])=some (([]:LI0),e):=rfl;exact Fp.rn (X:=X0) (P:=Qp) _ h
theorem aqN:Gd alC:=Good.aci 30 als KZ alm fun n hn hO IV hO3 p hp=>by
 obtain⟨d,v⟩:=p;have h1:sF d:=hp _ iD;obtain⟨n,rfl⟩:∃k,n=k+1:=⟨n-1,by omega⟩;have Cc:=hO (n+1) (by omega);show pO X0 Qp _ _ _ ((dS (a2 oh iA)).put (if(bW [d] != 0)=true then([],bW [d])else if(kL v != 0)=true then([],4)else if(look (fA (fD [d])) v==0)=true then([],7)else(aU (a4l d v) d.aA.length 0 (fD [d]).g,0))) _;cases e1:(bW [d] != 0)
 .cases e2:(kL v != 0)
  .have s1:=alq (n:=n) (by omega) (hO3 n (by omega)) (fun m hm=>IV m (by omega)) h1 e1 e2;have hJ:kQ (fD [d]):=BF (D:=[d]) (by simp) (by simp) (a8A h1) (by simpa using e1);have s2:=adO (k:=true) (ex:=true) (k2:=true) (LJ:=true) (Qh hJ (n:=n-1) (f:=79) (IV _ (by omega)) (show 0<[d].length by simp));rw[show n-1+2=n+1 by omega]at s2;have lp:=lFo (n:=n+1) (by omega) (fun m hm=>IV m (by omega)) hJ (v:=v);show pO X0 Qp _ _ _ ((dS (a2 oh iA)).put (if(look (fA (fD [d])) v==0)=true then([],7)else(aU (a4l d v) d.aA.length 0 (fD [d]).g,0))) _;rcases IG (BG (fD [d])) v with hf|⟨hz,hf⟩
   .exact aO Cc (.fr [] s1 (.b (rfl:((0:Int) != 0)=false) (.fr [0,1] s2 (.c (.int .i64 (look (fA (fD [d])) v)) [] hf (.ss (rF _) (.wG [.gc [0,1]] lp .rr))))))
   .rw[hz];exact aO Cc (.fr [] s1 (.b (rfl:((0:Int) != 0)=false) (.fr [0,1] s2 (.a .calm (.o hf (.ss (rF _) (.wG [.gc [0,1]] lp .rr)))))))
  .have s1:=alp (n:=n) (v:=v) (hO3 n (by omega)) h1 e1 e2;exact aO Cc (.fr [] s1 (.b (rfl:((4:Int) != 0)=true) (rF _)))
 .have s1:=alo (n:=n) (v:=v) (hO3 n (by omega)) h1 e1;exact aO Cc (.fr [] s1 (.b e1 (rF _)))
open Go Tw Pv dB
abbrev dz:List (PV aC):=[.nil .aP,.nil .aP,.nil .aP,.nil .aP,.int .i64 0]
abbrev cCh(s o:LI0):List (PV aC):=[lI s,lI o,.own 1,.aP 0 0 1 1 2 true,.int .i64 0]
abbrev hCh(c:Int)(x:List V×LI0):List (PB aC):=[.cells [.int .i64 c,.own 2],.list false false 39 x.1,.list false false 3 x.2]
abbrev wCh(s o:LI0)(c w n:Int)(y:List V×LI0)(i:Int)(x:List (Nat×PE aC)):aT aC:=⟨[(3,xi w),(8,.loc 0 0),(11,.loc 1 0),(47,xi n),(48,xi i)]++x,[dz,cCh s o],hCh c y⟩
def gCh(w:Int)(i:Nat)(y:List V×LI0):List V×LI0:=(y.1++[⟨0,i64.wrap (w+(i:Int))⟩],y.2++[i64.wrap (-1-(i:Int))])
def Yr(w:Int)(n:Nat):List V:=(List.range n).map fun(i:Nat)=>(⟨0,i64.wrap (w+(i:Int))⟩:V)
def chK(n:Nat):LI0:=(List.range n).map fun(i:Nat)=>i64.wrap (-1-(i:Int))
theorem Yt(w:Int):∀n,aU (gCh w) n 0 ([],[])=(Yr w n,chK n)
 | 0=>rfl
 |n+1=>by rw[qE,Yt w n,a3I];unfold gCh Yr chK;rw[abX,a4s,a4s];rfl
theorem lCh{n:Nat}{s o:LI0}{c w:Int}{z:Nat}(hz:z<=12)(h0:s.getD c.toNat 0=(z:Int)):Lp n 57 0 (wCh s o c w (s.getD c.toNat 0) ([],[]) 0 []) (.exit 0) (wCh s o c w (s.getD c.toNat 0) (Yr w z,chK z) z [(49,xl false)]):=by
 rw[<-Yt w z,h0];refine KO (X:=X0) (N:=z) (g:=gCh w) (s0:=([],[])) (st:=fun i y=>wCh s o c w (z:Int) y i []) (fin:=fun y=>wCh s o c w (z:Int) y z [(49,xl false)]) (fun k y=>y.1.length=k∧y.2.length=k) (by kernel_rfl) (by unfold ah;omega) QH ⟨rfl,rfl⟩ (fun k y hk hi=>?_) (fun k y hk hi m e p g9=>?_) (fun y _=>?_)
 .unfold gCh;simp[hi.1,hi.2]
 .obtain⟨E,K⟩:=y;have a1:E.length+[(⟨0,i64.wrap (w+(k:Int))⟩:V)].length<=ah:=by rw[a3j];have:E.length=k:=hi.1;unfold ah;omega
  have a2:K.length+[i64.wrap (-1-(k:Int))].length<=ah:=by rw[a3j];have:K.length=k:=hi.2;unfold ah;omega
  exact aN gK (.b (bF hk) (.o a1 (.o a2 (.goG [.gc [0,4,6]] g9))))
 exact aN gK (.b (fH z) .ex)
def JZ(s o:LI0)(c w:Int)(z:Nat):Dg:=⟨s,o,Yr w z,[⟨c,chK z⟩],0⟩
theorem abv{n:Nat}(hO:Ok n a7S){s o:LI0}{c:Int}{y:List V×LI0}(hd:let d:Dg:=⟨s,o,y.1,[⟨c,y.2⟩],0⟩;Na d∧d.aA.length<=ah∧d.aH.length<=2^20∧d.aK.length<=ah∧(((bG d).2 != 0)=false->ClP (bG d).1)) :
  iW n (.fn 108 [] []) [.agg (cCh s o)] (hCh c y) ((dS (a2 dA iA)).put (vO ⟨s,o,y.1,[⟨c,y.2⟩],0⟩)) [.gone,.gone,.gone]:=by
 obtain⟨h1,h2,h3,h4,h5⟩:=hd;have k0:iW n (.fn 108 [] []) [.agg (⟨s,o,y.1,[⟨c,y.2⟩],0⟩:Dg).ps] [] ((dS (a2 dA iA)).put (vO ⟨s,o,y.1,[⟨c,y.2⟩],0⟩)) []:=pO.a3V hX (first:=[]) (cap:=[]) (hO 108 [.agg (⟨s,o,y.1,[⟨c,y.2⟩],0⟩:Dg).ps] ((dS (a2 dA iA)).put (vO ⟨s,o,y.1,[⟨c,y.2⟩],0⟩)) [] _ (by kernel_rfl) (fun p h=>by
  rcases a1F.1 h with rfl|h
  .exact h1
  rcases a1F.1 h with rfl|h
  .exact h2
  rcases a1F.1 h with rfl|h
  .exact h3
  rcases a1F.1 h with rfl|h
  .exact h4
  rw[a2D.1 h];exact h5)) rfl rfl rfl rfl
 have k1:=bZ.frame hX (ks:=[]) (H':=[.gone,.gone,.gone]) (Hp:=[]) (Qo:=[]) (v':=(dS (a2 dA iA)).put (vO ⟨s,o,y.1,[⟨c,y.2⟩],0⟩)) (fv':=.fn 108 [] []) (xs':=[.agg (⟨s,o,y.1,[⟨c,y.2⟩],0⟩:Dg).ps]) k0 (by decide) rfl rfl rfl rfl rfl rfl rfl;exact bZ.cell1 hX (H:=hCh c y) (MP:=[lI s,lI o,.own 1]) (ws1:=[lI s,lI o,lV y.1]) (cs:=[.int .i64 c,.own 2]) (X3:=[.int .i64 0]) (ws2:=[.int .i64 0]) (i:=0) (e:=105) (sz:=2) (row:=(⟨c,y.2⟩:Br)) [1,2] rfl (by kernel_rfl) (by decide) rfl rfl k1 rfl rfl rfl (fun j hj=>by simp[kG.ku,kG]at hj ⊢;omega) (fun j hj=>by simp[kG.ku,kG]at hj ⊢;omega) (fun j hj=>by simp[kG.ku,kG]at hj)
open Go Tw Pv dB
theorem VE(w:Int)(z:Nat):(Yr w z).length=z:=by simp[Yr]
theorem a2r(z:Nat):(chK z).length=z:=by simp[chK]
structure ChP(s o:LI0)(c w:Int)(z:Nat):Prop where
 f:aV s o=0
 ic:fF c s.length
 ez:s.getD c.toNat 0=(z:Int)
 z12:z<=12
 w0:-9999<=w
 w1:w+z<=10000
section
variable {s o:LI0} {c w:Int} {z:Nat} (h:ChP s o c w z)
include h
theorem abw{v:V}(hv:v∈Yr w z):∃j,j<z∧v=⟨0,w+(j:Int)⟩:=by unfold Yr at hv;obtain⟨j,hj,rfl⟩:=a1k.1 hv;have:=a4B.1 hj;have:=h.w0;have:=h.w1;have:=h.z12;exact⟨j,by omega,by rw[wrap_small (by omega) (by omega)]⟩
theorem VF{k:Nat}(hk:k<z):(chK z).getD k 0=-1-(k:Int):=by have:=h.z12;unfold chK;rw[a4p,a4y,ae2 hk];show i64.wrap (-1-(k:Int))=_;rw[wrap_small (by omega) (by omega)]
theorem a0j:∀v∈Yr w z,Gs v:=fun v hv=>by obtain⟨j,hj,rfl⟩:=abw h hv;have:=h.w0;have:=h.w1;exact yK.2 ⟨by show(0:Int)<=0;omega,by show(0:Int)<=4;omega,fun _=>⟨by show -9999<=w+(j:Int);omega,by show w+(j:Int)<=9999;omega⟩,fun hz=>absurd rfl hz⟩
theorem a4m:aZ (JZ s o c w z)=0:=by
 obtain⟨bI,ord⟩:=iM.1 h.f;have hz:=h.z12;have hl:=VE w z;have hk:=a2r z;refine Ez (by show(Yr w z).length<=ah;rw[hl];unfold ah;omega) (by show(aV s o != 0)=false;rw[h.f];rfl) (fun v hv=>(a0j h v hv).1) (by show 1<=6000;omega) ⟨fun i hi=>?_,fun i hi=>?_,fun i hi k kN=>?_⟩ ⟨fun h0=>absurd h0 (by show ¬((0:Int)<0);omega),by show(0:Int)<((1:Nat):Int);omega,a4G _⟩
 .have:i=0:=by have:i<1:=hi;omega
  subst this;exact h.ic
 .have:i=0:=by have:i<1:=hi;omega
  subst this;show((chK z).length:Int)=s.getD c.toNat 0;rw[hk,h.ez]
 have:i=0:=by have:i<1:=hi;omega
 subst this;have hk3:k<z:=by rw[<-hk];exact kN
 show Bg o (Yr w z,[⟨c,chK z⟩]) ((chK z).getD k 0) 0 (o.idxOf c+1);rw[VF h hk3];refine⟨fun _=>?_,by omega,?_⟩
 .obtain⟨_,e2⟩:=DV (k:=k) (by omega);rw[e2];show fF (k:Int) (Yr w z).length;rw[hl];exact aG hk3
 unfold Ey;rw[a0u (by omega)];exact List.idxOf_lt_length_of_mem (kE ord h.ic)
theorem adQ:Na (JZ s o c w z):=⟨fun i hi k hk=>by
 have:i=0:=by have:i<1:=hi;omega
 subst this;have hk3:k<z:=by rw[<-a2r z];exact hk
 show Gi ((chK z).getD k 0);rw[VF h hk3,<-wrap_small (z:=-1-(k:Int)) (by have:=h.z12;omega) (by omega)];exact Qc _,by show Gi 0;rw[<-wrap_small (z:=0) (by omega) (by omega)];exact Qc _,fun v hv=>(a0j h v hv).2⟩
theorem abx:Na (JZ s o c w z)∧(JZ s o c w z).aA.length<=ah∧(JZ s o c w z).aH.length<=2^20∧(JZ s o c w z).aK.length<=ah∧(((bG (JZ s o c w z)).2 != 0)=false->ClP (bG (JZ s o c w z)).1):=by
 obtain⟨bI,ord⟩:=iM.1 h.f;have hr:=adQ h;have h6:s.length<=6:=bI.len;have LQ:o.length=s.length:=by unfold iG at ord;rw[a1n]at ord;exact ord.1
 have hl:=VE w z;have hz:=h.z12;have e1:(JZ s o c w z).aK.length+1<=ah:=by show(Yr w z).length+1<=ah;rw[hl];unfold ah;omega
 have e2:(JZ s o c w z).aA.length<=ah:=by show s.length<=ah;unfold ah;omega
 refine⟨hr,e2,by show o.length<=2^20;omega,by omega,fun h0=>?_⟩;obtain⟨q1,q2⟩:=xH hr e1 e2 (by show o.length<=ah;unfold ah;omega) (by simpa using h0);rw[q1];exact q2
end
def kM(p:LI0×LI0×Int×Int):Dg×Int:=if(aV p.1 p.2.1 != 0)=true then(mG,aV p.1 p.2.1)else if(!(JY 0 (i64.wrap ((p.1.length:Int)-1)) p.2.2.1))=true then(mG,3)else if(!(JY (-9999) (i64.wrap (i64.wrap (9999-p.1.getD p.2.2.1.toNat 0)+1)) p.2.2.2))=true then(mG,3)else vO (JZ p.1 p.2.1 p.2.2.1 p.2.2.2 (p.1.getD p.2.2.1.toNat 0).toNat)
theorem agu{a b x:Int}(h:(!(JY a b x))=false):a<=x∧x<=b:=by
 unfold JY at h;by_cases h1:x>=a
 .simp[h1]at h;exact⟨h1,h⟩
 simp[h1]at h
theorem a8I{s o:LI0}{c w:Int}(e1:(aV s o != 0)=false)(hc:fF c s.length)(e3:(!(JY (-9999) (i64.wrap (i64.wrap (9999-s.getD c.toNat 0)+1)) w))=false):ChP s o c w (s.getD c.toNat 0).toNat:=by
 have f:aV s o=0:=by simpa using e1
 obtain⟨bI,ord⟩:=iM.1 f;have hz:=bI.sz (s.getD c.toNat 0) (bT (show c.toNat<s.length by obtain⟨a,b⟩:=hc;omega));obtain⟨z0,z1⟩:=hz;obtain⟨w0,w1⟩:=agu e3;rw[wrap_small (z:=9999-s.getD c.toNat 0) (by omega) (by omega),wrap_small (by omega) (by omega)]at w1;exact⟨f,hc,by omega,by omega,w0,by omega⟩
def agv:fB aC:=cu 57 (a4 oh oh iA iA) (dS (a2 dA iA)) kM (fun p=>[p.1.length<=ah,p.2.1.length<=2^20]) alC
theorem aqP:Gd agv:=Good.Xk 0 aqN adA fun n hn hO IV p hp=>by obtain⟨s,o,c,w⟩:=p;have h1:s.length<=ah:=hp _ iD;have h2:o.length<=2^20:=hp _ xM;have hc:(!(JY 0 (i64.wrap ((s.length:Int)-1)) c))=false->fF c s.length:=fun e2=>a0g e2 h1;have hP:=fun(e1:(aV s o != 0)=false) (e2:(!(JY 0 (i64.wrap ((s.length:Int)-1)) c))=false) (e3:(!(JY (-9999) (i64.wrap (i64.wrap (9999-s.getD c.toNat 0)+1)) w))=false)=>a8I e1 (hc e2) e3;have lp:=fun(e1:(aV s o != 0)=false) (e2:(!(JY 0 (i64.wrap ((s.length:Int)-1)) c))=false) (e3:(!(JY (-9999) (i64.wrap (i64.wrap (9999-s.getD c.toNat 0)+1)) w))=false)=>lCh (n:=n) (s:=s) (o:=o) (c:=c) (w:=w) (hP e1 e2 e3).z12 (hP e1 e2 e3).ez;have s1:=fun(e1:(aV s o != 0)=false) (e2:(!(JY 0 (i64.wrap ((s.length:Int)-1)) c))=false) (e3:(!(JY (-9999) (i64.wrap (i64.wrap (9999-s.getD c.toNat 0)+1)) w))=false)=>abv (n:=n) (IV n (by omega)) (s:=s) (o:=o) (c:=c) (y:=(Yr w (s.getD c.toNat 0).toNat,chK (s.getD c.toNat 0).toNat)) (abx (hP e1 e2 e3));show pO X0 Qp _ _ _ ((dS (a2 dA iA)).put (if(aV s o != 0)=true then(mG,aV s o)else if(!(JY 0 (i64.wrap ((s.length:Int)-1)) c))=true then(mG,3)else if(!(JY (-9999) (i64.wrap (i64.wrap (9999-s.getD c.toNat 0)+1)) w))=true then(mG,3)else vO (JZ s o c w (s.getD c.toNat 0).toNat))) _;exact aO (hO n (by omega)) (.o h1 (.o h2 (.sh (fun _=>rE _) fun e1=>.sh (fun _=>rE _) fun e2=>.o (hc e2) (.sh (fun _=>rE _) fun e3=>.a (.QC [] [] (.nil .aP) []) (.o (hc e2) (.wG [.QB 1 2 39,.Uw 0 1 3] (lp e1 e2 e3) (.fr [0,1,2] (s1 e1 e2 e3) .rr)))))))
open Go Tw Pv dB
structure aby(d:Dg):Prop where
 t:Ce d
 n:d.au.length<=6000
 l:aZ d=0
 f:ng d.aA
 o:d.aH.length<=ah
 e:d.aK.length<=ah
def gLs(d:Dg)(k:Nat)(l:List V):List V:=l++[Ci d (mg d.aA k)]
theorem agw(d:Dg):aU (gLs d) (uM d.aA) 0 []=cellsD d:=by have:=bU (g:=gLs d) (m:=uM d.aA) (k:=0) (s:=[]) (fun k l=>l=(List.range k).map fun(k:Nat)=>Ci d (mg d.aA k)) rfl (fun j l _ _ e=>by rw[gLs,e,abX,a4s];rfl);rw[a3I]at this;exact this
abbrev wLs(d:Dg)(y:List V)(i:Int)(x:List (Nat×PE aC)):aT aC:=⟨[(1,.loc 0 0),(3,.val (.own 0)),(4,xi i)]++x,[d.ps],[.list false false 39 y]⟩
theorem lLs{n:Nat}(hO:Ok n agv)(d:Dg)(h:aby d):Ii n 44 0 0 (wLs d [] 0 []) (.exit 0) (wLs d (cellsD d) (uM d.aA) [(12,xl false)]):=by
 have hs:d.aA.length<=ah:=by have:=h.f.len;unfold ah;omega
 have hc:uM d.aA<=ah:=by have:=h.f.uM;have:=h.f.ach;have:=h.f.many;unfold ah;omega
 rw[<-agw d];refine vM (σ:=List V) (N:=uM d.aA) (g:=gLs d) (s0:=[]) (st:=fun i y=>wLs d y i []) (fin:=fun y=>wLs d y (uM d.aA) [(12,xl false)]) (fun k y=>y.length=k) (by kernel_rfl) hc rfl (fun j y hj hy=>by simp[gLs,hy]) (fun j y hj hy m e p g9=>?_) (fun y _=>?_)
 .have h2:y.length+[Ci d (mg d.aA j)].length<=ah:=by rw[hy,a3j];omega
  exact aN hO (.o hs (.b (h.f.lt hj) (.o hs (.o h.f.sz (.o (show(0:Int)<=(j:Int) by omega) (.o (show(j:Int)<2^62 by unfold ah at hc;omega) (.o h.t (.o h.n (.o (wu (j:Int) h.f.sz) (.o h2 (.goG [.gc [2]] g9)))))))))))
 exact aN hO (.o hs (.b h.f.no .ex))
def alE:fB aC:=cu 44 (a1 dA) vsA cellsD (fun d=>[aby d]) agv
theorem aqQ:Gd alE:=aqP.add fun n hO p hp=>by
 have h:aby p:=hp _ iD;have hb:(aZ p != 0)=false:=by rw[h.l];rfl
 exact aO hO (.o h.o (.o h.e (.b hb (.wG [.FZ 3 39] (lLs (n:=n) hO p h) .rr))))
def alF:fB aC:=cu 56 (a1 oh) oh (fun p=>p) (fun p=>[p.length<=ah]) alE
theorem aqR:Gd alF:=aqQ.add fun n hO p hp=>aO hO (.o (hp _ iD) .rr)
def agx:fB aC:=cu 48 (a1 iA) vA (fun p=>(⟨0,p⟩:V)) np alF
theorem aqS:Gd agx:=aqR.add fun n hO p hp=>aO hO .rr
open Go Tw Pv dB
structure Qm(d:Dg):Prop where
 s:d.aA.length<=ah
 o:d.aH.length<=ah
 e:d.aK.length<=ah
 n:d.au.length<=ah
 k:∀b∈d.au,b.ay.length<=ah
abbrev agy(a b:Dg)(i:Int)(x:List (Nat×PE aC)):aT aC:=⟨[(2,.loc 0 0),(3,.loc 1 0),(5,xi i)]++x,[a.ps,b.ps],[]⟩
def a0k(a b:Dg)(k:Nat):Bool:=if((a.au.getD k kW).var != (b.au.getD k kW).var)=true then true else !(decide ((a.au.getD k kW).ay=(b.au.getD k kW).ay))
def agz(a b:Dg):Unit⊕Nat->Ex×aT aC
 |.inl _=>(.exit 0,agy a b a.au.length [(48,xl false)])
 |.inr _=>(.ret,⟨[(4,xl false)],[a.ps,b.ps],[]⟩)
theorem alG{n:Nat}(hO:Ok n agx){a b:Dg}(h:Qm a)(hl:a.au.length=b.au.length):Lp n 72 0 (agy a b 0 []) (agz a b (bK (a0k a b) a.au.length)).1 (agz a b (bK (a0k a b) a.au.length)).2:=by
 refine jh (st:=fun i _=>agy a b i []) (g:=gS (a0k a b)) (out:=agz a b) (fun _ _=>True) (by kernel_rfl) h.n trivial (fun k u m hk _ ih=>?_) (fun _ _=>?_)
 .have i1:fF (k:Int) a.au.length:=aG hk;have i2:fF (k:Int) b.au.length:=aG (by omega);have h9:=h.k _ (gY (d:=kW) hk);unfold gS a0k;cases e1:((a.au.getD k kW).var != (b.au.getD k kW).var)
  .exact aN hO (.b (bF hk) (.o i1 (.o i2 (.b e1 (.o i1 (.o i2 (.o h9 (.ls (.ou nofun) (.nx (ih _ trivial))))))))))
  exact aN hO (.b (bF hk) (.o i1 (.o i2 (.b e1 (.ou nofun)))))
 exact aN hO (.b (fH a.au.length) (.ou nofun))
def LK(a b:Dg):Bool:=if(!(decide (a.aA=b.aA)))=true then false else if(!(decide (a.aH=b.aH)))=true then false else if(!(decide (a.aK=b.aK)))=true then false else if((a.au.length:Int) != (b.au.length:Int))=true then false else if(a.root != b.root)=true then false else if kU (bK (a0k a b) a.au.length)=true then true else false
def alH:fB aC:=cu 72 (a2 dA dA) tA (fun p=>LK p.1 p.2) (fun p=>[Qm p.1]) agx
theorem aqT:Gd alH:=aqS.add fun n hO p hp=>aO hO (.o (show Qm p.1 from hp _ iD).s (.ss .rr (.o (show Qm p.1 from hp _ iD).o (.ss .rr (.o (show Qm p.1 from hp _ iD).e (.ss .rr (.sh (fun _=>.rr) fun h4=>.ss .rr (.zh (fun h=>.w (kZ (alG hO (show Qm p.1 from hp _ iD) (show p.1.au.length=p.2.au.length by simp at h4;omega)) () h) .rr) fun h=>.w (l7 (alG hO (show Qm p.1 from hp _ iD) (show p.1.au.length=p.2.au.length by simp at h4;omega)) 0 h) .rr))))))))
def alI:fB aC:=cu 25 (a3 dA iA dA) tA (fun p=>(if(p.2.1==0)=true then LK p.1 p.2.2 else false)) (fun p=>[Qm p.1]) alH
theorem aqU:Gd alI:=aqT.add fun n hO p hp=>aO hO (.ss (.o (hp _ iD) .rr) .rr)
def alJ:fB aC:=cu 24 (a1 dA) tA (fun p=>LK p mG) (fun p=>[Qm p]) alI
theorem aqV:Gd alJ:=aqU.add fun n hO p hp=>aO hO (.o (hp _ iD) .rr)
def VG(s o:LI0):Bool:=if decide ((s.length:Int)>8)=true then false else if decide ((o.length:Int)>8)=true then false else if(aV s o != 0)=true then true else decide (xg s<=200)
def alK:fB aC:=cu 54 (a2 oh oh) tA (fun p=>VG p.1 p.2) np alJ
theorem aqW:Gd alK:=aqV.add fun n hO p hp=>aO hO (.sh (fun _=>.rr) fun h1=>.sh (fun _=>.rr) fun h2=>.o (show p.2.length<=ah by simp at h2;unfold ah;omega) (.ss .rr (.o (show p.1.length<=ah by simp at h1;unfold ah;omega) .rr)))
open Go Tw Pv dB
def dX:Dg:=⟨[2,3],[0,1],[⟨0,1⟩,⟨0,2⟩],[⟨0,[-1,-2]⟩],0⟩
def dY:Dg:=⟨[2,3],[0,1],[⟨0,0⟩,⟨0,1⟩,⟨0,2⟩],[⟨1,[-1,-2,-3]⟩],0⟩
def cL(l:LI0):List V:=l.map fun n=>⟨0,n⟩
theorem a4n:kM ([2,3],[0,1],0,1)=(dX,0):=by kernel_rfl
def dIf:Dg:=(Yo (dY,dX,dY)).1
theorem alL:(Yo (dY,dX,dY)).2=0∧vN dIf=0∧cellsD dIf=cL [0,1,1,0,2,2]:=⟨by kernel_rfl,by kernel_rfl,by kernel_rfl⟩
def dRs:Dg:=(L8 (dY,1,2)).1
theorem agB:(L8 (dY,1,2)).2=0∧vN dRs=0∧cellsD dRs=cL [2,2,2,2,2,2]:=⟨by kernel_rfl,by kernel_rfl,by kernel_rfl⟩
def dWh:Dg:=(Ac dY).1
theorem a8J:(Ac dY).2=0∧vN dWh=0∧cellsD dWh=cL [0,1,0,0,1,0]:=⟨by kernel_rfl,by kernel_rfl,by kernel_rfl⟩
theorem abz:VD (dY,⟨0,2⟩)=(2,0):=by kernel_rfl
theorem a8K:II (dX,⟨0,2⟩)=([1,0],0):=by kernel_rfl
def Gp:Dg:=(xJ (10,dX,dY)).1
theorem agC:(xJ (10,dX,dY)).2=0:=by kernel_rfl
def dLe:Dg:=(xJ (14,dX,dY)).1
theorem alM:(xJ (14,dX,dY)).2=0:=by kernel_rfl
theorem abA:a2p ([dX,dY],dLe)=(⟨8,false,false,2,0,0,false,[0]⟩,0):=by kernel_rfl
def VH:List (V×Int):=fA (fD [Gp,dX])
theorem alN:mD VH=[0,1]:=by
 have e:((VH.filter fun e=>!decide (e.1.f>0)).map fun e=>e.1.n)=[0,1]:=by kernel_rfl
 unfold mD;rw[e];unfold gX;exact List.mergeSort_of_pairwise (by simp)
theorem agE:a2o (4,Gp,dX)=(⟨4,false,false,0,0,1,true,[]⟩,0):=by
 have e1:bW [Gp,dX]=0:=by kernel_rfl
 have e2:uP VH=true:=by kernel_rfl
 have e3:VH≠[]:=by
  intro h;have h2:VH.length=0:=by rw[h];rfl
  have h3:VH.length=3:=by kernel_rfl
  omega
 show(if(bW [Gp,dX] != 0)=true then(VN,bW [Gp,dX])else Gn 4 VH)=_;rw[e1];show Gn 4 VH=_;unfold Gn;rw[a0q e3];show(if mD VH=[]then _ else _)=_;rw[alN,e2];rfl
open Go Tw Pv dB
def agF:fB aC:=cu 73 aeX (dS (a2 dA dA)) (fun p=>(dX,dY)) np alK
theorem aqX:Gd agF:=aqW.add fun n hO p hp=>aO hO .rr
abbrev anP(a:An):List (PV aC):=[.int .u8 a.q,.bool a.none,.bool a.yes,.int .i64 a.n,.int .i64 a.lo,.int .i64 a.hi,.bool a.fault,lI a.set,.nil .aP]
abbrev wSa(a b:An)(i:Int)(x:List (Nat×PE aC)):aT aC:=⟨[(2,.loc 0 0),(3,.loc 1 0),(5,xi i)]++x,[anP a,anP b],[]⟩
theorem lSa{n:Nat}(hO:Ok n agF){a b:An}:Lp n 35 0 (wSa a b 0 []) (.exit 0) (wSa a b 0 [(74,xl false)]):=by have:=KO (X:=X0) (P:=Qp) (T:=T) (L:=LL) (call:=iC n) (f:=35) (gZ:=false) (nt:=Cm Qp 35) (B:=0) (b:=SC Qp 35 0) (σ:=Unit) (N:=0) (g:=fun _ s=>s) (s0:=()) (st:=fun i _=>wSa a b i []) (fin:=fun _=>wSa a b 0 [(74,xl false)]) (w:=wSa a b 0 []) (e:=.exit 0) (fun _ _=>True) (by kernel_rfl) (a4G _) QH trivial (fun _ _ _ _=>trivial) (fun k s hk=>absurd hk (ah5 _)) (fun s _=>aN hO (.b (rfl:decide ((0:Int)<0)=false) .ex));exact this
def abB(a b:An):Bool:=if(a.q != b.q)=true then false else if(!(a.none==b.none))=true then false else if(!(a.yes==b.yes))=true then false else if(a.n != b.n)=true then false else if(a.lo != b.lo)=true then false else if(a.hi != b.hi)=true then false else if(!(a.fault==b.fault))=true then false else if(!(decide (a.set=b.set)))=true then false else true
def agG:fB aC:=cu 35 (a2 YF YF) tA (fun p=>abB p.1 p.2) (fun p=>[p.1.set.length<=ah]) agF
theorem aqY:Gd agG:=aqX.add fun n hO p hp=>aO hO (.ss .rr (.ss .rr (.ss .rr (.ss .rr (.ss .rr (.ss .rr (.ss .rr (.o (hp _ iD) (.ss .rr (.b (rfl:((0:Int) != 0)=false) (.w (lSa (a:=p.1) (b:=p.2) hO) .rr)))))))))))
open Go Tw Pv dB
theorem a2s{d:Dg}(ho:d.aH.length<=ah)(he:d.aK.length<=ah)(h:(vN d==0)=true):aby d:=by
 have h:vN d=0:=by simpa using h
 have h0:aZ d=0:=by
  unfold vN at h;split at h
  .rename_i c;rw[h]at c;cases c
  rename_i c;simpa using c
 obtain⟨t,n⟩:=jK ho he (by rw[h0];rfl);exact⟨t,n,h0,t.bI,ho,he⟩
abbrev wLz(d:Dg)(e:Int)(l:LI0)(acc:List V)(i:Int)(x:List (Nat×PE aC)):aT aC:=⟨[(1,xi e),(2,xL 3 l),(3,.loc 0 0),(7,.val (.own 0)),(8,xi i)]++x,[d.ps],[.list false false 39 acc]⟩
theorem lLz{n:Nat}(hO:Ok n agG)(d:Dg)(e:Int){l:LI0}(hl:l.length<=1000):Lp n 74 0 (wLz d e l [] 0 []) (.exit 0) (wLz d e l (cL l) l.length [(12,xl false)]):=by
 have e1:aU (fun k (a:List V)=>a++[(⟨0,l.getD k 0⟩:V)]) l.length 0 []=cL l:=by rw[a6G,a3F l 0 fun r=>(⟨0,r⟩:V)];rfl
 rw[<-e1];refine vM (σ:=List V) (N:=l.length) (g:=fun k (a:List V)=>a++[(⟨0,l.getD k 0⟩:V)]) (s0:=([]:List V)) (st:=fun i a=>wLz d e l a i []) (fin:=fun a=>wLz d e l a l.length [(12,xl false)]) (fun k a=>a.length=k) (by kernel_rfl) (by unfold ah;omega) rfl (fun k a _ h=>by simp[h]) (fun k a hk ha m e p g9=>?_) (fun a _=>?_)
 .have hal:a.length+[(⟨0,l.getD k 0⟩:V)].length<=ah:=by have:a.length=k:=ha;rw[a3j];unfold ah;omega
  exact aN hO (.b (bF hk) (.o (aG hk) (.o hal (.goG [.gc [2]] g9))))
 exact aN hO (.b (fH l.length) .ex)
def alP(p:Dg×Int×LI0):Bool:=if(p.2.1==0)=true then(if(vN p.1==0)=true then decide (cellsD p.1=cL p.2.2)else false)else false
def abC:fB aC:=cu 74 (a3 dA iA oh) tA (fun p=>alP p) (fun p=>[p.1.aH.length<=ah,p.1.aK.length<=ah,p.2.2.length<=1000,(cellsD p.1).length<=ah]) agG
theorem aqZ:Gd abC:=aqY.add fun n hO p hp=>aO hO (.wG [.FZ 7 39] (lLz hO p.1 p.2.1 (hp _ hh2)) (.ss (.o (hp _ iD) (.o (hp _ xM) (.sh (fun h=>.o (a2s (hp _ iD) (hp _ xM) h) (.o (hp _ (.tail _ (.tail _ (.tail _ (.head _))))) .rr)) (fun _=>.rr)))) .rr))
open Go Tw Pv dB
theorem VI{d:Dg}(h:((d.au.all fun n=>n.ay.all fun k=>decide (-1000<=k)&&decide (k<=1000))&&(decide (-1000<=d.root)&&decide (d.root<=1000))&&(d.aK.all fun v=>decide (0<=v.f))&&(decide (d.aA.length<=100)&&decide (d.aH.length<=100)&&decide (d.aK.length<=100)))=true):sF d:=by
 simp only[a2f,a1n,a4I]at h;obtain⟨⟨⟨h1,h2⟩,h3⟩,⟨h4,h5⟩,h6⟩:=h;refine⟨⟨fun i hi k hk=>?_,?_,h3⟩,by unfold ah;omega,by omega,by unfold ah;omega⟩
 .have h7:=h1 _ (gY (d:=(⟨0,[]⟩:Br)) hi) _ (gY (d:=(0:Int)) hk);show Gi ((fE d i).ay.getD k 0);unfold Gi;have h8:((d.au.getD i ⟨0,[]⟩).ay.getD k 0)=(fE d i).ay.getD k 0:=rfl;rw[h8]at h7;omega
 unfold Gi;omega
theorem pX:sF dX:=VI (by kernel_rfl)
theorem pY:sF dY:=VI (by kernel_rfl)
theorem a8L:sF Gp:=VI (by kernel_rfl)
theorem pLe:sF dLe:=VI (by kernel_rfl)
abbrev dvA(d:Dg):PV aC:=(dS (a2 dA iA)).put (d,0)
theorem agH:(dRs,(0:Int))=L8 (dY,1,2):=ado rfl agB.1.symm
theorem a8M:(dWh,(0:Int))=Ac dY:=ado rfl a8J.1.symm
theorem agI:(Gp,(0:Int))=xJ (10,dX,dY):=ado rfl agC.symm
theorem alR:(dLe,(0:Int))=xJ (14,dX,dY):=ado rfl alM.symm
section
variable {n:Nat} (hO:Ok n abC)
include hO
theorem alS:iW n (.fn 73 [] []) [] [] ((dS (a2 dA dA)).put (dX,dY)) []:=
 rM hX hO (f:=73) (first:=[]) (xs:=[]) (cap:=[]) (vs:=[]) (v:=(dS (a2 dA dA)).put (dX,dY)) (H:=[]) (ps:=[]) rfl (by kernel_rfl) (fun _ h=>by cases h) rfl
theorem abD{j k:Bool}:iW n (.fn 57 [] []) [.own 0,.own 1,.int .i64 0,.int .i64 1] [.list j k 3 ([2,3]:LI0),.list j k 3 ([0,1]:LI0)] (dvA dX) [.gone,.gone]:=by unfold dvA;rw[<-a4n];exact rM hX hO (f:=57) (first:=[]) (xs:=[.own 0,.own 1,.int .i64 0,.int .i64 1]) (cap:=[]) (vs:=[.dJ 3 ([2,3]:LI0) false,.dJ 3 ([0,1]:LI0) false,.int .i64 0,.int .i64 1]) (v:=(dS (a2 dA iA)).put (kM ([2,3],[0,1],0,1))) (H:=[.list j k 3 ([2,3]:LI0),.list j k 3 ([0,1]:LI0)]) (ps:=[([2,3]:LI0).length<=ah,([0,1]:LI0).length<=2^20]) rfl (by kernel_rfl) (by simp[ah]) rfl
theorem aIf:iW n (.fn 63 [] []) [.agg dY.ps,.agg dX.ps,.agg dY.ps] [] (dvA dIf) []:=by have e:(dIf,(0:Int))=Yo (dY,dX,dY):=ado rfl alL.1.symm;unfold dvA;rw[e];exact rM hX hO (f:=63) (first:=[]) (cap:=[]) (vs:=[.agg dY.ps,.agg dX.ps,.agg dY.ps]) (v:=(dS (a2 dA iA)).put (Yo (dY,dX,dY))) (H:=[]) (ps:=[sF dY,sF dX,sF dY]) rfl (by kernel_rfl) (by simp[pX,pY]) rfl
theorem ar0:iW n (.fn 20 [] []) [.agg dY.ps,.int .i64 1,.int .i64 2] [] (dvA dRs) []:=by rw[show(dvA dRs:PV aC)=((dS (a2 dA iA)).put (L8 (dY,1,2)))from by rw[<-agH]];exact rM hX hO (f:=20) (first:=[]) (xs:=[.agg dY.ps,.int .i64 1,.int .i64 2]) (cap:=[]) (vs:=[.agg dY.ps,.int .i64 1,.int .i64 2]) (v:=((dS (a2 dA iA)).put (L8 (dY,1,2)))) (H:=[]) (ps:=[sF dY]) rfl (by kernel_rfl) (by simp[pX,pY,a8L,pLe]) rfl
theorem agJ:iW n (.fn 67 [] []) [.agg dY.ps] [] (dvA dWh) []:=by rw[show(dvA dWh:PV aC)=((dS (a2 dA iA)).put (Ac dY))from by rw[<-a8M]];exact rM hX hO (f:=67) (first:=[]) (xs:=[.agg dY.ps]) (cap:=[]) (vs:=[.agg dY.ps]) (v:=((dS (a2 dA iA)).put (Ac dY))) (H:=[]) (ps:=[sF dY]) rfl (by kernel_rfl) (by simp[pX,pY,a8L,pLe]) rfl
theorem alT:iW n (.fn 27 [] []) [.agg dY.ps,.agg (⟨0,2⟩:V).ps] [] ((dS (a2 iA iA)).put (2,0)) []:=by rw[show((dS (a2 iA iA)).put (2,0):PV aC)=((dS (a2 iA iA)).put (VD (dY,⟨0,2⟩)))from by rw[abz]];exact MX hX hO (f:=27) (first:=[]) (xs:=[.agg dY.ps,.agg (⟨0,2⟩:V).ps]) (cap:=[]) (vs:=[.agg dY.ps,.agg (⟨0,2⟩:V).ps]) (v:=((dS (a2 iA iA)).put (VD (dY,⟨0,2⟩)))) (H:=[]) (ps:=[sF dY]) rfl (by kernel_rfl) (by simp[pY]) rfl
theorem agK:iW n (.fn 28 [] []) [.agg dX.ps,.agg (⟨0,2⟩:V).ps] [] ((dS (a2 oh iA)).put ([1,0],0)) []:=by rw[show((dS (a2 oh iA)).put ([1,0],0):PV aC)=((dS (a2 oh iA)).put (II (dX,⟨0,2⟩)))from by rw[a8K]];exact rM hX hO (f:=28) (first:=[]) (xs:=[.agg dX.ps,.agg (⟨0,2⟩:V).ps]) (cap:=[]) (vs:=[.agg dX.ps,.agg (⟨0,2⟩:V).ps]) (v:=((dS (a2 oh iA)).put (II (dX,⟨0,2⟩)))) (H:=[]) (ps:=[sF dX]) rfl (by kernel_rfl) (by simp[pX]) rfl
theorem ar1:iW n (.fn 62 [] []) [.int .u8 10,.agg dX.ps,.agg dY.ps] [] (dvA Gp) []:=by rw[show(dvA Gp:PV aC)=((dS (a2 dA iA)).put (xJ (10,dX,dY)))from by rw[<-agI]];exact rM hX hO (f:=62) (first:=[]) (xs:=[.int .u8 10,.agg dX.ps,.agg dY.ps]) (cap:=[]) (vs:=[.int .u8 10,.agg dX.ps,.agg dY.ps]) (v:=((dS (a2 dA iA)).put (xJ (10,dX,dY)))) (H:=[]) (ps:=[sF dX,sF dY]) rfl (by kernel_rfl) (by simp[pX,pY,a8L,pLe]) rfl
theorem aLe:iW n (.fn 62 [] []) [.int .u8 14,.agg dX.ps,.agg dY.ps] [] (dvA dLe) []:=by rw[show(dvA dLe:PV aC)=((dS (a2 dA iA)).put (xJ (14,dX,dY)))from by rw[<-alR]];exact rM hX hO (f:=62) (first:=[]) (xs:=[.int .u8 14,.agg dX.ps,.agg dY.ps]) (cap:=[]) (vs:=[.int .u8 14,.agg dX.ps,.agg dY.ps]) (v:=((dS (a2 dA iA)).put (xJ (14,dX,dY)))) (H:=[]) (ps:=[sF dX,sF dY]) rfl (by kernel_rfl) (by simp[pX,pY,a8L,pLe]) rfl
abbrev a8N:An:=⟨4,false,false,0,0,1,true,[]⟩
abbrev adT:An:=⟨8,false,false,2,0,0,false,[0]⟩
theorem ar2:iW n (.fn 33 [] []) [.int .u8 4,.agg Gp.ps,.agg dX.ps] [] ((dS (a2 YF iA)).put (a8N,0)) []:=by rw[show((dS (a2 YF iA)).put (a8N,0):PV aC)=((dS (a2 YF iA)).put (a2o (4,Gp,dX)))from by rw[agE]];exact rM hX hO (f:=33) (first:=[]) (xs:=[.int .u8 4,.agg Gp.ps,.agg dX.ps]) (cap:=[]) (vs:=[.int .u8 4,.agg Gp.ps,.agg dX.ps]) (v:=((dS (a2 YF iA)).put (a2o (4,Gp,dX)))) (H:=[]) (ps:=[sF Gp,sF dX]) rfl (by kernel_rfl) (by simp[a8L,pX]) rfl
end
open Go Tw Pv dB
theorem alU{n:Nat}(hn:24<=n)(Cc:Ok n abt)(IV:∀m,n-24<=m->Ok m rY){k:Bool}:iW (n+1) (.fn 39 [] []) [.own 0,.agg dLe.ps] [.list k true 26 [dX,dY]] ((dS (a2 YF iA)).put (adT,0)) [.list k true 26 [dX,dY]]:=by
 rw[<-abA];exact alA (l:=[dX,dY]) (d:=dLe) hn Cc IV (fun x h=>by
  rcases a1F.1 h with rfl|h
  .exact pX
  rcases a1F.1 h with rfl|h
  .exact pY
  rw[a2D.1 h];exact pLe) (by show 2<=1000;omega)
theorem alV{n:Nat}(hO:Ok n abC):iW n (.fn 48 [] []) [.int .i64 2] [] (.agg (⟨0,2⟩:V).ps) []:=
 MX hX hO (f:=48) (first:=[]) (xs:=[.int .i64 2]) (cap:=[]) (vs:=[.int .i64 2]) (v:=.agg (⟨0,2⟩:V).ps) (H:=[]) (ps:=[]) rfl (by kernel_rfl) (fun _ h=>by cases h) rfl
theorem TN{a b:Nat}(h:Nat.ble a b=true):a<=b:=agX h
theorem ar4:Qm dX:=⟨TN (by kernel_rfl),TN (by kernel_rfl),TN (by kernel_rfl),TN (by kernel_rfl),fun b h=>by rw[a2D.1 h];exact TN (by kernel_rfl)⟩
def agL:fB aC:=cu 19 aeX tA (fun _=>true) np abC
theorem ar5:Gd agL:=Good.aci 25 aqZ als KZ fun n hn hO IV hO3 p hp=>by obtain⟨m,rfl⟩:∃m,n=m+1:=⟨n-1,by omega⟩;have Gg:=hO (m+1) (by omega);exact aO Gg (.fr [] (alS Gg) (.fr [0,1] (abD Gg (j:=true) (k:=true)) (.fr [] (aIf Gg) (.fr [] (ar0 Gg) (.fr [] (agJ Gg) (.fr [] (alV Gg) (.fr [] (alT Gg) (.fr [] (alV Gg) (.fr [] (agK Gg) (.fr [] (ar1 Gg) (.fr [] (ar2 Gg) (.fr [] (aLe Gg) (.fr [2] (alU (k:=true) (by omega) (IV m (by omega)) (fun k hk=>hO3 k (by omega))) (.o ar4 (.b (c:=true) (t:=true) rfl (.o (TN (by kernel_rfl):dIf.aH.length<=ah) (.o (TN (by kernel_rfl):dIf.aK.length<=ah) (.o (TN (by kernel_rfl):([0,0,0,0,0,0]:LI0).length<=1000) (.o (TN (by kernel_rfl):(cellsD dIf).length<=ah) (.b (c:=true) (t:=true) rfl (.o (TN (by kernel_rfl):dRs.aH.length<=ah) (.o (TN (by kernel_rfl):dRs.aK.length<=ah) (.o (TN (by kernel_rfl):([0,0,0,0,0,0]:LI0).length<=1000) (.o (TN (by kernel_rfl):(cellsD dRs).length<=ah) (.b (c:=true) (t:=true) rfl (.o (TN (by kernel_rfl):dWh.aH.length<=ah) (.o (TN (by kernel_rfl):dWh.aK.length<=ah) (.o (TN (by kernel_rfl):([0,0,0,0,0,0]:LI0).length<=1000) (.o (TN (by kernel_rfl):(cellsD dWh).length<=ah) (.b (c:=true) (t:=true) rfl (.b (c:=true) (t:=true) rfl (.b (c:=true) (t:=true) rfl (.b (c:=true) (t:=true) rfl (.o (TN (by kernel_rfl):([1,0]:LI0).length<=ah) (.b (c:=true) (t:=true) rfl (.b (c:=true) (t:=true) rfl (.b (c:=true) (t:=true) rfl (.o (TN (by kernel_rfl):a8N.set.length<=ah) (.b (c:=true) (t:=true) rfl (.b (c:=true) (t:=true) rfl (.b (c:=true) (t:=true) rfl (.o (TN (by kernel_rfl):adT.set.length<=ah) .rr))))))))))))))))))))))))))))))))))))))))))
open Go Tw Pv dB
theorem ar6:Gs V0:=⟨by decide,by decide⟩
theorem abE{l:List V}(h:∀v∈l,Gs v)(i:Nat):Gs (l.getD i V0):=by
 by_cases c:i<l.length
 .exact h _ (gY c)
 rw[a4p,a4r (by omega)];exact ar6
theorem a8O{d:Dg}(h:∀v∈d.aK,Gs v):∀v∈cellsD d,Gs v:=fun v hv=>by obtain⟨k,_,rfl⟩:=a1k.1 hv;exact abE h _
theorem a0l(d:Dg):(cellsD d).length=uM d.aA:=by simp[cellsD]
theorem agM{d:Dg}(h:vN d=0)(ho:d.aH.length<=ah)(he:d.aK.length<=ah):Qm d:=by
 have l:=a2s ho he (by rw[h];rfl);have h6:=l.f.len;have n6:=l.n;refine⟨by unfold ah;omega,ho,he,by unfold ah;omega,fun b hb=>?_⟩;obtain⟨i,hi,rfl⟩:=ads hb;have:=l.t.JD i hi;have e:fE d i=d.au[i]:=by show d.au.getD i kW=_;rw[a4p,a0n hi,a6k]
 rw[e]at this;unfold ah;omega
structure DgF(d:Dg):Prop where
 r:Na d
 k:vN d=0
 f:Qm d
 e:d.aK.length<=2000
 o:d.aH.length=d.aA.length
 s:ng d.aA
theorem a8P{s o:LI0}{l:List V}(h:OfP s o l)(hv:∀v∈l,Gs v):DgF (jD s o l):=by obtain⟨h1,h2,_⟩:=Gj h fun v m=>(hv v m).1;obtain⟨r,k⟩:=aaS h (fun v m=>(hv v m).1) fun v m=>(hv v m).2;have ho:=h.p.2.2;have h6:=h.bI.len;exact⟨r,k,agM k (by show o.length<=ah;unfold ah;omega) (by unfold ah;omega),h2,ho,h.bI⟩
theorem xK(a:Dg):LK a a=true:=by
 have h:kU (bK (a0k a a) a.au.length)=true:=eG.2 fun k _=>by simp[a0k]
 unfold LK;rw[h];simp
theorem a8Q:Qm mG:=⟨a4G _,a4G _,a4G _,a4G _,fun b h=>by cases h⟩
open Go Tw Pv dB
theorem abG{a b x:Int}:JY a b x=true↔a<=x∧x<=b:=by
 unfold JY;by_cases h1:x>=a
 .simp[h1]
 simp[h1]
theorem Nq(a b x:Int):JY a b x=jq x a b:=by rw[a4J,abG,uw]
open Go Tw Pv dB
theorem a0m{v:V}:xu v=YC v:=by
 unfold xu YC jq;by_cases c:(v.f==0)=true
 .rw[a0u c,a0u c];rw[a4J];simp[wB,tV]
 rw[a0q c,a0q c]
section
variable {d:Dg} (hJ:kQ (fD [d])) {v:V}
include hJ
variable {h:LI0} (h1:jf d.aA h=true) (h2:Ci d h=v) (h3:∀ q,jf d.aA q=true->Ci d q=v->dV d.aA h<=dV d.aA q)
end
open Go Tw Pv dB
section
variable {q:Int} {a b c:Dg} (pa:sF a) (pb:sF b) (pc:sF c) (fa:Qm a) (fb:Qm b) (fc:Qm c)
include pa fa
end
section
variable {R:Option (PV aC)->Prop} {an:PT aC} {o:OT (Option (PV aC))} {q:Int} {a b c:Dg} {l:List Dg}
theorem dn{p:Prop}(h:PLift p):p:=h.down
end
open Go Tw Pv dB
abbrev wKo(s o:LI0)(v:V)(y:List V)(i:Int)(x:List (Nat×PE aC)):aT aC:=⟨[(0,.val (lI s)),(1,.val (lI o)),(5,.loc 0 0),(6,.loc 1 0),(7,.val (.own 0)),(8,xi i)]++x,[v.ps,[.nil .aP,.nil .aP,.nil .aP,.nil .aP,.int .i64 0]],[.list false false 39 y]⟩
theorem alW(v:V):∀n:Nat,aU (fun _ (y:List V)=>y++[v]) n 0 []=List.replicate n v
 | 0=>rfl
 |n+1=>by rw[qE,alW v n,List.replicate_succ']
structure agN(p:LI0×LI0×V):Prop where
 bI:ng p.1
 ord:iG p.1.length p.2.1=true
theorem Qn{s:LI0}(h:ng s):xg s=((uM s:Nat):Int)∧uM s<=2000∧bg s=((uM s:Nat):Int):=by have h1:=h.many;have h2:=OZ h.sz;have h0:=iY h.sz;unfold uM;rw[h2];refine⟨by omega,by omega,by omega⟩
theorem lKo{n:Nat}(hO:Ok n agL){s o:LI0}(h:ng s)(v:V):Ii n 59 0 0 (wKo s o v [] 0 []) (.exit 0) (wKo s o v (List.replicate (uM s) v) (uM s) [(12,xl false)]):=by
 obtain⟨c1,c2,_⟩:=Qn h;rw[<-alW v (uM s)];refine vM (σ:=List V) (N:=uM s) (g:=fun _ y=>y++[v]) (s0:=[]) (st:=fun i y=>wKo s o v y i []) (fin:=fun y=>wKo s o v y (uM s) [(12,xl false)]) (fun k y=>y.length<=k) (by kernel_rfl) (by unfold ah;omega) (a0E 0) (fun j y hj hy=>by rw[a1o,a3j];omega) (fun j y hj hy m e p g9=>?_) (fun y _=>?_)
 .have t1:decide ((j:Int)<xg s)=true:=by rw[c1];exact bF hj
  have h2:y.length+[v].length<=ah:=by simp only[a3j];unfold ah;omega
  exact aN hO (.o h.UW (.b t1 (.o h2 (.goG [.gc [2]] g9))))
 have t1:decide (((uM s:Nat):Int)<xg s)=false:=by rw[c1];exact fH _
 exact aN hO (.o h.UW (.b t1 .ex))
theorem a2t{s o:LI0}(hf:ng s)(ho:iG s.length o=true)(v:V):PtP s o (List.replicate (uM s) v)∧o.length<=6∧wO s o<=ah:=by obtain⟨c1,c2,c3⟩:=Qn hf;have hw:=DU hf.sz ho;unfold iG at ho;rw[a1n]at ho;obtain⟨h1,h2,_⟩:=ho;have h6:=hf.len;exact⟨⟨hf,fun c hc=>⟨(h2 c hc).1,(h2 c hc).2⟩,by rw[a7h,c3],by rw[h1];exact hf.UW,hf.UW⟩,by omega,by unfold ah;omega⟩
def agO:fB aC:=cu 59 (a3 oh oh vA) dA (fun p=>jD p.1 p.2.1 (List.replicate (uM p.1) p.2.2)) (fun p=>[agN p]) agL
theorem ar8:Gd agO:=ar5.add fun n hO p hp=>by obtain⟨s,o,v⟩:=p;have h:agN (s,o,v):=hp _ iD;have hf:ng s:=h.bI;have ho:iG s.length o=true:=h.ord;have lp:=lKo (n:=n) hO (o:=o) hf v;obtain⟨q1,q2,q3⟩:=a2t hf ho v;exact aO hO (.wG [.FZ 7 39] lp (.o q1 (.o q2 (.o q3 .rr))))
abbrev wKc(s o:LI0)(c w:Int)(y:List V)(i:Int)(x:List (Nat×PE aC)):aT aC:=⟨[(0,.val (lI s)),(1,.val (lI o)),(2,xi c),(3,xi w),(8,.loc 0 0),(9,.val (.own 0)),(10,xi i)]++x,[[.nil .aP,.nil .aP,.nil .aP,.nil .aP,.int .i64 0]],[.list false false 39 y]⟩
def gKc(s:LI0)(c w:Int)(k:Nat)(y:List V):List V:=y++[(⟨0,i64.wrap (w+(mg s k).getD c.toNat 0)⟩:V)]
def su(s:LI0)(c w:Int):List V:=(List.range (uM s)).map fun(k:Nat)=>(⟨0,i64.wrap (w+(mg s k).getD c.toNat 0)⟩:V)
theorem agP(s:LI0)(c w:Int):aU (gKc s c w) (uM s) 0 []=su s c w:=by have:=bU (g:=gKc s c w) (m:=uM s) (k:=0) (s:=[]) (fun k l=>l=(List.range k).map fun(k:Nat)=>(⟨0,i64.wrap (w+(mg s k).getD c.toNat 0)⟩:V)) rfl (fun j l _ _ e=>by rw[gKc,e,abX,a4s];rfl);rw[a3I]at this;exact this
theorem lKc{n:Nat}(hO:Ok n agO){s o:LI0}(h:ng s){c w:Int}(hc:fF c s.length):Lp n 60 0 (wKc s o c w [] 0 []) (.exit 0) (wKc s o c w (su s c w) (uM s) [(14,xl false)]):=by
 obtain⟨c1,c2,_⟩:=Qn h;rw[<-agP s c w];refine vM (σ:=List V) (N:=uM s) (g:=gKc s c w) (s0:=[]) (st:=fun i y=>wKc s o c w y i []) (fin:=fun y=>wKc s o c w y (uM s) [(14,xl false)]) (fun k y=>y.length<=k) (by kernel_rfl) (by unfold ah;omega) (a0E 0) (fun j y hj hy=>by rw[gKc,a1o,a3j];omega) (fun j y hj hy m e p g9=>?_) (fun y _=>?_)
 .have t1:decide ((j:Int)<xg s)=true:=by rw[c1];exact bF hj
  have h2:y.length+[(⟨0,i64.wrap (w+(mg s j).getD c.toNat 0)⟩:V)].length<=ah:=by simp only[a3j];unfold ah;omega
  have i1:fF c (mg s (j:Int)).length:=by rw[OX];exact hc
  exact aN hO (.o h.UW (.b t1 (.o h.UW (.o h.sz (.o (show(0:Int)<=(j:Int) by omega) (.o (show(j:Int)<2^62 by omega) (.o i1 (.o h2 (.goG [.gc [2]] g9)))))))))
 have t1:decide (((uM s:Nat):Int)<xg s)=false:=by rw[c1];exact fH _
 exact aN hO (.o h.UW (.b t1 .ex))
theorem agQ{s o:LI0}(hf:ng s)(ho:iG s.length o=true){l:List V}(hl:l.length=uM s):PtP s o l∧o.length<=6∧wO s o<=ah:=by obtain⟨⟨a1,a2,a3,a4,a5⟩,q2,q3⟩:=a2t hf ho V0;rw[a7h]at a3;exact⟨⟨a1,a2,by rw[hl];exact a3,a4,a5⟩,q2,q3⟩
def alY:fB aC:=cu 60 (a4 oh oh iA iA) dA (fun p=>jD p.1 p.2.1 (su p.1 p.2.2.1 p.2.2.2)) (fun p=>[ng p.1,iG p.1.length p.2.1=true,fF p.2.2.1 p.1.length]) agO
theorem ar9:Gd alY:=ar8.add fun n hO p hp=>by obtain⟨s,o,c,w⟩:=p;have hf:ng s:=hp _ iD;have ho:iG s.length o=true:=hp _ xM;have hc:fF c s.length:=hp _ hh2;have lp:=lKc (n:=n) hO (o:=o) hf (w:=w) hc;obtain⟨q1,q2,q3⟩:=agQ hf ho (l:=su s c w) (by simp[su]);exact aO hO (.wG [.FZ 9 39] lp (.o q1 (.o q2 (.o q3 .rr))))
open Go Tw Pv dB
theorem a8R{d:Dg}{p:LI0}{F:Nat}{r:Int}:PK d p (F+1) r=if r<0 then r else PK d p F ((aj d r).ay.getD (p.getD (aj d r).var.toNat 0).toNat 0):=rfl
theorem TP{s o:LI0}{c w:Int}{z:Nat}(h:ChP s o c w z){q:LI0}(hq:jf s q=true):Ci (JZ s o c w z) q=(⟨0,i64.wrap (w+q.getD c.toNat 0)⟩:V):=by
 obtain⟨c0,c1⟩:=h.ic;have hz:=h.z12;have hr:=(ny.1 hq).2 c.toNat (by omega);rw[h.ez]at hr;obtain⟨j,hj⟩:∃j:Nat,q.getD c.toNat 0=(j:Int):=⟨(q.getD c.toNat 0).toNat,by omega⟩;rw[hj]at hr ⊢;have hjz:j<z:=by omega
 have e1:atR (JZ s o c w z) q=-1-(j:Int):=by
  have a1:PK (JZ s o c w z) q 6001 0=PK (JZ s o c w z) q 6000 (-1-(j:Int)):=by rw[a8R (F:=6000),a0q (by omega)];show PK (JZ s o c w z) q 6000 ((chK z).getD (q.getD c.toNat 0).toNat 0)=_;rw[hj,show((j:Int)).toNat=j by omega,VF h hjz]
  have a2:PK (JZ s o c w z) q 6000 (-1-(j:Int))=-1-(j:Int):=by rw[a8R (F:=5999),a0u (by omega)]
  show PK (JZ s o c w z) q 6001 0=_;rw[a1,a2]
 unfold Ci;rw[e1,(DV (k:=j) (by omega)).2,show((j:Int)).toNat=j by omega];show(Yr w z).getD j V0=_;unfold Yr;rw[a4p,a4y,ae2 hjz];rfl
theorem a4o{s o:LI0}{c w:Int}{z:Nat}(h:ChP s o c w z):vO (JZ s o c w z)=(jD s o (su s c w),0):=by
 have h1:=a4m h;have hr:=adQ h;obtain⟨bI,ord⟩:=iM.1 h.f;have hz:=h.z12;have hl:=bI.len;have LQ:o.length=s.length:=by unfold iG at ord;rw[a1n]at ord;exact ord.1
 have he:(JZ s o c w z).aK.length<=12:=by show(Yr w z).length<=12;rw[VE];exact hz
 have e:=Eu hr (by unfold ah;omega);rw[h1]at e;have hf:¬(aV (JZ s o c w z).aA (JZ s o c w z).aH != 0)=true:=by show ¬(aV s o != 0)=true;rw[h.f];simp
 rw[a0q hf]at e;have ec:cellsD (JZ s o c w z)=su s c w:=by unfold cellsD su;refine a4V fun k _=>?_;exact TP h (wu (k:Int) bI.sz)
 unfold vO;rw[e];show(dW (JZ s o c w z),(0:Int))=_;rw[(Iw h1 (by show o.length<=ah;unfold ah;omega) (by unfold ah;omega)).1,ec];rfl
open Go Tw Pv dB
theorem agR{d:Dg}{F:Nat}{r:Int}{x:Cs}(h:r<0):bV d (F+1) r x=(i64.wrap (-1-(x.e.idxOf (oq d r):Nat)),⟨fC x.e (oq d r),x.n,x.k⟩):=by rw[bV,a0u (by simpa using h)]
theorem Yu(s o:LI0)(v:V):dW (cDg s o v)=cDg s o v:=by
 have e2:oq (cDg s o v) (-1)=v:=by
  show [v].getD (ji (-1)).toNat V0=v;have:ji (-1)=0:=by decide
  rw[this];rfl
 have e:bV (cDg s o v) 6002 (-1) YD=(-1,⟨[v],[],[]⟩):=by rw[agR (F:=6001) (by decide),e2];rfl
 unfold dW;rw[show(cDg s o v).root=-1 from rfl,e]
theorem a8S{s o:LI0}(hf:aV s o=0){v:V}(hv:Gs v):cDg s o v=jD s o (List.replicate (uM s) v):=by
 obtain⟨bI,ord⟩:=iM.1 hf;have hl:=bI.len;have LQ:o.length=s.length:=by unfold iG at ord;rw[a1n]at ord;exact ord.1
 have h1:aZ (cDg s o v)=0:=Ez (by show 1<=ah;unfold ah;omega) (by show(aV s o != 0)=false;rw[hf];rfl) (fun x hx=>by rw[a2D.1 hx];exact hv.1) (by show 0<=6000;omega) ⟨fun i hi=>absurd hi (ah5 _),fun i hi=>absurd hi (ah5 _),fun i hi=>absurd hi (ah5 _)⟩ ⟨fun _=>by
  have:ji (-1)=0:=by decide
  show fF (ji (-1)) 1;rw[this];exact⟨by omega,by omega⟩,by show(-1:Int)<0;omega,a4G _⟩
 have e:=(Iw h1 (by show o.length<=ah;unfold ah;omega) (by show 1<=ah;unfold ah;omega)).1;rw[Yu]at e;have ec:cellsD (cDg s o v)=List.replicate (uM s) v:=by
  refine(List.eq_replicate_iff).2 ⟨a0l _,fun x hx=>?_⟩;obtain⟨k,_,rfl⟩:=a1k.1 hx;have a1:PK (cDg s o v) (mg s (k:Int)) 6001 (-1)=-1:=by rw[a8R (F:=6000),a0u (by omega)]
  show [v].getD (ji (PK (cDg s o v) (mg s (k:Int)) 6001 (-1))).toNat V0=v;rw[a1];have:ji (-1)=0:=by decide
  rw[this];rfl
 rw[ec]at e;exact e
open Go Tw Pv dB
abbrev atA:Arg (Int×Int):=a3k (a2 iA iA)
abbrev hiC(s:LI0)(c:Int):Int:=i64.wrap (i64.wrap (9999-s.getD c.toNat 0)+1)
abbrev HW4(s o:LI0)(v:V):Prop:=((vP s o v).2 != 4)=false∧Qm (vP s o v).1∧(!(LK (vP s o v).1 mG))=false
abbrev HW0(s o:LI0)(v:V):Prop:=(aV s o != 0)=false∧(aV s o==0)=true∧agN (s,o,v)∧Qm (vP s o v).1∧(!(if((vP s o v).2==0)=true then LK (vP s o v).1 (jD s o (List.replicate (uM s) v))else false))=false
abbrev HE3(s o:LI0)(c w:Int):Prop:=((kM (s,o,c,w)).2==3)=true∧Qm (kM (s,o,c,w)).1∧LK (kM (s,o,c,w)).1 mG=true
abbrev HE0(s o:LI0)(c w:Int):Prop:=(aV s o != 0)=false∧ng s∧iG s.length o=true∧fF c s.length∧Qm (kM (s,o,c,w)).1∧(if((kM (s,o,c,w)).2==0)=true then LK (kM (s,o,c,w)).1 (jD s o (su s c w))else false)=true
section
variable {R:Option (PV aC)->Prop} {an:PT aC} {q:OT (Option (PV aC))} {s o:LI0} {v:V} {c w:Int}
def agS(h:HW4 s o v)(t:Fp R an q):=PLift.up (Fp.b (rfl:((4:Int) != 0)=true) (Fp.b h.1 (Fp.o h.2.1 (Fp.b h.2.2 (Fp.b (rfl:((4:Int)==0)=false) t)))))
def agT(h:HW0 s o v)(t:Fp R an q):=PLift.up (Fp.b h.1 (Fp.b h.2.1 (Fp.o h.2.2.1 (Fp.o h.2.2.2.1 (Fp.b h.2.2.2.2 t)))))
def abH(h:HE3 s o c w)(t:Fp R an q):=PLift.up (Fp.b (rfl:((3:Int) != 0)=true) (Fp.b h.1 (Fp.o h.2.1 (Fp.b h.2.2 t))))
def alZ(h:HE0 s o c w)(t:Fp R an q):=PLift.up (Fp.b h.1 (Fp.o h.2.1 (Fp.o h.2.2.1 (Fp.o h.2.2.2.1 (Fp.o h.2.2.2.2.1 (Fp.b h.2.2.2.2.2 t))))))
end
theorem a8T{s o:LI0}(h:VG s o=true):s.length<=8∧o.length<=8:=by
 unfold VG at h;split at h
 .cases h
 rename_i c;split at h
 .cases h
 rename_i c2;simp at c c2;omega
def ara:fB aC:=cu 11 (a3 dA vA atA) tA (fun _=>true) (fun p=>[0<=p.2.1.f]) alY
theorem arb:Gd ara:=ar9.add fun n hO p hp=>by
 obtain⟨⟨s,o,E,N,r⟩,v,c,w⟩:=p;have hv0:0<=v.f:=hp _ iD;cases ht:(!(VG s o))
 .obtain⟨h1,h2⟩:=a8T (s:=s) (o:=o) (by simpa using ht);have l1:s.length<=ah:=by unfold ah;omega
  have l2:o.length<=ah:=by unfold ah;omega
  have l3:o.length<=2^20:=by omega
  have ev:kL v=if(!(YC v))=true then 2 else 0:=by unfold kL;rw[a0m]
  have pre:=fun{R:Option (PV aC)->Prop} {an:PT aC} {q:OT (Option (PV aC))} (t:Fp R an q)=>Fp.b ht (Fp.o l1 (Fp.o l2 (Fp.o l1 (Fp.o l3 (Fp.o l1 (Fp.o l2 (Fp.o l1 (Fp.o l3 (Fp.o l2 t)))))))));have qc:kM (s,o,c,w)=if(aV s o != 0)=true then(mG,aV s o)else if(!(jq c 0 (i64.wrap ((s.length:Int)-1))))=true then(mG,3)else if(!(jq w (-9999) (hiC s c)))=true then(mG,3)else vO (JZ s o c w (s.getD c.toNat 0).toNat):=by unfold kM;rw[Nq,Nq]
  cases e0:(aV s o==0)
  .have e2:(aV s o != 0)=true:=by show(!(aV s o==0))=true;rw[e0];rfl
   have q1:vP s o v=(mG,aV s o):=by unfold vP;rw[a0u e2]
   rw[a0u e2]at qc;have t1:((vP s o v).2 != aV s o)=false:=by rw[q1];simp
   have t2:Qm (vP s o v).1:=by rw[q1];exact a8Q
   have t3:(!(LK (vP s o v).1 mG))=false:=by rw[q1,xK];rfl
   have u1:((kM (s,o,c,w)).2==aV s o)=true:=by rw[qc];exact beq_self_eq_true _
   have u2:Qm (kM (s,o,c,w)).1:=by rw[qc];exact a8Q
   have u3:LK (kM (s,o,c,w)).1 mG=true:=by rw[qc];exact xK _
   exact aO hO (pre (.b e0 (.b e0 (.b e2 (.b t1 (.o t2 (.b t3 (.b e0 (.b e2 (.b u1 (.o u2 (.b u3 .rr))))))))))))
  .have h0:aV s o=0:=(by simpa using e0);have e2:(aV s o != 0)=false:=by rw[h0];rfl
   obtain⟨bI,ord⟩:=iM.1 h0;rw[a0q (by rw[e2];simp)]at qc;have hE:(HE3 s o c w∧((!(jq c 0 (i64.wrap ((s.length:Int)-1))))=true∨((!(jq c 0 (i64.wrap ((s.length:Int)-1))))=false∧fF c s.length∧(!(jq w (-9999) (hiC s c)))=true)))∨(HE0 s o c w∧(!(jq c 0 (i64.wrap ((s.length:Int)-1))))=false∧fF c s.length∧(!(jq w (-9999) (hiC s c)))=false):=by
    cases i1:(!(jq c 0 (i64.wrap ((s.length:Int)-1))))
    .have hc:fF c s.length:=a0g (by rw[Nq];exact i1) l1;rw[a0q (by rw[i1];simp)]at qc;cases i2:(!(jq w (-9999) (hiC s c)))
     .rw[a0q (by rw[i2];simp)]at qc;have hC:=a8I (s:=s) (o:=o) (c:=c) (w:=w) e2 hc (by rw[Nq];exact i2);have q9:=a4o hC;have hD:DgF (jD s o (su s c w)):=a8P ⟨bI,ord,by rw[show(su s c w).length=uM s by simp[su]];exact bI.a6F⟩ (by
       rw[show su s c w=cellsD (JZ s o c w (s.getD c.toNat 0).toNat) by unfold cellsD su;exact a4V fun k _=>(TP hC (wu (k:Int) bI.sz)).symm]
       exact a8O (a0j hC))
      refine .inr ⟨⟨e2,bI,ord,hc,by rw[qc,q9];exact hD.f,?_⟩,rfl,hc,rfl⟩;rw[qc,q9];exact xK _
     .rw[a0u i2]at qc;exact .inl ⟨⟨by rw[qc];rfl,by rw[qc];exact a8Q,by rw[qc];exact xK _⟩,.inr ⟨rfl,hc,rfl⟩⟩
    .rw[a0u i1]at qc;exact .inl ⟨⟨by rw[qc];rfl,by rw[qc];exact a8Q,by rw[qc];exact xK _⟩,.inl rfl⟩
   cases ec:(!(YC v))
   .have hv:Gs v:=⟨by simpa using ec,hv0⟩;have q1:vP s o v=(cDg s o v,0):=by unfold vP;rw[a0q (by rw[e2];simp),ev,a0q (by rw[ec];simp)]
    have hD:DgF (jD s o (List.replicate (uM s) v)):=a8P ⟨bI,ord,by rw[a7h];exact bI.a6F⟩ (fun x hx=>by rw[List.eq_of_mem_replicate hx];exact hv);have eq:=a8S h0 hv;have hW:HW0 s o v:=⟨e2,e0,⟨bI,ord⟩,by rw[q1];show Qm (cDg s o v);rw[eq];exact hD.f,by
     rw[q1];show(!(LK (cDg s o v) (jD s o (List.replicate (uM s) v))))=false;rw[eq,xK];rfl⟩
    rcases hE with⟨hE,i1|⟨i1,i3,i2⟩⟩|⟨hE,i1,i3,i2⟩
    .refine aO hO (pre (.b e0 (.b ec (.b e0 (.b i1 (dn <|agT hW (dn <|abH hE .rr)))))))
    .refine aO hO (pre (.b e0 (.b ec (.b e0 (.b i1 (.o i3 (.b i2 (dn <|agT hW (dn <|abH hE .rr)))))))))
    .refine aO hO (pre (.b e0 (.b ec (.b e0 (.b i1 (.o i3 (.b i2 (dn <|agT hW (dn <|alZ hE .rr)))))))))
   .have q1:vP s o v=(mG,4):=by unfold vP;rw[a0q (by rw[e2];simp),ev,a0u ec,a0u (by decide)]
    have hW:HW4 s o v:=⟨by rw[q1];rfl,by rw[q1];exact a8Q,by rw[q1,xK];rfl⟩;rcases hE with⟨hE,i1|⟨i1,i3,i2⟩⟩|⟨hE,i1,i3,i2⟩
    .refine aO hO (pre (.b e0 (.b ec (.b e0 (.b i1 (dn <|agS hW (dn <|abH hE .rr)))))))
    .refine aO hO (pre (.b e0 (.b ec (.b e0 (.b i1 (.o i3 (.b i2 (dn <|agS hW (dn <|abH hE .rr)))))))))
    .refine aO hO (pre (.b e0 (.b ec (.b e0 (.b i1 (.o i3 (.b i2 (dn <|agS hW (dn <|alZ hE .rr)))))))))
 .exact aO hO (.b ht .rr)
open Go Tw Pv
section
variable {H:Type} {kD:LI2×LI3->H} {w:LI4}
abbrev RdX(kD:LI2×LI3->H)(w:LI4)(g t:Nat){α:Type}(ps:α->List (PV aC))(Q:α->Prop):Prop:=RdP kD X0 Tryz.prog w g t ps Q
theorem Yv:Tryz.prog.cellsOf 3=1:=by kernel_rfl
theorem ard:Tryz.prog.cellsOf 5=1:=by kernel_rfl
theorem adU:Tryz.prog.cellsOf 39=2:=by kernel_rfl
theorem zI0:dH Tryz.prog 3=some 1:=by kernel_rfl
theorem a8U{g:Nat}:RdX kD w (g+1) 3 (fun n:Int=>[.int .i64 n]) (fun n=>(Lit.int .i64 n).wf=true):=a1D Tryz.underlying3
theorem rU8{g:Nat}:RdX kD w (g+1) 5 (fun n:Int=>[.int .u8 n]) (fun n=>0<=n∧n<=255):=(a1D Tryz.underlying5).iso id (fun _=>rfl) fun n h=>by simp only[Lit.wf,a2f,a1n]at h;exact h
theorem a8V{g:Nat}:RdX kD w (g+2) 22 (fun l:LI0=>[lI l]) (fun l=>∀a∈l,(Lit.int .i64 a).wf=true):=Pn (e:=3) Tryz.underlying22 Yv zI0 (by decide) (fun _=>rfl) a8U
theorem am0{g:Nat}:RdX kD w (g+2) 39 V.ps (fun v=>0<=v.f∧v.f<=255):=
 (Gf Tryz.underlying39 adU (fun _=>rfl) (o9 rfl ard (fun _=>rfl) rU8 (o9 rfl Yv (fun _=>rfl) a8U N9))).iso (fun x=>⟨x.1,x.2.1⟩) (fun _=>rfl) fun _ h=>h.1
theorem am1:dH Tryz.prog 39=some 2:=by kernel_rfl
theorem am2{g:Nat}:RdX kD w (g+3) 23 (fun l:List V=>[lV l]) (fun l=>∀v∈l,0<=v.f∧v.f<=255):=Pn (e:=39) Tryz.underlying23 adU am1 (by decide) (fun _=>rfl) am0
theorem agU:Tryz.prog.cellsOf 22=1:=by kernel_rfl
end
open Go Tw Pv dB
section
variable {H:Type} {kD:LI2×LI3->H} {w:LI4}
theorem am3:Tryz.prog.cellsOf 105=2:=by kernel_rfl
theorem arf:dH Tryz.prog 105=some 2:=by kernel_rfl
theorem am4:Tryz.prog.cellsOf 24=1:=by kernel_rfl
theorem arh:Tryz.prog.cellsOf 23=1:=by kernel_rfl
theorem ari:Tryz.prog.cellsOf 26=5:=by kernel_rfl
theorem rBr{g:Nat}:RdX kD w (g+3) 105 Br.ps (fun b=>∀a∈b.ay,(Lit.int .i64 a).wf=true):=
 (Gf Tryz.underlying105 am3 (fun _=>rfl) (o9 rfl Yv (fun _=>rfl) a8U (o9 rfl agU (fun _=>rfl) a8V N9))).iso (fun x=>⟨x.1,x.2.1⟩) (fun _=>rfl) fun _ h=>h.2.1
theorem arj{g:Nat}:RdX kD w (g+4) 24 (fun l:List Br=>[lBr l]) (fun l=>∀b∈l,∀a∈b.ay,(Lit.int .i64 a).wf=true):=Pn (e:=105) Tryz.underlying24 am3 arf (by decide) (fun _=>rfl) rBr
theorem a8W{a:Int}(h:(Lit.int .i64 a).wf=true):Gi a:=by
 simp only[Lit.wf,a2f,a1n]at h;obtain⟨h1,h2⟩:=h;have e1:i64.min=-(2^63):=by decide
 have e2:i64.max=2^63-1:=by decide
 exact⟨by omega,by omega⟩
theorem rDg{g:Nat}:RdX kD w (g+5) 26 Dg.ps Na:=
 (Gf Tryz.underlying26 ari (fun _=>rfl) (o9 rfl agU (fun _=>rfl) a8V (o9 rfl agU (fun _=>rfl) a8V (o9 rfl arh (fun _=>rfl) am2 (o9 rfl am4 (fun _=>rfl) arj (o9 rfl Yv (fun _=>rfl) a8U N9)))))).iso (fun x=>⟨x.1,x.2.1,x.2.2.1,x.2.2.2.1,x.2.2.2.2.1⟩) (fun _=>rfl) fun x h=>by
  obtain⟨_,_,h3,h4,h5,_⟩:=h;refine⟨fun i hi k hk=>?_,a8W h5,fun v hv=>(h3 v hv).1⟩;have hb:fE ⟨x.1,x.2.1,x.2.2.1,x.2.2.2.1,x.2.2.2.2.1⟩ i∈x.2.2.2.1:=by show(x.2.2.2.1).getD i kW∈_;rw[List.getD,a0n hi];exact a4D _
  refine a8W (h4 _ hb _ ?_);rw[List.getD,a0n hk];exact a4D _
end
open Go Tw Pv dB
section
variable {H:Type} {kD:LI2×LI3->H} {w:LI4}
theorem ark:Tryz.prog.cellsOf 81=2:=by kernel_rfl
theorem a8X{X:kP}{P:LI1}{g e n:Nat}{α:Type}{p1:α->List (PV X.Γ)}{Q1:α->Prop}(hc:P.cellsOf e=n)(hn:∀a,(p1 a).length=n)(h1:RdP kD X P w g e p1 Q1):RdF kD X P w g 0 (WO P 2 e) (fun x:α×α×Unit=>p1 x.1++(p1 x.2.1++[])) (fun x=>Q1 x.1∧Q1 x.2.1∧True):=by
 have h := o9 (f := ⟨"", e, 0 * P.cellsOf e, false, "", "", 0⟩) (o := 0) (abR _) hc hn h1 (o9 (f := ⟨"", e, 1 * P.cellsOf e, false, "", "", 0⟩) (o := 0 + n) (by show 1 * P.cellsOf e = 0 + n; rw [hc]; omega) hc hn h1 N9);exact h
theorem rA2{g:Nat}:RdX kD w (g+2) 81 (fun p:Int×Int=>[.int .i64 p.1,.int .i64 p.2]) (fun _=>True):=
 RdP.iso (a3x (g:=g+1) (e:=3) (k:=2) Tryz.underlying81 ark (fun _=>rfl) (a8X Yv (fun _=>rfl) a8U)) (fun x=>(x.1,x.2.1)) (fun _=>rfl) fun _ _=>trivial
end
open Go.ChangeShapes Go.WideShapes Go.ChangeAt Go.RowKit
theorem Tryz.own:ownKnob Tryz.prog.godebug=none:=by kernel_rfl
theorem Tryz.laidOut:laidOutB Tryz.prog=true:=by kernel_rfl
theorem Tryz.mixed:Tryz.prog.follows .mixedOrders=true:=by kernel_rfl
theorem agV:iH Tryz.prog T.ext:=by
 show iH Tryz.prog afl;intro fv args h v h' ws hc;unfold afl at hc;split at hc
 .split at hc
  .exact aad (Zj (T:=Tm) Tryz.mixed (fun _ _ _ _ _ _ h=>by cases h) 2) _ _ _ _ _ _ hc
  exact Xp acj _ _ _ _ _ _ hc
 exact Xp acj _ _ _ _ _ _ hc
theorem Tryz.tys11:Tryz.f11.params.toList=[26,39,81]:=by kernel_rfl
set_option maxRecDepth 100000 in
theorem Ko(os:Os)(started:os.Started)(H:Type)(enc:LI2×LI3->H) :
  ReturnsInHanded {} Tryz.checked os 11 .any (Rows.applyLeafSpec.pre6 enc Tryz.prog Tryz.f11 Rows.applyLeafRow.domain false) (Rows.applyLeafSpec.post enc Tryz.prog Tryz.f11 false true false false):=by
 refine returnsInHanded_of_change (C:=Tryz.checked) Tryz.own started (by kernel_rfl) Tryz.func11
  (ChangeSpec.witness6 (enc:=enc) (C:=Tryz.checked) false ⟨#[],#[.agg #[.slice none 0 0,.slice none 0 0,.slice none 0 0,.slice none 0 0,.int .i64 0],.agg #[.int .u8 0,.int .i64 0],.agg #[.int .i64 0,.int .i64 0]],[]⟩ 8 (by kernel_rfl) (by kernel_rfl) (by kernel_rfl) (by kernel_rfl)) ?_
 intro W base args ds gs before am5 hW avQ _;have WS:∀(j:Nat) t v,Tryz.f11.params[j]? = some t->args[j]? = some v->Value.okWide Tryz.prog W .any base t v:=am5;have hW':=hW;obtain⟨p,q,arl,hV,rfl,hfz,jG⟩:=hW;have hTA:DataW.TrodAll enc Tryz.prog W 0 (fun _=>true) true Tryz.f11.params.toList args.toList ds p:=arl;obtain⟨rfl,rfl⟩:=trodVars_none hV;rw[Tryz.tys11]at hTA;obtain⟨d0,_,rfl,r0,_,_,hTA⟩:=Jt hTA;obtain⟨d1,_,rfl,r1,_,_,hTA⟩:=Jt hTA;obtain⟨d2,_,rfl,r2,_,_,hTA⟩:=Jt hTA;obtain⟨_,rfl,_⟩:=trodAll_nil hTA;obtain⟨a0,q0,h0⟩:=rDg (g:=2) d0 r0;obtain⟨a1,q1,h1⟩:=am0 (g:=5) d1 r1;obtain⟨a2,q2,h2⟩:=rA2 (g:=5) d2 r2;obtain⟨x0,e0,g0,v0⟩:=h0 ([]);obtain⟨x1,e1,g1,v1⟩:=h1 ([]++e0);obtain⟨x2,e2,g2,v2⟩:=h2 ([]++e0++e1);have w0:=v0 (e1++e2);simp only[a5d,a9c,a5F]at w0;have w1:=v1 (e2);simp only[a5d,a9c,a5F]at w1;have w2:=v2 ([]);simp only[a5d,a9c,a5F]at w2;obtain⟨N,hN⟩:=arb;have arn:=hN (N+1) (by omega) 11 ((Pv.a3 dA vA atA).put (a0,a1,a2)) (tA.put true) [] [0<=a1.f] rfl (by intro p hp;simp only[a1F,List.not_mem_nil,or_false]at hp;subst hp;exact q1.1)
 obtain⟨h',hr⟩:=afh (h:=[]++e0++e1++e2) arn (by simp only[a5d,a9c,a5F];exact .cons (.agg w0.1 w0.2) (.cons (.agg w1.1 w1.2) (.cons (.agg w2.1 w2.2) .nil)));exact Zk (P:=Tryz.prog) (T:=T) (L:=LL) (n:=N) (g:=7) Tryz.mixed Tryz.laidOut rfl rfl (by kernel_rfl) Tryz.underlying4 (by kernel_rfl) hW' WS
  (by rw[Tryz.tys11];exact(ZU (by kernel_rfl) g0 (ZU (by kernel_rfl) g1 (ZU (by kernel_rfl) g2 afg)))) agV (by kernel_rfl) (by kernel_rfl) hr
theorem Kq:joinedFacts Tryz.pinned.checked.prog 11 Tryz.f11 Rows.applyLeafSpec Rows.applyLeafRow=true:=by kernel_rfl
theorem ApplyLeaf_holds:Rows.ApplyLeafSaid:=
 OpenClaim.holds_of_wide 11 Tryz.f11 rfl rfl rfl rfl rfl rfl rfl ⟨rfl,rfl,rfl,rfl,rfl⟩ rfl rfl rfl rfl rfl (by kernel_rfl) Tryz.func11 Kq
  (a81 (by kernel_rfl)) (by unfold Func.isWrapper;first|(rw[a0u (by decide +kernel)];kernel_rfl)|(rw[a0q (by decide +kernel)];exact⟨rfl,rfl⟩))
  (fun os started H enc _=>Ko os started H enc)
end Go.Proofs.YtmobpoiejckagaaGreat
