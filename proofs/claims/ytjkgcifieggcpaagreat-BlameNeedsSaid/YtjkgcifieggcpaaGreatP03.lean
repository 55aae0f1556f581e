/- Part 4 of a proof: closed runs of the given program, and the readings of its code that they use. -/
import Derived.Shelf.Spec.SlicesInsert
import Derived.Shelf.Spec.SlicesInsertGrow
import Derived.Shelf.Sort.Plain
import Derived.Shelf.Slices.In.SortNone
import Derived.Test.YtjkgcifieggcpaaGreatProg
import Derived.KernelRfl
import Derived.Test.YtjkgcifieggcpaaGreatP02
set_option linter.constructorNameAsVariable false
set_option linter.unusedVariables false
set_option linter.unusedSimpArgs false
set_option linter.unusedSectionVars false
namespace Pv
open Go Tw
section
variable {X:gZ} {P:Program} {T:Tab} {A W:Nat→Prop} {m m':List MB}
variable {call:ay} {jG:gK X.Γ} {ρ:Type} {y:ρ}
theorem SR.know {fl:Nat} {ps:aP X.Γ} {ts:St} (hS:SR X P A W fl m ps ts) {x:Operand} {b:Bool} (hb:jP ts.env x=some (.bool b)):SR X P A W fl m (ps.know x b) ts:=⟨hS.st.know hb,hS.own,hS.ws,hS.fl⟩
theorem lS.put {ps:aP X.Γ} {ts:St} (hR:lS X P A m ps ts) {d:Option Nat} {pe:PE X.Γ} {ev:EV} (h:PER X P (AA A m) m ts.heap pe ev):lS X P A m (ps.put d pe) (ts.put d ev):=by
 cases d with
 | none=>exact hR
 | some d=>exact⟨hR.heap,hR.llen,hR.loc,.cons h hR.env⟩
theorem ng {ts:St} {d:Option Nat} {ev:EV}:(ts.put d ev).heap=ts.heap∧(ts.put d ev).ws=ts.ws:=by cases d<;>exact⟨rfl,rfl⟩
theorem GK {H:List (PB X.Γ)} {h:List HB} (hr:HR X P A m H h) {i:Nat} {b:PB X.Γ} (hb:H[i]? = some b):jf b=true↔m[i]? = some .gone:=by
 obtain⟨mb,h1,h2⟩:=hr.at_ i b hb
 cases b with
 | gone=>
  cases mb with
  | gone=>exact⟨fun _=>h1,fun _=>rfl⟩
  | _=>exact h2.elim
 | cells cs=>cases mb with
  | gone=>exact h2.elim
  | _=>simp[jf,h1]
 | eu cs=>cases mb with
  | gone=>exact h2.elim
  | _=>simp[jf,h1]
 | list k ex t l=>cases mb with
  | gone=>exact h2.elim
  | _=>simp[jf,h1]
 | map es=>cases mb with
  | gone=>exact h2.elim
  | _=>simp[jf,h1]
 | mark=>cases mb with
  | gone=>exact h2.elim
  | _=>simp[jf,h1]
 | oH=>cases mb with
  | gone=>exact h2.elim
  | _=>simp[jf,h1]
 | rP=>cases mb with
  | gone=>exact h2.elim
  | _=>simp[jf,h1]
 | aV=>cases mb with
  | gone=>exact h2.elim
  | _=>simp[jf,h1]
 | loop=>cases mb with
  | gone=>exact h2.elim
  | _=>simp[jf,h1]
theorem yE:∀ {H H1:List (PB X.Γ)},mV H H1=true→∀ {i:Nat} {b:PB X.Γ},H[i]? = some b→∃ b1,H1[i]? = some b1∧jf b=jf b1
 | [],H1,_,i,b,hi=>by simp at hi
 | a::H,[],h,i,b,hi=>by simp[mV] at h
 | a::H,a1::H1,h,i,b,hi=>by
  simp only[mV,Bool.and_eq_true,beq_iff_eq] at h
  cases i with
  | zero=>simp only[List.getElem?_cons_zero,Option.some.injEq] at hi;subst hi;exact⟨a1,rfl,h.1⟩
  | succ i=>obtain⟨b1,e1,e2⟩:=yE h.2 (i:=i) (by simpa using hi);exact⟨b1,by simpa using e1,e2⟩
theorem Wv {H H1:List (PB X.Γ)} {h h1:List HB} {m1:List MB} (hr:HR X P A m H h) (hr1:HR X P A m1 H1 h1) (hs:(!mV H H1)=false):∀ (i:Nat),i<m.length→m1[i]? = some .gone→m[i]? = some .gone:=by
 intro i hi hg
 have hi':i<H.length:=by rw[←hr.len];exact hi
 have hb:=List.getElem?_eq_getElem hi'
 obtain⟨b1,e1,e2⟩:=yE (by simpa using hs) hb
 have:=(GK hr1 e1).2 hg
 rw[←e2] at this
 exact (GK hr hb).1 this
theorem yY {fl:Nat} {ops:Array Oper} {ps:aP X.Γ} {ts:St} (hS:SR X P A W fl m ps ts) {o:Oper} {an:PT X.Γ} {k:Bool→aP X.Γ→PT X.Γ→OT ρ} (hk:(Jb X ops ps o an k).Ends y) :
  ∃ w ps1 yC,oD ops ts.env o=some w∧SR X P A W fl m ps1 ts∧(k w ps1 yC).Ends y∧ps1.heap=ps.heap:=by
 unfold Jb at hk
 unfold oD
 split at hk
 ·rename_i hg
  exact⟨true,ps,an,by simp only[hg],hS,hk,rfl⟩
 ·rename_i j want hg
  simp only[hg]
  split at hk
  ·rename_i d hd
   simp only[hd]
   split at hk
   ·rename_i b hb
    obtain⟨ev,h1,h2⟩:=iq hS.st.env hb
    obtain⟨tv,rfl,h3⟩:=bK h2
    obtain⟨t,yC,rfl,hk⟩:=Jh hk h3
    exact⟨t==want,_,yC,by simp only[h1],hS.know (x:=.tmp d) (by simp only[jP,xZ,h1]),hk,rfl⟩
   ·rename_i hb
    obtain⟨ev,h1,h2⟩:=iq hS.st.env hb
    have:=xg h2;subst this
    exact⟨false,ps,an,by simp only[h1],hS,hk,rfl⟩
   ·exact hk.elim
  ·exact hk.elim
theorem AB (hX:aT X P) (hO:jL X P call jG) {site:Nat→Bool} {fl nt:Nat} {ops:Array Oper}:∀ {os:List Oper} {m:List MB} {ps:aP X.Γ} {ts:St} {an:PT X.Γ} {k:aP X.Γ→List PI→PT X.Γ→OT ρ},SR X P A W fl m ps ts→(Gn X P jG (nH X P call) site nt ops os ps an k).Ends y →
  ∃ dD is YR ps1 yC m1,cZ P call site fl nt ops os ts=some (dD,is)∧(k ps1 YR yC).Ends y∧SR X P A W fl m1 ps1 dD∧Fr m ts.heap m1 dD.heap∧Up m m1∧UW m ts.heap YR is∧is.length=os.length
 | [],m,ps,ts,an,k,hS,hk=>⟨ts,[],[],ps,an,m,rfl,hk,hS,.refl,.refl,.nil,rfl⟩
 | o::os,m,ps,ts,an,k,hS,hk=>by
  simp only[Gn] at hk
  split at hk
  ·exact hk.elim
  ·rename_i hd
   obtain⟨w,ps1,yF,hw,hS1,hk,hh⟩:=yY hS hk
   cases w with
   | true=>
    simp only at hk
    obtain⟨pe,ps2,pi,UY,⟨ev,Nv,ti,m2,e1,e2,e3,e4,e5,e6,e7,e8,e9⟩,hk⟩:=Wi hX hO hS1.st hk
    have hS2:SR X P A W fl m2 (ps2.put o.dst pe) (({ Nv with ws:=bU fl ti.ws ts.ws }).put o.dst ev):=by
     refine⟨lS.put (ts:={ Nv with ws:=bU fl ti.ws ts.ws }) ⟨e4.heap,e4.llen,e4.loc,e4.env⟩ e5,fun b hb=>?_,fun b hb=>?_,?_⟩
     ·rcases e6.new b hb with h1 | h1
      ·exact hS.own b h1
      ·exact .inr (Nat.le_trans hS.fl h1)
     ·rw[ng.2] at hb
      rcases rE hb with h1 | ⟨h1,h2⟩
      ·exact hS.ws b h1
      ·rcases hS.own b (e9 b h1) with h3 | h3
       ·exact h3
       ·omega
     ·rw[ng.1];exact Nat.le_trans hS.fl e6.len
    obtain⟨ts3,is,YR,XF,an3,m3,g1,g2,g3,g4,g5,g6,g7⟩:=AB hX hO (os:=os) hS2 hk
    rw[ng.1] at g4 g6
    refine⟨ts3,ti::is,_,XF,an3,m3,?_,g2,g3,e6.trans g4,e7.trans g5,.cons hS.st.heap.nodup (fun b hb=>hS.st.heap.inb hb) ⟨e8.all,e8.tl,e8.wl,e8.wh,e8.th,e8.hp⟩ e6 e7 (Wv hS1.st.heap e4.heap) g6,by simp[g7]⟩
    simp only[cZ,hd,hw,e1,g1]
    rfl
   | false=>
    simp only at hk
    have hS2:SR X P A W fl m (ps1.put o.dst .undef) (ts.put o.dst .undef):=by
     refine⟨hS1.st.put trivial,hS.own,fun b hb=>?_,?_⟩
     ·rw[ng.2] at hb;exact hS.ws b hb
     ·rw[ng.1];exact hS.fl
    obtain⟨ts3,is,YR,XF,an3,m3,g1,g2,g3,g4,g5,g6,g7⟩:=AB hX hO (os:=os) hS2 hk
    rw[ng.1] at g4 g6
    refine⟨ts3,aA::is,_,XF,an3,m3,?_,g2,g3,g4,g5,.cons hS.st.heap.nodup (fun b hb=>hS.st.heap.inb hb) .none .refl .refl (fun _ i _ hg=>hg) g6,by simp[g7]⟩
    simp only[cZ,hd,hw,g1]
    rfl
def fO (X:gZ) (P:Program) (T:Tab) (call:ay) (L f:Nat) (dI:Bool) (nt B:Nat) (c:Code) (ps:aP X.Γ) (e:Ex) (ps1:aP X.Γ):Prop:=
 ∀ (A W:Nat→Prop) (fl:Nat) (m:List MB) (ts:St),SR X P A W fl m ps ts→∃ dD m1,exec P T call L f dI fl nt c ts=some (e,dD)∧SR X P A W fl m1 ps1 dD∧Fr m ts.heap m1 dD.heap∧CO B m m1
theorem lS.pick {ps:aP X.Γ} {ts:St} (hR:lS X P A m ps ts) (live:List Nat):lS X P A m { ps with env:=gG live ps.env } { ts with env:=Tw.pick live ts.env }:=
 ⟨hR.heap,hR.llen,hR.loc,EY hR.env live⟩
theorem SR.pick {fl:Nat} {ps:aP X.Γ} {ts:St} (hS:SR X P A W fl m ps ts) (live:List Nat):SR X P A W fl m { ps with env:=gG live ps.env } { ts with env:=Tw.pick live ts.env }:=⟨hS.st.pick live,hS.own,hS.ws,hS.fl⟩
theorem SR.head {fl:Nat} {ps:aP X.Γ} {ts:St} (hS:SR X P A W fl m ps ts) (live:List Nat):SR X P A W fl m (patHead X live ps) (dh live ts):=by
 have h1:=hS.pick live
 have ht:=VO h1.st.env
 refine⟨⟨h1.st.heap,?_,fun k cs hk=>?_,h1.st.env⟩,h1.own,h1.ws,h1.fl⟩
 ·simp only[patHead,dh,List.length_take]
  have:=h1.st.llen
  simp only at this ht
  omega
 ·simp only[patHead,dh] at hk ⊢
  rw[List.getElem?_take] at hk
  split at hk
  ·rename_i hlt
   obtain⟨cs',g1,g2⟩:=h1.st.loc k cs hk
   refine⟨cs',?_,g2⟩
   rw[List.getElem?_take,if_pos (by simp only at ht;omega)]
   exact g1
  ·cases hk
theorem zq {g:St→Option (Ex×St)}:∀ {k j:Nat} {s:St} {r:Ex×St},iter g k s=some r→k≤j→iter g j s=some r
 | 0,_,s,r,h,_=>by simp[iter] at h
 | k+1,j,s,r,h,hj=>by
  obtain⟨j,rfl⟩:∃ i,j=i+1:=⟨j-1,by omega⟩
  simp only[iter] at h ⊢
  split at h
  ·rename_i s1 hs;exact zq h (by omega)
  ·rename_i hn;exact h
section
variable {L f:Nat} {dI:Bool} {nt B:Nat}
theorem yZ (hX:aT X P) {c:Code} {A W:Nat→Prop} {fl:Nat} {m:List MB} {ps:aP X.Γ} {ts:St} {k:Ex→aP X.Γ→PT X.Γ→OT ρ} (hS:SR X P A W fl m ps ts):∀ {an:PT X.Γ},(mg X (fO X P T call L f dI nt B) B c ps k an).Ends y →
  ∃ e dD ps1 yC m1,exec P T call L f dI fl nt c ts=some (e,dD)∧(k e ps1 yC).Ends y∧SR X P A W fl m1 ps1 dD∧Fr m ts.heap m1 dD.heap∧CO B m m1:=by
 intro an
 induction an with
 | a x r=>
  intro hk
  cases x with
  | loop e s'=>
   simp only[mg] at hk
   obtain⟨hlo,hk⟩:=hk
   obtain⟨dD,m1,h1,h2,h3,h4⟩:=hlo A W fl m ts hS
   exact⟨_,dD,_,_,m1,h1,hk,h2,h3,h4⟩
  | lg gs e s'=>
   simp only[mg] at hk
   split at hk
   ·rename_i hgs
    obtain⟨hlo,hk⟩:=hk
    obtain⟨m0,e1,e2,e3⟩:=iy hX hgs A W fl m ts hS
    obtain⟨dD,m1,h1,h2,h3,h4⟩:=hlo A W fl m0 ts e1
    exact⟨_,dD,_,_,m1,h1,hk,h2,e2.trans h3,e3.trans h4⟩
   ·exact hk.elim
  | _=>simp only[mg] at hk;exact hk.elim
 | z c' a b iha ihb=>
  intro hk
  simp only[mg] at hk
  rcases hk with⟨_,hk⟩ | ⟨_,hk⟩
  ·exact iha hk
  ·exact ihb hk
 | _=>intro hk;simp only[mg] at hk;exact hk.elim
theorem jc (hX:aT X P) (hO:jL X P call jG):∀ (c:Code) {A W:Nat→Prop} {fl:Nat} {m:List MB} {ps:aP X.Γ} {ts:St} {an:PT X.Γ} {k:Ex→aP X.Γ→PT X.Γ→OT ρ},SR X P A W fl m ps ts→(eH X P T jG (nH X P call) (fO X P T call L f dI nt B) B L f dI nt c ps an k).Ends y →
  ∃ e dD ps1 yC m1,exec P T call L f dI fl nt c ts=some (e,dD)∧(k e ps1 yC).Ends y∧SR X P A W fl m1 ps1 dD∧Fr m ts.heap m1 dD.heap∧CO B m m1:=by
 intro c
 induction c with
 | skip=>intro A W fl m ps ts an k hS hk;exact⟨.norm,ts,ps,an,m,rfl,hk,hS,.refl,.refl⟩
 | label=>intro A W fl m ps ts an k hS hk;exact⟨.norm,ts,ps,an,m,rfl,hk,hS,.refl,.refl⟩
 | exit id=>intro A W fl m ps ts an k hS hk;exact⟨.exit id,ts,ps,an,m,rfl,hk,hS,.refl,.refl⟩
 | ret=>intro A W fl m ps ts an k hS hk;exact⟨.ret,ts,ps,an,m,rfl,hk,hS,.refl,.refl⟩
 | region id ops draw=>
  intro A W fl m ps ts an k hS hk
  simp only[eH] at hk
  obtain⟨dD,is,YR,ps1,yF,m1,g1,hk,g3,g4,g5,g6,g7⟩:=AB hX hO hS hk
  have fin:∀ {UY:PT X.Γ},(!draw||(dZ ops.toList&&jQ is (dK ops.toList)))=true→(k .norm { ps1 with env:=gG (T.eG f id) ps1.env } UY).Ends y→∃ e dD ps1 yC m1,exec P T call L f dI fl nt (.region id ops draw) ts=some (e,dD)∧(k e ps1 yC).Ends y∧SR X P A W fl m1 ps1 dD∧Fr m ts.heap m1 dD.heap∧CO B m m1:=by
   intro UY hc hk
   exact⟨.norm,{ dD with env:=Tw.pick (T.eG f id) dD.env },_,UY,m1,by simp only[exec,g1,hc,if_true],hk,g3.pick _,g4,g5.b⟩
  cases draw with
  | false=>exact fin rfl hk
  | true=>
   simp only at hk
   split at hk
   ·rename_i r
    split at hk
    ·rename_i hall
     obtain⟨hst,hk⟩:=hk
     refine fin ?_ hk
     rw[hst]
     simp only[Bool.not_true,Bool.false_or,Bool.true_and]
     refine E8 (fun t ht=>?_) fun q hq=>by rw[g7];exact Wu q hq
     have key:∀ {ps:List PI} {ts:List Inf} {m:List MB} {h:List HB},UW m h ps ts→(ps.all fun i=>i.i.ws.isEmpty&&!i.wall)=true→∀ t∈ts,t.ws=[]:=by
      intro ps ts m h hI
      induction hI with
      | nil=>intro _ t ht;cases ht
      | cons _ _ i1 _ _ _ _ ih=>
       intro ha t ht
       simp only[List.all_cons,Bool.and_eq_true,List.isEmpty_iff,Bool.not_eq_true'] at ha
       rcases List.mem_cons.1 ht with rfl | ht
       ·refine List.eq_nil_iff_forall_not_mem.2 fun x hx=>?_
        cases x with
        | l j=>have:=i1.wl j hx;rw[ha.1.1] at this;cases this
        | h b=>
         rcases i1.wh b hx with⟨i,h1,_⟩ | ⟨h1,_⟩
         ·rw[ha.1.1] at h1;cases h1
         ·rw[ha.1.2] at h1;cases h1
       ·exact ih ha.2 t ht
     exact key g6 hall t ht
    ·exact hk.elim
   ·split at hk
    ·rename_i hc
     simp only[Bool.and_eq_true] at hc
     refine fin ?_ hk
     rw[hc.1,PU g6 Ws hc.2];rfl
    ·exact hk.elim
 | seq a b iha ihb=>
  intro A W fl m ps ts an k hS hk
  simp only[eH] at hk
  obtain⟨e,dD,ps1,yF,m1,h1,hk,h3,h4,h5⟩:=iha hS hk
  cases e with
  | norm=>
   obtain⟨e2,Nv,ps2,UY,m2,g1,g2,g3,g4,g5⟩:=ihb h3 hk
   exact⟨e2,Nv,ps2,UY,m2,by simp only[exec,h1,g1],g2,g3,h4.trans g4,h5.trans g5⟩
  | exit id=>exact⟨_,dD,ps1,yF,m1,by simp only[exec,h1],hk,h3,h4,h5⟩
  | ret=>exact⟨_,dD,ps1,yF,m1,by simp only[exec,h1],hk,h3,h4,h5⟩
 | cond c a b iha ihb=>
  intro A W fl m ps ts an k hS hk
  simp only[eH] at hk
  split at hk
  ·rename_i u hu
   obtain⟨tu,h1,h2⟩:=Gs hS.st.env hu
   obtain⟨t,yC,rfl,hk⟩:=Jh hk h2
   cases t with
   | true=>
    obtain⟨e,dD,ps1,yF,m1,g1,g2,g3,g4,g5⟩:=iha (hS.know h1) hk
    exact⟨e,dD,ps1,yF,m1,by simp only[exec,h1,g1],g2,g3,g4,g5⟩
   | false=>
    obtain⟨e,dD,ps1,yF,m1,g1,g2,g3,g4,g5⟩:=ihb (hS.know h1) hk
    exact⟨e,dD,ps1,yF,m1,by simp only[exec,h1,g1],g2,g3,g4,g5⟩
  ·exact hk.elim
 | block id b ih=>
  intro A W fl m ps ts an k hS hk
  simp only[eH] at hk
  obtain⟨e,dD,ps1,yF,m1,h1,hk,h3,h4,h5⟩:=ih hS hk
  cases e with
  | norm=>exact⟨_,dD,ps1,yF,m1,by simp only[exec,h1],hk,h3,h4,h5⟩
  | ret=>exact⟨_,dD,ps1,yF,m1,by simp only[exec,h1],hk,h3,h4,h5⟩
  | exit i=>exact⟨_,dD,ps1,yF,m1,by simp only[exec,h1],hk,h3,h4,h5⟩
 | scope b ih=>
  intro A W fl m ps ts an k hS hk
  simp only[eH] at hk
  obtain⟨e,dD,ps1,yF,m1,h1,hk,h3,h4,h5⟩:=ih hS hk
  exact⟨e,dD,ps1,yF,m1,by simp only[exec,h1],hk,h3,h4,h5⟩
 | loop b ih=>
  intro A W fl m ps ts an k hS hk
  simp only[eH] at hk
  split at hk
  ·rename_i j r
   obtain⟨hj,hk⟩:=hk
   have go:∀ (j:Nat) {m:List MB} {ps:aP X.Γ} {ts:St} {an:PT X.Γ},SR X P A W fl m ps ts→(EU X (fun s an k=>eH X P T jG (nH X P call) (fO X P T call L f dI nt B) B L f dI nt b (patHead X (T.bY f (bH b)) s) an k) j ps an k).Ends y →
     ∃ e dD ps1 yC m1,iter (fun s=>exec P T call L f dI fl nt b (dh (T.bY f (bH b)) s)) j ts=some (e,dD)∧(k e ps1 yC).Ends y∧SR X P A W fl m1 ps1 dD∧Fr m ts.heap m1 dD.heap∧CO B m m1:=by
    intro j
    induction j with
    | zero=>intro m ps ts an _ hk;exact hk.elim
    | succ j ihj=>
     intro m ps ts an hS hk
     simp only[EU] at hk
     obtain⟨e,dD,ps1,yF,m1,h1,hk,h3,h4,h5⟩:=ih (hS.head _) hk
     cases e with
     | norm=>
      obtain⟨e2,Nv,ps2,UY,m2,g1,g2,g3,g4,g5⟩:=ihj h3 hk
      exact⟨e2,Nv,ps2,UY,m2,by simp only[iter,h1,g1],g2,g3,h4.trans g4,h5.trans g5⟩
     | exit id=>exact⟨_,dD,ps1,yF,m1,by simp only[iter,h1],hk,h3,h4,h5⟩
     | ret=>exact⟨_,dD,ps1,yF,m1,by simp only[iter,h1],hk,h3,h4,h5⟩
   obtain⟨e,dD,ps1,yF,m1,h1,h2,h3,h4,h5⟩:=go j hS hk
   exact⟨e,dD,ps1,yF,m1,by simp only[exec];exact zq h1 hj,h2,h3,h4,h5⟩
  ·exact yZ hX hS hk
 | rangeFunc g qs ku body iha ihb=>
  intro A W fl m ps ts an k hS hk
  simp only[eH] at hk
  exact yZ hX hS hk
 | _=>intro A W fl m ps ts an k hS hk;simp only[eH] at hk;exact hk.elim
end
end
end Pv
namespace Pv
open Go Tw
section
variable {X:gZ} {P:Program} {T:Tab} {A W:Nat→Prop} {m m':List MB}
variable {call:ay} {jG:gK X.Γ} {L:Nat}
def ntP (P:Program) (f:Nat):Nat:=match CS P f with
 | some t=>t.nt
 | none=>0
abbrev GL (X:gZ) (P:Program) (T:Tab) (call:ay) (L f B:Nat):KQ X.Γ:=fO X P T call L f false (ntP P f) B
theorem Fe {A:Nat→Prop} {h:List HB}:∀ {k:Nat} {vs:List (PV X.Γ)} {xs:List TV},aG X P A m h vs xs→fH X P A m h (qV X k vs) (fB k xs)
 | k,[],xs,hv=>by rw[hv.inv0];exact .nil
 | k,v::vs,xs,hv=>by
  obtain⟨x,r,rfl,h1,h2⟩:=hv.inv
  exact .cons h1 (Fe h2)
theorem Aj (hX:aT X P) {ps:aP X.Γ} {ts:St} (hR:lS X P A m ps ts):∀ {rs:List ResultVar} {vs:List (PV X.Γ)},AZ X P ps rs=some vs→∃ ws,jI P ts rs=some ws∧aG X P (AA A m) m ts.heap vs ws
 | [],vs,h=>by simp only[AZ,Option.some.injEq] at h;subst h;exact⟨[],rfl,.nil⟩
 | r::rs,vs,h=>by
  simp only[AZ] at h
  split at h
  ·rename_i v vs' h1 h2
   cases h
   obtain⟨ws,g1,g2⟩:=Aj hX hR h2
   have:∃ w,resT P ts r=some w∧VR X P (AA A m) m ts.heap v w:=by
    unfold YF at h1
    unfold resT
    split at h1
    ·rename_i t
     split at h1
     ·rename_i u hu
      cases h1
      obtain⟨ev,e1,e2⟩:=iq hR.env hu
      obtain⟨w,rfl,e3⟩:=bK e2
      exact⟨w,by simp only[e1],uT e3⟩
     ·cases h1
    ·rename_i a t
     split at h1
     ·rename_i pa ha
      simp only[Option.map_eq_some_iff] at h1
      obtain⟨⟨u,i⟩,e1,rfl⟩:=h1
      obtain⟨ev,e2,e3⟩:=iq hR.env ha
      obtain⟨w,ti,e4,e5,_,_⟩:=um hX hR e3 e1
      exact⟨w,by simp only[e2,e4,Option.map_some],e5⟩
     ·cases h1
   obtain⟨w,g3,g4⟩:=this
   exact⟨w::ws,by simp only[jI,g3,g1],.cons g4 g2⟩
  ·cases h
theorem Lj {A:Nat→Prop} {h:List HB} {vs:List (PV X.Γ)} {ws:List TV} (hv:aG X P A m h vs ws):VR X P A m h (Ph X vs) (one ws):=by
 match vs,ws,hv with
 | [],ws,hv=>rw[hv.inv0];exact .bf rfl (by simp)
 | [v],ws,hv=>
  obtain⟨x,r,rfl,h1,h2⟩:=hv.inv
  have:=h2.inv0;subst this
  exact h1
 | v::u::vs,ws,hv=>
  obtain⟨x,r,rfl,h1,h2⟩:=hv.inv
  obtain⟨z,r,rfl,h3,h4⟩:=h2.inv
  exact .bf hv.1 hv.2
theorem Ak (hX:aT X P) (hO:jL X P call jG) {f:Nat} {vs:List (PV X.Γ)} {H:List (PB X.Γ)} {an:PT X.Γ} {v:PV X.Γ} {H1:List (PB X.Γ)} (hk:(KT X P T jG (nH X P call) (GL X P T call L f H.length) L f vs H an).Ends (v,H1))
  {h:List HB} (hr:HR X P A m H h) {xs:List TV} (hv:aG X P (AA A m) m h vs xs):∃ w h1 ws m1,N8 P T call L f xs h=some (w,h1,ws)∧HR X P A m1 H1 h1∧VR X P (AA A m1) m1 h1 v w∧Fr m h m1 h1∧CO H.length m m1∧(∀ b∈ws,b∈blks m)∧¬(T.exts.contains f||T.Ho.contains f)=true:=by
 unfold KT at hk
 split at hk
 ·rename_i t ht
  have hnx:¬(T.exts.contains f||T.Ho.contains f)=true:=fun hx=>by rw[if_pos hx] at ht;cases ht
  rw[if_neg hnx] at ht
  have hnt:ntP P f=t.nt:=by unfold ntP;rw[ht]
  have hS:SR X P A (fun b=>b∈blks m) h.length m ⟨qV X 0 vs,[],H⟩ ⟨fB 0 xs,[],h,[]⟩:=
   ⟨⟨hr,rfl,fun k cs hk=>by simp at hk,Fe hv⟩,fun b hb=>.inl hb,fun b hb=>(by cases hb),Nat.le_refl _⟩
  rw[show GL X P T call L f H.length=fO X P T call L f false t.nt H.length by unfold GL;rw[hnt]] at hk
  obtain⟨e,dD,ps1,yF,m1,h1,hk,h3,h4,h5⟩:=jc hX hO t.body hS hk
  have fin:∀ {e:Ex},exec P T call L f false h.length t.nt t.body ⟨fB 0 xs,[],h,[]⟩=some (e,dD)→(e=.norm∨e=.ret)→∀ {us:List (PV X.Γ)},AZ X P ps1 t.results=some us→(Ph X us,ps1.heap)=(v,H1)→∃ w h1 ws m1,N8 P T call L f xs h=some (w,h1,ws)∧HR X P A m1 H1 h1∧VR X P (AA A m1) m1 h1 v w∧Fr m h m1 h1∧CO H.length m m1∧(∀ b∈ws,b∈blks m)∧¬(T.exts.contains f||T.Ho.contains f)=true:=by
   intro e he hee us hus hv
   cases hv
   obtain⟨ws,g1,g2⟩:=Aj hX h3.st hus
   refine⟨one ws,dD.heap,dD.ws,m1,?_,h3.st.heap,Lj g2,h4,h5,h3.ws,hnx⟩
   unfold N8
   rcases hee with rfl | rfl<;>simp only[ht,he,g1]
  cases e with
  | exit id=>exact hk.elim
  | norm=>
   cases yF with
   | n=>
    simp only at hk
    split at hk
    ·rename_i us hus;exact fin h1 (.inl rfl) hus hk
    ·exact hk.elim
   | _=>exact hk.elim
  | ret=>
   cases yF with
   | n=>
    simp only at hk
    split at hk
    ·rename_i us hus;exact fin h1 (.inr rfl) hus hk
    ·exact hk.elim
   | _=>exact hk.elim
 ·exact hk.elim
theorem Wx (hX:aT X P) {n f:Nat} (hn:0<n) (hO:jL X P (yw P T L (n-1)) jG) {first xs cap:List (PV X.Γ)} {H H1:List (PB X.Γ)} {an:PT X.Γ} {v:PV X.Γ}
  (hk:(KT X P T jG (nH X P (yw P T L (n-1))) (GL X P T (yw P T L (n-1)) L f H.length) L f (first++xs++cap) H an).Ends (v,H1)):nH X P (yw P T L n) (.fn f first cap) xs H v H1:=by
 intro A m h tf kY hr hf hx
 obtain⟨n,rfl⟩:∃ j,n=j+1:=⟨n-1,by omega⟩
 cases hf with
 | gone hi _ _=>simp[aF] at hi
 | fn p1 p2 p3 p4=>
  obtain⟨w,h1,ws,m1,g1,g2,g3,g4,g5,g6,g7⟩:=Ak hX hO hk hr ((aG.app ⟨p1,p2⟩ hx).app ⟨p3,p4⟩)
  refine⟨w,h1,ws,m1,by simp only[yw];simp only[Bool.or_eq_true,not_or] at g7;rw[if_neg g7.1,if_neg g7.2];exact g1,g2,g3,g4,fun i mb hi=>g5 i mb ?_ hi,g6⟩
  rw[←hr.len];exact (List.getElem?_eq_some_iff.1 hi).1
def Wy:Ex→aP X.Γ→PT X.Γ→OT (Ex×aP X.Γ):=fun e s an=>match an with
 | .n=>.ret (e,s)
 | _=>.bad
section
variable {f nt B:Nat} {dI:Bool}
theorem PX (hX:aT X P) (hO:jL X P call jG) {c:Code} {ps:aP X.Γ} {an:PT X.Γ} {e:Ex} {ps1:aP X.Γ} (hk:(eH X P T jG (nH X P call) (fO X P T call L f dI nt B) B L f dI nt c ps an Wy).Ends (e,ps1)):fO X P T call L f dI nt B c ps e ps1:=by
 intro A W fl m ts hS
 obtain⟨e1,dD,ps2,yF,m1,h1,h2,h3,h4,h5⟩:=jc hX hO c hS hk
 cases yF with
 | n=>cases h2;exact⟨dD,m1,h1,h3,h4,h5⟩
 | _=>exact h2.elim
end
end
end Pv
namespace Pv
open Go Tw
def OT.map {ρ σ:Type} (f:ρ→σ):OT ρ→OT σ
 | .bad=>.bad
 | .ret r=>.ret (f r)
 | .o p r=>.o p (r.map f)
 | .br c t e=>.br c (t.map f) (e.map f)
inductive Fp {Γ:Nat→Type} {ρ:Type} (R:ρ→Prop):PT Γ→OT ρ→Prop where
 | r {v:ρ} (h:R v):Fp R .n (.ret v)
 | g {v:ρ} (gs:List G) (h:R v):Fp R (.a (.lg gs .norm ⟨[],[],[]⟩) .n) (.ret v)
 | o {p:Prop} {an:PT Γ} {o:OT ρ} (h:p) (f:Fp R an o):Fp R an (.o p o)
 | s {c:Bool} {a b:PT Γ} {x y:OT ρ} (f:c=true→Fp R a x) (g:c=false→Fp R b y):Fp R (.s a b) (.br c x y)
 | z {c:Bool} {a b:PT Γ} {x y:OT ρ} (f:c=true→Fp R a x) (g:c=false→Fp R b y):Fp R (.z c a b) (.br c x y)
 | b {c t:Bool} {an:PT Γ} {o:OT ρ} (h:c=t) (f:Fp R an o):Fp R (.a (.br t) an) (.o (c=t) o)
 | q {p:Prop} {an:PT Γ} {o:OT ρ} (w:TV) (h:p) (f:Fp R an o):Fp R (.a (.rd w) an) (.o p o)
 | c {p:Prop} {an:PT Γ} {o:OT ρ} (v:PV Γ) (H:List (PB Γ)) (h:p) (f:Fp R an o):Fp R (.a (.call v H) an) (.o p o)
 | kf {p:Prop} {an:PT Γ} {o:OT ρ} (ks:List Nat) (v:PV Γ) (H:List (PB Γ)) (h:p) (f:Fp R an o):Fp R (.a (.fr ks v H) an) (.o p o)
 | kg {p:Prop} {an:PT Γ} {o:OT ρ} (ks rs:List Nat) (v:PV Γ) (H:List (PB Γ)) (h:p) (f:Fp R an o):Fp R (.a (.frR ks rs v H) an) (.o p o)
 | l {p:Prop} {an:PT Γ} {o:OT ρ} (gs:List G) (e:Ex) (s:aP Γ) (h:p) (f:Fp R an o):Fp R (.a (.lg gs e s) an) (.o p o)
 | f {p:Prop} {an:PT Γ} {o:OT ρ} (e:Ex) (s:aP Γ) (h:p) (f:Fp R an o):Fp R (.a (.loop e s) an) (.o p o)
 | m {p:Prop} {an:PT Γ} {o:OT ρ} (k:Nat) (h:p) (f:Fp R an o):Fp R (.l k an) (.o p o)
 | a {an:PT Γ} {o:OT ρ} (x:PA Γ) (f:Fp R an o):Fp R (.a x an) o
theorem Fp.ends {Γ:Nat→Type} {ρ:Type} {R:ρ→Prop} {an:PT Γ} {o:OT ρ} (h:Fp R an o):∃ y,o.Ends y∧R y:=by
 induction h with
 | r h=>exact⟨_,rfl,h⟩
 | g _ h=>exact⟨_,rfl,h⟩
 | s _ _ i1 i2=>
  rename_i c _ _ _ _ _ _
  cases c with
  | true=>obtain⟨y,h1,h2⟩:=i1 rfl;exact⟨y,.inl ⟨rfl,h1⟩,h2⟩
  | false=>obtain⟨y,h1,h2⟩:=i2 rfl;exact⟨y,.inr ⟨rfl,h1⟩,h2⟩
 | z _ _ i1 i2=>
  rename_i c _ _ _ _ _ _
  cases c with
  | true=>obtain⟨y,h1,h2⟩:=i1 rfl;exact⟨y,.inl ⟨rfl,h1⟩,h2⟩
  | false=>obtain⟨y,h1,h2⟩:=i2 rfl;exact⟨y,.inr ⟨rfl,h1⟩,h2⟩
 | a _ _ i=>exact i
 | o h _ i=>obtain⟨y,h1,h2⟩:=i;exact⟨y,⟨h,h1⟩,h2⟩
 | b h _ i=>obtain⟨y,h1,h2⟩:=i;exact⟨y,⟨h,h1⟩,h2⟩
 | q _ h _ i=>obtain⟨y,h1,h2⟩:=i;exact⟨y,⟨h,h1⟩,h2⟩
 | c _ _ h _ i=>obtain⟨y,h1,h2⟩:=i;exact⟨y,⟨h,h1⟩,h2⟩
 | kg _ _ _ _ h _ i=>obtain⟨y,h1,h2⟩:=i;exact⟨y,⟨h,h1⟩,h2⟩
 | kf _ _ _ h _ i=>obtain⟨y,h1,h2⟩:=i;exact⟨y,⟨h,h1⟩,h2⟩
 | l _ _ _ h _ i=>obtain⟨y,h1,h2⟩:=i;exact⟨y,⟨h,h1⟩,h2⟩
 | f _ _ h _ i=>obtain⟨y,h1,h2⟩:=i;exact⟨y,⟨h,h1⟩,h2⟩
 | m _ h _ i=>obtain⟨y,h1,h2⟩:=i;exact⟨y,⟨h,h1⟩,h2⟩
section
variable {X:gZ} {P:Program} {T:Tab} {L:Nat}
def YS (hd:aP X.Γ→aP X.Γ) (B:Nat):Ex→aP X.Γ→PT X.Γ→OT (Ex×aP X.Γ):=fun e s an=>match an with
 | .n=>match e with
  | .norm=>.ret (.norm,hd s)
  | e=>.ret (e,s)
 | .a (.lg gs _ _) .n=>match e with
  | .norm=>match je B gs (hd s) with
   | some s=>.ret (.norm,s)
   | none=>.bad
  | e=>match je B gs s with
   | some s=>.ret (e,s)
   | none=>.bad
 | _=>.bad
section
variable {f nt B:Nat} {dI:Bool} {call:ay} {jG:gK X.Γ}
def rF (X:gZ) (P:Program) (T:Tab) (call:ay) (L f:Nat) (dI:Bool) (nt B:Nat) (b:Code) (n:Nat) (ps:aP X.Γ) (e:Ex) (ps1:aP X.Γ):Prop:=
 ∀ (A W:Nat→Prop) (fl:Nat) (m:List MB) (ts:St),SR X P A W fl m ps (dh (T.bY f (bH b)) ts)→∃ dD m1,iter (fun s=>exec P T call L f dI fl nt b (dh (T.bY f (bH b)) s)) n ts=some (e,dD)∧SR X P A W fl m1 ps1 dD∧Fr m ts.heap m1 dD.heap∧CO B m m1
def Rnd (X:gZ) (P:Program) (T:Tab) (call:ay) (L f:Nat) (dI:Bool) (nt B:Nat) (b:Code) (n:Nat) (e:Ex) (s:aP X.Γ):Ex×aP X.Γ→Prop
 | (.norm,s')=>rF X P T call L f dI nt B b n s' e s
 | (e',s')=>e'=e∧s'=s
theorem Ll {b:Code} {n:Nat} {e e':Ex} {s s':aP X.Γ} (hn:e'≠.norm) (h:Rnd X P T call L f dI nt B b n e s (e',s')):e'=e∧s'=s:=by
 cases e' with
 | norm=>exact absurd rfl hn
 | exit id=>exact h
 | ret=>exact h
theorem round (hX:aT X P) (hO:jL X P call jG) {b:Code} {n:Nat} {ps:aP X.Γ} {an:PT X.Γ} {e:Ex} {s:aP X.Γ} {o:OT (Ex×aP X.Γ)}
  (hk:eH X P T jG (nH X P call) (fO X P T call L f dI nt B) B L f dI nt b ps an (YS (patHead X (T.bY f (bH b))) B)=o) (ht:Fp (Rnd X P T call L f dI nt B b n e s) an o):rF X P T call L f dI nt B b (n+1) ps e s:=by
 obtain⟨⟨e',s'⟩,h1,h2⟩:=ht.ends
 rw[←hk] at h1
 intro A W fl m ts hS
 obtain⟨e1,dD,ps2,yF,m1,g1,g2,g3,g4,g5⟩:=jc hX hO b hS h1
 have out:∀ {e1:Ex} {m2:List MB},exec P T call L f dI fl nt b (dh (T.bY f (bH b)) ts)=some (e1,dD)→e1≠.norm→e1=e∧s'=s→SR X P A W fl m2 s' dD→Fr m ts.heap m2 dD.heap→CO B m m2→∃ dD m1,iter (fun s=>exec P T call L f dI fl nt b (dh (T.bY f (bH b)) s)) (n+1) ts=some (e,dD)∧SR X P A W fl m1 s dD∧Fr m ts.heap m1 dD.heap∧CO B m m1:=by
  intro e1 m2 ge hn hh q1 q2 q3
  obtain⟨rfl,rfl⟩:=hh
  refine⟨dD,m2,?_,q1,q2,q3⟩
  cases e1 with
  | norm=>exact absurd rfl hn
  | exit id=>simp only[iter,ge]
  | ret=>simp only[iter,ge]
 have on:∀ {m2:List MB},exec P T call L f dI fl nt b (dh (T.bY f (bH b)) ts)=some (.norm,dD)→SR X P A W fl m2 s' (dh (T.bY f (bH b)) dD)→Fr m ts.heap m2 dD.heap→CO B m m2→rF X P T call L f dI nt B b n s' e s→∃ dD m1,iter (fun s=>exec P T call L f dI fl nt b (dh (T.bY f (bH b)) s)) (n+1) ts=some (e,dD)∧SR X P A W fl m1 s dD∧Fr m ts.heap m1 dD.heap∧CO B m m1:=by
  intro m2 ge q1 q2 q3 hr
  obtain⟨Nv,m3,r1,r2,r3,r4⟩:=hr A W fl m2 dD q1
  exact⟨Nv,m3,by simp only[iter,ge,r1],r2,q2.trans r3,q3.trans r4⟩
 unfold YS at g2
 split at g2
 ·split at g2
  ·cases g2;exact on g1 (g3.head _) g4 g5 h2
  ·rename_i e1 hne
   cases g2
   exact out g1 (fun h=>hne h) (Ll (fun h=>hne h) h2) g3 g4 g5
 ·split at g2
  ·split at g2
   ·rename_i hg
    cases g2
    obtain⟨m2,q1,q2,q3⟩:=iy hX hg _ _ _ _ _ (g3.head _)
    exact on g1 q1 (g4.trans q2) (g5.trans q3) h2
   ·exact g2.elim
  ·rename_i e1 hne
   split at g2
   ·rename_i hg
    cases g2
    obtain⟨m2,q1,q2,q3⟩:=iy hX hg _ _ _ _ _ g3
    exact out g1 (fun h=>hne h) (Ll (fun h=>hne h) h2) q1 (g4.trans q2) (g5.trans q3)
   ·exact g2.elim
 ·exact g2.elim
end
structure Ar (X:gZ) (P:Program) (α:Type) where
 put:α→PV X.Γ
 get:PV X.Γ→Option α
 ok:∀ {v:PV X.Γ} {a:α},get v=some a→∀ {A:Nat→Prop} {m:List MB} {h:List HB} {x:TV},VR X P A m h v x→VR X P A m h (put a) x
structure Jj (X:gZ) (P:Program) (α:Type) where
 put:α→List (PV X.Γ)
 get:List (PV X.Γ)→Option α
 ok:∀ {v:List (PV X.Γ)} {a:α},get v=some a→∀ {A:Nat→Prop} {m:List MB} {h:List HB} {x:List TV},aG X P A m h v x→aG X P A m h (put a) x
def WA (k:IntKind):Ar X P Int where
 put n:=.int k n
 get v:=match v with
  | .int k' n=>if k'=k then some n else none
  | _=>none
 ok:=by
  intro v a hg A m h x hv
  split at hg
  ·split at hg
   ·rename_i e;subst e;cases hg;exact hv
   ·cases hg
  ·cases hg
def YT:Ar X P Bool where
 put n:=.bool n
 get v:=match v with
  | .bool n=>some n
  | .lit n=>some n
  | _=>none
 ok:=by
  intro v a hg A m h x hv
  split at hg
  ·cases hg;exact hv
  ·cases hg;exact uT hv
  ·cases hg
theorem VR.less {A:Nat→Prop} {m:List MB} {h:List HB} {t:Nat} {l:List (X.Γ t)} {fu:Bool} {x:TV} (hv:VR X P A m h (.lst t l fu) x):VR X P A m h (.lst t l false) x:=by
 cases hv with
 | gone hi _ _=>simp[aF] at hi
 | jg=>exact .jg
 | lst a c c2 s z o k f e r=>exact .lst a c c2 s z o k (fun h=>by cases h) e r
def Nw (t:Nat):Ar X P (List (X.Γ t)) where
 put l:=.lst t l false
 get v:=match v with
  | .lst t' l _=>pJ t t' l
  | .nil .slc=>some []
  | _=>none
 ok:=by
  intro v a hg A m h x hv
  split at hg
  ·obtain⟨rfl,rfl⟩:=jK hg;exact hv.less
  ·cases hg
   cases hv with
   | nil=>exact .jg
   | gone hi _ _=>simp[aF] at hi
  ·cases hg
def YU (hX:aT X P) (t:Nat):Ar X P (X.Γ t) where
 put a:=.agg (X.enc t a)
 get v:=match v with
  | .agg cs=>X.dec t cs
  | _=>none
 ok:=by
  intro v a hg A m h x hv
  split at hg
  ·cases hv with
   | gone hi _ _=>simp[aF] at hi
   | agg h1 h2=>obtain⟨h3,h4⟩:=hX.dec hg ⟨h1,h2⟩;exact .agg h3 h4
  ·cases hg
def fnA (f:FuncId):Ar X P Unit where
 put _:=.fn f [] []
 get v:=match v with
  | .fn g [] []=>if g=f then some () else none
  | _=>none
 ok:=by
  intro v a hg A m h x hv
  split at hg
  ·split at hg
   ·rename_i e;subst e;exact hv
   ·cases hg
  ·cases hg
def nilA:Jj X P Unit where
 put _:=[]
 get v:=match v with
  | []=>some ()
  | _=>none
 ok:=by
  intro v a hg A m h x hv
  split at hg
  ·exact hv
  ·cases hg
def Jk {α β:Type} (a:Ar X P α) (l:Jj X P β):Jj X P (α×β) where
 put x:=a.put x.1::l.put x.2
 get v:=match v with
  | v::vs=>match a.get v,l.get vs with
   | some x,some y=>some (x,y)
   | _,_=>none
  | _=>none
 ok:=by
  intro v x hg A m h xs hv
  split at hg
  ·split at hg
   ·rename_i e1 e2
    cases hg
    obtain⟨y,r,rfl,h1,h2⟩:=hv.inv
    exact .cons (a.ok e1 h1) (l.ok e2 h2)
   ·cases hg
  ·cases hg
def YV {α:Type} (a:Ar X P α):Jj X P α where
 put x:=[a.put x]
 get v:=match v with
  | [v]=>a.get v
  | _=>none
 ok:=by
  intro v x hg A m h xs hv
  split at hg
  ·obtain⟨y,r,rfl,h1,h2⟩:=hv.inv
   have:=h2.inv0;subst this
   exact .cons (a.ok hg h1) .nil
  ·cases hg
def PY {α:Type} (l:Jj X P α):Ar X P α where
 put x:=.bf (l.put x)
 get v:=match v with
  | .bf cs=>l.get cs
  | _=>none
 ok:=by
  intro v x hg A m h xs hv
  split at hg
  ·cases hv with
   | gone hi _ _=>simp[aF] at hi
   | bf h1 h2=>obtain⟨h3,h4⟩:=l.ok hg ⟨h1,h2⟩;exact .bf h3 h4
  ·cases hg
def Tt {α:Type} (l:Jj X P α):Ar X P α where
 put x:=.agg (l.put x)
 get v:=match v with
  | .agg cs=>l.get cs
  | _=>none
 ok:=by
  intro v x hg A m h xs hv
  split at hg
  ·cases hv with
   | gone hi _ _=>simp[aF] at hi
   | agg h1 h2=>obtain⟨h3,h4⟩:=l.ok hg ⟨h1,h2⟩;exact .agg h3 h4
  ·cases hg
def YW {α β:Type} (a:Ar X P α) (f:α→β) (g:β→α) (hgf:∀ x,g (f x)=x):Ar X P β where
 put x:=a.put (g x)
 get v:=match a.get v with
  | some x=>some (f x)
  | none=>none
 ok:=by
  intro v x hg A m h xs hv
  split at hg
  ·rename_i y hy
   cases hg
   rw[hgf]
   exact a.ok hy hv
  ·cases hg
def Good (X:gZ) (P:Program) (T:Tab) (L:Nat) (jG:gK X.Γ):Prop:=∃ N,∀ n,N≤n→jL X P (yw P T L n) jG
def Jl:gK X.Γ:=fun _ _=>none
def cO {α β:Type} (f:FuncId) (a:Jj X P α) (r:Ar X P β) (S:α→β) (pre:α→List Prop) (jG:gK X.Γ):gK X.Γ:=fun g vs=>
 match Nat.beq g f with
 | true=>match a.get vs with
  | some x=>some (r.put (S x),[],pre x)
  | none=>jG g vs
 | false=>jG g vs
theorem Good.nil:Good X P T L (Jl (X:=X)):=⟨0,fun n _ f vs v ext ps h=>by cases h⟩
theorem Good.add {α β:Type} {f:FuncId} {a:Jj X P α} {r:Ar X P β} {S:α→β} {pre:α→List Prop} {jG:gK X.Γ} (hg:Good X P T L jG)
  (hf:∀ n,jL X P (yw P T L n) jG→∀ x,(∀ p∈pre x,p)→VW X P (yw P T L (n+1)) f (a.put x) (r.put (S x)) []):Good X P T L (cO f a r S pre jG):=by
 obtain⟨N,hN⟩:=hg
 refine⟨N+1,fun n hn=>?_⟩
 obtain⟨k,rfl⟩:∃ k,n=k+1:=⟨n-1,by omega⟩
 intro g vs v ext ps ho hp
 unfold cO at ho
 split at ho
 ·rename_i e
  have e:=Nat.eq_of_beq_eq_true e
  subst e
  split at ho
  ·rename_i x hx
   cases ho
   intro A h first args cap hup hv
   exact hf k (hN k (by omega)) x hp A h first args cap hup (a.ok hx hv)
  ·exact hN (k+1) (by omega) g vs v ext ps ho hp
 ·exact hN (k+1) (by omega) g vs v ext ps ho hp
def Is {β:Type} (r:Ar X P β) (s:β):Option (PV X.Γ)→Prop:=fun v=>v=some (r.put s)∨∃ w,v=some w∧r.get w=some s
theorem Fp.v {β:Type} {r:Ar X P β} {s:β} (u:β) (h:u=s):Fp (Is r s) (.n:PT X.Γ) (.ret (some (r.put u))):=.r (.inl (by rw[h]))
theorem Fp.k {τ:Type} {R:τ→Prop} {call:ay} {fv v:PV X.Γ} {xs:List (PV X.Γ)} {H H1:List (PB X.Γ)} {an:PT X.Γ} {o:OT τ} (h:nH X P call fv xs H v H1) (t:Fp R an o):Fp R (.a (.call v H1) an) (.o (nH X P call fv xs H v H1) o):=.c v H1 h t
theorem Fp.fr {τ:Type} {R:τ→Prop} {call:ay} {fv v:PV X.Γ} {xs:List (PV X.Γ)} {H H1:List (PB X.Γ)} {an:PT X.Γ} {o:OT τ} (ks:List Nat) (h:nH X P call fv xs H v H1) (t:Fp R an o):Fp R (.a (.fr ks v H1) an) (.o (nH X P call fv xs H v H1) o):=.kf ks v H1 h t
theorem Fp.frR {τ:Type} {R:τ→Prop} {call:ay} {fv v:PV X.Γ} {xs:List (PV X.Γ)} {H H1 H2:List (PB X.Γ)} {an:PT X.Γ} {o:OT τ} (ks rs:List Nat) (h:nH X P call fv xs H v H1) (t:Fp R an o):Fp R (.a (.frR ks rs v H2) an) (.o (nH X P call fv xs H v H1) o):=.kg ks rs v H2 h t
def a1 {α:Type} (a:Ar X P α):Jj X P α:=YV a
def a2 {α β:Type} (a:Ar X P α) (b:Ar X P β):Jj X P (α×β):=Jk a (YV b)
def a3 {α β γ:Type} (a:Ar X P α) (b:Ar X P β) (c:Ar X P γ):Jj X P (α×β×γ):=Jk a (a2 b c)
def a4 {α β γ δ:Type} (a:Ar X P α) (b:Ar X P β) (c:Ar X P γ) (d:Ar X P δ):Jj X P (α×β×γ×δ):=Jk a (a3 b c d)
def np {α:Type}:α→List Prop:=fun _=>[]
end
end Pv
namespace Tw
def D5 {σ ρ:Type}:σ⊕ρ→Bool
 | .inl _=>true
 | .inr _=>false
def WB {σ ρ:Type} (d:ρ):σ⊕ρ→ρ
 | .inl _=>d
 | .inr r=>r
end Tw
namespace Pv
open Go Tw
def jH:Code→List Code
 | .seq a b=>jH a++jH b
 | .cond _ a b=>jH a++jH b
 | .block _ b=>jH b
 | .loop b=>b::jH b
 | .scope b=>jH b
 | .rangeFunc _ _ a b=>jH a++jH b
 | _=>[]
def YX (P:Program) (f k:Nat):Code:=
 match CS P f with
 | some t=>(jH t.body).getD k .skip
 | none=>.skip
theorem Tv {k:Nat} (h:k≤most):IntKind.i64.wrap ((k:Int)+1)=((k+1:Nat):Int):=by
 simp only[IntKind.wrap,IntKind.bits,IntKind.signed]
 unfold most at h
 have:((k:Int)+1)%(2^64:Int)=(k:Int)+1:=Int.emod_eq_of_lt (by omega) (by omega)
 simp only[this]
 rw[if_neg (by simp;omega)]
 omega
theorem WC {k n:Nat} (h:k<n):decide ((k:Int)<(n:Int))=true:=by simp[h]
theorem YZ (n:Nat):decide ((n:Int)<(n:Int))=false:=by simp
section
variable {X:gZ} {P:Program} {T:Tab} {L:Nat} {f nt B:Nat} {dI:Bool} {call:ay} {b:Code} {σ α ρ:Type}
theorem Fp.w {τ:Type} {R:τ→Prop} {c:Code} {e:Ex} {s s':aP X.Γ} {an:PT X.Γ} {o:OT τ} (h:fO X P T call L f dI nt B c s e s') (t:Fp R an o):Fp R (.a (.lg [] e s') an) (.o (fO X P T call L f dI nt B c s e s') o):=.l [] e s' h t
theorem Fp.go {n:Nat} {e:Ex} {s s':aP X.Γ} (h:rF X P T call L f dI nt B b n s' e s):Fp (Rnd X P T call L f dI nt B b n e s) (.n:PT X.Γ) (.ret (.norm,s')):=Fp.r (v:=(Ex.norm,s')) h
theorem Fp.ex {n i:Nat} {s:aP X.Γ}:Fp (Rnd X P T call L f dI nt B b n (.exit i) s) (.n:PT X.Γ) (.ret (.exit i,s)):=Fp.r (v:=(Ex.exit i,s)) ⟨rfl,rfl⟩
def Rn (X:gZ) (P:Program) (T:Tab) (call:ay) (L f:Nat) (dI:Bool) (nt B:Nat) (b:Code) (n:Nat) {τ:Type} (K:τ→Ex×aP X.Γ) (x:τ):Ex×aP X.Γ→Prop:=Rnd X P T call L f dI nt B b n (K x).1 (K x).2
section
variable {τ:Type} {K:τ→Ex×aP X.Γ} {n:Nat}
theorem Fp.ls {c:Bool} {t e:τ} {a d:PT X.Γ} {x y:OT (Ex×aP X.Γ)} (h1:Fp (Rn X P T call L f dI nt B b n K t) a x) (h2:Fp (Rn X P T call L f dI nt B b n K e) d y):Fp (Rn X P T call L f dI nt B b n K (if c=true then t else e)) (.s a d) (.br c x y):=
 .s (fun h=>by subst h;exact h1) (fun h=>by subst h;exact h2)
theorem Fp.nx {x:τ} {s':aP X.Γ} (h:rF X P T call L f dI nt B b n s' (K x).1 (K x).2):Fp (Rn X P T call L f dI nt B b n K x) (.n:PT X.Γ) (.ret (.norm,s')):=Fp.r (v:=(Ex.norm,s')) h
end
end
end Pv
namespace Pv
open Go Tw
def Jm {Γ:Nat→Type}:PE Γ→Bool
 | .val _=>true
 | _=>false
section
variable {X:gZ} {P:Program} {T:Tab} {A W:Nat→Prop} {m m':List MB} {h h':List HB} {L f nt B:Nat}
theorem PZ {env:List (Nat×PE X.Γ)} {env':List (Nat×EV)} (he:fH X P A m h env env') (hv:(env.all fun p=>Jm p.2)=true):env'.all isVal=true:=by
 induction he with
 | nil=>rfl
 | cons h1 _ ih=>
  rename_i k v x r r' _
  simp only[List.all_cons,Bool.and_eq_true] at hv ⊢
  refine⟨?_,ih hv.2⟩
  cases v with
  | val v=>obtain⟨y,rfl,_⟩:=bK h1;rfl
  | _=>simp[Jm] at hv
abbrev gB (B:Nat):Nat→Option Nat:=fun i=>if i<B then some i else (kT [] i).map (·+B)
theorem ni {g:Nat→Option Nat}:∀ {a:List (PV X.Γ)},(∀ (i:Nat) x,a[i]? = some x→bG g x=some x)→bG.iC g a=some a
 | [],_=>rfl
 | c::cs,h=>by
  simp only[bG.iC,h 0 c rfl,ni (a:=cs) fun i x hi=>h (i+1) x (by simpa using hi)]
theorem vg {α β:Type} {a:List α} {b:List β} (hl:a.length=b.length) {i:Nat} {x:α} (hi:a[i]? = some x):∃ y,b[i]? = some y:=by
 have:i<b.length:=by rw[←hl];exact (List.getElem?_eq_some_iff.1 hi).1
 exact⟨b[i],List.getElem?_eq_getElem this⟩
theorem Q5 {v:PV X.Γ} {x:TV} (hv:VR X P A m h v x) {B:Nat} (hB:m.length≤B):bG (gB B) v=some v:=by
 have key:∀ {b:Nat} {mb:MB},m[b]? = some mb→gB B b=some b:=fun e=>by
  have:=(List.getElem?_eq_some_iff.1 e).1
  simp only[gB];rw[if_pos (by omega)]
 induction hv with
 | bool=>rfl
 | lit=>rfl
 | int=>rfl
 | str=>rfl
 | nil=>rfl
 | ptr e=>simp only[bG,key e,Option.map_some]
 | slc e=>simp only[bG,key e,Option.map_some]
 | own e _=>simp only[bG,key e,Option.map_some]
 | win e _ _=>simp only[bG,key e,Option.map_some]
 | nY e=>simp only[bG,key e,Option.map_some]
 | map e=>simp only[bG,key e,Option.map_some]
 | iter e=>simp only[bG,key e,Option.map_some]
 | iF e=>simp only[bG,key e,Option.map_some]
 | row e _ _=>simp only[bG,key e,Option.map_some]
 | jg=>rfl
 | lst=>rfl
 | el=>rfl
 | fn h1 _ h3 _ i2 i4=>
  simp only[bG]
  rw[ni fun i x hi=>let ⟨y,hy⟩:=vg h1 hi;i2 i x y hi hy,ni fun i x hi=>let ⟨y,hy⟩:=vg h3 hi;i4 i x y hi hy]
 | agg h1 _ i2=>simp only[bG];rw[ni fun i x hi=>let ⟨y,hy⟩:=vg h1 hi;i2 i x y hi hy];rfl
 | bf h1 _ i2=>simp only[bG];rw[ni fun i x hi=>let ⟨y,hy⟩:=vg h1 hi;i2 i x y hi hy];rfl
 | @gone v i x hi e _=>
  have:=key (b:=i) (mb:=(m[i]?).getD .gone) (by cases q:m[i]? with | none=>rw[q] at e;cases e | some y=>rfl)
  cases v<;>simp only[aF,Option.some.injEq] at hi<;>first | (subst hi;simp only[bG,this,Option.map_some]) | cases hi
theorem Lm {v:List (PV X.Γ)} {x:List TV} (hv:aG X P A m h v x) {B:Nat} (hB:m.length≤B):bG.iC (gB B) v=some v:=
 ni fun i a hi=>let ⟨y,hy⟩:=vg hv.1 hi;Q5 (hv.2 i a y hi hy) hB
theorem Q7 {v:List (Nat×PE X.Γ)} {x:List (Nat×EV)} (hv:fH X P A m h v x) {B:Nat} (hB:m.length≤B):iQ (gB B) v=some v:=by
 induction hv with
 | nil=>rfl
 | cons h1 _ ih=>
  rename_i k v x r r' _
  simp only[iQ,ih]
  cases v with
  | val v=>obtain⟨y,rfl,h2⟩:=bK h1;simp only[J8,Q5 h2 hB,Option.map_some]
  | _=>rfl
theorem Tz {b:PB X.Γ} {mb:MB} (hb:BR X P A m h b mb) {B:Nat} (hB:m.length≤B):mQ (gB B) b=some b:=by
 cases b with
 | cells cs=>
  cases mb with
  | blk c=>obtain⟨_,_,h2⟩:=hb;simp only[mQ,Lm h2 hB,Option.map_some]
  | _=>exact hb.elim
 | eu cs=>
  cases mb with
  | bM c=>obtain⟨_,_,_,h2⟩:=hb;simp only[mQ,Lm h2 hB,Option.map_some]
  | _=>exact hb.elim
 | map es=>rfl
 | aV r n seen=>
  cases mb with
  | blk c=>
   obtain⟨_,_,h2,_⟩:=hb
   obtain⟨mb,h3⟩:=Option.isSome_iff_exists.1 h2
   have hlt:r<B:=Nat.lt_of_lt_of_le (List.getElem?_eq_some_iff.1 h3).1 hB
   have:gB B r=some r:=by simp[gB,hlt]
   simp only[mQ,this,Option.map_some]
  | _=>exact hb.elim
 | loop=>
  cases mb with
  | blk c=>obtain⟨_,_,h2⟩:=hb;simp only[mQ,Q7 h2 hB,Option.map_some]
  | _=>exact hb.elim
 | _=>rfl
theorem GN {B:Nat}:∀ {H:List (PB X.Γ)},(∀ (i:Nat) b,H[i]? = some b→mQ (gB B) b=some b)→gJ (gB B) H=some H
 | [],_=>rfl
 | c::cs,h=>by
  simp only[gJ,h 0 c rfl,GN (H:=cs) fun i x hi=>h (i+1) x (by simpa using hi)]
theorem nH.drop (hX:aT X P) {call:ay} {fv:PV X.Γ} {xs:List (PV X.Γ)} {H H1:List (PB X.Γ)} {v:PV X.Γ} (hs:nH X P call fv xs H v H1) (h1:H1.take H.length=H) (hv:bG (gB H.length) v=some v):nH X P call fv xs H v H:=by
 intro A m h tf kY hr hf hx
 obtain⟨w,h',ws,m1,c1,c2,c3,c4,c5,c6⟩:=hs A m h tf kY hr hf hx
 have hg:je H.length [.gc []] (⟨[(0,.val v)],[],H1⟩:aP X.Γ)=some ⟨[(0,.val v)],[],H⟩:=by
  have hb:gJ (gB H.length) H=some H:=GN fun i b hi=>let ⟨mb,_,h2⟩:=hr.at_ i b hi;Tz h2 (Nat.le_of_eq hr.len)
  have hl:H.length≤H1.length:=by have:=congrArg List.length h1;simp at this;omega
  have e:iQ (gB H.length) [(0,PE.val v)]=some [(0,.val v)]:=by simp only[iQ,J8,hv,Option.map_some]
  have hb':gJ (fun i=>if i<H.length then some i else (kT [] i).map (·+H.length)) H=some H:=hb
  have e':iQ (fun i=>if i<H.length then some i else (kT [] i).map (·+H.length)) [(0,PE.val v)]=some [(0,.val v)]:=e
  simp only[je,pU,List.all_nil,List.nodup_nil,decide_true,Bool.and_self,Bool.true_and,hl,if_true,e',Gm,h1,hb',pR,gJ,List.append_nil]
 obtain⟨m2,q1,q2,q3⟩:=iy hX hg A (fun _=>True) 0 m1 ⟨[(0,.val w)],[],h',[]⟩ ⟨⟨c2,rfl,fun k cs hk=>by simp at hk,.cons c3 .nil⟩,fun b _=>.inl trivial,fun b hb=>(by cases hb),Nat.zero_le _⟩
 obtain⟨w',e1,e2⟩:=iq q1.st.env (t:=0) (v:=.val v) rfl
 simp only[aK,if_true,Option.some.injEq] at e1
 subst e1
 refine⟨w,h',ws,m2,c1,q1.st.heap,e2,c4.trans q2,fun i mb hi=>?_,c6⟩
 have hlt:i<H.length:=by rw[←hr.len];exact (List.getElem?_eq_some_iff.1 hi).1
 rcases c5 i mb hi with g | g
 ·exact q3 i mb hlt g
 ·rcases q3 i _ hlt g with g | g<;>exact .inr g
end
end Pv
namespace Pv
open Go Tw
section
variable {X:gZ} {P:Program}
theorem nH.frame (hX:aT X P) {call:ay} {ks:List Nat} {H' Hp H H1 Ht:List (PB X.Γ)} {fv YM v v':PV X.Γ} {xs xs':List (PV X.Γ)} (hs:nH X P call fv xs H v H1)
  (hnd:ks.Nodup) (hp:pR H' ks=some Hp) (hH:gJ (kT ks) Hp=some H) (hf:bG (kT ks) YM=some fv) (hx:bG.iC (kT ks) xs'=some xs)
  (hv:bG (bk ks H'.length) v=some v') (hH1:gJ (bk ks H'.length) H1=some Ht) (hro:wZ (H1.drop ks.length)=true) :
  nH X P call YM xs' H' v' (putAt ks Ht H'++Ht.drop ks.length):=fun A m' h tf kY hr hf' hx'=>by
 obtain⟨w,h1,ws,m1,c1,c2,c3,c4,c5,c6⟩:=xA hX hs.w hnd hp hH hf hx hv hH1 hro A m' h tf kY hr hf' hx'
 exact⟨w,h1,ws,m1,c1,c2,c3,c4,c5,fun b hb=>by obtain⟨_,k,_,_,mb,h8,h9⟩:=c6 b hb;exact aC h8 h9⟩
end
end Pv
namespace Pv
open Go Tw
section
variable {X:gZ} {P:Program} {T:Tab} {L:Nat}
def a2S {α:Type} (f:FuncId) (a:Jj X P α) (v:α→PV X.Γ) (ext:α→List (PB X.Γ)) (pre:α→List Prop) (jG:gK X.Γ):gK X.Γ:=fun g vs=>
 match Nat.beq g f with
 | true=>match a.get vs with
  | some x=>some (v x,ext x,pre x)
  | none=>jG g vs
 | false=>jG g vs
def IsE (v:PV X.Γ) (H:List (PB X.Γ)):PV X.Γ×List (PB X.Γ)→Prop:=fun y=>y=(v,H)
theorem Fp.er {v:PV X.Γ} {H:List (PB X.Γ)}:Fp (IsE v H) (.n:PT X.Γ) (.ret (v,H)):=.r rfl
end
end Pv
namespace Pv
open Go Tw
section
variable {X:gZ} {P:Program} {T:Tab} {L:Nat}
theorem WE (hX:aT X P) {n f:Nat} {jG:gK X.Γ} (hO:jL X P (yw P T L n) jG) {first xs cap:List (PV X.Γ)} {H H1:List (PB X.Γ)} {v:PV X.Γ} {an:PT X.Γ} {o:OT (PV X.Γ×List (PB X.Γ))}
  (hk:KT X P T jG (nH X P (yw P T L n)) (GL X P T (yw P T L n) L f H.length) L f (first++xs++cap) H an=o) (ht:Fp (IsE v H1) an o):nH X P (yw P T L (n+1)) (.fn f first cap) xs H v H1:=by
 obtain⟨y,h1,h2⟩:=ht.ends
 cases h2
 rw[←hk] at h1
 exact Wx hX (n:=n+1) (by omega) hO h1
end
end Pv
namespace Pv
open Go Tw
section
variable {X:gZ} {P:Program}
theorem nH.gs (hX:aT X P) {call:ay} {fv:PV X.Γ} {xs:List (PV X.Γ)} {H H1 H2:List (PB X.Γ)} {v v':PV X.Γ} (hs:nH X P call fv xs H v H1) (gs:List G) (hg:je H.length gs (⟨[(0,.val v)],[],H1⟩:aP X.Γ)=some ⟨[(0,.val v')],[],H2⟩):nH X P call fv xs H v' H2:=by
 intro A m h tf kY hr hf hx
 obtain⟨w,h',ws,m1,c1,c2,c3,c4,c5,c6⟩:=hs A m h tf kY hr hf hx
 obtain⟨m2,q1,q2,q3⟩:=iy hX hg A (fun _=>True) 0 m1 ⟨[(0,.val w)],[],h',[]⟩ ⟨⟨c2,rfl,fun k cs hk=>by simp at hk,.cons c3 .nil⟩,fun b _=>.inl trivial,fun b hb=>(by cases hb),Nat.zero_le _⟩
 obtain⟨w',e1,e2⟩:=iq q1.st.env (t:=0) (v:=.val v') rfl
 simp only[aK,if_true,Option.some.injEq] at e1
 subst e1
 refine⟨w,h',ws,m2,c1,q1.st.heap,e2,c4.trans q2,fun i mb hi=>?_,c6⟩
 have hlt:i<H.length:=by rw[←hr.len];exact (List.getElem?_eq_some_iff.1 hi).1
 rcases c5 i mb hi with g | g
 ·exact q3 i mb hlt g
 ·rcases q3 i _ hlt g with g | g<;>exact .inr g
theorem nH.cut (hX:aT X P) {call:ay} {fv:PV X.Γ} {xs:List (PV X.Γ)} {H H1 H2:List (PB X.Γ)} {v:PV X.Γ} (hs:nH X P call fv xs H v H1) (h1:H1.take H.length=H2) (hb:gJ (gB H.length) H2=some H2) (hl:decide (H.length≤H1.length)=true) (hv:bG (gB H.length) v=some v):nH X P call fv xs H v H2:=by
 intro A m h tf kY hr hf hx
 obtain⟨w,h',ws,m1,c1,c2,c3,c4,c5,c6⟩:=hs A m h tf kY hr hf hx
 have hl:=of_decide_eq_true hl
 have hg:je H.length [.gc []] (⟨[(0,.val v)],[],H1⟩:aP X.Γ)=some ⟨[(0,.val v)],[],H2⟩:=by
  have e:iQ (gB H.length) [(0,PE.val v)]=some [(0,.val v)]:=by simp only[iQ,J8,hv,Option.map_some]
  have hb':gJ (fun i=>if i<H.length then some i else (kT [] i).map (·+H.length)) H2=some H2:=hb
  have e':iQ (fun i=>if i<H.length then some i else (kT [] i).map (·+H.length)) [(0,PE.val v)]=some [(0,.val v)]:=e
  simp only[je,pU,List.all_nil,List.nodup_nil,decide_true,Bool.and_self,Bool.true_and,hl,if_true,e',Gm,h1,hb',pR,gJ,List.append_nil]
 obtain⟨m2,q1,q2,q3⟩:=iy hX hg A (fun _=>True) 0 m1 ⟨[(0,.val w)],[],h',[]⟩ ⟨⟨c2,rfl,fun k cs hk=>by simp at hk,.cons c3 .nil⟩,fun b _=>.inl trivial,fun b hb=>(by cases hb),Nat.zero_le _⟩
 obtain⟨w',e1,e2⟩:=iq q1.st.env (t:=0) (v:=.val v) rfl
 simp only[aK,if_true,Option.some.injEq] at e1
 subst e1
 refine⟨w,h',ws,m2,c1,q1.st.heap,e2,c4.trans q2,fun i mb hi=>?_,c6⟩
 have hlt:i<H.length:=by rw[←hr.len];exact (List.getElem?_eq_some_iff.1 hi).1
 rcases c5 i mb hi with g | g
 ·exact q3 i mb hlt g
 ·rcases q3 i _ hlt g with g | g<;>exact .inr g
end
end Pv
namespace Pv
open Go Tw
section
variable {X:gZ} {P:Program} {T:Tab} {L f nt B:Nat} {dI:Bool} {call:ay} {jG:gK X.Γ}
theorem Fp.xx {y:Ex×aP X.Γ}:Fp (fun z=>z=y) (.n:PT X.Γ) (.ret y):=.r rfl
end
end Pv
namespace Pv
open Go Tw
theorem jL.as {X:gZ} {P:Program} {call:ay} {α β:Type} {f:FuncId} {a:Jj X P α} {r:Ar X P β} {S:α→β} {pre:α→List Prop} {jG:gK X.Γ} (hO:jL X P call jG)
  (h:∀ x,(∀ p∈pre x,p)→VW X P call f (a.put x) (r.put (S x)) []):jL X P call (cO f a r S pre jG):=by
 intro g vs v ext ps ho hp
 unfold cO at ho
 split at ho
 ·rename_i e
  have e:=Nat.eq_of_beq_eq_true e
  subst e
  split at ho
  ·rename_i x hx
   cases ho
   intro A hh first args cap hup hv
   exact h x hp A hh first args cap hup (a.ok hx hv)
  ·exact hO g vs v ext ps ho hp
 ·exact hO g vs v ext ps ho hp
end Pv
namespace Pv
open Go Tw
section
variable {X:gZ} {P:Program}
theorem VW.gs (hX:aT X P) {call:ay} {f:FuncId} {vs:List (PV X.Γ)} {v v':PV X.Γ} {ext ext':List (PB X.Γ)} (hc:VW X P call f vs v ext) (gs:List G) (hg:je 0 gs (⟨[(0,.val v)],[],ext⟩:aP X.Γ)=some ⟨[(0,.val v')],[],ext'⟩):VW X P call f vs v' ext':=by
 intro A h first args cap hup hv
 obtain⟨w,h',m',c1,c2,c3,c4⟩:=hc A h first args cap hup hv
 obtain⟨m2,q1,q2,q3⟩:=iy hX hg A (fun _=>True) 0 m' ⟨[(0,.val w)],[],h',[]⟩ ⟨⟨c2,rfl,fun k cs hk=>by simp at hk,.cons c3 .nil⟩,fun b _=>.inl trivial,fun b hb=>(by cases hb),Nat.zero_le _⟩
 obtain⟨w',e1,e2⟩:=iq q1.st.env (t:=0) (v:=.val v') rfl
 simp only[aK,if_true,Option.some.injEq] at e1
 subst e1
 exact⟨w,h',m2,c1,q1.st.heap,e2,c4.trans q2⟩
end
end Pv
namespace Go.Proofs.YtjkgcifieggcpaaGreat
open Go Tw
structure B where
 lo:Int
 hi:Int
 f:Int
 deriving DecidableEq
structure O where
 code:Int
 a:Int
 b:Int
 c:Int
 n:Int
 deriving DecidableEq
structure K where
 name:ByteArray
 lo:Int
 hi:Int
structure V where
 f:Int
 n:Int
 deriving DecidableEq
abbrev B0:B:=⟨0,0,0⟩
abbrev O0:O:=⟨0,0,0,0,0⟩
abbrev K0:K:=⟨ByteArray.empty,0,0⟩
abbrev V0:V:=⟨0,0⟩
structure C where
 cs:List K
 os:List O
 rs:List Int
def Ny (x:Int) (lo:Int) (hi:Int):Bool:=
 if (decide ((x)<(lo)))=true then true else decide ((x)>(hi))
def BF (l:List Int) (lo:Int) (hi:Int):Bool:=
 !(l.any ((fun x=>Ny x lo hi)))
theorem wrap_small {z:Int} (h0:-(2^62)≤z) (h1:z<2^62):IntKind.i64.wrap z=z:=by
 simp only[IntKind.wrap,IntKind.bits,IntKind.signed]
 rcases Int.lt_or_le z 0 with h | h
 ·have:z%(2^64:Int)=z+2^64:=by
   have:=Int.add_mul_emod_self_left z (2^64) 1
   rw[Int.mul_one] at this
   rw[←this]
   exact Int.emod_eq_of_lt (by omega) (by omega)
  simp only[this]
  rw[if_pos (by simp;omega)]
  omega
 ·have:z%(2^64:Int)=z:=Int.emod_eq_of_lt h (by omega)
  simp only[this]
  rw[if_neg (by simp;omega)]
def vk (k:Int) (least:Int) (most:Int):Bool:=
 if (decide ((k)≥(least)))=true then decide ((k)≤(most)) else false
theorem rG {x y:Int} (hx0:-20000≤x) (hx1:x≤20000) (hy0:0≤y) (hy1:y≤20000):IntKind.i64.wrap (x*y)=x*y:=by
 have h1:x*y≤20000*y:=Int.mul_le_mul_of_nonneg_right hx1 hy0
 have h2:-20000*y≤x*y:=Int.mul_le_mul_of_nonneg_right hx0 hy0
 exact wrap_small (by omega) (by omega)
def Jo (x:Int) (lo:Int) (hi:Int):Bool:=
 if (decide ((x)<(lo)))=true then true else decide ((x)>(hi))
def Ea (l:List Int) (lo:Int) (hi:Int):Bool:=
 !(l.any ((fun x=>Jo x lo hi)))
def Q8 (v:V):Bool:=
 if ((v.f)==0)=true then Ea (([v.n]:List Int)) (-9999) 9999 else if (decide ((v.f)≤4))=true then (v.n)==0 else false
abbrev szK (k:K):Int:=IntKind.i64.wrap (IntKind.i64.wrap (k.hi-k.lo)+1)
structure Good (r:B):Prop where
 num:-9999≤r.lo∧r.lo≤r.hi∧r.hi≤9999∨r.lo=1∧r.hi=0
 f0:0≤r.f
 f1:r.f≤15
theorem wr {z:Int} (h1:-1000000000≤z) (h2:z≤1000000000):IntKind.i64.wrap z=z:=wrap_small (by omega) (by omega)
def szN (k:K):Nat:=(k.hi-k.lo+1).toNat
structure KOk (k:K):Prop where
 lo:-9999≤k.lo
 le:k.lo≤k.hi
 hi:k.hi≤9999
 sz:k.hi-k.lo+1≤12
theorem KOk.n {k:K} (h:KOk k):szK k=szN k∧0<szN k∧szN k≤12:=by
 have:=h.le;have:=h.sz;have:=h.lo;have:=h.hi
 unfold szK szN
 rw[wr (z:=k.hi-k.lo) (by omega) (by omega),wr (by omega) (by omega)]
 omega
end Go.Proofs.YtjkgcifieggcpaaGreat
namespace Pv
open Go Tw
def Nz {σ ρ:Type} (g:Nat→σ→σ⊕ρ):Nat→Nat→σ→σ⊕ρ
 | 0,_,s=>.inl s
 | m+1,k,s=>match g k s with
  | .inl s'=>Nz g m (k+1) s'
  | .inr r=>.inr r
def qj {σ:Type} (g:Nat→σ→σ):Nat→Nat→σ→σ
 | 0,_,s=>s
 | m+1,k,s=>qj g m (k+1) (g k s)
theorem BG {σ:Type} {g:Nat→σ→σ}:∀ (m k:Nat) (s:σ),qj g (m+1) k s=g (k+m) (qj g m k s)
 | 0,_,_=>rfl
 | m+1,k,s=>by
  rw[qj,BG m (k+1),show k+1+m=k+(m+1) by omega];rfl
theorem NC {σ:Type} {g:Nat→σ→σ} (Q:Nat→σ→Prop) {m k:Nat} {s:σ} (h0:Q k s) (hs:∀ j s,k≤j→j<k+m→Q j s→Q (j+1) (g j s)):Q (k+m) (qj g m k s):=by
 induction m with
 | zero=>exact h0
 | succ m ih=>rw[BG];exact hs (k+m) _ (by omega) (by omega) (ih fun j s h1 h2 h3=>hs j s h1 (by omega) h3)
theorem GR {c:Nat→Bool} {ρ:Type} {r:Nat→ρ}:∀ (m k:Nat),D5 (Nz (σ:=Unit) (fun k _=>if c k=true then .inr (r k) else .inl ()) m k ())=true↔∀ j,k≤j→j<k+m→c j=false
 | 0,k=>by simp[Nz,D5];omega
 | m+1,k=>by
  simp only[Nz]
  by_cases hc:c k=true
  ·simp only[hc,if_true,D5,Bool.false_eq_true,false_iff]
   intro h
   have:=h k (Nat.le_refl _) (by omega)
   rw[hc] at this;cases this
  ·simp only[hc,Bool.false_eq_true,if_false]
   rw[GR m (k+1)]
   constructor
   ·intro h j h1 h2
    rcases Nat.lt_or_ge k j with h3 | h3
    ·exact h j h3 (by omega)
    ·rw[show j=k by omega];simpa using hc
   ·intro h j h1 h2
    exact h j (by omega) (by omega)
abbrev gS (c:Nat→Bool) (k:Nat) (_:Unit):Unit⊕Nat:=if c k=true then .inr k else .inl ()
abbrev mF (c:Nat→Bool) (N:Nat):Unit⊕Nat:=Nz (gS c) N 0 ()
theorem Fg {c:Nat→Bool} {N:Nat}:D5 (mF c N)=true↔∀ j,j<N→c j=false:=by
 unfold mF gS
 rw[GR (r:=fun k=>k)]
 exact⟨fun h j hj=>h j (by omega) (by omega),fun h j _ hj=>h j (by omega)⟩
abbrev a00 (c:Nat→Bool) (a N:Nat):Unit⊕Nat:=Nz (gS c) (N-a) a ()
theorem Q9 {α:Type} {l:List α} {d:α} {p:α→Prop}:(∀ j,j<l.length→p (l.getD j d))↔∀ a∈l,p a:=by
 constructor
 ·intro h a ha
  obtain⟨j,hj,rfl⟩:=List.mem_iff_getElem.1 ha
  simpa[List.getD,List.getElem?_eq_getElem hj] using h j hj
 ·intro h j hj
  have:l.getD j d=l[j]:=by simp[List.getD,List.getElem?_eq_getElem hj]
  rw[this];exact h _ (List.getElem_mem hj)
end Pv
namespace fA
open Go Tw Pv
def bV:List Int→Int
 | []=>1
 | a::t=>a*bV t
def WG:List Int→Int→List Int
 | [],_=>[]
 | a::t,n=>(n/bV t)%a::WG t n
def TA:List Int→List Int→Int
 | a::t,d::p=>d*bV t+TA t p
 | _,_=>0
def xB:List Int→List Int→Bool
 | [],[]=>true
 | a::t,d::p=>decide (0≤d∧d<a)&&xB t p
 | _,_=>false
def yP (s:List Int):Prop:=∀ a∈s,1≤a∧a≤12
instance (s:List Int):Decidable (yP s):=inferInstanceAs (Decidable (∀ a∈s,1≤a∧a≤12))
structure Fine (s:List Int):Prop where
 len:s.length≤6
 sz:yP s
 many:bV s≤2000
def BH (n:Nat) (o:List Int):Bool:=decide (o.length=n∧(∀ a∈o,0≤a∧a<n)∧o.Nodup)
theorem zD {z:Int} (h0:-(2^62)≤z) (h1:z<2^62):IntKind.i64.wrap z=z:=by
 simp only[IntKind.wrap,IntKind.bits,IntKind.signed]
 rcases Int.lt_or_le z 0 with h | h
 ·have:z%(2^64:Int)=z+2^64:=by
   have:=Int.add_mul_emod_self_left z (2^64) 1
   rw[Int.mul_one] at this
   rw[←this]
   exact Int.emod_eq_of_lt (by omega) (by omega)
  simp only[this]
  rw[if_pos (by simp;omega)]
  omega
 ·have:z%(2^64:Int)=z:=Int.emod_eq_of_lt h (by omega)
  simp only[this]
  rw[if_neg (by simp;omega)]
theorem yP.tail {a:Int} {t:List Int} (h:yP (a::t)):yP t:=fun b hb=>h b (List.mem_cons_of_mem _ hb)
theorem ny:∀ {s:List Int},yP s→1≤bV s
 | [],_=>Int.le_refl _
 | a::t,h=>by
  have h1:=h a (List.mem_cons_self ..)
  have h2:=ny h.tail
  have:=Int.mul_le_mul h1.1 h2 (by omega) (by omega)
  simpa[bV] using this
theorem Eb:∀ (s t:List Int),bV (s++t)=bV s*bV t
 | [],t=>by simp[bV]
 | a::s,t=>by simp[bV,Eb s t,Int.mul_assoc]
theorem GU:∀ {s p:List Int},xB s p=true↔p.length=s.length∧∀ j,j<s.length→0≤p.getD j 0∧p.getD j 0<s.getD j 0
 | [],[]=>by simp[xB]
 | a::t,d::p=>by
  simp only[xB,Bool.and_eq_true,decide_eq_true_eq,GU (s:=t),List.length_cons]
  constructor
  ·rintro⟨h1,h2,h3⟩
   refine⟨by omega,fun j hj=>?_⟩
   cases j with
   | zero=>simpa using h1
   | succ j=>simpa using h3 j (by omega)
  ·rintro⟨h1,h2⟩
   exact⟨by simpa using h2 0 (by omega),by omega,fun j hj=>by simpa using h2 (j+1) (by omega)⟩
 | [],_::_=>by simp[xB]
 | _::_,[]=>by simp[xB]
theorem getD_mem {s:List Int} {k:Nat} (h:k<s.length):s.getD k 0∈s:=by
 have:s.getD k 0=s[k]:=by simp[List.getD,List.getElem?_eq_getElem h]
 rw[this];exact List.getElem_mem h
theorem Ah {l:List Int} {i j:Nat} {a:Int} (h:i<l.length):(l.set i a).getD j 0=if i=j then a else l.getD j 0:=by
 simp only[List.getD_eq_getElem?_getD,List.getElem?_set]
 split<;>simp_all
def yG (s:List Int):Int:=qj (fun k n=>if IntKind.i64.wrap (n*s.getD k 0)<3000 then IntKind.i64.wrap (n*s.getD k 0) else 3000) s.length 0 1
theorem GV {s:List Int} (hs:yP s):yG s=min 3000 (bV s):=by
 have:=NC (g:=fun k n=>if IntKind.i64.wrap (n*s.getD k 0)<3000 then IntKind.i64.wrap (n*s.getD k 0) else 3000) (m:=s.length) (k:=0) (s:=(1:Int)) (fun k n=>n=min 3000 (bV (s.take k))) (by simp[bV];decide) (fun j n h1 h2 h3=>by
  have hj:j<s.length:=by omega
  have ha:=hs _ (getD_mem hj)
  have hp:1≤bV (s.take j):=ny fun a ha=>hs a (List.mem_of_mem_take ha)
  have e:bV (s.take (j+1))=bV (s.take j)*s.getD j 0:=by
   rw[List.take_succ_eq_append_getElem hj,Eb]
   simp[bV,List.getD,List.getElem?_eq_getElem hj]
  have hn0:1≤n:=by omega
  have hn1:n≤3000:=by omega
  have h4:n*s.getD j 0≤3000*12:=Int.mul_le_mul hn1 ha.2 (by omega) (by omega)
  have h5:1≤n*s.getD j 0:=by have:=Int.mul_le_mul hn0 ha.1 (by omega) (by omega);omega
  rw[zD (by omega) (by omega),e]
  by_cases hc:bV (s.take j)≤3000
  ·have:n=bV (s.take j):=by omega
   rw[this];split<;>omega
  ·have:n=3000:=by omega
   subst this
   have h6:3000*s.getD j 0≤bV (s.take j)*s.getD j 0:=Int.mul_le_mul_of_nonneg_right (by omega) (by omega)
   have h7:3000≤3000*s.getD j 0:=by omega
   split<;>omega)
 rw[Nat.zero_add,List.take_length] at this
 exact this
theorem Fine.a01 {s:List Int} (h:Fine s):yG s=bV s:=by rw[GV h.sz];have:=h.many;omega
abbrev cnt (s:List Int):Nat:=(bV s).toNat
theorem Fine.a2T {s:List Int} (h:Fine s):((cnt s:Nat):Int)=bV s:=by have:=ny h.sz;show ((bV s).toNat:Int)=_;omega
theorem Fine.cnt {s:List Int} (h:Fine s):((cnt s:Nat):Int)=yG s:=by rw[h.a01,h.a2T]
theorem Fine.lt {s:List Int} (h:Fine s) {k:Nat} (hk:k<fA.cnt s):decide ((k:Int)<yG s)=true:=by rw[←h.cnt];exact WC hk
theorem Fine.no {s:List Int} (h:Fine s):decide (((fA.cnt s:Nat):Int)<yG s)=false:=by rw[←h.cnt];exact YZ _
theorem Fine.a2U {s:List Int} (h:Fine s):s.length≤most:=by have:=h.len;unfold most;omega
end fA
namespace Tw
open Go Go.Proofs Go.Shelf
section
variable {P:Program} {ρ:Ren}
theorem ND {M:Mp} {w:World} {h:List HB} (hV:Valid M jW (fQ h) w) {b off len cap:Nat} {ex:Bool} {y:Value} (hx:VR M.h (.slc b off len cap 1 ex) y) (h0:0<len) {k:BK} {cs r:List TV} (hb:h[b]? = some (.cells k cs)) (hk:k≠.ro)
  (hl:k=.last→off+cap=cs.length) (hr:sub cs off len=some r) :
  ∃ ls p cap',M (.h b)=some (.cells ls)∧p∈ls∧y=.slice (some ⟨p.c,off,none⟩) len cap'∧len≤cap'∧cap≤cap'∧off+cap≤p.ext∧off+cap'≤p.tot∧cap'<2^63∧zT M.h w k cs p∧p.base=0∧(∀ c∈cs,bJ c=true) ∧
   ∃ xs:List Value,aG M.h r xs∧∀ (j:Nat) (v:Value),xs[j]? = some v→w.cell? ⟨p.c,off+j,none⟩=some v:=by
 cases hx with
 | slc hm hp hext hle hcap hex ha a2V=>
  rename_i ls p a cap'
  obtain⟨blk,h1,h2⟩:=hV.ok _ _ hm trivial
  have hg:fQ h (.h b)=some (.cells k cs):=by simp[St.get,hb]
  rw[hg] at h1;cases h1
  have hp:=hp.resolve_left (by omega)
  have hpl:=h2.2.1 p hp
  have hb0:=hpl.base hk
  rcases ha with ha | ⟨rfl,ha⟩
  ·omega
  obtain⟨xs,g1,g2⟩:=hpl.slice hr (by omega) (fun e=>by have:=hl e;have:=hpl.ext;omega)
  rw[hb0] at g2 ha ⊢
  simp only[Nat.zero_add,Nat.mul_one] at g2 ha hext ⊢
  exact⟨ls,p,cap',hm,hp,rfl,by omega,hcap,hext,ha,a2V,hpl,hb0,h2.1,xs,g1,g2⟩
end
end Tw
namespace Tw
open Go Go.Proofs Go.Shelf Go.Sort
theorem WH {N:Np} {k:IntKind} {n:Int} {y:Value} (h:VR N (.int k n) y):y=.int k n:=by cases h;rfl
section
variable {P:Program} {M:Mp} {D:Key→Prop} {C:Ct} {w w':World}
theorem WI (h:Valid M D C w) {k:Key} {ls:List Pl} {p:Pl} {cs cs':List TV} {kk rU:BK}
  (hk:M k=some (.cells ls)) (hd:D k) (hc:C k=some (.cells kk cs)) (hp:p∈ls) (hkk:(kk=.own∧rU=.own)∨((kk=.grow∨kk=.last)∧rU=.last∧p.ext=cs.length))
  (hl:cs'.length=cs.length) (hn:∀ c∈cs',bJ c=true) {arr':Array Value} {ty':TypeId} (hrow:w'.heap[p.c]? = some (.cells arr' ty' (0,0))) (hs':arr'.size=p.tot)
  (hfr:∀ c,c<w.heap.size→c≠p.c→w'.heap[c]? = w.heap[c]?) (hsz:w.heap.size≤w'.heap.size) (ho:w'.os=w.os) (hou:w'.output=w.output) (ht:w'.tape=w.tape)
  (hrel:∀ (i:Nat) (c:TV) (v:Value),cs'[i]? = some c→arr'[i]? = some v→VR M.h c v) :
  Valid M D (fJ C k (.cells rU cs')) w'∧Ext M C w M (fJ C k (.cells rU cs')) w' [k]:=by
 obtain⟨hb,he,h1,hpl,hnd,Vt,arr,ty,hr,hs,hle,hv⟩:=h.wrB hk hd hc hp hkk
 have hne:kk≠.ro:=by rcases hkk with⟨e,_⟩ | ⟨e | e,_⟩<;>rw[e]<;>simp
 have hwr:∀ b0,C k=some b0→wr b0=true:=fun b0 hb0=>by rw[hc] at hb0;cases hb0;cases kk<;>simp_all [wr]
 have hself:aO M k (.cells ls)=M:=wP hk
 have hframe:∀ c,c<w.heap.size→c∉ah (.cells ls)→w'.heap[c]? = w.heap[c]?:=fun c hc0 hc=>hfr c hc0 (fun e=>hc (by rw[e];exact List.mem_map.2 ⟨p,hp,rfl⟩))
 have hnew:∀ c∈ah (.cells ls),(∃ l0,M k=some l0∧c∈ah l0)∨w.heap.size≤c:=fun c hc=>.inl ⟨_,hk,hc⟩
 have hle':jR M (aO M k (.cells ls)):=by rw[hself];exact .refl _
 have hlt:∀ q∈ls,q.c<w.heap.size:=fun q hq=>h.inb _ _ hk q.c (List.mem_map.2 ⟨q,hq,rfl⟩)
 refine⟨?_,?_⟩
 ·have:=h.upd (D':=D) (w':=w') k (.cells rU cs') (.cells ls) (fun j hj=>.inl hj) (fun l0 h0=>by
   rw[hk] at h0;cases h0
   exact⟨hd,.refl _,hwr⟩) hframe hnew hsz (by
   rw[hself]
   refine⟨hn,fun q hq=>?_,fun e=>?_,fun e=>⟨hnd,fun q1 hq1 q2 hq2 e1 e2=>by rw[Vt q1 hq1 (by omega),Vt q2 hq2 (by omega)]⟩⟩
   ·have hq0:=hpl q hq
    by_cases hqc:q.c=p.c
    ·have:=zW hnd hp hq hqc
     subst this
     exact⟨⟨arr',ty',(0,0),hrow,hs',fun _=>rfl,fun _ i c v _ a b=>hrel i c v a (by simpa[hb] using b)⟩,by omega,by omega,fun _=>hb⟩
    ·obtain⟨a2W,ty2,fz2,t1,t2,t3,t4⟩:=hq0.row
     refine⟨⟨a2W,ty2,fz2,(hfr q.c (hlt q hq) hqc).trans t1,t2,fun _=>t3 hne,fun hz i c v hi a b=>?_⟩,hq0.fit,by have:=hq0.ext;omega,fun _=>hq0.base hne⟩
     exfalso
     apply hqc
     rcases hkk with⟨e,_⟩ | ⟨_,e,_⟩
     ·obtain⟨b',g1,g2⟩:=h.ok k _ hk hd
      rw[hc] at g1;cases g1
      obtain⟨q',g3,_⟩:=g2.2.2.1 e
      rw[g3] at hq hp
      simp at hq hp
      rw[hq,hp]
     ·rw[Vt q hq (by rw[hz e];omega)]
   ·rcases hkk with⟨e0,_⟩ | ⟨_,e1,_⟩
    ·obtain⟨b',g1,g2⟩:=h.ok k _ hk hd
     rw[hc] at g1;cases g1
     obtain⟨q',g3,g4⟩:=g2.2.2.1 e0
     exact⟨q',g3,by omega⟩
    ·rw[e1] at e;cases e)
  rwa [hself] at this
 ·have:=Ext.upd (M:=M) (C:=C) (w:=w) (w':=w') k (.cells rU cs') (.cells ls) [k] (.inl ⟨by simp[hc],rfl,by simp[hk],hwr⟩) hle' hframe hnew hsz ho hou ht
  rwa [hself] at this
end
def GX:List TV→Option (List Int)
 | []=>some []
 | .int .i64 n::r=>(GX r).map (n::·)
 | _=>none
theorem BI:∀ {cs:List TV} {zs:List Int},GX cs=some zs→cs=zs.map fun n=>TV.int .i64 n
 | [],zs,h=>by simp[GX] at h;subst h;rfl
 | c::r,zs,h=>by
  unfold GX at h
  split at h
  ·rename_i e;cases e
  ·rename_i n r' e
   cases e
   simp only[Option.map_eq_some_iff] at h
   obtain⟨ys,h1,rfl⟩:=h
   rw[BI h1];rfl
  ·cases h
def sG (l:List Int):List Int:=l.mergeSort fun x y=>decide (x≤y)
def Qa (g:List Int→List Int) (fI:Nat):ay
 | .fn f [] [],[d],h=>
  if f=fI then
   match d with
   | .nil .slc=>some (.bf [],h,[])
   | .slc _ _ 0 _ _ _=>some (.bf [],h,[])
   | .slc b 0 n n' 1 _=>match h[b]? with
    | some (.cells k cs)=>match oN k true,GX cs with
     | some k',some zs=>if n=n'∧cs.length=n∧0<n∧n≤2^20 then some (.bf [],h.set b (.cells k' ((g zs).map fun x=>TV.int .i64 x)),[b]) else none
     | _,_=>none
    | _=>none
   | _=>none
  else none
 | _,_,_=>none
def Qb:Nat→ay:=Qa sG
section
variable {P:Program} {ρ:Ren}
theorem Qc (L:Lays.n189 P ρ):aj P (Qb (ρ.f 189)):=by
 intro fv args h v h' ws hc M w x xs hV hloc hx hxs
 unfold Qb Qa at hc
 split at hc
 case h_2=>cases hc
 rename_i f d
 split at hc
 case isFalse=>cases hc
 rename_i hf
 subst hf
 cases hx with
 | @fn _ _ _ ys zs h1 h1a h3 h3a=>
 have:ys=[]:=List.eq_nil_of_length_eq_zero h1.symm
 subst this
 have:zs=[]:=List.eq_nil_of_length_eq_zero h3.symm
 subst this
 obtain⟨dv,r1,rfl,hdv,hxs⟩:=hxs.cu
 have:=hxs.iI
 subst this
 have enters:∀ {R:Value→World→Prop},Calls P (ρ.f 189) #[dv] w (uD R) →
   ∃ d,(∀ w,(Deferred.ofValue (.func (.func (ρ.f 189)) [].toArray [].toArray) [dv].toArray).run P w=.ok d w)∧((yV P d w R∧∃ f a b,(TV.fn (ρ.f 189) [] [])=.fn f a b)∨(EC P d w R∧∃ l,(TV.fn (ρ.f 189) [] [])=.iF l)):=by
  intro R Fh
  refine⟨{ target:=.fn (.func (ρ.f 189)) #[],args:=#[dv] },fun w=>by simp[Deferred.ofValue],.inl ⟨⟨ρ.f 189,_,?_,fun n=>callsIn_wide.2 Fh⟩,_,_,_,rfl⟩⟩
  have e1:=L.f189
  have e2 : ¬ (Body.n189 ρ).name = "runtime.NumGoroutine" := by simp [Body.n189]
  obtain⟨c,e3⟩:∃ c,(Body.n189 ρ).body=some c:=⟨_,rfl⟩
  simp[invoke,callFunc,program,Sem.run,e1,e2,e3]
 split at hc
 ·simp only[Option.some.injEq,Prod.mk.injEq] at hc
  obtain⟨rfl,rfl,rfl⟩:=hc
  cases hdv
  refine enters ((Any.slices_Sort_int_none L none 0 w).mono fun e w' ⟨he,hw⟩=>?_)
  subst he;subst hw
  exact⟨M,hV,hloc,.refl _ _ _,.CU .nil⟩
 ·simp only[Option.some.injEq,Prod.mk.injEq] at hc
  obtain⟨rfl,rfl,rfl⟩:=hc
  cases hdv
  refine enters ((Any.slices_Sort_int_none L _ _ w).mono fun e w' ⟨he,hw⟩=>?_)
  subst he;subst hw
  exact⟨M,hV,hloc,.refl _ _ _,.CU .nil⟩
 ·rename_i b n n' ex _
  split at hc
  case h_2=>cases hc
  rename_i k cs hb
  split at hc
  case h_2=>cases hc
  rename_i k' zs hk' hzs
  split at hc
  case isFalse=>cases hc
  rename_i hcond
  obtain⟨rfl,hcl,hn0,a5Z⟩:=hcond
  simp only[Option.some.injEq,Prod.mk.injEq] at hc
  obtain⟨rfl,rfl,rfl⟩:=hc
  have hcs:=BI hzs
  have hzl:zs.length=n:=by rw[←hcl,hcs,List.length_map]
  have hk:k≠.ro:=by rintro rfl;cases hk'
  have a02:sub cs 0 n=some cs:=by
   unfold sub
   rw[if_pos (by omega)]
   simp[←hcl]
  obtain⟨ls,p,cap',k1,k2,rfl,k3,k4,k5,k6,k7,k8,k9,k10,csv,k11,k12⟩:=ND hV hdv hn0 hb hk (fun _=>by omega) a02
  have hpe:p.ext=cs.length:=by have:=k8.ext;omega
  obtain⟨arr,ty,fz,z1,z2,z3,_⟩:=k8.row
  have:=z3 hk
  subst this
  have hlt:=(Array.getElem?_eq_some_iff.1 z1).1
  have hcv:csv=zs.map fun n=>Value.int .i64 n:=by
   apply List.ext_getElem?
   intro i
   by_cases hi:i<n
   ·have hi1:i<cs.length:=by omega
    have hi2:i<csv.length:=by rw[←k11.len];exact hi1
    have:=k11.at_ i cs[i] csv[i] (by simp[hi1]) (by simp[hi2])
    have hc1:cs[i]? = (zs.map fun n=>TV.int .i64 n)[i]?:=by rw[←hcs]
    rw[List.getElem?_eq_getElem hi1,List.getElem?_map,List.getElem?_eq_getElem (by omega)] at hc1
    simp only[Option.map_some,Option.some.injEq] at hc1
    rw[hc1] at this
    rw[List.getElem?_eq_getElem hi2,List.getElem?_map,List.getElem?_eq_getElem (by omega)]
    rw[WH this];rfl
   ·rw[List.getElem?_eq_none (by rw[←k11.len];omega),List.getElem?_eq_none (by rw[List.length_map];omega)]
  have hH:Holds (Value.int .i64) w p.c 0 zs.toArray:=fun j hj=>by
   simp only[List.size_toArray] at hj
   refine⟨?_,by simp[World.frozen?,z1]⟩
   refine k12 j _ ?_
   rw[hcv,List.getElem?_map,List.getElem?_eq_getElem hj]
   simp[hj]
  have Fh:=Any.slices_Sort_int L p.c 0 cap' zs w hH hlt (by omega)
  rw[hzl] at Fh
  refine enters (Fh.mono fun e w' ⟨he,N,os,hw⟩=>?_)
  subst he
  have hsl:(sG zs).length=n:=by unfold sG;rw[List.length_mergeSort,hzl]
  have hgb:fQ h (.h b)=some (.cells k cs):=by simp[St.get,hb]
  have hkk:(k=.own∧k'=.own)∨((k=.grow∨k=.last)∧k'=.last∧p.ext=cs.length):=by
   rcases yg hk' with e | ⟨a,b,_⟩
   ·exact .inl e
   ·exact .inr ⟨a,b,hpe⟩
  have hrow:w'.heap[p.c]? = some (.cells (putCells (Value.int .i64) 0 (sG zs).toArray arr) ty (0,0)):=by
   rw[hw,heap_grow_old _ _ (by simp[putRow,mapBlock,Sort.ahead];exact hlt)]
   simp only[putRow,mapBlock,Sort.ahead,Array.getElem?_modify,if_true,z1,Option.map_some,onCells]
   rfl
  have hfr:∀ c,c<w.heap.size→c≠p.c→w'.heap[c]? = w.heap[c]?:=fun c hc0 hne=>by
   rw[hw,heap_grow_old _ _ (by simp[putRow,mapBlock,Sort.ahead];exact hc0)]
   simp only[putRow,mapBlock,Sort.ahead,Array.getElem?_modify]
   rw[if_neg (fun e=>hne e.symm)]
  obtain⟨g1,g2⟩:=WI (w':=w') (cs':=(sG zs).map fun x=>TV.int .i64 x) hV k1 trivial hgb k2 hkk (by rw[List.length_map,hsl,hcl]) (fun c hc=>by
   obtain⟨y,_,rfl⟩:=List.mem_map.1 hc;rfl) hrow (by simp[putCells,z2]) hfr (by rw[hw];simp[putRow,mapBlock,Sort.ahead]) (by rw[hw];rfl) (by rw[hw];rfl) (by rw[hw];rfl) (fun i c u hc hu=>by
   rw[List.getElem?_map] at hc
   simp only[Option.map_eq_some_iff] at hc
   obtain⟨y,hy,rfl⟩:=hc
   have hi:i<(sG zs).length:=(List.getElem?_eq_some_iff.1 hy).1
   have hia:i<arr.size:=by omega
   simp only[putCells,Array.getElem?_mapIdx,Array.getElem?_eq_getElem hia,Option.map_some,Option.some.injEq] at hu
   rw[if_pos ⟨Nat.zero_le _,by simp;omega⟩] at hu
   subst hu
   have:(sG zs).toArray[i-0]! = y:=by
    have h9:=(List.getElem?_eq_some_iff.1 hy).2
    simp[hi,h9]
   rw[this]
   exact .int _ _)
  have hbl:=(List.getElem?_eq_some_iff.1 hb).1
  have hset:fQ (h.set b (.cells k' ((sG zs).map fun x=>TV.int .i64 x)))=fJ (fQ h) (.h b) (.cells k' ((sG zs).map fun x=>TV.int .i64 x)):=fC ⟨[],[],h,[]⟩ b _ hbl [] []
  exact⟨M,by rw[hset];exact g1,hloc,by rw[hset];exact g2,.CU .nil⟩
 ·cases hc
theorem aj.or {P:Program} {c1 c2:ay} (h1:aj P c1) (h2:aj P c2):aj P (fun f xs h=>(c1 f xs h).orElse fun _=>c2 f xs h):=by
 intro fv args h v h' ws hc
 cases he:c1 fv args h with
 | some r=>
  simp only[he,Option.orElse_some,Option.some.injEq] at hc
  subst hc
  exact h1 _ _ _ _ _ _ he
 | none=>
  simp only[he,Option.orElse_none] at hc
  exact h2 _ _ _ _ _ _ hc
end
end Tw
namespace Tw
open Go
def Jp (x:Int):List Int→List Int
 | []=>[x]
 | y::l=>match decide (x≤y) with
  | true=>x::y::l
  | false=>y::Jp x l
def NG:List Int→List Int
 | []=>[]
 | x::l=>Jp x (NG l)
theorem xE (x:Int):∀ l,(Jp x l).Perm (x::l)
 | []=>.refl _
 | y::l=>by
  unfold Jp
  split
  ·exact .refl _
  ·exact ((xE x l).cons y).trans (.swap x y l)
theorem Ec:∀ l,(NG l).Perm l
 | []=>.refl _
 | x::l=>(xE x (NG l)).trans ((Ec l).cons x)
theorem yH (x:Int):∀ {l:List Int},l.Pairwise (·≤·)→(Jp x l).Pairwise (·≤·)
 | [],_=>by simp[Jp]
 | y::l,h=>by
  unfold Jp
  have h1:=List.pairwise_cons.1 h
  split
  ·rename_i e
   have e:=of_decide_eq_true e
   exact List.pairwise_cons.2 ⟨fun a ha=>by
    rcases List.mem_cons.1 ha with rfl | ha
    ·exact e
    ·exact Int.le_trans e (h1.1 a ha),h⟩
  ·rename_i e
   have e:=of_decide_eq_false e
   exact List.pairwise_cons.2 ⟨fun a ha=>by
    rcases List.mem_cons.1 ((xE x l).mem_iff.1 ha) with rfl | ha
    ·omega
    ·exact h1.1 a ha,yH x h1.2⟩
theorem yI:∀ l,(NG l).Pairwise (·≤·)
 | []=>.nil
 | x::l=>yH x (yI l)
theorem TB:NG=sG:=by
 funext l
 refine List.Perm.eq_of_pairwise (le:=(·≤·)) (fun a b _ _ h1 h2=>by omega) (yI l) ?_ ((Ec l).trans (List.mergeSort_perm l _).symm)
 have:=List.pairwise_mergeSort (le:=fun x y:Int=>decide (x≤y)) (fun a b c h1 h2=>by simp at *;omega) (fun a b=>by simp;omega) l
 exact this.imp fun h=>by simpa using h
end Tw
namespace Tw
open Go
def a03 (f:Nat) (b:Bool):ay:=fun fv args h=>match fv,args with
 | .fn g [] [],[]=>if g=f then some (.bool b,h,[]) else none
 | _,_=>none
def isT:Option (TV×List HB×List Nat)→Bool
 | some (.bool true,_,[])=>true
 | _=>false
end Tw
namespace Go.Proofs.YtjkgcifieggcpaaGreat
open Go Tw Go.Shelf
def sortL_ren:Go.Shelf.Ren:=⟨fun | 189=>104 | 125=>141 | 257=>140 | 128=>193 | 129=>194 | 294=>184 | 295=>185 | 296=>186 | 297=>187 | 298=>188 | 299=>189 | 216=>190 | 300=>191 | 301=>192 | 328=>227 | 329=>228 | 330=>229 | 331=>230 | 332=>231 | 215=>232 | 343=>253 | n=>n,fun | 28=>22 | 3=>3 | 46=>71 | 0=>0 | 51=>220 | 53=>222 | 4=>4 | 183=>212 | 182=>211 | 131=>217 | 5=>5 | 9=>9 | 218=>249 | 222=>253 | 228=>273 | 229=>274 | n=>n,fun | n=>n⟩
theorem sortL:Go.Proofs.Lays.n189 Tryz.prog sortL_ren where
 mixed:=by kernel_rfl
 f125:=Tryz.func141.trans (congrArg some (by kernel_rfl))
 f128:=Tryz.func193.trans (congrArg some (by kernel_rfl))
 f129:=Tryz.func194.trans (congrArg some (by kernel_rfl))
 f189:=Tryz.func104.trans (congrArg some (by kernel_rfl))
 f215:=Tryz.func232.trans (congrArg some (by kernel_rfl))
 f216:=Tryz.func190.trans (congrArg some (by kernel_rfl))
 f257:=Tryz.func140.trans (congrArg some (by kernel_rfl))
 f294:=Tryz.func184.trans (congrArg some (by kernel_rfl))
 f295:=Tryz.func185.trans (congrArg some (by kernel_rfl))
 f296:=Tryz.func186.trans (congrArg some (by kernel_rfl))
 f297:=Tryz.func187.trans (congrArg some (by kernel_rfl))
 f298:=Tryz.func188.trans (congrArg some (by kernel_rfl))
 f299:=Tryz.func189.trans (congrArg some (by kernel_rfl))
 f300:=Tryz.func191.trans (congrArg some (by kernel_rfl))
 f301:=Tryz.func192.trans (congrArg some (by kernel_rfl))
 f328:=Tryz.func227.trans (congrArg some (by kernel_rfl))
 f329:=Tryz.func228.trans (congrArg some (by kernel_rfl))
 f330:=Tryz.func229.trans (congrArg some (by kernel_rfl))
 f331:=Tryz.func230.trans (congrArg some (by kernel_rfl))
 f332:=Tryz.func231.trans (congrArg some (by kernel_rfl))
 f343:=Tryz.func253.trans (congrArg some (by kernel_rfl))
 t0:=Tryz.underlying0
 a0:=Tryz.isAgg0
 z0:=Tryz.sizeOf0
 v0:=Tryz.zeroValue0
 t3:=Tryz.underlying3
 a3:=Tryz.isAgg3
 z3:=Tryz.sizeOf3
 v3:=Tryz.zeroValue3
 t4:=Tryz.underlying4
 a4:=Tryz.isAgg4
 z4:=Tryz.sizeOf4
 v4:=Tryz.zeroValue4
 t5:=Tryz.underlying5
 a5:=Tryz.isAgg5
 z5:=Tryz.sizeOf5
 v5:=Tryz.zeroValue5
 t9:=Tryz.underlying9
 a9:=Tryz.isAgg9
 z9:=Tryz.sizeOf9
 v9:=Tryz.zeroValue9
 t28:=Tryz.underlying22
 a28:=Tryz.isAgg22
 z28:=Tryz.sizeOf22
 v28:=Tryz.zeroValue22
 t46:=Tryz.underlying71
 a46:=Tryz.isAgg71
 z46:=Tryz.sizeOf71
 v46:=Tryz.zeroValue71
 t51:=Tryz.underlying220
 a51:=Tryz.isAgg220
 z51:=Tryz.sizeOf220
 v51:=Tryz.zeroValue220
 t53:=Tryz.underlying222
 a53:=Tryz.isAgg222
 z53:=Tryz.sizeOf222
 v53:=Tryz.zeroValue222
 t131:=Tryz.underlying217
 a131:=Tryz.isAgg217
 z131:=Tryz.sizeOf217
 v131:=Tryz.zeroValue217
 t182:=Tryz.underlying211
 a182:=Tryz.isAgg211
 z182:=Tryz.sizeOf211
 v182:=Tryz.zeroValue211
 t183:=Tryz.underlying212
 a183:=Tryz.isAgg212
 z183:=Tryz.sizeOf212
 v183:=Tryz.zeroValue212
 t218:=Tryz.underlying249
 a218:=Tryz.isAgg249
 z218:=Tryz.sizeOf249
 v218:=Tryz.zeroValue249
 t222:=Tryz.underlying253
 a222:=Tryz.isAgg253
 z222:=Tryz.sizeOf253
 v222:=Tryz.zeroValue253
 t228:=Tryz.underlying273
 a228:=Tryz.isAgg273
 z228:=Tryz.sizeOf273
 v228:=Tryz.zeroValue273
 t229:=Tryz.underlying274
 a229:=Tryz.isAgg274
 z229:=Tryz.sizeOf274
 v229:=Tryz.zeroValue274
def a2Y:ay:=fun f xs h=>(a03 17 true f xs h).orElse fun _=>Qb 104 f xs h
end Go.Proofs.YtjkgcifieggcpaaGreat
namespace Go.Proofs.YtjkgcifieggcpaaGreat
def Tb:Tw.Tab:={
 live:=[(3,[(0,[1]),(1,[1,12]),(2,[2]),(3,[1,3,4]),(4,[1,3,4,5,6]),(5,[1,3,4,5,6,7]),(6,[1,3,4,5,6,7,37]),(7,[2]),(8,[1,3,4,5,6,7,39]),(9,[2]),(10,[1,3,4,5,6,8,9]),(11,[1,5,6,88]),(12,[2]),(13,[2])]),
  (4,[(0,[1]),(1,[1,10]),(2,[2]),(3,[1,3,4]),(4,[1,3,4,5]),(5,[1,3,4,5,20]),(6,[2]),(7,[1,3,4,7]),(8,[1,3,4,39]),(9,[2]),(10,[2])]),
  (5,[(0,[1,2,3]),(1,[1,2,3,25]),(2,[6]),(3,[1,2,3,7]),(4,[1,2,3,7,30]),(5,[1,2,3,7]),(6,[1,2,3,7,38]),(7,[6]),(8,[1,2,3,8,9]),(9,[1,2,3,8,9,10]),(10,[1,2,3,8,9,10,11]),(11,[1,2,3,8,9,10,11,61]),(12,[1,2,3,8,9,10,11]),(13,[1,2,3,8,9,10,11,71]),(14,[1,2,3,8,9,10,11]),(15,[1,2,3,8,9,10,11,73]),(16,[6]),(17,[2,8,9,10,12]),(18,[6])]),
  (6,[(0,[1,2]),(1,[1,2,22]),(2,[4]),(3,[1,2,5]),(4,[1,2,5,6]),(5,[1,2,5,6,31]),(6,[1,2,5,6]),(7,[1,2,5,6]),(8,[2,5,7]),(9,[2,5,7,55]),(10,[2,5,7]),(11,[2,5,7]),(12,[2,5]),(13,[2,5,87]),(14,[4]),(15,[2,5,8,9]),(16,[2,5,8,9,10,11]),(17,[2,5,8,9,10,11,12,13]),(18,[2,5,8,9,10,11,12,13,14,15]),(19,[5,8,9,10,11,12,13,14,15,16,17]),(20,[8,9,10,11,12,13,14,15,16,17,18,19]),(21,[4])]),
  (7,[(0,[1]),(1,[1,12]),(2,[2]),(3,[1,3,4]),(4,[1,3,4,5,6]),(5,[1,3,4,5,6,7]),(6,[1,3,4,5,6,7,27]),(7,[2]),(8,[1,3,4,5,6,8,9]),(9,[1,5,6,76]),(10,[2]),(11,[2])]),
  (8,[(0,[1]),(1,[1,12]),(2,[2]),(3,[1,3,4]),(4,[1,3,4,5,6]),(5,[1,3,4,5,6,7]),(6,[1,3,4,5,6,7,27]),(7,[2]),(8,[1,3,4,5,6,8,9]),(9,[2])]),
  (9,[(0,[]),(1,[1,2]),(2,[1,2,4]),(3,[1,2,4,5,6]),(4,[1,2,4,5,6,7,8]),(5,[1,2,4,5,6,7,8,9,10]),(6,[1,2,4,5,6,7,8,9,10,11,12]),(7,[1,2,4,5,6,7,8,9,10,11,12,13,14]),(8,[1,2,4,5,6,7,8,9,10,11,12,13,14,15,16]),(9,[144]),(10,[0]),(11,[17,18]),(12,[2,17,18]),(13,[2,4,17,18,19]),(14,[2,4,6,17,18,19,20]),(15,[2,4,6,8,18,19,20]),(16,[2,4,6,8,10,18,19,20]),(17,[2,4,6,8,10,12,18,19,20]),(18,[2,4,6,8,10,12,14,18,19,20]),(19,[2,4,6,8,10,12,14,18,19,20,21]),(20,[2,4,6,8,10,12,14,18,19,20,21,199]),(21,[2,4,6,8,10,12,14,18,19,20,21]),(22,[2,4,6,8,10,12,14,18,19,20,21,22,23]),(23,[2,4,6,8,10,12,14,18,19,20,21,22,23]),(24,[2,4,6,8,10,12,14,16,18,19,20,21,22]),(25,[18,21,22,266]),(26,[0]),(27,[21,22,24]),(28,[0])]),
  (10,[(0,[1]),(1,[1,15]),(2,[2]),(3,[1,3,4]),(4,[1,3,4,5,6]),(5,[1,3,4,5,41]),(6,[2]),(7,[1,3,4,5,43]),(8,[2]),(9,[1,3,5,54]),(10,[2]),(11,[1,3,5,7]),(12,[1,3,5,7,8]),(13,[1,3,5,7,8,64]),(14,[1,3,5,7,8]),(15,[1,3,5,7,8,75]),(16,[2]),(17,[1,3,5,7,8]),(18,[1,3,7,9]),(19,[1,3,7,9,87]),(20,[1,3,7,9]),(21,[1,3,7,9,10]),(22,[1,3,7,9,11,12]),(23,[1,3,7,9,116]),(24,[2]),(25,[2])]),
  (11,[(0,[1,2,3]),(1,[1,2,3,18]),(2,[6]),(3,[1,2,3,7,8]),(4,[1,2,3,7,8,9,10]),(5,[1,2,3,7,8,9,10,30]),(6,[1,2,3,7,8]),(7,[1,2,3,7,8,9,10]),(8,[2,3,7,8,9,10,11]),(9,[2,3,7,8,9,10,11,12,13]),(10,[2,3,7,8,9,11,12,91]),(11,[6]),(12,[2,3,9,11,12,118]),(13,[6]),(14,[2,3,9,11,12,14]),(15,[2,3,9,11,12,14,15]),(16,[2,3,9,11,12,14,15,122]),(17,[2,3,9,11,12,14,15]),(18,[2,3,9,11,12,14,15,149]),(19,[6]),(20,[2,3,9,11,12,14,15]),(21,[6])]),
  (12,[(0,[1]),(1,[1,15]),(2,[2]),(3,[1,3]),(4,[1,3,4]),(5,[1,3,4,21]),(6,[1,3,4]),(7,[1,3,4]),(8,[1,3,6]),(9,[1,3,6,7,8]),(10,[1,6,7,8,9,10]),(11,[1,7,8,59]),(12,[2]),(13,[1,67]),(14,[2]),(15,[1]),(16,[11,12]),(17,[2])]),
  (13,[(0,[1,2]),(1,[1,2,21]),(2,[4]),(3,[1,2,5,6]),(4,[1,2,5,6,7,8]),(5,[1,2,5,6,7,8,9,10]),(6,[1,2,5,7,9,65]),(7,[4]),(8,[1,2,5,7,9,11]),(9,[1,2,5,7,9,11,69]),(10,[1,2,5,7,9,11]),(11,[1,2,5,7,9,11,80]),(12,[4]),(13,[2,5,7,9,12]),(14,[2,5,7,9,12,13]),(15,[2,5,7,9,12,13,14]),(16,[2,5,7,9,12,13,14,94]),(17,[2,5,7,9,12,13,14]),(18,[2,5,7,9,12,13,14,131]),(19,[4]),(20,[2,5,7,9,12,13,14,15]),(21,[2,5,7,9,12,13,14,15,138]),(22,[2,5,7,9,12,13,14,15]),(23,[2,5,7,9,12,13,14,15,148]),(24,[4]),(25,[2,5,7,9,12,13,14]),(26,[2,5,9,12,13,16]),(27,[5,9,12,13,17,18]),(28,[4])]),
  (14,[(0,[2,3,4]),(1,[2,3,4,25]),(2,[6]),(3,[2,3,4,7,8]),(4,[2,3,4,7,8,33]),(5,[6]),(6,[2,3,4,7,9,10]),(7,[2,3,4,7,9,83]),(8,[6]),(9,[2,3,4,7,9,11]),(10,[2,3,4,7,9,11,12]),(11,[2,3,4,7,9,11,12]),(12,[2,3,9,106]),(13,[6]),(14,[3,9,13]),(15,[3,9,13,14,15]),(16,[3,9,13,14,15,16,17]),(17,[3,9,13,14,15,145]),(18,[6]),(19,[6])]),
  (15,[(0,[2,3]),(1,[2,3,5]),(2,[2,5]),(3,[2,5,40]),(4,[4]),(5,[2,5,6,7]),(6,[2,5,6,7,8,9]),(7,[2,5,6,7,8,9,10,11]),(8,[2,5,6,7,8,9,10,11,12,13]),(9,[5,6,7,8,9,10,11,12,13,14,15]),(10,[5,6,7,8,9,10,11,12,13,14,15,16,17]),(11,[14,15,16,17,111]),(12,[4]),(13,[4])]),
  (16,[(0,[1]),(1,[1,31]),(2,[2]),(3,[1,3]),(4,[1,3,36]),(5,[1,3]),(6,[1,3,46]),(7,[2]),(8,[2])]),
  (17,[(0,[]),(1,[1,2]),(2,[1,2,3,4]),(3,[1,2,3,4,5,6]),(4,[1,2,3,4,5,6,7,8]),(5,[1,2,3,4,5,6,7,8,9,10]),(6,[1,2,3,4,5,6,7,8,9,10,11,12]),(7,[0])]),
  (18,[(0,[1]),(1,[2,3])]),
  (19,[(0,[1]),(1,[2,3])]),
  (20,[(0,[1]),(1,[2])]),
  (21,[(0,[0,1,2]),(1,[0,1,2,7]),(2,[0,1,2,7,16]),(3,[6]),(4,[0,1,2,20]),(5,[6]),(6,[0,1,2,22,23,24]),(7,[0,1,2,22,23,24,25]),(8,[0,1,2,9,22,23,24]),(9,[0,1,2,10,22,23,24]),(10,[0,1,2,10,22,23,24,31]),(11,[6]),(12,[0,1,2,22,23,24]),(13,[2,11]),(14,[42]),(15,[6]),(16,[6])]),
  (22,[(0,[0]),(1,[2])]),
  (23,[(0,[0]),(1,[0,3]),(2,[0,3,4]),(3,[0,3,4,8]),(4,[0,3,4]),(5,[0,3,4]),(6,[2])]),
  (24,[(0,[1,2]),(1,[1,2,6]),(2,[1,2,6,7]),(3,[1,2,6,7,8]),(4,[1,2,6,7,8,16]),(5,[1,2,6,7,8]),(6,[1,2,6,7,8,9]),(7,[1,2,6,7,8,9,33]),(8,[1,2,6,7,8]),(9,[4,5])]),
  (25,[(0,[1,2]),(1,[2])]),
  (26,[(0,[0,1]),(1,[0,1,10]),(2,[4]),(3,[0,1,5]),(4,[0,1,5,14]),(5,[0,1,5]),(6,[0,1,5,25]),(7,[4]),(8,[4])]),
  (27,[(0,[0,1]),(1,[0,1,10]),(2,[4]),(3,[0,1,5]),(4,[0,1,5,14]),(5,[0,1,5]),(6,[0,1,5,26]),(7,[4]),(8,[4])]),
  (28,[(0,[1,2]),(1,[1,2,5]),(2,[1,2,5,6]),(3,[1,2,5,6,18]),(4,[1,2,5,6]),(5,[1,2,5,6,7]),(6,[1,2,5,6,7,8]),(7,[1,2,5,6,7,8,29]),(8,[1,2,5,6,7,8]),(9,[1,2,5,6,7,8]),(10,[1,2,5,6,53]),(11,[1,2,5,6,9]),(12,[1,2,5,6,9,10]),(13,[1,2,5,6,9,10,67]),(14,[1,2,5,6,9,10]),(15,[1,2,5,6,9,10,11]),(16,[1,2,5,6]),(17,[4])]),
  (29,[(0,[1]),(1,[2,3])]),
  (30,[(0,[1]),(1,[2])]),
  (31,[(0,[1,2]),(1,[2])]),
  (32,[(0,[1]),(1,[1,3]),(2,[1,3,4]),(3,[1,3,4,17]),(4,[1,3,4]),(5,[1,3,4,22]),(6,[1,3,4]),(7,[2])]),
  (33,[(0,[1]),(1,[1,25]),(2,[2]),(3,[1,3]),(4,[1,3,30]),(5,[1,3]),(6,[1,3,40]),(7,[2]),(8,[2])]),
  (34,[(0,[1,2]),(1,[4,5])]),
  (35,[(0,[1,2,3]),(1,[6])]),
  (36,[(0,[0,1]),(1,[0,1,5]),(2,[0,1,5,9]),(3,[0,1,5]),(4,[0,1,5,40]),(5,[4]),(6,[4])]),
  (37,[(0,[1,2]),(1,[1,2,5]),(2,[1,2,5,12]),(3,[1,2,5]),(4,[1,2,5,6]),(5,[1,2,5,6,7]),(6,[1,2,5,6,7,19]),(7,[1,2,5,6,7]),(8,[1,2,5,6,7]),(9,[1,2,5,49]),(10,[4]),(11,[4])]),
  (38,[(0,[0]),(1,[0,3]),(2,[0,3,4]),(3,[0,3,4,8]),(4,[0,3,4]),(5,[0,3,4]),(6,[2])]),
  (39,[(0,[0,1,2,4,8]),(1,[0,1,2,4,8,11]),(2,[0,1,2,4,8,11,12]),(3,[0,1,2,4,8,11,12,13]),(4,[0,1,2,4,8,11,12,13,23]),(5,[0,1,2,4,8,11,12,13]),(6,[0,1,2,4,8,11,12,13]),(7,[0,1,2,4,8,11,12,13]),(8,[10])]),
  (40,[(0,[0,1]),(1,[0,1,10]),(2,[4]),(3,[0,1,5]),(4,[0,1,5,14]),(5,[0,1,5]),(6,[0,1,5,26]),(7,[4]),(8,[4])]),
  (41,[(0,[1]),(1,[2])]),
  (42,[(0,[0,1,2,6]),(1,[0,2,6,7]),(2,[6,7]),(3,[6])]),
  (43,[(0,[1]),(1,[1,3]),(2,[1,3,7]),(3,[2]),(4,[1,3,4]),(5,[1,3,4,12]),(6,[1,3,4]),(7,[1,3,4]),(8,[2])]),
  (44,[(0,[1]),(1,[2,3])]),
  (45,[(0,[1]),(1,[2,3])]),
  (46,[(0,[1]),(1,[2,3])]),
  (47,[(0,[1]),(1,[2,3])]),
  (48,[(0,[0,3,4]),(1,[0,3,4,5]),(2,[4])]),
  (49,[(0,[0]),(1,[0])]),
  (50,[(0,[0,2]),(1,[0,2,3]),(2,[0,2,3,4]),(3,[0,2,3,4,8]),(4,[0,2,3,4]),(5,[0,2,3,4]),(6,[2])]),
  (51,[(0,[0]),(1,[0,3]),(2,[0,3,4]),(3,[0,3,4,9]),(4,[0,3,4]),(5,[0,3,4,17]),(6,[0,3,4]),(7,[2])]),
  (52,[(0,[1,2,3]),(1,[2,8,9]),(2,[6,7])]),
  (53,[(0,[0,1]),(1,[4])]),
  (54,[(0,[1,2,3,4]),(1,[1,2,3,4,19]),(2,[8]),(3,[1,2,3,4,9,10]),(4,[1,2,3,4,32]),(5,[8]),(6,[1,2,3,4,11]),(7,[1,2,3,4,11,39]),(8,[1,2,3,4,11]),(9,[1,2,3,4,11,12,13]),(10,[1,2,3,4,11,55]),(11,[8]),(12,[8])]),
  (55,[(0,[0,1]),(1,[0,1,10]),(2,[4]),(3,[0,1,5]),(4,[0,1,5,19]),(5,[0,1,5]),(6,[0,1,5,30]),(7,[4]),(8,[4])]),
  (56,[(0,[0,1,5,6]),(1,[0,1,5,6,7]),(2,[0,1,5,6,7,8]),(3,[0,1,5,6,7,8,12]),(4,[0,1,5,6,7,8]),(5,[0,1,5,6,7,8]),(6,[6])]),
  (57,[(0,[0,1]),(1,[0,1,5]),(2,[0,1,5,9]),(3,[0,1,5]),(4,[0,1,5,20]),(5,[4]),(6,[4])]),
  (58,[(0,[0,1]),(1,[4])]),
  (59,[(0,[0]),(1,[0,3]),(2,[0,3,4]),(3,[0,3,4,8]),(4,[0,3,4]),(5,[0,3,4]),(6,[2])]),
  (60,[(0,[1,2]),(1,[1,2,3]),(2,[1,2,3,4]),(3,[1,2,3,4,21]),(4,[1,2,3,4]),(5,[1,2,3,4]),(6,[2])]),
  (61,[(0,[2,3]),(1,[2,3,43]),(2,[4]),(3,[2,3,5]),(4,[2,3,5,48]),(5,[2,3,5]),(6,[2,3,5,79]),(7,[4]),(8,[4])]),
  (62,[(0,[0,1]),(1,[0,1,8]),(2,[4]),(3,[0,1,5]),(4,[0,1,5,12]),(5,[0,1,5]),(6,[0,1,5,20]),(7,[4]),(8,[0,1,23]),(9,[4]),(10,[27]),(11,[4]),(12,[4])]),
  (63,[(0,[0]),(1,[2])]),
  (64,[(0,[0,1,2]),(1,[8,9]),(2,[8,9,18]),(3,[6,7]),(4,[6,7])]),
  (65,[(0,[0,1,2]),(1,[8,9]),(2,[8,9,18]),(3,[6,7]),(4,[6,7])]),
  (66,[(0,[0,1,2]),(1,[0,1,2,7]),(2,[0,1,2,7,15]),(3,[6]),(4,[0,1,2,19]),(5,[6]),(6,[0,1,2,8]),(7,[0,1,2,8,23]),(8,[0,1,2,8]),(9,[0,1,2,8,9]),(10,[0,1,2,8,9,33]),(11,[6]),(12,[0,1,2,10]),(13,[0,1,2,10,38]),(14,[0,1,2,10]),(15,[0,1,2,10,60]),(16,[6]),(17,[6])]),
  (67,[(0,[0,1]),(1,[0,1,9]),(2,[4]),(3,[0,1,13]),(4,[4]),(5,[0,1,5]),(6,[0,1,5,17,18,19]),(7,[0,1,5,17,18,19,20]),(8,[0,1,5,7,17,18,19]),(9,[0,1,5,17,18,19]),(10,[0,1,5,17,18,19]),(11,[0,1,28]),(12,[4]),(13,[0,8]),(14,[0,8]),(15,[38]),(16,[4]),(17,[4])]),
  (68,[(0,[0,2]),(1,[2,5,6,7]),(2,[2,5,6,7,8]),(3,[2,4,5,6,7]),(4,[2,5,6,7]),(5,[2,5,6,7]),(6,[2])]),
  (69,[(0,[1]),(1,[4]),(2,[2])]),
  (70,[(0,[2,3]),(1,[4])]),
  (71,[(0,[0,3]),(1,[4])]),
  (72,[(0,[1,2,3]),(1,[1,3,7]),(2,[6]),(3,[6])]),
  (73,[(0,[0,3,4]),(1,[0,3,4,5]),(2,[0,3,4,5,6]),(3,[0,3,4,5,6,10]),(4,[0,3,4,5,6]),(5,[0,3,4,5,6]),(6,[4,5]),(7,[4])]),
  (74,[(0,[0,1,4]),(1,[4])]),
  (75,[(0,[0,1,2,7]),(1,[2,10,11]),(2,[2,10,11,23]),(3,[8,9]),(4,[2,10,27]),(5,[8,9]),(6,[2,10,12]),(7,[10,12,34,35]),(8,[10,12,34,35,36]),(9,[10,12,13,34,35]),(10,[10,12,14,34,35]),(11,[10,12,14,34,35,46]),(12,[10,12,34,35]),(13,[10,12,34,35]),(14,[8,9])]),
  (76,[(0,[0,1,2,7]),(1,[0,1,7,9]),(2,[0,1,7,9,16]),(3,[8]),(4,[0,1,7,10]),(5,[0,1,7,10,21]),(6,[8]),(7,[34]),(8,[8]),(9,[8])]),
  (77,[(0,[0,1,2,4,8]),(1,[4,12,13]),(2,[4,12,13,25]),(3,[10,11]),(4,[4,12,14,15]),(5,[4,12,14,33]),(6,[10,11]),(7,[4,12,36]),(8,[10,11]),(9,[10,11])]),
  (78,[(0,[0,1,2,4,5,9]),(1,[5,13,14]),(2,[12])]),
  (79,[(0,[0,1,2,6]),(1,[0,1,2,6,7]),(2,[0,1,2,6,7,8]),(3,[0,1,2,6,7,8,14]),(4,[0,1,2,6,7,8]),(5,[0,1,2,6,7,8,9]),(6,[0,1,2,6,7,8,9,10]),(7,[0,1,2,6,7,8,9,10,20]),(8,[0,1,2,6,7,8,9,10]),(9,[0,1,2,6,7,8,9,10]),(10,[0,1,2,6,7,8]),(11,[6])]),
  (80,[(0,[0,4,5,6]),(1,[0,4,6,7,8]),(2,[0,4,6,7,8,9]),(3,[0,4,6,7,8,9,17]),(4,[0,4,6,7,8,9]),(5,[0,4,6,7,8,9]),(6,[6])]),
  (81,[(0,[0,3,4]),(1,[0,3,4,5]),(2,[0,3,4,5,6]),(3,[0,3,4,5,6,12]),(4,[0,3,4,5,6]),(5,[0,3,4,5,6]),(6,[4])]),
  (82,[(0,[1,2]),(1,[1,2,3]),(2,[1,2,3,4]),(3,[1,2,3,4,10]),(4,[1,2,3,4]),(5,[1,2,3,4]),(6,[2])]),
  (83,[(0,[1,2,3,4,8]),(1,[1,2,3,4,8,21]),(2,[4,8,10]),(3,[4,8,10,11]),(4,[4,8,10,11,33]),(5,[4,8,10,11]),(6,[4,8,10,11,42]),(7,[8,9]),(8,[4,8]),(9,[8,9]),(10,[1,2,3,4,8,12]),(11,[1,2,3,4,8,12,13]),(12,[1,2,3,4,8,12,13,70]),(13,[1,2,3,4,8,12,13]),(14,[1,2,3,4,8,12,13,14]),(15,[1,2,3,4,8,12,13,14]),(16,[1,2,3,4,8,12,13,14]),(17,[1,2,3,4,8,12,13,15]),(18,[1,2,3,4,8,12,13]),(19,[4,8,12,96]),(20,[8,9]),(21,[4,8,12,16]),(22,[4,8,12,16,106]),(23,[4,8,12,16]),(24,[4,8,12,16,128]),(25,[8,9]),(26,[4,8]),(27,[8,9])]),
  (84,[(0,[1]),(1,[1,3]),(2,[1,3,10]),(3,[2]),(4,[1,15]),(5,[2]),(6,[18]),(7,[2]),(8,[2])]),
  (85,[(0,[1,2,4]),(1,[1,2,4,5]),(2,[1,2,4,5,9]),(3,[1,2,4,5]),(4,[4])]),
  (86,[(0,[0,1]),(1,[0,1,5]),(2,[0,1,5,6]),(3,[0,1,5,6,14]),(4,[0,1,5,6]),(5,[0,1,5,6]),(6,[0,1,5,6]),(7,[4])]),
  (87,[(0,[0,1,2,7]),(1,[10,11]),(2,[10,11,21]),(3,[8,9]),(4,[8,9])]),
  (88,[(0,[0,1,2]),(1,[8,9]),(2,[8,9,18]),(3,[6,7]),(4,[6,7])]),
  (89,[(0,[0,1,2,7]),(1,[10,11]),(2,[10,11,21]),(3,[8,9]),(4,[8,9])]),
  (90,[(0,[0,1,2]),(1,[8,9]),(2,[8,9,18]),(3,[6,7]),(4,[6,7])]),
  (91,[(0,[1,2,4]),(1,[1,2,4,6]),(2,[1,2,4,6,7]),(3,[1,2,4,6,7,15]),(4,[1,2,4,6,7]),(5,[1,2,4,6,7]),(6,[2,4,8,9]),(7,[2,4,8,43]),(8,[4,5]),(9,[4,10,11]),(10,[4,5])]),
  (92,[(0,[0,1]),(1,[0,1,10]),(2,[4]),(3,[0,1,5]),(4,[0,1,5,14]),(5,[0,1,5]),(6,[0,1,5,25]),(7,[4]),(8,[4])]),
  (93,[(0,[0,1,2]),(1,[6])]),
  (94,[(0,[0,1]),(1,[0,1,5]),(2,[0,5,6]),(3,[0,5,6,11]),(4,[0,5,6]),(5,[0,5,6]),(6,[4])]),
  (95,[(0,[0,1]),(1,[0,1,11]),(2,[4]),(3,[0,1,5]),(4,[0,1,5,15]),(5,[0,1,5]),(6,[0,1,5,26]),(7,[4]),(8,[0,1,5,6]),(9,[0,1,5,6,29]),(10,[0,1,5,6]),(11,[0,1,5,6,40]),(12,[4]),(13,[4])]),
  (96,[(0,[0,1,2]),(1,[0,1,2,8]),(2,[0,1,2,8,16]),(3,[6,7]),(4,[0,1,2,9,10]),(5,[0,1,2,9,10,26]),(6,[6,7]),(7,[6,7])]),
  (97,[(0,[0,1]),(1,[1,10]),(2,[1,10,12]),(3,[1,5,10]),(4,[1,10,18]),(5,[4]),(6,[4])]),
  (98,[(0,[2,3,4,5]),(1,[2,3,4,5,8]),(2,[2,3,4,5,6]),(3,[4,5,6,14]),(4,[4,5]),(5,[4,5])]),
  (99,[(0,[0,2]),(1,[2,5,6,7]),(2,[2,5,6,7,8]),(3,[2,4,5,6,7]),(4,[2,5,6,7]),(5,[2,5,6,7]),(6,[2])]),
  (100,[(0,[2,3,4]),(1,[2,3,4,8]),(2,[2,3,4,5]),(3,[2,3,4,5,6]),(4,[4,5,21]),(5,[]),(6,[4])]),
  (101,[(0,[1]),(1,[1,3]),(2,[1,3,7]),(3,[2]),(4,[11]),(5,[2]),(6,[2])]),
  (102,[(0,[2,3,4]),(1,[6])]),
  (103,[(0,[0]),(1,[0,4]),(2,[2]),(3,[2])]),
  (104,[(0,[0,2]),(1,[])]),
  (105,[(0,[0,1]),(1,[0,1,10]),(2,[4]),(3,[0,1,12,13]),(4,[0,1,12,13,14]),(5,[0,1,5,12,13]),(6,[0,1,12,13,24]),(7,[4]),(8,[0,1,12,13]),(9,[4])]),
  (106,[(0,[0]),(1,[0,3]),(2,[3,7,8]),(3,[3,7,8,9]),(4,[3,4,7,8]),(5,[3,7,8]),(6,[3,7,8]),(7,[2])]),
  (107,[(0,[1,2]),(1,[1,2,3]),(2,[2,3,17]),(3,[2,3]),(4,[2,3])]),
  (108,[(0,[0,1]),(1,[4])]),
  (109,[(0,[1,2]),(1,[3])]),
  (110,[(0,[1,2]),(1,[4])]),
  (111,[(0,[1]),(1,[1,3]),(2,[3,4]),(3,[3,4,5]),(4,[3,4,5,11]),(5,[3,4,5]),(6,[3,4,5]),(7,[2])]),
  (112,[(0,[0,1,2,7]),(1,[0,1,2,7,10]),(2,[0,1,2,7,10,30]),(3,[8,9]),(4,[2,7,11]),(5,[2,7,11,12,13]),(6,[2,7,11,12,13,45]),(7,[8,9]),(8,[2,11,12,49]),(9,[8,9]),(10,[2,11,12,14]),(11,[2,11,14,60,61,62]),(12,[2,11,14,60,61,62,63]),(13,[2,11,14,15,16,60,61,62]),(14,[2,11,14,60,61,62]),(15,[2,11,14,60,61,62]),(16,[11,14,75,76,77]),(17,[11,14,75,76,77,78]),(18,[11,14,17,18,75,76,77]),(19,[11,14,17,19,75,76,77]),(20,[11,14,17,75,76,77,87,88,89]),(21,[11,14,17,75,76,77,87,88,89,90]),(22,[11,14,17,21,22,75,76,77,87,88,89]),(23,[11,14,17,21,75,76,77,87,88,89,95]),(24,[11,14,17,75,76,77,87,88,89]),(25,[11,14,17,75,76,77,87,88,89]),(26,[11,14,75,76,77]),(27,[11,108,109,110]),(28,[11,108,109,110,111]),(29,[11,24,108,109,110]),(30,[11,108,109,110]),(31,[11,108,109,110]),(32,[8,9])]),
  (113,[(0,[0,1]),(1,[1,10]),(2,[1,10,12]),(3,[1,5,10]),(4,[1,10,23]),(5,[4]),(6,[4])]),
  (114,[(0,[0]),(1,[2])]),
  (115,[(0,[0,1]),(1,[4])]),
  (116,[(0,[0]),(1,[0,3]),(2,[0,3,6]),(3,[0,3,6,7]),(4,[0,3,4,6]),(5,[0,3,4,6,11]),(6,[0,3,6]),(7,[0,3,6]),(8,[2])]),
  (117,[(0,[0,1,4]),(1,[0,4,8,9,10]),(2,[0,4,8,9,10,11]),(3,[0,4,7,8,9,10]),(4,[0,4,7,8,9,10,30]),(5,[4,5]),(6,[0,4,8,9,10]),(7,[0,4,8,9,10]),(8,[4,5])]),
  (118,[(0,[0,1]),(1,[0,1,5]),(2,[0,1,5,7]),(3,[0,5,7,30,31,32]),(4,[0,5,7,30,31,32,33]),(5,[0,5,7,9,30,31,32]),(6,[0,5,7,10,30,31,32]),(7,[0,5,7,30,31,32]),(8,[0,5,7,30,31,32]),(9,[0,5,7,30,31,32]),(10,[5,7,12]),(11,[5,7,12]),(12,[5,7]),(13,[4])]),
  (119,[(0,[0,1,2]),(1,[0,1,2,14]),(2,[6]),(3,[1,2,15,16,17]),(4,[1,2,15,16,17,18]),(5,[1,2,7,8,15,16,17]),(6,[1,2,8,9,15,16,17]),(7,[1,2,15,16,17,30]),(8,[6]),(9,[1,2,15,16,17]),(10,[6])]),
  (120,[(0,[2,3]),(1,[2,3,5]),(2,[2,3,5,6]),(3,[4])]),
  (121,[(0,[1]),(1,[2])]),
  (122,[(0,[1,2,4]),(1,[1,2,4,14]),(2,[4]),(3,[4])]),
  (123,[(0,[0,2]),(1,[2,3]),(2,[2]),(3,[2])]),
  (124,[(0,[0,4,5,6]),(1,[0,4,5,6,8]),(2,[6]),(3,[0,4,5,6,13]),(4,[6]),(5,[0,4,5,6,22]),(6,[6]),(7,[0,4,5,6,31]),(8,[6]),(9,[0,4,5,6,39]),(10,[6]),(11,[0,4,5,6,44]),(12,[0,4,5,6,44,45]),(13,[6]),(14,[0,4,5,6,44,53]),(15,[6]),(16,[0,4,5,6,44,61]),(17,[6]),(18,[0,4,5,6,44,69]),(19,[6]),(20,[0,4,5,6,44,77]),(21,[6]),(22,[0,4,5,6,85]),(23,[6]),(24,[0,4,5,6,95]),(25,[6]),(26,[0,4,5,6,7]),(27,[4,5,6,7,103]),(28,[6]),(29,[6])]),
  (125,[(0,[0,3,4]),(1,[0,3,4,5]),(2,[4]),(3,[3,4,10]),(4,[4]),(5,[4])]),
  (126,[(0,[0,1]),(1,[0,1,5]),(2,[0,1,5,6]),(3,[0,1,5,6,10]),(4,[0,1,5,6]),(5,[0,1,5,6]),(6,[4])]),
  (127,[(0,[1]),(1,[1,3]),(2,[1,3,8]),(3,[1,3]),(4,[1,3,20]),(5,[2]),(6,[2])]),
  (128,[(0,[1]),(1,[1,3]),(2,[1,3,11]),(3,[1,3]),(4,[1,3,20]),(5,[2]),(6,[1,4]),(7,[1,4,25]),(8,[1,4]),(9,[1,4,5]),(10,[1,4,5,52]),(11,[2]),(12,[1,4,5,6]),(13,[1,4,5,6,57]),(14,[1,4,5,6]),(15,[1,4,5,6,81]),(16,[2]),(17,[2])]),
  (129,[(0,[0,1]),(1,[4])]),
  (130,[(0,[0,1,2,6]),(1,[0,1,2,6,8]),(2,[0,1,2,6,8,17]),(3,[6,7]),(4,[2,6,9]),(5,[2,6,9,10]),(6,[2,6,9,10,31]),(7,[6,7]),(8,[6,9,34,35,36]),(9,[6,9,34,35,36,37]),(10,[6,9,12,34,35,36]),(11,[6,9,34,35,36]),(12,[6,9,34,35,36]),(13,[6,7])]),
  (131,[(0,[0,4,5,6]),(1,[0,4,5,6,8]),(2,[0,4,5,6,8,17]),(3,[6,7]),(4,[0,4,5,6,25]),(5,[6,7]),(6,[0,6,9]),(7,[0,6,9]),(8,[0,6,9,36]),(9,[6]),(10,[6,7]),(11,[0,6,9,10,11]),(12,[6,9,10,11,44]),(13,[6]),(14,[6,9,10,11,44,49]),(15,[6]),(16,[6,9,10,11,44,58]),(17,[6]),(18,[6,9,10,11,44,65]),(19,[6]),(20,[6,10,11,71]),(21,[6,10]),(22,[6,10]),(23,[6,10,81]),(24,[6]),(25,[6,7])]),
  (132,[(0,[0,1,5,6]),(1,[0,1,5,6,8]),(2,[0,1,5,6,8,13]),(3,[6,7]),(4,[0,1,5,6,18]),(5,[6,7]),(6,[6,7])]),
  (133,[(0,[0,1]),(1,[4])]),
  (134,[(0,[1]),(1,[2])]),
  (135,[(0,[0,1]),(1,[3])]),
  (136,[(0,[0,1]),(1,[4])]),
  (137,[(0,[1]),(1,[1,3]),(2,[1,3,13]),(3,[1,3]),(4,[1,3,4]),(5,[1,3,4,18]),(6,[1,3,4]),(7,[1,3,4,31]),(8,[2]),(9,[1,5]),(10,[1,5,36]),(11,[1,5]),(12,[1,5,44]),(13,[2]),(14,[1,5,6]),(15,[1,5,6,47]),(16,[1,5,6]),(17,[1,5,6,77]),(18,[2]),(19,[1,7,8]),(20,[2])]),
  (138,[(0,[0,1]),(1,[4])]),
  (139,[(0,[0,1,2]),(1,[4])]),
  (140,[(0,[0,1,2,3,8]),(1,[0,1,2,3,8,9]),(2,[0,1,2,3,8,9,10]),(3,[0,1,2,3,8,9,10,23]),(4,[]),(5,[0,1,2,3,8,9,10,29]),(6,[]),(7,[0,1,2,3,8,9,10,35]),(8,[0,1,2,3,8,9,10]),(9,[0,1,2,3,8,9,10]),(10,[0,1,2,3,8,9,10,11,12]),(11,[0,1,2,3,8,9,10,11,12,50]),(12,[0,1,2,3,8,9,10,11]),(13,[0,1,2,3,8,9,10,11]),(14,[0,1,2,3,8,9,10,11,12]),(15,[0,1,2,3,8,9,10,11,68]),(16,[0,1,2,3,8,9,10,11,72]),(17,[0,1,2,3,8,9,10,11,87]),(18,[0,2,3,8,9,13]),(19,[0,1,2,3,8,9]),(20,[0,1,2,3,10,14,15]),(21,[0,1,2,3,9,10,14]),(22,[0,1,2,3,9,10,14,16,17]),(23,[0,1,2,3,9,14,16,17,18]),(24,[0,1,2,3,9,14,16,17,18,113]),(25,[0,1,2,3,8,9,14]),(26,[0,2,3,8,9,14]),(27,[0,1,2,3,8,9]),(28,[0,1,2,3,8,9,14]),(29,[0,1,3,8,9,14]),(30,[0,1,2,3,8,9])]),
  (141,[(0,[0]),(1,[2]),(2,[2])]),
  (142,[(0,[1,2]),(1,[1,2,4]),(2,[1,2,4,11]),(3,[2,3]),(4,[1,2]),(5,[1,2,21]),(6,[2,3]),(7,[1,2,27]),(8,[1,2,27]),(9,[2,27]),(10,[2,3]),(11,[2,3])]),
  (143,[(0,[2,3]),(1,[2,3,5]),(2,[4])]),
  (144,[(0,[1,2]),(1,[1,2,3]),(2,[1,2,3,4]),(3,[1,2,3,4,5]),(4,[1,2,3,5]),(5,[2,3]),(6,[2])]),
  (145,[(0,[0,1]),(1,[0,1,7,8]),(2,[0,1,7,8,9]),(3,[0,1,5,7,8]),(4,[0,1,5,7,8,16]),(5,[4]),(6,[0,1,7,8]),(7,[4])]),
  (146,[(0,[1]),(1,[4,5]),(2,[4,5,12]),(3,[2,3]),(4,[2,3])]),
  (147,[(0,[1]),(1,[2])]),
  (148,[(0,[0,1]),(1,[4])]),
  (149,[(0,[1,2]),(1,[1,2,4]),(2,[1,2,4,9]),(3,[2,3]),(4,[2,3])]),
  (150,[(0,[3,4,5,6]),(1,[3,4,5,6,8]),(2,[3,4,5,6,8,16]),(3,[6,7]),(4,[3,4,5,6,10]),(5,[3,4,5,6,10,27]),(6,[6,7]),(7,[6,7])]),
  (151,[(0,[2,3,4]),(1,[2,3,4,6]),(2,[2,3,4,6,13]),(3,[4,5]),(4,[2,3,4,8]),(5,[2,3,4,8,23]),(6,[4,5]),(7,[4,5])]),
  (152,[(0,[1,2]),(1,[2])]),
  (153,[(0,[2,3]),(1,[4])]),
  (154,[(0,[0,1]),(1,[0,1,10]),(2,[4]),(3,[0,1,12,13]),(4,[0,1,12,13,14]),(5,[0,1,5,12,13]),(6,[0,1,12,13,24]),(7,[4]),(8,[0,1,12,13]),(9,[4])]),
  (155,[(0,[0,1,2]),(1,[0,1,2,14]),(2,[6]),(3,[1,2,15,16,17]),(4,[1,2,15,16,17,18]),(5,[1,2,7,8,15,16,17]),(6,[1,2,8,9,15,16,17]),(7,[1,2,15,16,17,30]),(8,[6]),(9,[1,2,15,16,17]),(10,[6])]),
  (156,[(0,[0,1]),(1,[0,1,10]),(2,[4]),(3,[0,1,5]),(4,[0,1,5,14]),(5,[0,1,5]),(6,[0,1,5,27]),(7,[4]),(8,[4])]),
  (157,[(0,[0,2]),(1,[2])]),
  (158,[(0,[0,2]),(1,[0,2,8]),(2,[2]),(3,[2])]),
  (159,[(0,[0,2]),(1,[2,3]),(2,[2]),(3,[2])]),
  (160,[(0,[0,2]),(1,[2])]),
  (161,[(0,[0,1]),(1,[0,1,7]),(2,[0,1]),(3,[0,1,5]),(4,[0,1,5,17]),(5,[0,1,5]),(6,[0,1,5,24]),(7,[0,1,5]),(8,[4])]),
  (162,[(0,[1]),(1,[1,5]),(2,[2]),(3,[2])]),
  (163,[(0,[1,2,3]),(1,[1,2,3,8]),(2,[6]),(3,[6])]),
  (164,[(0,[1,2]),(1,[1,2,5]),(2,[1,2,5,14]),(3,[1,2,5]),(4,[1,2,5,28]),(5,[4]),(6,[4])]),
  (165,[(0,[0,1,5,6]),(1,[6])]),
  (166,[(0,[0]),(1,[0])]),
  (167,[(0,[0]),(1,[0,6,7,8]),(2,[0,6,7,8,9]),(3,[0,4,6,7,8]),(4,[0,5,6,7,8]),(5,[0,5,6,7,8,15]),(6,[2]),(7,[0,6,7,8]),(8,[30]),(9,[2]),(10,[2])]),
  (168,[(0,[0,1,2]),(1,[0,1,2]),(2,[0,1,2,7]),(3,[0,1,2,7,16]),(4,[6]),(5,[0,1,2,7,8]),(6,[0,1,2,7,8,22]),(7,[6]),(8,[0,1,2,7,8,31]),(9,[0,1,2,7,9]),(10,[0,1,7,9]),(11,[9]),(12,[6]),(13,[0,1,2,7,8]),(14,[0,1,2,7,8,68]),(15,[0,1,2]),(16,[0]),(17,[6]),(18,[0,1,7]),(19,[0]),(20,[6])]),
  (169,[(0,[0]),(1,[0,4]),(2,[2]),(3,[2])]),
  (170,[(0,[0,1,4]),(1,[4])]),
  (171,[(0,[0,2]),(1,[2,4]),(2,[2]),(3,[2])]),
  (172,[(0,[1,2]),(1,[1,2,3]),(2,[1,2,3,4]),(3,[1,2,3,4,5]),(4,[1,2,3,5]),(5,[2,3]),(6,[2,6]),(7,[2])]),
  (173,[(0,[0,2]),(1,[2])]),
  (174,[(0,[1,2]),(1,[1,2,3]),(2,[2,3,8]),(3,[3,4,10]),(4,[3,4,5]),(5,[3,4,5,15]),(6,[]),(7,[2])]),
  (175,[(0,[0,2,3]),(1,[2,3,6]),(2,[2,3,6,8]),(3,[2,3,4,6]),(4,[2,3,4,6,13]),(5,[2,3,6]),(6,[2,3,6]),(7,[2,3]),(8,[2,3])]),
  (176,[(0,[0,2]),(1,[2,6]),(2,[2,6,8]),(3,[2,4,6]),(4,[2,6]),(5,[2])]),
  (177,[(0,[1]),(1,[5]),(2,[2]),(3,[2])]),
  (178,[(0,[1,2]),(1,[1,2,3]),(2,[1,3]),(3,[3,11,12]),(4,[3,11,12,13]),(5,[3,4,11,12]),(6,[3,11,12,18]),(7,[3,11,12])]),
  (179,[(0,[0,1,2,3,4,5]),(1,[0,1,2,3,4,5,12]),(2,[9]),(3,[0,2,4,5,10]),(4,[0,2,4,5,10,25]),(5,[0,2,4,5,10]),(6,[0,2,4,5,10,38]),(7,[9]),(8,[9])]),
  (180,[(0,[0,1]),(1,[0,1,7,8]),(2,[0,1,7,8,9]),(3,[0,1,5,7,8]),(4,[0,1,5,7,8,16]),(5,[4]),(6,[0,1,7,8]),(7,[4])]),
  (181,[(0,[1,2,3,4]),(1,[1,2,3,4,13]),(2,[1,2,3,18]),(3,[2,3]),(4,[8,9]),(5,[1,2,3,4,28]),(6,[8,9]),(7,[1,2,3,4,10]),(8,[1,2,3,4,10,11]),(9,[1,2,3,4,10,11,40]),(10,[1,2,3,4,10,11]),(11,[1,2,3,4,10,11]),(12,[8,9])]),
  (182,[(0,[0,1]),(1,[0,1,5]),(2,[0,1,5,9]),(3,[0,1,5]),(4,[0,1,5,17]),(5,[4]),(6,[4])]),
  (183,[(0,[0,1]),(1,[0,1,7,8]),(2,[0,1,7,8,9]),(3,[0,1,5,7,8]),(4,[0,1,5,7,8,16]),(5,[4]),(6,[0,1,7,8]),(7,[4])]),
  (184,[(0,[0,1,2,6]),(1,[0,1,2,6,12]),(2,[0,1,2,6]),(3,[0,1,2,6,7]),(4,[0,1,2,6,7,30]),(5,[0,1,2,6,7]),(6,[0,1,2,6,7])]),
  (185,[(0,[0,1,2,6]),(1,[0,1,2,6,7]),(2,[0,6,7,8]),(3,[0,6,7,8,9]),(4,[0,6,7,8,9,19]),(5,[0,6,7,8,9]),(6,[0,6,7,8,9]),(7,[0,6,7,10]),(8,[0,6,7,10,30]),(9,[0,6,7,10]),(10,[0,6,7,10]),(11,[0,6,7,10])]),
  (186,[(0,[0,1,6]),(1,[0,1,6,15]),(2,[0,1,6,7]),(3,[0,1,6,7,8]),(4,[0,1,6,7,8,9]),(5,[0,1,6,7,8,9,33]),(6,[0,1,6,7,8,9]),(7,[0,1,6,7,8,9,10]),(8,[0,1,6,7,8,9,10,43]),(9,[0,1,6,7,8,9,10]),(10,[0,1,6,7,8,9])]),
  (187,[(0,[0,1,2]),(1,[0,1,8]),(2,[0,1,8,9]),(3,[0,1,8,9,10]),(4,[0,1,8,9,10,11]),(5,[0,8,9,10,11,12]),(6,[0,8,9,10,11,12,32]),(7,[0,9,10,11,12,34]),(8,[0,9,10,11,12]),(9,[0,9,10,11,12]),(10,[0,9,10,11,12]),(11,[9,11]),(12,[11,49]),(13,[6,7]),(14,[11,49,51]),(15,[6,7]),(16,[11,54]),(17,[6,7])]),
  (188,[(0,[0,2,6]),(1,[0,6,7]),(2,[0,6,7,13]),(3,[0,6,7]),(4,[0,6,7]),(5,[0,6,7])]),
  (189,[(0,[0,1,2]),(1,[0,1,2,7]),(2,[0,1,2,7,8]),(3,[0,1,2,7,8,14]),(4,[0,1,2,7,8]),(5,[0,1,2,7,8,32]),(6,[0,1,2,7,8]),(7,[0,1,2,7,8,37]),(8,[6]),(9,[0,1,2,7,8,41]),(10,[6]),(11,[0,1,2,7,8]),(12,[0,1,2,7,8,61]),(13,[0,1,2,7,8,9]),(14,[0,1,2,7,8,9,65]),(15,[0,1,2,7,8,9]),(16,[0,1,2,7,8,9,78]),(17,[0,1,2,7,8,9]),(18,[0,1,2,7,8,98]),(19,[0,1,2,7,8,10]),(20,[0,1,2,7,8,10,103]),(21,[0,1,2,7,8,10]),(22,[0,1,2,7,8,10,116]),(23,[0,1,2,7,8,10]),(24,[6])]),
  (190,[(0,[0,1]),(1,[4])]),
  (191,[(0,[0,1,2,3]),(1,[0,1,2]),(2,[0,1,9,10]),(3,[0,1,9,10,43]),(4,[0,1,9,10]),(5,[0,1,9,10,59]),(6,[0,1,9,10]),(7,[0,1,9,10,64]),(8,[0,1,9,10]),(9,[0,1,9,10]),(10,[0,1,9,10]),(11,[8])]),
  (192,[(0,[0,1,2,3]),(1,[0,1,2]),(2,[0,1,10,11]),(3,[0,1,10,11,43]),(4,[0,1,10,11]),(5,[0,1,10,11,60]),(6,[0,1,10,11]),(7,[0,1,10,11,65]),(8,[11]),(9,[8,9]),(10,[0,1,10,11]),(11,[0,1,10,11]),(12,[0,1,10,11]),(13,[0,1,10,11,112]),(14,[0,1,10,11]),(15,[0,1,10,11,129]),(16,[0,1,10,11]),(17,[0,1,10,11,134]),(18,[0,1,10,11]),(19,[0,1,10,11]),(20,[0,1,10,11]),(21,[11]),(22,[8,9])]),
  (193,[(0,[0,2]),(1,[0,2,4]),(2,[0]),(3,[0,2]),(4,[0,2,8]),(5,[0,2]),(6,[0,2]),(7,[2])]),
  (194,[(0,[0,2]),(1,[0,2,4]),(2,[0]),(3,[0,2]),(4,[0,2,8]),(5,[0,2]),(6,[0,2]),(7,[0,2,14]),(8,[0,2]),(9,[0,2]),(10,[2])]),
  (195,[(0,[0,3]),(1,[4])]),
  (196,[(0,[1]),(1,[1,5]),(2,[2]),(3,[2])]),
  (197,[(0,[0,3]),(1,[4])]),
  (198,[(0,[2,3]),(1,[2,3,5]),(2,[2,3,5,34]),(3,[4]),(4,[4])]),
  (199,[(0,[1,2,3,4]),(1,[1,2,3,4,10]),(2,[8]),(3,[8])]),
  (200,[(0,[2,3]),(1,[4])]),
  (201,[(0,[1]),(1,[2])]),
  (202,[(0,[0,1,2,3,4]),(1,[0,1,2,3,4,14]),(2,[6]),(3,[0,1,2,3,4,7,8]),(4,[0,1,2,3,4,7,30]),(5,[6]),(6,[0,1,3,4,9]),(7,[0,1,3,4,9,10]),(8,[0,1,3,4,9,10,43,44,45]),(9,[0,1,3,4,9,10,43,44,45,46]),(10,[0,1,3,4,9,10,11,12,43,44,45]),(11,[0,1,3,4,9,10,43,44,45]),(12,[0,1,3,4,9,10,43,44,45]),(13,[0,3]),(14,[6])]),
  (203,[(0,[0,3]),(1,[0,3,5,6]),(2,[0,3,5,17]),(3,[0,3,5]),(4,[0,3,5]),(5,[5]),(6,[4])]),
  (204,[(0,[0]),(1,[2])]),
  (205,[(0,[0,1,5]),(1,[0,1,5,12]),(2,[6]),(3,[0,1,5,7]),(4,[0,1,5,7]),(5,[0,1,5,7,8,9]),(6,[0,1,5,7,8,32]),(7,[0,1,5,7,8]),(8,[0,1,5,8]),(9,[8]),(10,[6])]),
  (206,[(0,[1,2]),(1,[1,2,7]),(2,[1,2,4]),(3,[]),(4,[2])]),
  (207,[(0,[0,4,5,6]),(1,[0,4,5,6,11]),(2,[0,4,5,6,11,12]),(3,[6,7]),(4,[0,4,5,6,20]),(5,[6,7]),(6,[4,5,6,8]),(7,[4,5,6,8,38]),(8,[6,7]),(9,[4,5,6,8,9,10]),(10,[4,5,6,8,9,47]),(11,[6,7]),(12,[6,7])]),
  (208,[(0,[0,1,3]),(1,[3,4]),(2,[3])]),
  (209,[(0,[0,3,4]),(1,[3,4,6]),(2,[3,4,6,17]),(3,[4,5]),(4,[3,4,6,7,8]),(5,[3,4,6,7,25]),(6,[4,5]),(7,[4,5])]),
  (210,[(0,[0,1,3]),(1,[3,4]),(2,[3])]),
  (211,[(0,[1,2]),(1,[4])]),
  (212,[(0,[2,3]),(1,[4])]),
  (214,[(0,[])]),
  (215,[(0,[0,1]),(1,[0,1,10]),(2,[0,1]),(3,[0,5,6]),(4,[0,6,26]),(5,[0,6]),(6,[0,7]),(7,[7,8]),(8,[7,8,37]),(9,[7,8]),(10,[4])]),
  (216,[(0,[1,2]),(1,[4])]),
  (217,[(0,[1]),(1,[2])]),
  (218,[(0,[1,2,3,4,5,6]),(1,[1,2,3,4,5,6,32]),(2,[1,2,3,4,5,6]),(3,[1,2,3,4,5,6,40]),(4,[3]),(5,[8]),(6,[1,2,3,4,5,6,9]),(7,[1,2,3,4,5,6,9,10]),(8,[1,2,3,4,5,6,9,10,68]),(9,[8]),(10,[1,2,3,4,5,6,9,11,12]),(11,[1,2,3,4,5,6,9,11,84]),(12,[8]),(13,[1,2,3,4,5,6,9,13]),(14,[1,2,3,4,5,6,9,13,93,94]),(15,[1,2,3,4,5,6,9,13,93,94,95]),(16,[1,2,3,4,5,6,9,13,14,93,94]),(17,[1,2,3,4,5,6,9,13,93,94]),(18,[1,2,3,4,5,6,9,13,93,94]),(19,[3,5,6,13]),(20,[5,6]),(21,[8])]),
  (219,[(0,[2,3,4]),(1,[2,4,10,11,12]),(2,[2,4,10,11,12,13]),(3,[2,4,7,8,10,11,12]),(4,[2,4,10,11,12,32]),(5,[6]),(6,[2,4,10,11,12]),(7,[6])]),
  (220,[(0,[2,3,4]),(1,[3,4,8,9,10]),(2,[3,4,8,9,10,11]),(3,[3,4,5,6,8,9,10]),(4,[3,4,8,9,10]),(5,[3,4,8,9,10]),(6,[4])]),
  (221,[(0,[2,3,4,5,8]),(1,[2,3,5,8,12,13,14]),(2,[2,3,5,8,12,13,14,15]),(3,[2,3,5,8,9,10,12,13,14]),(4,[2,3,5,8,9,10,12,13,14,34]),(5,[2,3,5,8,12,13,14]),(6,[2,3,5,8,12,13,14]),(7,[8])]),
  (222,[(0,[1,2]),(1,[2,6,7,8]),(2,[2,6,7,8,9]),(3,[2,3,4,6,7,8]),(4,[2,6,7,8]),(5,[2,6,7,8]),(6,[2])]),
  (223,[(0,[1,2]),(1,[2,4,5]),(2,[2,4,5,12]),(3,[2,3]),(4,[2,3])]),
  (224,[(0,[1,2]),(1,[1,2,4]),(2,[1,2,4,21,22,23]),(3,[1,2,4,21,22,23,24]),(4,[1,2,4,6,21,22,23]),(5,[1,2,4,6,7,21,22,23]),(6,[1,2,6,7,21,22,23,29]),(7,[1,2,6,7,21,22,23,29,31]),(8,[1,2,6,7,8,9,21,22,23,29]),(9,[1,2,6,7,8,9,10,21,22,23,29]),(10,[1,2,6,7,8,9,10,11,21,22,23,29]),(11,[1,2,6,7,8,9,10,11,21,22,23,29,46]),(12,[1,2,6,7,21,22,23,29]),(13,[1,2,6,7,8,9,10,21,22,23,29,60]),(14,[1,2,6,7,21,22,23,29]),(15,[1,2,6,7,8,9,21,22,23,29,75,76]),(16,[1,2,6,7,8,9,21,22,23,29,75,76,77]),(17,[1,2,6,7,8,9,12,21,22,23,29,75,76]),(18,[1,2,6,7,8,9,21,22,23,29,75,76]),(19,[1,2,6,7,8,9,21,22,23,29,75,76]),(20,[1,2,4,21,22,23]),(21,[1,2,4,21,22,23]),(22,[1,2,94]),(23,[1,2,94,96]),(24,[1,2,13,14,94]),(25,[1,2,94,106])]),
  (225,[(0,[1]),(1,[1,5]),(2,[2]),(3,[2])]),
  (226,[(0,[0,1]),(1,[0,1,5]),(2,[0,1,5,9]),(3,[0,1,5]),(4,[0,1,5,17]),(5,[4]),(6,[4])]),
  (227,[(0,[0,2,3,8]),(1,[0,2,3,8,9]),(2,[0,2,3,8,9,16]),(3,[0,2,3,8,9,36]),(4,[0,2,3,8,9]),(5,[0,2,3,8,9,52]),(6,[0,2,3,9]),(7,[0,2,3,8])]),
  (228,[(0,[0]),(1,[2])]),
  (229,[(0,[0]),(1,[0]),(2,[0]),(3,[0]),(4,[2])]),
  (230,[(0,[0,1,2]),(1,[6])]),
  (231,[(0,[0,1,2,3,4]),(1,[0,1,2,3,4]),(2,[0,1,2,4]),(3,[2]),(4,[10])]),
  (232,[(0,[0]),(1,[2])]),
  (233,[(0,[0,1]),(1,[4])]),
  (234,[(0,[1,2]),(1,[3])]),
  (235,[(0,[0,1]),(1,[3])]),
  (236,[(0,[0,1,2,3]),(1,[5])]),
  (237,[(0,[1,2]),(1,[4])]),
  (238,[(0,[0,1]),(1,[3])]),
  (239,[(0,[1,2]),(1,[1,2,4]),(2,[1,2,4,5]),(3,[1,2,4,5]),(4,[1,2,4,5,17]),(5,[1,2,4,5,6]),(6,[1,2,4,5,6,35]),(7,[1,2,4,5,6]),(8,[1,2,4,5,6]),(9,[1,2,4,5,6,42]),(10,[1,2,4,5])]),
  (240,[(0,[1,2,3]),(1,[1,2,3,7]),(2,[1,2,3,7,12]),(3,[1,2,3,7]),(4,[1,2,3,7]),(5,[6])]),
  (241,[]),
  (242,[(0,[3,4,5,6]),(1,[3,4,5,6,8]),(2,[6,7]),(3,[3,4,5,6,16]),(4,[6,7]),(5,[4,5,6,21]),(6,[6,7]),(7,[6,7])]),
  (243,[(0,[0,2]),(1,[0,2,6]),(2,[2]),(3,[2])]),
  (244,[(0,[0]),(1,[3]),(2,[3,4]),(3,[2]),(4,[3,6]),(5,[2]),(6,[3,8]),(7,[2]),(8,[3,10]),(9,[2]),(10,[3,13]),(11,[2]),(12,[3,16]),(13,[2]),(14,[3,19]),(15,[2]),(16,[22]),(17,[2]),(18,[2])]),
  (245,[(0,[0]),(1,[2])]),
  (246,[(0,[0,2]),(1,[0,2,4]),(2,[0,2,4,8]),(3,[2,3]),(4,[2,3])]),
  (247,[(0,[0]),(1,[3]),(2,[3,4]),(3,[2]),(4,[6]),(5,[2]),(6,[2])]),
  (248,[(0,[1,2]),(1,[3])]),
  (249,[(0,[0,1]),(1,[0]),(2,[])]),
  (250,[(0,[0,1]),(1,[6,7]),(2,[4,5]),(3,[8,9]),(4,[4,5])]),
  (251,[(0,[1,2]),(1,[3])]),
  (252,[(0,[2,3,4]),(1,[6])]),
  (253,[(0,[0,1,2,3]),(1,[1,2,3,18]),(2,[1,2]),(3,[8,9]),(4,[8,9])]),
  (254,[(0,[0,1]),(1,[0,1,7,8]),(2,[0,1,7,8,9]),(3,[0,1,5,7,8]),(4,[0,1,5,7,8,16]),(5,[4]),(6,[0,1,7,8]),(7,[4])]),
  (255,[(0,[0,1]),(1,[0,1,7,8]),(2,[0,1,7,8,9]),(3,[0,1,5,7,8]),(4,[0,1,5,7,8,16]),(5,[4]),(6,[0,1,7,8]),(7,[4])]),
  (256,[(0,[0,2]),(1,[2])]),
  (257,[(0,[0,1,4]),(1,[4])]),
  (258,[(0,[0,1,4]),(1,[4])]),
  (259,[(0,[0,1,4]),(1,[4])]),
  (260,[(0,[1]),(1,[2])]),
  (261,[(0,[0]),(1,[4])]),
  (262,[(0,[1]),(1,[4])]),
  (263,[(0,[1]),(1,[2])]),
  (264,[(0,[0]),(1,[2])]),
  (265,[(0,[0]),(1,[2])]),
  (266,[(0,[0]),(1,[2])]),
  (267,[(0,[1]),(1,[2])]),
  (268,[(0,[1]),(1,[2])]),
  (269,[(0,[0,2]),(1,[2])]),
  (270,[(0,[0,2]),(1,[2])]),
  (271,[(0,[0,2]),(1,[2,3]),(2,[2]),(3,[2])]),
  (272,[(0,[0,2,3]),(1,[0,2,3,9]),(2,[0,2,3]),(3,[0,2,3])]),
  (273,[(0,[0,1]),(1,[6]),(2,[4,5])]),
  (274,[(0,[0,1]),(1,[0,1,6]),(2,[0,1,6,7]),(3,[0,1,6,7,8]),(4,[0,1,6,7,8,9]),(5,[0,1,6,7,8,9,10]),(6,[0,1,6,7,9,11]),(7,[0,1,6,7,9,11,12]),(8,[0,1,6,7,9,12,13]),(9,[0,1,7,9,12,13]),(10,[0,1,4]),(11,[4,5])]),
  (275,[(0,[0,1,2]),(1,[4])]),
  (276,[(0,[0,1,2,5]),(1,[0,1,2,5,7]),(2,[5]),(3,[5])]),
  (277,[(0,[0,1]),(1,[1,4,5]),(2,[1,4,5,20]),(3,[4,5]),(4,[4,5])]),
  (278,[(0,[0,1,2,5]),(1,[5])]),
  (279,[(0,[0,1]),(1,[0,1,5]),(2,[0,1,5,6]),(3,[0,1,6,11]),(4,[12]),(5,[4]),(6,[4]),(7,[0,1,13]),(8,[4]),(9,[0,1,16]),(10,[4]),(11,[19]),(12,[4]),(13,[4])])],
 head:=[(5,[(4,[1,2,3,7])]),
  (6,[(5,[1,2,5,6]),(9,[2,5,7])]),
  (9,[(20,[2,4,6,8,10,12,14,18,19,20,21])]),
  (10,[(13,[1,3,5,7,8]),(19,[1,3,7,9])]),
  (11,[(16,[2,3,9,11,12,14,15])]),
  (12,[(5,[1,3,4])]),
  (13,[(9,[1,2,5,7,9,11]),(16,[2,5,7,9,12,13,14]),(21,[2,5,7,9,12,13,14,15])]),
  (16,[(4,[1,3])]),
  (21,[(7,[0,1,2,22,23,24])]),
  (23,[(3,[0,3,4])]),
  (24,[(4,[1,2,6,7,8])]),
  (26,[(4,[0,1,5])]),
  (27,[(4,[0,1,5])]),
  (28,[(3,[1,2,5,6]),(7,[1,2,5,6,7,8]),(13,[1,2,5,6,9,10])]),
  (32,[(3,[1,3,4])]),
  (33,[(4,[1,3])]),
  (36,[(2,[0,1,5])]),
  (37,[(2,[1,2,5]),(6,[1,2,5,6,7])]),
  (38,[(3,[0,3,4])]),
  (39,[(4,[0,1,2,4,8,11,12,13])]),
  (40,[(4,[0,1,5])]),
  (43,[(5,[1,3,4])]),
  (50,[(3,[0,2,3,4])]),
  (51,[(3,[0,3,4])]),
  (54,[(7,[1,2,3,4,11])]),
  (55,[(4,[0,1,5])]),
  (56,[(3,[0,1,5,6,7,8])]),
  (57,[(2,[0,1,5])]),
  (59,[(3,[0,3,4])]),
  (60,[(3,[1,2,3,4])]),
  (61,[(4,[2,3,5])]),
  (62,[(4,[0,1,5])]),
  (66,[(7,[0,1,2,8]),(13,[0,1,2,10])]),
  (67,[(7,[0,1,5,17,18,19])]),
  (68,[(2,[2,5,6,7])]),
  (73,[(3,[0,3,4,5,6])]),
  (75,[(8,[10,12,34,35])]),
  (79,[(3,[0,1,2,6,7,8]),(7,[0,1,2,6,7,8,9,10])]),
  (80,[(3,[0,4,6,7,8,9])]),
  (81,[(3,[0,3,4,5,6])]),
  (82,[(3,[1,2,3,4])]),
  (83,[(4,[4,8,10,11]),(12,[1,2,3,4,8,12,13]),(22,[4,8,12,16])]),
  (85,[(2,[1,2,4,5])]),
  (86,[(3,[0,1,5,6])]),
  (91,[(3,[1,2,4,6,7])]),
  (92,[(4,[0,1,5])]),
  (94,[(3,[0,5,6])]),
  (95,[(4,[0,1,5]),(9,[0,1,5,6])]),
  (97,[(2,[1,10])]),
  (99,[(2,[2,5,6,7])]),
  (105,[(4,[0,1,12,13])]),
  (106,[(3,[3,7,8])]),
  (111,[(4,[3,4,5])]),
  (112,[(12,[2,11,14,60,61,62]),(17,[11,14,75,76,77]),(21,[11,14,17,75,76,77,87,88,89]),(28,[11,108,109,110])]),
  (113,[(2,[1,10])]),
  (116,[(3,[0,3,6])]),
  (117,[(2,[0,4,8,9,10])]),
  (118,[(4,[0,5,7,30,31,32])]),
  (119,[(4,[1,2,15,16,17])]),
  (126,[(3,[0,1,5,6])]),
  (127,[(2,[1,3])]),
  (128,[(2,[1,3]),(7,[1,4]),(13,[1,4,5,6])]),
  (130,[(9,[6,9,34,35,36])]),
  (137,[(2,[1,3]),(5,[1,3,4]),(10,[1,5]),(15,[1,5,6])]),
  (140,[(2,[0,1,2,3,8,9])]),
  (145,[(2,[0,1,7,8])]),
  (154,[(4,[0,1,12,13])]),
  (155,[(4,[1,2,15,16,17])]),
  (156,[(4,[0,1,5])]),
  (161,[(4,[0,1,5]),(6,[0,1,5])]),
  (164,[(2,[1,2,5])]),
  (167,[(2,[0,6,7,8])]),
  (175,[(2,[2,3,6])]),
  (176,[(2,[2,6])]),
  (178,[(4,[3,11,12])]),
  (179,[(4,[0,2,4,5,10])]),
  (180,[(2,[0,1,7,8])]),
  (181,[(9,[1,2,3,4,10,11])]),
  (182,[(2,[0,1,5])]),
  (183,[(2,[0,1,7,8])]),
  (184,[(1,[0,1,2,6]),(4,[0,1,2,6,7])]),
  (185,[(4,[0,6,7,8,9]),(8,[0,6,7,10])]),
  (186,[(5,[0,1,6,7,8,9])]),
  (188,[(2,[0,6,7])]),
  (189,[(3,[0,1,2,7,8]),(5,[0,1,2,7,8]),(14,[0,1,2,7,8,9]),(20,[0,1,2,7,8,10])]),
  (191,[(3,[0,1,9,10]),(5,[0,1,9,10])]),
  (192,[(3,[0,1,10,11]),(5,[0,1,10,11]),(13,[0,1,10,11]),(15,[0,1,10,11])]),
  (202,[(9,[0,1,3,4,9,10,43,44,45])]),
  (215,[(8,[7,8])]),
  (218,[(1,[1,2,3,4,5,6]),(15,[1,2,3,4,5,6,9,13,93,94])]),
  (219,[(2,[2,4,10,11,12])]),
  (220,[(2,[3,4,8,9,10])]),
  (221,[(2,[2,3,5,8,12,13,14])]),
  (222,[(2,[2,6,7,8])]),
  (224,[(3,[1,2,4,21,22,23]),(7,[1,2,6,7,21,22,23,29]),(16,[1,2,6,7,8,9,21,22,23,29,75,76]),(23,[1,2,94])]),
  (226,[(2,[0,1,5])]),
  (227,[(1,[0,2,3,8])]),
  (239,[(4,[1,2,4,5]),(6,[1,2,4,5,6])]),
  (240,[(2,[1,2,3,7])]),
  (254,[(2,[0,1,7,8])]),
  (255,[(2,[0,1,7,8])]),
  (272,[(1,[0,2,3])])],
 site:=[(71,[3]),(98,[2,3,4,5]),(100,[2,3,4,5]),(102,[3,4]),(112,[39]),(134,[1]),(144,[1,3,4,5]),(150,[3]),(151,[2]),(172,[1,3,4,5]),(174,[1,3]),(178,[2,3]),(186,[7]),(187,[9]),(195,[3]),(197,[3]),(198,[2,3,5]),(201,[14]),(205,[5,7]),(206,[1,2]),(211,[2]),(216,[2]),(252,[3,4]),(260,[1]),(263,[1])] }
def T:Tw.Tab:={ Tb with exts:=[17,104],ext:=a2Y,Ho:=[97,113] }
end Go.Proofs.YtjkgcifieggcpaaGreat
namespace Go.Proofs.YtjkgcifieggcpaaGreat
open Go Tw Pv
structure Rw where
 fr:List Int
 to:List Int
 cell:V
 deriving DecidableEq
structure Br where
 var:Int
 kids:List Int
 deriving DecidableEq
structure Dg where
 sizes:List Int
 order:List Int
 ends:List V
 nodes:List Br
 root:Int
 deriving DecidableEq
structure Ld where
 s:List Int
 cells:List V
 deriving DecidableEq
structure Fc where
 name:ByteArray
 d:Dg
 deriving DecidableEq
structure Pc where
 facts:Int
 goal:Bool
 deriving DecidableEq
abbrev XJ:Dg:=⟨[],[],[],[],0⟩
abbrev Fc0:Fc:=⟨⟨#[]⟩,XJ⟩
abbrev xG:Pc:=⟨0,false⟩
abbrev Rw0:Rw:=⟨[],[],V0⟩
abbrev O4:Br:=⟨0,[]⟩
abbrev Ld0:Ld:=⟨[],[]⟩
inductive Kd where
 | i64 | u8 | u16 | u64 | b | o | k | v | rw | br | tb | vs | ld | dg | is | fc | pc | bl | bs | no
def Kd.T:Kd→Type
 | .i64 | .u8 | .u16 | .u64=>Int
 | .dg=>Dg
 | .is=>List Int
 | .fc=>Fc
 | .pc=>Pc
 | .bl=>Bool
 | .bs=>List Bool
 | .b=>B
 | .o=>O
 | .k=>K
 | .v=>V
 | .rw=>Rw
 | .br=>Br
 | .tb=>List Rw
 | .vs=>List V
 | .ld=>Ld
 | .no=>Unit
def kd (t:Nat):Kd:=match t with
 | 3=>.i64
 | 5=>.u8
 | 900001=>.b
 | 900002=>.o
 | 900003=>.k
 | 82=>.u16
 | 141=>.u64
 | 27=>.dg
 | 22=>.is
 | 66=>.fc
 | 164=>.pc
 | 4=>.bl
 | 45=>.bs
 | 79=>.v
 | 900004=>.rw
 | 102=>.br
 | 900005=>.tb
 | 24=>.vs
 | 900006=>.ld
 | _=>.no
def bF (t:Nat):Type:=(kd t).T
def Kd.z:(k:Kd)→k.T
 | .i64 | .u8 | .u16 | .u64=>(0:Int)
 | .dg=>XJ
 | .is=>([]:List Int)
 | .fc=>Fc0
 | .pc=>xG
 | .bl=>false
 | .bs=>([]:List Bool)
 | .b=>B0
 | .o=>O0
 | .k=>K0
 | .v=>V0
 | .rw=>Rw0
 | .br=>O4
 | .tb=>([]:List Rw)
 | .vs=>([]:List V)
 | .ld=>Ld0
 | .no=>()
abbrev lI (l:List Int):PV bF:=.lst 3 l false
abbrev lV (l:List V):PV bF:=.lst 79 l false
abbrev lRw (l:List Rw):PV bF:=.lst 900004 l false
abbrev lBr (l:List Br):PV bF:=.lst 102 l false
abbrev lDg (l:List Dg):PV bF:=.lst 27 l false
abbrev lB (l:List Bool):PV bF:=.lst 4 l false
def B.ps (b:B):List (PV bF):=[.int .i64 b.lo,.int .i64 b.hi,.int .u8 b.f]
def O.ps (o:O):List (PV bF):=[.int .u8 o.code,.int .i64 o.a,.int .i64 o.b,.int .i64 o.c,.int .i64 o.n]
def K.ps (c:K):List (PV bF):=[.str c.name,.int .i64 c.lo,.int .i64 c.hi]
def V.ps (v:V):List (PV bF):=[.int .u8 v.f,.int .i64 v.n]
def Rw.ps (r:Rw):List (PV bF):=[lI r.fr,lI r.to,.int .u8 r.cell.f,.int .i64 r.cell.n]
def Br.ps (b:Br):List (PV bF):=[.int .i64 b.var,lI b.kids]
def Ld.ps (x:Ld):List (PV bF):=[lI x.s,lV x.cells]
def Dg.ps (d:Dg):List (PV bF):=[lI d.sizes,lI d.order,lV d.ends,lBr d.nodes,.int .i64 d.root]
def Fc.ps (x:Fc):List (PV bF):=.str x.name::x.d.ps
def Pc.ps (x:Pc):List (PV bF):=[.int .u64 x.facts,.bool x.goal]
def B.un (l:List (PV bF)):Option B:=match l with
 | [.int .i64 a,.int .i64 b,.int .u8 c]=>some ⟨a,b,c⟩
 | _=>none
def O.un (l:List (PV bF)):Option O:=match l with
 | [.int .u8 c,.int .i64 x,.int .i64 y,.int .i64 z,.int .i64 n]=>some ⟨c,x,y,z,n⟩
 | _=>none
def K.un (l:List (PV bF)):Option K:=match l with
 | [.str c,.int .i64 x,.int .i64 y]=>some ⟨c,x,y⟩
 | _=>none
def V.un (l:List (PV bF)):Option V:=match l with
 | [.int .u8 c,.int .i64 x]=>some ⟨c,x⟩
 | _=>none
def I.un (k:IntKind) (l:List (PV bF)):Option Int:=match l with
 | [.int k' x]=>if k'=k then some x else none
 | _=>none
def L.un (t:Nat) (v:PV bF):Option (List (bF t)):=match v with
 | .lst t' l _=>pJ t t' l
 | .nil .slc=>some []
 | _=>none
def Rw.un (l:List (PV bF)):Option Rw:=match l with
 | [a,b,.int .u8 c,.int .i64 x]=>match L.un 3 a,L.un 3 b with
  | some a,some b=>some ⟨a,b,⟨c,x⟩⟩
  | _,_=>none
 | _=>none
def Br.un (l:List (PV bF)):Option Br:=match l with
 | [.int .i64 x,a]=>match L.un 3 a with
  | some a=>some ⟨x,a⟩
  | none=>none
 | _=>none
def Tb.un (l:List (PV bF)):Option (List Rw):=match l with
 | [a]=>L.un 900004 a
 | _=>none
def Vs.un (l:List (PV bF)):Option (List V):=match l with
 | [a]=>L.un 79 a
 | _=>none
def Ld.un (l:List (PV bF)):Option Ld:=match l with
 | [a,b]=>match L.un 3 a,L.un 79 b with
  | some a,some b=>some ⟨a,b⟩
  | _,_=>none
 | _=>none
def Dg.un (l:List (PV bF)):Option Dg:=match l with
 | [a,b,c,d,.int .i64 r]=>match L.un 3 a,L.un 3 b,L.un 79 c,L.un 102 d with
  | some a,some b,some c,some d=>some ⟨a,b,c,d,r⟩
  | _,_,_,_=>none
 | _=>none
def Is.un (l:List (PV bF)):Option (List Int):=match l with
 | [a]=>L.un 3 a
 | _=>none
def Fc.un (l:List (PV bF)):Option Fc:=match l with
 | .str n::r=>(Dg.un r).map (⟨n,·⟩)
 | _=>none
def Pc.un (l:List (PV bF)):Option Pc:=match l with
 | [.int .u64 n,.bool b]=>some ⟨n,b⟩
 | _=>none
def Bl.un (l:List (PV bF)):Option Bool:=match l with
 | [.bool b]=>some b
 | _=>none
def Bs.un (l:List (PV bF)):Option (List Bool):=match l with
 | [a]=>L.un 4 a
 | _=>none
def Kd.enc:(k:Kd)→k.T→List (PV bF)
 | .i64=>fun n=>[.int .i64 n]
 | .u8=>fun n=>[.int .u8 n]
 | .u16=>fun n=>[.int .u16 n]
 | .u64=>fun n=>[.int .u64 n]
 | .dg=>Dg.ps
 | .is=>fun l=>[lI l]
 | .fc=>Fc.ps
 | .pc=>Pc.ps
 | .bl=>fun b=>[.bool b]
 | .bs=>fun l=>[lB l]
 | .b=>B.ps
 | .o=>O.ps
 | .k=>K.ps
 | .v=>V.ps
 | .rw=>Rw.ps
 | .br=>Br.ps
 | .tb=>fun l=>[lRw l]
 | .vs=>fun l=>[lV l]
 | .ld=>Ld.ps
 | .no=>fun _=>[]
def Kd.dec:(k:Kd)→List (PV bF)→Option k.T
 | .i64=>I.un .i64
 | .u8=>I.un .u8
 | .u16=>I.un .u16
 | .u64=>I.un .u64
 | .dg=>Dg.un
 | .is=>Is.un
 | .fc=>Fc.un
 | .pc=>Pc.un
 | .bl=>Bl.un
 | .bs=>Bs.un
 | .b=>B.un
 | .o=>O.un
 | .k=>K.un
 | .v=>V.un
 | .rw=>Rw.un
 | .br=>Br.un
 | .tb=>Tb.un
 | .vs=>Vs.un
 | .ld=>Ld.un
 | .no=>fun _=>none
noncomputable def X0:gZ:=⟨bF,fun t=>(kd t).z,fun t=>(kd t).enc,fun t=>(kd t).dec⟩
theorem B.jS {l:List (PV bF)} {b:B} (h:B.un l=some b):B.ps b=l:=by
 unfold B.un at h;split at h
 ·cases h;rfl
 ·cases h
theorem O.jS {l:List (PV bF)} {b:O} (h:O.un l=some b):O.ps b=l:=by
 unfold O.un at h;split at h
 ·cases h;rfl
 ·cases h
theorem K.jS {l:List (PV bF)} {b:K} (h:K.un l=some b):K.ps b=l:=by
 unfold K.un at h;split at h
 ·cases h;rfl
 ·cases h
theorem V.jS {l:List (PV bF)} {b:V} (h:V.un l=some b):V.ps b=l:=by
 unfold V.un at h;split at h
 ·cases h;rfl
 ·cases h
theorem I.jS {k:IntKind} {l:List (PV bF)} {b:Int} (h:I.un k l=some b):[PV.int k b]=l:=by
 unfold I.un at h;split at h
 ·split at h
  ·rename_i e;cases h;rw[e]
  ·cases h
 ·cases h
section
variable {A:Nat→Prop} {m:List MB} {h:List HB}
theorem L.dn {t:Nat} {v:PV bF} {l:List (bF t)} (hu:L.un t v=some l) {x:TV} (hv:VR X0 Tryz.prog A m h v x):VR X0 Tryz.prog A m h (.lst t l false) x:=(Nw (X:=X0) (P:=Tryz.prog) t).ok (a:=l) (v:=v) (by
 cases v with
 | nil k=>cases k<;>first | exact hu | cases hu
 | lst t' l' f=>exact hu
 | _=>cases hu) hv
theorem Rw.dn {l:List (PV bF)} {r:Rw} (hu:Rw.un l=some r) {xs:List TV} (hv:aG X0 Tryz.prog A m h l xs):aG X0 Tryz.prog A m h r.ps xs:=by
 unfold Rw.un at hu;split at hu
 ·split at hu
  ·rename_i e1 e2
   cases hu
   obtain⟨x1,r1,rfl,h1,hv⟩:=hv.inv
   obtain⟨x2,r2,rfl,h2,hv⟩:=hv.inv
   exact .cons (L.dn e1 h1) (.cons (L.dn e2 h2) hv)
  ·cases hu
 ·cases hu
theorem Br.dn {l:List (PV bF)} {r:Br} (hu:Br.un l=some r) {xs:List TV} (hv:aG X0 Tryz.prog A m h l xs):aG X0 Tryz.prog A m h r.ps xs:=by
 unfold Br.un at hu;split at hu
 ·split at hu
  ·rename_i e1
   cases hu
   obtain⟨x1,r1,rfl,h1,hv⟩:=hv.inv
   obtain⟨x2,r2,rfl,h2,hv⟩:=hv.inv
   exact .cons h1 (.cons (L.dn e1 h2) hv)
  ·cases hu
 ·cases hu
theorem Ld.dn {l:List (PV bF)} {r:Ld} (hu:Ld.un l=some r) {xs:List TV} (hv:aG X0 Tryz.prog A m h l xs):aG X0 Tryz.prog A m h r.ps xs:=by
 unfold Ld.un at hu;split at hu
 ·split at hu
  ·rename_i e1 e2
   cases hu
   obtain⟨x1,r1,rfl,h1,hv⟩:=hv.inv
   obtain⟨x2,r2,rfl,h2,hv⟩:=hv.inv
   exact .cons (L.dn e1 h1) (.cons (L.dn e2 h2) hv)
  ·cases hu
 ·cases hu
theorem Tb.dn {l:List (PV bF)} {r:List Rw} (hu:Tb.un l=some r) {xs:List TV} (hv:aG X0 Tryz.prog A m h l xs):aG X0 Tryz.prog A m h [lRw r] xs:=by
 rcases l with _ | ⟨a,_ | ⟨b,l⟩⟩
 ·cases hu
 ·obtain⟨x1,r1,rfl,h1,hv⟩:=hv.inv
  exact .cons (L.dn hu h1) hv
 ·cases hu
theorem Vs.dn {l:List (PV bF)} {r:List V} (hu:Vs.un l=some r) {xs:List TV} (hv:aG X0 Tryz.prog A m h l xs):aG X0 Tryz.prog A m h [lV r] xs:=by
 rcases l with _ | ⟨a,_ | ⟨b,l⟩⟩
 ·cases hu
 ·obtain⟨x1,r1,rfl,h1,hv⟩:=hv.inv
  exact .cons (L.dn hu h1) hv
 ·cases hu
theorem Dg.dn {l:List (PV bF)} {r:Dg} (hu:Dg.un l=some r) {xs:List TV} (hv:aG X0 Tryz.prog A m h l xs):aG X0 Tryz.prog A m h r.ps xs:=by
 unfold Dg.un at hu;split at hu
 ·split at hu
  ·rename_i e1 e2 e3 e4
   cases hu
   obtain⟨x1,r1,rfl,h1,hv⟩:=hv.inv
   obtain⟨x2,r2,rfl,h2,hv⟩:=hv.inv
   obtain⟨x3,r3,rfl,h3,hv⟩:=hv.inv
   obtain⟨x4,r4,rfl,h4,hv⟩:=hv.inv
   exact .cons (L.dn e1 h1) (.cons (L.dn e2 h2) (.cons (L.dn e3 h3) (.cons (L.dn e4 h4) hv)))
  ·cases hu
 ·cases hu
theorem Is.dn {l:List (PV bF)} {r:List Int} (hu:Is.un l=some r) {xs:List TV} (hv:aG X0 Tryz.prog A m h l xs):aG X0 Tryz.prog A m h [lI r] xs:=by
 rcases l with _ | ⟨a,_ | ⟨b,l⟩⟩
 ·cases hu
 ·obtain⟨x1,r1,rfl,h1,hv⟩:=hv.inv
  exact .cons (L.dn hu h1) hv
 ·cases hu
theorem Bs.dn {l:List (PV bF)} {r:List Bool} (hu:Bs.un l=some r) {xs:List TV} (hv:aG X0 Tryz.prog A m h l xs):aG X0 Tryz.prog A m h [lB r] xs:=by
 rcases l with _ | ⟨a,_ | ⟨b,l⟩⟩
 ·cases hu
 ·obtain⟨x1,r1,rfl,h1,hv⟩:=hv.inv
  exact .cons (L.dn hu h1) hv
 ·cases hu
theorem Bl.jS {l:List (PV bF)} {b:Bool} (h:Bl.un l=some b):[PV.bool b]=l:=by
 unfold Bl.un at h;split at h
 ·cases h;rfl
 ·cases h
theorem Fc.dn {l:List (PV bF)} {r:Fc} (hu:Fc.un l=some r) {xs:List TV} (hv:aG X0 Tryz.prog A m h l xs):aG X0 Tryz.prog A m h r.ps xs:=by
 unfold Fc.un at hu;split at hu
 ·obtain⟨d,e1,rfl⟩:=Option.map_eq_some_iff.1 hu
  obtain⟨x1,r1,rfl,h1,hv⟩:=hv.inv
  exact .cons h1 (Dg.dn e1 hv)
 ·cases hu
theorem Pc.jS {l:List (PV bF)} {b:Pc} (h:Pc.un l=some b):Pc.ps b=l:=by
 unfold Pc.un at h;split at h
 ·cases h;rfl
 ·cases h
theorem TD:∀ (k:Kd) {l:List (PV bF)} {a:k.T},k.dec l=some a→∀ {xs:List TV},aG X0 Tryz.prog A m h l xs→aG X0 Tryz.prog A m h (k.enc a) xs
 | .i64,_,_,e,_,hv=>by rw[show Kd.enc .i64 _=_ from I.jS e];exact hv
 | .u8,_,_,e,_,hv=>by rw[show Kd.enc .u8 _=_ from I.jS e];exact hv
 | .u16,_,_,e,_,hv=>by rw[show Kd.enc .u16 _=_ from I.jS e];exact hv
 | .u64,_,_,e,_,hv=>by rw[show Kd.enc .u64 _=_ from I.jS e];exact hv
 | .dg,_,_,e,_,hv=>Dg.dn e hv
 | .is,_,_,e,_,hv=>Is.dn e hv
 | .fc,_,_,e,_,hv=>Fc.dn e hv
 | .pc,_,_,e,_,hv=>by rw[show Kd.enc .pc _=_ from Pc.jS e];exact hv
 | .bl,_,_,e,_,hv=>by rw[show Kd.enc .bl _=_ from Bl.jS e];exact hv
 | .bs,_,_,e,_,hv=>Bs.dn e hv
 | .b,_,_,e,_,hv=>by rw[show Kd.enc .b _=_ from B.jS e];exact hv
 | .o,_,_,e,_,hv=>by rw[show Kd.enc .o _=_ from O.jS e];exact hv
 | .k,_,_,e,_,hv=>by rw[show Kd.enc .k _=_ from K.jS e];exact hv
 | .v,_,_,e,_,hv=>by rw[show Kd.enc .v _=_ from V.jS e];exact hv
 | .rw,_,_,e,_,hv=>Rw.dn e hv
 | .br,_,_,e,_,hv=>Br.dn e hv
 | .tb,_,_,e,_,hv=>Tb.dn e hv
 | .vs,_,_,e,_,hv=>Vs.dn e hv
 | .ld,_,_,e,_,hv=>Ld.dn e hv
 | .no,_,_,e,_,_=>by cases e
end
theorem NH:∀ (k:Kd) (a:k.T),dH.sD (k.enc a)=true:=by
 intro k a
 cases k<;>rfl
theorem hX:aT X0 Tryz.prog:=⟨fun {t} vs a e {A m hh xs} hv=>TD (kd t) e hv,fun t a=>NH (kd t) a⟩
abbrev Arg (α:Type):=Ar X0 Tryz.prog α
noncomputable def iA:Arg Int:=WA .i64
noncomputable def hA:Arg Int:=WA .u16
noncomputable def tA:Arg Bool:=YT
noncomputable def vA:Arg V:=YU hX 79
noncomputable def brA:Arg Br:=YU hX 102
noncomputable def isA:Arg (List Int):=Nw 3
noncomputable def vsA:Arg (List V):=Nw 79
noncomputable def TF:Arg (List Br):=Nw 102
noncomputable def a3a:Arg (List Dg):=Nw 27
noncomputable def a04:Arg (List Fc):=Nw 66
noncomputable def pA:Arg Int:=WA .u64
noncomputable def dA:Arg Dg:=YW (Tt (Jk isA (a4 isA vsA TF iA))) (fun p=>⟨p.1,p.2.1,p.2.2.1,p.2.2.2.1,p.2.2.2.2⟩) (fun d=>(d.sizes,d.order,d.ends,d.nodes,d.root)) fun _=>rfl
abbrev LL:Nat:=2^24
noncomputable abbrev ApN (n:Nat):ay:=yw Tryz.prog T LL n
abbrev Ok (n:Nat) (jG:gK bF):Prop:=jL X0 Tryz.prog (ApN n) jG
abbrev xi (n:Int):PE bF:=.val (.int .i64 n)
abbrev xt (b:Bool):PE bF:=.val (.bool b)
abbrev xl (b:Bool):PE bF:=.val (.lit b)
abbrev xv (v:V):PE bF:=.val (.agg v.ps)
abbrev xL (t:Nat) (l:List (bF t)):PE bF:=.val (.lst t l false)
end Go.Proofs.YtjkgcifieggcpaaGreat
namespace Go.Proofs.YtjkgcifieggcpaaGreat
open Go Tw Pv
abbrev Rh (n f k m:Nat) (s:aP bF) (e:Ex) (p:aP bF):Prop:=rF X0 Tryz.prog T (ApN n) LL f false (ntP Tryz.prog f) 0 (YX Tryz.prog f k) m s e p
abbrev wQ (a b v:Int) (x:List (Nat×PE bF)):aP bF:=⟨[(0,xi a),(1,xi b),(5,xi v)]++x,[],[]⟩
theorem q0 {n:Nat} (hO:Ok n (Jl (X:=X0))) (a b:Int) (hb0:0<b) (hb1:b≤10000) (ha0:0≤a) (ha1:a≤10000):∀ (d:Nat),(d:Int)≤a/b→Rh n 161 0 (d+1) (wQ a b (a/b-d) []) (.exit 0) (wQ a b (a/b) [(17,xl false)]):=by
 have hq1:a/b≤a:=Int.ediv_le_self b ha0
 have hlt:a<(a/b+1)*b:=by have:=Int.lt_ediv_add_one_mul_self a hb0;exact this
 have hle:a/b*b≤a:=Int.ediv_mul_le a (by omega)
 intro d
 induction d with
 | zero=>
  intro hd
  rw[show a/b-((0:Nat):Int)=a/b by omega]
  exact round hX hO (by kernel_rfl) (.b (show decide (IntKind.i64.wrap (IntKind.i64.wrap (a/b+1)*b)≤a)=false by rw[wrap_small (z:=a/b+1) (by omega) (by omega),rG (by omega) (by omega) (by omega) (by omega)];simp only[decide_eq_false_iff_not];omega) .ex)
 | succ d ih=>
  intro hd
  have hdd:(d:Int)+1≤a/b:=by omega
  have hm1:(a/b-d)*b≤a:=by
   have:(a/b-d)*b≤(a/b)*b:=Int.mul_le_mul_of_nonneg_right (by omega) (by omega)
   omega
  have h:=ih (by omega)
  rw[←show IntKind.i64.wrap (a/b-((d+1:Nat):Int)+1)=a/b-d by rw[wrap_small (by omega) (by omega)];omega] at h
  exact round hX hO (by kernel_rfl) (.b (show decide (IntKind.i64.wrap (IntKind.i64.wrap (a/b-((d+1:Nat):Int)+1)*b)≤a)=true by
   rw[wrap_small (z:=a/b-((d+1:Nat):Int)+1) (by omega) (by omega),show a/b-((d+1:Nat):Int)+1=a/b-d by omega,rG (by omega) (by omega) (by omega) (by omega)]
   simp only[decide_eq_true_eq];exact hm1) (.go h))
theorem q1 {n:Nat} (hO:Ok n (Jl (X:=X0))) (a b:Int) (hb0:0<b) (hb1:b≤10000) (ha0:-10000≤a) (ha1:a≤10000):∀ (d:Nat),(d:Int)≤10000→Rh n 161 1 (d+1) (wQ a b (a/b+d) []) (.exit 2) (wQ a b (a/b) [(24,xl false)]):=by
 have hq1:a/b≤10000:=by
  rcases Int.lt_or_le a 0 with h | h
  ·have:=Int.ediv_neg_of_neg_of_pos h hb0;omega
  ·have:=Int.ediv_le_self b h;omega
 have hlt:a<(a/b+1)*b:=by have:=Int.lt_ediv_add_one_mul_self a hb0;exact this
 have hle:a/b*b≤a:=Int.ediv_mul_le a (by omega)
 have hq0:-10000≤a/b:=by
  have h1:(-10000:Int)*b≤a:=by
   have:(-10000:Int)*b≤(-10000)*1:=by omega
   omega
  exact (Int.le_ediv_iff_mul_le hb0).mpr h1
 intro d
 induction d with
 | zero=>
  intro hd
  rw[show a/b+((0:Nat):Int)=a/b by omega]
  exact round hX hO (by kernel_rfl) (.b (show decide (IntKind.i64.wrap (a/b*b)>a)=false by rw[rG (by omega) (by omega) (by omega) (by omega)];simp only[decide_eq_false_iff_not];omega) .ex)
 | succ d ih=>
  intro hd
  have hm1:a<(a/b+(d+1:Nat))*b:=by
   have:(a/b+1)*b≤(a/b+(d+1:Nat))*b:=Int.mul_le_mul_of_nonneg_right (by omega) (by omega)
   omega
  have h:=ih (by omega)
  rw[←show IntKind.i64.wrap (a/b+((d+1:Nat):Int)-1)=a/b+d by rw[wrap_small (by omega) (by omega)];omega] at h
  exact round hX hO (by kernel_rfl) (.b (show decide (IntKind.i64.wrap ((a/b+((d+1:Nat):Int))*b)>a)=true by
   rw[rG (by omega) (by omega) (by omega) (by omega)]
   simp only[decide_eq_true_eq];exact hm1) (.go h))
abbrev inN (x:Int):Prop:=-10000≤x∧x≤10000
theorem getD_at {α:Type} {l:List α} {k:Nat} (h:k<l.length) (d:α):l[k]? = some (l.getD k d):=by simp[List.getD,List.getElem?_eq_getElem h]
end Go.Proofs.YtjkgcifieggcpaaGreat
namespace Go.Proofs.YtjkgcifieggcpaaGreat
open Go Tw Pv
abbrev a3b (f:Nat) (a c:List (PV bF)) (H:List (PB bF)) (l:List Int) (i:Int) (x:List (Nat×PE bF)):aP bF:=⟨[(0,xL 3 l),(1,.val (.fn f a c)),(7,xi l.length),(8,xi i)]++x,[],H⟩
def z183 (f:Nat) (a c:List (PV bF)) (H:List (PB bF)) (l:List Int):Unit⊕(Nat×Int×Unit)→Ex×aP bF
 | .inl _=>(.exit 0,a3b f a c H l l.length [(9,xl false)])
 | .inr r=>(.ret,⟨[(4,xi r.1)],[],H⟩)
end Go.Proofs.YtjkgcifieggcpaaGreat
namespace Go.Proofs.YtjkgcifieggcpaaGreat
open Go Tw Pv
noncomputable def a05:gK bF:=cO 252 (a3 iA iA isA) tA (fun p=>Ea p.2.2 p.1 p.2.1) (fun p=>[p.2.2.length≤most]) (Jl (X:=X0))
noncomputable def a06:gK bF:=cO 225 (a1 vA) tA (fun p=>Q8 p) np a05
end Go.Proofs.YtjkgcifieggcpaaGreat
namespace Go.Proofs.YtjkgcifieggcpaaGreat
open Go Tw Pv fA
noncomputable def a3c:gK bF:=cO 93 (a3 iA iA iA) tA (fun p=>vk p.1 p.2.1 p.2.2) np a06
noncomputable def a3d:gK bF:=cO 26 (a2 isA isA) tA (fun p=>decide (p.1=p.2)) (fun p=>[p.1.length≤most]) a3c
noncomputable def a3e:gK bF:=cO 94 (a2 isA iA) iA (fun p=>yG p.1) (fun p=>[p.1.length≤most,p.2=0]) a3d
noncomputable def a3f:gK bF:=cO 63 (a1 isA) iA (fun p=>yG p) (fun p=>[p.length≤most]) a3e
abbrev xw (s:List Int):Int:=IntKind.i64.wrap ((s.length:Int)-1)
theorem a07 {s:List Int} (h:s.length≤most):xw s=(s.length:Int)-1:=by unfold xw;unfold most at h;exact zD (by omega) (by omega)
theorem Fj {k lo hi:Int}:vk k lo hi=true↔lo≤k∧k≤hi:=by
 unfold vk;split
 ·rename_i h;simp at h ⊢;omega
 ·rename_i h;simp at h ⊢;omega
noncomputable def a3g:gK bF:=cO 95 (a2 isA isA) tA (fun p=>BH p.1.length p.2) (fun p=>[p.1.length≤most,p.2.length≤most]) a3f
abbrev cSz (a:List Int) (k:Nat):Bool:=!(vk (a.getD k 0) 1 12)
theorem TG {a:List Int}:D5 (mF (cSz a) a.length)=decide (yP a):=by
 rw[Bool.eq_iff_iff,Fg,decide_eq_true_eq,yP,←Q9 (d:=0)]
 refine forall_congr' fun j=>forall_congr' fun hj=>?_
 simp only[cSz,Bool.not_eq_false',Fj]
def iK (s o:List Int):Int:=if decide ((s.length:Int)>6)=true then 5 else if D5 (mF (cSz s) s.length)=true then (if decide (yG s>2000)=true then 5 else if (!(BH s.length o))=true then 4 else 0) else 3
noncomputable def a3i:gK bF:=cO 62 (a2 isA isA) iA (fun p=>iK p.1 p.2) (fun p=>[p.2.length≤most]) a3g
theorem Jq (s o:List Int):iK s o=if 6<s.length then 5 else if yP s then (if 2000<bV s then 5 else if BH s.length o=true then 0 else 4) else 3:=by
 unfold iK
 rw[TG]
 by_cases h1:6<s.length
 ·rw[if_pos h1,if_pos (by simp;omega)]
 ·rw[if_neg h1,if_neg (by simp;omega)]
  by_cases h2:yP s
  ·rw[if_pos (by simpa using h2),if_pos h2,GV h2]
   by_cases h3:2000<bV s
   ·rw[if_pos h3,if_pos (by simp;omega)]
   ·rw[if_neg h3,if_neg (by simp;omega)]
    cases BH s.length o<;>simp
  ·rw[if_neg (by simpa using h2),if_neg h2]
theorem Jr {s o:List Int}:iK s o=0↔Fine s∧BH s.length o=true:=by
 rw[Jq]
 constructor
 ·intro h
  split at h
  ·cases h
  split at h
  ·split at h
   ·cases h
   split at h
   ·exact⟨⟨by omega,by assumption,by omega⟩,by assumption⟩
   ·cases h
  ·cases h
 ·rintro⟨⟨h1,h2,h3⟩,h4⟩
  rw[if_neg (by omega),if_pos h2,if_neg (by omega),if_pos h4]
noncomputable def a3j:gK bF:=cO 86 (a2 isA iA) isA (fun p=>WG p.1 p.2) (fun p=>[p.1.length≤most,yP p.1,0≤p.2,p.2<2^62]) a3i
noncomputable def a08:gK bF:=cO 126 (a2 isA isA) iA (fun p=>TA p.1 p.2) (fun p=>[xB p.1 p.2=true,Fine p.1]) a3j
def vOk (v:V):Bool:=if (v.f==0)=true then vk v.n (-9999) 9999 else if (decide (v.f≤4))=true then v.n==0 else false
noncomputable def a09:gK bF:=cO 162 (a1 vA) tA (fun p=>vOk p) np a08
end Go.Proofs.YtjkgcifieggcpaaGreat
namespace Go.Proofs.YtjkgcifieggcpaaGreat
open Go Tw Pv fA
def UZ (n:Nat):List Int:=(List.range n).map fun (k:Nat)=>(k:Int)
abbrev a3k (r:Rw) (p:List Int) (k:Nat):Bool:=if decide (p.getD k 0<r.fr.getD k 0)=true then true else decide (p.getD k 0>r.to.getD k 0)
def a3l (r:Rw) (p:List Int):Bool:=D5 (mF (a3k r p) p.length)
def a3m (t:List Rw) (p:List Int) (k:Nat) (x:Int×Int):Int×Int:=if a3l (t.getD k Rw0) p=true then (IntKind.i64.wrap (x.1+1),(k:Int)) else x
def Qd (t:List Rw) (p:List Int):Int×Int:=qj (a3m t p) t.length 0 (0,-1)
def a0a (t:List Rw) (n:Nat):Prop:=∀ r∈t,r.fr.length=n∧r.to.length=n
structure Laid (s:List Int) (t:List Rw):Prop where
 fine:Fine s
 len:t.length≤4000
 rows:a0a t s.length
 own:∀ p,xB s p=true→zl (Qd t p).2 t.length
end Go.Proofs.YtjkgcifieggcpaaGreat
namespace Go.Proofs.YtjkgcifieggcpaaGreat
open Go Tw Pv fA
abbrev V.tv (v:V):TV:=.agg [.int .u8 v.f,.int .i64 v.n]
abbrev B.tv (b:B):TV:=.agg [.int .i64 b.lo,.int .i64 b.hi,.int .u8 b.f]
theorem a3n:Tryz.prog.underlying 3=some (.int .i64):=by kernel_rfl
theorem uU8:Tryz.prog.underlying 5=some (.int .u8):=by kernel_rfl
theorem a3o : Tryz.prog.underlying 79 = some (.struct #[⟨"Fault", 5, 0, false, "", "", 0⟩, ⟨"N", 3, 1, false, "", "", 8⟩]) := by kernel_rfl
theorem a0b (d:Nat) (a b:V):au Tryz.prog (Op.equalIn (d+2) 79 (.agg #[.int .u8 a.f,.int .i64 a.n]) (.agg #[.int .u8 b.f,.int .i64 b.n]))=some (decide (a=b)):=by
 rw[lN (d+1) 79 _ _ _ a3o (by kernel_rfl)]
 have p0:∀ x y:Value,au Tryz.prog (part 5 #[x,y] 0)=some x:=by intro x y;kernel_rfl
 have p1:∀ x y:Value,au Tryz.prog (part 3 #[x,y] 1)=some y:=by intro x y;kernel_rfl
 have n1 : ("Fault" : String) ≠ "_" := by decide
 have n2 : ("N" : String) ≠ "_" := by decide
 have q1 := ig (f := ⟨"Fault", 5, 0, false, "", "", 0⟩) (fs := [⟨"N", 3, 1, false, "", "", 8⟩]) n1 (p0 (.int .u8 a.f) (.int .i64 a.n)) (p0 (.int .u8 b.f) (.int .i64 b.n)) (kS d _ _ _ _ _ uU8)
 have q2 := ig (f := ⟨"N", 3, 1, false, "", "", 8⟩) (fs := []) n2 (p1 (.int .u8 a.f) (.int .i64 a.n)) (p1 (.int .u8 b.f) (.int .i64 b.n)) (kS d _ _ _ _ _ a3n)
 rw[q1,q2]
 rw[show au Tryz.prog (Op.eqFields (d+1) #[.int .u8 a.f,.int .i64 a.n] #[.int .u8 b.f,.int .i64 b.n] [])=some true from rfl]
 rcases a with⟨a1,a2⟩
 rcases b with⟨b1,b2⟩
 by_cases h1:a1=b1<;>by_cases h2:a2=b2<;>simp[h1,h2]
theorem D6 (x y:Operand) (a b:V):jo Tryz.prog .eql 79 x y (V.tv a) (V.tv b)=some (.bool (decide (a=b))):=(EP rfl rfl (by kernel_rfl) (by decide) (a0b 9998 a b)).1
end Go.Proofs.YtjkgcifieggcpaaGreat
namespace Go.Proofs.YtjkgcifieggcpaaGreat
open Go Tw Pv fA
def blk (l:List V) (w j:Nat):List V:=(l.take ((j+1)*w)).drop (j*w)
theorem Lr {l:List V} {w n j:Nat} (hl:l.length=n*w) (hj:j<n):(blk l w j).length=w:=by
 unfold blk
 have h1:(j+1)*w≤n*w:=Nat.mul_le_mul_right w hj
 rw[List.length_drop,List.length_take,Nat.min_eq_left (by omega),Nat.add_mul];omega
structure Qe (s:List Int) (l:List V):Prop where
 fine:Fine s
 len:(l.length:Int)=bV s
theorem Qe.w {a:Int} {s:List Int} {l:List V} (h:Qe (a::s) l):l.length=a.toNat*(l.length/a.toNat)∧((l.length/a.toNat:Nat):Int)=bV s∧1≤a∧a≤12:=by
 have ha:=h.fine.sz a (List.mem_cons_self ..)
 have hl:=h.len
 have hp:=ny h.fine.sz.tail
 simp only[bV] at hl
 have e:l.length=a.toNat*(bV s).toNat:=by
  have:((a.toNat*(bV s).toNat:Nat):Int)=a*bV s:=by
   rw[Int.natCast_mul,Int.toNat_of_nonneg (by omega),Int.toNat_of_nonneg (by omega)]
  omega
 have e2:l.length/a.toNat=(bV s).toNat:=by rw[e,Nat.mul_div_cancel_left _ (by omega)]
 rw[e2]
 exact⟨e,by omega,ha⟩
theorem Qe.blk {a:Int} {s:List Int} {l:List V} (h:Qe (a::s) l) {j:Nat} (hj:j<a.toNat):Qe s (blk l (l.length/a.toNat) j):=by
 obtain⟨h1,h2,h3⟩:=h.w
 refine⟨⟨?_,h.fine.sz.tail,?_⟩,?_⟩
 ·have:=h.fine.len;simp at this;omega
 ·have:=h.fine.many
  have hp:=ny h.fine.sz.tail
  simp only[bV] at this
  have:1*bV s≤a*bV s:=Int.mul_le_mul_of_nonneg_right h3.1 (by omega)
  omega
 ·rw[Lr h1 hj];exact h2
end Go.Proofs.YtjkgcifieggcpaaGreat
namespace Go.Proofs.YtjkgcifieggcpaaGreat
open Go Tw Pv fA
theorem V3 {j:Nat} (h:j≤most):IntKind.i64.wrap ((j:Int)+1)=((j+1:Nat):Int):=Tv h
theorem TI {j w:Nat} (hj:j≤20) (hw:w≤5000):IntKind.i64.wrap ((j:Int)*(w:Int))=((j*w:Nat):Int):=by
 have:j*w≤20*5000:=Nat.mul_le_mul hj hw
 rw[←Int.natCast_mul,zD (by omega) (by omega)]
theorem m20 {j:Nat} (h:j≤20):j≤most:=by unfold most;omega
structure Prt (l:List V) (w n:Nat):Prop where
 n12:n≤12
 w2:w≤5000
 len:l.length=n*w
section
variable {l:List V} {w n j:Nat} (h:Prt l w n)
include h
theorem Prt.b1 (hj:j≤20):0≤IntKind.i64.wrap ((j:Int)*(w:Int)):=by rw[TI hj h.w2];omega
theorem Prt.b2 (hj:j<20):IntKind.i64.wrap ((j:Int)*(w:Int))≤IntKind.i64.wrap (IntKind.i64.wrap ((j:Int)+1)*(w:Int)):=by
 rw[V3 (m20 (by omega)),TI (by omega) h.w2,TI (by omega) h.w2,Nat.add_mul];omega
theorem Prt.b3 (hj:j<n):IntKind.i64.wrap (IntKind.i64.wrap ((j:Int)+1)*(w:Int))≤(l.length:Int):=by
 have:=h.n12
 rw[V3 (m20 (by omega)),TI (by omega) h.w2,h.len]
 have:(j+1)*w≤n*w:=Nat.mul_le_mul_right w hj
 omega
theorem Prt.mo (hj:j<n):(blk l w j).length≤most:=by rw[Lr h.len hj];have:=h.w2;unfold most;omega
end
end Go.Proofs.YtjkgcifieggcpaaGreat
namespace Go.Proofs.YtjkgcifieggcpaaGreat
open Go Tw Pv fA
structure sS (s:List Int) (ts:List (List Rw)):Prop where
 fine:Fine s
 laid:∀ t∈ts,Laid s t
 inn:∀ t∈ts,∀ r∈t,inN r.cell.n
 len:1≤ts.length∧ts.length≤3
end Go.Proofs.YtjkgcifieggcpaaGreat
namespace Go.Proofs.YtjkgcifieggcpaaGreat
open Go Tw Pv fA
abbrev fZ (d:Dg) (r:Int):Br:=d.nodes.getD r.toNat O4
abbrev V4 (d:Dg) (r:Int) (k:Nat):Bool:=d.order.getD k 0==(fZ d r).var
def Js (d:Dg) (r:Int):Int:=if decide (r<0)=true then (d.order.length:Int) else if D5 (mF (V4 d r) d.order.length)=true then (d.order.length:Int) else ((WB 0 (mF (V4 d r) d.order.length):Nat):Int)
noncomputable def a0d:gK bF:=cO 164 (a2 dA iA) iA (fun p=>Js p.1 p.2) (fun p=>[p.1.order.length≤most,0≤p.2→zl p.2 p.1.nodes.length]) a09
def vw (d:Dg) (r below:Int):Bool:=if decide (r≥0)=true then decide (r<below) else vk (IntKind.i64.wrap (-1-r)) 0 (IntKind.i64.wrap ((d.ends.length:Int)-1))
noncomputable def a0e:gK bF:=cO 163 (a3 dA iA iA) tA (fun p=>vw p.1 p.2.1 p.2.2) np a0d
abbrev a0f (b:Br) (k:Nat):Bool:=b.kids.getD k 0 != b.kids.getD 0 0
def Qg (b:Br):Bool:=if D5 (a00 (a0f b) 1 (max 1 b.kids.length))=true then true else false
noncomputable def a0g:gK bF:=cO 127 (a1 brA) tA (fun p=>Qg p) (fun p=>[p.kids.length≤most]) a0e
noncomputable def a0h:gK bF:=cO 226 (a2 isA iA) tA (fun p=>decide (p.2∈p.1)) (fun p=>[p.1.length≤most]) a0g
abbrev a3p (l:List Int) (k:Nat):Bool:=l.getD k 0 != (k:Int)
abbrev a3q (l:List Int) (m i:Int) (x:List (Nat×PE bF)):aP bF:=⟨[(0,xL 3 l),(1,xi m),(5,xi i)]++x,[],[]⟩
def z182 (l:List Int) (m:Int):Unit⊕Nat→Ex×aP bF
 | .inl _=>(.exit 0,a3q l m l.length [(9,xl false)])
 | .inr _=>(.ret,⟨[(4,xl false)],[],[]⟩)
def BJ (l:List Int) (m:Int):Bool:=if D5 (mF (a3p l) l.length)=true then ((l.length:Int)==m) else false
noncomputable def a0i:gK bF:=cO 182 (a2 isA iA) tA (fun p=>BJ p.1 p.2) (fun p=>[p.1.length≤most]) a0h
abbrev cLk (d:Dg) (i k:Nat):Bool:=if (!(vw d ((d.nodes.getD i O4).kids.getD k 0) i))=true then true else decide (Js d ((d.nodes.getD i O4).kids.getD k 0)≤Js d i)
abbrev zF (d:Dg) (i:Nat):Br:=d.nodes.getD i O4
structure DgL (d:Dg):Prop where
 order:d.order.length≤most
 nodes:d.nodes.length≤most
 ends:d.ends.length≤most
 fine:Fine d.sizes
abbrev cLn (d:Dg) (i:Nat):Bool:=if (!(vk (zF d i).var 0 (xw d.sizes)))=true then true else if (((zF d i).kids.length:Int) != d.sizes.getD (zF d i).var.toNat 0)=true then true else if D5 (mF (cLk d i) (zF d i).kids.length)=true then false else true
theorem Qh {d:Dg} (h:Fine d.sizes) {v:Int} (e:vk v 0 (xw d.sizes)=true):zl v d.sizes.length:=by
 rw[Fj,a07 h.a2U] at e
 exact⟨e.1,by omega⟩
theorem Qi {d:Dg} (h:Fine d.sizes) {v:Int} (e:zl v d.sizes.length) {l:List Int} (hl:(((l.length:Int)) != d.sizes.getD v.toNat 0)=false):l.length≤12:=by
 have:=h.sz _ (getD_mem (s:=d.sizes) (k:=v.toNat) (by have:=e.2;have:=e.1;omega))
 have hl:(l.length:Int)=d.sizes.getD v.toNat 0:=by simpa using hl
 omega
abbrev cLe (d:Dg) (k:Nat):Bool:=!(vOk (d.ends.getD k V0))
def rH (d:Dg):Bool:=if D5 (mF (cLe d) d.ends.length)=true then (if D5 (mF (cLn d) d.nodes.length)=true then vw d d.root d.nodes.length else false) else false
noncomputable def a0j:gK bF:=cO 128 (a1 dA) tA (fun p=>rH p) (fun p=>[DgL p]) a0i
def fU (d:Dg):Int:=if (iK d.sizes d.order != 0)=true then iK d.sizes d.order else if decide ((d.nodes.length:Int)>6000)=true then 5 else if (!(rH d))=true then 4 else 0
theorem WJ {k:Nat} (h:decide ((k:Int)>6000)=false):k≤most:=by simp at h;unfold most;omega
theorem Jt {s o:List Int} (h:(iK s o != 0)=false):Fine s:=(Jr.1 (by simpa using h)).1
noncomputable def a3t:gK bF:=cO 84 (a1 dA) iA (fun p=>fU p) (fun p=>[p.order.length≤most,p.ends.length≤most]) a0j
end Go.Proofs.YtjkgcifieggcpaaGreat
namespace Go.Proofs.YtjkgcifieggcpaaGreat
open Go Tw Pv fA
abbrev yQ (r:Int):Int:=IntKind.i64.wrap (-1-r)
def TJ (d:Dg):Nat→Int→List Int×List Int→List Int×List Int
 | 0,_,x=>x
 | F+1,r,x=>if decide (r<0)=true then (if (!(decide (yQ r∈x.2)))=true then (x.1,x.2++[yQ r]) else x) else if decide (r∈x.1)=true then x
  else ((qj (fun k y=>TJ d F ((fZ d r).kids.getD k 0) y) (fZ d r).kids.length 0 x).1++[r],(qj (fun k y=>TJ d F ((fZ d r).kids.getD k 0) y) (fZ d r).kids.length 0 x).2)
def BL (d:Dg) (r:Int) (b:Nat):Prop:=r<b∧(r<0→zl (yQ r) d.ends.length)
structure O5 (d:Dg):Prop extends DgL d where
 kid:∀ i,i<d.nodes.length→∀ k,k<(zF d i).kids.length→BL d ((zF d i).kids.getD k 0) i
 a3u:∀ i,i<d.nodes.length→(zF d i).kids.length≤12
 var:∀ i,i<d.nodes.length→zl (zF d i).var d.sizes.length
 ksz:∀ i,i<d.nodes.length→((zF d i).kids.length:Int)=d.sizes.getD (zF d i).var.toNat 0
 root:BL d d.root d.nodes.length
structure a0k (d:Dg) (x:List Int×List Int):Prop where
 n1:x.1.Nodup
 n2:∀ a∈x.1,zl a d.nodes.length
 e1:x.2.Nodup
 e2:∀ a∈x.2,zl a d.ends.length
theorem rJ:∀ (N:Nat) (l:List Int),l.Nodup→(∀ a∈l,zl a N)→l.length≤N
 | 0,[],_,_=>Nat.le_refl _
 | 0,a::l,_,h=>by obtain⟨h1,h2⟩:=h a (List.mem_cons_self ..);omega
 | N+1,l,hn,h=>by
  have h1:=rJ N (l.erase (N:Int)) (hn.erase _) fun a ha=>by
   have h2:=(List.Nodup.mem_erase_iff hn).1 ha
   have h3:=h a h2.2
   exact⟨h3.1,by have:=h3.2;have:=h2.1;omega⟩
  by_cases hm:(N:Int)∈l
  ·rw[List.length_erase_of_mem hm] at h1;omega
  ·rw[List.erase_of_not_mem hm] at h1;omega
theorem a0k.len {d:Dg} {x:List Int×List Int} (h:a0k d x):x.1.length≤d.nodes.length∧x.2.length≤d.ends.length:=⟨rJ _ _ h.n1 h.n2,rJ _ _ h.e1 h.e2⟩
abbrev ls (l:List Int):PB bF:=.list false false 3 l
noncomputable def nlA:Arg Unit where
 put _:=.nil .slc
 get v:=match v with
  | .nil .slc=>some ()
  | _=>none
 ok:=by
  intro v a hg A m h x hv
  split at hg
  ·exact hv
  ·cases hg
def srN (d:Dg) (r:Int):List Int:=(TJ d 6002 r ([],[])).1
def srE (d:Dg) (r:Int):List Int:=(TJ d 6002 r ([],[])).2
noncomputable def a0l:gK bF:=cO 181 (a4 dA iA nlA nlA) (PY (a2 isA isA)) (fun p=>(srN p.1 p.2.1,srE p.1 p.2.1)) (fun p=>[O5 p.1,BL p.1 p.2.1 p.1.nodes.length,p.1.nodes.length≤6000]) a3t
end Go.Proofs.YtjkgcifieggcpaaGreat
namespace Go.Proofs.YtjkgcifieggcpaaGreat
open Go Tw Pv fA
abbrev cD1 (d:Dg) (i j:Nat):Bool:=decide (d.ends.getD j V0=d.ends.getD i V0)
abbrev cD0 (d:Dg) (i:Nat):Bool:=if D5 (mF (cD1 d i) i)=true then false else true
abbrev cD3 (d:Dg) (i j:Nat):Bool:=if ((zF d j).var==(zF d i).var)=true then decide ((zF d j).kids=(zF d i).kids) else false
abbrev cD2 (d:Dg) (i:Nat):Bool:=if Qg (zF d i)=true then true else if D5 (mF (cD3 d i) i)=true then false else true
def GY (d:Dg):Bool:=if D5 (mF (cD0 d) d.ends.length)=true then (if D5 (mF (cD2 d) d.nodes.length)=true then (if BJ (srN d d.root) (d.nodes.length:Int)=true then BJ (srE d d.root) (d.ends.length:Int) else false) else false) else false
noncomputable def a0m:gK bF:=cO 137 (a1 dA) tA (fun p=>GY p) (fun p=>[O5 p,p.nodes.length≤6000]) a0l
theorem GZ {d:Dg} (hm:d.ends.length≤most) {r:Int} {b:Nat} (h:vw d r b=true):BL d r b:=by
 unfold vw at h
 by_cases c:0≤r
 ·rw[if_pos (by simpa using c)] at h
  exact⟨by simpa using h,fun h2=>by omega⟩
 ·rw[if_neg (by simpa using c),Fj] at h
  have e:IntKind.i64.wrap ((d.ends.length:Int)-1)=(d.ends.length:Int)-1:=by unfold most at hm;exact zD (by omega) (by omega)
  rw[e] at h
  obtain⟨h1,h2⟩:=h
  exact⟨by omega,fun _=>⟨h1,show yQ r<_ by show IntKind.i64.wrap (-1-r)<_;omega⟩⟩
theorem Qj {d:Dg} (h:DgL d) (hl:rH d=true):O5 d:=by
 unfold rH at hl
 split at hl
 ·split at hl
  ·rename_i h1 h2
   have h2:=Fg.1 h2
   have key:∀ i,i<d.nodes.length→vk (zF d i).var 0 (xw d.sizes)=true∧(((zF d i).kids.length:Int) != d.sizes.getD (zF d i).var.toNat 0)=false∧D5 (mF (cLk d i) (zF d i).kids.length)=true:=fun i hi=>by
    have:=h2 i hi
    unfold cLn at this
    split at this
    ·cases this
    split at this
    ·cases this
    split at this
    ·rename_i a b c;exact⟨by simpa using a,by simpa using b,c⟩
    ·cases this
   refine⟨h,fun i hi k hk=>?_,fun i hi=>?_,fun i hi=>?_,fun i hi=>?_,GZ h.ends hl⟩
   ·have:=Fg.1 (key i hi).2.2 k hk
    unfold cLk at this
    split at this
    ·cases this
    ·rename_i a;exact GZ h.ends (by simpa using a)
   ·exact Qi h.fine (Qh h.fine (key i hi).1) (key i hi).2.1
   ·exact Qh h.fine (key i hi).1
   ·simpa using (key i hi).2.1
  ·cases hl
 ·cases hl
theorem sH {d:Dg} (ho:d.order.length≤most) (he:d.ends.length≤most) (h:(fU d != 0)=false):O5 d∧d.nodes.length≤6000:=by
 unfold fU at h
 split at h
 ·rename_i h1;simp at h h1;exact absurd h h1
 split at h
 ·cases h
 split at h
 ·cases h
 rename_i h1 h2 h3
 have h2:decide ((d.nodes.length:Int)>6000)=false:=by simpa using h2
 exact⟨Qj ⟨ho,WJ h2,he,Jt (by simpa using h1)⟩ (by simpa using h3),by simp at h2;omega⟩
def a0n (d:Dg):Int:=if (fU d != 0)=true then fU d else if (!(GY d))=true then 4 else 0
noncomputable def a0o:gK bF:=cO 101 (a1 dA) iA (fun p=>a0n p) (fun p=>[p.order.length≤most,p.ends.length≤most]) a0m
end Go.Proofs.YtjkgcifieggcpaaGreat
namespace Go.Proofs.YtjkgcifieggcpaaGreat
open Go Tw Pv fA
def WL (d:Dg) (p:List Int):Nat→Int→Int
 | 0,r=>r
 | F+1,r=>if r<0 then r else WL d p F ((fZ d r).kids.getD (p.getD (fZ d r).var.toNat 0).toNat 0)
theorem Qk {d:Dg} (h:O5 d) {p:List Int} (hp:xB d.sizes p=true) {r:Int} (hr:zl r d.nodes.length):zl (fZ d r).var p.length∧zl (p.getD (fZ d r).var.toNat 0) (fZ d r).kids.length∧BL d ((fZ d r).kids.getD (p.getD (fZ d r).var.toNat 0).toNat 0) r.toNat:=by
 obtain⟨r1,r2⟩:=hr
 have hl:r.toNat<d.nodes.length:=by omega
 have hv:=h.var r.toNat hl
 have hk:=h.ksz r.toNat hl
 obtain⟨v1,v2⟩:=hv
 obtain⟨p1,p2⟩:=GU.1 hp
 have p3:=p2 (fZ d r).var.toNat (by show (zF d r.toNat).var.toNat<_;omega)
 have k1:zl (p.getD (fZ d r).var.toNat 0) (fZ d r).kids.length:=⟨p3.1,by show _<((zF d r.toNat).kids.length:Int);rw[hk];exact p3.2⟩
 refine⟨⟨v1,by rw[p1];exact v2⟩,k1,h.kid r.toNat hl _ ?_⟩
 obtain⟨k2,k3⟩:=k1
 show _<(fZ d r).kids.length
 omega
abbrev atR (d:Dg) (p:List Int):Int:=WL d p 6001 d.root
def a0p (d:Dg) (p:List Int):V:=d.ends.getD (yQ (atR d p)).toNat V0
noncomputable def a3v:gK bF:=cO 85 (a2 dA isA) vA (fun p=>a0p p.1 p.2) (fun p=>[O5 p.1,p.1.nodes.length≤6000,xB p.1.sizes p.2=true]) a0o
structure DgU (d:Dg):Prop where
 t:O5 d
 nodes:d.nodes.length≤6000
 ok:(fU d != 0)=false
theorem DgU.of {d:Dg} (ho:d.order.length≤most) (he:d.ends.length≤most) (h:(fU d != 0)=false):DgU d:=⟨(sH ho he h).1,(sH ho he h).2,h⟩
end Go.Proofs.YtjkgcifieggcpaaGreat
namespace Go.Proofs.YtjkgcifieggcpaaGreat
open Go Tw Pv fA
abbrev lsI (l:List Int):List (PB bF):=[.list false false 3 l]
noncomputable def a0q:gK bF:=a2S 103 (a1 isA) (fun _=>.own 0) (fun p=>lsI p) (fun p=>[p.length≤most]) a3v
noncomputable def a0r:gK bF:=cO 106 (a1 iA) isA (fun p=>UZ p.toNat) (fun p=>[0≤p,p≤(most:Int)]) a0q
noncomputable def a0s:gK bF:=cO 105 (a2 isA isA) tA (fun p=>decide (p.1=p.2)) (fun p=>[p.1.length≤most]) a0r
noncomputable def a0t:gK bF:=cO 102 (a3 iA iA isA) tA (fun p=>BF p.2.2 p.1 p.2.1) (fun p=>[p.2.2.length≤most]) a0s
noncomputable def a3w:gK bF:=cO 67 (a2 isA isA) iA (fun p=>iK p.1 p.2) (fun p=>[p.1.length≤most,p.2.length≤2^20]) a0t
end Go.Proofs.YtjkgcifieggcpaaGreat
namespace Go.Proofs.YtjkgcifieggcpaaGreat
open Go Tw Pv fA
def Ed (v:V):Bool:=if decide (v.f>0)=true then (if decide (v.f≤4)=true then v.n==0 else false) else BF [v.n] (-9999) 9999
noncomputable def a0u:gK bF:=cO 196 (a1 vA) tA (fun p=>Ed p) np a3w
noncomputable abbrev frA:Jj X0 Tryz.prog (List Int×List Int):=a2 isA isA
abbrev cIx (l:List Int) (v:Int) (k:Nat):Bool:=v==l.getD k 0
def zG (l:List Int) (v:Int):Int:=if D5 (mF (cIx l v) l.length)=true then -1 else ((WB 0 (mF (cIx l v) l.length):Nat):Int)
noncomputable def a0v:gK bF:=cO 255 (a2 isA iA) iA (fun p=>zG p.1 p.2) (fun p=>[p.1.length≤most]) a0u
noncomputable def a0w:gK bF:=cO 237 (a2 (Tt (a2 isA isA)) iA) iA (fun p=>zG p.1.2 p.2) (fun p=>[p.1.2.length≤most]) a0v
noncomputable def a0x:gK bF:=cO 204 (a1 iA) iA (fun p=>IntKind.i64.wrap (-1-p)) np a0w
structure Lo where
 s:List Int
 o:List Int
 d:Dg
abbrev Lo.ps (l:Lo):List (PV bF):=[.lst 3 l.s false,.lst 3 l.o false]++l.d.ps
noncomputable def XK:Arg Lo:=YW (Tt (Jk isA (Jk isA (Jk isA (a4 isA vsA TF iA))))) (fun p=>⟨p.1,p.2.1,⟨p.2.2.1,p.2.2.2.1,p.2.2.2.2.1,p.2.2.2.2.2.1,p.2.2.2.2.2.2⟩⟩) (fun l=>(l.s,l.o,l.d.sizes,l.d.order,l.d.ends,l.d.nodes,l.d.root)) fun _=>rfl
def Fq (l:Lo) (kid below rank:Int):Bool:=if decide (kid<0)=true then decide (IntKind.i64.wrap (-1-kid)<(l.d.ends.length:Int)) else if decide (kid<below)=true then decide (zG l.o (l.d.nodes.getD kid.toNat O4).var>rank) else false
noncomputable def a0y:gK bF:=cO 199 (a4 XK iA iA iA) tA (fun p=>Fq p.1 p.2.1 p.2.2.1 p.2.2.2) (fun p=>[p.1.o.length≤most,0≤p.2.1→p.2.1<p.2.2.1→zl p.2.1 p.1.d.nodes.length]) a0x
abbrev Ql (l:Lo) (i:Int):Br:=l.d.nodes.getD i.toNat O4
def WM (l:Lo) (i:Int):Bool:=if (!(BF [(Ql l i).var] 0 (xw l.s)))=true then false else if (((Ql l i).kids.length:Int) != l.s.getD (Ql l i).var.toNat 0)=true then false else (Ql l i).kids.all fun x=>Fq l x i (zG l.o (Ql l i).var)
abbrev WO (d:Dg):Lo:=⟨d.sizes,d.order,d⟩
abbrev lo0:Lo:=⟨[],[],⟨[],[],[],[],0⟩⟩
def nC (d:Dg):Lo×Int:=if (iK d.sizes d.order != 0)=true then (lo0,iK d.sizes d.order) else if decide ((d.nodes.length:Int)>6000)=true then (WO d,5) else if (!(d.ends.all Ed))=true then (WO d,4) else if (!((UZ d.nodes.length).all (WM (WO d))))=true then (WO d,4) else if (!(Fq (WO d) d.root d.nodes.length (-1)))=true then (WO d,4) else (WO d,0)
noncomputable def a0z:gK bF:=cO 142 (a1 dA) (PY (a2 XK iA)) (fun p=>nC p) (fun p=>[p.sizes.length≤most,p.order.length≤2^20,p.ends.length≤most]) a0y
end Go.Proofs.YtjkgcifieggcpaaGreat
namespace Go.Proofs.YtjkgcifieggcpaaGreat
open Go Tw Pv fA
def W64 (x:Int):Prop:=-(2^63)≤x∧x<2^63
structure DgR (d:Dg):Prop where
 kid:∀ i,i<d.nodes.length→∀ k,k<(zF d i).kids.length→W64 ((zF d i).kids.getD k 0)
 root:W64 d.root
 fault:∀ v∈d.ends,0≤v.f
end Go.Proofs.YtjkgcifieggcpaaGreat
namespace Pv
open Go Tw
structure D7 (X:gZ) (P:Program) (kt:TypeId) (α:Type) [DecidableEq α] where
 pv:α→PV X.Γ
 tv:α→TV
 v:α→Value
 hp:∀ x,pI (pv x)=some (tv x)
 ht:∀ x,(tv x).oJ=some (v x)
 hc:∀ em x,au P (Instr.checkKey em 10000 kt (v x))=some ()
 hf:∀ (x:α) (l:List α),au P (Instr.findKey kt (v x) (l.map fun y=>⟨v y,.bool false,0⟩))=some ((l.findIdx? fun y=>decide (x=y)).map fun i=>(i,.bool false))
 hk:∃ kind,au P (underlying kt)=some kind∧((∀ x y,Instr.sameNow kind (v x) (v y)=some (decide (x=y)))∨∀ x y,Instr.sameNow kind (v x) (v y)=none∧au P (Op.equal kt (v x) (v y))=some (decide (x=y)))
variable {X:gZ} {P:Program} {kt:TypeId} {α:Type} [DecidableEq α] (C:D7 X P kt α)
abbrev D7.es (l:List (α×PV X.Γ)):List (PV X.Γ×PV X.Γ):=l.map fun e=>(C.pv e.1,e.2)
theorem D7.Nl:∀ l:List α,Tw.oK (l.map C.tv)=some (l.map C.v)
 | []=>rfl
 | a::l=>by
  show (match (C.tv a).oJ,Tw.oK (l.map C.tv) with | some v,some vs=>some (v::vs) | _,_=>none)=_
  rw[C.ht,D7.Nl l];rfl
theorem D7.find (x:α) (l:List α) (r:Option Nat) (hr:(l.findIdx? fun y=>decide (x=y))=r) (hs:∀ (i:Nat) y,l[i]? = some y→decide (x=y)=(some i==r)):lM P kt (C.v x) (l.map C.tv)=some r:=by
 unfold lM
 rw[C.Nl]
 simp only[]
 rw[aQ,C.hc,Option.bind_some,List.map_map]
 show (match au P (Instr.findKey kt (C.v x) (l.map fun y=>⟨C.v y,.bool false,0⟩)) with | some r=>if FK P kt (C.v x) (l.map C.v) (Option.map (fun (q:Nat×Value)=>q.1) r) then some (Option.map (fun (q:Nat×Value)=>q.1) r) else none | none=>none)=_
 rw[C.hf,hr]
 have e:Option.map (fun (q:Nat×Value)=>q.1) (r.map fun i=>(i,Value.bool false))=r:=by cases r<;>rfl
 simp only[e]
 rw[if_pos]
 obtain⟨kind,h1,h2⟩:=C.hk
 simp only[FK,h1,Bool.and_eq_true,Bool.or_eq_true,List.all_eq_true]
 constructor
 ·cases r with
  | none=>rfl
  | some j=>
   have:=(List.findIdx?_eq_some_iff_getElem.1 hr).1
   simpa using this
 ·have hz:∀ p∈(l.map C.v).zipIdx,∃ y,p.1=C.v y∧decide (x=y)=(some p.2==r):=fun p hp=>by
   have:=List.mem_zipIdx_iff_getElem?.1 hp
   rw[List.getElem?_map,Option.map_eq_some_iff] at this
   obtain⟨y,hy,e⟩:=this
   exact⟨y,e.symm,hs _ _ hy⟩
  rcases h2 with h2 | h2
  ·left
   intro p hp
   obtain⟨y,e1,e2⟩:=hz p hp
   rw[e1,h2,e2];simp
  ·right
   intro p hp
   obtain⟨y,e1,e2⟩:=hz p hp
   rw[e1,(h2 x y).1,(h2 x y).2,e2];simp
theorem D7.pk:∀ l:List (α×PV X.Γ),lK X (C.es l)=some ((l.map (·.1)).map C.tv)
 | []=>rfl
 | a::l=>by
  show (match pI (C.pv a.1),lK X (C.es l) with | some v,some vs=>some (v::vs) | _,_=>none)=_
  rw[C.hp,D7.pk l];rfl
theorem D7.ck (x:α):∃ kv,(C.tv x).oJ=some kv∧au P (Instr.checkKey false 10000 kt kv)=some ():=⟨C.v x,C.ht x,C.hc false x⟩
theorem D7.fresh {l:List (α×PV X.Γ)} {x:α} (h:x∉l.map (·.1)):AY X P kt (C.es l) (C.tv x):=by
 refine⟨C.v x,_,C.ht x,C.pk l,?_⟩
 have hno:∀ y∈l.map (·.1),decide (x=y)=false:=fun y hy=>by
  simp only[decide_eq_false_iff_not]
  intro e;exact h (e▸hy)
 exact C.find x _ none (List.findIdx?_eq_none_iff.2 hno) fun i y hy=>by rw[hno y (List.mem_of_getElem? hy)];rfl
theorem Qm {t:TypeId} {d:TypeDesc} (h:P.underlying t=some d):au P (underlying t)=some d:=by
 simp only[underlying,aQ]
 show Option.bind (some P) _=_
 simp[h]
 rfl
theorem Qn {v:α→Value} (he:∀ x y,au P (Op.equal kt (v x) (v y))=some (decide (x=y))) (x:α):∀ (l:List α) (i:Nat),au P (Instr.findAsking kt (v x) (l.map fun y=>⟨v y,.bool false,0⟩) i)=some ((l.findIdx? fun y=>decide (x=y)).map fun j=>(j+i,.bool false))
 | [],i=>rfl
 | y::l,i=>by
  simp only[List.map_cons,Instr.findAsking]
  rw[aQ,he,Option.bind_some,List.findIdx?_cons]
  cases decide (x=y) with
  | true=>simp only[if_true,Option.map_some,Nat.zero_add];rfl
  | false=>
   simp only[Bool.false_eq_true,if_false]
   rw[Qn he x l (i+1)]
   cases l.findIdx? fun y=>decide (x=y) with
   | none=>rfl
   | some j=>simp;omega
theorem TK {v:α→Value} {fs:Array Field} (hu:P.underlying kt=some (.struct fs)) (he:∀ x y,au P (Op.equal kt (v x) (v y))=some (decide (x=y))) (x:α) (l:List α):au P (Instr.findKey kt (v x) (l.map fun y=>⟨v y,.bool false,0⟩))=some ((l.findIdx? fun y=>decide (x=y)).map fun i=>(i,.bool false)):=by
 have h:=Qn he x l 0
 unfold Instr.findKey
 rw[aQ,Qm hu,Option.bind_some]
 cases l with
 | nil=>rfl
 | cons y l=>
  rw[show Instr.findNow (.struct fs) (v x) ((y::l).map fun y=>⟨v y,.bool false,0⟩) 0=none by simp[Instr.findNow,Instr.sameNow]]
  exact h
theorem TN {v:α→Value} {fs:Array Field} (hu:P.underlying kt=some (.struct fs)) (he:∀ x y,au P (Op.equal kt (v x) (v y))=some (decide (x=y))) :
  ∃ kind,au P (underlying kt)=some kind∧((∀ x y,Instr.sameNow kind (v x) (v y)=some (decide (x=y)))∨∀ x y,Instr.sameNow kind (v x) (v y)=none∧au P (Op.equal kt (v x) (v y))=some (decide (x=y))):=
 ⟨_,Qm hu,.inr fun x y=>⟨by simp[Instr.sameNow],he x y⟩⟩
end Pv
namespace Go.Proofs.YtjkgcifieggcpaaGreat
open Go Tw Pv fA
def Qo (E:List V) (v:V):List V:=if v∈E then E else E++[v]
end Go.Proofs.YtjkgcifieggcpaaGreat
namespace Go.Proofs.YtjkgcifieggcpaaGreat
open Go Tw Pv fA
abbrev Ky:=Int×{l:List Int // l.length=12}
abbrev Ky.l (x:Ky):List Int:=x.1::x.2.val
end Go.Proofs.YtjkgcifieggcpaaGreat
namespace Go.Proofs.YtjkgcifieggcpaaGreat
open Go Tw Pv fA
def WQ (l:List Int):List Int:=(l++[0,0,0,0,0,0,0,0,0,0,0,0]).take 12
theorem Qp (l:List Int):(WQ l).length=12:=by unfold WQ;simp
def WR (c:Int) (ks:List Int):Ky:=(c,⟨WQ ks,Qp ks⟩)
abbrev kyB (b:Br):Ky:=WR b.var b.kids
def TP (nd:List Br) (c:Int) (ks:List Int):List Br:=if (ks.all fun x=>x==ks.getD 0 0)=true then nd else if WR c ks∈nd.map kyB then nd else nd++[⟨c,ks⟩]
def Ls (nd:List Br) (c:Int) (ks:List Int):Int:=if (ks.all fun x=>x==ks.getD 0 0)=true then ks.getD 0 0 else ((nd.map kyB).idxOf (WR c ks):Nat)
end Go.Proofs.YtjkgcifieggcpaaGreat
namespace Go.Proofs.YtjkgcifieggcpaaGreat
open Go Tw Pv fA
structure Cs where
 e:List V
 n:List Br
 k:List (Int×Int)
def WS (d:Dg) (r:Int):V:=d.ends.getD (IntKind.i64.wrap (-1-r)).toNat V0
def knV (k:List (Int×Int)) (r:Int):Int:=((k.find? fun p=>p.1==r).getD (0,0)).2
def Qq (d:Dg):Nat→Int→Cs→Int×Cs
 | 0,_,x=>(0,x)
 | F+1,r,x=>if decide (r<0)=true then (IntKind.i64.wrap (-1-(x.e.idxOf (WS d r):Nat)),⟨Qo x.e (WS d r),x.n,x.k⟩) else if decide (r∈x.k.map (·.1))=true then (knV x.k r,x)
  else
   let y:=qj (fun j (y:List Int×Cs)=>(y.1.set j (Qq d F ((fZ d r).kids.getD j 0) y.2).1,(Qq d F ((fZ d r).kids.getD j 0) y.2).2)) (fZ d r).kids.length 0 (List.replicate (fZ d r).kids.length 0,x)
   (Ls y.2.n (fZ d r).var y.1,⟨y.2.e,TP y.2.n (fZ d r).var y.1,y.2.k++[(r,Ls y.2.n (fZ d r).var y.1)]⟩)
structure a0A (d:Dg) (x:Cs):Prop where
 e1:x.e.Nodup
 e2:∀ v∈x.e,v∈d.ends
 n1:(x.n.map kyB).Nodup
 n2:x.n.length≤x.k.length
 k1:(x.k.map (·.1)).Nodup
 k2:∀ a∈x.k.map (·.1),zl a d.nodes.length
theorem a0A.a3u {d:Dg} {x:Cs} (h:a0A d x):x.k.length≤d.nodes.length:=by
 have:=rJ _ _ h.k1 h.k2
 simpa using this
end Go.Proofs.YtjkgcifieggcpaaGreat
namespace Go.Proofs.YtjkgcifieggcpaaGreat
open Go Tw Pv fA
noncomputable def a0B:gK bF:=cO 154 (a2 vsA vsA) tA (fun p=>decide (p.1=p.2)) (fun p=>[p.1.length≤most]) a0z
def Qr (x y:Br):Bool:=if (x.var==y.var)=true then decide (x.kids=y.kids) else false
noncomputable def a0C:gK bF:=cO 200 (a2 brA brA) tA (fun p=>Qr p.1 p.2) (fun p=>[p.1.kids.length≤most]) a0B
abbrev cEB (a b:List Br) (k:Nat):Bool:=!(Qr (a.getD k O4) (b.getD k O4))
def Lu (a b:List Br):Bool:=if ((a.length:Int) != (b.length:Int))=true then false else if D5 (mF (cEB a b) a.length)=true then true else false
noncomputable def a0D:gK bF:=cO 155 (a3 TF TF (fnA 200)) tA (fun p=>Lu p.1 p.2.1) (fun p=>[p.1.length≤most,∀ k,k<p.1.length→(p.1.getD k O4).kids.length≤most]) a0C
def V5 (a b:Dg):Bool:=if decide (a.sizes=b.sizes)=true then (if decide (a.order=b.order)=true then (if decide (a.ends=b.ends)=true then (if Lu a.nodes b.nodes=true then a.root==b.root else false) else false) else false) else false
noncomputable def a0E:gK bF:=cO 143 (a2 dA dA) tA (fun p=>V5 p.1 p.2) (fun p=>[p.1.sizes.length≤most,p.1.order.length≤most,p.1.ends.length≤most,p.1.nodes.length≤most,∀ k,k<p.1.nodes.length→(p.1.nodes.getD k O4).kids.length≤most]) a0D
end Go.Proofs.YtjkgcifieggcpaaGreat
namespace Go.Proofs.YtjkgcifieggcpaaGreat
open Go Tw Pv fA
def phi (s:List Int×List Int) (x:Int):Int:=if x<0 then IntKind.i64.wrap (-1-(s.2.idxOf (yQ x):Nat)) else (s.1.idxOf x:Nat)
def Cov (s:List Int×List Int) (x:Int):Prop:=(x<0→yQ x∈s.2)∧(0≤x→x∈s.1)
end Go.Proofs.YtjkgcifieggcpaaGreat
namespace Go.Proofs.YtjkgcifieggcpaaGreat
open Go Tw Pv fA
def Ext (s t:List Int×List Int):Prop:=∃ a b,t=(s.1++a,s.2++b)
theorem Ext.refl (s:List Int×List Int):Ext s s:=⟨[],[],by simp⟩
theorem Ext.trans {s t u:List Int×List Int} (h:Ext s t) (h2:Ext t u):Ext s u:=by
 obtain⟨a,b,rfl⟩:=h
 obtain⟨c,e,rfl⟩:=h2
 exact⟨a++c,b++e,by simp⟩
theorem Cov.ext {s t:List Int×List Int} {x:Int} (h:Cov s x) (he:Ext s t):Cov t x:=by
 obtain⟨a,b,rfl⟩:=he
 exact⟨fun c=>List.mem_append_left _ (h.1 c),fun c=>List.mem_append_left _ (h.2 c)⟩
end Go.Proofs.YtjkgcifieggcpaaGreat
namespace Go.Proofs.YtjkgcifieggcpaaGreat
open Go Tw Pv fA
abbrev cl0:Cs:=⟨[],[],[]⟩
def LC (d:Dg):Dg:=⟨d.sizes,d.order,(Qq d 6002 d.root cl0).2.e,(Qq d 6002 d.root cl0).2.n,(Qq d 6002 d.root cl0).1⟩
end Go.Proofs.YtjkgcifieggcpaaGreat
namespace Go.Proofs.YtjkgcifieggcpaaGreat
open Go Tw Pv fA
structure ClP (l:Lo):Prop where
 s:l.s=l.d.sizes
 o:l.o=l.d.order
 t:O5 l.d
 e:l.d.ends.length+1≤most
 n:l.d.nodes.length≤6000
 k:∀ i,i<l.d.nodes.length→1≤(zF l.d i).kids.length
 sl:l.d.sizes.length≤most
 ol:l.d.order.length≤most
noncomputable def a0F:gK bF:=cO 144 (a1 XK) dA (fun l=>LC l.d) (fun l=>[ClP l]) a0E
end Go.Proofs.YtjkgcifieggcpaaGreat
namespace Go.Proofs.YtjkgcifieggcpaaGreat
open Go Tw Pv fA
def lT (d:Dg):Lo×Int:=if (nC d).2==0 then (if (!(V5 (LC (nC d).1.d) d))=true then ((nC d).1,4) else nC d) else nC d
noncomputable def a0G:gK bF:=cO 107 (a1 dA) (PY (a2 XK iA)) (fun p=>lT p) (fun p=>[DgR p,p.sizes.length≤most,p.order.length≤2^20,p.ends.length+1≤most]) a0F
end Go.Proofs.YtjkgcifieggcpaaGreat
namespace fA
def Ee:List Int→List Int→List Int→Option (List Int)
 | f::fs,t::ts,x::p=>match Ee fs ts p with
  | some q=>some (x::q)
  | none=>if x=t then none else some ((x+1)::fs)
 | _,_,_=>none
def V6:List Int→List Int→Prop
 | t::ts,x::p=>x≤t∧V6 ts p
 | [],[]=>True
 | _,_=>False
theorem V6.len:∀ {t p:List Int},V6 t p→p.length=t.length
 | [],[],_=>rfl
 | t::ts,x::p,h=>by simp[V6.len h.2]
 | [],_::_,h=>h.elim
 | _::_,[],h=>h.elim
theorem V6.next:∀ {f t p q:List Int},V6 t p→V6 t f→Ee f t p=some q→V6 t q
 | f::fs,t::ts,x::p,q,h,hf,e=>by
  simp only[Ee] at e
  split at e
  ·rename_i r h1;cases e;exact⟨h.1,h.2.next hf.2 h1⟩
  ·split at e
   ·cases e
   ·cases e;exact⟨by have:=h.1;omega,hf.2⟩
 | [],_,_,_,_,_,e=>by simp[Ee] at e
 | _::_,[],_,_,_,_,e=>by simp[Ee] at e
 | _::_,_::_,[],_,_,_,e=>by simp[Ee] at e
def car (f t:List Int):Nat→List Int→Nat×List Int
 | 0,p=>(0,p)
 | k+1,p=>if p.getD k 0=t.getD k 0 then car f t k (p.set k (f.getD k 0)) else (k+1,p)
end fA
namespace Go.Proofs.YtjkgcifieggcpaaGreat
open Go Tw Pv fA
noncomputable def a0H:gK bF:=cO 241 (a1 iA) (PY nilA) (fun p=>()) np a0G
noncomputable def a0I:gK bF:=cO 240 (a3 XK isA (fnA 241)) iA (fun p=>yQ (atR p.1.d p.2.1)) (fun p=>[O5 p.1.d,p.1.d.nodes.length≤6000,xB p.1.d.sizes p.2.1=true]) a0H
abbrev zsI (s:List Int):List Int:=s.map fun _=>(0:Int)
abbrev esI (s:List Int):List Int:=s.map (·-1)
abbrev cr (s p:List Int):Nat×List Int:=car (zsI s) (esI s) p.length p
def cellsD (d:Dg):List V:=(List.range (cnt d.sizes)).map fun (k:Nat)=>a0p d (WG d.sizes k)
structure LsP (l:Lo):Prop where
 s:l.s=l.d.sizes
 o:l.o=l.d.order
 t:O5 l.d
 n:l.d.nodes.length≤6000
noncomputable def a0J:gK bF:=cO 206 (a1 XK) vsA (fun l=>cellsD l.d) (fun l=>[LsP l]) a0I
def TQ (p:Dg):List V×Int:=if ((lT p).2 != 0)=true then ([],(lT p).2) else (cellsD (lT p).1.d,0)
noncomputable def a0K:gK bF:=cO 146 (a1 dA) (PY (a2 vsA iA)) (fun p=>TQ p) (fun p=>[DgR p,p.sizes.length≤most,p.order.length≤2^20,p.ends.length+1≤most]) a0J
end Go.Proofs.YtjkgcifieggcpaaGreat
namespace Go.Proofs.YtjkgcifieggcpaaGreat
open Go Tw Pv fA
def a3A (N:List Br) (c:Int) (ks:List Int):Int:=if (ks.all fun x=>x==ks.getD 0 0)=true then ks.getD 0 0 else (N.idxOf (⟨c,ks⟩:Br):Nat)
def a3B (N:List Br) (c:Int) (ks:List Int):List Br:=if (ks.all fun x=>x==ks.getD 0 0)=true then N else if (⟨c,ks⟩:Br)∈N then N else N++[⟨c,ks⟩]
abbrev EN:Type:=List V×List Br
def gPt (f:List Int→EN→Int×EN) (c:Int) (p:List Int) (j:Nat) (y:List Int×EN):List Int×EN:=(y.1++[(f (p.set c.toNat j) y.2).1],(f (p.set c.toNat j) y.2).2)
def TR (s:List Int) (l:List V):List Int→List Int→EN→Int×EN
 | [],p,x=>(IntKind.i64.wrap (-1-(x.1.idxOf (l.getD (TA s p).toNat V0):Nat)),(Qo x.1 (l.getD (TA s p).toNat V0),x.2))
 | c::r,p,x=>
  let y:=qj (gPt (TR s l r) c p) (s.getD c.toNat 0).toNat 0 ([],x)
  (a3A y.2.2 c y.1,(y.2.1,a3B y.2.2 c y.1))
def wO (s:List Int):List Int→Nat
 | []=>1
 | c::r=>(s.getD c.toNat 0).toNat*wO s r
structure PtP (s o:List Int) (l:List V):Prop where
 fine:Fine s
 ord:∀ c∈o,zl c s.length
 len:(l.length:Int)=bV s
 a6w:o.length≤most
 slen:s.length≤most
end Go.Proofs.YtjkgcifieggcpaaGreat
namespace Pv
open Go Tw
section
variable {X:gZ} {P:Program}
theorem nH.pre (hX:aT X P) {call:ay} {f:FuncId} {cs cs1 xs:List (PV X.Γ)} {H H0 H1:List (PB X.Γ)} {v:PV X.Γ} (gs:List G) (hs:nH X P call (.fn f [] []) (.agg cs1::xs) H0 v H1) (hg:je H.length gs (⟨[],[cs],H⟩:aP X.Γ)=some ⟨[],[cs1],H0⟩):nH X P call (.fn f [] []) (.agg cs::xs) H v H1:=by
 intro A m h tf kY hr hf hx
 obtain⟨x0,r,rfl,v0,vr⟩:=hx.inv
 cases v0 with
 | gone hi _ _=>simp[aF] at hi
 | agg a1 a2=>
  rename_i cs'
  obtain⟨m2,q1,q2,q3⟩:=iy hX hg A (fun b=>b∈blks m) h.length m ⟨[],[cs'],h,[]⟩ ⟨⟨hr,rfl,fun k c hk=>by
   cases k with
   | zero=>simp only[List.getElem?_cons_zero,Option.some.injEq] at hk;subst hk;exact⟨cs',rfl,a1,a2⟩
   | succ k=>simp at hk,.nil⟩,fun b hb=>.inl hb,fun b hb=>(by cases hb),Nat.le_refl _⟩
  have up:Up m m2:=fun i mb hi=>q3 i mb (by rw[←hr.len];exact (List.getElem?_eq_some_iff.1 hi).1) hi
  obtain⟨c2,e1,w1⟩:=q1.st.loc 0 cs1 rfl
  simp only[List.getElem?_cons_zero,Option.some.injEq] at e1
  subst e1
  obtain⟨w,h',ws,m1,k1,k2,k3,k4,k5,k6⟩:=hs A m2 h tf (.agg cs'::r) q1.st.heap (hf.step q2 up) (.cons (.agg w1.1 w1.2) (vr.step q2 up))
  refine⟨w,h',ws,m1,k1,k2,k3,q2.trans k4,fun i mb hi=>?_,fun b hb=>?_⟩
  ·rcases up i mb hi with g | g
   ·exact k5 i mb g
   ·rcases k5 i _ g with g | g<;>exact .inr g
  ·have hb:=k6 b hb
   rcases q1.own b hb with g | g
   ·exact g
   ·have:=q1.st.heap.inb hb
    have:b<h.length:=this
    omega
end
end Pv
namespace Pv
open Go Tw
section
variable {X:gZ} {P:Program}
theorem Ef {A:Nat→Prop} {m:List MB} {h:List HB}:∀ {a b:List (PV X.Γ)} {z:List TV},aG X P A m h (a++b) z→∃ x y,z=x++y∧aG X P A m h a x∧aG X P A m h b y
 | [],b,z,hz=>⟨[],z,rfl,.nil,hz⟩
 | v::a,b,z,hz=>by
  obtain⟨x0,r,rfl,v0,vr⟩:=aG.inv (v:=v) (vs:=a++b) hz
  obtain⟨x,y,rfl,h1,h2⟩:=Ef vr
  exact⟨x0::x,y,rfl,.cons v0 h1,h2⟩
theorem nH.fz (hX:aT X P) {call:ay} {f:FuncId} {cs ws rest xs:List (PV X.Γ)} {H H1:List (PB X.Γ)} {v:PV X.Γ} (is:List Nat) (hs:nH X P call (.fn f [] []) (.agg (ws++rest)::xs) (aI is H) v H1) (hv:views H cs=some ws) (ho:∀ i,i∈owns.kR cs→i∈is):nH X P call (.fn f [] []) (.agg (cs++rest)::xs) H v H1:=by
 intro A m h tf kY hr hf hx
 obtain⟨x0,r,rfl,v0,vr⟩:=hx.inv
 cases v0 with
 | gone hi _ _=>simp[aF] at hi
 | agg a1 a2=>
  rename_i cs'
  have ha:aG X P (AA A m) m h (cs++rest) cs':=⟨a1,a2⟩
  obtain⟨c1,c2,rfl,b1,b2⟩:=Ef ha
  have hF:=fV (h:=h) is m
  have w1:=(jh (m':=aS is m) hX hr b1 hv ho).mono fun b hb=>FA.gone hr hb
  have w2:=b2.step hF.1 hF.2
  have w3:=w1.app w2
  obtain⟨w,h',ws',m1,k1,k2,k3,k4,k5,k6⟩:=hs A (aS is m) h tf (.agg (c1++c2)::r) (hr.aI is) (hf.step hF.1 hF.2) (.cons (.agg w3.1 w3.2) (vr.step hF.1 hF.2))
  refine⟨w,h',ws',m1,k1,k2,k3,hF.1.trans k4,hF.2.trans k5,fun b hb=>?_⟩
  rcases hF.1.new b (k6 b hb) with g | g
  ·exact g
  ·have:=(hr.aI is).inb (k6 b hb);omega
end
end Pv
namespace Pv
open Go Tw
section
variable {X:gZ} {P:Program} {A:Nat→Prop} {m:List MB} {H:List (PB X.Γ)} {h:List HB}
theorem HR.fz (hX:aT X P) (hr:HR X P A m H h) {i k t:Nat} {ko ex:Bool} {l:List (X.Γ t)} (hi:H[i]? = some (.eu [.own k])) (hk:H[k]? = some (.list ko ex t l)):HR X P A (aS [k] m) ((H.set i (.eu [.lst t l false])).set k .gone) h:=by
 have hg:=hr.aI [k]
 have hne:i≠k:=fun e=>by subst e;rw[hi] at hk;cases hk
 refine⟨by rw[eX,hr.len];simp,fun j b hj=>?_,hg.nodup,hg.up,hg.uS⟩
 by_cases e:j=i
 ·subst e
  obtain⟨mb,h1,h2⟩:=hr.at_ j _ hi
  have hlt:j<H.length:=(List.getElem?_eq_some_iff.1 hi).1
  rw[List.getElem?_set_ne (Ne.symm hne),List.getElem?_set_self hlt] at hj
  cases hj
  refine⟨mb,?_,?_⟩
  ·rw[pX [k] h1];simp[hne]
  ·cases mb with
   | bM b0=>
    obtain⟨g1,cs',g2,g3⟩:=h2
    refine⟨fun hm=>?_,cs',g2,?_⟩
    ·obtain⟨i2,mb2,_,g5,g6⟩:=oh hm
     exact g1 (aC g5 g6)
    ·have hv:views H [(.own k:PV X.Γ)]=some [.lst t l false]:=by simp[view.views,view,hk]
     exact (jh (m':=aS [k] m) hX hr g3 hv (is:=[k]) (fun i hi=>by simpa[owns.kR,owns] using hi)).mono fun b hb=>FA.gone hr hb
   | _=>exact h2.elim
 ·have:(Pv.aI [k] H)[j]? = some b:=by
   show (H.set k .gone)[j]? = some b
   by_cases e2:j=k
   ·subst e2
    have hlt:j<H.length:=(List.getElem?_eq_some_iff.1 hk).1
    rw[List.getElem?_set_self (by simpa using hlt)] at hj
    rw[List.getElem?_set_self hlt];exact hj
   ·rw[List.getElem?_set_ne (Ne.symm e2),List.getElem?_set_ne (Ne.symm e)] at hj
    rw[List.getElem?_set_ne (Ne.symm e2)];exact hj
  exact hg.at_ j b this
end
end Pv

namespace Go.Proofs.YtjkgcifieggcpaaGreat
open Go Tw Pv fA
def a3C (s o:List Int) (l:List V):Dg:=⟨s,o,(TR s l o (List.replicate s.length 0) ([],[])).2.1,(TR s l o (List.replicate s.length 0) ([],[])).2.2,(TR s l o (List.replicate s.length 0) ([],[])).1⟩
noncomputable def a3D:gK bF:=cO 42 (a3 isA isA vsA) dA (fun p=>a3C p.1 p.2.1 p.2.2) (fun p=>[PtP p.1 p.2.1 p.2.2,p.2.1.length≤6,wO p.1 p.2.1≤most]) a0K
end Go.Proofs.YtjkgcifieggcpaaGreat
namespace Go.Proofs.YtjkgcifieggcpaaGreat
open Go Tw Pv fA
inductive To (d:Dg) (q:List Int):Int→V→Prop
 | fin {r:Int} (h:r<0):To d q r (d.ends.getD (yQ r).toNat V0)
 | step {r:Int} {c:V} (h:0≤r) (t:To d q ((fZ d r).kids.getD (q.getD (fZ d r).var.toNat 0).toNat 0) c):To d q r c
theorem To.at_ {d:Dg} (h:O5 d) {q:List Int} (hq:xB d.sizes q=true) {r:Int} {c:V} (t:To d q r c):∀ F:Nat,r<F→BL d r d.nodes.length→c=d.ends.getD (yQ (WL d q F r)).toNat V0:=by
 induction t with
 | fin hr=>
  intro F _ _
  cases F with
  | zero=>rfl
  | succ F=>rw[WL,if_pos hr]
 | step hr _ ih=>
  intro F hF hk
  cases F with
  | zero=>omega
  | succ F=>
   rw[WL,if_neg (by omega)]
   have:=(Qk h hq ⟨hr,hk.1⟩).2.2
   exact ih F (by have:=this.1;omega) ⟨by have:=this.1;have:=hk.1;omega,this.2⟩
theorem To.of {d:Dg} (h:O5 d) {q:List Int} (hq:xB d.sizes q=true):∀ (F:Nat) (r:Int),r<F→BL d r d.nodes.length→To d q r (d.ends.getD (yQ (WL d q F r)).toNat V0)
 | 0,r,hr,_=>.fin (by omega)
 | F+1,r,hr,hk=>by
  rw[WL]
  split
  ·rename_i c;exact .fin c
  ·rename_i c
   have:=(Qk h hq ⟨by omega,hk.1⟩).2.2
   exact .step (by omega) (To.of h hq F _ (by have:=this.1;omega) ⟨by have:=this.1;have:=hk.1;omega,this.2⟩)
def Pre (x y:EN):Prop:=x.1 <+: y.1∧x.2 <+: y.2
theorem Pre.rfl {x:EN}:Pre x x:=⟨List.prefix_rfl,List.prefix_rfl⟩
theorem Pre.trans {x y z:EN} (a:Pre x y) (b:Pre y z):Pre x z:=⟨a.1.trans b.1,a.2.trans b.2⟩
theorem Qs {α:Type} {a b:List α} {d:α} (h:a <+: b) {k:Nat} (hk:k<a.length):b.getD k d=a.getD k d:=by
 obtain⟨t,rfl⟩:=h
 simp[List.getD,List.getElem?_append_left hk]
def XL (s r q p:List Int):Prop:=∀ k:Nat,k<s.length→(k:Int)∉r→q.getD k 0=p.getD k 0
theorem XL.set {s r q p:List Int} {c:Int} (hc:zl c s.length) (hp:p.length=s.length) (h:XL s (c::r) q p):XL s r q (p.set c.toNat (q.getD c.toNat 0)):=fun k hk hr=>by
 by_cases e:k=c.toNat
 ·subst e
  have e2:(p.set c.toNat (q.getD c.toNat 0)).getD c.toNat 0=q.getD c.toNat 0:=by
   simp[List.getD,List.getElem?_set_self (show c.toNat<p.length by omega)]
  exact e2.symm
 ·rw[show (p.set c.toNat (q.getD c.toNat 0)).getD k 0=p.getD k 0 by rw[List.getD,List.getElem?_set_ne (Ne.symm e)];rfl]
  exact h k hk (by simp only[List.mem_cons,not_or];exact⟨fun e2=>e (by omega),hr⟩)
theorem XL.back {s r q p:List Int} {c j:Int} (hc:zl c s.length) (h:XL s r q (p.set c.toNat j)):XL s (c::r) q p:=fun k hk hr=>by
 simp only[List.mem_cons,not_or] at hr
 have hc:=hc.1
 have e:k≠c.toNat:=fun e=>hr.1 (by omega)
 have:=h k hk hr.2
 rw[this,List.getD,List.getElem?_set_ne (Ne.symm e)];rfl
end Go.Proofs.YtjkgcifieggcpaaGreat
namespace Go.Proofs.YtjkgcifieggcpaaGreat
open Go Tw Pv fA
def rkN (o:List Int) (N:List Br) (r:Int):Nat:=if r<0 then o.length else o.idxOf (N.getD r.toNat O4).var
def WT (o:List Int) (x:EN) (v:Int) (b a:Nat):Prop:=(v<0→zl (yQ v) x.1.length)∧v<(b:Int)∧a≤rkN o x.2 v
theorem WT.mono {o:List Int} {x y:EN} {v:Int} {b b' a a':Nat} (h:WT o x v b a) (hp:Pre x y) (hb:b≤b') (hx:b≤x.2.length) (ha:a'≤a):WT o y v b' a':=by
 obtain⟨h1,h2,h3⟩:=h
 refine⟨fun hv=>⟨(h1 hv).1,by have:=(h1 hv).2;have:=hp.1.length_le;omega⟩,by omega,?_⟩
 unfold rkN at h3 ⊢
 split
 ·rename_i c;rw[if_pos c] at h3;omega
 ·rename_i c
  rw[if_neg c] at h3
  rw[Qs hp.2 (by omega)];omega
end Go.Proofs.YtjkgcifieggcpaaGreat
namespace Go.Proofs.YtjkgcifieggcpaaGreat
open Go Tw Pv fA
structure OfP (s o:List Int) (l:List V):Prop where
 fine:Fine s
 ord:BH s.length o=true
 len:(l.length:Int)=bV s
theorem OfP.p {s o:List Int} {l:List V} (h:OfP s o l):PtP s o l∧o.Nodup∧o.length=s.length:=by
 have ho:=h.ord
 unfold BH at ho
 rw[decide_eq_true_eq] at ho
 have:=h.fine.len
 exact⟨⟨h.fine,fun c hc=>⟨(ho.2.1 c hc).1,(ho.2.1 c hc).2⟩,h.len,by unfold most;omega,by unfold most;omega⟩,ho.2.2,ho.1⟩
end Go.Proofs.YtjkgcifieggcpaaGreat
namespace Go.Proofs.YtjkgcifieggcpaaGreat
open Go Tw Pv fA
def Kn (d:Dg) (x:Cs) (v:Int):Prop:=if v<0 then WS d v∈x.e else v∈x.k.map (·.1)
def Ju (x y:Cs):Prop:=x.e <+: y.e∧x.n <+: y.n∧x.k <+: y.k
theorem Ju.rfl {x:Cs}:Ju x x:=⟨List.prefix_rfl,List.prefix_rfl,List.prefix_rfl⟩
theorem Ju.trans {x y z:Cs} (a:Ju x y) (b:Ju y z):Ju x z:=⟨a.1.trans b.1,a.2.1.trans b.2.1,a.2.2.trans b.2.2⟩
theorem Kn.mono {d:Dg} {x y:Cs} {v:Int} (h:Kn d x v) (hp:Ju x y):Kn d y v:=by
 unfold Kn at h ⊢
 split
 ·rename_i c;rw[if_pos c] at h;exact hp.1.subset h
 ·rename_i c;rw[if_neg c] at h
  obtain⟨t,ht⟩:=hp.2.2
  rw[←ht,List.map_append,List.mem_append];exact .inl h
end Go.Proofs.YtjkgcifieggcpaaGreat
namespace Go.Proofs.YtjkgcifieggcpaaGreat
open Go Tw Pv fA
noncomputable def a3E:gK bF:=cO 69 (a1 dA) iA (fun p=>(lT p).2) (fun p=>[DgR p,p.sizes.length≤most,p.order.length≤2^20,p.ends.length+1≤most]) a3D
end Go.Proofs.YtjkgcifieggcpaaGreat
namespace Go.Proofs.YtjkgcifieggcpaaGreat
open Go Tw Pv fA
theorem Qu {α:Type} {l:List α} {k:Nat} {d:α} (h:k<l.length):l.getD k d∈l:=by simp[List.getD,List.getElem?_eq_getElem h]
def V7 (f:List Int×List Int) (d:Dg):Bool:=if decide (d.sizes=f.1)=true then decide (d.order=f.2) else false
structure DgP (d:Dg):Prop where
 r:DgR d
 s:d.sizes.length≤most
 o:d.order.length≤2^20
 e:d.ends.length+1≤most
abbrev cCk (l:List Dg) (k:Nat):Bool:=(lT (l.getD k XJ)).2 != 0
end Go.Proofs.YtjkgcifieggcpaaGreat
namespace Go.Proofs.YtjkgcifieggcpaaGreat
open Go Tw Pv fA
def jT (l:List Fc):List Dg:=l.map (·.d)
noncomputable def a3G:gK bF:=cO 68 (a1 a04) a3a (fun l=>jT l) (fun l=>[l.length≤most]) a3E
noncomputable def a3H:gK bF:=cO 70 (a2 (Tt frA) dA) tA (fun p=>(if decide (p.2.sizes=p.1.1)=true then decide (p.2.order=p.1.2) else false)) (fun p=>[p.2.sizes.length≤most,p.2.order.length≤most]) a3G
abbrev wBc (s o:List Int) (f:List Fc) (i:Int) (x:List (Nat×PE bF)):aP bF:=⟨[(0,xL 3 s),(1,xL 3 o),(2,xL 66 f),(22,xL 27 (jT f)),(23,xi (jT f).length),(24,xi i)]++x,[],[]⟩
def zBc (s o:List Int) (f:List Fc):Unit⊕Nat→Ex×aP bF
 | .inl _=>(.exit 0,wBc s o f (jT f).length [(25,xl false)])
 | .inr k=>(.ret,⟨[(6,xi (lT ((jT f).getD k XJ)).2)],[((jT f).getD k XJ).ps],[]⟩)
def a0L (s o:List Int) (f:List Fc):Int:=if (iK s o != 0)=true then iK s o else if decide ((f.length:Int)>8)=true then 5 else if D5 (mF (cCk (jT f)) (jT f).length)=true then (if (!((jT f).all (V7 (s,o))))=true then 2 else 0) else (lT ((jT f).getD (WB 0 (mF (cCk (jT f)) (jT f).length)) XJ)).2
abbrev yF (s o:List Int) (f:List Fc) (k:Nat) (c:Bool):PT bF:=(.s .n (.s .n (.z c (.a (.lg [] (zBc s o f (.inl ())).1 (zBc s o f (.inl ())).2) (.a (.fr [] (lDg (jT f)) []) (.a (.fr [] (.bool ((jT f).all (V7 (s,o)))) []) (.s .n .n)))) (.a (.lg [] (zBc s o f (.inr k)).1 (zBc s o f (.inr k)).2) .n))))
noncomputable def a3I:gK bF:=cO 21 (a3 isA isA a04) iA (fun p=>a0L p.1 p.2.1 p.2.2) (fun p=>[p.1.length≤most,p.2.1.length≤2^20,p.2.2.length≤most,∀ d∈jT p.2.2,DgP d]) a3H
end Go.Proofs.YtjkgcifieggcpaaGreat
namespace Go.Proofs.YtjkgcifieggcpaaGreat
open Go Tw Pv fA
theorem a3J:Tryz.prog.underlying 141=some (.int .u64):=by kernel_rfl
theorem a0M:Tryz.prog.underlying 4=some .bool:=by kernel_rfl
theorem uPc : Tryz.prog.underlying 164 = some (.struct #[⟨"facts", 141, 0, false, "", "mist/blame", 0⟩, ⟨"goal", 4, 1, false, "", "mist/blame", 8⟩]) := by kernel_rfl
theorem NI {P:Program} (d:Nat) (t:TypeId) (a b:Bool) (h:P.underlying t=some .bool):au P (Op.equalIn (d+1) t (.bool a) (.bool b))=some (decide (a=b)):=by
 have hu:au P (underlying t)=some .bool:=by
  simp only[underlying,aQ,show au P program=some P from rfl,Option.bind_some,h]
  rfl
 simp only[Op.equalIn,aQ,hu,Option.bind_some,if_true]
 cases a<;>cases b<;>rfl
theorem a0N (d:Nat) (a b:Pc):au Tryz.prog (Op.equalIn (d+2) 164 (.agg #[.int .u64 a.facts,.bool a.goal]) (.agg #[.int .u64 b.facts,.bool b.goal]))=some (decide (a=b)):=by
 rw[lN (d+1) 164 _ _ _ uPc (by kernel_rfl)]
 have p0:∀ x y:Value,au Tryz.prog (part 141 #[x,y] 0)=some x:=by intro x y;kernel_rfl
 have p1:∀ x y:Value,au Tryz.prog (part 4 #[x,y] 1)=some y:=by intro x y;kernel_rfl
 have n1 : ("facts" : String) ≠ "_" := by decide
 have n2 : ("goal" : String) ≠ "_" := by decide
 have q1 := ig (f := ⟨"facts", 141, 0, false, "", "mist/blame", 0⟩) (fs := [⟨"goal", 4, 1, false, "", "mist/blame", 8⟩]) n1 (p0 (.int .u64 a.facts) (.bool a.goal)) (p0 (.int .u64 b.facts) (.bool b.goal)) (kS d _ _ _ _ _ a3J)
 have q2 := ig (f := ⟨"goal", 4, 1, false, "", "mist/blame", 8⟩) (fs := []) n2 (p1 (.int .u64 a.facts) (.bool a.goal)) (p1 (.int .u64 b.facts) (.bool b.goal)) (NI d _ _ _ a0M)
 rw[q1,q2]
 rw[show au Tryz.prog (Op.eqFields (d+1) #[.int .u64 a.facts,.bool a.goal] #[.int .u64 b.facts,.bool b.goal] [])=some true from rfl]
 rcases a with⟨a1,a2⟩
 rcases b with⟨b1,b2⟩
 by_cases h1:a1=b1<;>by_cases h2:a2=b2<;>simp[h1,h2]
noncomputable def kP:D7 X0 Tryz.prog 164 Pc where
 pv x:=.agg x.ps
 tv x:=.agg [.int .u64 x.facts,.bool x.goal]
 v x:=.agg #[.int .u64 x.facts,.bool x.goal]
 hp _:=rfl
 ht _:=rfl
 hc em x:=by kernel_rfl
 hf x l:=TK uPc (fun a b=>a0N 9998 a b) x l
 hk:=TN uPc fun a b=>a0N 9998 a b
abbrev V1:V:=⟨0,1⟩
noncomputable def a0O:gK bF:=cO 147 (a1 vA) tA (fun p=>decide (p=V1)) np a3I
noncomputable def a0P:gK bF:=cO 121 (a1 vA) tA (fun p=>decide (p=V1)) np a0O
def H6 (a b:Int):Int:=IntKind.u64.wrap (((BitVec.ofInt 64 a &&& ~~~BitVec.ofInt 64 b).toNat:Nat):Int)
def a0Q (a b:Int):Bool:=IntKind.u64.wrap (((BitVec.ofInt 64 (VH .u64 a b) &&& BitVec.ofInt 64 1).toNat:Nat):Int)==1
noncomputable def a0R:gK bF:=cO 133 (a2 pA pA) tA (fun p=>(H6 p.1 p.2==0)) np a0P
noncomputable def a0S:gK bF:=cO 148 (a2 pA iA) tA (fun p=>a0Q p.1 p.2) (fun p=>[0≤p.2]) a0R
noncomputable def V8:gK bF:=cO 115 (a2 pA pA) pA (fun p=>H6 p.1 p.2) np a0S
end Go.Proofs.YtjkgcifieggcpaaGreat
namespace Go.Proofs.YtjkgcifieggcpaaGreat
open Go Tw Pv fA
noncomputable abbrev zH (m:List Pc):List (PV bF×PV bF):=kP.es (m.map fun e=>(e,.bool true))
end Go.Proofs.YtjkgcifieggcpaaGreat
namespace Go.Proofs.YtjkgcifieggcpaaGreat
open Go Tw Pv fA
structure a3L (s o:List Int) (f:List Fc) (g:Dg):Prop where
 ls:s.length≤most
 lo:o.length≤2^20
 lf:f.length≤most
 ld:∀ d∈jT f,DgP d
 lg:DgP g
section
variable {n:Nat} (hO:Ok n V8) {s o:List Int} {f:List Fc} {g:Dg} (hp:a3L s o f g)
include hO hp
end
end Go.Proofs.YtjkgcifieggcpaaGreat
namespace Pv
open Go Tw
section
variable {P:Program} {T:Tab} {call:ay} {cd:lG} {L f:Nat} {fl nt:Nat}
def fG:Code→Bool
 | .rangeFunc ..=>false
 | .region _ ops _=>(nS ops).isNone
 | .seq a b=>fG a&&fG b
 | .cond _ a b=>fG a&&fG b
 | .block _ b=>fG b
 | .scope b=>fG b
 | .loop b=>fG b
 | _=>true
theorem Qv:∀ (c:Code) {s s':St} {e:Ex} {Q:Ex→St→Prop},fG c=true→exec P T call L f false fl nt c s=some (e,s')→Q e s'→bD P T call cd L f fl nt c s Q:=by
 intro c
 induction c with
 | region id ops draw=>
  intro s s' e Q hn h hq
  simp only[fG,Option.isNone_iff_eq_none] at hn
  simp only[bD,hn]
  exact⟨_,_,h,hq⟩
 | seq x y G6 ihy=>
  intro s s' e Q hn h hq
  simp only[fG,Bool.and_eq_true] at hn
  simp only[bD]
  simp only[exec] at h
  split at h
  ·rename_i s1 hx
   exact G6 hn.1 hx (ihy hn.2 h hq)
  ·rename_i hne
   refine G6 hn.1 h ?_
   cases e with
   | norm=>exact (hne s' h).elim
   | exit i=>exact hq
   | ret=>exact hq
 | cond c x y G6 ihy=>
  intro s s' e Q hn h hq
  simp only[fG,Bool.and_eq_true] at hn
  simp only[bD]
  simp only[exec] at h
  split at h
  ·rename_i hc;simp only[hc];exact G6 hn.1 h hq
  ·rename_i hc;simp only[hc];exact ihy hn.2 h hq
  ·cases h
 | block id b ih=>
  intro s s' e Q hn h hq
  simp only[fG] at hn
  simp only[bD]
  simp only[exec] at h
  split at h
  ·rename_i i s1 hb
   cases h
   exact ih hn hb hq
  ·rename_i hne
   refine ih hn h ?_
   cases e with
   | exit i=>exact (hne i s' h).elim
   | norm=>exact hq
   | ret=>exact hq
 | scope b ih=>
  intro s s' e Q hn h hq
  simp only[fG] at hn
  simp only[bD]
  simp only[exec] at h
  exact ih hn h hq
 | loop b ih=>
  intro s s' e Q hn h hq
  simp only[fG] at hn
  simp only[bD]
  simp only[exec] at h
  have:∀ (k:Nat) {s:St},iter (fun s=>exec P T call L f false fl nt b (dh (T.bY f (bH b)) s)) k s=some (e,s')→uN (fun s Q=>bD P T call cd L f fl nt b (dh (T.bY f (bH b)) s) Q) k s Q:=by
   intro k
   induction k with
   | zero=>intro s h;simp[iter] at h
   | succ k ihk=>
    intro s h
    simp only[iter] at h
    split at h
    ·rename_i s1 h1
     exact ih hn h1 (ihk h)
    ·rename_i hne
     refine ih hn h ?_
     cases e with
     | norm=>exact (hne s' h).elim
     | exit i=>exact hq
     | ret=>exact hq
  exact this L h
 | rangeFunc=>intro s s' e Q hn;cases hn
 | _=>
  intro s s' e Q hn h hq
  simp only[bD]
  exact⟨_,_,h,hq⟩
end
section
variable {X:gZ} {P:Program} {T:Tab} {call:ay} {cd:lG} {L f nt B:Nat}
def aU (X:gZ) (P:Program) (T:Tab) (call:ay) (cd:lG) (L f nt B:Nat) (c:Code) (ps:aP X.Γ) (Q:Ex→aP X.Γ→Prop):Prop:=
 ∀ (A W:Nat→Prop) (fl:Nat) (m:List MB) (ts:St) (R:Ex→St→Prop),SR X P A W fl m ps ts→(∀ e dD ps1 m1,Q e ps1→SR X P A W fl m1 ps1 dD→Fr m ts.heap m1 dD.heap→CO B m m1→R e dD)→bD P T call cd L f fl nt c ts R
theorem aU.mono {c:Code} {ps:aP X.Γ} {Q Q':Ex→aP X.Γ→Prop} (hq:∀ e s,Q e s→Q' e s) (h:aU X P T call cd L f nt B c ps Q):aU X P T call cd L f nt B c ps Q':=fun A W fl m ts R hS hR=>
 h A W fl m ts R hS fun e dD ps1 m1 a1=>hR e dD ps1 m1 (hq _ _ a1)
theorem fO.Ho {c:Code} {ps ps1:aP X.Γ} {e:Ex} {Q:Ex→aP X.Γ→Prop} (hn:fG c=true) (h:fO X P T call L f false nt B c ps e ps1) (hq:Q e ps1):aU X P T call cd L f nt B c ps Q:=fun A W fl m ts R hS hR=>by
 obtain⟨dD,m1,h1,h2,h3,h4⟩:=h A W fl m ts hS
 exact Qv c hn h1 (hR _ _ ps1 m1 hq h2 h3 h4)
theorem aU.seq {a b:Code} {ps:aP X.Γ} {Q R:Ex→aP X.Γ→Prop} (ha:aU X P T call cd L f nt B a ps R) (hb:∀ s,R .norm s→aU X P T call cd L f nt B b s Q) (he:∀ i s,R (.exit i) s→Q (.exit i) s) (hr:∀ s,R .ret s→Q .ret s):aU X P T call cd L f nt B (.seq a b) ps Q:=fun A W fl m ts R' hS hR=>by
 simp only[bD]
 refine ha A W fl m ts _ hS fun e dD ps1 m1 a1 a2 a3 a4=>?_
 cases e with
 | norm=>exact hb ps1 a1 A W fl m1 dD R' a2 fun e Nv ps2 m2 b1 b2 b3 b4=>hR e Nv ps2 m2 b1 b2 (a3.trans b3) (a4.trans b4)
 | exit i=>exact hR _ _ ps1 m1 (he _ _ a1) a2 a3 a4
 | ret=>exact hR _ _ ps1 m1 (hr _ a1) a2 a3 a4
theorem aU.block {id:Nat} {b:Code} {ps:aP X.Γ} {Q:Ex→aP X.Γ→Prop} (h:aU X P T call cd L f nt B b ps fun e s=>Q (match e with | .exit i=>if i=id then .norm else .exit i | e=>e) s):aU X P T call cd L f nt B (.block id b) ps Q:=fun A W fl m ts R hS hR=>by
 simp only[bD]
 exact h A W fl m ts _ hS fun e dD ps1 m1 a1 a2 a3 a4=>hR _ dD ps1 m1 a1 a2 a3 a4
theorem aU.scope {b:Code} {ps:aP X.Γ} {Q:Ex→aP X.Γ→Prop} (h:aU X P T call cd L f nt B b ps Q):aU X P T call cd L f nt B (.scope b) ps Q:=fun A W fl m ts R hS=>by
 simp only[bD]
 exact h A W fl m ts R hS
theorem aU.loop {b:Code} {Q:Ex→aP X.Γ→Prop} (I:Nat→aP X.Γ→Prop)
  (h:∀ k s,I k s→aU X P T call cd L f nt B b (patHead X (T.bY f (bH b)) s) fun e s=>match e with | .norm=>∃ j,j<k∧I j s | e=>Q e s) {k:Nat} {ps:aP X.Γ} (hi:I k ps) (hk:k<L):aU X P T call cd L f nt B (.loop b) ps Q:=fun A W fl m ts R hS hR=>by
 simp only[bD]
 have key:∀ (n k:Nat) (ps:aP X.Γ) (m1:List MB) (dD:St),k<n→I k ps→SR X P A W fl m1 ps dD→Fr m ts.heap m1 dD.heap→CO B m m1→uN (fun s Q=>bD P T call cd L f fl nt b (dh (T.bY f (bH b)) s) Q) n dD R:=by
  intro n
  induction n with
  | zero=>intro k ps m ts hk;omega
  | succ n ih=>
   intro k ps m1 dD hk hi hS hF hU
   simp only[uN]
   refine h k ps hi A W fl m1 _ _ (hS.head _) fun e Nv ps2 m2 a1 a2 a3 a4=>?_
   have a3:Fr m1 dD.heap m2 Nv.heap:=a3
   cases e with
   | norm=>
    obtain⟨j,hj,hij⟩:=a1
    exact ih j ps2 m2 Nv (by omega) hij a2 (hF.trans a3) (hU.trans a4)
   | exit i=>exact hR _ _ ps2 m2 a1 a2 (hF.trans a3) (hU.trans a4)
   | ret=>exact hR _ _ ps2 m2 a1 a2 (hF.trans a3) (hU.trans a4)
 exact key L k ps m ts hk hi hS .refl Up.refl.b
theorem aU.cond {c:Operand} {a b:Code} {ps:aP X.Γ} {t:Bool} {Q:Ex→aP X.Γ→Prop} (hc:su ps.env c=some (.bool t)) (h:aU X P T call cd L f nt B (if t then a else b) ps Q):aU X P T call cd L f nt B (.cond c a b) ps Q:=fun A W fl m ts R hS=>by
 obtain⟨x,g1,g2⟩:=eF hS.st.env hc
 have hx:x=.bool t:=by
  cases g2 with
  | bool=>rfl
  | gone hi _ _=>simp[aF] at hi
 subst hx
 simp only[bD,g1]
 cases t with
 | true=>exact h A W fl m ts R hS
 | false=>exact h A W fl m ts R hS
theorem aU.next {id it nx mo b r n:Nat} {seen:List Nat} {ops:Array Oper} {draw:Bool} {o1 o2:Oper} {ps:aP X.Γ} {es:List (PV X.Γ×PV X.Γ)} {Q:Ex→aP X.Γ→Prop} (hn:nS ops=some (it,nx,o1,o2)) (hd:nx<nt) (hd2:mo<nt)
  (h2:o2.op=.extract (.tmp nx) 0) (h3:o2.dst=some mo) (h4:o2.guard=none)
  (hit:su ps.env (.tmp it)=some (.iter b)) (hb:ps.heap[b]? = some (.aV r n seen)) (hr:AX X ps.heap r=some es) (hl:es.length=n)
  (over:(∀ j,j<n→j∈seen)→Q .norm { ps with env:=gG (T.eG f id) ((mo,.val (.bool false))::(nx,.val (.bf [.bool false]))::ps.env) })
  (pick:∀ j e,j∉seen→es[j]? = some e→Q .norm { ps with env:=gG (T.eG f id) ((mo,.val (.bool true))::(nx,.val (.bf [.bool true,e.1,e.2]))::ps.env),heap:=ps.heap.set b (.aV r n (j::seen)) }) :
  aU X P T call cd L f nt B (.region id ops draw) ps Q:=fun A W fl m ts R hS hR0=>by
 obtain⟨x,g1,g2⟩:=eF hS.st.env hit
 obtain⟨mb,q1,q2⟩:=hS.st.heap.at_ b _ hb
 obtain⟨cr,es',q3,z1,z2,z3⟩:=qc hS.st.heap hr
 cases mb with
 | blk cb=>
   obtain⟨c,p1,p2,p3⟩:=q2
   have:=p3 cr (by rcases q3 with q | ⟨q,_⟩;exact .inl q;exact .inr q)
   subst this
   cases g2 with
   | gone hi e _=>simp only[aF,Option.some.injEq] at hi;subst hi;rw[q1] at e;cases e
   | iter e1=>
    rw[q1] at e1;cases e1
    have hit':aK it ts.env=some (.val (.iter cb)):=by
     unfold jP at g1
     split at g1
     ·rename_i v hv;cases g1;exact hv
     ·cases g1
    have run:∀ (s:St) (t:Bool) (vs:List TV),cZ P call (fun d=>T.wJ f d) fl nt ops [o2] (s.put (some nx) (.val (.bf (.bool t::vs))))=some ({ s with env:=(mo,.val (.bool t))::(nx,.val (.bf (.bool t::vs)))::s.env },[aA]):=by
     intro s t vs
     have e1:rQ nt o2=true:=by simp[rQ,h3,hd2]
     have e2:∀ env,oD ops env o2=some true:=fun env=>by simp[oD,h4]
     simp only[cZ,e1,e2,Bool.not_true,Bool.false_eq_true,if_false,iH,h2]
     simp[St.put,jP,xZ,aK,h3,bU,aA]
    simp only[bD,hn]
    refine⟨hd,cb,cr,n,seen,es',hit',p1,z1,by rw[←z2];exact hl,fun hall=>?_,fun j e hj he=>?_⟩
    ·refine⟨_,_,run ts false [],hR0 _ _ { ps with env:=_ } m (over hall) ?_ .refl Up.refl.b⟩
     have hS2:lS X P A m { ps with env:=(mo,.val (.bool false))::(nx,.val (.bf [.bool false]))::ps.env } { ts with env:=(mo,.val (.bool false))::(nx,.val (.bf [.bool false]))::ts.env }:=
      ⟨hS.st.heap,hS.st.llen,hS.st.loc,.cons (.bool false) (.cons (aG.cons (.bool false) .nil |> fun h=>.bf h.1 h.2) hS.st.env)⟩
     exact SR.pick ⟨hS2,hS.own,hS.ws,hS.fl⟩ _
    ·have hlt:j<es.length:=by rw[z2];exact (List.getElem?_eq_some_iff.1 he).1
     have hej:=List.getElem?_eq_getElem hlt
     have hv:=z3 j _ _ hej he
     have hcb:=(List.getElem?_eq_some_iff.1 p1).1
     obtain⟨u1,u2⟩:=hS.st.heap.set (pb:=.aV r n (j::seen)) (hb:=.aV cr n (j::seen)) q1 (c:=cb) rfl (fun cs hc=>by simp[aB,p1] at hc) fun hF=>⟨cr,by simp[hcb],p2,p3⟩
     refine⟨_,_,run _ true [e.1,e.2],hR0 _ _ { ps with env:=_,heap:=_ } m (pick j _ hj hej) ?_ u2 Up.refl.b⟩
     have hS1:=hS.st.step u1 u2 .refl
     have hS2:lS X P A m { ps with env:=(mo,.val (.bool true))::(nx,.val (.bf [.bool true,es[j].1,es[j].2]))::ps.env,heap:=ps.heap.set b (.aV r n (j::seen)) } { ts with env:=(mo,.val (.bool true))::(nx,.val (.bf [.bool true,e.1,e.2]))::ts.env,heap:=ts.heap.set cb (.aV cr n (j::seen)),ws:=bU fl [.h cb] ts.ws }:=
      ⟨hS1.heap,hS1.llen,hS1.loc,.cons (.bool true) (.cons (aG.cons (.bool true) (aG.cons (mD hv.1) (aG.cons (mD hv.2) .nil)) |> fun h=>.bf h.1 h.2) hS1.env)⟩
     refine SR.pick ⟨hS2,hS.own,fun b2 hb2=>?_,by simpa using hS.fl⟩ _
     rcases gY.1 hb2 with h5 | ⟨h5,h6⟩
     ·exact hS.ws b2 h5
     ·simp at h5;subst h5
      exact (hS.own _ (aC q1 rfl)).resolve_right (by omega)
 | _=>exact q2.elim
def a3M (X:gZ) (P:Program) (cd:lG) (fv:PV X.Γ) (xs:List (PV X.Γ)) (H:List (PB X.Γ)) (K:PV X.Γ→List (PB X.Γ)→Prop):Prop:=
 ∀ (A:Nat→Prop) (m:List MB) (h:List HB) (tf:TV) (kY:List TV) (R:TV→List HB→List Nat→Prop),HR X P A m H h→VR X P (AA A m) m h fv tf→aG X P (AA A m) m h xs kY →
  (∀ w h1 ws m1 v H1,K v H1→HR X P A m1 H1 h1→VR X P (AA A m1) m1 h1 v w→Fr m h m1 h1→Up m m1→(∀ b∈ws,b∈blks m)→R w h1 ws)→cd tf kY h R
theorem aU.range (hX:aT X P) {g:Operand} {qs:Array Nat} {ku body:Code} {ps:aP X.Γ} {f1:FuncId} {a1 b1:List (PV X.Γ)} {K:PV X.Γ→List (PB X.Γ)→Prop} {Q:Ex→aP X.Γ→Prop}
  (hg:su ps.env g=some (.fn f1 a1 b1)) (hd:T.din.contains f1=true) (hall:(ps.env.all fun p=>Jm p.2)=true)
  (a3N:a3M X P cd (.fn f1 a1 b1) [.iF (ps.heap.length+1)] (ps.heap++[.mark]++[.loop true f nt ps.env qs.toList ku body none]) K)
  (hk:∀ v H1,K v H1→∃ rd f2 zS e2 ps2 a2 b2 pend e,H1[ps.heap.length+1]? = some (.loop rd f2 zS e2 ps2 a2 b2 pend)∧zQ rd pend=some e∧Q e { ps with heap:=H1.set (ps.heap.length+1) (.loop false f2 zS e2 ps2 a2 b2 (some .skip)) }) :
  aU X P T call cd L f nt B (.rangeFunc g qs ku body) ps Q:=by
 intro A W fl m ts R hS hR
 obtain⟨tg,g1,g2⟩:=eF hS.st.env hg
 have hm:=hS.st.heap.len
 obtain⟨p1,p2,p3⟩:=hS.st.heap.push (pb:=.mark) (hb:=.mark) (mb:=.blk ts.heap.length) (.inl rfl) (by simp[BR])
 obtain⟨q1,q2,q3⟩:=p1.push (pb:=.loop true f nt ps.env qs.toList ku body none) (hb:=.loop true f nt ts.env qs.toList ku body none) (mb:=.blk (ts.heap.length+1)) (.inl (by simp[MB.own])) (by
  refine⟨ts.env,by simp,?_⟩
  refine fH.step (m:=m) (h:=ts.heap) (A:=A) ?_ ?_ hS.st.env
  ·have r2:Fr (m++[MB.blk ts.heap.length]) (ts.heap++[HB.mark]) (m++[MB.blk ts.heap.length]++[MB.blk (ts.heap.length+1)]) (ts.heap++[HB.mark]++[HB.loop true f nt ts.env qs.toList ku body none]):=by
    refine⟨by simp,fun b hb _=>by rw[List.getElem?_append_left hb],fun b hb=>?_,fun b cs hc=>⟨cs,?_,Nat.le_refl _⟩⟩
    ·rw[dF,List.mem_append,eU] at hb
     rcases hb with hb | hb
     ·exact .inl hb
     ·simp[MB.own] at hb;subst hb;exact .inr (by simp)
    ·rw[bI (List.getElem?_append_left (bQ hc)),hc]
   exact p2.trans r2
  ·exact p3.trans (kU _))
 have hF:=p2.trans q2
 have hU:=p3.trans q3
 have hyl:VR X P (AA A (m++[MB.blk ts.heap.length]++[MB.blk (ts.heap.length+1)])) (m++[MB.blk ts.heap.length]++[MB.blk (ts.heap.length+1)]) (ts.heap++[HB.mark]++[HB.loop true f nt ts.env qs.toList ku body none]) (.iF (ps.heap.length+1)) (.iF (ts.heap.length+1)):=by
  refine .iF ?_
  rw[←hm,List.getElem?_append_right (by simp)]
  simp
 have hg':∃ a1' b1',tg=.fn f1 a1' b1':=by
  cases g2 with
  | gone hi _ _=>simp[aF] at hi
  | fn _ _ _ _=>exact⟨_,_,rfl⟩
 obtain⟨a1',b1',rfl⟩:=hg'
 have a3O:OE T ts.env g=true:=by unfold OE;rw[g1];exact hd
 simp only[bD,a3O,if_true]
 refine⟨f1,a1',b1',g1,PZ hS.st.env hall,?_⟩
 rw[show ts.heap++[HB.mark,HB.loop true f nt ts.env qs.toList ku body none]=ts.heap++[HB.mark]++[HB.loop true f nt ts.env qs.toList ku body none] by simp]
 refine a3N A _ _ _ [.iF (ts.heap.length+1)] _ q1 (g2.step hF hU) (.cons hyl .nil) fun w h1 ws m1 v H1 hkv c2 c3 c4 c5 c6=>?_
 obtain⟨rd,f2,zS,e2,ps2,a2,b2,pend,e,hl,hj,hq⟩:=hk v H1 hkv
 have hm1:m1[ps.heap.length+1]? = some (.blk (ts.heap.length+1)):=by
  rcases c5 (ps.heap.length+1) (.blk (ts.heap.length+1)) (by rw[←hm,List.getElem?_append_right (by simp)];simp) with e | e
  ·exact e
  ·obtain⟨mb,k1,k2⟩:=c2.at_ _ _ hl
   rw[e] at k1;cases k1
   exact k2.elim
 obtain⟨mb,k1,k2⟩:=c2.at_ _ _ hl
 rw[hm1] at k1;cases k1
 obtain⟨e2',k3,k4⟩:=k2
 obtain⟨s1,s2⟩:=c2.set (i:=ps.heap.length+1) (c:=ts.heap.length+1) (pb:=.loop false f2 zS e2 ps2 a2 b2 (some .skip)) (hb:=.loop false f2 zS e2' ps2 a2 b2 (some .skip)) hm1 rfl (fun cs hc=>by unfold aB at hc;rw[k3] at hc;cases hc) (fun hF=>⟨e2',by rw[List.getElem?_set_self (List.getElem?_eq_some_iff.1 k3).1],k4.step hF .refl⟩)
 have hF2:=hF.trans (c4.trans s2)
 have hU2:=hU.trans c5
 refine⟨_,_,_,_,_,_,_,_,e,k3,hj,hR _ _ _ m1 hq ⟨?_,fun b hb=>?_,fun b hb=>?_,?_⟩ hF2 hU2.b⟩
 ·have q:=hS.st.step s1 hF2 hU2;exact⟨q.heap,q.llen,q.loc,q.env⟩
 ·rcases hF2.new b hb with k | k
  ·exact hS.own b k
  ·exact .inr (Nat.le_trans hS.fl k)
 ·rcases rE hb with k | ⟨k,k'⟩
  ·exact hS.ws b k
  ·obtain⟨b',hb',e⟩:=List.mem_map.1 k
   cases e
   rcases hF.new b (c6 b hb') with k2 | k2
   ·rcases hS.own b k2 with k3 | k3
    ·exact k3
    ·omega
   ·have:=hS.fl;omega
 ·exact Nat.le_trans hS.fl hF2.len
end
end Pv
namespace Pv
open Go Tw
section
variable {X:gZ} {P:Program} {A B:Nat→Prop} {m m' m1:List MB} {h h':List HB} {g:Nat→Option Nat}
def sJ:List (PB X.Γ)→Bool
 | []=>true
 | .eu _::H=>sJ H
 | .rP _::H=>sJ H
 | .gone::H=>sJ H
 | _=>false
theorem H7:∀ {H:List (PB X.Γ)},sJ H=true→∀ (i:Nat) b,H[i]? = some b→sJ [b]=true
 | [],_,i,b,h=>by simp at h
 | a::H,hn,i,b,h=>by
  cases i with
  | zero=>simp at h;subst h;cases a<;>simp_all [sJ]
  | succ i=>
   have hn2:sJ H=true:=by cases a<;>simp_all [sJ]
   exact H7 hn2 i b (by simpa using h)
theorem Jv {H:List (PB X.Γ)} (hn:sJ H=true) (hr:HR X P A m H h):blks m=[]:=by
 refine List.eq_nil_iff_forall_not_mem.2 fun b hb=>?_
 obtain⟨i,mb,h1,h2⟩:=eY hb
 have hl:i<H.length:=by rw[←hr.len];exact (List.getElem?_eq_some_iff.1 h1).1
 obtain⟨mb',g1,g2⟩:=hr.at_ i _ (List.getElem?_eq_getElem hl)
 rw[h1] at g1;cases g1
 have h3:=H7 hn i _ (List.getElem?_eq_getElem hl)
 generalize H[i]=b9 at g2 h3
 cases b9<;>first | (cases h3;done) | skip
 all_goals (cases mb<;>first | exact g2.elim | cases h2)
theorem BM {v:PV X.Γ} {t:TV} (h:kQ v=some t):(∀ l,wW t l=l)∧(∀ g,iT g t=some t)∧∀ fl,MQ fl t=t:=by
 cases v<;>simp only[kQ,Option.some.injEq,reduceCtorEq] at h<;>subst h<;>exact⟨fun _=>rfl,fun _=>rfl,fun _=>rfl⟩
theorem yJ:∀ {vs:List (PV X.Γ)} {ts:List TV},jd vs=some ts→(∀ l,wW.yt ts l=l)∧∀ g,iT.pz g ts=some ts
 | [],ts,h=>by simp only[jd,Option.some.injEq] at h;subst h;exact⟨fun _=>rfl,fun _=>rfl⟩
 | v::vs,ts,h=>by
  simp only[jd] at h
  split at h
  ·rename_i a b h1 h2
   cases h
   have e1:=BM h1
   have e2:=yJ h2
   exact⟨fun l=>by simp only[wW.yt,e2.1,e1.1],fun g=>by simp only[iT.pz,e1.2.1,e2.2]⟩
  ·cases h
theorem TT {v:PV X.Γ} {t:TV} (h:pI v=some t):(∀ l,wW t l=l)∧(∀ g,iT g t=some t)∧∀ fl,MQ fl t=t:=by
 unfold pI at h
 split at h
 ·simp only[Option.map_eq_some_iff] at h
  obtain⟨ts,h1,rfl⟩:=h
  have e:=yJ h1
  exact⟨fun l=>by simp only[wW,e.1],fun g=>by simp only[iT,e.2,Option.map_some],fun _=>rfl⟩
 ·exact BM h
def a0T (X:gZ) (P:Program) (oH:Bool) (u:PV X.Γ) (Hs:List (PB X.Γ)) (tv:Nat→TV) (tN:List HB):Prop:=
 ∀ (A:Nat→Prop) (m:List MB) (h h1:List HB) (w:TV),HR X P A m Hs h1→VR X P (AA A m) m h1 u w→(∀ b,b∈blks m→h.length≤b)→MR oH h w h1=some (tv h.length,h++tN)
theorem Jw {oH:Bool} {u:PV X.Γ} {Hs:List (PB X.Γ)} {tu:TV} (hu:pI u=some tu) (ht:∀ cs,tu≠.bf cs):a0T X P oH u Hs (fun _=>tu) []:=fun A m h h1 w hr hw _=>by
 have:=gQ hw hu
 subst this
 obtain⟨e1,e2,e3⟩:=TT hu
 have e4:Sv h.length w=w:=by
  cases w with
  | bf cs=>exact absurd rfl (ht cs)
  | _=>exact e3 h.length
 unfold MR
 simp only[e1,pG,e2,Ap,e4,List.map_nil,List.append_nil]
end
end Pv
namespace Pv
open Go Tw
def D8:Code→Code
 | .seq a _=>a
 | .block _ b=>b
 | .loop b=>b
 | .scope b=>b
 | .cond _ a _=>a
 | c=>c
def Jy:Code→Code
 | .seq _ b=>b
 | .cond _ _ b=>b
 | c=>c
def a0U:Code→Array Oper
 | .region _ o _=>o
 | _=>#[]
def fnP (P:Program) (f:Nat):XD:=match CS P f with
 | some t=>t
 | none=>⟨0,.skip,[]⟩
def Jz (ops:Array Oper) (it nx mo:Nat):Bool:=match nS ops with
 | some (a,b,_,o2)=>a==it&&b==nx&&(match o2.op,o2.dst,o2.guard with
  | .extract (.tmp k) 0,some d,none=>k==nx&&d==mo
  | _,_,_=>false)
 | none=>false
theorem NJ {ops:Array Oper} {it nx mo:Nat} (h:Jz ops it nx mo=true):∃ o1 o2,nS ops=some (it,nx,o1,o2)∧o2.op=.extract (.tmp nx) 0∧o2.dst=some mo∧o2.guard=none:=by
 unfold Jz at h
 split at h
 ·rename_i a b o1 o2 e
  simp only[Bool.and_eq_true,beq_iff_eq] at h
  obtain⟨⟨rfl,rfl⟩,h⟩:=h
  split at h
  ·rename_i k d e1 e2 e3
   simp only[Bool.and_eq_true,beq_iff_eq] at h
   obtain⟨rfl,rfl⟩:=h
   exact⟨o1,o2,e,e1,e2,e3⟩
  ·cases h
 ·cases h
section
variable {X:gZ} {P:Program} {T:Tab} {call:ay} {cd:lG} {jG:gK X.Γ} {L f nt B:Nat}
theorem exS (hX:aT X P) (hO:jL X P call jG) {c:Code} {ps ps1:aP X.Γ} {an:PT X.Γ} {o:OT (Ex×aP X.Γ)} {e:Ex} (hk:eH X P T jG (nH X P call) (fO X P T call L f false nt B) B L f false nt c ps an Wy=o) (ht:Fp (fun r=>r=(e,ps1)) an o):fO X P T call L f false nt B c ps e ps1:=by
 obtain⟨y,h1,h2⟩:=ht.ends
 subst h2
 rw[←hk] at h1
 exact PX hX hO h1
theorem TU {n j:Nat} {seen:List Nat} (hj:j<n) (hn:j∉seen):((List.range n).filter fun i=>!(j::seen).contains i).length<((List.range n).filter fun i=>!seen.contains i).length:=by
 have e:((List.range n).filter fun i=>!(j::seen).contains i)=((List.range n).filter fun i=>!seen.contains i).filter fun i=>!(i==j):=by
  rw[List.filter_filter]
  refine List.filter_congr fun i _=>?_
  rw[List.contains_cons]
  cases i==j<;>simp
 rw[e]
 refine List.length_filter_lt_length_iff_exists.2 ⟨j,List.mem_filter.2 ⟨List.mem_range.2 hj,by simpa using hn⟩,by simp⟩
theorem Eh (hX:aT X P) (hO:jL X P call jG) {body r0 r1 x r6:Code} {i0 i1 id it nx mo b r n:Nat} {ops:Array Oper} {draw:Bool} {st0 s1:aP X.Γ} {sI:aP X.Γ} {sX:Nat→PV X.Γ×PV X.Γ→List Nat→aP X.Γ} {sR sE:List Nat→aP X.Γ} {sB:Nat→PV X.Γ×PV X.Γ→List Nat→aP X.Γ} {es:List (PV X.Γ×PV X.Γ)} {bad:Nat→Bool} {Q:Ex→aP X.Γ→Prop}
  (hb:body=.seq r0 (.seq (.seq r1 (.block i0 (.loop (.seq (.region id ops draw) (.seq (.cond (.tmp mo) .skip (.exit i0)) (.block i1 x)))))) (.seq r6 .ret)))
  (n0:fG r0=true) (n1:fG r1=true) (nx':fG x=true) (n6:fG r6=true)
  (h0:fO X P T call L f false nt B r0 st0 .norm s1) (h1:fO X P T call L f false nt B r1 s1 .norm sI)
  (hI:patHead X (T.bY f (bH (.seq (.region id ops draw) (.seq (.cond (.tmp mo) .skip (.exit i0)) (.block i1 x))))) sI=sR []) (hh:∀ j e seen,patHead X (T.bY f (bH (.seq (.region id ops draw) (.seq (.cond (.tmp mo) .skip (.exit i0)) (.block i1 x))))) (sX j e seen)=sR seen)
  (hnx:Jz ops it nx mo=true) (hd:nx<nt) (hd2:mo<nt)
  (hit:∀ seen,su (sR seen).env (.tmp it)=some (.iter b)) (hbk:∀ seen,(sR seen).heap[b]? = some (.aV r n seen)) (hr:∀ seen,AX X (sR seen).heap r=some es) (hl:es.length=n) (hL:n<L)
  (m1:∀ seen,su (gG (T.eG f id) ((mo,.val (.bool false))::(nx,.val (.bf [.bool false]))::(sR seen).env)) (.tmp mo)=some (.bool false))
  (m2:∀ seen (e:PV X.Γ×PV X.Γ),su (gG (T.eG f id) ((mo,.val (.bool true))::(nx,.val (.bf [.bool true,e.1,e.2]))::(sR seen).env)) (.tmp mo)=some (.bool true))
  (h6:∀ seen,fO X P T call L f false nt B r6 { sR seen with env:=gG (T.eG f id) ((mo,.val (.bool false))::(nx,.val (.bf [.bool false]))::(sR seen).env) } .norm (sE seen))
  (hx:∀ j e seen,es[j]? = some e→(bad j=true→fO X P T call L f false nt B x { sR seen with env:=gG (T.eG f id) ((mo,.val (.bool true))::(nx,.val (.bf [.bool true,e.1,e.2]))::(sR seen).env),heap:=(sR seen).heap.set b (.aV r n (j::seen)) } .ret (sB j e (j::seen)))
   ∧ (bad j=false→fO X P T call L f false nt B x { sR seen with env:=gG (T.eG f id) ((mo,.val (.bool true))::(nx,.val (.bf [.bool true,e.1,e.2]))::(sR seen).env),heap:=(sR seen).heap.set b (.aV r n (j::seen)) } .norm (sX j e (j::seen))))
  (qB:∀ j e seen,j<n→bad j=true→Q .ret (sB j e seen)) (qE:(∀ j,j<n→bad j=false)→∀ seen,Q .ret (sE seen)):aU X P T call cd L f nt B body st0 Q:=by
 subst hb
 obtain⟨o1,o2,hn,h2,h3,h4⟩:=NJ hnx
 have triv:∀ {c:Code} {e:Ex} {s:aP X.Γ} {Q':Ex→aP X.Γ→Prop},fG c=true→eH X P T jG (nH X P call) (fO X P T call L f false nt B) B L f false nt c s .n Wy=.ret (e,s)→Q' e s→aU X P T call cd L f nt B c s Q':=fun hc hk hq=>fO.Ho hc (exS hX hO hk (.r rfl)) hq
 refine aU.seq (R:=fun e s=>e=.norm∧s=s1) (fO.Ho n0 h0 ⟨rfl,rfl⟩) (fun s hs=>?_) (fun i s h=>by cases h.1) (fun s h=>by cases h.1)
 obtain⟨_,rfl⟩:=hs
 refine aU.seq (R:=fun e s=>(e=.norm∧(∀ j,j<n→bad j=false)∧∃ seen,s={ sR seen with env:=gG (T.eG f id) ((mo,.val (.bool false))::(nx,.val (.bf [.bool false]))::(sR seen).env) })∨(e=.ret∧Q e s)) ?_ (fun s hs=>?_) (fun i s h=>?_) (fun s h=>?_)
 ·refine aU.seq (R:=fun e s'=>e=.norm∧s'=sI) (fO.Ho n1 h1 ⟨rfl,rfl⟩) (fun s' hs=>?_) (fun i s h=>by cases h.1) (fun s h=>by cases h.1)
  obtain⟨_,rfl⟩:=hs
  refine aU.block ?_
  refine aU.loop (fun k s=>∃ seen,patHead X (T.bY f (bH (.seq (.region id ops draw) (.seq (.cond (.tmp mo) .skip (.exit i0)) (.block i1 x))))) s=sR seen∧(∀ j∈seen,j<n→bad j=false)∧k=((List.range n).filter fun i=>!seen.contains i).length) (fun k s hi=>?_) (k:=n) ⟨[],hI,fun j hj=>(by cases hj),by rw[show ((List.range n).filter fun i=>!([]:List Nat).contains i)=List.range n from List.filter_eq_self.2 fun a _=>rfl,List.length_range]⟩ hL
  obtain⟨seen,hp,hs,rfl⟩:=hi
  rw[hp]
  refine aU.seq (R:=fun e s=>e=.norm∧(((∀ j,j<n→bad j=false)∧s={ sR seen with env:=gG (T.eG f id) ((mo,.val (.bool false))::(nx,.val (.bf [.bool false]))::(sR seen).env) })∨∃ j e,j∉seen∧es[j]? = some e∧s={ sR seen with env:=gG (T.eG f id) ((mo,.val (.bool true))::(nx,.val (.bf [.bool true,e.1,e.2]))::(sR seen).env),heap:=(sR seen).heap.set b (.aV r n (j::seen)) })) ?_ (fun s hs=>?_) (fun i s h=>by cases h.1) (fun s h=>by cases h.1)
  ·exact aU.next hn hd hd2 h2 h3 h4 (hit seen) (hbk seen) (hr seen) hl (fun ho=>⟨rfl,.inl ⟨fun j hj=>hs j (ho j hj) hj,rfl⟩⟩) (fun j e hj he=>⟨rfl,.inr ⟨j,e,hj,he,rfl⟩⟩)
  ·obtain⟨_,⟨h5,rfl⟩ | ⟨j,e,hj,he,rfl⟩⟩:=hs
   ·refine aU.seq (R:=fun e s=>e=.exit i0∧s={ sR seen with env:=gG (T.eG f id) ((mo,.val (.bool false))::(nx,.val (.bf [.bool false]))::(sR seen).env) }) (aU.cond (t:=false) (m1 seen) (triv (c:=.exit i0) rfl rfl ⟨rfl,rfl⟩)) (fun s h=>by cases h.1) (fun i s h=>?_) (fun s h=>by cases h.1)
    obtain⟨h7,rfl⟩:=h
    cases h7
    dsimp only
    rw[if_pos rfl]
    exact .inl ⟨rfl,h5,seen,rfl⟩
   ·have hjn:j<n:=by rw[←hl];exact (List.getElem?_eq_some_iff.1 he).1
    refine aU.seq (R:=fun e1 s=>e1=.norm∧s={ sR seen with env:=gG (T.eG f id) ((mo,.val (.bool true))::(nx,.val (.bf [.bool true,e.1,e.2]))::(sR seen).env),heap:=(sR seen).heap.set b (.aV r n (j::seen)) }) (aU.cond (t:=true) (m2 seen e) (triv (c:=.skip) rfl rfl ⟨rfl,rfl⟩)) (fun s h=>?_) (fun i s h=>by cases h.1) (fun s h=>by cases h.1)
    obtain⟨_,rfl⟩:=h
    refine aU.block ?_
    obtain⟨x1,x2⟩:=hx j e seen he
    cases hbj:bad j
    ·refine fO.Ho nx' (x2 hbj) ?_
     exact⟨_,TU hjn hj,j::seen,hh j e _,fun k hk hkn=>by
      rcases List.mem_cons.1 hk with rfl | hk
      ·exact hbj
      ·exact hs k hk hkn,rfl⟩
    ·refine fO.Ho nx' (x1 hbj) ?_
     exact .inr ⟨rfl,qB j _ _ hjn hbj⟩
 ·rcases hs with⟨_,h5,seen,rfl⟩ | ⟨h,_⟩
  ·refine aU.seq (R:=fun e s=>e=.norm∧s=sE seen) (fO.Ho n6 (h6 seen) ⟨rfl,rfl⟩) (fun s hs=>?_) (fun i s h=>by cases h.1) (fun s h=>by cases h.1)
   obtain⟨_,rfl⟩:=hs
   exact triv (c:=.ret) rfl rfl (qE h5 seen)
  ·cases h
 ·rcases h with⟨h,_⟩ | ⟨h,_⟩<;>cases h
 ·rcases h with⟨h,_⟩ | ⟨_,h⟩
  ·cases h
  ·exact h
end
end Pv
namespace Go.Proofs.YtjkgcifieggcpaaGreat
open Go Tw Pv fA
def bC (a:Int) (p:Pc):Bool:=H6 a p.facts==0
def bE (a:Int) (p:Pc):Bool:=(H6 a p.facts==0)&&!p.goal
def ql (m:List Pc) (a:Int):Bool:=!(m.any (bC a))
def qm (m:List Pc) (a:Int):Bool:=!(m.any (bE a))
theorem vC {m:List Pc} {c:Pc→Bool}:m.any c=true↔∃ j,j<m.length∧c (m.getD j xG)=true:=by
 rw[List.any_eq_true]
 constructor
 ·rintro⟨x,hx,hc⟩
  obtain⟨j,hj,rfl⟩:=List.mem_iff_getElem.1 hx
  exact⟨j,hj,by simpa[List.getD,List.getElem?_eq_getElem hj] using hc⟩
 ·rintro⟨j,hj,hc⟩
  exact⟨_,Qu (d:=xG) hj,hc⟩
noncomputable abbrev bdC:Code:=(fnP Tryz.prog 97).body
noncomputable abbrev bdE:Code:=(fnP Tryz.prog 113).body
abbrev cR0 (c:Code):Code:=D8 c
abbrev cR1 (c:Code):Code:=D8 (D8 (Jy c))
abbrev cLb (c:Code):Code:=D8 (D8 (Jy (D8 (Jy c))))
abbrev cX (c:Code):Code:=D8 (Jy (Jy (cLb c)))
abbrev cR6 (c:Code):Code:=D8 (Jy (Jy c))
section
variable {n:Nat} (hO:Ok n V8) (s o:List Int) (f:List Fc) (g:Dg) (m:List Pc) (a:Int)
theorem JA {m:List Pc} {j:Nat} {e:PV bF×PV bF} (h:(zH m)[j]? = some e):e=(.agg (m.getD j xG).ps,.bool true):=by
 have e2:zH m=m.map fun x=>((PV.agg x.ps:PV bF),(PV.bool true:PV bF)):=List.map_map
 rw[e2,List.getElem?_map] at h
 cases h2:m[j]? with
 | none=>rw[h2] at h;cases h
 | some x=>rw[h2] at h;cases h;rw[List.getD_eq_getElem?_getD,h2];rfl
theorem tZ {m:List Pc}:(zH m).length=m.length:=(List.length_map ..).trans (List.length_map ..)
include hO
end
end Go.Proofs.YtjkgcifieggcpaaGreat
namespace Pv
open Go Tw
section
variable {X:gZ} {P:Program}
theorem LD (hX:aT X P) {T:Tab} {L n f:Nat} {t:XD} {xs:List (PV X.Γ)} {H:List (PB X.Γ)} {v:PV X.Γ} {tv:TV} (hd:T.Ho.contains f=true) (hx:T.exts.contains f=false) (ht:CS P f=some t) (hN:sJ H=true) (hv:pI v=some tv)
  (hE:aU X P T (yw P T L n) (EJ P T (yw P T L n) L) L f t.nt H.length t.body ⟨qV X 0 xs,[],H⟩ fun e s=>(e=.norm∨e=.ret)∧∃ us,AZ X P s t.results=some us∧Ph X us=v)
  {A:Nat→Prop} {m:List MB} {h:List HB} {kY:List TV} (hr:HR X P A m H h) (hxs:aG X P (AA A m) m h xs kY):yw P T L (n+1) (.fn f [] []) kY h=some (tv,h,[]):=by
 have hb:=Jv hN hr
 have hS:SR X P A (fun _=>False) h.length m ⟨qV X 0 xs,[],H⟩ ⟨fB 0 kY,[],h,[]⟩:=
  ⟨⟨hr,rfl,fun k cs hk=>by simp at hk,Fe hxs⟩,fun b h1=>(by rw[hb] at h1;cases h1),fun b hb=>(by cases hb),Nat.le_refl _⟩
 have hO:Gh P T (yw P T L n) L f t kY h (tv,h++[]):=by
  refine hE A _ _ m _ _ hS fun e dD ps1 m1 ⟨he,us,hus,hpv⟩ h3 h4 h5=>?_
  obtain⟨ws,g1,g2⟩:=Aj hX h3.st hus
  have hd:a0T X P (T.Vm.contains f) (Ph X us) ps1.heap (fun _=>tv) []:=by
   rw[hpv]
   exact Jw hv fun cs hc=>by subst hc;cases v<;>simp[pI,kQ] at hv
  exact⟨he,ws,g1,List.eq_nil_iff_forall_not_mem.2 fun b hb=>h3.ws b hb,hd A m1 h dD.heap _ h3.st.heap (Lj g2) fun b hb=>(h3.own b hb).resolve_left id⟩
 rw[List.append_nil] at hO
 have:=SB ht hO
 show (if T.exts.contains f=true then _ else if T.Ho.contains f=true then _ else _)=_
 rw[hx,hd,if_neg (by simp),if_pos rfl,List.nil_append,List.append_nil]
 exact this
end
end Pv
namespace Tw
open Go
noncomputable section
def Ei (t:Nat) (env:List (Nat×EV)):Option EV:=List.rec (motive:=fun _=>Option EV) none (fun p _ ih=>Bool.rec (motive:=fun _=>Option EV) ih (some p.2) (Nat.beq p.1 t)) env
theorem vF (t:Nat):∀ env,Ei t env=aK t env
 | []=>rfl
 | (k,v)::r=>by
  show Bool.rec (motive:=fun _=>Option EV) (Ei t r) (some v) (Nat.beq k t)=if k=t then some v else aK t r
  rw[vF t r]
  by_cases h:k=t
  ·subst h;rw[if_pos rfl,show Nat.beq k k=true from Nat.beq_refl k]
  ·rw[if_neg h,show Nat.beq k t=false from by cases e:Nat.beq k t with | false=>rfl | true=>exact absurd (Nat.eq_of_beq_eq_true e) h]
def Ej (live:List Nat) (env:List (Nat×EV)):List (Nat×EV):=List.rec (motive:=fun _=>List (Nat×EV)) [] (fun t _ ih=>Option.rec (motive:=fun _=>List (Nat×EV)) ih (fun v=>(t,v)::ih) (Ei t env)) live
theorem BN (env:List (Nat×EV)):∀ live,Ej live env=pick live env
 | []=>rfl
 | t::r=>by
  show Option.rec (motive:=fun _=>List (Nat×EV)) (Ej r env) (fun v=>(t,v)::Ej r env) (Ei t env)=_
  rw[vF,BN env r]
  rw[show pick (t::r) env=match aK t env with | some v=>(t,v)::pick r env | none=>pick r env from rfl]
  cases aK t env<;>rfl
def RI (env:List (Nat×EV)) (x:Operand):Option EV:=match x with
 | .tmp t=>Ei t env
 | .const v=>(TV.FH v).map .val
 | .func f=>some (.val (.fn f [] []))
 | .global _=>none
theorem Qw:RI=xZ:=by funext env x;cases x<;>first | exact vF _ _ | rfl
def xH (env:List (Nat×EV)) (x:Operand):Option TV:=
 match RI env x with
 | some (.val v)=>some v
 | _=>none
theorem xI:xH=jP:=by funext env x;unfold xH jP;rw[Qw];rfl
def NM (env:List (Nat×EV)):List Operand→Option (List TV)
 | []=>some []
 | x::xs=>match xH env x,NM env xs with
  | some v,some vs=>some (v::vs)
  | _,_=>none
theorem Fv (env:List (Nat×EV)):∀ xs,NM env xs=zL env xs
 | []=>rfl
 | x::xs=>by unfold NM zL;rw[xI,Fv env xs];rfl
def Qx (env:List (Nat×EV)):List (Nat×Operand)→Option (List (Nat×TV))
 | []=>some []
 | (i,x)::xs=>match xH env x,Qx env xs with
  | some v,some vs=>some ((i,v)::vs)
  | _,_=>none
theorem LG (env:List (Nat×EV)):∀ xs,Qx env xs=CP env xs
 | []=>rfl
 | (i,x)::xs=>by unfold Qx CP;rw[xI,LG env xs];rfl
def LH (ops:Array Oper) (env:List (Nat×EV)) (o:Oper):Option Bool:=
 match o.guard with
 | none=>some true
 | some (j,want)=>match (ops[j]?).bind (·.dst) with
  | some d=>match Ei d env with
   | some (.val (.bool b))=>some (b==want)
   | some .undef=>some false
   | _=>none
  | none=>none
theorem Qy (ops:Array Oper) (env:List (Nat×EV)) (o:Oper):LH ops env o=oD ops env o:=by
 unfold LH oD
 simp only[vF]
 rfl
def zI (live:List Nat) (s:St):St:=
 let env:=Ej live s.env
 { s with env:=env,loc:=s.loc.take (rM env) }
theorem JB:zI=dh:=by
 funext live s
 simp only[zI,dh,BN]
def NP (env:List (Nat×EV)):Option Operand→Option (Option TV)
 | none=>some none
 | some x=>match xH env x with
  | some v=>some (some v)
  | none=>none
theorem TW (env:List (Nat×EV)) (x:Option Operand):NP env x=CQ env x:=by cases x<;>simp only[NP,CQ,xI]<;>rfl
section
variable (P:Program) (call:ay) (site:Nat→Bool) (s:St)
abbrev yR:=Option (EV×St×Inf)
def V9 (x:Operand):yR:=(RI s.env x).map fun v=>(v,s,aA)
def Va (c a b:Operand):yR:=match xH s.env c with
  | some (.bool t)=>(RI s.env (if t then a else b)).map fun v=>(v,s,aA)
  | _=>none
def Qz (d:Nat) (e:TypeId):yR:=(uf P e).map fun z=>let (v,s):=iD (site d) s z;(v,s,aA)
def a0X (d:Nat) (x:Operand):yR:=match xH s.env x with
  | some v=>if v.cells.all bJ then let (v,s):=iD (site d) s v.cells;some (v,s,aA) else none
  | none=>none
def QA (t:TypeId) (ps:Array (Nat×Operand)):yR:=match Qx s.env ps.toList with
  | some ps=>(wF P t ps).map fun v=>(.val v,s,aA)
  | none=>none
def yK (t:TypeId) (len:Nat) (ps:Array (Nat×Operand)):yR:=match Qx s.env ps.toList with
  | some ps=>(gu P t len s ps).map fun (v,s)=>(.val v,s,aA)
  | none=>none
def Vb (t:TypeId) (a:Operand):yR:=match RI s.env a with
  | some a=>(loadT P t s a).map fun (v,i)=>(.val v,s,i)
  | none=>none
def QB (t:TypeId) (a x:Operand):yR:=match RI s.env a,xH s.env x with
  | some a,some v=>(storeT P t s a v).map fun (s,i)=>(.undef,s,i)
  | _,_=>none
def a0Y (x:Operand):yR:=match RI s.env x with
  | some (.loc k o)=>some (.loc k o,s,aA)
  | some (.val (.ptr b o lim))=>some (.val (.ptr b o lim),s,aA)
  | some (.val (.fn f a b))=>some (.val (.fn f a b),s,aA)
  | some (.val (.iF l))=>some (.val (.iF l),s,aA)
  | _=>none
def a0Z (op:BinOp) (t:TypeId) (x y:Operand):yR:=match xH s.env x,xH s.env y with
  | some a,some b=>(jo P op t x y a b).map fun v=>(.val v,s,aA)
  | _,_=>none
def fUn (op:UnOp) (x:Operand):yR:=match xH s.env x with
  | some a=>(XC P op a).map fun v=>(.val v,s,aA)
  | none=>none
def Vd (src dst:TypeId) (x:Operand):yR:=match xH s.env x with
  | some a=>(zN P src dst a).map fun v=>(.val v,s,aA)
  | none=>none
def Em (f:FuncId) (first cap:Array Operand):yR:=match NM s.env first.toList,NM s.env cap.toList with
  | some a,some b=>some (.val (.fn f a b),s,aA)
  | _,_=>none
def H8 (t:TypeId) (r:Option Operand):yR:=match NP s.env r,P.underlying t with
  | some none,_=>some (.val (.map s.heap.length),{ s with heap:=s.heap++[.map []] },aA)
  | some (some (.int _ _)),some (.map _ _)=>some (.val (.map s.heap.length),{ s with heap:=s.heap++[.map []] },aA)
  | _,_=>none
def BO (t:TypeId) (l c:Operand):yR:=match xH s.env l,xH s.env c with
  | some l,some c=>(iM P t s l c).map fun (v,s)=>(.val v,s,aA)
  | _,_=>none
def QC (t:TypeId) (x:Operand) (lo hi mx:Option Operand):yR:=match RI s.env x,NP s.env lo,NP s.env hi,NP s.env mx with
  | some x,some lo,some hi,some mx=>match P.underlying t,x with
   | some (.array _ _),x=>(gW P t x lo hi mx).map fun v=>(.val v,s,aA)
   | _,.val x=>(sliceT P t x lo hi mx).map fun v=>(.val v,s,aA)
   | _,_=>none
  | _,_,_,_=>none
def BP (t:TypeId) (x:Operand) (f:Nat):yR:=match RI s.env x,oP P t f with
  | some a,some n=>(zM n a).map fun v=>(v,s,aA)
  | _,_=>none
def QD (t:TypeId) (x:Operand) (f:Nat):yR:=match xH s.env x with
  | some a=>(wH P t a f).map fun v=>(.val v,s,aA)
  | none=>none
def BQ (t:TypeId) (x i:Operand):yR:=match RI s.env x,xH s.env i with
  | some a,some i=>(dJ P t a i).map fun v=>(v,s,aA)
  | _,_=>none
def QE (t:TypeId) (x i:Operand):yR:=match xH s.env x,xH s.env i with
  | some a,some i=>(sN P t a i).map fun v=>(.val v,s,aA)
  | _,_=>none
def LJ (t:TypeId) (m k:Operand) (ok:Bool):yR:=match xH s.env m,xH s.env k with
  | some m,some k=>(jU P t s.heap m k ok).map fun v=>(.val v,s,bT (match m with | .map r=>[.h r] | _=>[]))
  | _,_=>none
def a13 (t:TypeId) (m k x:Operand):yR:=match xH s.env m,xH s.env k,xH s.env x with
  | some m,some k,some v=>(iV P t s m k v).map fun (s,i)=>(.undef,s,i)
  | _,_,_=>none
def H9 (t:Operand) (i:Nat):yR:=match xH s.env t with
  | some (.bf vs)=>(vs[i]?).map fun v=>(.val v,s,aA)
  | _=>none
def Ve (c:Call) (t:TypeId):yR:=
 match c.callee,NM s.env c.args.toList with
 | .builtin b,some az=>(iG P b c.argTypes t s az).map fun (v,s,i)=>(.val v,s,i)
 | .value f,some az=>match xH s.env f with
  | some fv=>match call fv az s.heap with
   | some (v,h,ws)=>some (.val v,{ s with heap:=h },⟨true,[],ws.map .h⟩)
   | none=>none
  | none=>none
 | _,_=>none
def opF (o:Oper):yR:=
 match o.op with
 | .move x | .assign x=>V9 s x
 | .pick c a b=>Va s c a b
 | .alloc e=>Qz P site s (o.dst.getD 0) e
 | .box _ x=>a0X site s (o.dst.getD 0) x
 | .build t ps=>QA P s t ps
 | .buildSlice t len ps=>yK P s t len ps
 | .load t a=>Vb P s t a
 | .store t a x=>QB P s t a x
 | .nilCheck x=>a0Y s x
 | .binOp op t x y _=>a0Z P s op t x y
 | .unOp op _ x=>fUn P s op x
 | .convert src dst x=>Vd P s src dst x
 | .makeFunc (.func f) first cap=>Em s f first cap
 | .makeMap t r=>H8 P s t r
 | .makeSlice t l c=>BO P s t l c
 | .slice t x lo hi mx=>QC P s t x lo hi mx
 | .fieldAddr t x f=>BP P s t x f
 | .field t x f=>QD P s t x f
 | .indexAddr t x i=>BQ P s t x i
 | .index t x i=>QE P s t x i
 | .lookup t m k ok=>LJ P s t m k ok
 | .mapUpdate t m k x | .insert t m k x=>a13 P s t m k x
 | .extract t i=>H9 s t i
 | .call c=>Ve P call s c o.type
 | .range _ _ | .entry _=>iH P call site s o
 | _=>none
theorem WU (o:Oper):opF P call site s o=iH P call site s o:=by
 unfold opF iH
 cases o.op<;>simp only[V9,Va,Qz,a0X,QA,yK,Vb,QB,a0Y,a0Z,fUn,Vd,H8,BO,QC,BP,QD,BQ,QE,LJ,a13,H9,Ve,y9,Qw,xI,Fv,LG,TW]<;>try rfl
 case makeFunc f first cap=>cases f<;>simp only[Em,Fv]<;>rfl
def tbF (A k:Nat):Bool:=Nat.beq (Nat.mod (Nat.shiftRight A k) 2) 1
theorem WV (A k:Nat):tbF A k=A.testBit k:=by
 unfold tbF
 rw[Nat.testBit_eq_decide_div_mod_eq,show Nat.mod (Nat.shiftRight A k) 2=A/2^k%2 from by show (A >>> k)%2=_;rw[Nat.shiftRight_eq_div_pow]]
 rw[Bool.eq_iff_iff]
 simp[Nat.beq_eq]
def a3Q (W A on l:Nat):Nat:=Nat.lor l (Nat.lor (Nat.shiftLeft 1 on) (Nat.mod (Nat.shiftRight A (on*W)) (2^W)))
def NQ (W A:Nat):List Edge→Nat→Nat
 | [],l=>l
 | e::es,l=>match Region.binds .any e with
  | true=>NQ W A es (a3Q W A e.on l)
  | false=>NQ W A es l
def QF (W:Nat):List Oper→Nat→Nat→Nat
 | [],_,A=>A
 | o::os,j,A=>QF W os (j+1) (Nat.lor A (Nat.shiftLeft (Nat.mod (NQ W A o.after.toList 0) (2^W)) (j*W)))
theorem BU {x:Nat}:∀ {xs l:List Nat},(nI xs l).contains x=(xs.contains x||l.contains x)
 | [],l=>by simp[nI]
 | y::xs,l=>by
  simp only[nI]
  rw[BU]
  split
  ·rename_i h
   by_cases e:x=y
   ·subst e;rw[h];simp
   ·simp[e]
  ·by_cases e:x=y
   ·subst e;simp
   ·simp[e]
def Acc (W A:Nat) (acc:List (List Nat)):Prop:=∀ j i,i<W→A.testBit (j*W+i)=(acc.getD j []).contains i
theorem Fz {W A:Nat} {acc:List (List Nat)} (h:Acc W A acc):∀ (es:List Edge) (l:Nat) (ps:List Nat),(∀ i,i<W→l.testBit i=ps.contains i)→∀ i,i<W→(NQ W A es l).testBit i=(es.foldl (fun l e=>if Region.binds .any e then nI (e.on::acc.getD e.on []) l else l) ps).contains i
 | [],l,ps,hl,i,hi=>hl i hi
 | e::es,l,ps,hl,i,hi=>by
  simp only[NQ,List.foldl_cons]
  split
  ·rename_i hb
   rw[if_pos hb]
   refine Fz h es _ _ (fun k hk=>?_) i hi
   rw[BU,←hl k hk,List.contains_cons,←h e.on k hk]
   show (l ||| (1 <<< e.on ||| (A >>> (e.on*W))%2^W)).testBit k=_
   rw[Nat.testBit_or,Nat.testBit_or,Nat.testBit_shiftLeft,Nat.testBit_mod_two_pow,Nat.testBit_shiftRight,Bool.or_comm]
   simp only[hk,decide_true,Bool.true_and]
   congr 2
   by_cases e1:k=e.on
   ·subst e1;simp
   ·rw[show (k==e.on)=false from by simpa using e1]
    by_cases h2:k≥e.on
    ·obtain⟨d,hd⟩:∃ d,k-e.on=d+1:=⟨k-e.on-1,by omega⟩
     rw[hd,Nat.testBit_succ]
     simp
    ·simp[h2]
  ·rename_i hb
   rw[if_neg (by rw[hb];simp)]
   exact Fz h es _ _ hl i hi
theorem LK {W:Nat}:∀ (os:List Oper) (j A:Nat) (acc:List (List Nat)),acc.length=j→Acc W A acc→Acc W (QF W os j A) (mJ os acc)
 | [],_,_,_,_,h=>h
 | o::os,j,A,acc,hj,h=>by
  simp only[QF,mJ]
  refine LK os (j+1) _ _ (by simp[hj]) fun j' i hi=>?_
  have hm:=Fz h o.after.toList 0 [] (fun i _=>by simp)
  show (A ||| ((NQ W A o.after.toList 0%2^W) <<< (j*W))).testBit (j'*W+i)=_
  rw[Nat.testBit_or,h j' i hi,Nat.testBit_shiftLeft,Nat.testBit_mod_two_pow]
  rcases Nat.lt_trichotomy j' j with h1 | h1 | h1
  ·have:(j'+1)*W≤j*W:=Nat.mul_le_mul_right W h1
   rw[Nat.add_mul] at this
   rw[show decide (j'*W+i≥j*W)=false from by simp;omega]
   simp only[Bool.false_and,Bool.or_false]
   rw[List.getD,List.getD,List.getElem?_append_left (by omega)]
  ·subst h1
   rw[show j'*W+i-j'*W=i by omega,hm i hi]
   have e1:acc.getD j' []=[]:=by rw[List.getD,List.getElem?_eq_none (by omega)];rfl
   have e2:(acc++[kE acc o]).getD j' []=kE acc o:=by rw[List.getD,←hj,List.getElem?_concat_length];rfl
   rw[e1,e2]
   simp[hi,kE]
  ·have:(j+1)*W≤j'*W:=Nat.mul_le_mul_right W h1
   rw[Nat.add_mul] at this
   rw[show decide (j'*W+i-j*W<W)=false from by simp;omega]
   have e1:acc.getD j' []=[]:=by rw[List.getD,List.getElem?_eq_none (by omega)];rfl
   have e2:(acc++[kE acc o]).getD j' []=[]:=by rw[List.getD,List.getElem?_eq_none (by simp;omega)];rfl
   rw[e1,e2]
   simp
def LM (ops:List Oper):List (Nat×Nat):=match ops.length with
 | W=>match QF W ops 0 0 with
  | A=>(List.range W).flatMap fun j=>((List.range j).filter fun i=>!(tbF A (j*W+i))).map fun i=>(i,j)
theorem He (ops:List Oper):LM ops=fE ops:=by
 have h:=LK (W:=ops.length) ops 0 0 [] rfl (fun j i _=>by simp)
 unfold LM fE
 simp only
 generalize QF ops.length ops 0 0=A at h
 have:∀ j,j∈List.range ops.length→(((List.range j).filter fun i=>!(tbF A (j*ops.length+i))).map fun i=>(i,j))=((List.range j).filter fun i=>!((mJ ops []).getD j []).contains i).map fun i=>(i,j):=fun j hj=>by
  rw[List.mem_range] at hj
  congr 1
  refine List.filter_congr fun i hi=>?_
  rw[List.mem_range] at hi
  rw[WV,h j i (by omega)]
 rw[List.flatMap_def,List.flatMap_def,List.map_congr_left this]
def zJ (ops:List Oper):Bool:=
 (ops.zipIdx.all fun (o,i)=>o.after.all fun e=>!Region.binds .any e||decide (e.on<i)) &&
 (LM ops).all fun (i,j)=>match ops[i]?,ops[j]? with
  | some a,some b=>a.apart ops.toArray b&&b.apart ops.toArray a
  | _,_=>false
def TY (ops:List Oper):List (Nat×Nat):=
 (LM ops).filter fun (i,j)=>match ops[i]?,ops[j]? with
  | some a,some b=>(sO a.op&&wI b.op)||(wI a.op&&sO b.op)
  | _,_=>false
theorem JC (ops:List Oper):zJ ops=dZ ops:=by unfold zJ dZ;rw[He];rfl
theorem U0 (ops:List Oper):TY ops=dK ops:=by unfold TY dK;rw[He];rfl
abbrev Rx:=Option (Ex×St)
def Hf (dst:Option Nat) (v:EV) (env:List (Nat×EV)) (loc:List (List TV)) (heap:List HB) (ws:List Nat):St:=Option.rec (motive:=fun _=>St) ⟨env,loc,heap,ws⟩ (fun d=>⟨(d,v)::env,loc,heap,ws⟩) dst
abbrev KR:=St→List Inf→Rx
abbrev IR:=St→KR→Rx
def LP (k:KR) (i:Inf):KR:=fun s is=>k s (i::is)
def a3R (fl:Nat) (ih:IR) (o:Oper) (s:St) (k:KR) (v:EV) (i:Inf) (s1:St):Rx:=St.rec (motive:=fun _=>Rx) (fun e l h _=>ih (Hf o.dst v e l h (bU fl i.ws s.ws)) (LP k i)) s1
def rDo (P:Program) (call:ay) (site:Nat→Bool) (fl:Nat) (ih:IR) (o:Oper) (s:St) (k:KR):Rx:=Option.rec (motive:=fun _=>Rx) none (fun r=>Prod.rec (motive:=fun _=>Rx) (fun v p=>Prod.rec (motive:=fun _=>Rx) (fun s1 i=>a3R fl ih o s k v i s1) p) r) (opF P call site s o)
def rNo (ih:IR) (o:Oper) (s:St) (k:KR):Rx:=ih (Hf o.dst .undef s.env s.loc s.heap s.ws) (LP k aA)
def rGo (P:Program) (call:ay) (site:Nat→Bool) (fl:Nat) (ops:Array Oper) (ih:IR) (o:Oper) (s:St) (k:KR):Rx:=Option.rec (motive:=fun _=>Rx) none (fun b=>Bool.rec (motive:=fun _=>Rx) (rNo ih o s k) (rDo P call site fl ih o s k) b) (LH ops s.env o)
def U1 (nt:Nat) (o:Oper):Bool:=Option.rec (motive:=fun _=>Bool) true (fun d=>Nat.ble (d+1) nt) o.dst
theorem U2 (nt:Nat) (o:Oper):U1 nt o=rQ nt o:=by
 unfold U1 rQ
 cases o.dst with
 | none=>rfl
 | some d=>
  show Nat.ble (d+1) nt=decide (d<nt)
  rw[Bool.eq_iff_iff]
  simp[Nat.lt_iff_add_one_le]
def a3S (P:Program) (call:ay) (site:Nat→Bool) (fl nt:Nat) (ops:Array Oper) (o:Oper) (ih:IR) (s:St) (k:KR):Rx:=Bool.rec (motive:=fun _=>Rx) none (rGo P call site fl ops ih o s k) (U1 nt o)
def rK (P:Program) (call:ay) (site:Nat→Bool) (fl nt:Nat) (ops:Array Oper) (os:List Oper):IR:=List.rec (motive:=fun _=>IR) (fun s k=>k s []) (fun o _ ih=>a3S P call site fl nt ops o ih) os
def WW (r:Option (St×List Inf)) (k:KR):Rx:=match r with
 | some (s,is)=>k s is
 | none=>none
theorem Vf (P:Program) (call:ay) (site:Nat→Bool) (fl nt:Nat) (ops:Array Oper):∀ os s k,rK P call site fl nt ops os s k=WW (cZ P call site fl nt ops os s) k
 | [],_,_=>rfl
 | o::os,s,k=>by
  have ih:=Vf P call site fl nt ops os
  show Bool.rec (motive:=fun _=>Rx) none (Option.rec (motive:=fun _=>Rx) none (fun b=>Bool.rec (motive:=fun _=>Rx) (rK P call site fl nt ops os (Hf o.dst .undef s.env s.loc s.heap s.ws) (LP k aA)) (Option.rec (motive:=fun _=>Rx) none (fun r=>Prod.rec (motive:=fun _=>Rx) (fun v p=>Prod.rec (motive:=fun _=>Rx) (fun s1 i=>St.rec (motive:=fun _=>Rx) (fun e l h _=>rK P call site fl nt ops os (Hf o.dst v e l h (bU fl i.ws s.ws)) (LP k i)) s1) p) r) (opF P call site s o)) b) (LH ops s.env o)) (U1 nt o)=_
  rw[U2,Qy,WU]
  unfold cZ
  cases rQ nt o with
  | false=>rfl
  | true=>
   cases oD ops s.env o with
   | none=>rfl
   | some b=>
    cases b with
    | false=>
     show rK _ _ _ _ _ _ _ _ _=WW (match cZ P call site fl nt ops os (s.put o.dst .undef) with | some (s,is)=>some (s,aA::is) | none=>none) k
     rw[ih,show Hf o.dst .undef s.env s.loc s.heap s.ws=s.put o.dst .undef by unfold Hf St.put;cases o.dst<;>rfl]
     cases cZ P call site fl nt ops os (s.put o.dst .undef)<;>rfl
    | true=>
     cases iH P call site s o with
     | none=>rfl
     | some r=>
      obtain⟨v,s1,i⟩:=r
      show rK _ _ _ _ _ _ _ _ _=WW (match cZ P call site fl nt ops os ({ s1 with ws:=bU fl i.ws s.ws }.put o.dst v) with | some (s,is)=>some (s,i::is) | none=>none) k
      rw[ih,show Hf o.dst v s1.env s1.loc s1.heap (bU fl i.ws s.ws)={ s1 with ws:=bU fl i.ws s.ws }.put o.dst v by unfold Hf St.put;cases o.dst<;>rfl]
      cases cZ P call site fl nt ops os ({ s1 with ws:=bU fl i.ws s.ws }.put o.dst v)<;>rfl
abbrev KX:=Ex→St→Rx
abbrev IX:=St→KX→Rx
def U3 (r:Rx) (k:KX):Rx:=match r with
 | some (e,s)=>k e s
 | none=>none
def a3T (ib:IX) (k:KX):KX:=fun e s=>Ex.rec (motive:=fun _=>Rx) (ib s k) (fun i=>k (.exit i) s) (k .ret s) e
def a3U (id:Nat) (k:KX):KX:=fun e s=>Ex.rec (motive:=fun _=>Rx) (k .norm s) (fun i=>Bool.rec (motive:=fun _=>Rx) (k (.exit i) s) (k .norm s) (Nat.beq i id)) (k .ret s) e
def a3V (T:Tab) (f id:Nat) (ops:Array Oper) (draw:Bool) (k:KX):KR:=fun s is=>Bool.rec (motive:=fun _=>Rx) none (k .norm ⟨Ej (T.eG f id) s.env,s.loc,s.heap,s.ws⟩) (!draw||(zJ ops.toList&&jQ is (TY ops.toList)))
def LQ (P:Program) (T:Tab) (call:ay) (f:Nat) (dI:Bool) (fl nt id:Nat) (ops:Array Oper) (draw:Bool):IX:=fun s k=>rK P call (fun d=>dI||T.wJ f d) fl nt ops ops.toList s (a3V T f id ops draw k)
def Vg (c:Operand) (ia ib:IX):IX:=fun s k=>match xH s.env c with
 | some (.bool b)=>Bool.rec (motive:=fun _=>Rx) (ib s k) (ia s k) b
 | _=>none
def Vh (ih:IX) (k:KX):KX:=fun e s=>Ex.rec (motive:=fun _=>Rx) (ih s k) (fun i=>k (.exit i) s) (k .ret s) e
def QG (T:Tab) (L f:Nat) (b:Code) (ib:IX):IX:=Nat.rec (motive:=fun _=>IX) (fun _ _=>none) (fun _ ih s k=>ib (zI (T.bY f (bH b)) s) (Vh ih k)) L
def QH (call:ay) (f:Nat) (dI:Bool) (fl nt:Nat) (g:Operand) (ps:Array Nat) (assign body:Code):IX:=fun s k=>U3 (match xH s.env g with
  | some (.fn f1 a1 b1)=>
   if s.env.all isVal&&!dI then
    match call (.fn f1 a1 b1) [.iF (s.heap.length+1)] (s.heap++[.mark,.loop true f nt s.env ps.toList assign body none]) with
    | some (_,h,ws)=>match h[s.heap.length+1]? with
     | some (.loop rd f2 zS e2 ps2 a2 b2 pend)=>match zQ rd pend with
      | some e=>some (e,{ s with heap:=h.set (s.heap.length+1) (.loop false f2 zS e2 ps2 a2 b2 (some .skip)),ws:=bU fl (ws.map .h) s.ws })
      | none=>none
     | _=>none
    | none=>none
   else none
  | _=>none) k
def a14:IX:=fun _ _=>none
def jk (P:Program) (T:Tab) (call:ay) (L:Nat) (f:Nat) (dI:Bool) (fl nt:Nat):Code→IX
 | .skip=>fun s k=>k .norm s
 | .label _=>fun s k=>k .norm s
 | .region id ops draw=>LQ P T call f dI fl nt id ops draw
 | .seq a b=>fun s k=>jk P T call L f dI fl nt a s (a3T (jk P T call L f dI fl nt b) k)
 | .cond c a b=>Vg c (jk P T call L f dI fl nt a) (jk P T call L f dI fl nt b)
 | .block id b=>fun s k=>jk P T call L f dI fl nt b s (a3U id k)
 | .scope b=>jk P T call L f dI fl nt b
 | .loop b=>QG T L f b (jk P T call L f dI fl nt b)
 | .exit id=>fun s k=>k (.exit id) s
 | .ret=>fun s k=>k .ret s
 | .rangeFunc g ps assign body=>QH call f dI fl nt g ps assign body
 | _=>a14
theorem QI (P:Program) (T:Tab) (call:ay) (L:Nat) (f:Nat) (dI:Bool) (fl nt:Nat):∀ c s k,jk P T call L f dI fl nt c s k=U3 (exec P T call L f dI fl nt c s) k:=by
 intro c
 induction c with
 | seq a b ia ib=>
  intro s k
  simp only[jk,exec,ia]
  cases exec P T call L f dI fl nt a s with
  | none=>rfl
  | some r=>
   obtain⟨e,s1⟩:=r
   cases e with
   | norm=>exact ib s1 k
   | exit i=>rfl
   | ret=>rfl
 | cond x a b ia ib=>
  intro s k
  simp only[jk,exec,Vg,xI]
  cases jP s.env x with
  | none=>rfl
  | some v=>
   cases v with
   | bool t=>
    cases t with
    | false=>exact ib s k
    | true=>exact ia s k
   | _=>rfl
 | block id b ib=>
  intro s k
  simp only[jk,exec,ib]
  cases exec P T call L f dI fl nt b s with
  | none=>rfl
  | some r=>
   obtain⟨e,s1⟩:=r
   cases e with
   | norm=>rfl
   | exit i=>
    show Bool.rec (motive:=fun _=>Rx) (k (.exit i) s1) (k .norm s1) (Nat.beq i id)=k (if i=id then .norm else .exit i) s1
    by_cases h:i=id
    ·subst h;rw[if_pos rfl,show Nat.beq i i=true from Nat.beq_refl i]
    ·rw[if_neg h,show Nat.beq i id=false from by cases e:Nat.beq i id with | false=>rfl | true=>exact absurd (Nat.eq_of_beq_eq_true e) h]
   | ret=>rfl
 | scope b ib=>intro s k;simp only[jk,exec,ib]
 | loop b ib=>
  intro s k
  simp only[jk,exec]
  have key:∀ n s,QG T n f b (jk P T call L f dI fl nt b) s k=U3 (iter (fun s=>exec P T call L f dI fl nt b (dh (T.bY f (bH b)) s)) n s) k:=by
   intro n
   induction n with
   | zero=>intro s;rfl
   | succ n ih=>
    intro s
    show jk P T call L f dI fl nt b (zI (T.bY f (bH b)) s) (Vh (QG T n f b (jk P T call L f dI fl nt b)) k)=_
    rw[ib,JB]
    simp only[iter]
    cases exec P T call L f dI fl nt b (dh (T.bY f (bH b)) s) with
    | none=>rfl
    | some r=>
     obtain⟨e,s1⟩:=r
     cases e with
     | norm=>exact ih s1
     | exit i=>rfl
     | ret=>rfl
  exact key L s
 | region id ops draw=>
  intro s k
  simp only[jk,exec,LQ,Vf]
  cases cZ P call (fun d=>dI||T.wJ f d) fl nt ops ops.toList s with
  | none=>rfl
  | some r=>
   obtain⟨s1,is⟩:=r
   show Bool.rec (motive:=fun _=>Rx) none (k .norm ⟨Ej (T.eG f id) s1.env,s1.loc,s1.heap,s1.ws⟩) (!draw||(zJ ops.toList&&jQ is (TY ops.toList)))=U3 (if (!draw||(dZ ops.toList&&jQ is (dK ops.toList)))=true then some (.norm,{ s1 with env:=pick (T.eG f id) s1.env }) else none) k
   rw[BN,JC,U0]
   cases (!draw||(dZ ops.toList&&jQ is (dK ops.toList)))<;>rfl
 | rangeFunc g ps a b _ _=>intro s k;simp only[jk,exec,QH,xI]<;>rfl
 | _=>intro s k;rfl
def oG (P:Program) (T:Tab) (call:ay) (L:Nat) (f:Nat) (dI:Bool) (fl nt:Nat) (c:Code) (s:St):Rx:=jk P T call L f dI fl nt c s fun e s=>some (e,s)
theorem vG (P:Program) (T:Tab) (call:ay) (L:Nat) (f:Nat) (dI:Bool) (fl nt:Nat) (c:Code) (s:St):oG P T call L f dI fl nt c s=exec P T call L f dI fl nt c s:=by
 unfold oG
 rw[QI]
 cases exec P T call L f dI fl nt c s<;>rfl
def NR (P:Program) (T:Tab) (call:ay) (L:Nat) (f:Nat) (args:List TV) (h:List HB):Option (TV×List HB×List Nat):=
 match CS P f with
 | some t=>match oG P T call L f false h.length t.nt t.body ⟨fB 0 args,[],h,[]⟩ with
  | some (.norm,s) | some (.ret,s)=>match jI P s t.results with
   | some vs=>if s.ws.isEmpty&&(one vs).flat then some (one vs,h,[]) else some (one vs,s.heap,s.ws)
   | none=>none
  | _=>none
 | none=>none
theorem U4:NR=O8:=by
 funext P T call L f args h
 simp only[NR,O8,vG]
 rfl
def JD (P:Program) (T:Tab) (call:ay) (L:Nat) (l:Nat) (args:List TV) (h:List HB):Option (TV×List HB×List Nat):=
 match h[l]? with
 | some (.loop true f nt env ps assign body _)=>
  if args.length=ps.length∧ps.all (fun p=>decide (p<nt)) then
   match oG P T call L f true h.length nt assign ⟨nJ env ps args,[],h,[]⟩ with
   | some (.norm,s)=>match s.heap[l]? with
    | some (.loop true f' Rz env' ps' a' b' _)=>
     match oG P T call L f true h.length nt body { s with heap:=s.heap.set l (.loop false f' Rz env' ps' a' b' none),ws:=ug h.length l s.ws } with
     | some (e,s)=>match s.heap[l]? with
      | some (.loop false f' Rz env' ps' a' b' none)=>some (.bool (jq e),s.heap.set l (.loop (jq e) f' Rz env' ps' a' b' (kF e)),ug h.length l s.ws)
      | _=>none
     | none=>none
    | _=>none
   | _=>none
  else none
 | _=>none
theorem NS:JD=wK:=by
 funext P T call L l args h
 simp only[JD,wK,vG]
 rfl
def iL (P:Program) (T:Tab) (L:Nat):Nat→ay
 | 0,_,_,_=>none
 | n+1,.fn f first cap,args,h=>if T.exts.contains f=true then T.ext (.fn f first cap) args h else gcR h (NR P T (iL P T L n) L f (first++args++cap) h)
 | n+1,.iF l,args,h=>JD P T (iL P T L n) L l args h
 | _,_,_,_=>none
theorem bW {P:Program} {T:Tab} {L:Nat} (hm:P.follows .mixedOrders=true) (hE:aj P T.ext):∀ n,aj P (iL P T L n)
 | 0=>by
  intro fv args h v h' ws hc
  simp[iL] at hc
 | n+1=>by
  intro fv args h v h' ws hc M w x xs hV hl hx hxs
  have ih:=bW (L:=L) hm hE n
  cases fv with
  | fn f first cap=>
   simp only[iL,U4] at hc
   split at hc
   ·exact hE _ _ _ _ _ _ hc M w x xs hV hl hx hxs
   cases hx with
   | fn h1 h2 h3 h4=>
    rename_i ys zs
    have hargs:aG M.h (first++args++cap) (ys++xs++zs):=(aG.append ⟨h1,h2⟩ hxs).append ⟨h3,h4⟩
    obtain⟨v0,h0,ws0,hc,hgc⟩:=Vz (P:=P) hV hl hc
    obtain⟨fn,c,e1,e2,e3,e4⟩:=Ak hm ih hc ⟨hV,hl⟩ hargs
    refine⟨{ target:=.fn (.func f) zs.toArray,args:=ys.toArray++xs.toArray },fun w=>by simp[Deferred.ofValue],.inl ⟨⟨f,(ys++xs++zs).toArray,?_,fun n=>(e4 n).mono fun e w' hR=>by cases e with | returned v=>exact hgc _ _ hR | panicked c=>exact hR.elim | outgrown=>exact hR.elim⟩,f,first,cap,rfl⟩⟩
    have e2' : ¬ fn.name = "runtime.NumGoroutine" := by simpa using e2
    simp[invoke,callFunc,program,Sem.run,e1,e2',e3]
  | iF l=>
   simp only[iL,NS] at hc
   cases hx with
   | iF hm'=>
    rename_i l' _
    refine⟨{ target:=.fn (.yield l') #[],args:=xs.toArray },fun w=>by simp[Deferred.ofValue],.inr ⟨Az hm ih hc ⟨hV,hl⟩ hm' hxs,l,rfl⟩⟩
  | _=>simp[iL] at hc
def BX (P:Program) (T:Tab) (call:ay) (L:Nat) (f nt:Nat):Nat→Code→St→Option St
 | 0,_,s=>some s
 | m+1,.seq a b,s=>match oG P T call L f false 0 nt a s with
  | some (.norm,s)=>BX P T call L f nt m b s
  | _=>none
 | _,_,_=>none
def oM:Nat→Code→Code
 | 0,c=>c
 | m+1,.seq _ b=>oM m b
 | _,c=>c
theorem lU {P:Program} {T:Tab} {call:ay} {L f nt:Nat} {r:Option (Ex×St)}:∀ {m:Nat} {c:Code} {s s1:St},BX P T call L f nt m c s=some s1→oG P T call L f false 0 nt (oM m c) s1=r→oG P T call L f false 0 nt c s=r
 | 0,c,s,s1,h,h2=>by cases h;exact h2
 | m+1,.seq a b,s,s1,h,h2=>by
  simp only[BX] at h
  split at h
  ·rename_i s2 e
   rw[vG] at e h2 ⊢
   simp only[exec,e]
   rw[←vG] at h2 ⊢
   exact lU h h2
  ·cases h
 | _+1,.skip,_,_,h,_ | _+1,.region _ _ _,_,_,h,_ | _+1,.cond _ _ _,_,_,h,_ | _+1,.block _ _,_,_,h,_ | _+1,.loop _,_,_,h,_ | _+1,.exit _,_,_,h,_ | _+1,.ret,_,_,h,_ | _+1,.scope _,_,_,h,_ | _+1,.label _,_,_,h,_ | _+1,.rangeFunc _ _ _ _,_,_,h,_=>by simp[BX] at h
def QJ (P:Program) (f:Nat):Code:=match CS P f with
 | some t=>t.body
 | none=>.skip
def QK (P:Program) (f:Nat):Nat:=match CS P f with
 | some t=>t.nt
 | none=>0
def WX (P:Program) (f:Nat):Option (Ex×St)→Bool
 | some (.ret,s)=>match CS P f with
  | some t=>match jI P s t.results,s.ws with
   | some [.bool true],[]=>true
   | _,_=>false
  | none=>false
 | _=>false
theorem U5 {P:Program} {T:Tab} {call:ay} {L f:Nat} {r:Option (Ex×St)} (h:oG P T call L f false 0 (QK P f) (QJ P f) ⟨[],[],[],[]⟩=r) (h2:WX P f r=true):isT (NR P T call L f [] [])=true:=by
 unfold WX at h2
 split at h2
 ·rename_i s
  split at h2
  ·rename_i t ht
   split at h2
   ·rename_i hr hw
    unfold QK QJ at h
    rw[ht] at h
    have h:oG P T call L f false ([]:List HB).length t.nt t.body ⟨fB 0 [],[],[],[]⟩=some (.ret,s):=h
    unfold NR
    simp only[ht,h,hr,hw]
    rfl
   ·cases h2
  ·cases h2
 ·cases h2
open Go.ChangeShapes Go.WideShapes Go.RowKit
end
end
end Tw
namespace Go.Proofs.YtjkgcifieggcpaaGreat
open Go Tw Pv fA
def T00:Tw.Tab:={ Tb with exts:=[],ext:=fun _ _ _=>none,Ho:=[97,113] }
theorem U6:aj Tryz.prog (fun _ _ _=>none):=fun fv args h v h' ws hc=>by cases hc
noncomputable abbrev Ap0 (n:Nat):ay:=yw Tryz.prog T00 LL n
abbrev tG:List (PV bF):=[.own 2,.own 2,.own 2,.own 2,.own 2,.own 2,.own 2,.own 2,.map 0]
noncomputable abbrev Hg (m:List Pc):List (PB bF):=[.rP (zH m),.eu tG,.gone]
theorem vH {n:Nat}:jL X0 Tryz.prog (Ap0 n) Jl:=fun _ _ _ _ _ h _=>by cases h
theorem Hl {n:Nat} (a b:Int):nH X0 Tryz.prog (Ap0 (n+1)) (.fn 133 [] []) [.int .u64 a,.int .u64 b] [] (.bool (H6 a b==0)) []:=
 WE hX vH (first:=[]) (cap:=[]) (by kernel_rfl) .er
section
variable {n:Nat} (m:List Pc) (a:Int)
set_option maxRecDepth 20000 in
theorem a15 (hm:m.length<LL) {A:Nat→Prop} {mm:List MB} {h:List HB} {kY:List TV} (hr:HR X0 Tryz.prog A mm (Hg m) h) (hxs:aG X0 Tryz.prog (AA A mm) mm h [.ptr 1 0 9,.int .u64 a] kY):Ap0 (n+2) (.fn 97 [] []) kY h=some (.bool (ql m a),h,[]):=by
 refine LD (X:=X0) (P:=Tryz.prog) (T:=T00) (L:=LL) (n:=n+1) (f:=97) (xs:=[.ptr 1 0 9,.int .u64 a]) (H:=Hg m) (v:=.bool (ql m a)) (t:=fnP Tryz.prog 97) (tv:=.bool (ql m a)) hX (by kernel_rfl) (by kernel_rfl) (by kernel_rfl) (by kernel_rfl) (by kernel_rfl) ?_ hr hxs
 refine Eh (jG:=Jl) (r0:=cR0 bdC) (r1:=cR1 bdC) (x:=cX bdC) (r6:=cR6 bdC) (ops:=a0U (D8 (cLb bdC))) (draw:=false) (i0:=0) (i1:=1) (id:=2) (it:=10) (nx:=11) (mo:=12) (b:=3) (r:=0) (n:=(zH m).length) (es:=zH m) (bad:=fun j=>bC a (m.getD j xG))
  (s1:=⟨[(0,.val (.ptr 1 0 9)),(1,.val (.int .u64 a))],[],Hg m⟩) (sI:=⟨[(1,.val (.int .u64 a)),(10,.val (.iter 3))],[],Hg m++[.aV 0 (zH m).length []]⟩)
  (sR:=fun seen=>⟨[(1,.val (.int .u64 a)),(10,.val (.iter 3))],[],Hg m++[.aV 0 (zH m).length seen]⟩)
  (sX:=fun j e seen=>⟨[(1,.val (.int .u64 a)),(10,.val (.iter 3)),(18,.val (.lit false))],[(m.getD j xG).ps],Hg m++[.aV 0 (zH m).length seen]⟩)
  (sE:=fun seen=>⟨[(4,.val (.lit true))],[],Hg m++[.aV 0 (zH m).length seen]⟩)
  (sB:=fun j e seen=>⟨[(4,.val (.lit false))],[(m.getD j xG).ps],Hg m++[.aV 0 (zH m).length seen]⟩)
  hX vH (by kernel_rfl) (by kernel_rfl) (by kernel_rfl) (by kernel_rfl) (by kernel_rfl) ?_ ?_ (by kernel_rfl) (fun j e seen=>by kernel_rfl) (by kernel_rfl) (of_decide_eq_true (by kernel_rfl)) (of_decide_eq_true (by kernel_rfl)) (fun seen=>by kernel_rfl) (fun seen=>by kernel_rfl) (fun seen=>by kernel_rfl) rfl (by rw[tZ];exact hm) (fun seen=>by kernel_rfl) (fun seen e=>by kernel_rfl) (fun seen=>?_) (fun j e seen he=>?_) (fun j e seen hj hb=>?_) (fun hb seen=>?_)
 ·exact exS hX vH (an:=.n) (by kernel_rfl) (.r rfl)
 ·exact exS hX vH (an:=.n) (by kernel_rfl) (.r rfl)
 ·exact exS hX vH (an:=.n) (by kernel_rfl) (.r rfl)
 ·have ho:=he
  obtain rfl:=JA he
  have ho:(zH m).length=(zH m).length∧(zH m)[j]? = some (.agg (m.getD j xG).ps,.bool true):=⟨rfl,ho⟩
  exact⟨fun hb=>exS hX vH (by kernel_rfl) (.c (.bf [.agg (m.getD j xG).ps,.bool true]) [] ho (.fr [] (Hl (n:=n) a (m.getD j xG).facts) (.b hb (.r rfl)))),fun hb=>exS hX vH (by kernel_rfl) (.c (.bf [.agg (m.getD j xG).ps,.bool true]) [] ho (.fr [] (Hl (n:=n) a (m.getD j xG).facts) (.b hb (.r rfl))))⟩
 ·have e2:ql m a=false:=by unfold ql;rw[vC.2 ⟨j,by rw[tZ] at hj;exact hj,hb⟩];rfl
  rw[e2]
  exact⟨.inr rfl,[.bool false],by kernel_rfl,rfl⟩
 ·have e2:ql m a=true:=by
   unfold ql
   cases h:m.any (bC a)
   ·rfl
   ·obtain⟨j,hj,hc⟩:=vC.1 h
    rw[hb j (by rw[tZ];exact hj)] at hc;cases hc
  rw[e2]
  exact⟨.inr rfl,[.bool true],by kernel_rfl,rfl⟩
set_option maxRecDepth 20000 in
theorem a18 (hm:m.length<LL) {A:Nat→Prop} {mm:List MB} {h:List HB} {kY:List TV} (hr:HR X0 Tryz.prog A mm (Hg m) h) (hxs:aG X0 Tryz.prog (AA A mm) mm h [.ptr 1 0 9,.int .u64 a] kY):Ap0 (n+2) (.fn 113 [] []) kY h=some (.bool (qm m a),h,[]):=by
 refine LD (X:=X0) (P:=Tryz.prog) (T:=T00) (L:=LL) (n:=n+1) (f:=113) (xs:=[.ptr 1 0 9,.int .u64 a]) (H:=Hg m) (v:=.bool (qm m a)) (t:=fnP Tryz.prog 113) (tv:=.bool (qm m a)) hX (by kernel_rfl) (by kernel_rfl) (by kernel_rfl) (by kernel_rfl) (by kernel_rfl) ?_ hr hxs
 refine Eh (jG:=Jl) (r0:=cR0 bdE) (r1:=cR1 bdE) (x:=cX bdE) (r6:=cR6 bdE) (ops:=a0U (D8 (cLb bdE))) (draw:=false) (i0:=0) (i1:=1) (id:=2) (it:=10) (nx:=11) (mo:=12) (b:=3) (r:=0) (n:=(zH m).length) (es:=zH m) (bad:=fun j=>bE a (m.getD j xG))
  (s1:=⟨[(0,.val (.ptr 1 0 9)),(1,.val (.int .u64 a))],[],Hg m⟩) (sI:=⟨[(1,.val (.int .u64 a)),(10,.val (.iter 3))],[],Hg m++[.aV 0 (zH m).length []]⟩)
  (sR:=fun seen=>⟨[(1,.val (.int .u64 a)),(10,.val (.iter 3))],[],Hg m++[.aV 0 (zH m).length seen]⟩)
  (sX:=fun j e seen=>⟨[(1,.val (.int .u64 a)),(10,.val (.iter 3)),(23,.val (.lit false))],[(m.getD j xG).ps],Hg m++[.aV 0 (zH m).length seen]⟩)
  (sE:=fun seen=>⟨[(4,.val (.lit true))],[],Hg m++[.aV 0 (zH m).length seen]⟩)
  (sB:=fun j e seen=>⟨[(4,.val (.lit false))],[(m.getD j xG).ps],Hg m++[.aV 0 (zH m).length seen]⟩)
  hX vH (by kernel_rfl) (by kernel_rfl) (by kernel_rfl) (by kernel_rfl) (by kernel_rfl) ?_ ?_ (by kernel_rfl) (fun j e seen=>by kernel_rfl) (by kernel_rfl) (of_decide_eq_true (by kernel_rfl)) (of_decide_eq_true (by kernel_rfl)) (fun seen=>by kernel_rfl) (fun seen=>by kernel_rfl) (fun seen=>by kernel_rfl) rfl (by rw[tZ];exact hm) (fun seen=>by kernel_rfl) (fun seen e=>by kernel_rfl) (fun seen=>?_) (fun j e seen he=>?_) (fun j e seen hj hb=>?_) (fun hb seen=>?_)
 ·exact exS hX vH (an:=.n) (by kernel_rfl) (.r rfl)
 ·exact exS hX vH (an:=.n) (by kernel_rfl) (.r rfl)
 ·exact exS hX vH (an:=.n) (by kernel_rfl) (.r rfl)
 ·have ho:=he
  obtain rfl:=JA he
  have ho:(zH m).length=(zH m).length∧(zH m)[j]? = some (.agg (m.getD j xG).ps,.bool true):=⟨rfl,ho⟩
  refine⟨fun hb=>?_,fun hb=>?_⟩
  ·unfold bE at hb
   have h1:(H6 a (m.getD j xG).facts==0)=true:=by revert hb;cases (H6 a (m.getD j xG).facts==0)<;>simp
   have h2:(!(m.getD j xG).goal)=true:=by rw[h1] at hb;simpa using hb
   exact exS hX vH (by kernel_rfl) (.c (.bf [.agg (m.getD j xG).ps,.bool true]) [] ho (.fr [] (Hl (n:=n) a (m.getD j xG).facts) (.b h1 (.b h2 (.r rfl)))))
  ·unfold bE at hb
   cases h1:(H6 a (m.getD j xG).facts==0)
   ·exact exS hX vH (by kernel_rfl) (.c (.bf [.agg (m.getD j xG).ps,.bool true]) [] ho (.fr [] (Hl (n:=n) a (m.getD j xG).facts) (.b h1 (.r rfl))))
   ·have h2:(!(m.getD j xG).goal)=false:=by rw[h1] at hb;simpa using hb
    exact exS hX vH (by kernel_rfl) (.c (.bf [.agg (m.getD j xG).ps,.bool true]) [] ho (.fr [] (Hl (n:=n) a (m.getD j xG).facts) (.b h1 (.b h2 (.r rfl)))))
 ·have e2:qm m a=false:=by unfold qm;rw[vC.2 ⟨j,by rw[tZ] at hj;exact hj,hb⟩];rfl
  rw[e2]
  exact⟨.inr rfl,[.bool false],by kernel_rfl,rfl⟩
 ·have e2:qm m a=true:=by
   unfold qm
   cases h:m.any (bE a)
   ·rfl
   ·obtain⟨j,hj,hc⟩:=vC.1 h
    rw[hb j (by rw[tZ];exact hj)] at hc;cases hc
  rw[e2]
  exact⟨.inr rfl,[.bool true],by kernel_rfl,rfl⟩
end
end Go.Proofs.YtjkgcifieggcpaaGreat
