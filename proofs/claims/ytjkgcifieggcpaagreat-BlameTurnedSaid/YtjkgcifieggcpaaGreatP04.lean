/- Part 5 of a proof: closed runs of the given program, and the readings of its code that they use. -/
import Derived.Test.YtjkgcifieggcpaaGreatP03
set_option linter.constructorNameAsVariable false
set_option linter.unusedVariables false
set_option linter.unusedSimpArgs false
set_option linter.unusedSectionVars false
namespace Pv
open Go Tw
def Gg:Code->Code
 | .seq a _=>a
 | .block _ b=>b
 | .loop b=>b
 | .scope b=>b
 | .cond _ a _=>a
 | c=>c
def Oc:Code->Code
 | .seq _ b=>b
 | .cond _ _ b=>b
 | c=>c
def a7a:Code->Array Oper
 | .region _ o _=>o
 | _=>#[]
def fnP (P:Program) (f:Nat):FnT:=match FU P f with
 | some t=>t
 | none=>⟨0,.skip,[]⟩
def Oe (ops:Array Oper) (it nx mo:Nat):Bool:=match qW ops with
 | some (a,b,_,o2)=>a==it&&b==nx&&(match o2.op,o2.dst,o2.guard with
  | .extract (.tmp k) 0,some d,none=>k==nx&&d==mo
  | _,_,_=>false)
 | none=>false
theorem RS {ops:Array Oper} {it nx mo:Nat} (h:Oe ops it nx mo=true):∃ o1 o2,qW ops=some (it,nx,o1,o2)∧o2.op=.extract (.tmp nx) 0∧o2.dst=some mo∧o2.guard=none:=by
 unfold Oe at h;split at h
 ·rename_i a b o1 o2 e;simp only[Bool.and_eq_true,beq_iff_eq] at h;obtain⟨⟨rfl,rfl⟩,h⟩:=h;split at h
  ·rename_i k d e1 e2 e3;simp only[Bool.and_eq_true,beq_iff_eq] at h;obtain⟨rfl,rfl⟩:=h;exact⟨o1,o2,e,e1,e2,e3⟩
  cases h
 cases h
section
variable {X:iR} {P:Program} {T:iF} {call:ay} {cd:og} {kX:iO X.Γ} {L f nt B:Nat}
theorem SN (hX:aU X P) (hO:lC X P call kX) {c:Code} {ps fK:aW X.Γ} {an:PT X.Γ} {o:OT (Ex×aW X.Γ)} {e:Ex} (hk:fP X P T kX (qH X P call) (iq X P T call L f false nt B) B L f false nt c ps an a2s=o) (ht:Fp (fun r=>r=(e,fK)) an o):iq X P T call L f false nt B c ps e fK:=by
 obtain⟨y,h1,h2⟩:=ht.ends;subst h2;rw[<-hk] at h1;exact Va hX hO h1
theorem Yr {n j:Nat} {seen:List Nat} (hj:j<n) (hn:j∉seen):((List.range n).filter fun i=>!(j::seen).contains i).length<((List.range n).filter fun i=>!seen.contains i).length:=by
 have e:((List.range n).filter fun i=>!(j::seen).contains i)=((List.range n).filter fun i=>!seen.contains i).filter fun i=>!(i==j):=by
  rw[List.filter_filter];refine List.filter_congr fun i _=>?_;rw[List.contains_cons];cases i==j<;>simp
 rw[e];refine List.length_filter_lt_length_iff_exists.2 ⟨j,List.mem_filter.2 ⟨List.mem_range.2 hj,by simpa using hn⟩,by simp⟩
theorem I9 (hX:aU X P) (hO:lC X P call kX) {body r0 r1 x r6:Code} {i0 i1 id it nx mo b r n:Nat} {ops:Array Oper} {draw:Bool} {st0 s1:aW X.Γ} {sI:aW X.Γ} {sX:Nat->PV X.Γ×PV X.Γ->List Nat->aW X.Γ} {sR sE:List Nat->aW X.Γ} {sB:Nat->PV X.Γ×PV X.Γ->List Nat->aW X.Γ} {es:List (PV X.Γ×PV X.Γ)} {bad:Nat->Bool} {Q:Ex->aW X.Γ->Prop}
  (hb:body=.seq r0 (.seq (.seq r1 (.block i0 (.loop (.seq (.region id ops draw) (.seq (.cond (.tmp mo) .skip (.exit i0)) (.block i1 x)))))) (.seq r6 .ret)))
  (n0:gX r0=true) (n1:gX r1=true) (nx':gX x=true) (n6:gX r6=true)
  (h0:iq X P T call L f false nt B r0 st0 .norm s1) (h1:iq X P T call L f false nt B r1 s1 .norm sI)
  (hI:kY X (T.dG f (bZ (.seq (.region id ops draw) (.seq (.cond (.tmp mo) .skip (.exit i0)) (.block i1 x))))) sI=sR []) (hh:∀ j e seen,kY X (T.dG f (bZ (.seq (.region id ops draw) (.seq (.cond (.tmp mo) .skip (.exit i0)) (.block i1 x))))) (sX j e seen)=sR seen)
  (hnx:Oe ops it nx mo=true) (hd:nx<nt) (hd2:mo<nt)
  (JM:∀ seen,wF (sR seen).env (.tmp it)=some (.iter b)) (hbk:∀ seen,(sR seen).heap[b]? = some (.bn r n seen)) (hr:∀ seen,Es X (sR seen).heap r=some es) (hl:es.length=n) (hL:n<L)
  (m1:∀ seen,wF (iL (T.fO f id) ((mo,.val (.bool false))::(nx,.val (.bH [.bool false]))::(sR seen).env)) (.tmp mo)=some (.bool false))
  (m2:∀ seen (e:PV X.Γ×PV X.Γ),wF (iL (T.fO f id) ((mo,.val (.bool true))::(nx,.val (.bH [.bool true,e.1,e.2]))::(sR seen).env)) (.tmp mo)=some (.bool true))
  (h6:∀ seen,iq X P T call L f false nt B r6 { sR seen with env:=iL (T.fO f id) ((mo,.val (.bool false))::(nx,.val (.bH [.bool false]))::(sR seen).env) } .norm (sE seen))
  (hx:∀ j e seen,es[j]? = some e->(bad j=true->iq X P T call L f false nt B x { sR seen with env:=iL (T.fO f id) ((mo,.val (.bool true))::(nx,.val (.bH [.bool true,e.1,e.2]))::(sR seen).env),heap:=(sR seen).heap.set b (.bn r n (j::seen)) } .ret (sB j e (j::seen)))
   ∧ (bad j=false->iq X P T call L f false nt B x { sR seen with env:=iL (T.fO f id) ((mo,.val (.bool true))::(nx,.val (.bH [.bool true,e.1,e.2]))::(sR seen).env),heap:=(sR seen).heap.set b (.bn r n (j::seen)) } .norm (sX j e (j::seen))))
  (qB:∀ j e seen,j<n->bad j=true->Q .ret (sB j e seen)) (qE:(∀ j,j<n->bad j=false)->∀ seen,Q .ret (sE seen)):bf X P T call cd L f nt B body st0 Q:=by
 subst hb;obtain⟨o1,o2,hn,h2,h3,h4⟩:=RS hnx;have a2L:∀ {c:Code} {e:Ex} {s:aW X.Γ} {Q':Ex->aW X.Γ->Prop},gX c=true->fP X P T kX (qH X P call) (iq X P T call L f false nt B) B L f false nt c s .n a2s=.ret (e,s)->Q' e s->bf X P T call cd L f nt B c s Q':=fun hc hk hq=>iq.Lm hc (SN hX hO hk (.r rfl)) hq;refine bf.seq (R:=fun e s=>e=.norm∧s=s1) (iq.Lm n0 h0 ⟨rfl,rfl⟩) (fun s hs=>?_) (fun i s h=>by cases h.1) (fun s h=>by cases h.1);obtain⟨_,rfl⟩:=hs;refine bf.seq (R:=fun e s=>(e=.norm∧(∀ j,j<n->bad j=false)∧∃ seen,s={ sR seen with env:=iL (T.fO f id) ((mo,.val (.bool false))::(nx,.val (.bH [.bool false]))::(sR seen).env) })∨(e=.ret∧Q e s)) ?_ (fun s hs=>?_) (fun i s h=>?_) (fun s h=>?_)
 ·refine bf.seq (R:=fun e s'=>e=.norm∧s'=sI) (iq.Lm n1 h1 ⟨rfl,rfl⟩) (fun s' hs=>?_) (fun i s h=>by cases h.1) (fun s h=>by cases h.1);obtain⟨_,rfl⟩:=hs;refine bf.block ?_;refine bf.loop (fun k s=>∃ seen,kY X (T.dG f (bZ (.seq (.region id ops draw) (.seq (.cond (.tmp mo) .skip (.exit i0)) (.block i1 x))))) s=sR seen∧(∀ j∈seen,j<n->bad j=false)∧k=((List.range n).filter fun i=>!seen.contains i).length) (fun k s hi=>?_) (k:=n) ⟨[],hI,fun j hj=>(by cases hj),by rw[show ((List.range n).filter fun i=>!([]:List Nat).contains i)=List.range n from List.filter_eq_self.2 fun a _=>rfl,List.length_range]⟩ hL;obtain⟨seen,hp,hs,rfl⟩:=hi;rw[hp];refine bf.seq (R:=fun e s=>e=.norm∧(((∀ j,j<n->bad j=false)∧s={ sR seen with env:=iL (T.fO f id) ((mo,.val (.bool false))::(nx,.val (.bH [.bool false]))::(sR seen).env) })∨∃ j e,j∉seen∧es[j]? = some e∧s={ sR seen with env:=iL (T.fO f id) ((mo,.val (.bool true))::(nx,.val (.bH [.bool true,e.1,e.2]))::(sR seen).env),heap:=(sR seen).heap.set b (.bn r n (j::seen)) })) ?_ (fun s hs=>?_) (fun i s h=>by cases h.1) (fun s h=>by cases h.1)
  ·exact bf.next hn hd hd2 h2 h3 h4 (JM seen) (hbk seen) (hr seen) hl (fun ho=>⟨rfl,.inl ⟨fun j hj=>hs j (ho j hj) hj,rfl⟩⟩) (fun j e hj he=>⟨rfl,.inr ⟨j,e,hj,he,rfl⟩⟩)
  ·obtain⟨_,⟨h5,rfl⟩ | ⟨j,e,hj,he,rfl⟩⟩:=hs
   ·refine bf.seq (R:=fun e s=>e=.exit i0∧s={ sR seen with env:=iL (T.fO f id) ((mo,.val (.bool false))::(nx,.val (.bH [.bool false]))::(sR seen).env) }) (bf.cond (t:=false) (m1 seen) (a2L (c:=.exit i0) rfl rfl ⟨rfl,rfl⟩)) (fun s h=>by cases h.1) (fun i s h=>?_) (fun s h=>by cases h.1);obtain⟨h7,rfl⟩:=h;cases h7;dsimp only;rw[if_pos rfl];exact .inl ⟨rfl,h5,seen,rfl⟩
   ·have hjn:j<n:=by rw[<-hl];exact (List.getElem?_eq_some_iff.1 he).1
    refine bf.seq (R:=fun e1 s=>e1=.norm∧s={ sR seen with env:=iL (T.fO f id) ((mo,.val (.bool true))::(nx,.val (.bH [.bool true,e.1,e.2]))::(sR seen).env),heap:=(sR seen).heap.set b (.bn r n (j::seen)) }) (bf.cond (t:=true) (m2 seen e) (a2L (c:=.skip) rfl rfl ⟨rfl,rfl⟩)) (fun s h=>?_) (fun i s h=>by cases h.1) (fun s h=>by cases h.1);obtain⟨_,rfl⟩:=h;refine bf.block ?_;obtain⟨x1,x2⟩:=hx j e seen he;cases hbj:bad j
    ·refine iq.Lm nx' (x2 hbj) ?_;exact⟨_,Yr hjn hj,j::seen,hh j e _,fun k hk hkn=>by
      rcases List.mem_cons.1 hk with rfl | hk
      ·exact hbj
      ·exact hs k hk hkn,rfl⟩
    ·refine iq.Lm nx' (x1 hbj) ?_;exact .inr ⟨rfl,qB j _ _ hjn hbj⟩
 ·rcases hs with⟨_,h5,seen,rfl⟩ | ⟨h,_⟩
  ·refine bf.seq (R:=fun e s=>e=.norm∧s=sE seen) (iq.Lm n6 (h6 seen) ⟨rfl,rfl⟩) (fun s hs=>?_) (fun i s h=>by cases h.1) (fun s h=>by cases h.1);obtain⟨_,rfl⟩:=hs;exact a2L (c:=.ret) rfl rfl (qE h5 seen)
  ·cases h
 ·rcases h with⟨h,_⟩ | ⟨h,_⟩<;>cases h
 ·rcases h with⟨h,_⟩ | ⟨_,h⟩
  ·cases h
  ·exact h
end
end Pv
namespace Go.Proofs.YtjkgcifieggcpaaGreat
open Go Tw Pv gq
def bC (a:Int) (p:Pc):Bool:=L8 a p.facts==0
def bE (a:Int) (p:Pc):Bool:=(L8 a p.facts==0)&&!p.goal
def uw (m:List Pc) (a:Int):Bool:=!(m.any (bC a))
def uy (m:List Pc) (a:Int):Bool:=!(m.any (bE a))
theorem zf {m:List Pc} {c:Pc->Bool}:m.any c=true↔∃ j,j<m.length∧c (m.getD j Aj)=true:=by
 rw[List.any_eq_true];constructor
 ·rintro⟨x,hx,hc⟩;obtain⟨j,hj,rfl⟩:=List.mem_iff_getElem.1 hx;exact⟨j,hj,by simpa[List.getD,List.getElem?_eq_getElem hj] using hc⟩
 rintro⟨j,hj,hc⟩;exact⟨_,VG (d:=Aj) hj,hc⟩
noncomputable abbrev bdC:Code:=(fnP Tryz.prog 97).body
noncomputable abbrev bdE:Code:=(fnP Tryz.prog 113).body
abbrev cR0 (c:Code):Code:=Gg c
abbrev cR1 (c:Code):Code:=Gg (Gg (Oc c))
abbrev cLb (c:Code):Code:=Gg (Gg (Oc (Gg (Oc c))))
abbrev cX (c:Code):Code:=Gg (Oc (Oc (cLb c)))
abbrev cR6 (c:Code):Code:=Gg (Oc (Oc c))
section
variable {n:Nat} (hO:Ok n a0R) (s o:List Int) (f:List Fc) (g:Dg) (m:List Pc) (a:Int)
theorem Og {m:List Pc} {j:Nat} {e:PV bM×PV bM} (h:(D8 m)[j]? = some e):e=(.agg (m.getD j Aj).ps,.bool true):=by
 have e2:D8 m=m.map fun x=>((PV.agg x.ps:PV bM),(PV.bool true:PV bM)):=List.map_map;rw[e2,List.getElem?_map] at h;cases h2:m[j]? with
 | none=>rw[h2] at h;cases h
 | some x=>rw[h2] at h;cases h;rw[List.getD_eq_getElem?_getD,h2];rfl
theorem xI {m:List Pc}:(D8 m).length=m.length:=(List.length_map ..).trans (List.length_map ..)
include hO
end
end Go.Proofs.YtjkgcifieggcpaaGreat
namespace Pv
open Go Tw
section
variable {X:iR} {P:Program}
theorem Qi (hX:aU X P) {T:iF} {L n f:Nat} {t:FnT} {xs:List (PV X.Γ)} {H:List (PB X.Γ)} {v:PV X.Γ} {tv:TV} (hd:T.Lm.contains f=true) (hx:T.exts.contains f=false) (ht:FU P f=some t) (hN:wL H=true) (hv:tJ v=some tv)
  (hE:bf X P T (Bd P T L n) (IJ P T (Bd P T L n) L) L f t.nt H.length t.body ⟨vw X 0 xs,[],H⟩ fun e s=>(e=.norm∨e=.ret)∧∃ us,Eu X P s t.results=some us∧UE X us=v)
  {A:Nat->Prop} {m:List MB} {h:List HB} {nI:List TV} (hr:HR X P A m H h) (yj:aH X P (AA A m) m h xs nI):Bd P T L (n+1) (.fn f [] []) nI h=some (tv,h,[]):=by
 have hb:=Oa hN hr;have hS:SR X P A (fun _=>False) h.length m ⟨vw X 0 xs,[],H⟩ ⟨gu 0 nI,[],h,[]⟩:=
  ⟨⟨hr,rfl,fun k cs hk=>by simp at hk,Ja yj⟩,fun b h1=>(by rw[hb] at h1;cases h1),fun b hb=>(by cases hb),Nat.le_refl _⟩
 have hO:JZ P T (Bd P T L n) L f t nI h (tv,h++[]):=by
  refine hE A _ _ m _ _ hS fun e dX fK m1 ⟨he,us,Xc,hpv⟩ h3 h4 h5=>?_;obtain⟨ws,g1,g2⟩:=E5 hX h3.st Xc;have hd:a6Z X P (T.a1b.contains f) (UE X us) fK.heap (fun _=>tv) []:=by
   rw[hpv];exact Ob hv fun cs hc=>by subst hc;cases v<;>simp[tJ,mY] at hv
  exact⟨he,ws,g1,List.eq_nil_iff_forall_not_mem.2 fun b hb=>h3.ws b hb,hd A m1 h dX.heap _ h3.st.heap (Qa g2) fun b hb=>(h3.own b hb).resolve_left id⟩
 rw[List.append_nil] at hO;have:=Xy ht hO;show (if T.exts.contains f=true then _ else if T.Lm.contains f=true then _ else _)=_;rw[hx,hd,if_neg (by simp),if_pos rfl,List.nil_append,List.append_nil];exact this
end
end Pv
namespace Tw
open Go
noncomputable section
def Ia (t:Nat) (env:List (Nat×EV)):Option EV:=List.rec (motive:=fun _=>Option EV) none (fun p _ ih=>Bool.rec (motive:=fun _=>Option EV) ih (some p.2) (Nat.beq p.1 t)) env
theorem zi (t:Nat):∀ env,Ia t env=aT t env
 | []=>rfl
 | (k,v)::r=>by
  show Bool.rec (motive:=fun _=>Option EV) (Ia t r) (some v) (Nat.beq k t)=if k=t then some v else aT t r
  rw[zi t r];by_cases h:k=t
  ·subst h;rw[if_pos rfl,show Nat.beq k k=true from Nat.beq_refl k]
  rw[if_neg h,show Nat.beq k t=false from by cases e:Nat.beq k t with | false=>rfl | true=>exact absurd (Nat.eq_of_beq_eq_true e) h]
def Ib (live:List Nat) (env:List (Nat×EV)):List (Nat×EV):=List.rec (motive:=fun _=>List (Nat×EV)) [] (fun t _ ih=>Option.rec (motive:=fun _=>List (Nat×EV)) ih (fun v=>(t,v)::ih) (Ia t env)) live
theorem EY (env:List (Nat×EV)):∀ live,Ib live env=pick live env
 | []=>rfl
 | t::r=>by
  show Option.rec (motive:=fun _=>List (Nat×EV)) (Ib r env) (fun v=>(t,v)::Ib r env) (Ia t env)=_;rw[zi,EY env r];rw[show pick (t::r) env=match aT t env with | some v=>(t,v)::pick r env | none=>pick r env from rfl];cases aT t env<;>rfl
def X7 (env:List (Nat×EV)) (x:Operand):Option EV:=match x with
 | .tmp t=>Ia t env
 | .const v=>(TV.Jk v).map .val
 | .func f=>some (.val (.fn f [] []))
 | .global _=>none
theorem VI:X7=AL:=by funext env x;cases x<;>first | exact zi _ _ | rfl
def Ak (env:List (Nat×EV)) (x:Operand):Option TV:=
 match X7 env x with
 | some (.val v)=>some v
 | _=>none
theorem Am:Ak=lJ:=by funext env x;unfold Ak lJ;rw[VI];rfl
def RU (env:List (Nat×EV)):List Operand->Option (List TV)
 | []=>some []
 | x::xs=>match Ak env x,RU env xs with
  | some v,some vs=>some (v::vs)
  | _,_=>none
theorem Jf (env:List (Nat×EV)):∀ xs,RU env xs=Dh env xs
 | []=>rfl
 | x::xs=>by unfold RU Dh;rw[Am,Jf env xs];rfl
def VJ (env:List (Nat×EV)):List (Nat×Operand)->Option (List (Nat×TV))
 | []=>some []
 | (i,x)::xs=>match Ak env x,VJ env xs with
  | some v,some vs=>some ((i,v)::vs)
  | _,_=>none
theorem Qj (env:List (Nat×EV)):∀ xs,VJ env xs=FQ env xs
 | []=>rfl
 | (i,x)::xs=>by unfold VJ FQ;rw[Am,Qj env xs];rfl
def Qk (ops:Array Oper) (env:List (Nat×EV)) (o:Oper):Option Bool:=
 match o.guard with
 | none=>some true
 | some (j,want)=>match (ops[j]?).bind (·.dst) with
  | some d=>match Ia d env with
   | some (.val (.bool b))=>some (b==want)
   | some .undef=>some false
   | _=>none
  | none=>none
theorem VK (ops:Array Oper) (env:List (Nat×EV)) (o:Oper):Qk ops env o=rM ops env o:=by
 unfold Qk rM;simp only[zi];rfl
def D9 (live:List Nat) (s:St):St:=
 let env:=Ib live s.env
 { s with env:=env,loc:=s.loc.take (vP env) }
theorem Oh:D9=dO:=by
 funext live s
 simp only[D9,dO,EY]
def RV (env:List (Nat×EV)):Option Operand->Option (Option TV)
 | none=>some none
 | some x=>match Ak env x with
  | some v=>some (some v)
  | none=>none
theorem Yt (env:List (Nat×EV)) (x:Option Operand):RV env x=FT env x:=by cases x<;>simp only[RV,FT,Am]<;>rfl
section
variable (P:Program) (call:ay) (site:Nat->Bool) (s:St)
abbrev BX:=Option (EV×St×gy)
def a0S (x:Operand):BX:=(X7 s.env x).map fun v=>(v,s,aA)
def a0T (c a b:Operand):BX:=match Ak s.env c with
  | some (.bool t)=>(X7 s.env (if t then a else b)).map fun v=>(v,s,aA)
  | _=>none
def VL (d:Nat) (e:TypeId):BX:=(xK P e).map fun z=>let (v,s):=jh (site d) s z;(v,s,aA)
def a7d (d:Nat) (x:Operand):BX:=match Ak s.env x with
  | some v=>if v.cells.all bW then let (v,s):=jh (site d) s v.cells;some (v,s,aA) else none
  | none=>none
def VN (t:TypeId) (ps:Array (Nat×Operand)):BX:=match VJ s.env ps.toList with
  | some ps=>(zH P t ps).map fun v=>(.val v,s,aA)
  | none=>none
def BH (t:TypeId) (len:Nat) (ps:Array (Nat×Operand)):BX:=match VJ s.env ps.toList with
  | some ps=>(iJ P t len s ps).map fun (v,s)=>(.val v,s,aA)
  | none=>none
def a0U (t:TypeId) (a:Operand):BX:=match X7 s.env a with
  | some a=>(loadT P t s a).map fun (v,i)=>(.val v,s,i)
  | none=>none
def VO (t:TypeId) (a x:Operand):BX:=match X7 s.env a,Ak s.env x with
  | some a,some v=>(storeT P t s a v).map fun (s,i)=>(.undef,s,i)
  | _,_=>none
def a7e (x:Operand):BX:=match X7 s.env x with
  | some (.loc k o)=>some (.loc k o,s,aA)
  | some (.val (.ptr b o lim))=>some (.val (.ptr b o lim),s,aA)
  | some (.val (.fn f a b))=>some (.val (.fn f a b),s,aA)
  | some (.val (.jk l))=>some (.val (.jk l),s,aA)
  | _=>none
def a7f (op:BinOp) (t:TypeId) (x y:Operand):BX:=match Ak s.env x,Ak s.env y with
  | some a,some b=>(kH P op t x y a b).map fun v=>(.val v,s,aA)
  | _,_=>none
def fUn (op:UnOp) (x:Operand):BX:=match Ak s.env x with
  | some a=>(unT P op a).map fun v=>(.val v,s,aA)
  | none=>none
def a0V (src dst:TypeId) (x:Operand):BX:=match Ak s.env x with
  | some a=>(Dj P src dst a).map fun v=>(.val v,s,aA)
  | none=>none
def Ic (f:FuncId) (first cap:Array Operand):BX:=match RU s.env first.toList,RU s.env cap.toList with
  | some a,some b=>some (.val (.fn f a b),s,aA)
  | _,_=>none
def La (t:TypeId) (r:Option Operand):BX:=match RV s.env r,P.underlying t with
  | some none,_=>some (.val (.map s.heap.length),{ s with heap:=s.heap++[.map []] },aA)
  | some (some (.int _ _)),some (.map _ _)=>some (.val (.map s.heap.length),{ s with heap:=s.heap++[.map []] },aA)
  | _,_=>none
def EZ (t:TypeId) (l c:Operand):BX:=match Ak s.env l,Ak s.env c with
  | some l,some c=>(jC P t s l c).map fun (v,s)=>(.val v,s,aA)
  | _,_=>none
def VP (t:TypeId) (x:Operand) (lo hi mx:Option Operand):BX:=match X7 s.env x,RV s.env lo,RV s.env hi,RV s.env mx with
  | some x,some lo,some hi,some mx=>match P.underlying t,x with
   | some (.array _ _),x=>(iT P t x lo hi mx).map fun v=>(.val v,s,aA)
   | _,.val x=>(jB P t x lo hi mx).map fun v=>(.val v,s,aA)
   | _,_=>none
  | _,_,_,_=>none
def F8 (t:TypeId) (x:Operand) (f:Nat):BX:=match X7 s.env x,sO P t f with
  | some a,some n=>(Di n a).map fun v=>(v,s,aA)
  | _,_=>none
def VQ (t:TypeId) (x:Operand) (f:Nat):BX:=match Ak s.env x with
  | some a=>(zJ P t a f).map fun v=>(.val v,s,aA)
  | none=>none
def F9 (t:TypeId) (x i:Operand):BX:=match X7 s.env x,Ak s.env i with
  | some a,some i=>(eF P t a i).map fun v=>(v,s,aA)
  | _,_=>none
def VT (t:TypeId) (x i:Operand):BX:=match Ak s.env x,Ak s.env i with
  | some a,some i=>(wP P t a i).map fun v=>(.val v,s,aA)
  | _,_=>none
def Ql (t:TypeId) (m k:Operand) (ok:Bool):BX:=match Ak s.env m,Ak s.env k with
  | some m,some k=>(lY P t s.heap m k ok).map fun v=>(.val v,s,bY (match m with | .map r=>[.h r] | _=>[]))
  | _,_=>none
def a7g (t:TypeId) (m k x:Operand):BX:=match Ak s.env m,Ak s.env k,Ak s.env x with
  | some m,some k,some v=>(jL P t s m k v).map fun (s,i)=>(.undef,s,i)
  | _,_,_=>none
def Le (t:Operand) (i:Nat):BX:=match Ak s.env t with
  | some (.bH vs)=>(vs[i]?).map fun v=>(.val v,s,aA)
  | _=>none
def a0W (c:Call) (t:TypeId):BX:=
 match c.callee,RU s.env c.args.toList with
 | .builtin b,some az=>(jl P b c.argTypes t s az).map fun (v,s,i)=>(.val v,s,i)
 | .value f,some az=>match Ak s.env f with
  | some fv=>match call fv az s.heap with
   | some (v,h,ws)=>some (.val v,{ s with heap:=h },⟨true,[],ws.map .h⟩)
   | none=>none
  | none=>none
 | _,_=>none
def opF (o:Oper):BX:=
 match o.op with
 | .move x | .assign x=>a0S s x
 | .pick c a b=>a0T s c a b
 | .alloc e=>VL P site s (o.dst.getD 0) e
 | .box _ x=>a7d site s (o.dst.getD 0) x
 | .build t ps=>VN P s t ps
 | .buildSlice t len ps=>BH P s t len ps
 | .load t a=>a0U P s t a
 | .store t a x=>VO P s t a x
 | .nilCheck x=>a7e s x
 | .binOp op t x y _=>a7f P s op t x y
 | .unOp op _ x=>fUn P s op x
 | .convert src dst x=>a0V P s src dst x
 | .makeFunc (.func f) first cap=>Ic s f first cap
 | .makeMap t r=>La P s t r
 | .makeSlice t l c=>EZ P s t l c
 | .slice t x lo hi mx=>VP P s t x lo hi mx
 | .fieldAddr t x f=>F8 P s t x f
 | .field t x f=>VQ P s t x f
 | .indexAddr t x i=>F9 P s t x i
 | .index t x i=>VT P s t x i
 | .lookup t m k ok=>Ql P s t m k ok
 | .mapUpdate t m k x | .insert t m k x=>a7g P s t m k x
 | .extract t i=>Le s t i
 | .call c=>a0W P call s c o.type
 | .range _ _ | .entry _=>jq P call site s o
 | _=>none
theorem a2M (o:Oper):opF P call site s o=jq P call site s o:=by
 unfold opF jq;cases o.op<;>simp only[a0S,a0T,VL,a7d,VN,BH,a0U,VO,a7e,a7f,fUn,a0V,La,EZ,VP,F8,VQ,F9,VT,Ql,a7g,Le,a0W,AQ,VI,Am,Jf,Qj,Yt]<;>try rfl
 case makeFunc f first cap=>cases f<;>simp only[Ic,Jf]<;>rfl
def tbF (A k:Nat):Bool:=Nat.beq (Nat.mod (Nat.shiftRight A k) 2) 1
theorem a2N (A k:Nat):tbF A k=A.testBit k:=by
 unfold tbF;rw[Nat.testBit_eq_decide_div_mod_eq,show Nat.mod (Nat.shiftRight A k) 2=A/2^k%2 from by show (A >>> k)%2=_;rw[Nat.shiftRight_eq_div_pow]];rw[Bool.eq_iff_iff];simp[Nat.beq_eq]
def ab1 (W A on l:Nat):Nat:=Nat.lor l (Nat.lor (Nat.shiftLeft 1 on) (Nat.mod (Nat.shiftRight A (on*W)) (2^W)))
def RX (W A:Nat):List Edge->Nat->Nat
 | [],l=>l
 | e::es,l=>match Region.binds .any e with
  | true=>RX W A es (ab1 W A e.on l)
  | false=>RX W A es l
def VU (W:Nat):List Oper->Nat->Nat->Nat
 | [],_,A=>A
 | o::os,j,A=>VU W os (j+1) (Nat.lor A (Nat.shiftLeft (Nat.mod (RX W A o.after.toList 0) (2^W)) (j*W)))
theorem Fb {x:Nat}:∀ {xs l:List Nat},(qI xs l).contains x=(xs.contains x||l.contains x)
 | [],l=>by simp[qI]
 | y::xs,l=>by
  simp only[qI];rw[Fb];split
  ·rename_i h;by_cases e:x=y
   ·subst e;rw[h];simp
   simp[e]
  by_cases e:x=y
  ·subst e;simp
  simp[e]
def Acc (W A:Nat) (acc:List (List Nat)):Prop:=∀ j i,i<W->A.testBit (j*W+i)=(acc.getD j []).contains i
theorem Jg {W A:Nat} {acc:List (List Nat)} (h:Acc W A acc):∀ (es:List Edge) (l:Nat) (ps:List Nat),(∀ i,i<W->l.testBit i=ps.contains i)->∀ i,i<W->(RX W A es l).testBit i=(es.foldl (fun l e=>if Region.binds .any e then qI (e.on::acc.getD e.on []) l else l) ps).contains i
 | [],l,ps,hl,i,hi=>hl i hi
 | e::es,l,ps,hl,i,hi=>by
  simp only[RX,List.foldl_cons];split
  ·rename_i hb;rw[if_pos hb];refine Jg h es _ _ (fun k hk=>?_) i hi;rw[Fb,<-hl k hk,List.contains_cons,<-h e.on k hk];show (l ||| (1 <<< e.on ||| (A >>> (e.on*W))%2^W)).testBit k=_;rw[Nat.testBit_or,Nat.testBit_or,Nat.testBit_shiftLeft,Nat.testBit_mod_two_pow,Nat.testBit_shiftRight,Bool.or_comm];simp only[hk,decide_true,Bool.true_and];congr 2;by_cases e1:k=e.on
   ·subst e1;simp
   rw[show (k==e.on)=false from by simpa using e1];by_cases h2:k>=e.on
   ·obtain⟨d,hd⟩:∃ d,k-e.on=d+1:=⟨k-e.on-1,by omega⟩;rw[hd,Nat.testBit_succ];simp
   simp[h2]
  rename_i hb;rw[if_neg (by rw[hb];simp)];exact Jg h es _ _ hl i hi
theorem Qm {W:Nat}:∀ (os:List Oper) (j A:Nat) (acc:List (List Nat)),acc.length=j->Acc W A acc->Acc W (VU W os j A) (pR os acc)
 | [],_,_,_,_,h=>h
 | o::os,j,A,acc,hj,h=>by
  simp only[VU,pR];refine Qm os (j+1) _ _ (by simp[hj]) fun j' i hi=>?_;have hm:=Jg h o.after.toList 0 [] (fun i _=>by simp);show (A ||| ((RX W A o.after.toList 0%2^W) <<< (j*W))).testBit (j'*W+i)=_;rw[Nat.testBit_or,h j' i hi,Nat.testBit_shiftLeft,Nat.testBit_mod_two_pow];rcases Nat.lt_trichotomy j' j with h1 | h1 | h1
  ·have:(j'+1)*W<=j*W:=Nat.mul_le_mul_right W h1;rw[Nat.add_mul] at this;rw[show decide (j'*W+i>=j*W)=false from by simp;omega];simp only[Bool.false_and,Bool.or_false];rw[List.getD,List.getD,List.getElem?_append_left (by omega)]
  ·subst h1;rw[show j'*W+i-j'*W=i by omega,hm i hi];have e1:acc.getD j' []=[]:=by rw[List.getD,List.getElem?_eq_none (by omega)];rfl
   have e2:(acc++[mO acc o]).getD j' []=mO acc o:=by rw[List.getD,<-hj,List.getElem?_concat_length];rfl
   rw[e1,e2];simp[hi,mO]
  have:(j+1)*W<=j'*W:=Nat.mul_le_mul_right W h1;rw[Nat.add_mul] at this;rw[show decide (j'*W+i-j*W<W)=false from by simp;omega];have e1:acc.getD j' []=[]:=by rw[List.getD,List.getElem?_eq_none (by omega)];rfl
  have e2:(acc++[mO acc o]).getD j' []=[]:=by rw[List.getD,List.getElem?_eq_none (by simp;omega)];rfl
  rw[e1,e2];simp
def Qn (ops:List Oper):List (Nat×Nat):=match ops.length with
 | W=>match VU W ops 0 0 with
  | A=>(List.range W).flatMap fun j=>((List.range j).filter fun i=>!(tbF A (j*W+i))).map fun i=>(i,j)
theorem Lh (ops:List Oper):Qn ops=gQ ops:=by
 have h:=Qm (W:=ops.length) ops 0 0 [] rfl (fun j i _=>by simp);unfold Qn gQ;simp only;generalize VU ops.length ops 0 0=A at h;have:∀ j,j∈List.range ops.length->(((List.range j).filter fun i=>!(tbF A (j*ops.length+i))).map fun i=>(i,j))=((List.range j).filter fun i=>!((pR ops []).getD j []).contains i).map fun i=>(i,j):=fun j hj=>by
  rw[List.mem_range] at hj;congr 1;refine List.filter_congr fun i hi=>?_;rw[List.mem_range] at hi;rw[a2N,h j i (by omega)]
 rw[List.flatMap_def,List.flatMap_def,List.map_congr_left this]
def Dc (ops:List Oper):Bool:=
 (ops.zipIdx.all fun (o,i)=>o.after.all fun e=>!Region.binds .any e||decide (e.on<i)) &&
 (Qn ops).all fun (i,j)=>match ops[i]?,ops[j]? with
  | some a,some b=>a.apart ops.toArray b&&b.apart ops.toArray a
  | _,_=>false
def Yu (ops:List Oper):List (Nat×Nat):=
 (Qn ops).filter fun (i,j)=>match ops[i]?,ops[j]? with
  | some a,some b=>(wR a.op&&zK b.op)||(zK a.op&&wR b.op)
  | _,_=>false
theorem Oi (ops:List Oper):Dc ops=fF ops:=by unfold Dc fF;rw[Lh];rfl
theorem Yv (ops:List Oper):Yu ops=eH ops:=by unfold Yu eH;rw[Lh];rfl
abbrev Rx:=Option (Ex×St)
def Lj (dst:Option Nat) (v:EV) (env:List (Nat×EV)) (loc:List (List TV)) (heap:List HB) (ws:List Nat):St:=Option.rec (motive:=fun _=>St) ⟨env,loc,heap,ws⟩ (fun d=>⟨(d,v)::env,loc,heap,ws⟩) dst
abbrev KR:=St->List gy->Rx
abbrev IR:=St->KR->Rx
def Qo (k:KR) (i:gy):KR:=fun s is=>k s (i::is)
def ab2 (fl:Nat) (ih:IR) (o:Oper) (s:St) (k:KR) (v:EV) (i:gy) (s1:St):Rx:=St.rec (motive:=fun _=>Rx) (fun e l h _=>ih (Lj o.dst v e l h (dn fl i.ws s.ws)) (Qo k i)) s1
def rDo (P:Program) (call:ay) (site:Nat->Bool) (fl:Nat) (ih:IR) (o:Oper) (s:St) (k:KR):Rx:=Option.rec (motive:=fun _=>Rx) none (fun r=>Prod.rec (motive:=fun _=>Rx) (fun v p=>Prod.rec (motive:=fun _=>Rx) (fun s1 i=>ab2 fl ih o s k v i s1) p) r) (opF P call site s o)
def rNo (ih:IR) (o:Oper) (s:St) (k:KR):Rx:=ih (Lj o.dst .undef s.env s.loc s.heap s.ws) (Qo k aA)
def rGo (P:Program) (call:ay) (site:Nat->Bool) (fl:Nat) (ops:Array Oper) (ih:IR) (o:Oper) (s:St) (k:KR):Rx:=Option.rec (motive:=fun _=>Rx) none (fun b=>Bool.rec (motive:=fun _=>Rx) (rNo ih o s k) (rDo P call site fl ih o s k) b) (Qk ops s.env o)
def Yw (nt:Nat) (o:Oper):Bool:=Option.rec (motive:=fun _=>Bool) true (fun d=>Nat.ble (d+1) nt) o.dst
theorem Yx (nt:Nat) (o:Oper):Yw nt o=vX nt o:=by
 unfold Yw vX;cases o.dst with
 | none=>rfl
 | some d=>
  show Nat.ble (d+1) nt=decide (d<nt);rw[Bool.eq_iff_iff];simp[Nat.lt_iff_add_one_le]
def ab3 (P:Program) (call:ay) (site:Nat->Bool) (fl nt:Nat) (ops:Array Oper) (o:Oper) (ih:IR) (s:St) (k:KR):Rx:=Bool.rec (motive:=fun _=>Rx) none (rGo P call site fl ops ih o s k) (Yw nt o)
def rK (P:Program) (call:ay) (site:Nat->Bool) (fl nt:Nat) (ops:Array Oper) (os:List Oper):IR:=List.rec (motive:=fun _=>IR) (fun s k=>k s []) (fun o _ ih=>ab3 P call site fl nt ops o ih) os
def a2O (r:Option (St×List gy)) (k:KR):Rx:=match r with
 | some (s,is)=>k s is
 | none=>none
theorem a0X (P:Program) (call:ay) (site:Nat->Bool) (fl nt:Nat) (ops:Array Oper):∀ os s k,rK P call site fl nt ops os s k=a2O (dN P call site fl nt ops os s) k
 | [],_,_=>rfl
 | o::os,s,k=>by
  have ih:=a0X P call site fl nt ops os;show Bool.rec (motive:=fun _=>Rx) none (Option.rec (motive:=fun _=>Rx) none (fun b=>Bool.rec (motive:=fun _=>Rx) (rK P call site fl nt ops os (Lj o.dst .undef s.env s.loc s.heap s.ws) (Qo k aA)) (Option.rec (motive:=fun _=>Rx) none (fun r=>Prod.rec (motive:=fun _=>Rx) (fun v p=>Prod.rec (motive:=fun _=>Rx) (fun s1 i=>St.rec (motive:=fun _=>Rx) (fun e l h _=>rK P call site fl nt ops os (Lj o.dst v e l h (dn fl i.ws s.ws)) (Qo k i)) s1) p) r) (opF P call site s o)) b) (Qk ops s.env o)) (Yw nt o)=_;rw[Yx,VK,a2M];unfold dN;cases vX nt o with
  | false=>rfl
  | true=>
   cases rM ops s.env o with
   | none=>rfl
   | some b=>
    cases b with
    | false=>
     show rK _ _ _ _ _ _ _ _ _=a2O (match dN P call site fl nt ops os (s.put o.dst .undef) with | some (s,is)=>some (s,aA::is) | none=>none) k;rw[ih,show Lj o.dst .undef s.env s.loc s.heap s.ws=s.put o.dst .undef by unfold Lj St.put;cases o.dst<;>rfl];cases dN P call site fl nt ops os (s.put o.dst .undef)<;>rfl
    | true=>
     cases jq P call site s o with
     | none=>rfl
     | some r=>
      obtain⟨v,s1,i⟩:=r;show rK _ _ _ _ _ _ _ _ _=a2O (match dN P call site fl nt ops os ({ s1 with ws:=dn fl i.ws s.ws }.put o.dst v) with | some (s,is)=>some (s,i::is) | none=>none) k;rw[ih,show Lj o.dst v s1.env s1.loc s1.heap (dn fl i.ws s.ws)={ s1 with ws:=dn fl i.ws s.ws }.put o.dst v by unfold Lj St.put;cases o.dst<;>rfl];cases dN P call site fl nt ops os ({ s1 with ws:=dn fl i.ws s.ws }.put o.dst v)<;>rfl
abbrev KX:=Ex->St->Rx
abbrev IX:=St->KX->Rx
def Yy (r:Rx) (k:KX):Rx:=match r with
 | some (e,s)=>k e s
 | none=>none
def ab4 (ib:IX) (k:KX):KX:=fun e s=>Ex.rec (motive:=fun _=>Rx) (ib s k) (fun i=>k (.exit i) s) (k .ret s) e
def ab5 (id:Nat) (k:KX):KX:=fun e s=>Ex.rec (motive:=fun _=>Rx) (k .norm s) (fun i=>Bool.rec (motive:=fun _=>Rx) (k (.exit i) s) (k .norm s) (Nat.beq i id)) (k .ret s) e
def ab6 (T:iF) (f id:Nat) (ops:Array Oper) (draw:Bool) (k:KX):KR:=fun s is=>Bool.rec (motive:=fun _=>Rx) none (k .norm ⟨Ib (T.fO f id) s.env,s.loc,s.heap,s.ws⟩) (!draw||(Dc ops.toList&&lN is (Yu ops.toList)))
def Qp (P:Program) (T:iF) (call:ay) (f:Nat) (eu:Bool) (fl nt id:Nat) (ops:Array Oper) (draw:Bool):IX:=fun s k=>rK P call (fun d=>eu||T.zL f d) fl nt ops ops.toList s (ab6 T f id ops draw k)
def a0Y (c:Operand) (ia ib:IX):IX:=fun s k=>match Ak s.env c with
 | some (.bool b)=>Bool.rec (motive:=fun _=>Rx) (ib s k) (ia s k) b
 | _=>none
def a0Z (ih:IX) (k:KX):KX:=fun e s=>Ex.rec (motive:=fun _=>Rx) (ih s k) (fun i=>k (.exit i) s) (k .ret s) e
def VW (T:iF) (L f:Nat) (b:Code) (ib:IX):IX:=Nat.rec (motive:=fun _=>IX) (fun _ _=>none) (fun _ ih s k=>ib (D9 (T.dG f (bZ b)) s) (a0Z ih k)) L
def VX (call:ay) (f:Nat) (eu:Bool) (fl nt:Nat) (g:Operand) (ps:Array Nat) (assign body:Code):IX:=fun s k=>Yy (match Ak s.env g with
  | some (.fn f1 a1 b1)=>
   if s.env.all isVal&&!eu then
    match call (.fn f1 a1 b1) [.jk (s.heap.length+1)] (s.heap++[.mark,.loop true f nt s.env ps.toList assign body none]) with
    | some (_,h,ws)=>match h[s.heap.length+1]? with
     | some (.loop rd f2 Dn e2 rY a2 b2 gK)=>match Dl rd gK with
      | some e=>some (e,{ s with heap:=h.set (s.heap.length+1) (.loop false f2 Dn e2 rY a2 b2 (some .skip)),ws:=dn fl (ws.map .h) s.ws })
      | none=>none
     | _=>none
    | none=>none
   else none
  | _=>none) k
def a7h:IX:=fun _ _=>none
def kD (P:Program) (T:iF) (call:ay) (L:Nat) (f:Nat) (eu:Bool) (fl nt:Nat):Code->IX
 | .skip=>fun s k=>k .norm s
 | .label _=>fun s k=>k .norm s
 | .region id ops draw=>Qp P T call f eu fl nt id ops draw
 | .seq a b=>fun s k=>kD P T call L f eu fl nt a s (ab4 (kD P T call L f eu fl nt b) k)
 | .cond c a b=>a0Y c (kD P T call L f eu fl nt a) (kD P T call L f eu fl nt b)
 | .block id b=>fun s k=>kD P T call L f eu fl nt b s (ab5 id k)
 | .scope b=>kD P T call L f eu fl nt b
 | .loop b=>VW T L f b (kD P T call L f eu fl nt b)
 | .exit id=>fun s k=>k (.exit id) s
 | .ret=>fun s k=>k .ret s
 | .rangeFunc g ps assign body=>VX call f eu fl nt g ps assign body
 | _=>a7h
theorem VY (P:Program) (T:iF) (call:ay) (L:Nat) (f:Nat) (eu:Bool) (fl nt:Nat):∀ c s k,kD P T call L f eu fl nt c s k=Yy (exec P T call L f eu fl nt c s) k:=by
 intro c
 induction c with
 | seq a b ia ib=>
  intro s k;simp only[kD,exec,ia];cases exec P T call L f eu fl nt a s with
  | none=>rfl
  | some r=>
   obtain⟨e,s1⟩:=r;cases e with
   | norm=>exact ib s1 k
   | exit i=>rfl
   | ret=>rfl
 | cond x a b ia ib=>
  intro s k;simp only[kD,exec,a0Y,Am];cases lJ s.env x with
  | none=>rfl
  | some v=>
   cases v with
   | bool t=>
    cases t with
    | false=>exact ib s k
    | true=>exact ia s k
   | _=>rfl
 | block id b ib=>
  intro s k;simp only[kD,exec,ib];cases exec P T call L f eu fl nt b s with
  | none=>rfl
  | some r=>
   obtain⟨e,s1⟩:=r;cases e with
   | norm=>rfl
   | exit i=>
    show Bool.rec (motive:=fun _=>Rx) (k (.exit i) s1) (k .norm s1) (Nat.beq i id)=k (if i=id then .norm else .exit i) s1;by_cases h:i=id
    ·subst h;rw[if_pos rfl,show Nat.beq i i=true from Nat.beq_refl i]
    rw[if_neg h,show Nat.beq i id=false from by cases e:Nat.beq i id with | false=>rfl | true=>exact absurd (Nat.eq_of_beq_eq_true e) h]
   | ret=>rfl
 | scope b ib=>intro s k;simp only[kD,exec,ib]
 | loop b ib=>
  intro s k;simp only[kD,exec];have key:∀ n s,VW T n f b (kD P T call L f eu fl nt b) s k=Yy (iter (fun s=>exec P T call L f eu fl nt b (dO (T.dG f (bZ b)) s)) n s) k:=by
   intro n
   induction n with
   | zero=>intro s;rfl
   | succ n ih=>
    intro s;show kD P T call L f eu fl nt b (D9 (T.dG f (bZ b)) s) (a0Z (VW T n f b (kD P T call L f eu fl nt b)) k)=_;rw[ib,Oh];simp only[iter];cases exec P T call L f eu fl nt b (dO (T.dG f (bZ b)) s) with
    | none=>rfl
    | some r=>
     obtain⟨e,s1⟩:=r;cases e with
     | norm=>exact ih s1
     | exit i=>rfl
     | ret=>rfl
  exact key L s
 | region id ops draw=>
  intro s k;simp only[kD,exec,Qp,a0X];cases dN P call (fun d=>eu||T.zL f d) fl nt ops ops.toList s with
  | none=>rfl
  | some r=>
   obtain⟨s1,is⟩:=r;show Bool.rec (motive:=fun _=>Rx) none (k .norm ⟨Ib (T.fO f id) s1.env,s1.loc,s1.heap,s1.ws⟩) (!draw||(Dc ops.toList&&lN is (Yu ops.toList)))=Yy (if (!draw||(fF ops.toList&&lN is (eH ops.toList)))=true then some (.norm,{ s1 with env:=pick (T.fO f id) s1.env }) else none) k;rw[EY,Oi,Yv];cases (!draw||(fF ops.toList&&lN is (eH ops.toList)))<;>rfl
 | rangeFunc g ps a b _ _=>intro s k;simp only[kD,exec,VX,Am]<;>rfl
 | _=>intro s k;rfl
def rU (P:Program) (T:iF) (call:ay) (L:Nat) (f:Nat) (eu:Bool) (fl nt:Nat) (c:Code) (s:St):Rx:=kD P T call L f eu fl nt c s fun e s=>some (e,s)
theorem zk (P:Program) (T:iF) (call:ay) (L:Nat) (f:Nat) (eu:Bool) (fl nt:Nat) (c:Code) (s:St):rU P T call L f eu fl nt c s=exec P T call L f eu fl nt c s:=by
 unfold rU;rw[VY];cases exec P T call L f eu fl nt c s<;>rfl
def RY (P:Program) (T:iF) (call:ay) (L:Nat) (f:Nat) (args:List TV) (h:List HB):Option (TV×List HB×List Nat):=
 match FU P f with
 | some t=>match rU P T call L f false h.length t.nt t.body ⟨gu 0 args,[],h,[]⟩ with
  | some (.norm,s) | some (.ret,s)=>match l9 P s t.results with
   | some vs=>if s.ws.isEmpty&&(one vs).flat then some (one vs,h,[]) else some (one vs,s.heap,s.ws)
   | none=>none
  | _=>none
 | none=>none
theorem Yz:RY=SX:=by
 funext P T call L f args h
 simp only[RY,SX,zk];rfl
def Oj (P:Program) (T:iF) (call:ay) (L:Nat) (l:Nat) (args:List TV) (h:List HB):Option (TV×List HB×List Nat):=
 match h[l]? with
 | some (.loop true f nt env ps assign body _)=>
  if args.length=ps.length∧ps.all (fun p=>decide (p<nt)) then
   match rU P T call L f true h.length nt assign ⟨qJ env ps args,[],h,[]⟩ with
   | some (.norm,s)=>match s.heap[l]? with
    | some (.loop true f' WQ env' WR a' b' _)=>
     match rU P T call L f true h.length nt body { s with heap:=s.heap.set l (.loop false f' WQ env' WR a' b' none),ws:=xM h.length l s.ws } with
     | some (e,s)=>match s.heap[l]? with
      | some (.loop false f' WQ env' WR a' b' none)=>some (.bool (kJ e),s.heap.set l (.loop (kJ e) f' WQ env' WR a' b' (mP e)),xM h.length l s.ws)
      | _=>none
     | none=>none
    | _=>none
   | _=>none
  else none
 | _=>none
theorem RZ:Oj=zM:=by
 funext P T call L l args h
 simp only[Oj,zM,zk];rfl
def jA (P:Program) (T:iF) (L:Nat):Nat->ay
 | 0,_,_,_=>none
 | n+1,.fn f first cap,args,h=>if T.exts.contains f=true then T.ext (.fn f first cap) args h else gcR h (RY P T (jA P T L n) L f (first++args++cap) h)
 | n+1,.jk l,args,h=>Oj P T (jA P T L n) L l args h
 | _,_,_,_=>none
theorem dF {P:Program} {T:iF} {L:Nat} (hm:P.follows .mixedOrders=true) (hE:aj P T.ext):∀ n,aj P (jA P T L n)
 | 0=>by
  intro fv args h v h' ws hc;simp[jA] at hc
 | n+1=>by
  intro fv args h v h' ws hc M w x xs hV hl hx yj;have ih:=dF (L:=L) hm hE n;cases fv with
  | fn f first cap=>
   simp only[jA,Yz] at hc;split at hc
   ·exact hE _ _ _ _ _ _ hc M w x xs hV hl hx yj
   cases hx with
   | fn h1 h2 h3 h4=>
    rename_i ys zs;have wz:aH M.h (first++args++cap) (ys++xs++zs):=(aH.append ⟨h1,h2⟩ yj).append ⟨h3,h4⟩;obtain⟨v0,h0,ws0,hc,hgc⟩:=a1y (P:=P) hV hl hc;obtain⟨fn,c,e1,e2,e3,e4⟩:=E8 hm ih hc ⟨hV,hl⟩ wz;refine⟨{ target:=.fn (.func f) zs.toArray,args:=ys.toArray++xs.toArray },fun w=>by simp[Deferred.ofValue],.inl ⟨⟨f,(ys++xs++zs).toArray,?_,fun n=>(e4 n).mono fun e w' hR=>by cases e with | returned v=>exact hgc _ _ hR | panicked c=>exact hR.elim | outgrown=>exact hR.elim⟩,f,first,cap,rfl⟩⟩;have OI : ¬ fn.name = "runtime.NumGoroutine" := (by simpa using e2);simp[invoke,callFunc,program,Sem.run,e1,OI,e3]
  | jk l=>
   simp only[jA,RZ] at hc;cases hx with
   | jk MQ=>
    rename_i l' _;refine⟨{ target:=.fn (.yield l') #[],args:=xs.toArray },fun w=>by simp[Deferred.ofValue],.inr ⟨Ef hm ih hc ⟨hV,hl⟩ MQ yj,l,rfl⟩⟩
  | _=>simp[jA] at hc
def Fe (P:Program) (T:iF) (call:ay) (L:Nat) (f nt:Nat):Nat->Code->St->Option St
 | 0,_,s=>some s
 | m+1,.seq a b,s=>match rU P T call L f false 0 nt a s with
  | some (.norm,s)=>Fe P T call L f nt m b s
  | _=>none
 | _,_,_=>none
def sH:Nat->Code->Code
 | 0,c=>c
 | m+1,.seq _ b=>sH m b
 | _,c=>c
theorem oK {P:Program} {T:iF} {call:ay} {L f nt:Nat} {r:Option (Ex×St)}:∀ {m:Nat} {c:Code} {s s1:St},Fe P T call L f nt m c s=some s1->rU P T call L f false 0 nt (sH m c) s1=r->rU P T call L f false 0 nt c s=r
 | 0,c,s,s1,h,h2=>by cases h;exact h2
 | m+1,.seq a b,s,s1,h,h2=>by
  simp only[Fe] at h;split at h
  ·rename_i s2 e;rw[zk] at e h2 ⊢;simp only[exec,e];rw[<-zk] at h2 ⊢;exact oK h h2
  cases h
 | _+1,.skip,_,_,h,_ | _+1,.region _ _ _,_,_,h,_ | _+1,.cond _ _ _,_,_,h,_ | _+1,.block _ _,_,_,h,_ | _+1,.loop _,_,_,h,_ | _+1,.exit _,_,_,h,_ | _+1,.ret,_,_,h,_ | _+1,.scope _,_,_,h,_ | _+1,.label _,_,_,h,_ | _+1,.rangeFunc _ _ _ _,_,_,h,_=>by simp[Fe] at h
def VZ (P:Program) (f:Nat):Code:=match FU P f with
 | some t=>t.body
 | none=>.skip
def W9 (P:Program) (f:Nat):Nat:=match FU P f with
 | some t=>t.nt
 | none=>0
def a2P (P:Program) (f:Nat):Option (Ex×St)->Bool
 | some (.ret,s)=>match FU P f with
  | some t=>match l9 P s t.results,s.ws with
   | some [.bool true],[]=>true
   | _,_=>false
  | none=>false
 | _=>false
theorem YM {P:Program} {T:iF} {call:ay} {L f:Nat} {r:Option (Ex×St)} (h:rU P T call L f false 0 (W9 P f) (VZ P f) ⟨[],[],[],[]⟩=r) (h2:a2P P f r=true):isT (RY P T call L f [] [])=true:=by
 unfold a2P at h2;split at h2
 ·rename_i s;split at h2
  ·rename_i t ht;split at h2
   ·rename_i hr hw;unfold W9 VZ at h;rw[ht] at h;have h:rU P T call L f false ([]:List HB).length t.nt t.body ⟨gu 0 [],[],[],[]⟩=some (.ret,s):=h;unfold RY;simp only[ht,h,hr,hw];rfl
   cases h2
  cases h2
 cases h2
open Go.ChangeShapes Go.WideShapes Go.RowKit
end
end
end Tw
namespace Go.Proofs.YtjkgcifieggcpaaGreat
open Go Tw Pv gq
def T00:Tw.iF:={ Tb with exts:=[],ext:=fun _ _ _=>none,Lm:=[97,113] }
theorem YN:aj Tryz.prog (fun _ _ _=>none):=fun fv args h v h' ws hc=>by cases hc
noncomputable abbrev Ap0 (n:Nat):ay:=Bd Tryz.prog T00 LL n
abbrev tG:List (PV bM):=[.own 2,.own 2,.own 2,.own 2,.own 2,.own 2,.own 2,.own 2,.map 0]
noncomputable abbrev Hg (m:List Pc):List (PB bM):=[.vV (D8 m),.fG tG,.gone]
theorem zl {n:Nat}:lC X0 Tryz.prog (Ap0 n) NY:=fun _ _ _ _ _ h _=>by cases h
theorem Ll {n:Nat} (a b:Int):qH X0 Tryz.prog (Ap0 (n+1)) (.fn 133 [] []) [.int .u64 a,.int .u64 b] [] (.bool (L8 a b==0)) []:=
 a2w hX zl (first:=[]) (cap:=[]) (by kernel_rfl) .er
section
variable {n:Nat} (m:List Pc) (a:Int)
set_option maxRecDepth 20000 in
theorem a7i (hm:m.length<LL) {A:Nat->Prop} {mm:List MB} {h:List HB} {nI:List TV} (hr:HR X0 Tryz.prog A mm (Hg m) h) (yj:aH X0 Tryz.prog (AA A mm) mm h [.ptr 1 0 9,.int .u64 a] nI):Ap0 (n+2) (.fn 97 [] []) nI h=some (.bool (uw m a),h,[]):=by
 refine Qi (X:=X0) (P:=Tryz.prog) (T:=T00) (L:=LL) (n:=n+1) (f:=97) (xs:=[.ptr 1 0 9,.int .u64 a]) (H:=Hg m) (v:=.bool (uw m a)) (t:=fnP Tryz.prog 97) (tv:=.bool (uw m a)) hX (by kernel_rfl) (by kernel_rfl) (by kernel_rfl) (by kernel_rfl) (by kernel_rfl) ?_ hr yj;refine I9 (kX:=NY) (r0:=cR0 bdC) (r1:=cR1 bdC) (x:=cX bdC) (r6:=cR6 bdC) (ops:=a7a (Gg (cLb bdC))) (draw:=false) (i0:=0) (i1:=1) (id:=2) (it:=10) (nx:=11) (mo:=12) (b:=3) (r:=0) (n:=(D8 m).length) (es:=D8 m) (bad:=fun j=>bC a (m.getD j Aj))
  (s1:=⟨[(0,.val (.ptr 1 0 9)),(1,.val (.int .u64 a))],[],Hg m⟩) (sI:=⟨[(1,.val (.int .u64 a)),(10,.val (.iter 3))],[],Hg m++[.bn 0 (D8 m).length []]⟩)
  (sR:=fun seen=>⟨[(1,.val (.int .u64 a)),(10,.val (.iter 3))],[],Hg m++[.bn 0 (D8 m).length seen]⟩)
  (sX:=fun j e seen=>⟨[(1,.val (.int .u64 a)),(10,.val (.iter 3)),(18,.val (.lit false))],[(m.getD j Aj).ps],Hg m++[.bn 0 (D8 m).length seen]⟩)
  (sE:=fun seen=>⟨[(4,.val (.lit true))],[],Hg m++[.bn 0 (D8 m).length seen]⟩)
  (sB:=fun j e seen=>⟨[(4,.val (.lit false))],[(m.getD j Aj).ps],Hg m++[.bn 0 (D8 m).length seen]⟩)
  hX zl (by kernel_rfl) (by kernel_rfl) (by kernel_rfl) (by kernel_rfl) (by kernel_rfl) ?_ ?_ (by kernel_rfl) (fun j e seen=>by kernel_rfl) (by kernel_rfl) (of_decide_eq_true (by kernel_rfl)) (of_decide_eq_true (by kernel_rfl)) (fun seen=>by kernel_rfl) (fun seen=>by kernel_rfl) (fun seen=>by kernel_rfl) rfl (by rw[xI];exact hm) (fun seen=>by kernel_rfl) (fun seen e=>by kernel_rfl) (fun seen=>?_) (fun j e seen he=>?_) (fun j e seen hj hb=>?_) (fun hb seen=>?_)
 ·exact SN hX zl (an:=.n) (by kernel_rfl) (.r rfl)
 ·exact SN hX zl (an:=.n) (by kernel_rfl) (.r rfl)
 ·exact SN hX zl (an:=.n) (by kernel_rfl) (.r rfl)
 ·have ho:=he;obtain rfl:=Og he;have ho:(D8 m).length=(D8 m).length∧(D8 m)[j]? = some (.agg (m.getD j Aj).ps,.bool true):=⟨rfl,ho⟩;exact⟨fun hb=>SN hX zl (by kernel_rfl) (.c (.bH [.agg (m.getD j Aj).ps,.bool true]) [] ho (.fr [] (Ll (n:=n) a (m.getD j Aj).facts) (.b hb (.r rfl)))),fun hb=>SN hX zl (by kernel_rfl) (.c (.bH [.agg (m.getD j Aj).ps,.bool true]) [] ho (.fr [] (Ll (n:=n) a (m.getD j Aj).facts) (.b hb (.r rfl))))⟩
 ·have e2:uw m a=false:=by unfold uw;rw[zf.2 ⟨j,by rw[xI] at hj;exact hj,hb⟩];rfl
  rw[e2];exact⟨.inr rfl,[.bool false],by kernel_rfl,rfl⟩
 have e2:uw m a=true:=by
  unfold uw;cases h:m.any (bC a)
  ·rfl
  obtain⟨j,hj,hc⟩:=zf.1 h;rw[hb j (by rw[xI];exact hj)] at hc;cases hc
 rw[e2];exact⟨.inr rfl,[.bool true],by kernel_rfl,rfl⟩
set_option maxRecDepth 20000 in
theorem a7j (hm:m.length<LL) {A:Nat->Prop} {mm:List MB} {h:List HB} {nI:List TV} (hr:HR X0 Tryz.prog A mm (Hg m) h) (yj:aH X0 Tryz.prog (AA A mm) mm h [.ptr 1 0 9,.int .u64 a] nI):Ap0 (n+2) (.fn 113 [] []) nI h=some (.bool (uy m a),h,[]):=by
 refine Qi (X:=X0) (P:=Tryz.prog) (T:=T00) (L:=LL) (n:=n+1) (f:=113) (xs:=[.ptr 1 0 9,.int .u64 a]) (H:=Hg m) (v:=.bool (uy m a)) (t:=fnP Tryz.prog 113) (tv:=.bool (uy m a)) hX (by kernel_rfl) (by kernel_rfl) (by kernel_rfl) (by kernel_rfl) (by kernel_rfl) ?_ hr yj;refine I9 (kX:=NY) (r0:=cR0 bdE) (r1:=cR1 bdE) (x:=cX bdE) (r6:=cR6 bdE) (ops:=a7a (Gg (cLb bdE))) (draw:=false) (i0:=0) (i1:=1) (id:=2) (it:=10) (nx:=11) (mo:=12) (b:=3) (r:=0) (n:=(D8 m).length) (es:=D8 m) (bad:=fun j=>bE a (m.getD j Aj))
  (s1:=⟨[(0,.val (.ptr 1 0 9)),(1,.val (.int .u64 a))],[],Hg m⟩) (sI:=⟨[(1,.val (.int .u64 a)),(10,.val (.iter 3))],[],Hg m++[.bn 0 (D8 m).length []]⟩)
  (sR:=fun seen=>⟨[(1,.val (.int .u64 a)),(10,.val (.iter 3))],[],Hg m++[.bn 0 (D8 m).length seen]⟩)
  (sX:=fun j e seen=>⟨[(1,.val (.int .u64 a)),(10,.val (.iter 3)),(23,.val (.lit false))],[(m.getD j Aj).ps],Hg m++[.bn 0 (D8 m).length seen]⟩)
  (sE:=fun seen=>⟨[(4,.val (.lit true))],[],Hg m++[.bn 0 (D8 m).length seen]⟩)
  (sB:=fun j e seen=>⟨[(4,.val (.lit false))],[(m.getD j Aj).ps],Hg m++[.bn 0 (D8 m).length seen]⟩)
  hX zl (by kernel_rfl) (by kernel_rfl) (by kernel_rfl) (by kernel_rfl) (by kernel_rfl) ?_ ?_ (by kernel_rfl) (fun j e seen=>by kernel_rfl) (by kernel_rfl) (of_decide_eq_true (by kernel_rfl)) (of_decide_eq_true (by kernel_rfl)) (fun seen=>by kernel_rfl) (fun seen=>by kernel_rfl) (fun seen=>by kernel_rfl) rfl (by rw[xI];exact hm) (fun seen=>by kernel_rfl) (fun seen e=>by kernel_rfl) (fun seen=>?_) (fun j e seen he=>?_) (fun j e seen hj hb=>?_) (fun hb seen=>?_)
 ·exact SN hX zl (an:=.n) (by kernel_rfl) (.r rfl)
 ·exact SN hX zl (an:=.n) (by kernel_rfl) (.r rfl)
 ·exact SN hX zl (an:=.n) (by kernel_rfl) (.r rfl)
 ·have ho:=he;obtain rfl:=Og he;have ho:(D8 m).length=(D8 m).length∧(D8 m)[j]? = some (.agg (m.getD j Aj).ps,.bool true):=⟨rfl,ho⟩;refine⟨fun hb=>?_,fun hb=>?_⟩
  ·unfold bE at hb;have h1:(L8 a (m.getD j Aj).facts==0)=true:=by revert hb;cases (L8 a (m.getD j Aj).facts==0)<;>simp
   have h2:(!(m.getD j Aj).goal)=true:=by rw[h1] at hb;simpa using hb
   exact SN hX zl (by kernel_rfl) (.c (.bH [.agg (m.getD j Aj).ps,.bool true]) [] ho (.fr [] (Ll (n:=n) a (m.getD j Aj).facts) (.b h1 (.b h2 (.r rfl)))))
  unfold bE at hb;cases h1:(L8 a (m.getD j Aj).facts==0)
  ·exact SN hX zl (by kernel_rfl) (.c (.bH [.agg (m.getD j Aj).ps,.bool true]) [] ho (.fr [] (Ll (n:=n) a (m.getD j Aj).facts) (.b h1 (.r rfl))))
  have h2:(!(m.getD j Aj).goal)=false:=by rw[h1] at hb;simpa using hb
  exact SN hX zl (by kernel_rfl) (.c (.bH [.agg (m.getD j Aj).ps,.bool true]) [] ho (.fr [] (Ll (n:=n) a (m.getD j Aj).facts) (.b h1 (.b h2 (.r rfl)))))
 ·have e2:uy m a=false:=by unfold uy;rw[zf.2 ⟨j,by rw[xI] at hj;exact hj,hb⟩];rfl
  rw[e2];exact⟨.inr rfl,[.bool false],by kernel_rfl,rfl⟩
 have e2:uy m a=true:=by
  unfold uy;cases h:m.any (bE a)
  ·rfl
  obtain⟨j,hj,hc⟩:=zf.1 h;rw[hb j (by rw[xI];exact hj)] at hc;cases hc
 rw[e2];exact⟨.inr rfl,[.bool true],by kernel_rfl,rfl⟩
end
open Go Tw Pv gq
def pcD:List (TV×TV)->Option (List Pc)
 | []=>some []
 | (.agg [.int .u64 a,.bool b],.bool true)::r=>(pcD r).map (⟨a,b⟩::·)
 | _=>none
def trD (h:List HB) (b:Nat):Option (List Pc):=match h[b]? with
 | some (.cells .own [c0,c1,c2,c3,c4,c5,c6,c7,.map r])=>if (bW c0&&bW c1&&bW c2&&bW c3&&bW c4&&bW c5&&bW c6&&bW c7)=true then (match h[r]? with
  | some (.map es)=>pcD es
  | _=>none) else none
 | _=>none
def quT:ay:=fun fv args h=>match fv,args with
 | .fn f [] [],[.ptr b 0 9,.int .u64 a]=>match trD h b with
  | some l=>if l.length<LL then (if f=97 then some (.bool (uw l a),h,[]) else if f=113 then some (.bool (uy l a),h,[]) else none) else none
  | none=>none
 | _,_=>none
theorem Qq:∀ {es:List (TV×TV)} {l:List Pc},pcD es=some l->es=l.map fun p=>(.agg [.int .u64 p.facts,.bool p.goal],.bool true)
 | [],l,h=>by cases h;rfl
 | e::r,l,h=>by
  unfold pcD at h;split at h
  ·rename_i h1;cases h1
  ·rename_i a b r' h1;cases h1;obtain⟨l',e1,rfl⟩:=Option.map_eq_some_iff.1 h;rw[Qq e1];rfl
  cases h
theorem a2Q {h:List HB} {b:Nat} {l:List Pc} (e:trD h b=some l):∃ mm:List MB,HR X0 Tryz.prog (fun _=>True) mm (Hg l) h∧∀ a:Int,aH X0 Tryz.prog (AA (fun _=>True) mm) mm h [.ptr 1 0 9,.int .u64 a] [.ptr b 0 9,.int .u64 a]:=by
 unfold trD at e;split at e
 rotate_left
 ·cases e
 rename_i c0 c1 c2 c3 c4 c5 c6 c7 r e1;split at e
 rotate_left
 ·cases e
 rename_i ho;simp only[Bool.and_eq_true] at ho;obtain⟨⟨⟨⟨⟨⟨⟨o0,o1⟩,o2⟩,o3⟩,o4⟩,o5⟩,o6⟩,o7⟩:=ho;split at e
 rotate_left
 ·cases e
 rename_i es e2;have Gz:=Qq e;have mD:aK [MB.cZ r,.cZ b,.gone]=[]:=rfl;have hb:∀ x,x∉aK [MB.cZ r,.cZ b,.gone]:=fun x hx=>by rw[mD] at hx;cases hx
 have gn:∀ {x:TV},bW x=true->VR X0 Tryz.prog (AA (fun _=>True) [MB.cZ r,.cZ b,.gone]) [MB.cZ r,.cZ b,.gone] h (.own 2) x:=fun hx=>.gone rfl (.of rfl) hx;refine⟨[.cZ r,.cZ b,.gone],⟨rfl,fun i pb hi=>?_,by rw[mD];exact List.nodup_nil,fun _ _=>trivial,fun _ _=>trivial⟩,fun a=>.cons (.gone rfl (.X4 (c:=b) rfl rfl) rfl) (.cons (.int ..) .nil)⟩
 match i,hi with
 | 0,hi=>
  cases hi;refine⟨.cZ r,rfl,hb r,es,e2,?_,fun i x y hx hy=>?_⟩
  ·rw[Gz];exact (xI (m:=l)).trans (List.length_map ..).symm
  have:=Og hx;subst this;rw[Gz,List.getElem?_map] at hy;cases h2:l[i]? with
  | none=>rw[h2] at hy;cases hy
  | some p=>
   rw[h2] at hy;cases hy;rw[List.getD_eq_getElem?_getD,h2];exact⟨rfl,rfl⟩
 | 1,hi=>
  cases hi;exact⟨.cZ b,rfl,hb b,_,e1,.cons (gn o0) (.cons (gn o1) (.cons (gn o2) (.cons (gn o3) (.cons (gn o4) (.cons (gn o5) (.cons (gn o6) (.cons (gn o7) (.cons (.gone rfl (.X4 (c:=r) rfl rfl) rfl) .nil))))))))⟩
 | 2,hi=>cases hi;exact⟨.gone,rfl,trivial⟩
 | i+3,hi=>cases hi
theorem a2R (hm:Tryz.prog.follows .mixedOrders=true):aj Tryz.prog quT:=by
 intro fv args h v h' ws hc;refine Un (T:=T00) (L:=LL) hm YN 2 fv args h v h' ws ?_;unfold quT at hc;split at hc
 rotate_left
 ·cases hc
 rename_i f b a;split at hc
 ·rename_i l e;split at hc
  ·rename_i hl;obtain⟨mm,hr,hx⟩:=a2Q e;split at hc
   ·rename_i hf;subst hf;cases hc;exact a7i (n:=0) l a hl hr (hx a)
   split at hc
   ·rename_i hf;subst hf;cases hc;exact a7j (n:=0) l a hl hr (hx a)
   cases hc
  cases hc
 cases hc
def zn:ay:=fun f xs h=>(quT f xs h).orElse fun _=>Vj RJ 104 f xs h
def T0:Tw.iF:={ Tb with exts:=[97,104,113],ext:=zn }
theorem bI (hm:Tryz.prog.follows .mixedOrders=true):aj Tryz.prog zn:=by
 unfold zn;rw[Yf];exact aj.or (a2R hm) (Vl a5Z)
end Go.Proofs.YtjkgcifieggcpaaGreat
namespace Tw
open Go
def G9:TV->TV->Bool
 | .bool a,.bool b=>a==b
 | .int k n,.int k' n'=>decide (k=k')&&decide (n=n')
 | .str s,.str s'=>decide (s.data.toList=s'.data.toList)
 | .nil k,.nil k'=>decide (k=k')
 | .ptr a b c,.ptr a' b' c'=>Nat.beq a a'&&Nat.beq b b'&&Nat.beq c c'
 | .slc a b c d e f,.slc a' b' c' d' e' f'=>Nat.beq a a'&&Nat.beq b b'&&Nat.beq c c'&&Nat.beq d d'&&Nat.beq e e'&&f==f'
 | .map r,.map r'=>Nat.beq r r'
 | .fn f a c,.fn f' a' c'=>Nat.beq f f'&&Jh a a'&&Jh c c'
 | .jk l,.jk l'=>Nat.beq l l'
 | .agg cs,.agg cs'=>Jh cs cs'
 | .bH cs,.bH cs'=>Jh cs cs'
 | .iter b,.iter b'=>Nat.beq b b'
 | _,_=>false
where
 Jh:List TV->List TV->Bool
 | [],[]=>true
 | x::xs,y::ys=>G9 x y&&Jh xs ys
 | _,_=>false
mutual
theorem Ol:∀ {a b:TV},G9 a b=true->a=b
 | .bool a,.bool b,h=>by simp only[G9,beq_iff_eq] at h;rw[h]
 | .int k n,.int k' n',h=>by simp only[G9,Bool.and_eq_true,decide_eq_true_eq] at h;rw[h.1,h.2]
 | .str s,.str s',h=>by
  simp only[G9,decide_eq_true_eq] at h;obtain⟨⟨x⟩⟩:=s;obtain⟨⟨y⟩⟩:=s';simp at h;rw[h]
 | .nil k,.nil k',h=>by simp only[G9,decide_eq_true_eq] at h;rw[h]
 | .ptr a b c,.ptr a' b' c',h=>by simp only[G9,Bool.and_eq_true,Nat.beq_eq] at h;rw[h.1.1,h.1.2,h.2]
 | .slc a b c d e f,.slc a' b' c' d' e' f',h=>by simp only[G9,Bool.and_eq_true,Nat.beq_eq,beq_iff_eq] at h;obtain⟨⟨⟨⟨⟨rfl,rfl⟩,rfl⟩,rfl⟩,rfl⟩,rfl⟩:=h;rfl
 | .map r,.map r',h=>by simp only[G9,Nat.beq_eq] at h;rw[h]
 | .fn f a c,.fn f' a' c',h=>by simp only[G9,Bool.and_eq_true,Nat.beq_eq] at h;rw[h.1.1,rJ h.1.2,rJ h.2]
 | .jk l,.jk l',h=>by simp only[G9,Nat.beq_eq] at h;rw[h]
 | .agg cs,.agg cs',h=>by simp only[G9] at h;rw[rJ h]
 | .bH cs,.bH cs',h=>by simp only[G9] at h;rw[rJ h]
 | .iter b,.iter b',h=>by simp only[G9,Nat.beq_eq] at h;rw[h]
theorem rJ:∀ {a b:List TV},G9.Jh a b=true->a=b
 | [],[],_=>rfl
 | x::xs,y::ys,h=>by simp only[G9.Jh,Bool.and_eq_true] at h;rw[Ol h.1,rJ h.2]
 | [],_::_,h=>by cases h
 | _::_,[],h=>by cases h
end
def eqE:List (TV×TV)->List (TV×TV)->Bool
 | [],[]=>true
 | x::xs,y::ys=>G9 x.1 y.1&&G9 x.2 y.2&&eqE xs ys
 | _,_=>false
theorem Wh:∀ {a b:List (TV×TV)},eqE a b=true->a=b
 | [],[],_=>rfl
 | (a,b)::xs,(c,d)::ys,h=>by
  simp only[eqE,Bool.and_eq_true] at h;rw[Wh h.2,Ol h.1.1,Ol h.1.2]
 | [],_::_,h=>by cases h
 | _::_,[],h=>by cases h
def eqB:HB->HB->Bool
 | .cells k cs,.cells k' cs'=>decide (k=k')&&G9.Jh cs cs'
 | .map es,.map fU=>eqE es fU
 | .mark,.mark=>true
 | _,_=>false
theorem a2S:∀ {a b:HB},eqB a b=true->a=b
 | .cells k cs,.cells k' cs',h=>by simp only[eqB,Bool.and_eq_true,decide_eq_true_eq] at h;rw[h.1,rJ h.2]
 | .map es,.map fU,h=>by simp only[eqB] at h;rw[Wh h]
 | .mark,.mark,_=>rfl
def YO:List HB->List HB->Bool
 | [],[]=>true
 | x::xs,y::ys=>eqB x y&&YO xs ys
 | _,_=>false
theorem Qr:∀ {a b:List HB},YO a b=true->a=b
 | [],[],_=>rfl
 | x::xs,y::ys,h=>by simp only[YO,Bool.and_eq_true] at h;rw[a2S h.1,Qr h.2]
 | [],_::_,h=>by cases h
 | _::_,[],h=>by cases h
structure fA where
 f:Nat
 xs:List TV
 h:List HB
 r:TV×List HB×List Nat
def bD:List fA->ay
 | [],_,_,_=>none
 | e::l,fv,xs,h=>match fv with
  | .fn f [] []=>if (Nat.beq e.f f&&G9.Jh e.xs xs&&YO e.h h)=true then some e.r else bD l fv xs h
  | _=>none
theorem aV {P:Program} {call:ay} (hc:aj P call):∀ {l:List fA},(∀ e∈l,call (.fn e.f [] []) e.xs e.h=some e.r)->aj P (bD l)
 | [],_=>fun fv xs h v h' ws hm=>by cases hm
 | e::l,hl=>fun fv xs h v h' ws hm=>by
  unfold bD at hm;split at hm
  ·rename_i f;split at hm
   ·rename_i hq;simp only[Bool.and_eq_true,Nat.beq_eq] at hq;obtain⟨⟨q1,q2⟩,q3⟩:=hq;have:=hl e List.mem_cons_self;rw[q1,rJ q2,Qr q3] at this;rw[Option.some.inj hm] at this;exact hc _ _ _ _ _ _ this
   exact aV hc (fun e he=>hl e (List.mem_cons_of_mem _ he)) _ _ _ _ _ _ hm
  cases hm
end Tw
namespace Go.Proofs.YtjkgcifieggcpaaGreat
open Go Tw
def Z0:HB:=.cells .own [.int .i64 0,.int .i64 1]
def Z1:HB:=.cells .own [.int .i64 2,.int .i64 3]
def Z2:HB:=.cells .grow [.int .u8 0,.int .i64 0,.int .u8 0,.int .i64 1]
def Z3:HB:=.cells .grow [.int .i64 (-1),.int .i64 (-2)]
def Z4:HB:=.cells .grow [.int .u8 0,.int .i64 1,.int .u8 0,.int .i64 0]
def Z5:HB:=.cells .grow [.int .i64 (-1),.int .i64 (-2),.int .i64 (-2)]
def Z6:HB:=.cells .own [.int .i64 0]
def Z7:HB:=.cells .own [.int .i64 (-1),.int .i64 (-2)]
def Z8:HB:=.cells .grow [.int .i64 0,.int .i64 3]
def Z9:HB:=.cells .grow [.int .i64 1,.int .i64 2]
def ZA:HB:=.cells .own [.int .u8 0,.int .i64 0,.int .u8 0,.int .i64 1]
def ZB:HB:=.cells .own [.int .i64 0,.slc 0 0 2 2 1 false]
def ZC:HB:=.cells .own [.int .u8 0,.int .i64 1]
def ZD:HB:=.cells .own [.int .i64 0,.slc 20 0 2 2 1 false]
def ZE:HB:=.cells .own [.int .i64 0,.slc 5 0 2 2 1 false]
def ZF:HB:=.cells .own [.int .i64 1,.slc 10 0 3 3 1 false]
def ZG:HB:=.cells .own [.int .i64 1,.slc 15 0 3 3 1 false]
def ZH:HB:=.cells .own [.str ⟨#[]⟩,.slc 24 0 2 2 1 false,.slc 23 0 2 2 1 false,.slc 22 0 2 2 2 false,.slc 21 0 1 1 2 false,.int .i64 0,.str ⟨#[]⟩,.slc 19 0 2 2 1 false,.slc 18 0 2 2 1 false,.slc 17 0 2 2 2 false,.slc 16 0 1 1 2 false,.int .i64 0,.str ⟨#[]⟩,.slc 14 0 2 2 1 false,.slc 13 0 2 2 1 false,.slc 12 0 2 2 2 false,.slc 11 0 1 1 2 false,.int .i64 0,.str ⟨#[]⟩,.slc 9 0 2 2 1 false,.slc 8 0 2 2 1 false,.slc 7 0 2 2 2 false,.slc 6 0 1 1 2 false,.int .i64 0]
def ZI:HB:=.cells .own [.int .u8 0,.int .i64 0]
def ZJ:HB:=.cells .own [.int .i64 0,.slc 29 0 2 2 1 false]
def ZK:HB:=.cells .own [.int .i64 0,.slc 34 0 2 2 1 false]
def ZL:HB:=.cells .own [.int .i64 0,.slc 49 0 2 2 1 false]
def ZM:HB:=.cells .own [.int .i64 1,.slc 39 0 3 3 1 false]
def ZN:HB:=.cells .own [.int .i64 1,.slc 44 0 3 3 1 false]
def ZO:HB:=.cells .own [.str ⟨#[]⟩,.slc 53 0 2 2 1 false,.slc 52 0 2 2 1 false,.slc 51 0 2 2 2 false,.slc 50 0 1 1 2 false,.int .i64 0,.str ⟨#[]⟩,.slc 48 0 2 2 1 false,.slc 47 0 2 2 1 false,.slc 46 0 2 2 2 false,.slc 45 0 1 1 2 false,.int .i64 0,.str ⟨#[]⟩,.slc 43 0 2 2 1 false,.slc 42 0 2 2 1 false,.slc 41 0 2 2 2 false,.slc 40 0 1 1 2 false,.int .i64 0,.str ⟨#[]⟩,.slc 38 0 2 2 1 false,.slc 37 0 2 2 1 false,.slc 36 0 2 2 2 false,.slc 35 0 1 1 2 false,.int .i64 0]
def ZP:HB:=.cells .own [.int .i64 (-1),.int .i64 (-2),.int .i64 (-2)]
def ZQ:HB:=.cells .own [.int .u8 0,.int .i64 1,.int .u8 0,.int .i64 0]
def ZR:HB:=.cells .grow [.slc 58 0 2 2 1 false,.slc 57 0 2 2 1 false]
def ZS:HB:=.cells .own [.int .i64 0,.slc 60 0 2 2 1 false]
def ZT:HB:=.cells .own [.int .i64 0,.slc 65 0 2 2 1 false]
def ZU:HB:=.cells .own [.int .i64 0,.slc 80 0 2 2 1 false]
def ZV:HB:=.cells .own [.int .i64 1,.slc 70 0 3 3 1 false]
def ZW:HB:=.cells .own [.int .i64 1,.slc 75 0 3 3 1 false]
def ZX:HB:=.cells .own [.str ⟨#[]⟩,.slc 84 0 2 2 1 false,.slc 83 0 2 2 1 false,.slc 82 0 2 2 2 false,.slc 81 0 1 1 2 false,.int .i64 0,.str ⟨#[]⟩,.slc 79 0 2 2 1 false,.slc 78 0 2 2 1 false,.slc 77 0 2 2 2 false,.slc 76 0 1 1 2 false,.int .i64 0,.str ⟨#[]⟩,.slc 74 0 2 2 1 false,.slc 73 0 2 2 1 false,.slc 72 0 2 2 2 false,.slc 71 0 1 1 2 false,.int .i64 0,.str ⟨#[]⟩,.slc 69 0 2 2 1 false,.slc 68 0 2 2 1 false,.slc 67 0 2 2 2 false,.slc 66 0 1 1 2 false,.int .i64 0]
def ZY:HB:=.cells .grow [.slc 89 0 1 1 1 false,.slc 88 0 2 2 1 false]
def ZZ:HB:=.cells .own [.int .i64 0,.slc 91 0 2 2 1 false]
def Za:HB:=.cells .own [.int .i64 0,.slc 111 0 2 2 1 false]
def Zb:HB:=.cells .own [.int .i64 0,.slc 96 0 2 2 1 false]
def Zc:HB:=.cells .own [.int .i64 1,.slc 101 0 3 3 1 false]
def Zd:HB:=.cells .own [.int .i64 1,.slc 106 0 3 3 1 false]
def Ze:HB:=.cells .own [.str ⟨#[]⟩,.slc 115 0 2 2 1 false,.slc 114 0 2 2 1 false,.slc 113 0 2 2 2 false,.slc 112 0 1 1 2 false,.int .i64 0,.str ⟨#[]⟩,.slc 110 0 2 2 1 false,.slc 109 0 2 2 1 false,.slc 108 0 2 2 2 false,.slc 107 0 1 1 2 false,.int .i64 0,.str ⟨#[]⟩,.slc 105 0 2 2 1 false,.slc 104 0 2 2 1 false,.slc 103 0 2 2 2 false,.slc 102 0 1 1 2 false,.int .i64 0,.str ⟨#[]⟩,.slc 100 0 2 2 1 false,.slc 99 0 2 2 1 false,.slc 98 0 2 2 2 false,.slc 97 0 1 1 2 false,.int .i64 0]
def Zf:HB:=.cells .own [.int .i64 0,.slc 120 0 2 2 1 false]
def Zg:HB:=.cells .own [.int .i64 0,.slc 125 0 2 2 1 false]
def Zh:HB:=.cells .own [.int .i64 0,.slc 140 0 2 2 1 false]
def Zi:HB:=.cells .own [.int .i64 1,.slc 130 0 3 3 1 false]
def Zj:HB:=.cells .own [.int .i64 1,.slc 135 0 3 3 1 false]
def Zk:HB:=.cells .own [.str ⟨#[]⟩,.slc 144 0 2 2 1 false,.slc 143 0 2 2 1 false,.slc 142 0 2 2 2 false,.slc 141 0 1 1 2 false,.int .i64 0,.str ⟨#[]⟩,.slc 139 0 2 2 1 false,.slc 138 0 2 2 1 false,.slc 137 0 2 2 2 false,.slc 136 0 1 1 2 false,.int .i64 0,.str ⟨#[]⟩,.slc 134 0 2 2 1 false,.slc 133 0 2 2 1 false,.slc 132 0 2 2 2 false,.slc 131 0 1 1 2 false,.int .i64 0,.str ⟨#[]⟩,.slc 129 0 2 2 1 false,.slc 128 0 2 2 1 false,.slc 127 0 2 2 2 false,.slc 126 0 1 1 2 false,.int .i64 0]
def Zl:HB:=.cells .own [.int .i64 0,.int .i64 3]
def Zm:HB:=.cells .own [.int .i64 1,.int .i64 2]
def Zn:HB:=.cells .grow [.int .i64 0,.int .i64 1]
def Zo:HB:=.cells .grow [.int .i64 0,.int .i64 2]
def Zp:HB:=.cells .grow [.int .i64 1,.int .i64 3]
def Zq:HB:=.cells .grow [.int .i64 2,.int .i64 3]
def Zr:HB:=.cells .grow [.slc 151 0 2 2 1 false,.slc 150 0 2 2 1 false,.slc 149 0 2 2 1 false,.slc 148 0 2 2 1 false]
def Zs:HB:=.cells .own [.int .i64 0,.slc 153 0 2 2 1 false]
def Zt:HB:=.cells .own [.int .i64 0,.slc 158 0 2 2 1 false]
def Zu:HB:=.cells .own [.int .i64 0,.slc 173 0 2 2 1 false]
def Zv:HB:=.cells .own [.int .i64 1,.slc 163 0 3 3 1 false]
def Zw:HB:=.cells .own [.int .i64 1,.slc 168 0 3 3 1 false]
def Zx:HB:=.cells .own [.str ⟨#[]⟩,.slc 177 0 2 2 1 false,.slc 176 0 2 2 1 false,.slc 175 0 2 2 2 false,.slc 174 0 1 1 2 false,.int .i64 0,.str ⟨#[]⟩,.slc 172 0 2 2 1 false,.slc 171 0 2 2 1 false,.slc 170 0 2 2 2 false,.slc 169 0 1 1 2 false,.int .i64 0,.str ⟨#[]⟩,.slc 167 0 2 2 1 false,.slc 166 0 2 2 1 false,.slc 165 0 2 2 2 false,.slc 164 0 1 1 2 false,.int .i64 0,.str ⟨#[]⟩,.slc 162 0 2 2 1 false,.slc 161 0 2 2 1 false,.slc 160 0 2 2 2 false,.slc 159 0 1 1 2 false,.int .i64 0]
def Zy:HB:=.cells .grow [.slc 192 0 2 2 1 false,.slc 191 0 2 2 1 false,.slc 190 0 1 1 2 true,.nil .slc,.int .i64 (-1),.slc 189 0 2 2 1 false,.slc 188 0 2 2 1 false,.slc 187 0 2 2 2 false,.slc 186 0 1 1 2 false,.int .i64 0,.slc 184 0 2 2 1 false,.slc 183 0 2 2 1 false,.slc 182 0 1 1 2 false,.nil .slc,.int .i64 (-1)]
def Zz:HB:=.cells .own [.int .i64 0,.slc 185 0 2 2 1 true]
def Z00:HB:=.cells .own [.int .i64 0,.int .i64 0,.int .i64 0,.int .i64 0,.int .i64 0,.int .i64 0]
def Z01:HB:=.cells .own [.int .i64 0,.int .i64 2]
def Z02:HB:=.cells .own [.int .i64 0,.slc 211 0 2 2 1 false]
def Z03:HB:=.cells .own [.int .i64 0,.slc 221 0 2 2 1 false]
def Z04:HB:=.cells .own [.int .i64 1,.int .i64 1,.int .i64 1,.int .i64 1,.int .i64 1,.int .i64 1]
def Z05:HB:=.cells .own [.int .i64 1,.int .i64 3]
def Z06:HB:=.cells .own [.slc 195 0 2 2 1 true,.slc 196 0 2 2 1 true]
def Z07:HB:=.cells .own [.slc 198 0 1 1 1 true,.slc 199 0 2 2 1 true]
def Z08:HB:=.cells .own [.slc 202 0 2 2 1 true,.slc 203 0 2 2 1 true,.slc 204 0 2 2 1 true,.slc 205 0 2 2 1 true]
def Z09:HB:=.cells .own [.slc 210 0 2 2 1 false,.slc 209 0 2 2 1 false,.slc 208 0 1 1 2 false,.nil .slc,.int .i64 (-1),.slc 215 0 2 2 1 false,.slc 214 0 2 2 1 false,.slc 213 0 2 2 2 false,.slc 212 0 1 1 2 false,.int .i64 0,.slc 219 0 2 2 1 false,.slc 218 0 2 2 1 false,.slc 217 0 1 1 2 false,.nil .slc,.int .i64 (-1)]
def Jr:HB:=.map [(.agg [.int .u64 2,.bool false],.bool true),(.agg [.int .u64 0,.bool false],.bool true),(.agg [.int .u64 3,.bool true],.bool true),(.agg [.int .u64 1,.bool true],.bool true)]
def Z0B:HB:=.cells .own [.int .i64 0,.slc 226 0 2 2 1 false]
def Z0C:HB:=.cells .own [.int .i64 0,.slc 241 0 2 2 1 false]
def Z0D:HB:=.cells .own [.int .i64 1,.slc 231 0 3 3 1 false]
def Z0E:HB:=.cells .own [.int .i64 1,.slc 236 0 3 3 1 false]
def Z0F:HB:=.cells .own [.str ⟨#[]⟩,.slc 245 0 2 2 1 false,.slc 244 0 2 2 1 false,.slc 243 0 2 2 2 false,.slc 242 0 1 1 2 false,.int .i64 0,.str ⟨#[]⟩,.slc 240 0 2 2 1 false,.slc 239 0 2 2 1 false,.slc 238 0 2 2 2 false,.slc 237 0 1 1 2 false,.int .i64 0,.str ⟨#[]⟩,.slc 235 0 2 2 1 false,.slc 234 0 2 2 1 false,.slc 233 0 2 2 2 false,.slc 232 0 1 1 2 false,.int .i64 0,.str ⟨#[]⟩,.slc 230 0 2 2 1 false,.slc 229 0 2 2 1 false,.slc 228 0 2 2 2 false,.slc 227 0 1 1 2 false,.int .i64 0]
def Wi:HB:=.cells .grow [.slc 279 0 2 2 1 false,.slc 278 0 2 2 1 false,.slc 277 0 1 1 2 false,.nil .slc,.int .i64 (-1),.slc 276 0 2 2 1 false,.slc 275 0 2 2 1 false,.slc 274 0 2 2 2 false,.slc 273 0 1 1 2 false,.int .i64 0,.slc 271 0 2 2 1 false,.slc 270 0 2 2 1 false,.slc 269 0 1 1 2 false,.nil .slc,.int .i64 (-1)]
def Z0H:HB:=.cells .grow [.str ⟨#[]⟩,.slc 193 0 2 2 1 false,.slc 192 0 2 2 1 false,.slc 191 0 2 2 2 false,.slc 190 0 1 1 2 false,.int .i64 0,.str ⟨#[]⟩,.slc 188 0 2 2 1 false,.slc 187 0 2 2 1 false,.slc 186 0 2 2 2 false,.slc 185 0 1 1 2 false,.int .i64 0]
def Z0I:HB:=.cells .grow [.str ⟨#[]⟩,.slc 261 0 2 2 1 false,.slc 260 0 2 2 1 false,.slc 259 0 2 2 2 false,.slc 258 0 1 1 2 false,.int .i64 0,.str ⟨#[]⟩,.slc 256 0 2 2 1 false,.slc 255 0 2 2 1 false,.slc 254 0 2 2 2 false,.slc 253 0 1 1 2 false,.int .i64 0]
def Z0J:HB:=.cells .own [.int .i64 0,.slc 189 0 2 2 1 false]
def Z0K:HB:=.cells .own [.int .i64 0,.slc 195 0 2 2 1 false]
def Z0L:HB:=.cells .own [.int .i64 0,.slc 257 0 2 2 1 false]
def Z0M:HB:=.cells .own [.int .i64 0,.slc 263 0 2 2 1 false]
def Z0N:HB:=.cells .own [.int .i64 0,.slc 272 0 2 2 1 false]
def Z0O:HB:=.cells .own [.int .i64 1,.slc 184 0 3 3 1 false]
def Z0P:HB:=.cells .own [.int .i64 1,.slc 252 0 3 3 1 false]
def Z0Q:HB:=.cells .own [.slc 182 0 2 2 1 false,.slc 183 0 2 2 1 false,.slc 194 0 2 2 6 false,.slc 199 0 2 2 1 false,.slc 198 0 2 2 1 false,.slc 197 0 2 2 2 false,.slc 196 0 1 1 2 false,.int .i64 0,.map 201]
def Z0R:HB:=.cells .own [.slc 250 0 2 2 1 false,.slc 251 0 2 2 1 false,.slc 262 0 2 2 6 false,.slc 267 0 2 2 1 false,.slc 266 0 2 2 1 false,.slc 265 0 2 2 2 false,.slc 264 0 1 1 2 false,.int .i64 0,.map 281]
def Z0S:HB:=.cells .own [.int .i64 1]
def Z0T:HB:=.cells .own [.slc 205 0 2 2 1 false,.slc 204 0 2 2 1 false,.slc 203 0 1 1 2 true,.nil .slc,.int .i64 (-1)]
def Z0U:HB:=.cells .own [.slc 285 0 2 2 1 false,.slc 284 0 2 2 1 false,.slc 283 0 1 1 2 true,.nil .slc,.int .i64 (-1)]
def Z0V:HB:=.cells .own [.int .i64 0,.slc 207 0 2 2 1 true]
def Z0W:HB:=.cells .own [.int .i64 0,.slc 287 0 2 2 1 true]
def Z0X:HB:=.cells .own [.int .i64 0,.slc 250 0 2 2 1 false]
def Z0Y:HB:=.cells .own [.int .i64 0,.slc 212 0 2 2 1 true]
def Z0Z:HB:=.cells .own [.int .i64 0,.slc 255 0 2 2 1 false]
def Z0a:HB:=.cells .own [.int .i64 0,.slc 270 0 2 2 1 false]
def Z0b:HB:=.cells .own [.int .i64 0,.slc 292 0 2 2 1 true]
def Z0c:HB:=.cells .own [.int .i64 1,.slc 260 0 3 3 1 false]
def Z0d:HB:=.cells .own [.int .i64 1,.slc 265 0 3 3 1 false]
def Z0e:HB:=.cells .own [.str ⟨#[]⟩,.slc 274 0 2 2 1 false,.slc 273 0 2 2 1 false,.slc 272 0 2 2 2 false,.slc 271 0 1 1 2 false,.int .i64 0,.str ⟨#[]⟩,.slc 269 0 2 2 1 false,.slc 268 0 2 2 1 false,.slc 267 0 2 2 2 false,.slc 266 0 1 1 2 false,.int .i64 0,.str ⟨#[]⟩,.slc 264 0 2 2 1 false,.slc 263 0 2 2 1 false,.slc 262 0 2 2 2 false,.slc 261 0 1 1 2 false,.int .i64 0,.str ⟨#[]⟩,.slc 259 0 2 2 1 false,.slc 258 0 2 2 1 false,.slc 257 0 2 2 2 false,.slc 256 0 1 1 2 false,.int .i64 0]
def Z0f:HB:=.cells .grow [.str ⟨#[]⟩,.slc 169 0 2 2 1 false,.slc 168 0 2 2 1 false,.slc 167 0 2 2 2 false,.slc 166 0 1 1 2 false,.int .i64 0,.str ⟨#[]⟩,.slc 164 0 2 2 1 false,.slc 163 0 2 2 1 false,.slc 162 0 2 2 2 false,.slc 161 0 1 1 2 false,.int .i64 0,.str ⟨#[]⟩,.slc 159 0 2 2 1 false,.slc 158 0 2 2 1 false,.slc 157 0 2 2 2 false,.slc 156 0 1 1 2 false,.int .i64 0,.str ⟨#[]⟩,.slc 154 0 2 2 1 false,.slc 153 0 2 2 1 false,.slc 152 0 2 2 2 false,.slc 151 0 1 1 2 false,.int .i64 0]
def Z0g:HB:=.cells .grow [.str ⟨#[]⟩,.slc 49 0 2 2 1 false,.slc 48 0 2 2 1 false,.slc 47 0 2 2 2 false,.slc 46 0 1 1 2 false,.int .i64 0,.str ⟨#[]⟩,.slc 44 0 2 2 1 false,.slc 43 0 2 2 1 false,.slc 42 0 2 2 2 false,.slc 41 0 1 1 2 false,.int .i64 0,.str ⟨#[]⟩,.slc 39 0 2 2 1 false,.slc 38 0 2 2 1 false,.slc 37 0 2 2 2 false,.slc 36 0 1 1 2 false,.int .i64 0,.str ⟨#[]⟩,.slc 34 0 2 2 1 false,.slc 33 0 2 2 1 false,.slc 32 0 2 2 2 false,.slc 31 0 1 1 2 false,.int .i64 0]
def Z0h:HB:=.cells .grow [.str ⟨#[]⟩,.slc 78 0 2 2 1 false,.slc 77 0 2 2 1 false,.slc 76 0 2 2 2 false,.slc 75 0 1 1 2 false,.int .i64 0,.str ⟨#[]⟩,.slc 73 0 2 2 1 false,.slc 72 0 2 2 1 false,.slc 71 0 2 2 2 false,.slc 70 0 1 1 2 false,.int .i64 0,.str ⟨#[]⟩,.slc 68 0 2 2 1 false,.slc 67 0 2 2 1 false,.slc 66 0 2 2 2 false,.slc 65 0 1 1 2 false,.int .i64 0,.str ⟨#[]⟩,.slc 63 0 2 2 1 false,.slc 62 0 2 2 1 false,.slc 61 0 2 2 2 false,.slc 60 0 1 1 2 false,.int .i64 0]
def Z0i:HB:=.cells .own [.int .i64 0,.slc 150 0 2 2 1 false]
def Z0j:HB:=.cells .own [.int .i64 0,.slc 165 0 2 2 1 false]
def Z0k:HB:=.cells .own [.int .i64 0,.slc 30 0 2 2 1 false]
def Z0l:HB:=.cells .own [.int .i64 0,.slc 45 0 2 2 1 false]
def Z0m:HB:=.cells .own [.int .i64 0,.slc 59 0 2 2 1 false]
def Z0n:HB:=.cells .own [.int .i64 0,.slc 74 0 2 2 1 false]
def Z0o:HB:=.cells .own [.int .i64 1,.slc 155 0 3 3 1 false]
def Z0p:HB:=.cells .own [.int .i64 1,.slc 160 0 3 3 1 false]
def Z0q:HB:=.cells .own [.int .i64 1,.slc 35 0 3 3 1 false]
def Z0r:HB:=.cells .own [.int .i64 1,.slc 40 0 3 3 1 false]
def Z0s:HB:=.cells .own [.int .i64 1,.slc 64 0 3 3 1 false]
def Z0t:HB:=.cells .own [.int .i64 1,.slc 69 0 3 3 1 false]
def Z0u:HB:=.cells .own [.slc 205 0 2 2 1 false,.slc 204 0 2 2 1 false,.slc 203 0 1 1 2 true,.nil .slc,.int .i64 (-1),.slc 216 0 2 2 1 false,.slc 215 0 2 2 1 false,.slc 214 0 2 2 2 false,.slc 213 0 1 1 2 false,.int .i64 0]
def Z0v:HB:=.cells .own [.slc 216 0 2 2 1 false,.slc 215 0 2 2 1 false,.slc 214 0 2 2 2 false,.slc 213 0 1 1 2 false,.int .i64 0]
def Z0w:HB:=.cells .own [.slc 285 0 2 2 1 false,.slc 284 0 2 2 1 false,.slc 283 0 1 1 2 true,.nil .slc,.int .i64 (-1),.slc 296 0 2 2 1 false,.slc 295 0 2 2 1 false,.slc 294 0 2 2 2 false,.slc 293 0 1 1 2 false,.int .i64 0]
def Z0x:HB:=.cells .own [.slc 296 0 2 2 1 false,.slc 295 0 2 2 1 false,.slc 294 0 2 2 2 false,.slc 293 0 1 1 2 false,.int .i64 0]
def Z0y:HB:=.cells .own [.int .i64 0,.slc 219 0 2 2 1 true]
def Z0z:HB:=.cells .own [.int .i64 0,.slc 299 0 2 2 1 true]
def Z10:HB:=.cells .grow [.slc 308 0 2 2 1 false,.slc 307 0 2 2 1 false,.slc 306 0 1 1 2 false,.nil .slc,.int .i64 (-1),.slc 305 0 2 2 1 false,.slc 304 0 2 2 1 false,.slc 303 0 2 2 2 false,.slc 302 0 1 1 2 false,.int .i64 0,.slc 300 0 2 2 1 false,.slc 299 0 2 2 1 false,.slc 298 0 1 1 2 false,.nil .slc,.int .i64 (-1)]
def Z11:HB:=.cells .grow [.str ⟨#[]⟩,.slc 104 0 2 2 1 false,.slc 103 0 2 2 1 false,.slc 102 0 2 2 2 false,.slc 101 0 1 1 2 false,.int .i64 0,.str ⟨#[]⟩,.slc 99 0 2 2 1 false,.slc 98 0 2 2 1 false,.slc 97 0 2 2 2 false,.slc 96 0 1 1 2 false,.int .i64 0,.str ⟨#[]⟩,.slc 94 0 2 2 1 false,.slc 93 0 2 2 1 false,.slc 92 0 2 2 2 false,.slc 91 0 1 1 2 false,.int .i64 0]
def Z12:HB:=.cells .grow [.str ⟨#[]⟩,.slc 130 0 2 2 1 false,.slc 129 0 2 2 1 false,.slc 128 0 2 2 2 false,.slc 127 0 1 1 2 false,.int .i64 0,.str ⟨#[]⟩,.slc 125 0 2 2 1 false,.slc 124 0 2 2 1 false,.slc 123 0 2 2 2 false,.slc 122 0 1 1 2 false,.int .i64 0]
def Z13:HB:=.cells .grow [.str ⟨#[]⟩,.slc 290 0 2 2 1 false,.slc 289 0 2 2 1 false,.slc 288 0 2 2 2 false,.slc 287 0 1 1 2 false,.int .i64 0,.str ⟨#[]⟩,.slc 285 0 2 2 1 false,.slc 284 0 2 2 1 false,.slc 283 0 2 2 2 false,.slc 282 0 1 1 2 false,.int .i64 0]
def Z14:HB:=.cells .own [.int .i64 0,.slc 100 0 2 2 1 false]
def Z15:HB:=.cells .own [.int .i64 0,.slc 106 0 2 2 1 false]
def Z16:HB:=.cells .own [.int .i64 0,.slc 126 0 2 2 1 false]
def Z17:HB:=.cells .own [.int .i64 0,.slc 132 0 2 2 1 false]
def Z18:HB:=.cells .own [.int .i64 0,.slc 286 0 2 2 1 false]
def Z19:HB:=.cells .own [.int .i64 0,.slc 292 0 2 2 1 false]
def Z1A:HB:=.cells .own [.int .i64 0,.slc 301 0 2 2 1 false]
def Z1B:HB:=.cells .own [.int .i64 1,.slc 121 0 3 3 1 false]
def Z1C:HB:=.cells .own [.int .i64 1,.slc 281 0 3 3 1 false]
def Z1D:HB:=.cells .own [.int .i64 1,.slc 90 0 3 3 1 false]
def Z1E:HB:=.cells .own [.int .i64 1,.slc 95 0 3 3 1 false]
def Z1F:HB:=.cells .own [.int .i64 0,.slc 224 0 2 2 1 true]
def Z1G:HB:=.cells .own [.int .i64 0,.slc 304 0 2 2 1 true]
def Z1H:HB:=.map [(.agg [.int .u64 10,.bool false],.bool true),(.agg [.int .u64 12,.bool false],.bool true),(.agg [.int .u64 3,.bool false],.bool true),(.agg [.int .u64 5,.bool false],.bool true)]
def Z1I:HB:=.cells .own [.slc 119 0 2 2 1 false,.slc 120 0 2 2 1 false,.slc 131 0 2 2 6 false,.slc 136 0 2 2 1 false,.slc 135 0 2 2 1 false,.slc 134 0 2 2 2 false,.slc 133 0 1 1 2 false,.int .i64 0,.map 137]
def Z1J:HB:=.cells .own [.slc 148 0 2 2 1 false,.slc 149 0 2 2 1 false,.slc 170 0 4 4 6 false,.slc 173 0 2 2 1 false,.slc 172 0 2 2 1 false,.slc 171 0 1 1 2 true,.nil .slc,.int .i64 (-1),.map 174]
def Z1K:HB:=.cells .own [.slc 279 0 2 2 1 false,.slc 280 0 2 2 1 false,.slc 291 0 2 2 6 false,.slc 296 0 2 2 1 false,.slc 295 0 2 2 1 false,.slc 294 0 2 2 2 false,.slc 293 0 1 1 2 false,.int .i64 0,.map 310]
def Z1L:HB:=.cells .own [.slc 28 0 2 2 1 false,.slc 29 0 2 2 1 false,.slc 50 0 4 4 6 false,.slc 53 0 2 2 1 false,.slc 52 0 2 2 1 false,.slc 51 0 1 1 2 true,.nil .slc,.int .i64 (-1),.map 54]
def Z1M:HB:=.cells .own [.slc 57 0 2 2 1 false,.slc 58 0 2 2 1 false,.slc 79 0 4 4 6 false,.slc 82 0 2 2 1 false,.slc 81 0 2 2 1 false,.slc 80 0 1 1 2 true,.nil .slc,.int .i64 (-1),.map 83]
def Z1N:HB:=.cells .own [.slc 88 0 2 2 1 false,.slc 89 0 2 2 1 false,.slc 105 0 3 3 6 false,.slc 110 0 2 2 1 false,.slc 109 0 2 2 1 false,.slc 108 0 2 2 2 false,.slc 107 0 1 1 2 false,.int .i64 0,.map 111]
def Z1O:HB:=.map [(.agg [.int .u64 2,.bool false],.bool true),(.agg [.int .u64 4,.bool false],.bool true),(.agg [.int .u64 3,.bool true],.bool true),(.agg [.int .u64 5,.bool true],.bool true)]
def Y0:List HB:=[Z3,ZB,Z2,Z0,Z1,Z3,ZE,Z4,Z0,Z1,Z5,ZF,Z2,Z0,Z1,Z5,ZG,Z4,Z0,Z1,Z3,ZD,Z2,Z0,Z1,ZH,Z0,Z1,Z8,Z3,ZJ,Z2,Z0,Z1,Z3,ZK,Z4,Z0,Z1,Z5,ZM,Z2,Z0,Z1,Z5,ZN,Z4,Z0,Z1,Z3,ZL,Z2,Z0,Z1,ZO,Z0,Z1,Z9,Z8,ZR,Z3,ZS,Z2,Z0,Z1,Z3,ZT,Z4,Z0,Z1,Z5,ZV,Z2,Z0,Z1,Z5,ZW,Z4,Z0,Z1,Z3,ZU,Z2,Z0,Z1,ZX,Z0,Z1,Z9,Z6,ZY,Z3,ZZ,Z2,Z0,Z1,Z3,Zb,Z4,Z0,Z1,Z5,Zc,Z2,Z0,Z1,Z5,Zd,Z4,Z0,Z1,Z3,Za,Z2,Z0,Z1,Ze,Z0,Z1,Z6,Z3,Zf,Z2,Z0,Z1,Z3,Zg,Z4,Z0,Z1,Z5,Zi,Z2,Z0,Z1,Z5,Zj,Z4,Z0,Z1,Z3,Zh,Z2,Z0,Z1,Zk,Z0,Z1,Zq,Zp,Zo,Zn,Zr,Z3,Zs,Z2,Z0,Z1,Z3,Zt,Z4,Z0,Z1,Z5,Zv,Z2,Z0,Z1,Z5,Zw,Z4,Z0,Z1,Z3,Zu,Z2,Z0,Z1,Zx,Z0,Z1,Z6,ZI,Z0,Z1,Z7,Zz,Z2,Z0,Z1,ZC,Z0,Z1,Zy,Zl,Zl,Zm,Z06,Z6,Zm]
def Y1:List HB:=[Z3,ZB,Z2,Z0,Z1,Z3,ZE,Z4,Z0,Z1,Z5,ZF,Z2,Z0,Z1,Z5,ZG,Z4,Z0,Z1,Z3,ZD,Z2,Z0,Z1,ZH,Z0,Z1,Z8,Z3,ZJ,Z2,Z0,Z1,Z3,ZK,Z4,Z0,Z1,Z5,ZM,Z2,Z0,Z1,Z5,ZN,Z4,Z0,Z1,Z3,ZL,Z2,Z0,Z1,ZO,Z0,Z1,Z9,Z8,ZR,Z3,ZS,Z2,Z0,Z1,Z3,ZT,Z4,Z0,Z1,Z5,ZV,Z2,Z0,Z1,Z5,ZW,Z4,Z0,Z1,Z3,ZU,Z2,Z0,Z1,ZX,Z0,Z1,Z9,Z6,ZY,Z3,ZZ,Z2,Z0,Z1,Z3,Zb,Z4,Z0,Z1,Z5,Zc,Z2,Z0,Z1,Z5,Zd,Z4,Z0,Z1,Z3,Za,Z2,Z0,Z1,Ze,Z0,Z1,Z6,Z3,Zf,Z2,Z0,Z1,Z3,Zg,Z4,Z0,Z1,Z5,Zi,Z2,Z0,Z1,Z5,Zj,Z4,Z0,Z1,Z3,Zh,Z2,Z0,Z1,Zk,Z0,Z1,Zq,Zp,Zo,Zn,Zr,Z3,Zs,Z2,Z0,Z1,Z3,Zt,Z4,Z0,Z1,Z5,Zv,Z2,Z0,Z1,Z5,Zw,Z4,Z0,Z1,Z3,Zu,Z2,Z0,Z1,Zx,Z0,Z1,Z6,Z1,Z0,ZP,Z0O,ZQ,Z0,Z1,Z7,Z0J,ZA,Z0,Z1,Z0H,Z7,Z0K,ZA,Z0,Z1]
def Y2:List HB:=[Z3,ZB,Z2,Z0,Z1,Z3,ZE,Z4,Z0,Z1,Z5,ZF,Z2,Z0,Z1,Z5,ZG,Z4,Z0,Z1,Z3,ZD,Z2,Z0,Z1,ZH,Z0,Z1,Z8,Z3,ZJ,Z2,Z0,Z1,Z3,ZK,Z4,Z0,Z1,Z5,ZM,Z2,Z0,Z1,Z5,ZN,Z4,Z0,Z1,Z3,ZL,Z2,Z0,Z1,ZO,Z0,Z1,Z9,Z8,ZR,Z3,ZS,Z2,Z0,Z1,Z3,ZT,Z4,Z0,Z1,Z5,ZV,Z2,Z0,Z1,Z5,ZW,Z4,Z0,Z1,Z3,ZU,Z2,Z0,Z1,ZX,Z0,Z1,Z9,Z6,ZY,Z3,ZZ,Z2,Z0,Z1,Z3,Zb,Z4,Z0,Z1,Z5,Zc,Z2,Z0,Z1,Z5,Zd,Z4,Z0,Z1,Z3,Za,Z2,Z0,Z1,Ze,Z0,Z1,Z6,Z3,Zf,Z2,Z0,Z1,Z3,Zg,Z4,Z0,Z1,Z5,Zi,Z2,Z0,Z1,Z5,Zj,Z4,Z0,Z1,Z3,Zh,Z2,Z0,Z1,Zk,Z0,Z1,Z1,Z0,Z7,Z0i,ZQ,Z0,Z1,ZP,Z0o,ZA,Z0,Z1]
def Y3:List HB:=[Z3,ZB,Z2,Z0,Z1,Z3,ZE,Z4,Z0,Z1,Z5,ZF,Z2,Z0,Z1,Z5,ZG,Z4,Z0,Z1,Z3,ZD,Z2,Z0,Z1,ZH,Z0,Z1,Z8,Z3,ZJ,Z2,Z0,Z1,Z3,ZK,Z4,Z0,Z1,Z5,ZM,Z2,Z0,Z1,Z5,ZN,Z4,Z0,Z1,Z3,ZL,Z2,Z0,Z1,ZO,Z0,Z1,Z9,Z8,ZR,Z3,ZS,Z2,Z0,Z1,Z3,ZT,Z4,Z0,Z1,Z5,ZV,Z2,Z0,Z1,Z5,ZW,Z4,Z0,Z1,Z3,ZU,Z2,Z0,Z1,ZX,Z0,Z1,Z9,Z6,ZY,Z3,ZZ,Z2,Z0,Z1,Z3,Zb,Z4,Z0,Z1,Z5,Zc,Z2,Z0,Z1,Z5,Zd,Z4,Z0,Z1,Z3,Za,Z2,Z0,Z1,Ze,Z0,Z1,Z6,Z3,Zf,Z2,Z0,Z1,Z3,Zg,Z4,Z0,Z1,Z5,Zi,Z2,Z0,Z1,Z5,Zj,Z4,Z0,Z1,Z3,Zh,Z2,Z0,Z1,Zk,Z0,Z1,Zq,Zp,Zo,Zn,Zr,Z3,Zs,Z2,Z0,Z1,Z3,Zt]
def Y4:List HB:=[Z3,ZB,Z2,Z0,Z1,Z3,ZE,Z4,Z0,Z1,Z5,ZF,Z2,Z0,Z1,Z5,ZG,Z4,Z0,Z1,Z3,ZD,Z2,Z0,Z1,ZH,Z0,Z1,Z8,Z3,ZJ,Z2,Z0,Z1,Z3,ZK,Z4,Z0,Z1,Z5,ZM,Z2,Z0,Z1,Z5,ZN,Z4,Z0,Z1,Z3,ZL,Z2,Z0,Z1,ZO,Z0,Z1,Z9,Z8,ZR,Z3,ZS,Z2,Z0,Z1,Z3,ZT,Z4,Z0,Z1,Z5,ZV,Z2,Z0,Z1,Z5,ZW,Z4,Z0,Z1,Z3,ZU,Z2,Z0,Z1,ZX,Z0,Z1,Z9,Z6,ZY,Z3,ZZ,Z2,Z0,Z1,Z3,Zb,Z4,Z0,Z1,Z5,Zc,Z2,Z0,Z1,Z5,Zd,Z4,Z0,Z1,Z3,Za,Z2,Z0,Z1,Ze,Z0,Z1,Z6,Z3,Zf,Z2,Z0,Z1,Z3,Zg,Z4]
def Y5:List HB:=[Z3,ZB,Z2,Z0,Z1,Z3,ZE,Z4,Z0,Z1,Z5,ZF,Z2,Z0,Z1,Z5,ZG,Z4,Z0,Z1,Z3,ZD,Z2,Z0,Z1,ZH,Z0,Z1,Z8,Z3,ZJ,Z2,Z0,Z1,Z3,ZK,Z4,Z0,Z1,Z5,ZM,Z2,Z0,Z1,Z5,ZN,Z4,Z0,Z1,Z3,ZL,Z2,Z0,Z1,ZO,Z0,Z1,Z9,Z8,ZR,Z3,ZS,Z2,Z0,Z1,Z3,ZT,Z4,Z0,Z1,Z5,ZV,Z2,Z0,Z1,Z5,ZW,Z4,Z0,Z1,Z3,ZU,Z2,Z0,Z1,ZX,Z0,Z1,Z9,Z6,ZY,Z3,ZZ,Z2,Z0,Z1,Z3,Zb,Z4,Z0,Z1,Z5,Zc,Z2,Z0,Z1,Z5,Zd,Z4,Z0,Z1,Z3,Za,Z2,Z0,Z1,Ze,Z0,Z1,Z1,Z0,ZP,Z1B,ZQ,Z0,Z1,Z7,Z16]
def Y6:List HB:=Y0++[Z07,Z6,Z0,Z01,Z05,Z1,Z08,Z04,ZC,Z0,Z1,Z3,Z02,Z2,Z0,Z1,Z00,ZI,Z0,Z1,Z09,Z3,Z03,Z2,Z0,Z1,Z3,Z0B,Z4,Z0,Z1,Z5,Z0D,Z2,Z0,Z1,Z5,Z0E,Z4,Z0,Z1,Z3,Z0C,Z2,Z0,Z1,Z0F,Z0,Z1,Z6,Z1,Z0,ZP,Z0P,ZQ,Z0,Z1,Z7,Z0L,ZA,Z0,Z1,Z0I,Z7,Z0M,ZA,Z0,Z1,Z6,ZI,Z0,Z1,Z7,Z0N,ZA,Z0,Z1,ZC,Z0,Z1,Wi,Jr,Z0R,ZC,Z0,Z1,Z0U,Z7,Z0W,Z2,Z0,Z1,Z7,Z0b,Z2,Z0,Z1,Z0x,Z0w]
def Y7:List HB:=[Z3,ZB,Z2,Z0,Z1,Z3,ZE,Z4,Z0,Z1,Z5,ZF,Z2,Z0,Z1,Z5,ZG,Z4,Z0,Z1,Z3,ZD,Z2,Z0,Z1,ZH,Z0,Z1,Z8,Z3,ZJ,Z2,Z0,Z1,Z3,ZK,Z4,Z0,Z1,Z5,ZM,Z2,Z0,Z1,Z5,ZN,Z4,Z0,Z1,Z3,ZL,Z2,Z0,Z1,ZO,Z0,Z1,Z9,Z8,ZR,Z3,ZS,Z2,Z0,Z1,Z3,ZT,Z4,Z0,Z1,Z5,ZV,Z2,Z0,Z1,Z5,ZW,Z4,Z0,Z1,Z3,ZU,Z2,Z0,Z1,ZX,Z0,Z1,Z9,Z6,ZY,Z3,ZZ,Z2,Z0,Z1,Z3,Zb,Z4,Z0]
def Y8:List HB:=[Z3,ZB,Z2,Z0,Z1,Z3,ZE,Z4,Z0,Z1,Z5,ZF,Z2,Z0,Z1,Z5,ZG,Z4,Z0,Z1,Z3,ZD,Z2,Z0,Z1,ZH,Z0,Z1,Z8,Z3,ZJ,Z2,Z0,Z1,Z3,ZK,Z4,Z0,Z1,Z5,ZM,Z2,Z0,Z1,Z5,ZN,Z4,Z0,Z1,Z3,ZL,Z2,Z0,Z1,ZO,Z0,Z1,Z9,Z8,ZR,Z3,ZS,Z2,Z0,Z1,Z3,ZT,Z4,Z0,Z1,Z5,ZV,Z2,Z0,Z1,Z5,ZW,Z4,Z0,Z1,Z3,ZU,Z2,Z0,Z1,ZX,Z0,Z1,Z1,Z0,ZP,Z1D,ZA,Z0,Z1,ZP,Z1E,ZQ,Z0,Z1]
def Y9:List HB:=Y0++[Z07,Z6,Z0,Z01,Z05,Z1,Z08,Z04,ZC,Z0,Z1,Z3,Z02,Z2,Z0,Z1,Z00,ZI,Z0,Z1,Z09,Z3,Z03,Z2,Z0,Z1,Z3,Z0B,Z4,Z0,Z1,Z5,Z0D,Z2,Z0,Z1,Z5,Z0E,Z4,Z0,Z1,Z3,Z0C,Z2,Z0,Z1,Z0F,Z0,Z1,Z6,Z3,Z0X,Z2,Z0,Z1,Z3,Z0Z,Z4,Z0,Z1,Z5,Z0c,Z2,Z0,Z1,Z5,Z0d,Z4,Z0,Z1,Z3,Z0a,Z2,Z0,Z1,Z0e,Z0,Z1,Z0S,Z1,Z0,ZP,Z1C,ZQ,Z0,Z1,Z7,Z18,ZA,Z0,Z1,Z13,Z7,Z19,ZA,Z0,Z1,Z0S,ZI]
def YA:List HB:=Y0++[Z07,Z6,Z0,Z01,Z05,Z1,Z08,Z04,ZC,Z0,Z1,Z3,Z02,Z2,Z0,Z1,Z00,ZI,Z0,Z1,Z09,Z3,Z03,Z2,Z0,Z1,Z3,Z0B,Z4,Z0,Z1,Z5,Z0D,Z2,Z0,Z1,Z5,Z0E,Z4,Z0,Z1,Z3,Z0C,Z2,Z0,Z1,Z0F,Z0,Z1,Z6,Z1,Z0,ZP,Z0P,ZQ,Z0,Z1,Z7,Z0L,ZA,Z0,Z1,Z0I,Z7,Z0M,ZA,Z0,Z1,Z6,ZI,Z0,Z1,Z7,Z0N,ZA,Z0,Z1,ZC,Z0]
def YB:List HB:=[Z3,ZB,Z2,Z0,Z1,Z3,ZE,Z4,Z0,Z1,Z5,ZF,Z2,Z0,Z1,Z5,ZG,Z4,Z0,Z1,Z3,ZD,Z2,Z0,Z1,ZH,Z0,Z1,Z8,Z3,ZJ,Z2,Z0,Z1,Z3,ZK,Z4,Z0,Z1,Z5,ZM,Z2,Z0,Z1,Z5,ZN,Z4,Z0,Z1,Z3,ZL,Z2,Z0,Z1,ZO,Z0,Z1,Z1,Z0,Z7,Z0m,ZQ,Z0,Z1,ZP,Z0s,ZA,Z0,Z1,ZP,Z0t,ZQ,Z0,Z1,Z7,Z0n,ZA,Z0,Z1,Z0h]
def YC:List HB:=[Z3,ZB,Z2,Z0,Z1,Z3,ZE,Z4,Z0,Z1,Z5,ZF,Z2,Z0,Z1,Z5,ZG,Z4,Z0,Z1,Z3,ZD,Z2,Z0,Z1,ZH,Z0,Z1,Z8,Z3,ZJ,Z2,Z0,Z1,Z3,ZK,Z4,Z0,Z1,Z5,ZM,Z2,Z0,Z1,Z5,ZN,Z4,Z0,Z1,Z3,ZL,Z2,Z0,Z1,ZO,Z0,Z1,Z9,Z8,ZR,Z3,ZS,Z2,Z0,Z1,Z3,ZT,Z4,Z0,Z1,Z5,ZV,Z2,Z0,Z1,Z5,ZW,Z4,Z0,Z1]
def YD:List HB:=Y0++[Z07,Z6,Z0,Z01,Z05,Z1,Z08,Z04,ZC,Z0,Z1,Z3,Z02,Z2,Z0,Z1,Z00,ZI,Z0,Z1,Z09,Z3,Z03,Z2,Z0,Z1,Z3,Z0B,Z4,Z0,Z1,Z5,Z0D,Z2,Z0,Z1,Z5,Z0E,Z4,Z0,Z1,Z3,Z0C,Z2,Z0,Z1,Z0F,Z0,Z1,Z6,Z3,Z0X,Z2,Z0,Z1,Z3,Z0Z,Z4,Z0,Z1,Z5,Z0c,Z2]
def YE:List HB:=[Z3,ZB,Z2,Z0,Z1,Z3,ZE,Z4,Z0,Z1,Z5,ZF,Z2,Z0,Z1,Z5,ZG,Z4,Z0,Z1,Z3,ZD,Z2,Z0,Z1,ZH,Z0,Z1,Z8,Z3,ZJ,Z2,Z0,Z1,Z3,ZK,Z4,Z0,Z1,Z5,ZM,Z2,Z0,Z1,Z5,ZN,Z4,Z0,Z1,Z3,ZL,Z2]
def YF:List HB:=[Z3,ZB,Z2,Z0,Z1,Z3,ZE,Z4,Z0,Z1,Z5,ZF,Z2,Z0,Z1,Z5,ZG,Z4,Z0,Z1,Z3,ZD,Z2,Z0,Z1,ZH,Z0,Z1,Z1,Z0,Z7,Z0k,ZQ,Z0,Z1,ZP,Z0q,ZA,Z0,Z1,ZP,Z0r,ZQ,Z0,Z1,Z7,Z0l,ZA,Z0,Z1,Z0g,ZI]
def YG:List HB:=Y0++[Z07,Z6,Z0,Z01,Z05,Z1,Z08,Z04,ZC,Z0,Z1,Z3,Z02,Z2,Z0,Z1,Z00,ZI,Z0,Z1,Z09,Z3,Z03,Z2,Z0,Z1,Z3,Z0B,Z4,Z0,Z1,Z5,Z0D,Z2,Z0,Z1,Z5,Z0E,Z4,Z0,Z1,Z3,Z0C]
def YH:List HB:=Y1++[Z6,Jr,Z0Q,ZC,Z0,Z1,Z0T,Z7,Z0V,Z2,Z0,Z1,Z7,Z0Y,Z2,Z0,Z1,Z0v,Z0u,Z7,Z0y,Z2,Z0,Z1,Z7,Z1F,Z4,Z0,Z1]
def YI:List HB:=[Z3,ZB,Z2,Z0,Z1,Z3,ZE,Z4,Z0,Z1,Z5,ZF,Z2,Z0,Z1,Z5,ZG,Z4,Z0,Z1,Z3,ZD,Z2,Z0,Z1]
def YJ:List HB:=Y4++[Z0,Z1,Z5,Zi,Z2,Z0,Z1,Z5,Zj,Z4,Z0,Z1,Z3,Zh,Z2,Z0,Z1,Zk,Z0,Z1,Zq,Zp,Zo,Zn]
def YK:List HB:=Y7++[Z1,Z5,Zc,Z2,Z0,Z1,Z5,Zd,Z4,Z0,Z1,Z3,Za,Z2,Z0,Z1,Ze,Z0,Z1]
def YL:List HB:=Y1++[Z6,Jr,Z0Q,ZC,Z0,Z1,Z0T,Z7,Z0V,Z2,Z0,Z1,Z7,Z0Y,Z2]
end Go.Proofs.YtjkgcifieggcpaaGreat
