/- Part 17 of a proof: closed runs of the given program, and the readings of its code that they use. -/
import Derived.Test.YtjkgcifieggcpaaGreatP15
set_option linter.constructorNameAsVariable false
set_option linter.unusedVariables false
set_option linter.unusedSimpArgs false
set_option linter.unusedSectionVars false
namespace Tw
open Go
noncomputable def runN (P:Program) (T:iF) (L n f:Nat) (args:List TV) (h:List HB):Option (TV×List HB×List Nat):=Bd P T L n (.fn f [] []) args h
section
variable {P:Program} {T:iF} {call:ay} {L:Nat} {nt:Nat} {M:Mp} {h:List HB} {w:World}
theorem adZ (hm:P.follows .mixedOrders=true) (hE:aj P T.ext) {n f:Nat} {args:List TV} {v:TV} {h':List HB} {ws:List Nat} (hnf:T.exts.contains f=false) (lH:T.Lm.contains f=false) (hr:runN P T L (n+1) f args h=some (v,h',ws)) (hV:Valid M mg (iD h) w) (hl:∀ k,M (.l k)=none)
  {xs:List Value} (hx:aH M.h args xs) (k:Nat):CallsIn Fence.wide k P f xs.toArray w (yh (eP M h w v h' ws)):=by
 simp only[runN,Bd,hnf,lH,Bool.false_eq_true,if_false] at hr;have wz:aH M.h ([]++args++[]) xs:=by simpa using hx
 obtain⟨fn,c,_,_,_,e4⟩:=XB hm (Un hm hE n) hr ⟨hV,hl⟩ wz;exact e4 k
end
open Go.ChangeShapes Go.WideShapes Go.RowKit
section
variable {H:Type} {enc:TypeId×Value->H} {P:Program} {W W':World}
theorem a9C {T:iF} {L n g a4X:Nat} {f:Func} {s:ChangeSpec} {args:Array Value} {ds:List (DataW H)} {before:List MemPlace} {tb:TypeId} {r:Reach} {b:Nat} (hm:P.follows .mixedOrders=true)
  (hl:laidOutB P=true) (hv:s.vars=[]) (hs:s.fn H ds={ results:=[.lit (.bool true)],args:=ds })
  (hf:f.resultTypes=#[tb]) (htb:P.underlying tb=some .bool) (hp:(f.params.toList.all fun t=>P.readableRec t&&decide (t<P.types.size))=true)
  (hW:DataW.Whole enc P f.params.toList s.vars false W args.toList ds [] before)
  (a9n:∀ (j:Nat) t v,f.params[j]? = some t->args[j]? = some v->Value.okWide P W r b t v)
  {az:List TV} {h h':List HB} (he:Um P g f.params.toList ds []=some (az,h)) (hE:aj P T.ext) (hnf:T.exts.contains a4X=false) (lH:T.Lm.contains a4X=false) (hr:runN P T L (n+1) a4X az h=some (.bool true,h',[])) :
  Calls P a4X args W fun e W'=>∃ v,e=.returned v∧s.post enc P f false true false false W args v W':=by
 obtain⟨p,q,hA,_⟩:=id hW;have h0:lM (fun _=>none) [] W:=⟨⟨⟨by simp,by simp,by simp⟩,by simp⟩,by simp⟩;obtain⟨M',b1,_,v1⟩:=IK hA (fun j t v e1 e2=>a9n j t v (by simpa using e1) (by simpa using e2)) he h0;have hc:=adZ hm hE hnf lH hr b1.base.val b1.base.loc v1 0;refine (callsIn_wide.1 hc).mono fun e W' hR=>?_;cases e with
 | panicked c=>exact hR.elim
 | outgrown=>exact hR.elim
 | returned v=>
  obtain⟨M2,_,_,hX,WU⟩:=hR;cases WU;refine⟨_,rfl,QX hl hv hs hf htb hp hW ⟨hX.os,hX.tape,hX.output,hX.size,fun k hk=>hX.frame k hk (by simp)⟩⟩
end
end Tw
namespace Pv
open Go Tw
section
variable {X:iR} {P:Program} {T:iF} {A W:Nat->Prop} {m m':List MB}
variable {call:ay} {kX:iO X.Γ} {L:Nat}
theorem a9D (hX:aU X P) {n f:Nat} (hn:0<n) (hO:lC X P (Bd P T L (n-1)) kX) {vs:List (PV X.Γ)} {an:PT X.Γ} {v:PV X.Γ} {ext:List (PB X.Γ)}
  (hk:(PK X P T kX (qH X P (Bd P T L (n-1))) (KO X P T (Bd P T L (n-1)) L f 0) L f vs [] an).Ends (v,ext)):Con X P (Bd P T L n) f vs v ext:=by
 intro A h first args cap hup hv
 have hr:HR X P A [] [] h:=⟨rfl,fun i b hb=>by simp at hb,by simp[aK],hup,fun b hb=>by simp[aK] at hb⟩;obtain⟨w,h1,ws,m1,g1,g2,g3,g4,_,g6,g7⟩:=E8 hX hO (H:=[]) hk hr (hv.mono fun b hb=>⟨hb,by simp[aK]⟩);obtain⟨n,rfl⟩:∃ j,n=j+1:=⟨n-1,by omega⟩;have:ws=[]:=List.eq_nil_iff_forall_not_mem.2 fun x hx=>by have:=g6 x hx;simp[aK] at this
 subst this;exact⟨w,h1,m1,by simp only[Bd];simp only[Bool.or_eq_true,not_or] at g7;rw[if_neg g7.1,if_neg g7.2];exact g1,g2,g3,g4⟩
end
theorem OT.a3D {ρ σ:Type} {f:ρ->σ} {y:σ}:∀ {o:OT ρ},(o.map f).Ends y->∃ r,o.Ends r∧f r=y
 | .bad,h=>h.elim
 | .ret r,h=>⟨r,rfl,h⟩
 | .o p r,h=>by obtain⟨x,h1,h2⟩:=OT.a3D h.2;exact⟨x,⟨h.1,h1⟩,h2⟩
 | .br c t e,h=>by
  rcases h with⟨h0,h⟩ | ⟨h0,h⟩
  ·obtain⟨x,h1,h2⟩:=OT.a3D h;exact⟨x,.inl ⟨h0,h1⟩,h2⟩
  obtain⟨x,h1,h2⟩:=OT.a3D h;exact⟨x,.inr ⟨h0,h1⟩,h2⟩
section
variable {X:iR} {P:Program} {T:iF} {L:Nat}
def frz (r:PV X.Γ×List (PB X.Γ)):Option (PV X.Γ):=view r.2 r.1
theorem a8w (hX:aU X P) {call:ay} {f:FuncId} {vs:List (PV X.Γ)} {v w:PV X.Γ} {ext:List (PB X.Γ)} (hc:Con X P call f vs v ext) (hw:view ext v=some w):Con X P call f vs w []:=by
 intro A h first args cap hup hv
 obtain⟨x,h',m',c1,c2,c3,c4⟩:=hc A h first args cap hup hv
 refine⟨x,h',[],c1,⟨rfl,fun i b hb=>by simp at hb,by simp[aK],c2.up,fun b hb=>by simp[aK] at hb⟩,?_,?_⟩
 ·refine (PU (m':=[]) hX c2 c3 hw (is:=oW v) fun i hi=>hi).mono fun b hb=>⟨?_,by simp[aK]⟩;rcases hb with hb | ⟨i,mb,h1,h2,h3⟩
  ·exact hb.1
  exact c2.yK b (aC h2 h3)
 exact⟨c4.len,fun b hb hn=>c4.same b hb hn,fun b hb=>by simp[aK] at hb,c4.grow⟩
section
variable {f nt B:Nat} {eu:Bool} {call:ay} {kX:iO X.Γ}
theorem a8f {b:Code} {n k:Nat} {ps:aW X.Γ} {e:Ex} {fK:aW X.Γ} (h:vK X P T call L f eu nt B b n ps e fK) (hk:n<=k):vK X P T call L f eu nt B b k ps e fK:=fun A W fl m ts hS=>by
 obtain⟨dX,m1,h1,h2⟩:=h A W fl m ts hS;exact⟨dX,m1,CS h1 hk,h2⟩
theorem a1h {b:Code} {n:Nat} {s0 ps:aW X.Γ} {e:Ex} {fK:aW X.Γ} (h:vK X P T call L f eu nt B b n ps e fK) (h0:kY X (T.dG f (bZ b)) s0=ps) (hn:n<=L):iq X P T call L f eu nt B (.loop b) s0 e fK:=fun A W fl m ts hS=>by
 obtain⟨dX,m1,h1,h2⟩:=a8f h hn A W fl m ts (by rw[<-h0];exact hS.head _);exact⟨dX,m1,by simp only[exec];exact h1,h2⟩
end
theorem Good.deep {α β:Type} {f:FuncId} {a:NV X P α} {r:Ar X P β} {S:α->β} {pre:α->List Prop} {kX:iO X.Γ} (d:Nat) (hg:Good X P T L kX)
  (hf:∀ n,d<=n->(∀ m,n-d<=m->lC X P (Bd P T L m) kX)->∀ x,(∀ p∈pre x,p)->Con X P (Bd P T L (n+1)) f (a.put x) (r.put (S x)) []):Good X P T L (dL f a r S pre kX):=by
 obtain⟨N,hN⟩:=hg;refine⟨N+d+1,fun n hn=>?_⟩;obtain⟨k,rfl⟩:∃ k,n=k+1:=⟨n-1,by omega⟩;intro g vs v ext ps ho hp;unfold dL at ho;split at ho
 ·rename_i e;have e:=Nat.eq_of_beq_eq_true e;subst e;split at ho
  ·rename_i x hx;cases ho;intro A h first args cap hup hv
   exact hf k (by omega) (fun m hm=>hN m (by omega)) x hp A h first args cap hup (a.ok hx hv)
  ·exact hN (k+1) (by omega) g vs v ext ps ho hp
 ·exact hN (k+1) (by omega) g vs v ext ps ho hp
theorem dS {β:Type} (hX:aU X P) {n f:Nat} {kX:iO X.Γ} (hO:lC X P (Bd P T L n) kX) {vs:List (PV X.Γ)} {an:PT X.Γ} {r:Ar X P β} {s:β} {o:OT (Option (PV X.Γ))}
  (hk:(PK X P T kX (qH X P (Bd P T L n)) (KO X P T (Bd P T L n) L f 0) L f vs [] an).map frz=o) (ht:Fp (Is r s) an o):Con X P (Bd P T L (n+1)) f vs (r.put s) []:=
 by
 obtain⟨v,h1,h2⟩:=ht.ends;rw[<-hk] at h1;obtain⟨⟨v,H⟩,h3,rfl⟩:=OT.a3D h1;rcases h2 with h2 | ⟨w,h2,h4⟩
 ·exact a8w hX (a9D hX (n:=n+1) (by omega) hO h3) h2
 ·intro A h first args cap hup hv
  obtain⟨x,h',m',c1,c2,c3,c4⟩:=a8w hX (a9D hX (n:=n+1) (by omega) hO h3) h2 A h first args cap hup hv
  exact⟨x,h',m',c1,c2,r.ok h4 c3,c4⟩
theorem Fp.rr {β:Type} {r:Ar X P β} {s:β}:Fp (Is r s) (.n:PT X.Γ) (.ret (some (r.put s))):=.r (.inl rfl)
theorem Fp.rn {β:Type} {r:Ar X P β} {s:β} (w:PV X.Γ) (h:r.get w=some s):Fp (Is r s) (.n:PT X.Γ) (.ret (some w)):=.r (.inr ⟨w,rfl,h⟩)
theorem Fp.ss {β:Type} {r:Ar X P β} {c:Bool} {t e:β} {a b:PT X.Γ} {x y:OT (Option (PV X.Γ))} (h1:Fp (Is r t) a x) (h2:Fp (Is r e) b y):Fp (Is r (if c=true then t else e)) (.s a b) (.br c x y):=
 .s (fun h=>by subst h;exact h1) (fun h=>by subst h;exact h2)
theorem Fp.sh {β:Type} {r:Ar X P β} {c:Bool} {t e:β} {a b:PT X.Γ} {x y:OT (Option (PV X.Γ))} (h1:c=true->Fp (Is r t) a x) (h2:c=false->Fp (Is r e) b y):Fp (Is r (if c=true then t else e)) (.s a b) (.br c x y):=
 .s (fun h=>by rw[if_pos h];exact h1 h) (fun h=>by rw[if_neg (by rw[h];simp)];exact h2 h)
theorem Fp.zh {β:Type} {r:Ar X P β} {c:Bool} {t e:β} {a b:PT X.Γ} {x y:OT (Option (PV X.Γ))} (h1:c=true->Fp (Is r t) a x) (h2:c=false->Fp (Is r e) b y):Fp (Is r (if c=true then t else e)) (.z c a b) (.br c x y):=
 .z (fun h=>by rw[if_pos h];exact h1 h) (fun h=>by rw[if_neg (by rw[h];simp)];exact h2 h)
def IsS {β:Type} (r:Ar X P β) (s:β) (H:List (PB X.Γ)):PV X.Γ×List (PB X.Γ)->Prop:=fun v=>v=(r.put s,H)
theorem Fp.sr {β:Type} {r:Ar X P β} {s:β} {H:List (PB X.Γ)}:Fp (IsS r s H) (.n:PT X.Γ) (.ret (r.put s,H)):=.r rfl
theorem Fp.szh {β:Type} {r:Ar X P β} {H:List (PB X.Γ)} {c:Bool} {t e:β} {a b:PT X.Γ} {x y:OT (PV X.Γ×List (PB X.Γ))} (h1:c=true->Fp (IsS r t H) a x) (h2:c=false->Fp (IsS r e H) b y):Fp (IsS r (if c=true then t else e) H) (.z c a b) (.br c x y):=
 .z (fun h=>by rw[if_pos h];exact h1 h) (fun h=>by rw[if_neg (by rw[h];simp)];exact h2 h)
theorem Fp.ssh {β:Type} {r:Ar X P β} {H:List (PB X.Γ)} {c:Bool} {t e:β} {a b:PT X.Γ} {x y:OT (PV X.Γ×List (PB X.Γ))} (h1:c=true->Fp (IsS r t H) a x) (h2:c=false->Fp (IsS r e H) b y):Fp (IsS r (if c=true then t else e) H) (.s a b) (.br c x y):=
 .s (fun h=>by rw[if_pos h];exact h1 h) (fun h=>by rw[if_neg (by rw[h];simp)];exact h2 h)
theorem dV {β:Type} (hX:aU X P) {n f:Nat} {kX:iO X.Γ} (hO:lC X P (Bd P T L n) kX) {first xs cap:List (PV X.Γ)} {H H1:List (PB X.Γ)} {an:PT X.Γ} {r:Ar X P β} {s:β} {o:OT (PV X.Γ×List (PB X.Γ))}
  (hk:PK X P T kX (qH X P (Bd P T L n)) (KO X P T (Bd P T L n) L f H.length) L f (first++xs++cap) H an=o) (ht:Fp (IsS r s H1) an o):qH X P (Bd P T L (n+1)) (.fn f first cap) xs H (r.put s) H1:=by
 obtain⟨y,h1,h2⟩:=ht.ends;cases h2;rw[<-hk] at h1;exact a2r hX (n:=n+1) (by omega) hO h1
end
end Pv
namespace Tw
def a0i {α σ ρ:Type} (step:Nat->α->σ->σ⊕ρ):List α->Nat->σ->σ⊕ρ
 | [],_,s=>.inl s
 | a::l,i,s=>match step i a s with
  | .inl s'=>a0i step l (i+1) s'
  | .inr r=>.inr r
def agZ {σ ρ:Type} (d:σ):σ⊕ρ->σ
 | .inl s=>s
 | .inr _=>d
def ajJ {σ:Type}:σ⊕Empty->σ
 | .inl s=>s
end Tw
namespace Pv
open Go Tw
theorem bP {k n:Nat} (h:k<n):CO k n:=⟨by omega,by omega⟩
section
variable {X:iR} {P:Program} {T:iF} {L:Nat} {f nt B:Nat} {eu:Bool} {call:ay} {b:Code} {σ α ρ:Type}
theorem Fp.wG {τ:Type} {R:τ->Prop} (gs:List G) {c:Code} {e:Ex} {s s':aW X.Γ} {an:PT X.Γ} {o:OT τ} (h:iq X P T call L f eu nt B c s e s') (t:Fp R an o):Fp R (.a (.lg gs e s') an) (.o (iq X P T call L f eu nt B c s e s') o):=.l gs e s' h t
theorem Fp.goG {n:Nat} {e:Ex} {s s':aW X.Γ} (gs:List G) (h:vK X P T call L f eu nt B b n s' e s):Fp (Rnd X P T call L f eu nt B b n e s) (.a (.lg gs .norm ⟨[],[],[]⟩) .n:PT X.Γ) (.ret (.norm,s')):=Fp.g (v:=(Ex.norm,s')) gs h
theorem Fp.re {n:Nat} {s:aW X.Γ}:Fp (Rnd X P T call L f eu nt B b n .ret s) (.n:PT X.Γ) (.ret (.ret,s)):=Fp.r (v:=(Ex.ret,s)) ⟨rfl,rfl⟩
def cont (out:σ⊕ρ->Ex×aW X.Γ) (g:Nat->α->σ->σ⊕ρ) (l:List α) (i:Nat):σ⊕ρ->Ex×aW X.Γ
 | .inl s=>out (a0i g l i s)
 | .inr r=>out (.inr r)
section
variable {τ:Type} {K:τ->Ex×aW X.Γ} {n:Nat}
theorem Fp.ou {x:τ} (h:(K x).1≠.norm):Fp (Rn X P T call L f eu nt B b n K x) (.n:PT X.Γ) (.ret (K x)):=by
 refine Fp.r ?_;unfold Rn Rnd;split
 ·rename_i e;rw[e] at h;exact absurd rfl h
 rename_i e;rw[e];exact⟨rfl,rfl⟩
end
theorem a7o {l:List α} (d:α) {st:Int->σ->aW X.Γ} {g:Nat->α->σ->σ⊕ρ} {out:σ⊕ρ->Ex×aW X.Γ} {s0:σ} {w:aW X.Γ} (Inv:Nat->σ->Prop) (h0:kY X (T.dG f (bZ b)) w=st 0 s0) (hl:l.length<=aO) (hL:aO<L) (hi:Inv 0 s0)
  (hs:∀ (k:Nat) (s:σ) (n:Nat),k<l.length->Inv k s->(∀ s1,Inv (k+1) s1->vK X P T call L f eu nt B b n (st (IntKind.i64.wrap (k+1)) s1) (cont out g (l.drop (k+1)) (k+1) (.inl s1)).1 (cont out g (l.drop (k+1)) (k+1) (.inl s1)).2) ->
   vK X P T call L f eu nt B b (n+1) (st k s) (cont out g (l.drop (k+1)) (k+1) (g k (l.getD k d) s)).1 (cont out g (l.drop (k+1)) (k+1) (g k (l.getD k d) s)).2)
  (ho:∀ s,Inv l.length s->vK X P T call L f eu nt B b 1 (st l.length s) (out (.inl s)).1 (out (.inl s)).2) :
  iq X P T call L f eu nt B (.loop b) w (out (a0i g l 0 s0)).1 (out (a0i g l 0 s0)).2:=by
 have key:∀ (m k:Nat) (s:σ),k+m=l.length->Inv k s->vK X P T call L f eu nt B b (m+1) (st k s) (out (a0i g (l.drop k) k s)).1 (out (a0i g (l.drop k) k s)).2:=by
  intro m
  induction m with
  | zero=>
   intro k s hk hr;have:k=l.length:=(by omega);subst this;rw[List.drop_length];exact ho s hr
  | succ m ih=>
   intro k s hk hr;have aN:k<l.length:=(by omega);have h1:=hs k s (m+1) aN hr fun s1 h=>by
    have:=ih (k+1) s1 (by omega) h;rw[Yc (by omega)];exact this
   have hd:l.getD k d=l[k]:=(by simp[List.getD,List.getElem?_eq_getElem aN]);rw[List.drop_eq_getElem_cons aN];simp only[a0i];rw[hd] at h1;cases hg:g k l[k] s with
   | inl s1=>rw[hg] at h1;exact h1
   | inr r=>rw[hg] at h1;exact h1
 exact a1h (key l.length 0 s0 (by omega) hi) h0 (by omega)
theorem pF {c:Code} {w:aW X.Γ} {R:σ⊕ρ} {out:σ⊕ρ->Ex×aW X.Γ} (h:iq X P T call L f eu nt B c w (out R).1 (out R).2) (d:σ) (hR:G8 R=true):iq X P T call L f eu nt B c w (out (.inl (agZ d R))).1 (out (.inl (agZ d R))).2:=by
 cases R with
 | inl s=>exact h
 | inr r=>cases hR
theorem rC {c:Code} {w:aW X.Γ} {R:σ⊕ρ} {out:σ⊕ρ->Ex×aW X.Γ} (h:iq X P T call L f eu nt B c w (out R).1 (out R).2) (d:ρ) (hR:G8 R=false):iq X P T call L f eu nt B c w (out (.inr (a2u d R))).1 (out (.inr (a2u d R))).2:=by
 cases R with
 | inl s=>cases hR
 | inr r=>exact h
end
def a0o {Γ:Nat->Type} (env:List (Nat×PE Γ)):List Nat->List (PV Γ)->List (Nat×PE Γ)
 | p::ps,v::vs=>a0o ((p,.val v)::env) ps vs
 | _,_=>env
section
variable {X:iR} {P:Program} {T:iF} {A W:Nat->Prop} {m m':List MB} {h h':List HB} {L f nt B:Nat}
theorem a7p:∀ {ps:List Nat} {vs:List (PV X.Γ)} {xs:List TV} {env:List (Nat×PE X.Γ)} {env':List (Nat×EV)},gG X P A m h env env'->aH X P A m h vs xs->gG X P A m h (a0o env ps vs) (qJ env' ps xs)
 | [],vs,xs,_,_,he,hv=>by simpa[a0o,qJ] using he
 | p::ps,[],xs,_,_,he,hv=>by rw[hv.inv0];simpa[a0o,qJ] using he
 | p::ps,v::vs,xs,_,_,he,hv=>by
  obtain⟨x,r,rfl,h1,h2⟩:=hv.inv;simp only[a0o,qJ];exact a7p (gG.cons (v:=.val v) (x:=.val x) h1 he) h2
theorem aad (hX:aU X P) {call:ay} {g:Operand} {qs:Array Nat} {mG body:Code} {ps:aW X.Γ} {f1:FuncId} {a1 b1:List (PV X.Γ)} {v:PV X.Γ} {H1:List (PB X.Γ)} {rd:Bool} {f2 Dn:Nat} {e2:List (Nat×PE X.Γ)} {rY:List Nat} {a2 b2:Code} {gK:Option Code} {e:Ex}
  (hg:wF ps.env g=some (.fn f1 a1 b1)) (DR:(ps.env.all fun p=>NZ p.2)=true)
  (aaV:qH X P call (.fn f1 a1 b1) [.jk (ps.heap.length+1)] (ps.heap++[.mark]++[.loop true f nt ps.env qs.toList mG body none]) v H1)
  (hl:H1[ps.heap.length+1]? = some (.loop rd f2 Dn e2 rY a2 b2 gK)) (hj:Dl rd gK=some e) :
  iq X P T call L f false nt B (.rangeFunc g qs mG body) ps e { ps with heap:=H1.set (ps.heap.length+1) (.loop false f2 Dn e2 rY a2 b2 (some .skip)) }:=by
 intro A W fl m ts hS;obtain⟨tg,g1,g2⟩:=fM hS.st.env hg;have hm:=hS.st.heap.len;obtain⟨p1,p2,p3⟩:=hS.st.heap.push (pb:=.mark) (hb:=.mark) (mb:=.cO ts.heap.length) (.inl rfl) (by simp[BR]);obtain⟨q1,q2,q3⟩:=p1.push (pb:=.loop true f nt ps.env qs.toList mG body none) (hb:=.loop true f nt ts.env qs.toList mG body none) (mb:=.cO (ts.heap.length+1)) (.inl (by simp[MB.own])) (by
  refine⟨ts.env,by simp,?_⟩;refine gG.step (m:=m) (h:=ts.heap) (A:=A) ?_ ?_ hS.st.env
  ·have r2:Fr (m++[MB.cO ts.heap.length]) (ts.heap++[HB.mark]) (m++[MB.cO ts.heap.length]++[MB.cO (ts.heap.length+1)]) (ts.heap++[HB.mark]++[HB.loop true f nt ts.env qs.toList mG body none]):=by
    refine⟨by simp,fun b hb _=>by rw[List.getElem?_append_left hb],fun b hb=>?_,fun b cs hc=>⟨cs,?_,Nat.le_refl _⟩⟩
    ·rw[dK,List.mem_append,fH] at hb;rcases hb with hb | hb
     ·exact .inl hb
     ·simp[MB.own] at hb;subst hb;exact .inr (by simp)
    ·rw[cu (List.getElem?_append_left (bU hc)),hc]
   exact p2.trans r2
  ·exact p3.trans (nC _))
 have hF:=p2.trans q2;have hU:=p3.trans q3;have hyl:VR X P (AA A (m++[MB.cO ts.heap.length]++[MB.cO (ts.heap.length+1)])) (m++[MB.cO ts.heap.length]++[MB.cO (ts.heap.length+1)]) (ts.heap++[HB.mark]++[HB.loop true f nt ts.env qs.toList mG body none]) (.jk (ps.heap.length+1)) (.jk (ts.heap.length+1)):=by
  refine .jk ?_;rw[<-hm,List.getElem?_append_right (by simp)];simp
 obtain⟨w,h1,ws,m1,c1,c2,c3,c4,c5,c6⟩:=aaV A _ _ tg [.jk (ts.heap.length+1)] q1 (g2.step hF hU) (.cons hyl .nil);have Io:m1[ps.heap.length+1]? = some (.cO (ts.heap.length+1)):=by
  rcases c5 (ps.heap.length+1) (.cO (ts.heap.length+1)) (by rw[<-hm,List.getElem?_append_right (by simp)];simp) with e | e
  ·exact e
  ·obtain⟨mb,k1,k2⟩:=c2.at_ _ _ hl;rw[e] at k1;cases k1;exact k2.elim
 obtain⟨mb,k1,k2⟩:=c2.at_ _ _ hl;rw[Io] at k1;cases k1;obtain⟨OI,k3,k4⟩:=k2;obtain⟨s1,s2⟩:=c2.set (i:=ps.heap.length+1) (c:=ts.heap.length+1) (pb:=.loop false f2 Dn e2 rY a2 b2 (some .skip)) (hb:=.loop false f2 Dn OI rY a2 b2 (some .skip)) Io rfl (fun cs hc=>by unfold aB at hc;rw[k3] at hc;cases hc) (fun hF=>⟨OI,by rw[List.getElem?_set_self (List.getElem?_eq_some_iff.1 k3).1],k4.step hF .refl⟩);have hF2:=hF.trans (c4.trans s2);have hU2:=hU.trans c5;refine⟨{ ts with heap:=h1.set (ts.heap.length+1) (.loop false f2 Dn OI rY a2 b2 (some .skip)),ws:=dn fl (ws.map .h) ts.ws },m1,?_,⟨?_,fun b hb=>?_,fun b hb=>?_,?_⟩,hF2,hU2.b⟩
 ·have hg':∃ a1' b1',tg=.fn f1 a1' b1':=by
   cases g2 with
   | gone hi _ _=>simp[aG] at hi
   | fn _ _ _ _=>exact⟨_,_,rfl⟩
  obtain⟨a1',b1',rfl⟩:=hg';simp only[exec,g1,Vd hS.st.env DR,Bool.not_false,Bool.and_self,if_true];rw[show ts.heap++[HB.mark,HB.loop true f nt ts.env qs.toList mG body none]=ts.heap++[HB.mark]++[HB.loop true f nt ts.env qs.toList mG body none] by simp,c1];simp only[k3,hj]
 ·have q:=hS.st.step s1 hF2 hU2;exact⟨q.heap,q.llen,q.loc,q.env⟩
 ·rcases hF2.new b hb with k | k
  ·exact hS.own b k
  ·exact .inr (Nat.le_trans hS.fl k)
 ·rcases vJ hb with k | ⟨k,k'⟩
  ·exact hS.ws b k
  ·obtain⟨b',rO,e⟩:=List.mem_map.1 k;cases e;rcases hF.new b (c6 b rO) with k2 | k2
   ·rcases hS.own b k2 with k3 | k3
    ·exact k3
    ·omega
   ·have:=hS.fl;omega
 ·exact Nat.le_trans hS.fl hF2.len
theorem a4q (hX:aU X P) {n l:Nat} {xs:List (PV X.Γ)} {H:List (PB X.Γ)} {env:List (Nat×PE X.Γ)} {ps:List Nat} {mG body:Code} {gK:Option Code} {s1 s2:aW X.Γ} {e:Ex}
  {f' WQ:Nat} {env':List (Nat×PE X.Γ)} {WR:List Nat} {a' b':Code} {abU:Option Code} {f'' afm:Nat} {aeN:List (Nat×PE X.Γ)} {afn:List Nat} {a'' b'':Code}
  (hl:H[l]? = some (.loop true f nt env ps mG body gK)) (hlen:xs.length=ps.length) (hps:(ps.all fun p=>decide (p<nt))=true)
  (h1:iq X P T (Bd P T L n) L f true nt H.length mG ⟨a0o env ps xs,[],H⟩ .norm s1) (hl1:s1.heap[l]? = some (.loop true f' WQ env' WR a' b' abU))
  (h2:iq X P T (Bd P T L n) L f true nt H.length body { s1 with heap:=s1.heap.set l (.loop false f' WQ env' WR a' b' none) } e s2)
  (SA:s2.heap[l]? = some (.loop false f'' afm aeN afn a'' b'' none)) :
  qH X P (Bd P T L (n+1)) (.jk l) xs H (.bool (kJ e)) (s2.heap.set l (.loop (kJ e) f'' afm aeN afn a'' b'' (mP e))):=by
 intro A m h tf nI hr hf hx;have aN:l<H.length:=(List.getElem?_eq_some_iff.1 hl).1;obtain⟨mb,k1,k2⟩:=hr.at_ l _ hl;cases mb with
 | bK _=>exact k2.elim
 | cZ _=>exact k2.elim
 | gone=>exact k2.elim
 | cO c=>
 obtain⟨te,k3,k4⟩:=k2;have SH:c∈aK m:=aC k1 rfl;cases hf with
 | gone hi WS _=>simp only[aG,Option.some.injEq] at hi;subst hi;rw[k1] at WS;cases WS
 | jk hy=>
 rw[k1] at hy;cases hy;have hS:SR X P A (fun b=>b∈aK m) h.length m ⟨a0o env ps xs,[],H⟩ ⟨qJ te ps nI,[],h,[]⟩:=
  ⟨⟨hr,rfl,fun k cs hk=>by simp at hk,a7p (env:=env) (env':=te) k4 hx⟩,fun b hb=>.inl hb,fun b hb=>(by cases hb),Nat.le_refl _⟩
 obtain⟨t1,m1,x1,x2,x3,x4⟩:=h1 A _ _ m _ hS;have UW:∀ {M:List MB} {S:aW X.Γ} {TS:St} {W:Nat->Prop} {rd:Bool} {f0 n0:Nat} {ee:List (Nat×PE X.Γ)} {pp:List Nat} {aa bb:Code} {pe:Option Code},SR X P A W h.length M S TS->FP H.length m M->S.heap[l]? = some (.loop rd f0 n0 ee pp aa bb pe)->M[l]? = some (.cO c)∧∃ te,TS.heap[c]? = some (.loop rd f0 n0 te pp aa bb pe)∧gG X P (AA A M) M TS.heap ee te:=by
  intro M S TS W rd f0 n0 ee pp aa bb pe hS hU hh;obtain⟨mb,j1,j2⟩:=hS.st.heap.at_ l _ hh;rcases hU l _ aN k1 with e | e
  ·rw[e] at j1;cases j1;obtain⟨te,j3,j4⟩:=j2;exact⟨e,te,j3,j4⟩
  ·rw[e] at j1;cases j1;exact j2.elim
 have ah0:∀ {M:List MB} {S:aW X.Γ} {TS:St} {W:Nat->Prop} {rd:Bool} {f0 n0:Nat} {ee:List (Nat×PE X.Γ)} {pp:List Nat} {aa bb:Code} {pe:Option Code} (rd':Bool) (pe':Option Code),SR X P A W h.length M S TS->FP H.length m M->S.heap[l]? = some (.loop rd f0 n0 ee pp aa bb pe)->∃ te,TS.heap[c]? = some (.loop rd f0 n0 te pp aa bb pe)∧HR X P A M (S.heap.set l (.loop rd' f0 n0 ee pp aa bb pe')) (TS.heap.set c (.loop rd' f0 n0 te pp aa bb pe'))∧Fr M TS.heap M (TS.heap.set c (.loop rd' f0 n0 te pp aa bb pe')):=by
  intro M S TS W rd f0 n0 ee pp aa bb pe rd' pe' hS hU hh;obtain⟨j1,te,j3,j4⟩:=UW hS hU hh;obtain⟨s1,s2⟩:=hS.st.heap.set (i:=l) (c:=c) (pb:=.loop rd' f0 n0 ee pp aa bb pe') (hb:=.loop rd' f0 n0 te pp aa bb pe') j1 rfl (fun cs hc=>by unfold aB at hc;rw[j3] at hc;cases hc) (fun hF=>⟨te,by rw[List.getElem?_set_self (List.getElem?_eq_some_iff.1 j3).1],j4.step hF .refl⟩);exact⟨te,j3,s1,s2⟩
 obtain⟨te1,y1,y2,y3⟩:=ah0 false none x2 x4 hl1;have hS1:SR X P A (fun b=>b∈aK m) h.length m1 { s1 with heap:=s1.heap.set l (.loop false f' WQ env' WR a' b' none) } { t1 with heap:=t1.heap.set c (.loop false f' WQ te1 WR a' b' none),ws:=xM h.length c t1.ws }:=by
  have q:=x2.st.step y2 y3 .refl;refine⟨⟨q.heap,q.llen,q.loc,q.env⟩,x2.own,fun b hb=>?_,Nat.le_trans x2.fl y3.len⟩;rcases vJ (ks:=[.h c]) hb with k | ⟨k,_⟩
  ·exact x2.ws b k
  ·simp at k;subst k;exact SH
 obtain⟨t2,m2,z1,z2,z3,z4⟩:=h2 A _ _ m1 _ hS1;obtain⟨te2,u1,u2,u3⟩:=ah0 (kJ e) (mP e) z2 (x4.trans z4) SA;have hF:=(x3.trans y3).trans (z3.trans u3);refine⟨.bool (kJ e),t2.heap.set c (.loop (kJ e) f'' afm te2 afn a'' b'' (mP e)),xM h.length c t2.ws,m2,?_,u2,.bool _,hF,fun i mb hi=>(x4.trans z4) i mb ?_ hi,fun b hb=>?_⟩
 ·have hl':nI.length=ps.length:=by rw[<-hx.1,hlen]
  simp only[Bd,ap,zM,k3,hl',hps,and_self,if_true,x1,y1,z1,u1]
 ·rw[<-hr.len];exact (List.getElem?_eq_some_iff.1 hi).1
 ·rcases vJ (ks:=[.h c]) hb with k | ⟨k,_⟩
  ·exact z2.ws b k
  ·simp at k;subst k;exact SH
end
def itF {σ ρ:Type} (g:σ->σ⊕ρ):Nat->σ->Option ρ
 | 0,_=>none
 | k+1,s=>match g s with
  | .inl s1=>itF g k s1
  | .inr r=>some r
section
variable {X:iR} {P:Program} {T:iF} {L:Nat} {f nt B:Nat} {eu:Bool} {call:ay} {b:Code} {σ ρ:Type}
def a3u (out:ρ->Ex×aW X.Γ) (r:ρ):σ⊕ρ->Ex×aW X.Γ
 | .inl _=>out r
 | .inr r'=>out r'
theorem acj {st:σ->aW X.Γ} {g:σ->σ⊕ρ} {out:ρ->Ex×aW X.Γ} (Inv:σ->Prop) (hi:∀ s s1,Inv s->g s=.inl s1->Inv s1)
  (hs:∀ s n r,Inv s->(∀ s1,g s=.inl s1->vK X P T call L f eu nt B b n (st s1) (out r).1 (out r).2)->vK X P T call L f eu nt B b (n+1) (st s) (a3u out r (g s)).1 (a3u out r (g s)).2) :
  ∀ {k:Nat} {s:σ} {r:ρ},Inv s->itF g k s=some r->vK X P T call L f eu nt B b k (st s) (out r).1 (out r).2
 | 0,s,r,_,h=>by cases h
 | k+1,s,r,hv,h=>by
  simp only[itF] at h;have h1:=hs s k r hv fun s1 h1=>by
   rw[h1] at h;exact acj Inv hi hs (hi s s1 hv h1) h
  cases hg:g s with
  | inl s1=>rw[hg] at h1;exact h1
  | inr r'=>rw[hg] at h1 h;simp only[Option.some.injEq] at h;subst h;exact h1
theorem a4J {st:σ->aW X.Γ} {g:σ->σ⊕ρ} {out:ρ->Ex×aW X.Γ} (Inv:σ->Prop) {k:Nat} {s:σ} {r:ρ} {w:aW X.Γ} (hr:itF g k s=some r) (h0:kY X (T.dG f (bZ b)) w=st s) (hk:k<=L) (hv:Inv s) (hi:∀ s s1,Inv s->g s=.inl s1->Inv s1)
  (hs:∀ s n r,Inv s->(∀ s1,g s=.inl s1->vK X P T call L f eu nt B b n (st s1) (out r).1 (out r).2)->vK X P T call L f eu nt B b (n+1) (st s) (a3u out r (g s)).1 (a3u out r (g s)).2) :
  iq X P T call L f eu nt B (.loop b) w (out r).1 (out r).2:=a1h (acj Inv hi hs hv hr) h0 hk
end
section
variable {X:iR} {P:Program} {T:iF} {L:Nat}
theorem Good.ah1 {α:Type} {f:FuncId} {a:NV X P α} {v:α->PV X.Γ} {ext:α->List (PB X.Γ)} {pre:α->List Prop} {kX:iO X.Γ} (d:Nat) (hg:Good X P T L kX)
  (hf:∀ n,d<=n->(∀ m,n-d<=m->lC X P (Bd P T L m) kX)->∀ x,(∀ p∈pre x,p)->Con X P (Bd P T L (n+1)) f (a.put x) (v x) (ext x)):Good X P T L (aa3 f a v ext pre kX):=by
 obtain⟨N,hN⟩:=hg;refine⟨N+d+1,fun n hn=>?_⟩;obtain⟨k,rfl⟩:∃ k,n=k+1:=⟨n-1,by omega⟩;intro g vs v ext ps ho hp;unfold aa3 at ho;split at ho
 ·rename_i e;have e:=Nat.eq_of_beq_eq_true e;subst e;split at ho
  ·rename_i x hx;cases ho;intro A h first args cap hup hv
   exact hf k (by omega) (fun m hm=>hN m (by omega)) x hp A h first args cap hup (a.ok hx hv)
  ·exact hN (k+1) (by omega) g vs v ext ps ho hp
 ·exact hN (k+1) (by omega) g vs v ext ps ho hp
theorem ah2 (hX:aU X P) {n f:Nat} {kX:iO X.Γ} (hO:lC X P (Bd P T L n) kX) {vs:List (PV X.Γ)} {an:PT X.Γ} {v:PV X.Γ} {H:List (PB X.Γ)} {o:OT (PV X.Γ×List (PB X.Γ))}
  (hk:PK X P T kX (qH X P (Bd P T L n)) (KO X P T (Bd P T L n) L f 0) L f vs [] an=o) (ht:Fp (IsE v H) an o):Con X P (Bd P T L (n+1)) f vs v H:=by
 obtain⟨y,h1,h2⟩:=ht.ends;cases h2;rw[<-hk] at h1;exact a9D hX (n:=n+1) (by omega) hO h1
end
theorem Good.ah3 {X:iR} {P:Program} {T:iF} {L:Nat} {α β:Type} {f:FuncId} {a:NV X P α} {r:Ar X P β} {S:α->β} {pre:α->List Prop} {kX a8x:iO X.Γ} (d:Nat) (hg:Good X P T L kX) (hg2:Good X P T L a8x)
  (hf:∀ n,d<=n->(∀ m,n-d<=m->lC X P (Bd P T L m) kX)->(∀ m,n-d<=m->lC X P (Bd P T L m) a8x)->∀ x,(∀ p∈pre x,p)->Con X P (Bd P T L (n+1)) f (a.put x) (r.put (S x)) []):Good X P T L (dL f a r S pre kX):=by
 obtain⟨N2,hN2⟩:=hg2;obtain⟨M,hM⟩:=hg;refine⟨M+N2+d+1,fun n hn=>?_⟩;obtain⟨k,rfl⟩:∃ k,n=k+1:=⟨n-1,by omega⟩;intro g vs v ext ps ho hp;unfold dL at ho;split at ho
 ·rename_i e;have e:=Nat.eq_of_beq_eq_true e;subst e;split at ho
  ·rename_i x hx;cases ho;intro A h first args cap hup hv
   exact hf k (by omega) (fun m hm=>hM m (by omega)) (fun m hm=>hN2 m (by omega)) x hp A h first args cap hup (a.ok hx hv)
  ·exact hM (k+1) (by omega) g vs v ext ps ho hp
 ·exact hM (k+1) (by omega) g vs v ext ps ho hp
section
variable {X:iR} {P:Program} {T:iF} {L f nt B:Nat} {eu:Bool} {call:ay} {kX:iO X.Γ}
theorem a1c (hX:aU X P) (hO:lC X P call kX) {c:Code} {ps fK:aW X.Γ} {an:PT X.Γ} {e:Ex} {o:OT (Ex×aW X.Γ)}
  (hk:fP X P T kX (qH X P call) (iq X P T call L f eu nt B) B L f eu nt c ps an a2s=o) (ht:Fp (fun y=>y=(e,fK)) an o):iq X P T call L f eu nt B c ps e fK:=by
 obtain⟨y,h1,rfl⟩:=ht.ends;rw[<-hk] at h1;exact Va hX hO h1
end
theorem qH.forget {X:iR} {P:Program} {call:ay} {fv:PV X.Γ} {xs:List (PV X.Γ)} {H H1:List (PB X.Γ)} {v:PV X.Γ} (hs:qH X P call fv xs H v H1) (i:Nat):qH X P call fv xs H v (H1.set i .gone):=by
 intro A m h tf nI hr hf hx;obtain⟨w,h',ws,m1,c1,c2,c3,c4,c5,c6⟩:=hs A m h tf nI hr hf hx;have hg:=c2.aI [i];have hf2:=eU (h:=h') [i] m1;exact⟨w,h',ws,_,c1,hg,c3.step hf2.1 hf2.2,c4.trans hf2.1,c5.trans hf2.2,c6⟩
section
variable {X:iR} {P:Program} {A:Nat->Prop} {m:List MB} {h:List HB}
theorem VR.ae1 {k:IntKind} {n:Int} {y:TV} (hy:VR X P A m h (.int k n) y):y=.int k n:=by
 cases hy with
 | int=>rfl
 | gone hi _ _=>simp[aG] at hi
theorem VR.acn {f:FuncId} {y:TV} (hy:VR X P A m h (.fn f [] []) y):y=.fn f [] []:=by
 cases hy with
 | gone hi _ _=>simp[aG] at hi
 | fn p1 _ p3 _=>rw[List.eq_nil_of_length_eq_zero p1.symm,List.eq_nil_of_length_eq_zero p3.symm]
theorem afo {k ex:Bool} {t:Nat} {l:List (X.Γ t)} {x:TV} (hl:LR X P A m h k ex t l x):(l=[]∧x=.nil .slc)∨(l=[]∧∃ b off sz cs,x=.slc b off 0 0 sz true∧A b∧aB h b=some cs∧off<=cs.length∧aZ P t=some sz∧0<sz) ∨
  (l≠[]∧∃ b sz e kk cs,x=.slc b 0 l.length l.length sz e∧aZ P t=some sz∧0<sz∧h[b]? = some (.cells kk cs)∧kk≠.ro∧(k=true->kk=.own)∧(ex=true->e=true)∧cs.length=l.length*sz∧aX X P A m h t l cs 0 sz):=by
 cases hl with
 | nil=>exact .inl ⟨rfl,rfl⟩
 | emp p0 p1 p2 p3 p4=>exact .inr (.inl ⟨rfl,_,_,_,_,rfl,p0,p1,p2,p3,p4⟩)
 | some p1 p2 p3 p4 p5 p6 p7 p8 p9=>exact .inr (.inr ⟨p1,_,_,_,_,_,rfl,p2,p3,p4,p5,p6,p7,p8,p9⟩)
theorem ae2 {H:List (PB X.Γ)} {i:Nat} {x:TV} {k ex:Bool} {t:Nat} {l:List (X.Γ t)} (hr:HR X P A m H h) (hi:H[i]? = some (.list k ex t l)) (hv:VR X P (AA A m) m h (.own i) x):m[i]? = some (.bK x)∧LR X P (AA A m) m h k ex t l x:=by
 obtain⟨mb,g1,g2⟩:=hr.at_ i _ hi;cases hv with
 | own e _=>
  rw[g1] at e;cases e;exact⟨g1,g2⟩
 | gone WS e _=>
  simp only[aG,Option.some.injEq] at WS;subst WS;rw[g1] at e;cases e<;>exact g2.elim
end
section
variable {X:iR} {P:Program}
theorem aco {A:Nat->Prop} {m:List MB} {h:List HB} {t:Nat} {fu:Bool} {x:TV} (hv:VR X P A m h (.bK t [] fu) x):x=.nil .slc∨∃ b off cap sz ex cs,x=.slc b off 0 cap sz ex∧A b∧aB h b=some cs∧aZ P t=some sz∧0<sz∧off<=cs.length:=by
 generalize hl:([]:List (X.Γ t))=l at hv;cases hv with
 | jZ=>exact .inl rfl
 | bK a c c2 s z o k f e r=>
  subst hl;exact .inr ⟨_,_,_,_,_,_,rfl,a,c,s,z,by simpa using o⟩
 | gone hi _ _=>simp[aG] at hi
theorem a8y {A:Nat->Prop} {h:List HB} {t:Nat} {x:TV} (hup:∀ b,h.length<=b->A b) (hx:LR X P (AA A [.bK x]) [.bK x] h false false t [] x) (ho:(MB.bK x).own=none):HR X P A [.bK x] [.list false false t []] h:=by
 have hb:aK [MB.bK x]=[]:=by simp[aK,ho]
 refine⟨rfl,fun i b hi=>?_,by rw[hb];exact List.nodup_nil,hup,fun b rO=>by rw[hb] at rO;cases rO⟩;cases i with
 | zero=>simp only[List.getElem?_cons_zero,Option.some.injEq] at hi;subst hi;exact⟨.bK x,rfl,hx⟩
 | succ i=>simp at hi
end
end Pv
namespace Go.Proofs.YtjkgcifieggcpaaGreat
open Go Tw
def Fa (g:Int->Bool) (i:Nat) (x:Int) (s:Unit):(Unit)⊕(Nat×Int×(Unit)):=
 if (g x)=true then .inr (i,x,s) else .inl ()
def TL (g:Int->Bool) (l:List Int):Int:=
 if (G8 (a0i (Fa g) l 0 ()))=true then -1 else (((a2u (0,0,()) (a0i (Fa g) l 0 ())).1:Int))
def o8 (g:Int->Bool) (l:List Int):Bool:=
 decide ((TL g l)>=0)
theorem acp (g:Int->Bool):∀ (l:List Int) (i:Nat),G8 (a0i (Fa g) l i ())=!(l.any g)
 | [],i=>rfl
 | x::l,i=>by
  simp only[a0i,Fa,List.any_cons];cases g x with
  | true=>rfl
  | false=>simpa using acp g l (i+1)
theorem a1i (g:Int->Bool) (l:List Int):o8 g l=l.any g:=by
 have:=acp g l 0;unfold o8 TL;rw[this];cases l.any g with
 | true=>simp
 | false=>simp
def a1l (g:V->Bool) (i:Nat) (x:V) (s:Unit):(Unit)⊕(Nat×V×(Unit)):=
 if (g x)=true then .inr (i,x,s) else .inl ()
def a1x (g:V->Bool) (l:List V):Int:=
 if (G8 (a0i (a1l g) l 0 ()))=true then -1 else (((a2u (0,V0,()) (a0i (a1l g) l 0 ())).1:Int))
def a0G (g:V->Bool) (l:List V):Bool:=
 decide ((a1x g l)>=0)
theorem acr (g:V->Bool):∀ (l:List V) (i:Nat),G8 (a0i (a1l g) l i ())=!(l.any g)
 | [],i=>rfl
 | x::l,i=>by
  simp only[a0i,a1l,List.any_cons];cases g x with
  | true=>rfl
  | false=>simpa using acr g l (i+1)
theorem abM (g:V->Bool) (l:List V):a0G g l=l.any g:=by
 have:=acr g l 0;unfold a0G a1x;rw[this];cases l.any g with
 | true=>simp
 | false=>simp
end Go.Proofs.YtjkgcifieggcpaaGreat
namespace Pv
open Go Tw
theorem a7q {σ ρ:Type} {g:Nat->σ->σ}:∀ (m k:Nat) (s:σ),RG (ρ:=ρ) (fun k s=>.inl (g k s)) m k s=.inl (uq g m k s)
 | 0,_,_=>rfl
 | m+1,k,s=>a7q m (k+1) (g k s)
theorem acs {c:Nat->Bool} {ρ:Type} {r:Nat->ρ} {m k:Nat} (h:G8 (RG (σ:=Unit) (fun k _=>if c k=true then .inr (r k) else .inl ()) m k ())=false):∃ j,k<=j∧j<k+m∧c j=true∧(∀ i,k<=i->i<j->c i=false)∧RG (σ:=Unit) (fun k _=>if c k=true then .inr (r k) else .inl ()) m k ()=.inr (r j):=by
 induction m generalizing k with
 | zero=>simp[RG,G8] at h
 | succ m ih=>
  simp only[RG] at h ⊢;by_cases hc:c k=true
  ·simp only[hc,if_true];exact⟨k,Nat.le_refl _,by omega,hc,fun i h1 h2=>by omega,rfl⟩
  simp only[hc,Bool.false_eq_true,if_false] at h ⊢;obtain⟨j,h1,h2,h3,h4,h5⟩:=ih h;exact⟨j,by omega,by omega,h3,fun i Tf WS=>by
   rcases Nat.lt_or_ge k i with h6 | h6
   ·exact h4 i h6 WS
   rw[show i=k by omega];simpa using hc,h5⟩
theorem a4v {c:Nat->Bool} {N:Nat} (h:G8 (pJ c N)=false):∃ j,j<N∧c j=true∧(∀ i,i<j->c i=false)∧pJ c N=.inr j:=by
 obtain⟨j,_,h2,h3,h4,h5⟩:=acs (r:=fun k=>k) h;exact⟨j,by omega,h3,fun i hi=>h4 i (by omega) hi,h5⟩
def a4K {σ:Type} (g:Nat->σ->σ):Nat->σ->σ
 | 0,s=>s
 | k+1,s=>a4K g k (g k s)
theorem a7I {σ:Type} {g:Nat->σ->σ} (Q:Nat->σ->Prop):∀ {k:Nat} {s:σ},Q k s->(∀ j s,j<k->Q (j+1) s->Q j (g j s))->Q 0 (a4K g k s)
 | 0,_,h,_=>h
 | k+1,s,h,hs=>a7I Q (k:=k) (hs k s (by omega) h) fun j s h1 h2=>hs j s (by omega) h2
theorem a3E {α:Type} {a b:List α} {d:α} (hl:a.length=b.length):a=b↔∀ j,j<a.length->a.getD j d=b.getD j d:=by
 constructor
 ·rintro rfl j _;rfl
 intro h;apply List.ext_getElem hl;intro j h1 h2;simpa[List.getD,List.getElem?_eq_getElem h1,List.getElem?_eq_getElem h2] using h j h1
section
variable {X:iR} {P:Program} {T:iF} {L:Nat} {f nt B:Nat} {eu:Bool} {call:ay} {b:Code} {σ ρ:Type}
def a0K (out:σ⊕ρ->Ex×aW X.Γ) (g:Nat->σ->σ⊕ρ) (m k:Nat):σ⊕ρ->Ex×aW X.Γ
 | .inl s=>out (RG g m k s)
 | .inr r=>out (.inr r)
theorem a7J {N:Nat} {st:Int->σ->aW X.Γ} {g:Nat->σ->σ⊕ρ} {out:σ⊕ρ->Ex×aW X.Γ} {s0:σ} {w:aW X.Γ} (Inv:Nat->σ->Prop) (h0:kY X (T.dG f (bZ b)) w=st 0 s0) (hl:N<=aO) (hL:aO<L) (hi:Inv 0 s0)
  (hs:∀ (k:Nat) (s:σ) (n:Nat),k<N->Inv k s->(∀ s1,Inv (k+1) s1->vK X P T call L f eu nt B b n (st (IntKind.i64.wrap (k+1)) s1) (a0K out g (N-(k+1)) (k+1) (.inl s1)).1 (a0K out g (N-(k+1)) (k+1) (.inl s1)).2) ->
   vK X P T call L f eu nt B b (n+1) (st k s) (a0K out g (N-(k+1)) (k+1) (g k s)).1 (a0K out g (N-(k+1)) (k+1) (g k s)).2)
  (ho:∀ s,Inv N s->vK X P T call L f eu nt B b 1 (st N s) (out (.inl s)).1 (out (.inl s)).2) :
  iq X P T call L f eu nt B (.loop b) w (out (RG g N 0 s0)).1 (out (RG g N 0 s0)).2:=by
 have key:∀ (m k:Nat) (s:σ),k+m=N->Inv k s->vK X P T call L f eu nt B b (m+1) (st k s) (out (RG g m k s)).1 (out (RG g m k s)).2:=by
  intro m
  induction m with
  | zero=>
   intro k s hk hr;have:k=N:=(by omega);subst this;exact ho s hr
  | succ m ih=>
   intro k s hk hr;have aN:k<N:=(by omega);have h1:=hs k s (m+1) aN hr fun s1 h=>by
    have:=ih (k+1) s1 (by omega) h;rw[Yc (by omega),show N-(k+1)=m by omega];exact this
   rw[show N-(k+1)=m by omega] at h1;simp only[RG];cases hg:g k s with
   | inl s1=>rw[hg] at h1;exact h1
   | inr r=>rw[hg] at h1;exact h1
 exact a1h (key N 0 s0 (by omega) hi) h0 (by omega)
theorem afp {a N:Nat} {st:Int->σ->aW X.Γ} {g:Nat->σ->σ⊕ρ} {out:σ⊕ρ->Ex×aW X.Γ} {s0:σ} {w:aW X.Γ} (Inv:Nat->σ->Prop) (h0:kY X (T.dG f (bZ b)) w=st a s0) (ha:a<=N) (hl:N<=aO) (hL:aO<L) (hi:Inv a s0)
  (hs:∀ (k:Nat) (s:σ) (n:Nat),a<=k->k<N->Inv k s->(∀ s1,Inv (k+1) s1->vK X P T call L f eu nt B b n (st (IntKind.i64.wrap (k+1)) s1) (a0K out g (N-(k+1)) (k+1) (.inl s1)).1 (a0K out g (N-(k+1)) (k+1) (.inl s1)).2) ->
   vK X P T call L f eu nt B b (n+1) (st k s) (a0K out g (N-(k+1)) (k+1) (g k s)).1 (a0K out g (N-(k+1)) (k+1) (g k s)).2)
  (ho:∀ s,Inv N s->vK X P T call L f eu nt B b 1 (st N s) (out (.inl s)).1 (out (.inl s)).2) :
  iq X P T call L f eu nt B (.loop b) w (out (RG g (N-a) a s0)).1 (out (RG g (N-a) a s0)).2:=by
 have key:∀ (m k:Nat) (s:σ),a<=k->k+m=N->Inv k s->vK X P T call L f eu nt B b (m+1) (st k s) (out (RG g m k s)).1 (out (RG g m k s)).2:=by
  intro m
  induction m with
  | zero=>
   intro k s _ hk hr;have:k=N:=(by omega);subst this;exact ho s hr
  | succ m ih=>
   intro k s ak hk hr;have aN:k<N:=(by omega);have h1:=hs k s (m+1) ak aN hr fun s1 h=>by
    have:=ih (k+1) s1 (by omega) (by omega) h;rw[Yc (by omega),show N-(k+1)=m by omega];exact this
   rw[show N-(k+1)=m by omega] at h1;simp only[RG];cases hg:g k s with
   | inl s1=>rw[hg] at h1;exact h1
   | inr r=>rw[hg] at h1;exact h1
 exact a1h (key (N-a) a s0 (Nat.le_refl _) (by omega) hi) h0 (by omega)
theorem aaf {N:Nat} {st:Int->σ->aW X.Γ} {g:Nat->σ->σ} {e:Ex} {fin:σ->aW X.Γ} {s0:σ} {w:aW X.Γ} (Inv:Nat->σ->Prop) (h0:kY X (T.dG f (bZ b)) w=st 0 s0) (hl:N<=aO) (hL:aO<L) (hi:Inv 0 s0) (hv:∀ k s,k<N->Inv k s->Inv (k+1) (g k s))
  (hs:∀ (k:Nat) (s:σ),k<N->Inv k s->∀ n e1 p,vK X P T call L f eu nt B b n (st (IntKind.i64.wrap (k+1)) (g k s)) e1 p->vK X P T call L f eu nt B b (n+1) (st k s) e1 p)
  (ho:∀ s,Inv N s->vK X P T call L f eu nt B b 1 (st N s) e (fin s)):iq X P T call L f eu nt B (.loop b) w e (fin (uq g N 0 s0)):=by
 have:=a7J (X:=X) (P:=P) (T:=T) (call:=call) (f:=f) (eu:=eu) (nt:=nt) (B:=B) (b:=b) (ρ:=Empty) (N:=N) (st:=st) (g:=fun k s=>.inl (g k s)) (out:=fun x=>(e,fin (ajJ x))) (s0:=s0) (w:=w) Inv h0 hl hL hi
  (fun k s n hk hr h=>hs k s hk hr n _ _ (h _ (hv k s hk hr))) ho
 rw[a7q] at this;exact this
theorem ah6 {N:Nat} {st:Int->σ->aW X.Γ} {g:Nat->σ->σ} {e:Ex} {fin:σ->aW X.Γ} {s0:σ} {w:aW X.Γ} (Inv:Nat->σ->Prop) (h0:kY X (T.dG f (bZ b)) w=st (IntKind.i64.wrap ((N:Int)-1)) s0) (hl:N<=aO) (hL:aO<L) (hi:Inv N s0) (hv:∀ k s,k<N->Inv (k+1) s->Inv k (g k s))
  (hs:∀ (k:Nat) (s:σ),k<N->Inv (k+1) s->∀ n e1 p,vK X P T call L f eu nt B b n (st (IntKind.i64.wrap (k-1)) (g k s)) e1 p->vK X P T call L f eu nt B b (n+1) (st k s) e1 p)
  (ho:∀ s,Inv 0 s->vK X P T call L f eu nt B b 1 (st (-1) s) e (fin s)):iq X P T call L f eu nt B (.loop b) w e (fin (a4K g N s0)):=by
 have wr:∀ k:Nat,k<=aO->IntKind.i64.wrap ((k:Int)-1)=(k:Int)-1:=by
  intro k hk;cases k with
  | zero=>rfl
  | succ k=>
   have:=Yc (k:=k) (by omega);rw[show ((k+1:Nat):Int)-1=(k:Int) by omega];unfold aO at hk;simp only[IntKind.wrap,IntKind.bits,IntKind.signed];have:(k:Int)%(2^64:Int)=(k:Int):=Int.emod_eq_of_lt (by omega) (by omega);simp only[this];rw[if_neg (by simp;omega)]
 have key:∀ (k:Nat) (s:σ),k<=N->Inv k s->vK X P T call L f eu nt B b (k+1) (st ((k:Int)-1) s) e (fin (a4K g k s)):=by
  intro k
  induction k with
  | zero=>intro s _ hr;exact ho s hr
  | succ k ih=>
   intro s hk hr;have h1:=ih (g k s) (by omega) (hv k s (by omega) hr);rw[<-wr k (by omega)] at h1;rw[show ((k+1:Nat):Int)-1=(k:Int) by omega];exact hs k s (by omega) hr _ _ _ h1
 rw[wr N hl] at h0;exact a1h (key N s0 (Nat.le_refl _) hi) h0 (by omega)
end
end Pv
namespace gq
open Go Tw Pv
theorem a3v {s:List Int} (h:BQ s) (k:Nat):dD (s.take k)<=dD s:=by
 have e:dD s=dD (s.take k)*dD (s.drop k):=by rw[<-HY,List.take_append_drop]
 have h1:1<=dD (s.take k):=qy fun a ha=>h a (List.mem_of_mem_take ha);have h2:1<=dD (s.drop k):=qy fun a ha=>h a (List.mem_of_mem_drop ha);have:=Int.mul_le_mul_of_nonneg_left h2 (show 0<=dD (s.take k) by omega);omega
theorem a8z:∀ (s:List Int) (n:Int),(a2x s n).length=s.length
 | [],_=>rfl
 | _::t,n=>by simp[a2x,a8z t n]
theorem a7K:∀ (s:List Int) (n:Int) (k:Nat),k<s.length->(a2x s n).getD k 0=(n/dD (s.drop (k+1)))%s.getD k 0
 | [],_,k,h=>by simp at h
 | a::t,n,0,_=>by simp[a2x]
 | a::t,n,k+1,h=>by
  have:=a7K t n k (by simpa using h);simpa[a2x] using this
theorem a0f:∀ {s p:List Int},Ah s p=true->p.length=s.length
 | [],[],_=>rfl
 | a::t,d::p,h=>by
  simp only[Ah,Bool.and_eq_true] at h;simp[a0f h.2]
 | [],_::_,h=>by cases h
 | _::_,[],h=>by cases h
theorem a1n:∀ {s p:List Int},Ah s p=true->BQ s->0<=Ye s p∧Ye s p<dD s
 | [],[],_,_=>by simp[Ye,dD]
 | a::t,d::p,h,hs=>by
  simp only[Ah,Bool.and_eq_true,decide_eq_true_eq] at h;have ih:=a1n h.2 hs.tail;have hp:=qy hs.tail;simp only[Ye,dD];have h1:0<=d*dD t:=Int.mul_nonneg h.1.1 (by omega);have h2:(d+1)*dD t<=a*dD t:=Int.mul_le_mul_of_nonneg_right (by omega) (by omega);rw[Int.add_mul,Int.one_mul] at h2;omega
theorem a3S:∀ {s:List Int} (n:Int),BQ s->Ah s (a2x s n)=true
 | [],_,_=>rfl
 | a::t,n,hs=>by
  simp only[a2x,Ah,Bool.and_eq_true,decide_eq_true_eq];have:=hs a (List.mem_cons_self ..);exact⟨⟨Int.emod_nonneg _ (by omega),Int.emod_lt_of_pos _ (by omega)⟩,a3S n hs.tail⟩
theorem a1p:∀ {s:List Int} (n:Int),BQ s->a2x s (n%dD s)=a2x s n
 | [],_,_=>rfl
 | a::t,n,hs=>by
  have hp:=qy hs.tail;have ha:=hs a (List.mem_cons_self ..);simp only[a2x,dD];have e1:n%(a*dD t)/dD t%a=n/dD t%a:=by
   rw[Int.emod_def n,show n-a*dD t*(n/(a*dD t))=n+(-(a*(n/(a*dD t))))*dD t by rw[Int.neg_mul,Int.mul_right_comm];rfl,Int.add_mul_ediv_right _ _ (by omega),show n/dD t+-(a*(n/(a*dD t)))=n/dD t+a*(-(n/(a*dD t))) by rw[Int.mul_neg],Int.add_mul_emod_self_left]
  have e2:a2x t (n%(a*dD t))=a2x t n:=by
   rw[<-a1p (n%(a*dD t)) hs.tail,<-a1p n hs.tail,Int.emod_emod_of_dvd n (Int.dvd_mul_left a (dD t))]
  rw[e1,e2]
theorem aan:∀ {s:List Int} {n:Int},BQ s->0<=n->n<dD s->Ye s (a2x s n)=n
 | [],n,_,h0,h1=>by simp[dD] at h1;simp[a2x,Ye];omega
 | a::t,n,hs,h0,h1=>by
  have hp:=qy hs.tail;have ha:=hs a (List.mem_cons_self ..);simp only[a2x,Ye];simp only[dD] at h1;have h2:0<=n/dD t:=Int.ediv_nonneg h0 (by omega);have h3:n/dD t<a:=Int.ediv_lt_of_lt_mul (by omega) h1;rw[Int.emod_eq_of_lt h2 h3,<-a1p n hs.tail,aan hs.tail (Int.emod_nonneg _ (by omega)) (Int.emod_lt_of_pos _ (by omega))];exact Int.ediv_mul_add_emod n (dD t)
theorem aax:∀ {s p:List Int},Ah s p=true->BQ s->a2x s (Ye s p)=p
 | [],[],_,_=>rfl
 | a::t,d::p,h,hs=>by
  simp only[Ah,Bool.and_eq_true,decide_eq_true_eq] at h;have ih:=aax h.2 hs.tail;have hr:=a1n h.2 hs.tail;have hp:=qy hs.tail;simp only[a2x,Ye];have e1:(d*dD t+Ye t p)/dD t=d:=by
   rw[Int.add_comm,Int.add_mul_ediv_right _ _ (by omega),Int.ediv_eq_zero_of_lt hr.1 hr.2];omega
  have e2:a2x t (d*dD t+Ye t p)=a2x t (Ye t p):=by
   rw[<-a1p _ hs.tail,Int.add_comm,Int.add_mul_emod_self_right,a1p _ hs.tail]
  rw[e1,e2,ih,Int.emod_eq_of_lt h.1.1 h.1.2]
theorem a4M {s:List Int} {k:Nat} (h:k<s.length):dD (s.drop k)=s.getD k 0*dD (s.drop (k+1)):=by
 rw[List.drop_eq_getElem_cons h];simp[dD,List.getD,List.getElem?_eq_getElem h]
def abO (s:List Int) (k:Nat) (x:Int×List Int):Int×List Int:=(a5c .i64 x.1 (s.getD k 0),x.2.set k (a5d .i64 x.1 (s.getD k 0)))
theorem afq {a b:Int} (h0:0<=a) (h1:a<2^62) (hb:0<b):a5c .i64 a b=a/b:=by
 have:a/b<=a:=Int.ediv_le_self b h0;have h2:0<=a/b:=Int.ediv_nonneg h0 (by omega);rw[a5c,Int.tdiv_eq_ediv_of_nonneg h0,D5 (by omega) (by omega)]
theorem afr {a b:Int} (h0:0<=a) (h1:a<2^62) (hb:0<b):a5d .i64 a b=a%b:=by
 have h2:0<=a%b:=Int.emod_nonneg _ (by omega);have h3:a%b<=a:=by
  have:=Int.emod_def a b;have h4:0<=b*(a/b):=Int.mul_nonneg (by omega) (Int.ediv_nonneg h0 (by omega));omega
 rw[a5d,Int.tmod_eq_emod_of_nonneg h0]
theorem acu {s:List Int} {n:Int} (hs:BQ s) (h0:0<=n) (h1:n<2^62) {o:List Int} (ho:o.length=s.length):(a4K (abO s) s.length (n,o)).2=a2x s n:=by
 have:=a7I (g:=abO s) (k:=s.length) (s:=(n,o)) (fun k x=>x.1=n/dD (s.drop k)∧x.2.length=s.length∧∀ j,k<=j->j<s.length->x.2.getD j 0=(a2x s n).getD j 0)
  ⟨by simp[dD],ho,fun j h1 h2=>by omega⟩ (fun k x hk hx=>by
   obtain⟨e1,e2,e3⟩:=hx;have hp:1<=dD (s.drop (k+1)):=qy fun a ha=>hs a (List.mem_of_mem_drop ha);have ha:=hs _ (KU hk);have hx0:0<=x.1:=by rw[e1];exact Int.ediv_nonneg h0 (by omega)
   have Xj:x.1<=n:=by rw[e1];exact Int.ediv_le_self _ h0
   simp only[abO];rw[afq hx0 (by omega) (by omega),afr hx0 (by omega) (by omega)];refine⟨?_,by simp[e2],fun j h2 h3=>?_⟩
   ·rw[a4M hk,Int.mul_comm,<-Int.ediv_ediv_of_nonneg (by omega),e1]
   ·rw[DY (by omega)];split
    ·rename_i e;subst e;rw[a7K s n k hk,e1]
    ·exact e3 j (by omega) h3)
 obtain⟨_,e2,e3⟩:=this;rw[a3E (d:=0) (by rw[e2,a8z])];intro j hj;exact e3 j (Nat.zero_le _) (by omega)
def ah7 (s p:List Int):Int:=uq (fun k n=>IntKind.i64.wrap (IntKind.i64.wrap (n*s.getD k 0)+p.getD k 0)) s.length 0 0
theorem a8A:∀ {s p:List Int} (s' p':List Int),s.length=p.length->Ye (s++s') (p++p')=Ye s p*dD s'+Ye s' p'
 | [],[],_,_,_=>by simp[Ye]
 | a::s,d::p,s',p',h=>by
  simp only[List.cons_append,Ye,a8A s' p' (by simpa using h),HY,Int.add_mul,Int.mul_assoc];omega
theorem ae3 {s p:List Int} (hp:Ah s p=true) (hs:BQ s) (hm:dD s<=2000):ah7 s p=Ye s p:=by
 have hl:=a0f hp;have:=RH (g:=fun k n=>IntKind.i64.wrap (IntKind.i64.wrap (n*s.getD k 0)+p.getD k 0)) (m:=s.length) (k:=0) (s:=(0:Int)) (fun k n=>n=Ye (s.take k) (p.take k)) (by simp[Ye]) (fun j n h1 h2 h3=>by
  have hj:j<s.length:=by omega
  have ha:=hs _ (KU hj);have hd:=(KT.1 hp).2 j hj;have e:Ye (s.take (j+1)) (p.take (j+1))=Ye (s.take j) (p.take j)*s.getD j 0+p.getD j 0:=by
   rw[List.take_succ_eq_append_getElem hj,List.take_succ_eq_append_getElem (show j<p.length by omega),a8A _ _ (by simp;omega)];simp[Ye,dD,List.getD,List.getElem?_eq_getElem hj,List.getElem?_eq_getElem (show j<p.length by omega)]
  have qN:Ah (s.take j) (p.take j)=true:=KT.2 ⟨by simp[hl],fun i hi=>by
   have nP:i<j:=by have:=hi;simp at this;omega
   have:=(KT.1 hp).2 i (by omega);simpa[List.getD_eq_getElem?_getD,List.getElem?_take,nP] using this⟩
  have hr:=a1n qN fun a ha=>hs a (List.mem_of_mem_take ha);have hle:=a3v hs j;rw[<-h3] at hr e;have h4:n*s.getD j 0<=2000*12:=Int.mul_le_mul (by omega) ha.2 (by omega) (by omega);have h5:0<=n*s.getD j 0:=Int.mul_nonneg hr.1 (by omega);rw[e,D5 (z:=n*_) (by omega) (by omega),D5 (by omega) (by omega)])
 rw[Nat.zero_add,List.take_length,List.take_of_length_le (show p.length<=s.length by omega)] at this;exact this
theorem nJ.a4S {s:List Int} (h:nJ s):gq.cnt s<=aO:=by have:=h.many;have:=h.aa4;unfold aO;omega
theorem nm {k:Nat} (h:k<=aO):(k:Int)<2^62:=by unfold aO at h;omega
theorem a8B {α:Type} (f:Nat->α) (n:Nat):uq (fun k (s:List α)=>s++[f k]) n 0 []=(List.range n).map f:=by
 have:=RH (g:=fun k (s:List α)=>s++[f k]) (m:=n) (k:=0) (s:=[]) (fun k s=>s=(List.range k).map f) rfl (fun j s _ _ h=>by rw[h,List.range_succ,List.map_append];rfl);simpa using this
end gq
namespace Go.Proofs.YtjkgcifieggcpaaGreat
open Go Tw Go.Shelf
theorem ae4 (h:aj Tryz.prog (a5Y 17 true)):aj Tryz.prog aae:=aj.or h (Vl a5Z)
end Go.Proofs.YtjkgcifieggcpaaGreat
namespace Tw
open Go Go.ChangeShapes
section
variable {H:Type} {xu:TypeId×Value->H} {P:Program} {w:World}
def Rd (xu:TypeId×Value->H) (P:Program) (w:World) (t:TypeId) (d:DataW H):Prop:=∃ cs,Reads xu P w t cs d
theorem afs {t:TypeId} {k:IntKind} {d:DataW H} (ht:P.underlying t=some (.int k)) (hd:Rd xu P w t d):∃ n,d=.lit (.int k n)∧(Lit.int k n).wf=true:=by
 obtain⟨cs,fuel,ps,hd⟩:=hd;cases fuel with
 | zero=>simp[DataW.trod] at hd
 | succ n=>
  unfold DataW.trod at hd;rw[ht] at hd;split at hd<;>simp_all
  obtain⟨⟨_,h1⟩,rfl,_⟩:=hd;exact⟨_,rfl,h1⟩
theorem aft {t:TypeId} {d:DataW H} (ht:P.underlying t=some .string) (hd:Rd xu P w t d):∃ bs,d=.lit (.string bs):=by
 obtain⟨cs,fuel,ps,hd⟩:=hd;cases fuel with
 | zero=>simp[DataW.trod] at hd
 | succ n=>
  unfold DataW.trod at hd;rw[ht] at hd;split at hd<;>simp_all
  exact⟨_,hd.2.1.symm⟩
theorem abP {t:TypeId} {fs:Array Field} {d:DataW H} (ht:P.underlying t=some (.struct fs)) (hd:Rd xu P w t d) :
  ∃ ds,d=.agg ds∧ds.length=fs.size∧∀ (i:Nat) f d',fs[i]? = some f->ds[i]? = some d'->Rd xu P w f.type d':=by
 obtain⟨cs,fuel,ps,hd⟩:=hd;obtain⟨zs,n,_,hx,pK,OD,Ij⟩:=DataW.trod_struct ht hd;simp only[Prod.mk.injEq] at hx;refine⟨zs.map (·.1),hx.1,by simpa using OD,fun i f d' e1 e2=>?_⟩;simp only[List.getElem?_map,Option.map_eq_some_iff] at e2;obtain⟨z,hz,rfl⟩:=e2;exact⟨_,n,z.2,by rw[Ij i f e1,hz]⟩
theorem acv {t e:TypeId} {d:DataW H} (ht:P.underlying t=some (.slice e)) (hd:Rd xu P w t d) :
  d=.nil∨∃ xs ys,d=.slice xs ys∧∀ y∈xs++ys,Rd xu P w e y:=by
 obtain⟨cs,fuel,ps,hd⟩:=hd;rcases Deep.open_slice ht hd with⟨rfl,hx⟩ | ⟨a,len,cap,m,n,Dt,Pl,rfl,_,Jo,_,hm,hx,Ij⟩
 ·left;cases hx;rfl
 ·right;simp only[if_true] at hm;subst hm;simp only[Prod.mk.injEq] at hx;refine⟨_,_,hx.1,fun y hy=>?_⟩;have:∃ i,i<m∧y=Dt i:=by
   rcases List.mem_append.mp hy with hy | hy
   ·obtain⟨i,hi,rfl⟩:=List.mem_map.mp hy;exact⟨i,by have:=List.mem_range.mp hi;omega,rfl⟩
   ·obtain⟨i,hi,rfl⟩:=List.mem_map.mp hy;exact⟨len+i,by have:=List.mem_range.mp hi;omega,rfl⟩
  obtain⟨i,hi,rfl⟩:=this;obtain⟨cs',_,e2⟩:=Ij i hi;exact⟨cs',n,_,e2⟩
theorem a8C {t:TypeId} {fs:Array Field} {g:Nat} {ds:List (DataW H)} {h:List HB} (ht:P.underlying t=some (.struct fs)) :
  QW P (g+1) t (.agg ds) h=match Nb P (QW P g) 0 fs.toList ds h with
   | some (cs,h1)=>if cs.length=P.cellsOf t then some (cs,h1) else none
   | none=>none:=by
 simp only[QW,ht]<;>rfl
end
end Tw
namespace Go.Proofs.YtjkgcifieggcpaaGreat
open Go Tw Pv
abbrev lFc (l:List Fc):PV bM:=.bK 66 l false
abbrev ajN (α:Type):=NV X0 Tryz.prog α
noncomputable def uA:Arg Int:=a2t .u8
noncomputable def a4W:Arg (List (List Int)):=RD 22
abbrev Gd (kX:iO bM):Prop:=Pv.Good X0 Tryz.prog T LL kX
theorem LLm:aO<LL:=by decide
abbrev Lp (n f k:Nat) (s:aW bM) (e:Ex) (s':aW bM):Prop:=iq X0 Tryz.prog T (ApN n) LL f false (ntP Tryz.prog f) 0 (.loop (a5T Tryz.prog f k)) s e s'
abbrev xo (b:Nat):PE bM:=.val (.own b)
theorem le0:0<=aO:=by decide
theorem le1:1<=aO:=by decide
theorem ok0 {n:Nat}:Ok n (NY (X:=X0)):=fun f vs v ext ps h=>by cases h
abbrev LpB (n f k B:Nat) (s:aW bM) (e:Ex) (s':aW bM):Prop:=iq X0 Tryz.prog T (ApN n) LL f false (ntP Tryz.prog f) B (.loop (a5T Tryz.prog f k)) s e s'
theorem ajO {n f:Nat} {a c:List (PV bM)} {H:List (PB bM)} {g:Int->Bool} (hf:∀ x,qH X0 Tryz.prog (ApN n) (.fn f a c) [.int .i64 x] H (.bool (g x)) H) (l:List Int) (hl:l.length<=aO):qH X0 Tryz.prog (ApN (n+1)) (.fn 183 [] []) [.bK 3 l false,.fn f a c] H (iA.put (TL g l)) H:=by
 have lp:LpB n 183 0 H.length (aah f a c H l 0 []) (z183 f a c H l (a0i (Fa g) l 0 ())).1 (z183 f a c H l (a0i (Fa g) l 0 ())).2:=
  a7o (st:=fun i _=>aah f a c H l i []) (0:Int) (fun _ _=>True) (by kernel_rfl) hl LLm trivial (fun k s n hk _ ih=>round hX ok0 (by kernel_rfl) (.b (a2v hk) (.o (bP hk) (.k (hf (l.getD k (0:Int))) (.ls (.ou nofun) (.nx (ih _ trivial))))))) (fun s _=>round hX ok0 (by kernel_rfl) (.b (a5U l.length) (.ou nofun)))
 exact dV hX ok0 (first:=[]) (cap:=[]) (by kernel_rfl) (.szh (fun h=>.w (pF lp () h) .sr) (fun h=>.w (rC lp (0,0,()) h) .sr))
theorem ah8 {n f:Nat} (hn:0<n) {a c:List (PV bM)} {H:List (PB bM)} {g:Int->Bool} (hf:∀ x,qH X0 Tryz.prog (ApN (n-1)) (.fn f a c) [.int .i64 x] H (.bool (g x)) H) (l:List Int) (hl:l.length<=aO):qH X0 Tryz.prog (ApN (n+1)) (.fn 138 [] []) [.bK 3 l false,.fn f a c] H (tA.put (o8 g l)) H:=by
 have h1:=ajO hf l hl;rw[show n-1+1=n by omega] at h1;exact dV hX ok0 (first:=[]) (cap:=[]) (by kernel_rfl) (.k h1 .sr)
abbrev afu (f:Nat) (a c:List (PV bM)) (H:List (PB bM)) (l:List V) (i:Int) (x:List (Nat×PE bM)):aW bM:=⟨[(0,xL 79 l),(1,.val (.fn f a c)),(7,xi l.length),(8,xi i)]++x,[],H⟩
def ah9 (f:Nat) (a c:List (PV bM)) (H:List (PB bM)) (l:List V):Unit⊕(Nat×V×Unit)->Ex×aW bM
 | .inl _=>(.exit 0,afu f a c H l l.length [(9,xl false)])
 | .inr r=>(.ret,⟨[(4,xi r.1)],[],H⟩)
theorem ajP {n f:Nat} {a c:List (PV bM)} {H:List (PB bM)} {g:V->Bool} (hf:∀ x,qH X0 Tryz.prog (ApN n) (.fn f a c) [.agg x.ps] H (.bool (g x)) H) (l:List V) (hl:l.length<=aO):qH X0 Tryz.prog (ApN (n+1)) (.fn 254 [] []) [.bK 79 l false,.fn f a c] H (iA.put (a1x g l)) H:=by
 have lp:LpB n 254 0 H.length (afu f a c H l 0 []) (ah9 f a c H l (a0i (a1l g) l 0 ())).1 (ah9 f a c H l (a0i (a1l g) l 0 ())).2:=
  a7o (st:=fun i _=>afu f a c H l i []) V0 (fun _ _=>True) (by kernel_rfl) hl LLm trivial (fun k s n hk _ ih=>round hX ok0 (by kernel_rfl) (.b (a2v hk) (.o (bP hk) (.k (hf (l.getD k V0)) (.ls (.ou nofun) (.nx (ih _ trivial))))))) (fun s _=>round hX ok0 (by kernel_rfl) (.b (a5U l.length) (.ou nofun)))
 exact dV hX ok0 (first:=[]) (cap:=[]) (by kernel_rfl) (.szh (fun h=>.w (pF lp () h) .sr) (fun h=>.w (rC lp (0,V0,()) h) .sr))
theorem ajQ {n f:Nat} (hn:0<n) {a c:List (PV bM)} {H:List (PB bM)} {g:V->Bool} (hf:∀ x,qH X0 Tryz.prog (ApN (n-1)) (.fn f a c) [.agg x.ps] H (.bool (g x)) H) (l:List V) (hl:l.length<=aO):qH X0 Tryz.prog (ApN (n+1)) (.fn 233 [] []) [.bK 79 l false,.fn f a c] H (tA.put (a0G g l)) H:=by
 have h1:=ajP hf l hl;rw[show n-1+1=n by omega] at h1;exact dV hX ok0 (first:=[]) (cap:=[]) (by kernel_rfl) (.k h1 .sr)
theorem aha:Gd a6b:=Good.nil.deep 3 fun n hn hO p hp=>by
 have h1:∀ x,qH X0 Tryz.prog (ApN (n-3+1)) (.fn 275 [] [.ptr 0 0 1,.ptr 1 0 1]) [.int .i64 x] [.cells [.int .i64 p.1],.cells [.int .i64 p.2.1]] (tA.put (O1 x p.1 p.2.1)) [.cells [.int .i64 p.1],.cells [.int .i64 p.2.1]]:=fun x=>dV hX ok0 (first:=[]) (by kernel_rfl) (.ssh (fun _=>.sr) (fun _=>.sr));obtain⟨n,rfl⟩:∃ k,n=k+3:=⟨n-3,by omega⟩;rw[show n+3-3+1=n+1 by omega] at h1;have h2:=ah8 (n:=n+2) (by omega) (g:=fun x=>O1 x p.1 p.2.1) h1 p.2.2 (hp _ (.head _));exact dS hX (hO _ (by omega)) (by kernel_rfl) (.k h2 (.v (!(o8 (fun x=>O1 x p.1 p.2.1) p.2.2)) (by rw[a1i];rfl)))
theorem ahb:Gd a6c:=aha.add fun n hO p hp=>dS hX hO (by kernel_rfl) (.ss (.o le1 .rr) (.ss .rr .rr))
open Go Tw Pv gq
theorem ajR:Gd aai:=ahb.add fun n hO p hp=>dS hX hO (by kernel_rfl) (.ss .rr .rr)
abbrev a3Z (a b:List Int) (k:Nat):Bool:=a.getD k 0 != b.getD k 0
abbrev w26 (a b:List Int) (i:Int) (x:List (Nat×PE bM)):aW bM:=⟨[(0,xL 3 a),(1,xL 3 b),(5,xi i)]++x,[],[]⟩
def z26 (a b:List Int):Unit⊕Nat->Ex×aW bM
 | .inl _=>(.exit 0,w26 a b a.length [(14,xl false)])
 | .inr _=>(.ret,⟨[(4,xl false)],[],[]⟩)
theorem l26 {n:Nat} {kX:iO bM} (hO:Ok n kX) (a b:List Int) (hl:a.length<=aO) (h:a.length=b.length):Lp n 26 0 (w26 a b 0 []) (z26 a b (pJ (a3Z a b) a.length)).1 (z26 a b (pJ (a3Z a b) a.length)).2:=
 a7J (st:=fun i _=>w26 a b i []) (fun _ _=>True) (by kernel_rfl) hl LLm trivial (fun k s n hk _ ih=>round hX hO (by kernel_rfl) (.b (a2v hk) (.o (bP hk) (.o (bP (h▸hk)) (.ls (.ou nofun) (.nx (ih _ trivial))))))) (fun s _=>round hX hO (by kernel_rfl) (.b (a5U a.length) (.ou nofun)))
theorem a2C {a b:List Int} (h:a.length=b.length):G8 (pJ (a3Z a b) a.length)=decide (a=b):=by
 rw[Bool.eq_iff_iff,Jb,decide_eq_true_eq,a3E (d:=0) h];simp[a3Z]
theorem acw {a b:List Int} (h:((a.length:Int) != (b.length:Int))=true):decide (a=b)=false:=by
 rw[decide_eq_false_iff_not];rintro rfl;simp at h
theorem VB {α β:Type} {a:List α} {b:List β} (h:((a.length:Int) != (b.length:Int))=false):a.length=b.length:=by simp at h;omega
theorem ajT:Gd aaj:=ajR.add fun n hO p hp=>dS hX hO (by kernel_rfl) (.s (fun h=>.v false (acw h).symm) fun h=>.z (c:=G8 (pJ (a3Z p.1 p.2) p.1.length)) (fun h2=>.w (pF (l26 hO p.1 p.2 (hp _ (.head _)) (VB h)) () h2) (.v true (by rw[<-a2C (VB h),h2]))) fun h2=>.w (rC (l26 hO p.1 p.2 (hp _ (.head _)) (VB h)) 0 h2) (.v false (by rw[<-a2C (VB h),h2])))
abbrev w94 (a:List Int) (n i:Int) (x:List (Nat×PE bM)):aW bM:=⟨[(0,xL 3 a),(5,xi n),(6,xi i)]++x,[],[]⟩
theorem l94 {n:Nat} {kX:iO bM} (hO:Ok n kX) (a:List Int) (hl:a.length<=aO):Lp n 94 0 (w94 a 1 0 []) (.exit 0) (w94 a (BA a) a.length [(11,xl false)]):=
 aaf (st:=fun i n=>w94 a n i []) (fin:=fun n=>w94 a n a.length [(11,xl false)]) (fun _ _=>True) (by kernel_rfl) hl LLm trivial (fun _ _ _ _=>trivial) (fun k s hk _ n e p h=>round hX hO (by kernel_rfl) (.b (a2v hk) (.o (bP hk) (.go h)))) (fun s _=>round hX hO (by kernel_rfl) (.b (a5U a.length) .ex))
theorem ajU:Gd aak:=ajT.add fun n hO p hp=>by
 obtain⟨a,k⟩:=p;have h0:k=0:=hp _ (.tail _ (.head _));subst h0;exact dS hX hO (by kernel_rfl) (.w (l94 hO a (hp _ (.head _))) .rr)
theorem ajV:Gd aal:=ajU.add fun n hO p hp=>dS hX hO (by kernel_rfl) (.o (hp _ (.head _)) (.o (rfl:(0:Int)=0) .rr))
abbrev a4a (b:List Int) (k j:Nat):Bool:=b.getD j 0==b.getD k 0
abbrev w95 (a b:List Int) (i:Int) (x:List (Nat×PE bM)):aW bM:=⟨[(0,xL 3 a),(1,xL 3 b),(5,xi i)]++x,[],[]⟩
def ahc (a b:List Int) (k:Int) (i:Int):Unit⊕Nat->Ex×aW bM
 | .inl _=>(.exit 2,w95 a b k [(6,xi i),(29,xl false)])
 | .inr _=>(.ret,⟨[(4,xl false)],[],[]⟩)
theorem ahd {n:Nat} {kX:iO bM} (hO:Ok n kX) (a b:List Int) (k:Nat) (hl:k<=aO) (h:k<b.length):Lp n 95 1 (w95 a b k [(6,xi 0)]) (ahc a b k k (pJ (a4a b k) k)).1 (ahc a b k k (pJ (a4a b k) k)).2:=
 a7J (st:=fun i _=>w95 a b k [(6,xi i)]) (fun _ _=>True) (by kernel_rfl) hl LLm trivial (fun j s n hk _ ih=>round hX hO (by kernel_rfl) (.b (a2v hk) (.o (bP (show j<b.length by omega)) (.o (bP h) (.ls (.ou nofun) (.nx (ih _ trivial))))))) (fun s _=>round hX hO (by kernel_rfl) (.b (a5U k) (.ou nofun)))
abbrev a9F (m:Int) (b:List Int) (k:Nat):Bool:=if (!(yY (b.getD k 0) 0 m))=true then true else if G8 (pJ (a4a b k) k)=true then false else true
def z95 (a b:List Int):Unit⊕Nat->Ex×aW bM
 | .inl _=>(.exit 0,w95 a b b.length [(15,xl false)])
 | .inr _=>(.ret,⟨[(4,xl false)],[],[]⟩)
theorem l95 {n:Nat} (hO:Ok n aal) (a b:List Int) (hl:b.length<=aO):Lp n 95 0 (w95 a b 0 []) (z95 a b (pJ (a9F (xw a) b) b.length)).1 (z95 a b (pJ (a9F (xw a) b) b.length)).2:=
 a7J (st:=fun i _=>w95 a b i []) (fun _ _=>True) (by kernel_rfl) hl LLm trivial (fun k s n hk _ ih=>by
  unfold gS a9F;cases h1:(!(yY (b.getD k 0) 0 (xw a)))
  ·cases h2:G8 (pJ (a4a b k) k)
   ·exact round hX hO (by kernel_rfl) (.b (a2v hk) (.o (bP hk) (.b h1 (.w (rC (ahd hO a b k (by omega) hk) 0 h2) (.ou nofun)))))
   ·exact round hX hO (by kernel_rfl) (.b (a2v hk) (.o (bP hk) (.b h1 (.w (pF (ahd hO a b k (by omega) hk) () h2) (.nx (ih _ trivial))))))
  ·exact round hX hO (by kernel_rfl) (.b (a2v hk) (.o (bP hk) (.b h1 (.ou nofun))))
  ) (fun s _=>round hX hO (by kernel_rfl) (.b (a5U b.length) (.ou nofun)))
theorem a8E {a b:List Int} (ha:a.length<=aO) (h:b.length=a.length):G8 (pJ (a9F (xw a) b) b.length)=ES a.length b:=by
 rw[Bool.eq_iff_iff,Jb,ES,decide_eq_true_eq];have e1:(∀ j,j<b.length->a9F (xw a) b j=false)↔(∀ j,j<b.length->(0<=b.getD j 0∧b.getD j 0<a.length)∧∀ i,i<j->b.getD i 0≠b.getD j 0):=by
  refine forall_congr' fun j=>forall_congr' fun hj=>?_;unfold a9F;rw[a6d ha];cases h1:yY (b.getD j 0) 0 ((a.length:Int)-1)
  ·simp only[Bool.not_false,if_true,Bool.true_eq_false,false_iff];intro h2;have:yY (b.getD j 0) 0 ((a.length:Int)-1)=true:=by
    rw[Jd];omega
   rw[h1] at this;cases this
  have h3:0<=b.getD j 0∧b.getD j 0<a.length:=by
   rw[Jd] at h1;omega
  simp only[Bool.not_true,Bool.false_eq_true,if_false,h3,and_self,true_and];cases h2:G8 (pJ (a4a b j) j)
  ·simp only[Bool.false_eq_true,if_false,Bool.true_eq_false,false_iff];intro h4;have:G8 (pJ (a4a b j) j)=true:=Jb.2 fun i hi=>(by simpa[a4a] using h4 i hi);rw[h2] at this;cases this
  simp only[if_true,true_iff];intro i hi;have:=Jb.1 h2 i hi;simpa[a4a] using this
 rw[e1];constructor
 ·intro hq;refine⟨h,(Vh (d:=0)).1 fun j hj=>(hq j hj).1,?_⟩;rw[List.nodup_iff_pairwise_ne,List.pairwise_iff_getElem];intro i j hi hj BN;have:=(hq j hj).2 i BN;simpa[List.getD,List.getElem?_eq_getElem hi,List.getElem?_eq_getElem hj] using this
 rintro⟨_,h2,h3⟩ j hj;refine⟨(Vh (d:=0)).2 h2 j hj,fun i hi=>?_⟩;rw[List.nodup_iff_pairwise_ne,List.pairwise_iff_getElem] at h3;have:=h3 i j (by omega) hj hi;simpa[List.getD,List.getElem?_eq_getElem (show i<b.length by omega),List.getElem?_eq_getElem hj] using this
theorem ae5 {a b:List Int} (h:((b.length:Int) != (a.length:Int))=true):ES a.length b=false:=by
 unfold ES;rw[decide_eq_false_iff_not];rintro⟨h1,_⟩;rw[h1] at h;simp at h
theorem ajW:Gd aam:=ajV.add fun n hO p hp=>dS hX hO (by kernel_rfl) (.s (fun h=>.v false (ae5 h).symm) fun h=>.z (c:=G8 (pJ (a9F (xw p.1) p.2) p.2.length)) (fun h2=>.w (pF (l95 hO p.1 p.2 (hp _ (.tail _ (.head _)))) () h2) (.v true (by rw[<-a8E (hp _ (.head _)) (VB h),h2]))) fun h2=>.w (rC (l95 hO p.1 p.2 (hp _ (.tail _ (.head _)))) 0 h2) (.v false (by rw[<-a8E (hp _ (.head _)) (VB h),h2])))
abbrev w62 (a b:List Int) (i:Int) (x:List (Nat×PE bM)):aW bM:=⟨[(0,xL 3 a),(1,xL 3 b),(5,xi i)]++x,[],[]⟩
def z62 (a b:List Int):Unit⊕Nat->Ex×aW bM
 | .inl _=>(.exit 0,w62 a b a.length [(12,xl false)])
 | .inr _=>(.ret,⟨[(4,xi 3)],[],[]⟩)
theorem l62 {n:Nat} (hO:Ok n aam) (a b:List Int) (hl:a.length<=aO):Lp n 62 0 (w62 a b 0 []) (z62 a b (pJ (cSz a) a.length)).1 (z62 a b (pJ (cSz a) a.length)).2:=
 a7J (st:=fun i _=>w62 a b i []) (fun _ _=>True) (by kernel_rfl) hl LLm trivial (fun k s n hk _ ih=>round hX hO (by kernel_rfl) (.b (a2v hk) (.o (bP hk) (.ls (.ou nofun) (.nx (ih _ trivial)))))) (fun s _=>round hX hO (by kernel_rfl) (.b (a5U a.length) (.ou nofun)))
theorem ae6 {s:List Int} (h:decide ((s.length:Int)>6)=false):s.length<=6:=by simp at h;omega
theorem a8G {k:Nat} (h:k<=6):k<=aO:=by unfold aO;omega
theorem ajY:Gd aao:=ajW.add fun n hO p hp=>dS hX hO (by kernel_rfl) (.sh (fun _=>.rr) fun h=>.zh (fun h2=>.w (pF (l62 hO p.1 p.2 (a8G (ae6 h))) () h2) (.o (a8G (ae6 h)) (.o (rfl:(0:Int)=0) (.ss .rr (.o (a8G (ae6 h)) (.o (hp _ (.head _)) (.ss .rr .rr))))))) fun h2=>.w (rC (l62 hO p.1 p.2 (a8G (ae6 h))) 0 h2) .rr)
abbrev w86 (a:List Int) (i:Int) (s:Int×List Int) (x:List (Nat×PE bM)):aW bM:=⟨[(0,xL 3 a),(1,xi s.1),(5,xo 0),(6,xi i)]++x,[],[.list true true 3 s.2]⟩
theorem szk {a:List Int} (hs:BQ a) {k:Nat} (hk:k<a.length):a.getD k 0≠0:=by have:=hs _ (KU hk);omega
theorem afv (k:Nat):decide ((k:Int)>=0)=true:=by simp
theorem l86 {n:Nat} {kX:iO bM} (hO:Ok n kX) (a:List Int) (m:Int) (hl:a.length<=aO) (hs:BQ a):Lp n 86 0 (w86 a (IntKind.i64.wrap ((a.length:Int)-1)) (m,List.replicate a.length 0) []) (.exit 0) (w86 a (-1) (a4K (abO a) a.length (m,List.replicate a.length 0)) [(14,xl false)]):=
 ah6 (st:=fun i s=>w86 a i s []) (fin:=fun s=>w86 a (-1) s [(14,xl false)]) (fun _ s=>s.2.length=a.length) (by kernel_rfl) hl LLm (by simp) (fun k s _ h=>by simp[abO,h]) (fun k s hk hi n e p h=>round hX hO (by kernel_rfl) (.b (afv k) (.o (bP hk) (.o (szk hs hk) (.o (bP (show k<s.2.length by omega)) (.o (bP hk) (.o (szk hs hk) (.go h)))))))) (fun s _=>round hX hO (by kernel_rfl) (.b (rfl:decide ((-1:Int)>=0)=false) .ex))
theorem mk1 {α:Type} (l:List α):(l.length:Int)=(l.length:Int):=rfl
theorem mk2 {α:Type} (l:List α):(0:Int)<=(l.length:Int):=by omega
theorem mk3 {α:Type} {l:List α} (h:l.length<=aO):(l.length:Int)<=(aO:Int):=by omega
theorem ajZ:Gd aap:=ajY.add fun n hO p hp=>dS hX hO (by kernel_rfl) (.o (mk1 p.1) (.o (mk2 p.1) (.o (mk3 (hp _ (.head _))) (.w (l86 hO p.1 p.2 (hp _ (.head _)) (hp _ (.tail _ (.head _)))) (.v (a4K (abO p.1) p.1.length (p.2,List.replicate p.1.length 0)).2 (acu (hp _ (.tail _ (.head _))) (hp _ (.tail _ (.tail _ (.head _)))) (hp _ (.tail _ (.tail _ (.tail _ (.head _))))) List.length_replicate))))))
abbrev ae7 (a b:List Int) (m i:Int) (x:List (Nat×PE bM)):aW bM:=⟨[(0,xL 3 a),(1,xL 3 b),(5,xi m),(6,xi i)]++x,[],[]⟩
theorem ak0 {n:Nat} {kX:iO bM} (hO:Ok n kX) (a b:List Int) (hl:a.length<=aO) (h:b.length=a.length):Lp n 126 0 (ae7 a b 0 0 []) (.exit 0) (ae7 a b (ah7 a b) a.length [(10,xl false)]):=
 aaf (st:=fun i m=>ae7 a b m i []) (fin:=fun m=>ae7 a b m a.length [(10,xl false)]) (fun _ _=>True) (by kernel_rfl) hl LLm trivial (fun _ _ _ _=>trivial) (fun k s hk _ n e p g=>round hX hO (by kernel_rfl) (.b (a2v hk) (.o (bP hk) (.o (bP (h▸hk)) (.go g))))) (fun s _=>round hX hO (by kernel_rfl) (.b (a5U a.length) .ex))
theorem ahe:Gd a6e:=ajZ.add fun n hO p hp=>dS hX hO (by kernel_rfl) (.w (ak0 hO p.1 p.2 (a8G (show nJ p.1 from hp _ (.tail _ (.head _))).len) (a0f (hp _ (.head _)))) (.v _ (ae3 (hp _ (.head _)) (show nJ p.1 from hp _ (.tail _ (.head _))).sz (show nJ p.1 from hp _ (.tail _ (.head _))).many)))
theorem ahf:Gd a6f:=ahe.add fun n hO p hp=>dS hX hO (by kernel_rfl) (.ss .rr (.ss .rr .rr))
def vIs (v:V):Bool:=if (decide (v.f>0))=true then (if (decide (v.f<=4))=true then v.n==0 else false) else yY v.n (-9999) 9999
theorem afw {v:V} (h:0<=v.f):vOk v=vIs v:=by
 unfold vOk vIs;by_cases h0:v.f=0
 ·rw[if_pos (by simp[h0]),if_neg (by simp;omega)]
 have:v.f>0:=by omega
 simp[h0,this]
open Go Tw Pv gq
theorem xC (n:Nat):(a0L n).length=n:=by simp[a0L]
theorem a7L (n:Nat):ES n (a0L n)=true:=by
 unfold ES;rw[decide_eq_true_eq];refine⟨xC n,fun a ha=>?_,?_⟩
 ·simp only[a0L,List.mem_map,List.mem_range] at ha;obtain⟨k,h1,rfl⟩:=ha;omega
 unfold a0L;exact List.Pairwise.map _ (fun a b h=>by omega) List.nodup_range
open Go Tw Pv gq
theorem neV (x y:Operand) (a b:V):kH Tryz.prog .neq 79 x y (V.tv a) (V.tv b)=some (.bool (!decide (a=b))):=(IV rfl rfl (by kernel_rfl) (by decide) (a6h 9998 a b)).2
open Go Tw Pv gq
abbrev RhB (n f k B m:Nat) (s:aW bM) (e:Ex) (p:aW bM):Prop:=vK X0 Tryz.prog T (ApN n) LL f false (ntP Tryz.prog f) B (a5T Tryz.prog f k) m s e p
noncomputable abbrev hdP (f k:Nat) (w:aW bM):aW bM:=kY X0 (T.dG f (bZ (a5T Tryz.prog f k))) w
section
variable {n f k B N:Nat} {σ ρ:Type}
theorem a0B {st:Int->σ->aW bM} {g:Nat->σ->σ} {e:Ex} {fin:σ->aW bM} {s0:σ} {w:aW bM} (Inv:Nat->σ->Prop) (h0:hdP f k w=st 0 s0) (hl:N<=aO) (hi:Inv 0 s0) (hv:∀ j s,j<N->Inv j s->Inv (j+1) (g j s))
  (hs:∀ (j:Nat) (s:σ),j<N->Inv j s->∀ m e1 p,RhB n f k B m (st (IntKind.i64.wrap (j+1)) (g j s)) e1 p->RhB n f k B (m+1) (st j s) e1 p)
  (ho:∀ s,Inv N s->RhB n f k B 1 (st N s) e (fin s)):LpB n f k B w e (fin (uq g N 0 s0)):=aaf Inv h0 hl LLm hi hv hs ho
theorem kN {st:Int->σ->aW bM} {g:Nat->σ->σ⊕ρ} {out:σ⊕ρ->Ex×aW bM} {s0:σ} {w:aW bM} (Inv:Nat->σ->Prop) (h0:hdP f k w=st 0 s0) (hl:N<=aO) (hi:Inv 0 s0)
  (hs:∀ (j:Nat) (s:σ) (m:Nat),j<N->Inv j s->(∀ s1,Inv (j+1) s1->RhB n f k B m (st (IntKind.i64.wrap (j+1)) s1) (a0K (X:=X0) out g (N-(j+1)) (j+1) (.inl s1)).1 (a0K (X:=X0) out g (N-(j+1)) (j+1) (.inl s1)).2) ->
   RhB n f k B (m+1) (st j s) (a0K (X:=X0) out g (N-(j+1)) (j+1) (g j s)).1 (a0K (X:=X0) out g (N-(j+1)) (j+1) (g j s)).2)
  (ho:∀ s,Inv N s->RhB n f k B 1 (st N s) (out (.inl s)).1 (out (.inl s)).2):LpB n f k B w (out (RG g N 0 s0)).1 (out (RG g N 0 s0)).2:=a7J Inv h0 hl LLm hi hs ho
theorem ae8 {a:Nat} {st:Int->σ->aW bM} {g:Nat->σ->σ⊕ρ} {out:σ⊕ρ->Ex×aW bM} {s0:σ} {w:aW bM} (Inv:Nat->σ->Prop) (h0:hdP f k w=st a s0) (ha:a<=N) (hl:N<=aO) (hi:Inv a s0)
  (hs:∀ (j:Nat) (s:σ) (m:Nat),a<=j->j<N->Inv j s->(∀ s1,Inv (j+1) s1->RhB n f k B m (st (IntKind.i64.wrap (j+1)) s1) (a0K (X:=X0) out g (N-(j+1)) (j+1) (.inl s1)).1 (a0K (X:=X0) out g (N-(j+1)) (j+1) (.inl s1)).2) ->
   RhB n f k B (m+1) (st j s) (a0K (X:=X0) out g (N-(j+1)) (j+1) (g j s)).1 (a0K (X:=X0) out g (N-(j+1)) (j+1) (g j s)).2)
  (ho:∀ s,Inv N s->RhB n f k B 1 (st N s) (out (.inl s)).1 (out (.inl s)).2):LpB n f k B w (out (RG g (N-a) a s0)).1 (out (RG g (N-a) a s0)).2:=afp Inv h0 ha hl LLm hi hs ho
theorem acz {st:σ->aW bM} {g:σ->σ⊕ρ} {out:ρ->Ex×aW bM} (Inv:σ->Prop) {m:Nat} {s:σ} {r:ρ} {w:aW bM} (hr:itF g m s=some r) (h0:hdP f k w=st s) (hk:m<=LL) (hv:Inv s) (hi:∀ s s1,Inv s->g s=.inl s1->Inv s1)
  (hs:∀ s m r,Inv s->(∀ s1,g s=.inl s1->RhB n f k B m (st s1) (out r).1 (out r).2)->RhB n f k B (m+1) (st s) (a3u (X:=X0) out r (g s)).1 (a3u (X:=X0) out r (g s)).2):LpB n f k B w (out r).1 (out r).2:=a4J Inv hr h0 hk hv hi hs
end
open Go Tw Pv gq
section
variable {l:List V} {w n j:Nat} (h:Prt l w n)
include h
end
theorem a3T {α β:Type} (l:List α) (d:α) (f:α->β):(List.range l.length).map (fun k=>f (l.getD k d))=l.map f:=by
 apply List.ext_getElem (by simp);intro i h1 h2;have:i<l.length:=by simpa using h1
 simp[List.getD,List.getElem?_eq_getElem this]
open Go Tw Pv gq
theorem a3F {s p:List Int} {ch d:Int} (hp:Ah s p=true) (hc:CO ch s.length) (hd:CO d (s.getD ch.toNat 0).toNat):Ah s (p.set ch.toNat d)=true:=by
 rw[KT] at hp ⊢;obtain⟨c1,c2⟩:=hc;obtain⟨d1,d2⟩:=hd;refine⟨by simp[hp.1],fun j hj=>?_⟩;rw[DY (by omega)];split
 ·rename_i e;subst e;omega
 exact hp.2 j hj
open Go Tw Pv gq
abbrev abQ (d:Dg) (r i:Int) (x:List (Nat×PE bM)):aW bM:=⟨[(1,xi r),(2,.loc 0 0),(5,xi i)]++x,[d.ps],[]⟩
def z164 (d:Dg) (r:Int) (N:Nat):Unit⊕Nat->Ex×aW bM
 | .inl _=>(.exit 0,abQ d r N [(14,xl false)])
 | .inr k=>(.ret,⟨[(4,xi k)],[d.ps],[]⟩)
theorem ahg {r:Int} (h:0<=r):decide (r>=0)=true:=by simpa using h
theorem ahh {n:Nat} {kX:iO bM} (hO:Ok n kX) (d:Dg) (r:Int) (hl:d.order.length<=aO) (h:CO r d.nodes.length):Lp n 164 0 (abQ d r 0 []) (z164 d r d.order.length (pJ (a0N d r) d.order.length)).1 (z164 d r d.order.length (pJ (a0N d r) d.order.length)).2:=
 kN (st:=fun i _=>abQ d r i []) (fun _ _=>True) (by kernel_rfl) hl trivial (fun k s m hk _ ih=>round hX hO (by kernel_rfl) (.b (ahg h.1) (.b (a2v hk) (.o (bP hk) (.o h (.ls (.ou nofun) (.nx (ih _ trivial)))))))) (fun s _=>round hX hO (by kernel_rfl) (.b (ahg h.1) (.b (a5U d.order.length) (.ou nofun))))
theorem ahi {n:Nat} {kX:iO bM} (hO:Ok n kX) (d:Dg) (r:Int) (h:r<0):Lp n 164 0 (abQ d r 0 []) (.exit 0) (abQ d r 0 [(14,xl false)]):=
 a1h (ps:=abQ d r 0 []) (round hX hO (by kernel_rfl) (.b (show decide (r>=0)=false by simpa using h) .ex)) (by kernel_rfl) (by decide:1<=LL)
theorem ahj:Gd a6j:=ahf.add fun n hO p hp=>dS hX hO (by kernel_rfl) (.zh (fun h=>.w (ahi hO p.1 p.2 (by simpa using h)) .rr) fun h=>.zh (fun h2=>.w (pF (ahh hO p.1 p.2 (hp _ (.head _)) (hp (0<=p.2->CO p.2 p.1.nodes.length) (.tail _ (.head _)) (by simpa using h))) () h2) .rr) fun h2=>.w (rC (ahh hO p.1 p.2 (hp _ (.head _)) (hp (0<=p.2->CO p.2 p.1.nodes.length) (.tail _ (.head _)) (by simpa using h))) 0 h2) .rr)
theorem ahk:Gd a6k:=ahj.add fun n hO p hp=>dS hX hO (by kernel_rfl) (.ss .rr .rr)
abbrev afx (b:Br) (i:Int) (x:List (Nat×PE bM)):aW bM:=⟨[(1,.loc 0 0),(3,xi i)]++x,[b.ps],[]⟩
def z127 (b:Br):Unit⊕Nat->Ex×aW bM
 | .inl _=>(.exit 0,afx b (max 1 b.kids.length:Nat) [(8,xl false)])
 | .inr _=>(.ret,⟨[(2,xl false)],[b.ps],[]⟩)
theorem ahl {n:Nat} {kX:iO bM} (hO:Ok n kX) (b:Br) (hl:b.kids.length<=aO):Lp n 127 0 (afx b 1 []) (z127 b (a5V (a6l b) 1 (max 1 b.kids.length))).1 (z127 b (a5V (a6l b) 1 (max 1 b.kids.length))).2:=
 ae8 (st:=fun i _=>afx b i []) (fun _ _=>True) (by kernel_rfl) (by omega) (by unfold aO at *;omega) trivial (fun k s m h1 hk _ ih=>round hX hO (by kernel_rfl) (.b (a2v (show k<b.kids.length by omega)) (.o (bP (show k<b.kids.length by omega)) (.o (show CO 0 b.kids.length from⟨by omega,by omega⟩) (.ls (.ou nofun) (.nx (ih _ trivial))))))) (fun s _=>round hX hO (by kernel_rfl) (.b (show decide (((max 1 b.kids.length:Nat):Int)<(b.kids.length:Int))=false by simp only[decide_eq_false_iff_not];omega) (.ou nofun)))
theorem ahm:Gd a6m:=ahk.add fun n hO p hp=>dS hX hO (by kernel_rfl) (.zh (fun h=>.w (pF (ahl hO p (hp _ (.head _))) () h) .rr) fun h=>.w (rC (ahl hO p (hp _ (.head _))) 0 h) .rr)
abbrev a7M (l:List Int) (n:Int) (k:Nat):Bool:=l.getD k 0==n
abbrev afy (l:List Int) (m i:Int) (x:List (Nat×PE bM)):aW bM:=⟨[(0,xL 3 l),(1,xi m),(5,xi i)]++x,[],[]⟩
def z226 (l:List Int) (m:Int):Unit⊕Nat->Ex×aW bM
 | .inl _=>(.exit 0,afy l m l.length [(9,xl false)])
 | .inr _=>(.ret,⟨[(4,xl true)],[],[]⟩)
theorem ahn {n:Nat} {kX:iO bM} (hO:Ok n kX) (l:List Int) (m:Int) (hl:l.length<=aO):Lp n 226 0 (afy l m 0 []) (z226 l m (pJ (a7M l m) l.length)).1 (z226 l m (pJ (a7M l m) l.length)).2:=
 kN (st:=fun i _=>afy l m i []) (fun _ _=>True) (by kernel_rfl) hl trivial (fun k s m hk _ ih=>round hX hO (by kernel_rfl) (.b (a2v hk) (.o (bP hk) (.ls (.ou nofun) (.nx (ih _ trivial)))))) (fun s _=>round hX hO (by kernel_rfl) (.b (a5U l.length) (.ou nofun)))
theorem a7N {l:List Int} {m:Int}:G8 (pJ (a7M l m) l.length)=!decide (m∈l):=by
 rw[Bool.eq_iff_iff,Jb];simp only[Bool.not_eq_true',decide_eq_false_iff_not];constructor
 ·intro h hm;obtain⟨j,hj,e⟩:=List.mem_iff_getElem.1 hm;have:=h j hj;simp[a7M,List.getD,List.getElem?_eq_getElem hj,e] at this
 intro h j hj;have e:l.getD j 0=l[j]:=by simp[List.getD,List.getElem?_eq_getElem hj]
 simp only[a7M,beq_eq_false_iff_ne,ne_eq,e];intro e2;exact h (e2▸List.getElem_mem hj)
theorem aho:Gd a6n:=ahm.add fun n hO p hp=>dS hX hO (by kernel_rfl) (.z (c:=G8 (pJ (a7M p.1 p.2) p.1.length)) (fun h=>.w (pF (ahn hO p.1 p.2 (hp _ (.head _))) () h) (.v false (by rw[a7N] at h;simp at h;simp[h]))) fun h=>.w (rC (ahn hO p.1 p.2 (hp _ (.head _))) 0 h) (.v true (by rw[a7N] at h;simp at h;simp[h])))
theorem ahp {n:Nat} {kX:iO bM} (hO:Ok n kX) (l:List Int) (m:Int) (hl:l.length<=aO):Lp n 182 0 (aaw l m 0 []) (z182 l m (pJ (aav l) l.length)).1 (z182 l m (pJ (aav l) l.length)).2:=
 kN (st:=fun i _=>aaw l m i []) (fun _ _=>True) (by kernel_rfl) hl trivial (fun k s m hk _ ih=>round hX hO (by kernel_rfl) (.b (a2v hk) (.o (bP hk) (.ls (.ou nofun) (.nx (ih _ trivial)))))) (fun s _=>round hX hO (by kernel_rfl) (.b (a5U l.length) (.ou nofun)))
theorem ahq:Gd a6o:=aho.add fun n hO p hp=>dS hX hO (by kernel_rfl) (.zh (fun h=>.w (pF (ahp hO p.1 p.2 (hp _ (.head _))) () h) .rr) fun h=>.w (rC (ahp hO p.1 p.2 (hp _ (.head _))) 0 h) .rr)
abbrev acA (d:Dg) (i k:Int) (b:Br) (x:List (Nat×PE bM)):aW bM:=⟨[(1,.loc 0 0),(4,xi i),(5,.loc 1 0),(6,xi k)]++x,[d.ps,b.ps],[]⟩
def aeO (d:Dg) (i:Nat):Unit⊕Nat->Ex×aW bM
 | .inl _=>(.exit 4,acA d i (D6 d i).kids.length (D6 d i) [(57,xl false)])
 | .inr _=>(.ret,⟨[(2,xl false)],[d.ps,(D6 d i).ps],[]⟩)
theorem a8H {d:Dg} {r:Int} {i:Nat} (h:yZ d r i=true) (h0:0<=r) (hi:i<=d.nodes.length):CO r d.nodes.length:=by
 unfold yZ at h;rw[if_pos (by simpa using h0)] at h;have:r<(i:Int):=by simpa using h
 exact⟨h0,by omega⟩
theorem ahr {n:Nat} (hO:Ok n a6o) {d:Dg} (h:DgL d) {i:Nat} (hi:i<d.nodes.length) (hk:(D6 d i).kids.length<=aO):Lp n 128 2 (acA d i 0 (D6 d i) []) (aeO d i (pJ (cLk d i) (D6 d i).kids.length)).1 (aeO d i (pJ (cLk d i) (D6 d i).kids.length)).2:=
 kN (st:=fun k _=>acA d i k (D6 d i) []) (fun _ _=>True) (by kernel_rfl) hk trivial (fun k s m hk _ ih=>by
  unfold gS cLk;cases e1:yZ d ((D6 d i).kids.getD k 0) i
  ·exact round hX hO (by kernel_rfl) (.b (a2v hk) (.o (bP hk) (.b (show (!(yZ d ((D6 d i).kids.getD k 0) i))=true by rw[e1];rfl) (.ou nofun))))
  ·exact round hX hO (by kernel_rfl) (.b (a2v hk) (.o (bP hk) (.b (show (!(yZ d ((D6 d i).kids.getD k 0) i))=false by rw[e1];rfl) (.o (bP hk) (.o h.order (.o (show 0<=(D6 d i).kids.getD k 0->CO ((D6 d i).kids.getD k 0) d.nodes.length from fun h0=>a8H e1 h0 (by omega)) (.o h.order (.o (show 0<=((i:Nat):Int)->CO i d.nodes.length from fun _=>bP hi) (.ls (.ou nofun) (.nx (ih _ trivial)))))))))))
  ) (fun s _=>round hX hO (by kernel_rfl) (.b (a5U (D6 d i).kids.length) (.ou nofun)))
abbrev acB (d:Dg) (i:Int) (x:List (Nat×PE bM)):aW bM:=⟨[(1,.loc 0 0),(4,xi i)]++x,[d.ps],[]⟩
def aeP (d:Dg):Unit⊕Nat->Ex×aW bM
 | .inl _=>(.exit 2,acB d d.nodes.length [(25,xl false)])
 | .inr k=>(.ret,⟨[(2,xl false)],[d.ps,(D6 d k).ps],[]⟩)
theorem m12 {k:Nat} (h:k<=12):k<=aO:=by unfold aO;omega
theorem aeQ {n:Nat} (hO:Ok n a6o) {d:Dg} (h:DgL d):Lp n 128 1 (acB d 0 []) (aeP d (pJ (cLn d) d.nodes.length)).1 (aeP d (pJ (cLn d) d.nodes.length)).2:=
 kN (st:=fun k _=>acB d k []) (fun _ _=>True) (by kernel_rfl) h.nodes trivial (fun k s m hk _ ih=>by
  unfold gS cLn;cases e1:yY (D6 d k).var 0 (xw d.sizes)
  ·exact round hX hO (by kernel_rfl) (.b (a2v hk) (.o (bP hk) (.b (show (!(yY (D6 d k).var 0 (xw d.sizes)))=true by rw[e1];rfl) (.ou nofun))))
  ·have hv:=Vq h.vW e1;cases e2:(((D6 d k).kids.length:Int) != d.sizes.getD (D6 d k).var.toNat 0)
   ·have hl:=ahr hO h hk (m12 (Vr h.vW hv e2));cases e3:G8 (pJ (cLk d k) (D6 d k).kids.length)
    ·exact round hX hO (by kernel_rfl) (.b (a2v hk) (.o (bP hk) (.b (show (!(yY (D6 d k).var 0 (xw d.sizes)))=false by rw[e1];rfl) (.o hv (.b e2 (.w (rC hl 0 e3) (.ou nofun)))))))
    ·exact round hX hO (by kernel_rfl) (.b (a2v hk) (.o (bP hk) (.b (show (!(yY (D6 d k).var 0 (xw d.sizes)))=false by rw[e1];rfl) (.o hv (.b e2 (.w (pF hl () e3) (.nx (ih _ trivial))))))))
   ·exact round hX hO (by kernel_rfl) (.b (a2v hk) (.o (bP hk) (.b (show (!(yY (D6 d k).var 0 (xw d.sizes)))=false by rw[e1];rfl) (.o hv (.b e2 (.ou nofun))))))
  ) (fun s _=>round hX hO (by kernel_rfl) (.b (a5U d.nodes.length) (.ou nofun)))
abbrev acC (d:Dg) (i:Int) (x:List (Nat×PE bM)):aW bM:=⟨[(1,.loc 0 0),(3,xi i)]++x,[d.ps],[]⟩
def aeR (d:Dg):Unit⊕Nat->Ex×aW bM
 | .inl _=>(.exit 0,acC d d.ends.length [(11,xl false)])
 | .inr _=>(.ret,⟨[(2,xl false)],[d.ps],[]⟩)
theorem aeS {n:Nat} (hO:Ok n a6o) {d:Dg} (h:DgL d):Lp n 128 0 (acC d 0 []) (aeR d (pJ (cLe d) d.ends.length)).1 (aeR d (pJ (cLe d) d.ends.length)).2:=
 kN (st:=fun k _=>acC d k []) (fun _ _=>True) (by kernel_rfl) h.ends trivial (fun k s m hk _ ih=>round hX hO (by kernel_rfl) (.b (a2v hk) (.o (bP hk) (.ls (.ou nofun) (.nx (ih _ trivial)))))) (fun s _=>round hX hO (by kernel_rfl) (.b (a5U d.ends.length) (.ou nofun)))
theorem ahs:Gd a6p:=ahq.add fun n hO p hp=>dS hX hO (by kernel_rfl) (.zh (fun h=>.w (pF (aeS hO (show DgL p from hp _ (.head _))) () h) (.zh (fun h2=>.w (pF (aeQ hO (show DgL p from hp _ (.head _))) () h2) .rr) fun h2=>.w (rC (aeQ hO (show DgL p from hp _ (.head _))) 0 h2) .rr)) fun h=>.w (rC (aeS hO (show DgL p from hp _ (.head _))) 0 h) .rr)
theorem ak2:Gd aaz:=ahs.add fun n hO p hp=>dS hX hO (by kernel_rfl) (.o (hp _ (.head _)) (.sh (fun _=>.rr) fun h=>.sh (fun _=>.rr) fun h2=>.o (show DgL p from⟨hp _ (.head _),a2B h2,hp _ (.tail _ (.head _)),O8 h⟩) (.ss .rr .rr)))
open Go Tw Pv gq
theorem a13 {l:List Int} {a:Int} (h:l.Nodup) (ha:a∉l):(l++[a]).Nodup:=by
 rw[List.nodup_append];exact⟨h,by simp,fun x hx y hy e=>by simp at hy;subst hy;subst e;exact ha hx⟩
theorem acD {d:Dg}:∀ (F:Nat) (r s:Int) (x:List Int×List Int),r<s->s∉x.1->0<=s->(∀ i,i<d.nodes.length->∀ k,k<(D6 d i).kids.length->(D6 d i).kids.getD k 0<i)->(0<=r->CO r d.nodes.length)->s∉(Yk d F r x).1
 | 0,_,_,_,_,h,_,_,_=>h
 | F+1,r,s,x,hr,h,h0,hk,hn=>by
  unfold Yk;by_cases c:r<0
  ·rw[if_pos (by simpa using c)];split<;>exact h
  rw[if_neg (by simpa using c)];split
  ·exact h
  have hi:=hn (by omega);have Td:∀ k,k<(iG d r).kids.length->(iG d r).kids.getD k 0<r:=fun k Cb=>by
   obtain⟨i1,i2⟩:=hi;have h9:(iG d r).kids.getD k 0<(r.toNat:Int):=hk r.toNat (by omega) k Cb;omega
  have:=RH (g:=fun k y=>Yk d F ((iG d r).kids.getD k 0) y) (m:=(iG d r).kids.length) (k:=0) (s:=x) (fun _ y=>s∉y.1) h (fun j y _ hj hy=>by
   have h4:=Td j (by omega);exact acD F _ s y (by omega) hy h0 hk fun h5=>⟨h5,by have:=hi.2;omega⟩)
  simp only[List.mem_append,List.mem_singleton,not_or];exact⟨this,by omega⟩
theorem a4b {d:Dg} (h:SL d):∀ (F:Nat) (r:Int) (x:List Int×List Int),a6q d x->EW d r d.nodes.length->a6q d (Yk d F r x)
 | 0,_,_,hx,_=>hx
 | F+1,r,x,hx,hr=>by
  unfold Yk;by_cases c:r<0
  ·rw[if_pos (by simpa using c)];split
   ·rename_i c2;have c2:BU r∉x.2:=(by simpa using c2);refine⟨hx.n1,hx.n2,a13 hx.e1 c2,fun a ha=>?_⟩;rw[List.mem_append,List.mem_singleton] at ha;rcases ha with ha | rfl
    ·exact hx.e2 a ha
    exact hr.2 c
   exact hx
  rw[if_neg (by simpa using c)];split
  ·exact hx
  rename_i c2;have c2:r∉x.1:=by simpa using c2
  have hi:CO r d.nodes.length:=⟨by omega,hr.1⟩;have aN:r.toNat<d.nodes.length:=by have:=hr.1;omega
  have h1:=RH (g:=fun k y=>Yk d F ((iG d r).kids.getD k 0) y) (m:=(iG d r).kids.length) (k:=0) (s:=x) (fun _ y=>a6q d y∧r∉y.1) ⟨hx,c2⟩ (fun j y _ hj hy=>by
   have hk:EW d ((iG d r).kids.getD j 0) r.toNat:=h.kid r.toNat aN j (by simpa using hj);obtain⟨k1,k2⟩:=hk;have Cb:EW d ((iG d r).kids.getD j 0) d.nodes.length:=⟨by omega,k2⟩;refine⟨a4b h F _ y hy.1 Cb,acD F _ r y (by omega) hy.2 (by omega) (fun i hi k hk=>(h.kid i hi k hk).1) fun h5=>⟨h5,Cb.1⟩⟩)
  obtain⟨h2,h3⟩:=h1;refine⟨a13 h2.n1 h3,fun a ha=>?_,h2.e1,h2.e2⟩;rw[List.mem_append,List.mem_singleton] at ha;rcases ha with ha | rfl
  ·exact h2.n2 a ha
  exact hi
abbrev wSr (d:Dg) (r:Int) (k:Int) (s:List Int×List Int) (x:List (Nat×PE bM)):aW bM:=⟨[(1,xi r),(2,xo 2),(3,xo 3),(4,.loc 0 0),(10,.loc 1 0),(11,xi k)]++x,[d.ps,(iG d r).ps],[.gone,.gone,ls s.1,ls s.2]⟩
abbrev aht (n:Nat) (d:Dg) (r:Int) (x y:List Int×List Int):Prop:=qH X0 Tryz.prog (ApN n) (.fn 181 [] []) [.agg d.ps,.int .i64 r,.own 0,.own 1] [ls x.1,ls x.2] (.bH [.own 2,.own 3]) [.gone,.gone,ls y.1,ls y.2]
theorem sSr {N:Nat} (hO:∀ m,N<=m->Ok m aaz) {d:Dg} (h:SL d):∀ (F:Nat) (r:Int) (x:List Int×List Int),r+1<F->a6q d x->EW d r d.nodes.length->1<=F->aht (N+F) d r x (Yk d F r x)
 | 0,r,x,_,_,_,h1=>by omega
 | F+1,r,x,hF,hx,hr,_=>by
  have hn:=hx.len.1;have he:=hx.len.2;have m1:=h.nodes;have m2:=h.ends;have hO1:=hO (N+F) (by omega);have mn:x.1.length<=aO:=by omega
  have me:x.2.length<=aO:=by omega
  unfold Yk;by_cases c:r<0
  ·have t0:decide (r<0)=true:=(by simpa using c);rw[if_pos t0];by_cases c2:BU r∈x.2
   ·have t1:(!(decide (BU r∈x.2)))=false:=(by simpa using c2);rw[if_neg (by rw[t1];simp)];exact qH.gs hX (a2w hX hO1 (first:=[]) (cap:=[]) (v:=.bH [.own 0,.own 1]) (H1:=[ls x.1,ls x.2]) (by kernel_rfl) (.b t0 (.o me (.b t1 .er)))) [.mv 0,.mv 1] rfl
   have t1:(!(decide (BU r∈x.2)))=true:=(by simpa using c2);rw[if_pos t1];have e1:=vO _ _ (a13 hx.e1 c2) (fun a ha=>by
    rw[List.mem_append,List.mem_singleton] at ha;rcases ha with ha | rfl
    ·exact hx.e2 a ha
    exact hr.2 c)
   have e2:x.2.length+[BU r].length<=aO:=by rw[<-List.length_append];omega
   exact qH.gs hX (a2w hX hO1 (first:=[]) (cap:=[]) (v:=.bH [.own 0,.own 3]) (H1:=[ls x.1,.gone,.list true true 3 ([BU r]:List Int),ls (x.2++[BU r])]) (by kernel_rfl) (.b t0 (.o me (.b t1 (.o e2 .er))))) [.mv 0,.gc [4,3]] rfl
  have t0:decide (r<0)=false:=by simpa using c
  rw[if_neg (by rw[t0];simp)];by_cases c2:r∈x.1
  ·have t1:decide (r∈x.1)=true:=(by simpa using c2);rw[if_pos t1];exact qH.gs hX (a2w hX hO1 (first:=[]) (cap:=[]) (v:=.bH [.own 0,.own 1]) (H1:=[ls x.1,ls x.2]) (by kernel_rfl) (.b t0 (.o mn (.b t1 .er)))) [.mv 0,.mv 1] rfl
  have t1:decide (r∈x.1)=false:=by simpa using c2
  rw[if_neg (by rw[t1];simp)];have hi:CO r d.nodes.length:=⟨by omega,hr.1⟩;obtain⟨i1,i2⟩:=id hi;have aN:r.toNat<d.nodes.length:=by omega
  have hl:LpB (N+F) 181 0 2 (wSr d r 0 x []) (.exit 0) (wSr d r (iG d r).kids.length (uq (fun k y=>Yk d F ((iG d r).kids.getD k 0) y) (iG d r).kids.length 0 x) [(40,xl false)]):=by
   refine a0B (σ:=List Int×List Int) (N:=(iG d r).kids.length) (g:=fun k y=>Yk d F ((iG d r).kids.getD k 0) y) (s0:=x) (st:=fun k y=>wSr d r k y []) (fin:=fun y=>wSr d r (iG d r).kids.length y [(40,xl false)]) (fun _ y=>a6q d y) (by kernel_rfl) (m12 (h.aaA r.toNat aN)) hx (fun k y hk hy=>?_) (fun k y hk hy m e p g=>?_) (fun y _=>round hX hO1 (by kernel_rfl) (.b (a5U (iG d r).kids.length) .ex))
   ·have hk:EW d ((iG d r).kids.getD k 0) r.toNat:=h.kid r.toNat aN k hk;have k1:(iG d r).kids.getD k 0<(r.toNat:Int):=hk.1;exact a4b h F _ y hy ⟨by omega,hk.2⟩
   have Cb:EW d ((iG d r).kids.getD k 0) r.toNat:=h.kid r.toNat aN k hk;have k1:=Cb.1;have hs:=sSr hO h F ((iG d r).kids.getD k 0) y (by omega) hy ⟨by omega,Cb.2⟩ (by omega);exact round hX hO1 (by kernel_rfl) (.b (a2v hk) (.o (bP hk) (.fr [2,3] hs (.goG [.gc [4,5]] g))))
  generalize hy:uq (fun k y=>Yk d F ((iG d r).kids.getD k 0) y) (iG d r).kids.length 0 x=y at hl;have sk:=a4b h (F+1) r x hx hr;unfold Yk at sk;rw[if_neg (by rw[t0];simp),if_neg (by rw[t1];simp),hy] at sk;have sl:(y.1++[r]).length<=d.nodes.length:=sk.len.1;have ml:y.1.length+[r].length<=aO:=by rw[<-List.length_append];omega
  exact qH.gs hX (a2w hX hO1 (first:=[]) (cap:=[]) (v:=.bH [.own 5,.own 3]) (H1:=[.gone,.gone,.gone,ls y.2,.list true true 3 ([r]:List Int),ls (y.1++[r])]) (by kernel_rfl) (.b t0 (.o mn (.b t1 (.o hi (.wG [.mv 0,.mv 1] hl (.o ml .er))))))) [.gc [5,3]] rfl
abbrev wSn (d:Dg) (r:Int) (k:Int) (s:List Int×List Int) (x:List (Nat×PE bM)):aW bM:=⟨[(1,xi r),(2,xo 0),(3,xo 1),(4,.loc 0 0),(10,.loc 1 0),(11,xi k)]++x,[d.ps,(iG d r).ps],[ls s.1,ls s.2]⟩
theorem sr0 {d:Dg}:a6q d ([],[]):=⟨List.nodup_nil,by simp,List.nodup_nil,by simp⟩
theorem ahv:Gd a6r:=ak2.deep 6001 fun n hn hO p hp=>by
 obtain⟨d,r,_,_⟩:=p;have h:SL d:=hp _ (.head _);have hr:EW d r d.nodes.length:=hp _ (.tail _ (.head _));have hm:d.nodes.length<=6000:=hp _ (.tail _ (.tail _ (.head _)));obtain⟨N,rfl⟩:∃ N,n=N+6001:=⟨n-6001,by omega⟩;have hO:∀ m,N<=m->Ok m aaz:=fun m hm=>hO m (by omega);have hO1:=hO (N+6001) (by omega);by_cases c:r<0
 ·have t0:decide (r<0)=true:=by simpa using c
  have t1:(!(decide (BU r∈([]:List Int))))=true:=by simp
  have e:Yk d 6002 r ([],[])=([],[BU r]):=by
   rw[Yk,if_pos t0,if_pos t1];rfl
  show Con X0 Tryz.prog _ _ _ ((Vb (a2 qA qA)).put ((Yk d 6002 r ([],[])).1,(Yk d 6002 r ([],[])).2)) [];rw[e];exact dS hX hO1 (by kernel_rfl) (.b t0 (.o le0 (.b t1 (.o le1 (.rn (.bH [.nil .slc,.bK 3 ([BU r]:List Int) false]) rfl)))))
 ·have t0:decide (r<0)=false:=by simpa using c
  have t1:decide (r∈([]:List Int))=false:=by simp
  have hi:CO r d.nodes.length:=⟨by omega,hr.1⟩;obtain⟨i1,i2⟩:=id hi;have aN:r.toNat<d.nodes.length:=by omega
  have hl:LpB (N+6001) 181 0 0 (wSn d r 0 ([],[]) []) (.exit 0) (wSn d r (iG d r).kids.length (uq (fun k y=>Yk d 6001 ((iG d r).kids.getD k 0) y) (iG d r).kids.length 0 ([],[])) [(40,xl false)]):=by
   refine a0B (σ:=List Int×List Int) (N:=(iG d r).kids.length) (g:=fun k y=>Yk d 6001 ((iG d r).kids.getD k 0) y) (s0:=(([],[]):List Int×List Int)) (st:=fun k y=>wSn d r k y []) (fin:=fun y=>wSn d r (iG d r).kids.length y [(40,xl false)]) (fun _ y=>a6q d y) (by kernel_rfl) (m12 (h.aaA r.toNat aN)) sr0 (fun k y hk hy=>?_) (fun k y hk hy m e p g=>?_) (fun y _=>round hX hO1 (by kernel_rfl) (.b (a5U (iG d r).kids.length) .ex))
   ·have hk:EW d ((iG d r).kids.getD k 0) r.toNat:=h.kid r.toNat aN k hk;have k1:(iG d r).kids.getD k 0<(r.toNat:Int):=hk.1;exact a4b h 6001 _ y hy ⟨by omega,hk.2⟩
   ·have Cb:EW d ((iG d r).kids.getD k 0) r.toNat:=h.kid r.toNat aN k hk;have k1:(iG d r).kids.getD k 0<(r.toNat:Int):=Cb.1;have hs:=sSr hO h 6001 ((iG d r).kids.getD k 0) y (by omega) hy ⟨by omega,Cb.2⟩ (by omega);exact round hX hO1 (by kernel_rfl) (.b (a2v hk) (.o (bP hk) (.fr [0,1] hs (.goG [.gc [2,3]] g))))
  have sk:=a4b h 6002 r ([],[]) sr0 hr;have e:Yk d 6002 r ([],[])=((uq (fun k y=>Yk d 6001 ((iG d r).kids.getD k 0) y) (iG d r).kids.length 0 ([],[])).1++[r],(uq (fun k y=>Yk d 6001 ((iG d r).kids.getD k 0) y) (iG d r).kids.length 0 ([],[])).2):=by
   rw[Yk,if_neg (by rw[t0];simp),if_neg (by rw[t1];simp)]
  show Con X0 Tryz.prog _ _ _ ((Vb (a2 qA qA)).put ((Yk d 6002 r ([],[])).1,(Yk d 6002 r ([],[])).2)) [];rw[e] at sk ⊢;generalize uq (fun k y=>Yk d 6001 ((iG d r).kids.getD k 0) y) (iG d r).kids.length 0 ([],[])=y at hl sk;have sl:(y.1++[r]).length<=d.nodes.length:=sk.len.1;have m1:=h.nodes;have ml:y.1.length+[r].length<=aO:=by rw[<-List.length_append];omega
  exact dS hX hO1 (by kernel_rfl) (.b t0 (.o le0 (.b t1 (.o hi (.wG [.Nv 2 3,.Nv 3 3] hl (.o ml .rr))))))
open Go Tw Pv gq
abbrev wD (d:Dg) (x:List (Nat×PE bM)):aW bM:=⟨[(1,.loc 0 0)]++x,[d.ps],[]⟩
abbrev rD (d:Dg):Ex×aW bM:=(.ret,⟨[(2,xl false)],[d.ps],[]⟩)
def zD1 (d:Dg) (i:Nat):Unit⊕Nat->Ex×aW bM
 | .inl _=>(.exit 2,wD d [(3,xi i),(4,xi i),(18,xl false)])
 | .inr _=>rD d
theorem lD1 {n:Nat} {kX:iO bM} (hO:Ok n kX) {d:Dg} (h:DgL d) {i:Nat} (hi:i<d.ends.length):Lp n 137 1 (wD d [(3,xi i),(4,xi 0)]) (zD1 d i (pJ (cD1 d i) i)).1 (zD1 d i (pJ (cD1 d i) i)).2:=
 kN (st:=fun j _=>wD d [(3,xi i),(4,xi j)]) (fun _ _=>True) (by kernel_rfl) (by have:=h.ends;omega) trivial (fun j s m hj _ ih=>round hX hO (by kernel_rfl) (.b (a2v hj) (.o (bP (show j<d.ends.length by omega)) (.o (bP hi) (.q (.bool (cD1 d i j)) (G9 (.tmp 25) (.tmp 30) (d.ends.getD j V0) (d.ends.getD i V0)) (.ls (.ou nofun) (.nx (ih _ trivial)))))))) (fun s _=>round hX hO (by kernel_rfl) (.b (a5U i) (.ou nofun)))
def zD0 (d:Dg):Unit⊕Nat->Ex×aW bM
 | .inl _=>(.exit 0,wD d [(3,xi d.ends.length),(13,xl false)])
 | .inr _=>rD d
theorem lD0 {n:Nat} {kX:iO bM} (hO:Ok n kX) {d:Dg} (h:DgL d):Lp n 137 0 (wD d [(3,xi 0)]) (zD0 d (pJ (cD0 d) d.ends.length)).1 (zD0 d (pJ (cD0 d) d.ends.length)).2:=
 kN (st:=fun i _=>wD d [(3,xi i)]) (fun _ _=>True) (by kernel_rfl) h.ends trivial (fun i s m hi _ ih=>by
  have hl:=lD1 hO h hi;unfold gS cD0;cases e:G8 (pJ (cD1 d i) i)
  ·exact round hX hO (by kernel_rfl) (.b (a2v hi) (.w (rC hl 0 e) (.ou nofun)))
  ·exact round hX hO (by kernel_rfl) (.b (a2v hi) (.w (pF hl () e) (.nx (ih _ trivial))))
  ) (fun s _=>round hX hO (by kernel_rfl) (.b (a5U d.ends.length) (.ou nofun)))
def zD3 (d:Dg) (i:Nat):Unit⊕Nat->Ex×aW bM
 | .inl _=>(.exit 6,wD d [(5,xi i),(6,xi i),(47,xl false)])
 | .inr _=>rD d
theorem lD3 {n:Nat} (hO:Ok n a6r) {d:Dg} (h:SL d) {i:Nat} (hi:i<d.nodes.length):Lp n 137 3 (wD d [(5,xi i),(6,xi 0)]) (zD3 d i (pJ (cD3 d i) i)).1 (zD3 d i (pJ (cD3 d i) i)).2:=
 kN (st:=fun j _=>wD d [(5,xi i),(6,xi j)]) (fun _ _=>True) (by kernel_rfl) (by have:=h.nodes;omega) trivial (fun j s m hj _ ih=>by
  have LD:j<d.nodes.length:=by omega
  unfold gS cD3;cases e:((D6 d j).var==(D6 d i).var)
  ·exact round hX hO (by kernel_rfl) (.b (a2v hj) (.o (bP LD) (.o (bP hi) (.b e (.nx (ih _ trivial))))))
  ·exact round hX hO (by kernel_rfl) (.b (a2v hj) (.o (bP LD) (.o (bP hi) (.b e (.o (bP LD) (.o (bP hi) (.o (m12 (h.aaA j LD)) (.ls (.ou nofun) (.nx (ih _ trivial))))))))))
  ) (fun s _=>round hX hO (by kernel_rfl) (.b (a5U i) (.ou nofun)))
def zD2 (d:Dg):Unit⊕Nat->Ex×aW bM
 | .inl _=>(.exit 4,wD d [(5,xi d.nodes.length),(36,xl false)])
 | .inr _=>rD d
theorem lD2 {n:Nat} (hO:Ok n a6r) {d:Dg} (h:SL d):Lp n 137 2 (wD d [(5,xi 0)]) (zD2 d (pJ (cD2 d) d.nodes.length)).1 (zD2 d (pJ (cD2 d) d.nodes.length)).2:=
 kN (st:=fun i _=>wD d [(5,xi i)]) (fun _ _=>True) (by kernel_rfl) h.nodes trivial (fun i s m hi _ ih=>by
  have hl:=lD3 hO h hi;unfold gS cD2;cases e1:Vp (D6 d i)
  ·cases e:G8 (pJ (cD3 d i) i)
   ·exact round hX hO (by kernel_rfl) (.b (a2v hi) (.o (bP hi) (.o (m12 (h.aaA i hi)) (.b e1 (.w (rC hl 0 e) (.ou nofun))))))
   ·exact round hX hO (by kernel_rfl) (.b (a2v hi) (.o (bP hi) (.o (m12 (h.aaA i hi)) (.b e1 (.w (pF hl () e) (.nx (ih _ trivial)))))))
  ·exact round hX hO (by kernel_rfl) (.b (a2v hi) (.o (bP hi) (.o (m12 (h.aaA i hi)) (.b e1 (.ou nofun)))))
  ) (fun s _=>round hX hO (by kernel_rfl) (.b (a5U d.nodes.length) (.ou nofun)))
theorem aaE {d:Dg} (h:SL d):(srN d d.root).length<=aO∧(srE d d.root).length<=aO:=by
 have hl:=(a4b h 6002 d.root ([],[]) sr0 h.root).len;exact⟨Nat.le_trans hl.1 h.nodes,Nat.le_trans hl.2 h.ends⟩
theorem ahw:Gd a6s:=ahv.add fun n hO p hp=>dS hX hO (by kernel_rfl) (.zh (fun h=>.w (pF (lD0 hO (show SL p from hp _ (.head _)).toDgL) () h) (.zh (fun h2=>.w (pF (lD2 hO (show SL p from hp _ (.head _))) () h2) (.o (hp _ (.head _)) (.o (show SL p from hp _ (.head _)).root (.o (hp _ (.tail _ (.head _))) (.o (aaE (hp _ (.head _))).1 (.ss (.o (aaE (hp _ (.head _))).2 .rr) .rr)))))) fun h2=>.w (rC (lD2 hO (show SL p from hp _ (.head _))) 0 h2) .rr)) fun h=>.w (rC (lD0 hO (show SL p from hp _ (.head _)).toDgL) 0 h) .rr)
theorem ahy:Gd a6u:=ahw.add fun n hO p hp=>dS hX hO (by kernel_rfl) (.o (hp _ (.head _)) (.o (hp _ (.tail _ (.head _))) (.sh (fun _=>.rr) fun h=>.o (wK (hp _ (.head _)) (hp _ (.tail _ (.head _))) h).1 (.o (wK (hp _ (.head _)) (hp _ (.tail _ (.head _))) h).2 (.ss .rr .rr)))))
open Go Tw Pv gq
def gAt (d:Dg) (p:List Int) (r:Int):Int⊕Int:=if decide (r>=0)=true then .inl ((iG d r).kids.getD (p.getD (iG d r).var.toNat 0).toNat 0) else .inr r
theorem acE {d:Dg} {p:List Int}:∀ (F:Nat) (r:Int),atF d p F r<0->itF (gAt d p) (F+1) r=some (atF d p F r)
 | 0,r,h=>by
  have h:r<0:=h;have e:gAt d p r=.inr r:=by unfold gAt;rw[if_neg (by simpa using h)]
  rw[itF,e];rfl
 | F+1,r,h=>by
  by_cases c:r<0
  ·have e:gAt d p r=.inr r:=by unfold gAt;rw[if_neg (by simpa using c)]
   rw[itF,e,atF,if_pos c]
  have e:gAt d p r=.inl ((iG d r).kids.getD (p.getD (iG d r).var.toNat 0).toNat 0):=by unfold gAt;rw[if_pos (by simp;omega)]
  rw[atF,if_neg c] at h;rw[itF,e,atF,if_neg c];exact acE F _ h
theorem a4w {d:Dg} (h:SL d) {p:List Int} (hp:Ah d.sizes p=true):∀ (F:Nat) (r:Int),r<F->EW d r d.nodes.length->EW d (atF d p F r) 0
 | 0,r,hr,hk=>⟨by show r<((0:Nat):Int);omega,hk.2⟩
 | F+1,r,hr,hk=>by
  unfold atF;split
  ·rename_i c;exact⟨by show r<((0:Nat):Int);omega,hk.2⟩
  rename_i c;have:=(Vu h hp (r:=r) ⟨by omega,hk.1⟩).2.2;obtain⟨a1,a2⟩:=this;have a3:r<(d.nodes.length:Int):=hk.1;exact a4w h hp F _ (by omega) ⟨by omega,a2⟩
abbrev wAt (d:Dg) (p:List Int) (r:Int) (x:List (Nat×PE bM)):aW bM:=⟨[(1,xL 3 p),(2,.loc 0 0),(4,.loc 1 0),(5,xi r)]++x,[d.ps,V0.ps],[]⟩
theorem lAt {n:Nat} {kX:iO bM} (hO:Ok n kX) {d:Dg} (h:SL d) (hm:d.nodes.length<=6000) {p:List Int} (hp:Ah d.sizes p=true):Lp n 85 0 (wAt d p d.root []) (.exit 0) (wAt d p (atR d p) [(9,xl false)]):=by
 have h0:d.root<(d.nodes.length:Int):=h.root.1;have ha:=a4w h hp 6001 d.root (by omega) h.root;have JM:=acE 6001 d.root ha.1;refine acz (st:=fun r=>wAt d p r []) (g:=gAt d p) (out:=fun r=>(.exit 0,wAt d p r [(9,xl false)])) (fun r=>EW d r d.nodes.length) JM (by kernel_rfl) (by decide) h.root ?_ ?_
 ·intro r r1 hr e;unfold gAt at e;split at e
  ·rename_i c;have c:0<=r:=(by simpa using c);cases e;have:=(Vu h hp (r:=r) ⟨c,hr.1⟩).2.2;have a3:r<(d.nodes.length:Int):=hr.1;obtain⟨a1,a2⟩:=this;exact⟨by omega,a2⟩
  cases e
 intro r m r' hr ih;by_cases c:0<=r
 ·have hk:=Vu h hp (r:=r) ⟨c,hr.1⟩;have t1:decide (r>=0)=true:=by simpa using c
  have e:gAt d p r=.inl ((iG d r).kids.getD (p.getD (iG d r).var.toNat 0).toNat 0):=by unfold gAt;rw[if_pos t1]
  have g:=ih _ e;rw[e];have hr2:CO r d.nodes.length:=⟨c,hr.1⟩;exact round hX hO (by kernel_rfl) (.b t1 (.o hr2 (.o hr2 (.o hk.1 (.o hk.2.1 (.go g))))))
 have t1:decide (r>=0)=false:=by simpa using c
 have e:gAt d p r=.inr r:=by unfold gAt;rw[if_neg (by rw[t1];simp)]
 rw[e];dsimp only[a3u];exact round hX hO (by kernel_rfl) (.b t1 .ex)
theorem aaF {d:Dg} (h:SL d) (hm:d.nodes.length<=6000) {p:List Int} (hp:Ah d.sizes p=true):CO (BU (atR d p)) d.ends.length:=by
 have h0:d.root<(d.nodes.length:Int):=h.root.1;have ha:=a4w h hp 6001 d.root (by omega) h.root;exact ha.2 ha.1
theorem ak3:Gd aaB:=ahy.add fun n hO p hp=>dS hX hO (by kernel_rfl) (.w (lAt hO (hp _ (.head _)) (hp _ (.tail _ (.head _))) (hp _ (.tail _ (.tail _ (.head _))))) (.o (aaF (hp _ (.head _)) (hp _ (.tail _ (.head _))) (hp _ (.tail _ (.tail _ (.head _))))) .rr))
open Go Tw Pv gq
theorem ae9 {A:Nat->Prop} {m:List MB} {h:List HB} {l:List Int} {cs:List TV} (hr:aX X0 Tryz.prog A m h 3 l cs 0 1) (hc:cs.length=l.length):cs=l.map fun n=>TV.int .i64 n:=by
 apply List.ext_getElem (by simp[hc]);intro j h1 h2;have hj:j<l.length:=by omega
 have:=hr.2.2 j l[j] 0 (.int .i64 l[j]) cs[j] (List.getElem?_eq_getElem hj) rfl (by rw[List.getElem?_eq_some_iff];exact⟨by omega,by simp⟩);rw[this.ae1];simp
theorem a7O:∀ l:List Int,KY (l.map fun n=>TV.int .i64 n)=some l
 | []=>rfl
 | a::l=>by simp[KY,a7O l]
theorem abR {A:Nat->Prop} {m:List MB} {h:List HB} (l:List Int):aX X0 Tryz.prog A m h 3 l (l.map fun n=>TV.int .i64 n) 0 1:=by
 refine⟨fun j a _=>rfl,by simp only[List.length_map,Nat.mul_one,Nat.zero_add];exact Nat.le_refl _,fun j a i c v hj hi hv=>?_⟩;have LD:=(List.getElem?_eq_some_iff.1 hj).1;cases i with
 | zero=>
  have hi:some (PV.int .i64 a)=some c:=hi;cases hi;have hj:(l:List Int)[j]? = some a:=hj;rw[Nat.zero_add,Nat.mul_one,Nat.add_zero,List.getElem?_map,hj] at hv;have hv:some (TV.int .i64 a)=some v:=hv;cases hv;exact .int _ _
 | succ i=>have hi:([]:List (PV bM))[i]? = some c:=hi;simp at hi
theorem aaG:aZ Tryz.prog 3=some 1:=by kernel_rfl
theorem acF (n:Nat) (x:TV) (h:List HB):Bd Tryz.prog T LL (n+1) (.fn 104 [] []) [x] h=Vk 104 (.fn 104 [] []) [x] h:=rfl
theorem aea {f c:Nat} {h:List HB} {kk oN:BK} {cs:List TV} {l:List Int} {e:Bool} (hb:h[c]? = some (.cells kk cs)) (hk:sK kk true=some oN) (QA:cs=l.map fun n=>TV.int .i64 n) (h0:0<l.length) (h1:l.length<=2^20) :
  Vk f (.fn f [] []) [.slc c 0 l.length l.length 1 e] h=some (.bH [],h.set c (.cells oN ((wJ l).map fun n=>TV.int .i64 n)),[c]):=by
 have pK:cs.length=l.length:=by rw[QA,List.length_map]
 have him:KY cs=some l:=by rw[QA];exact a7O l
 generalize l.length=n at *;obtain⟨j,rfl⟩:∃ j,n=j+1:=⟨n-1,by omega⟩;simp only[Vk,Vj,if_true,hb,hk,him,pK,h0,h1,and_self]
theorem ahz {n:Nat} {k ex:Bool} (l:List Int) (hl:l.length<=2^20):qH X0 Tryz.prog (ApN (n+1)) (.fn 104 [] []) [.own 0] [.list k ex 3 l] (.bH []) [.list k ex 3 (wJ l)]:=by
 intro A m h tf nI hr hf hx;obtain⟨x,r,rfl,h1,h2⟩:=hx.inv;have:=h2.inv0;subst this;obtain⟨g1,g2⟩:=ae2 hr (i:=0) (k:=k) (ex:=ex) (t:=3) (l:=l) rfl h1;have htf:=hf.acn;subst htf;show ∃ w h1 ws m1,Bd Tryz.prog T LL (n+1) _ _ h=_∧_;rw[acF];have ak5:wJ ([]:List Int)=[]:=by simp[wJ]
 have hE:∀ h0:(l:List Int)=[],wJ l=l:=fun h0=>by rw[h0];exact ak5
 rcases afo g2 with⟨h0,rfl⟩ | ⟨h0,b,off,sz,cs,rfl,p0,p1,p2,p3,p4⟩ | ⟨p1,c,sz,e,kk,cs,rfl,p2,p3,p4,p5,p6,p7,p8,p9⟩
 ·rw[hE h0];exact⟨.bH [],h,[],m,rfl,hr,.bH rfl (fun i x y hx=>by simp at hx),.refl,.refl,fun b hb=>by cases hb⟩
 ·rw[hE h0];exact⟨.bH [],h,[],m,rfl,hr,.bH rfl (fun i x y hx=>by simp at hx),.refl,.refl,fun b hb=>by cases hb⟩
 rw[aaG] at p2;cases p2;have p8:cs.length=(l:List Int).length*1:=p8;have pK:cs.length=l.length:=by omega
 have QA:=ae9 p9 pK;have OC:0<l.length:=by cases l with | nil=>exact absurd rfl p1 | cons=>simp
 obtain⟨oN,qM,a1R,hko⟩:=Aa p5;have aN:=(List.getElem?_eq_some_iff.1 p4).1;have jc:(MB.bK (TV.slc c 0 l.length l.length 1 e)).own=some c:=by simp only[MB.own];rw[if_neg (by omega)]
 have hsl:(wJ l).length=l.length:=by unfold wJ;rw[List.length_mergeSort]
 have dZ:wJ l≠[]:=fun e0=>by rw[e0] at hsl;simp at hsl;omega
 obtain⟨q1,q2⟩:=hr.set (i:=0) (c:=c) (pb:=.list k ex 3 (wJ l)) (hb:=.cells oN ((wJ l).map fun n=>TV.int .i64 n)) g1 jc
  (fun X5 Gs=>⟨_,by simp only[aB];rw[List.getElem?_set_self aN],by
   simp only[aB,p4,Option.some.injEq] at Gs;subst Gs;rw[List.length_map,hsl,pK];exact Nat.le_refl _⟩)
  (fun hF=>by
   have r:=LR.some (X:=X0) (P:=Tryz.prog) (A:=AA A m) (m:=m) (k:=k) (ex:=ex) (e:=e) (t:=3) (b:=c) (kk:=oN) dZ aaG (by decide) (by rw[List.getElem?_set_self aN]) a1R (fun e0=>hko (p6 e0)) p7 (by rw[List.length_map,Nat.mul_one];rfl) (abR (wJ l));have ak6:@List.length (X0.Γ 3) (wJ l)=l.length:=hsl;rw[ak6] at r;exact r)
 refine⟨.bH [],_,[c],m,?_,q1,.bH rfl (fun i x y hx=>by simp at hx),q2,.refl,fun d hd=>?_⟩
 ·exact aea p4 qM QA OC hl
 simp at hd;subst hd;exact aC g1 jc
end Go.Proofs.YtjkgcifieggcpaaGreat
namespace Pv
open Go Tw
variable {X:iR} {P:Program}
theorem Con.afz (hX:aU X P) {call:ay} {f:FuncId} {xs vs:List (PV X.Γ)} {v v':PV X.Γ} {ext ext':List (PB X.Γ)} (hc:Con X P call f vs v ext) (hv:views [] ([]++xs++[])=some vs) (hs:mF X 0 ext=some ext')
  (e:shift 0 v=v') (he:(if sG v||ext.any (hasB X) then aI (oW.mZ ([]++xs++[])) [] else [])=([]:List (PB X.Γ))):qH X P call (.fn f [] []) xs [] v' ext':=by
 subst e;intro A m h tf nI hr hf hx;have htf:=hf.acn;subst htf;obtain⟨w,h',m1,c1,c2,c3,c4,c5⟩:=XP hX hc hr hv hs (t1:=[]) (t3:=[]) .nil hx .nil;rw[he] at c2;exact⟨w,h',[],m1,c1,c2,c3,c4,c5,fun b hb=>by cases hb⟩
end Pv
namespace Go.Proofs.YtjkgcifieggcpaaGreat
open Go Tw Pv gq
theorem abS (n:Nat) (h:List HB):QY Tryz.prog T (ApN n) LL 103 [.nil .slc] h=some (.nil .slc,h,[]):=by kernel_rfl
theorem abT (n b off cap:Nat) (ex:Bool) (h:List HB):QY Tryz.prog T (ApN n) LL 103 [.slc b off 0 cap 1 ex] h=some (.slc h.length 0 0 0 1 true,h++[.cells .own []],[]):=by kernel_rfl
theorem afA {n:Nat}:Con X0 Tryz.prog (ApN (n+1)) 103 [.bK 3 ([]:List Int) false] (.own 0) (lsI []):=by
 intro A h first args cap hup hv
 obtain⟨x,r,e,h1,h2⟩:=hv.inv;have:=h2.inv0;subst this;have hun:Bd Tryz.prog T LL (n+1) (.fn 103 first cap) args h=QY Tryz.prog T (ApN n) LL 103 [x] h:=by
  rw[<-e];show Bd Tryz.prog T LL (n+1) _ _ _=_;rw[Bd,if_neg (by decide),if_neg (by decide)]
 rcases aco h1 with rfl | ⟨b,off,cap',sz,ex,cs,rfl,a1,a2,a3,a4,a5⟩
 ·exact⟨.nil .slc,h,[.bK (.nil .slc)],by rw[<-abS n h,<-hun],a8y hup .nil rfl,.own rfl rfl,⟨Nat.le_refl _,fun _ _ _=>rfl,fun b hb=>by simp[aK,MB.own] at hb,fun b cs hc=>⟨cs,hc,Nat.le_refl _⟩⟩⟩
 rw[aaG] at a3;cases a3;have hc:aB (h++[HB.cells .own []]) h.length=some []:=by unfold aB;rw[List.getElem?_append_right (Nat.le_refl _),Nat.sub_self];rfl
 refine⟨.slc h.length 0 0 0 1 true,h++[.cells .own []],[.bK (.slc h.length 0 0 0 1 true)],by rw[<-abT n b off cap' ex h,<-hun],a8y (fun b hb=>hup b (by simp at hb;omega)) (.emp ⟨hup _ (Nat.le_refl _),by simp[aK,MB.own]⟩ hc (Nat.le_refl _) aaG (by decide)) (by simp[MB.own]),.own rfl rfl,⟨by simp,fun b hb _=>by rw[List.getElem?_append_left hb],fun b hb=>by simp[aK,MB.own] at hb,fun b cs hc=>⟨cs,?_,Nat.le_refl _⟩⟩⟩;rw[cu (List.getElem?_append_left (bU hc)),hc]
theorem ahA:Gd a6w:=ak3.ah1 0 fun n _ hO p hp=>by
 have hl:p.length<=aO:=hp _ (.head _);by_cases h:p=[]
 ·subst h;exact afA
 ·have h2:([]:List Int).length+p.length<=aO:=by simpa using hl
  exact Con.gs hX (ah2 hX (hO n (by omega)) (v:=.own 1) (H:=[.gone,.list true false 3 p]) (by kernel_rfl) (.o h (.b (rfl:false=false) (.o h2 .er)))) [.gc [1],.flag 0] rfl
abbrev aeb (m:Nat) (i:Int) (l:List Int) (x:List (Nat×PE bM)):aW bM:=⟨[(3,xo 0),(7,xi m),(8,xi i)]++x,[],[.list true true 3 l]⟩
theorem acG (m:Nat):uq (fun k (l:List Int)=>l.set k (k:Int)) m 0 (List.replicate m 0)=a0L m:=by
 have:=RH (g:=fun k (l:List Int)=>l.set k (k:Int)) (m:=m) (k:=0) (s:=List.replicate m 0) (fun k l=>l.length=m∧∀ j,j<k->l.getD j 0=(j:Int)) ⟨by simp,by simp⟩ (fun j l _ hj h=>⟨by simp[h.1],fun i hi=>by
  rw[gq.DY (by omega)];split
  ·rename_i e;rw[e]
  exact h.2 i (by omega)⟩)
 rw[a3E (d:=0) (by rw[this.1,xC])];intro j hj;have LD:j<m:=by have:=this.1;omega
 rw[this.2 j (by omega)];simp[a0L,List.getD,List.getElem?_map,List.getElem?_range,LD]
theorem ak7 {n:Nat} {kX:iO bM} (hO:Ok n kX) (m:Nat) (hm:m<=aO):Lp n 106 0 (aeb m 0 (List.replicate m 0) []) (.exit 0) (aeb m m (a0L m) [(9,xl false)]):=by
 rw[<-acG];exact a0B (σ:=List Int) (N:=m) (g:=fun k (l:List Int)=>l.set k (k:Int)) (s0:=List.replicate m 0) (st:=fun i (l:List Int)=>aeb m i l []) (fin:=fun (l:List Int)=>aeb m m l [(9,xl false)]) (fun _ (l:List Int)=>l.length=m) (by kernel_rfl) hm (by simp) (fun k l _ h=>by simp[h]) (fun k l hk hl j e p g=>round hX hO (by kernel_rfl) (.b (a2v hk) (.o (bP (show k<l.length by omega)) (.go g)))) (fun l _=>round hX hO (by kernel_rfl) (.b (a5U m) .ex))
theorem ahB:Gd a6x:=ahA.add fun n hO p hp=>by
 have h0:0<=p:=hp _ (.head _);have h1:p<=(aO:Int):=hp _ (.tail _ (.head _));obtain⟨m,rfl⟩:∃ m:Nat,p=(m:Int):=⟨p.toNat,by omega⟩;exact dS hX hO (by kernel_rfl) (.o (rfl:(m:Int)=(m:Int)) (.o h0 (.o h1 (.w (ak7 hO m (by omega)) .rr))))
abbrev afB (a b:List Int) (i:Int) (x:List (Nat×PE bM)):aW bM:=⟨[(0,xL 3 a),(1,xL 3 b),(12,xi a.length),(13,xi i)]++x,[],[]⟩
def z105 (a b:List Int):Unit⊕Nat->Ex×aW bM
 | .inl _=>(.exit 0,afB a b a.length [(14,xl false)])
 | .inr _=>(.ret,⟨[(4,xl false)],[],[]⟩)
theorem ahC {n:Nat} {kX:iO bM} (hO:Ok n kX) (a b:List Int) (hl:a.length<=aO) (h:a.length=b.length):Lp n 105 0 (afB a b 0 []) (z105 a b (pJ (a3Z a b) a.length)).1 (z105 a b (pJ (a3Z a b) a.length)).2:=
 kN (st:=fun i _=>afB a b i []) (fun _ _=>True) (by kernel_rfl) hl trivial (fun k s m hk _ ih=>round hX hO (by kernel_rfl) (.b (a2v hk) (.o (bP hk) (.o (bP (h▸hk)) (.ls (.ou nofun) (.nx (ih _ trivial))))))) (fun s _=>round hX hO (by kernel_rfl) (.b (a5U a.length) (.ou nofun)))
theorem ahD:Gd a6y:=ahB.add fun n hO p hp=>dS hX hO (by kernel_rfl) (.s (fun h=>.v false (acw h).symm) fun h=>.z (c:=G8 (pJ (a3Z p.1 p.2) p.1.length)) (fun h2=>.w (pF (ahC hO p.1 p.2 (hp _ (.head _)) (VB h)) () h2) (.v true (by rw[<-a2C (VB h),h2]))) fun h2=>.w (rC (ahC hO p.1 p.2 (hp _ (.head _)) (VB h)) 0 h2) (.v false (by rw[<-a2C (VB h),h2])))
theorem ahE:Gd a6z:=ahD.deep 3 fun n hn hO p hp=>by
 have h1:∀ x,qH X0 Tryz.prog (ApN (n-3+1)) (.fn 139 [] [.ptr 0 0 1,.ptr 1 0 1]) [.int .i64 x] [.cells [.int .i64 p.1],.cells [.int .i64 p.2.1]] (tA.put (RF x p.1 p.2.1)) [.cells [.int .i64 p.1],.cells [.int .i64 p.2.1]]:=fun x=>dV hX ok0 (first:=[]) (by kernel_rfl) (.ssh (fun _=>.sr) (fun _=>.sr));obtain⟨n,rfl⟩:∃ k,n=k+3:=⟨n-3,by omega⟩;rw[show n+3-3+1=n+1 by omega] at h1;have h2:=ah8 (n:=n+2) (by omega) (g:=fun x=>RF x p.1 p.2.1) h1 p.2.2 (hp _ (.head _));exact dS hX (hO _ (by omega)) (by kernel_rfl) (.k h2 (.v (!(o8 (fun x=>RF x p.1 p.2.1) p.2.2)) (by rw[a1i];rfl)))
def aaM (s:List Int):Int:=uq (fun k n=>IntKind.i64.wrap (n*s.getD k 0)) s.length 0 1
theorem a8J:∀ {s:List Int},BQ s->dD s<=12^s.length
 | [],_=>by decide
 | a::t,h=>by
  have h1:=a8J h.tail;have h2:=qy h.tail;have h3:=h a (.head _);have h4:a*dD t<=12*dD t:=Int.mul_le_mul_of_nonneg_right h3.2 (by omega);show a*dD t<=12^(t.length+1);rw[Int.pow_succ];omega
theorem ahF:∀ {n:Nat},n<=6->(12:Int)^n<=2985984:=by decide
theorem acH {s:List Int} (h:BQ s) (hl:s.length<=6):aaM s=dD s:=by
 have:=RH (g:=fun k n=>IntKind.i64.wrap (n*s.getD k 0)) (m:=s.length) (k:=0) (s:=1) (fun k n=>n=dD (s.take k)) (by simp[dD]) (fun j n _ hj e=>by
  have LD:j<s.length:=by omega
  have e2:dD (s.take (j+1))=n*s.getD j 0:=by
   rw[List.take_succ_eq_append_getElem LD,HY,e];simp[dD,List.getD,List.getElem?_eq_getElem LD]
  have h1:=a3v h (j+1);have h2:1<=dD (s.take (j+1)):=qy fun a ha=>h a (List.mem_of_mem_take ha);have h3:=a8J h;have h4:=ahF hl;show IntKind.i64.wrap (n*s.getD j 0)=_;rw[e2] at h1 h2 ⊢;exact D5 (by omega) (by omega))
 rw[aaM,this];simp
abbrev w67 (a b:List Int) (p i:Int) (x:List (Nat×PE bM)):aW bM:=⟨[(0,xL 3 a),(1,xL 3 b),(5,xi p),(17,xL 3 a),(18,xi a.length),(19,xi i)]++x,[],[]⟩
theorem l67 {n:Nat} {kX:iO bM} (hO:Ok n kX) (a b:List Int) (hl:a.length<=aO):Lp n 67 0 (w67 a b 1 0 []) (.exit 1) (w67 a b (aaM a) a.length [(20,xl false)]):=
 aaf (st:=fun i n=>w67 a b n i []) (fin:=fun n=>w67 a b n a.length [(20,xl false)]) (fun _ _=>True) (by kernel_rfl) hl LLm trivial (fun _ _ _ _=>trivial) (fun k s hk _ n e p h=>round hX hO (by kernel_rfl) (.b (a2v hk) (.o (bP hk) (.go h)))) (fun s _=>round hX hO (by kernel_rfl) (.b (a5U a.length) .ex))
theorem afC {n:Nat} (hO:Ok n a6z) (l:List Int) (hl:l.length<=aO):qH X0 Tryz.prog (ApN n) (.fn 103 [] []) [.bK 3 l false] [] (.own 0) (lsI l):=
 Con.afz hX (hO 103 [.bK 3 l false] (.own 0) (lsI l) [l.length<=aO] (by kernel_rfl) (List.forall_mem_singleton.2 hl)) rfl rfl rfl rfl
theorem acI (n:Nat):(a0L n).Pairwise fun a b=>decide (a<=b)=true:=by
 unfold a0L;rw[List.pairwise_map];exact List.pairwise_lt_range.imp fun h=>by simp;omega
theorem abV {n:Nat} {o:List Int}:decide (wJ o=a0L n)=ES n o:=by
 rw[Bool.eq_iff_iff,decide_eq_true_eq];have h2:=a7L n;have hp:(wJ o).Perm o:=List.mergeSort_perm _ _;constructor
 ·intro h;rw[h] at hp;unfold ES at h2 ⊢;rw[decide_eq_true_eq] at h2 ⊢;exact⟨by rw[<-hp.length_eq,h2.1],fun a ha=>h2.2.1 a (hp.mem_iff.2 ha),hp.nodup_iff.1 h2.2.2⟩
 intro h;unfold ES at h h2;rw[decide_eq_true_eq] at h h2;have e:o.Perm (a0L n):=(List.perm_ext_iff_of_nodup h.2.2 h2.2.2).2 fun a=>by
  have hm:∀ x,0<=x∧x<(n:Int)->x∈a0L n:=fun x hx=>by
   unfold a0L;rw[List.mem_map];exact⟨x.toNat,by rw[List.mem_range];omega,by omega⟩
  constructor
  ·exact fun ha=>hm a (h.2.1 a ha)
  intro ha;by_cases hc:a∈o
  ·exact hc
  have:=List.Nodup.length_le_of_subset (l₁:=a::o) (l₂:=a0L n) (List.nodup_cons.2 ⟨hc,h.2.2⟩) (fun x hx=>by
   rcases List.mem_cons.1 hx with rfl | hx
   ·exact ha
   exact hm x (h.2.1 x hx))
  rw[xC] at this;simp at this;omega
 refine List.Perm.eq_of_pairwise (le:=fun a b=>decide (a<=b)=true) (fun a b _ _ h1 h2=>by simp at h1 h2;omega) ?_ (acI n) (hp.trans e);exact List.pairwise_mergeSort (fun a b c h1 h2=>by simp at h1 h2 ⊢;omega) (fun a b=>by simp;omega) o
def a8K (s o:List Int):Int:=if decide ((s.length:Int)>6)=true then 5 else if (!(EO s 1 12))=true then 3 else if decide (aaM s>2000)=true then 5 else if (!(decide (wJ o=a0L s.length)))=true then 4 else 0
theorem a8M (s o:List Int):a8K s o=jy s o:=by
 rw[O5];unfold a8K;rw[abV];by_cases h1:6<s.length
 ·rw[if_pos (by simp;omega),if_pos h1]
 rw[if_neg (by simp;omega),if_neg h1];have hw:EO s 1 12=decide (BQ s):=by
  unfold EO;rw[Bool.eq_iff_iff,Bool.not_eq_true',List.any_eq_false,decide_eq_true_eq];refine forall_congr' fun a=>forall_congr' fun _=>?_;unfold RF;split
  ·rename_i h;simp at h ⊢;omega
  rename_i h;simp at h ⊢;omega
 rw[hw];by_cases h2:BQ s
 ·rw[if_neg (by simp[h2]),if_pos h2,acH h2 (by omega)];simp only[decide_eq_true_eq,Int.not_lt,gt_iff_lt];split
  ·rfl
  cases ES s.length o<;>simp
 rw[if_pos (by simp[h2]),if_neg h2]
theorem ak8:Gd aaC:=ahE.deep 1 fun n hn hO p hp=>by
 obtain⟨n,rfl⟩:∃ k,n=k+1:=⟨n-1,by omega⟩;have hO:=hO (n+1) (by omega);have h1:p.1.length<=aO:=hp _ (.head _);have h2:p.2.length<=2^20:=hp _ (.tail _ (.head _));have h3:p.2.length<=aO:=by unfold aO;omega
 have h4:(a0L p.1.length).length<=aO:=by rw[xC];exact h1
 have h5:(wJ p.2).length<=aO:=by unfold wJ;rw[List.length_mergeSort];exact h3
 show Con X0 Tryz.prog _ _ _ (iA.put (jy p.1 p.2)) _;rw[<-a8M];exact dS hX hO (by kernel_rfl) (.ss .rr (.o h1 (.ss .rr (.w (l67 hO p.1 p.2 h1) (.ss .rr (.fr [] (afC hO p.2 h3) (.fr [0] (ahz (n:=n) (k:=false) (ex:=false) p.2 h2) (.o (show (0:Int)<=(p.1.length:Int) by omega) (.o (show (p.1.length:Int)<=(aO:Int) by omega) (.o h5 (.ss .rr .rr)))))))))))
open Go Tw Pv gq
theorem a8N {α:Type} (x:α):[x].length<=aO:=by unfold aO;simp
theorem ahG:Gd a6A:=ak8.add fun n hO p hp=>dS hX hO (by kernel_rfl) (.ss (.ss .rr .rr) (.o (a8N p.n) .rr))
abbrev afD (l:List Int) (v:Int) (i:Int) (x:List (Nat×PE bM)):aW bM:=⟨[(0,xL 3 l),(1,xi v),(7,xi l.length),(8,xi i)]++x,[],[]⟩
def ahH (l:List Int) (v:Int):Unit⊕Nat->Ex×aW bM
 | .inl _=>(.exit 0,afD l v l.length [(9,xl false)])
 | .inr k=>(.ret,⟨[(4,xi k)],[],[]⟩)
theorem ahI {n:Nat} {kX:iO bM} (hO:Ok n kX) (l:List Int) (v:Int) (hl:l.length<=aO):Lp n 255 0 (afD l v 0 []) (ahH l v (pJ (cIx l v) l.length)).1 (ahH l v (pJ (cIx l v) l.length)).2:=
 kN (st:=fun i _=>afD l v i []) (fun _ _=>True) (by kernel_rfl) hl trivial (fun k s m hk _ ih=>round hX hO (by kernel_rfl) (.b (a2v hk) (.o (bP hk) (.ls (.ou nofun) (.nx (ih _ trivial)))))) (fun s _=>round hX hO (by kernel_rfl) (.b (a5U l.length) (.ou nofun)))
theorem ahJ:Gd a6B:=ahG.add fun n hO p hp=>dS hX hO (by kernel_rfl) (.zh (fun h=>.w (pF (ahI hO p.1 p.2 (hp _ (.head _))) () h) .rr) fun h=>.w (rC (ahI hO p.1 p.2 (hp _ (.head _))) 0 h) .rr)
theorem ahK:Gd a6C:=ahJ.add fun n hO p hp=>dS hX hO (by kernel_rfl) (.o (hp _ (.head _)) .rr)
theorem ahL:Gd a6D:=ahK.add fun n hO p hp=>dS hX hO (by kernel_rfl) .rr
theorem ahM:Gd a6E:=ahL.add fun n hO p hp=>dS hX hO (by kernel_rfl) (.sh (fun _=>.rr) fun h=>.sh (fun h2=>.o (hp (0<=p.2.1->p.2.1<p.2.2.1->CO p.2.1 p.1.d.nodes.length) (.tail _ (.head _)) (by simpa using h) (by simpa using h2)) (.o (hp _ (.head _)) .rr)) fun _=>.rr)
abbrev Hb (l:Lo) (i:Int) (b:Br):List (PB bM):=[.cells l.ps,.cells [.int .i64 i],.cells b.ps]
theorem ak9 {n f:Nat} {a c:List (PV bM)} {H:List (PB bM)} {g:Int->Bool} (l:List Int) (hf:∀ x∈l,qH X0 Tryz.prog (ApN n) (.fn f a c) [.int .i64 x] H (.bool (g x)) H) (hl:l.length<=aO):qH X0 Tryz.prog (ApN (n+1)) (.fn 183 [] []) [.bK 3 l false,.fn f a c] H (iA.put (TL g l)) H:=by
 have lp:LpB n 183 0 H.length (aah f a c H l 0 []) (z183 f a c H l (a0i (Fa g) l 0 ())).1 (z183 f a c H l (a0i (Fa g) l 0 ())).2:=
  a7o (st:=fun i _=>aah f a c H l i []) (0:Int) (fun _ _=>True) (by kernel_rfl) hl LLm trivial (fun k s n hk _ ih=>round hX ok0 (by kernel_rfl) (.b (a2v hk) (.o (bP hk) (.k (hf (l.getD k (0:Int)) (KU hk)) (.ls (.ou nofun) (.nx (ih _ trivial))))))) (fun s _=>round hX ok0 (by kernel_rfl) (.b (a5U l.length) (.ou nofun)))
 exact dV hX ok0 (first:=[]) (cap:=[]) (by kernel_rfl) (.szh (fun h=>.w (pF lp () h) .sr) (fun h=>.w (rC lp (0,0,()) h) .sr))
theorem ahN {n f:Nat} {a c:List (PV bM)} {H:List (PB bM)} {g:Int->Bool} (l:List Int) (hf:∀ x∈l,qH X0 Tryz.prog (ApN n) (.fn f a c) [.int .i64 x] H (.bool (g x)) H) (hl:l.length<=aO):qH X0 Tryz.prog (ApN (n+2)) (.fn 138 [] []) [.bK 3 l false,.fn f a c] H (tA.put (l.any g)) H:=by
 have h1:=ak9 l hf hl;have h2:=a1i g l;rw[<-h2];exact dV hX ok0 (first:=[]) (cap:=[]) (by kernel_rfl) (.k h1 .sr)
theorem a3G {α:Type} (l:List α) (g:α->Bool):(!(l.any fun x=>!(g x)))=l.all g:=by
 induction l with
 | nil=>rfl
 | cons a l ih=>simp only[List.any_cons,List.all_cons,Bool.not_or,Bool.not_not,ih]
abbrev pB:List (PV bM):=[.ptr 0 0 7,.ptr 1 0 1,.ptr 2 0 2]
theorem akb {n f:Nat} {l:Lo} {i:Int} {b:Br} {g:Int->Bool} (ks:List Int) (hf:∀ x∈ks,qH X0 Tryz.prog (ApN n) (.fn f [] pB) [.int .i64 x] (Hb l i b) (tA.put (g x)) (Hb l i b)) (hl:ks.length<=aO):qH X0 Tryz.prog (ApN (n+4)) (.fn 197 [] []) [.bK 3 ks false,.fn f [] pB] (Hb l i b) (tA.put (ks.all g)) (Hb l i b):=by
 have h1:∀ x∈ks,qH X0 Tryz.prog (ApN (n+1)) (.fn 235 [] [.ptr 3 0 1]) [.int .i64 x] (Hb l i b++[.cells [.fn f [] pB]]) (tA.put (!(g x))) (Hb l i b++[.cells [.fn f [] pB]]):=fun x hx=>
  dV hX ok0 (first:=[]) (by kernel_rfl) (.fr [0,1,2] (hf x hx) .sr)
 have h2:=ahN ks h1 hl;rw[<-a3G ks g];exact qH.drop hX (dV hX ok0 (first:=[]) (cap:=[]) (H1:=Hb l i b++[.cells [.fn f [] pB]]) (by kernel_rfl) (.k h2 .sr)) rfl rfl
theorem aaR {x a b:Int}:EO [x] a b=decide (a<=x∧x<=b):=by
 unfold EO RF;simp only[List.any_cons,List.any_nil,Bool.or_false];by_cases h:x<a
 ·rw[if_pos (by simpa using h),Bool.not_true,eq_comm,decide_eq_false_iff_not];omega
 rw[if_neg (by simpa using h),Bool.eq_iff_iff,Bool.not_eq_true',decide_eq_false_iff_not,decide_eq_true_eq];omega
theorem acJ {l:List Br} {k:Nat} (h:k<l.length):l.getD k SK∈l:=by simp[List.getD,List.getElem?_eq_getElem h]
theorem ahO {n:Nat} (hO:∀ m,n<=m->Ok m a6E) {l:Lo} {i:Int} (ho:l.o.length<=aO) (hf:nJ l.s) (hi:CO i l.d.nodes.length):qH X0 Tryz.prog (ApN (n+6)) (.fn 198 [.agg l.ps] []) [.int .i64 i] [] (tA.put (a2E l i)) []:=by
 have h1:∀ x∈(Vw l i).kids,qH X0 Tryz.prog (ApN (n+1)) (.fn 236 [] pB) [.int .i64 x] (Hb l i (Vw l i)) (tA.put (Je l x i (D7 l.o (Vw l i).var))) (Hb l i (Vw l i)):=fun x _=>
  dV hX (hO n (Nat.le_refl _)) (first:=[]) (by kernel_rfl) (.o ho (.o ho (.o (show 0<=x->x<i->CO x l.d.nodes.length from fun h0 h1=>⟨h0,by have:=hi.1;have:=hi.2;omega⟩) .sr)))
 have hv:(!(EO [(Vw l i).var] 0 (xw l.s)))=false->CO (Vw l i).var l.s.length:=fun h=>by
  rw[aaR,Bool.not_eq_false',decide_eq_true_eq,a6d hf.aa5] at h;exact⟨h.1,by omega⟩
 have hk:(!(EO [(Vw l i).var] 0 (xw l.s)))=false->(((Vw l i).kids.length:Int) != l.s.getD (Vw l i).var.toNat 0)=false->(Vw l i).kids.length<=aO:=fun h h2=>by
  have h3:=hv h;have h4:=hf.sz _ (KU (s:=l.s) (k:=(Vw l i).var.toNat) (by have:=h3.2;have:=h3.1;omega));have h2:((Vw l i).kids.length:Int)=l.s.getD (Vw l i).var.toNat 0:=by simpa using h2
  exact m12 (by omega)
 exact qH.drop hX (dV hX (hO (n+5) (by omega)) (first:=[.agg l.ps]) (cap:=[]) (H1:=Hb l i (Vw l i)++[.list true true 3 [(Vw l i).var]]) (by kernel_rfl) (.o hi (.o (a8N (Vw l i).var) (.ssh (fun _=>.sr) fun h5=>.o (hv h5) (.ssh (fun _=>.sr) fun h6=>.fr [0,1,2] (akb (Vw l i).kids h1 (hk h5 h6)) .sr))))) rfl rfl
abbrev abW (f:Nat) (a:List (PV bM)):List (PB bM):=[.cells [.fn f a []]]
theorem ahP {n:Nat} {l:Lo} {g:Int->Bool} (ks:List Int) (hf:∀ x∈ks,qH X0 Tryz.prog (ApN n) (.fn 198 [.agg l.ps] []) [.int .i64 x] [] (tA.put (g x)) []) (hl:ks.length<=aO):qH X0 Tryz.prog (ApN (n+4)) (.fn 197 [] []) [.bK 3 ks false,.fn 198 [.agg l.ps] []] [] (tA.put (ks.all g)) []:=by
 have h1:∀ x∈ks,qH X0 Tryz.prog (ApN (n+1)) (.fn 235 [] [.ptr 0 0 1]) [.int .i64 x] (abW 198 [.agg l.ps]) (tA.put (!(g x))) (abW 198 [.agg l.ps]):=fun x hx=>
  dV hX ok0 (first:=[]) (by kernel_rfl) (.fr [] (hf x hx) .sr)
 have h2:=ahN ks h1 hl;rw[<-a3G ks g];exact qH.drop hX (dV hX ok0 (first:=[]) (cap:=[]) (H1:=abW 198 [.agg l.ps]) (by kernel_rfl) (.k h2 .sr)) rfl rfl
theorem akc {n:Nat} (hO:Ok n a6E) (l:List V) (hl:l.length<=aO):qH X0 Tryz.prog (ApN (n+4)) (.fn 195 [] []) [.bK 79 l false,.fn 196 [] []] [] (tA.put (l.all I5)) []:=by
 have h1:∀ x:V,qH X0 Tryz.prog (ApN (n+1)) (.fn 234 [] [.ptr 0 0 1]) [.agg x.ps] (abW 196 []) (tA.put (!(I5 x))) (abW 196 []):=fun x=>
  dV hX hO (first:=[]) (by kernel_rfl) .sr
 have h2:=ajQ (n:=n+2) (by omega) (g:=fun x=>!(I5 x)) h1 l hl;rw[<-a3G l,<-abM];exact qH.drop hX (dV hX ok0 (first:=[]) (cap:=[]) (H1:=abW 196 []) (by kernel_rfl) (.k h2 .sr)) rfl rfl
theorem akd {n:Nat} (hO:Ok n a6E) (m:Nat) (hm:m<=aO):qH X0 Tryz.prog (ApN n) (.fn 106 [] []) [.int .i64 m] [] (qA.put (a0L m)) []:=
 Con.afz hX (hO 106 [.int .i64 m] (qA.put (a0L m)) [] [0<=(m:Int),(m:Int)<=(aO:Int)] (by kernel_rfl) (by
  intro q hq;rcases List.mem_cons.1 hq with rfl | hq
  ·omega
  ·rw[List.mem_singleton.1 hq];omega)) rfl rfl rfl rfl
theorem aaW {x:Int} {m:Nat} (h:x∈a0L m):CO x m:=by
 simp only[a0L,List.mem_map,List.mem_range] at h;obtain⟨k,hk,rfl⟩:=h;exact bP hk
theorem aeT:Gd a6F:=ahM.deep 11 fun n hn hO d hp=>by
 obtain⟨n,rfl⟩:∃ k,n=k+10:=⟨n-10,by omega⟩;have h1:d.sizes.length<=aO:=hp _ (.head _);have h2:d.order.length<=2^20:=hp _ (.tail _ (.head _));have h3:d.ends.length<=aO:=hp _ (.tail _ (.tail _ (.head _)));have ho:d.order.length<=aO:=by unfold aO;omega
 have hO:∀ m,n<=m->Ok m _:=fun m hm=>hO m (by omega);have hI:(jy d.sizes d.order != 0)=false->∀ x∈a0L d.nodes.length,qH X0 Tryz.prog (ApN (n+6)) (.fn 198 [.agg (loD d).ps] []) [.int .i64 x] [] (tA.put (a2E (loD d) x)) []:=fun h x hx=>ahO hO (l:=loD d) ho (O8 h) (aaW hx);have hR:0<=d.root->d.root<(d.nodes.length:Int)->CO d.root d.nodes.length:=fun a b=>⟨a,by omega⟩;have hL:decide ((d.nodes.length:Int)>6000)=false->(a0L d.nodes.length).length<=aO:=fun h=>by rw[xC];exact a2B h
 exact dS hX (hO (n+10) (by omega)) (by kernel_rfl) (.o h1 (.o h2 (.sh (fun _=>.rn (.bH [.agg [.nil .slc,.nil .slc,.nil .slc,.nil .slc,.nil .slc,.nil .slc,.int .i64 0],.int .i64 (jy d.sizes d.order)]) rfl) fun h=>.sh (fun _=>.rr) fun h4=>.fr [] (akc (n:=n+6) (hO (n+6) (by omega)) d.ends h3) (.ss .rr (.fr [] (akd (hO (n+10) (by omega)) d.nodes.length (a2B h4)) (.fr [] (ahP (l:=loD d) (n:=n+6) (a0L d.nodes.length) (hI h) (hL h4)) (.ss .rr (.o ho (.o hR (.ss .rr .rr))))))))))
open Go Tw Pv gq
theorem a0j {n:Nat} {o:List Int} (h:ES n o=true) {v:Int} (hv:CO v n):v∈o:=by
 unfold ES at h;rw[decide_eq_true_eq] at h;obtain⟨h0,h1⟩:=hv;by_cases hc:v∈o
 ·exact hc
 have:=List.Nodup.length_le_of_subset (l₁:=v::o) (l₂:=a0L n) (List.nodup_cons.2 ⟨hc,h.2.2⟩) (fun x hx=>by
  have:0<=x∧x<(n:Int):=by
   rcases List.mem_cons.1 hx with rfl | hx
   ·exact⟨h0,by omega⟩
   exact h.2.1 x hx
  unfold a0L;rw[List.mem_map];exact⟨x.toNat,by rw[List.mem_range];omega,by omega⟩)
 rw[xC] at this;simp at this;omega
theorem a0q {l:List Int} {k:Nat} (h:k<l.length):l.getD k 0=l[k]:=by simp[List.getD,List.getElem?_eq_getElem h]
theorem aaX {l:List Int} {v:Int} (h:v∈l):G8 (pJ (cIx l v) l.length)=false:=by
 cases e:G8 (pJ (cIx l v) l.length)
 ·rfl
 obtain⟨j,hj,e2⟩:=List.mem_iff_getElem.1 h;have:=Jb.1 e j hj;simp[cIx,List.getD,List.getElem?_eq_getElem hj,e2] at this
theorem acK {d:Dg} {r:Int}:a0N d r=cIx d.order (iG d r).var:=by
 funext k;exact BEq.comm
theorem a8h {d:Dg} {r:Int} (h0:0<=r) (h:(iG d r).var∈d.order):O7 d r=D7 d.order (iG d r).var:=by
 unfold O7 D7;rw[if_neg (by rw[decide_eq_true_eq];omega),acK,aaX h,if_neg (by decide),if_neg (by decide)]
theorem ahQ {l:List Int} {v:Int} (h:v∈l):D7 l v<(l.length:Int):=by
 unfold D7;rw[aaX h,if_neg (by simp)];obtain⟨j,h1,_,_,h2⟩:=a4v (aaX h);rw[h2];show (j:Int)<_;omega
theorem a5a {x a b:Int}:EO [x] a b=yY x a b:=by
 rw[aaR,Bool.eq_iff_iff,Jd,decide_eq_true_eq]
theorem acL {v:V} (h:0<=v.f):I5 v=vOk v:=by
 rw[afw h];unfold I5 vIs;rw[a5a]
theorem afE {z:Int} (h:W64 z):IntKind.i64.wrap z=z:=by
 obtain⟨h0,h1⟩:=h;simp only[IntKind.wrap,IntKind.bits,IntKind.signed];rcases Int.lt_or_le z 0 with h | h
 ·have:z%(2^64:Int)=z+2^64:=by
   have:=Int.add_mul_emod_self_left z (2^64) 1;rw[Int.mul_one] at this;rw[<-this];exact Int.emod_eq_of_lt (by omega) (by omega)
  simp only[this];rw[if_pos (by simp;omega)];omega
 have:z%(2^64:Int)=z:=Int.emod_eq_of_lt h (by omega);simp only[this];rw[if_neg (by simp;omega)]
theorem a4x {x:Int} (h:W64 x) (h0:x<0):IntKind.i64.wrap (-1-x)=-1-x:=by
 have h1:=h.1;exact afE ⟨by omega,by omega⟩
theorem aec {d:Dg} {x:Int} (below:Int) (h:W64 x) (h0:x<0) (he:d.ends.length<=aO):yZ d x below=decide (IntKind.i64.wrap (-1-x)<(d.ends.length:Int)):=by
 have he:d.ends.length<=2^60:=by unfold aO at he;omega
 unfold yZ;rw[if_neg (by simp;omega),a4x h h0,Bool.eq_iff_iff,Jd,decide_eq_true_eq];by_cases h1:d.ends.length=0
 ·rw[h1,show IntKind.i64.wrap (((0:Nat):Int)-1)=-1 by decide];omega
 rw[D5 (by omega) (by omega)];omega
theorem ahR {l:List Int} {v:Int} (h:v∈l):0<=D7 l v:=by
 unfold D7;rw[aaX h,if_neg (by simp)];omega
theorem afF {d:Dg} {x below aaD:Int} (h0:0<=x) (hv:x<below->(iG d x).var∈d.order):Je (loD d) x below aaD=(yZ d x below&&decide (aaD<O7 d x)):=by
 unfold Je yZ;rw[if_neg (show ¬(decide (x<0)=true) by rw[decide_eq_true_eq];omega),if_pos (show decide (x>=0)=true by rw[decide_eq_true_eq];omega)];by_cases h1:x<below
 ·rw[if_pos (show decide (x<below)=true by rw[decide_eq_true_eq];exact h1),a8h h0 (hv h1),decide_eq_true h1,Bool.true_and]
 rw[if_neg (show ¬(decide (x<below)=true) by rw[decide_eq_true_eq];exact h1),decide_eq_false h1,Bool.false_and]
theorem afG {d:Dg} {x below aaD:Int} (h:W64 x) (h0:x<0) (he:d.ends.length<=aO) (hr:aaD<(d.order.length:Int)):Je (loD d) x below aaD=(yZ d x below&&decide (aaD<O7 d x)):=by
 rw[aec _ h h0 he];unfold Je O7;rw[if_pos (by rw[decide_eq_true_eq];exact h0),if_pos (by rw[decide_eq_true_eq];exact h0),decide_eq_true hr,Bool.and_true]
theorem acM {d:Dg} {x below aaD:Int} (h:W64 x) (he:d.ends.length<=aO) (hr:aaD<(d.order.length:Int)) (hv:0<=x->x<below->(iG d x).var∈d.order):Je (loD d) x below aaD=(yZ d x below&&decide (aaD<O7 d x)):=by
 by_cases h0:0<=x
 ·exact afF h0 (hv h0)
 exact afG h (by omega) he hr
theorem acN {d:Dg} (h:DgR d) (he:d.ends.length<=aO) (hv:∀ r,CO r d.nodes.length->(iG d r).var∈d.order):Je (loD d) d.root d.nodes.length (-1)=yZ d d.root d.nodes.length:=by
 rw[acM h.root he (by omega) (fun a b=>hv _ ⟨a,by omega⟩)];cases e:yZ d d.root d.nodes.length
 ·rfl
 rw[Bool.true_and,decide_eq_true_eq];by_cases h0:0<=d.root
 ·have:=a8H e h0 (Nat.le_refl _);rw[a8h h0 (hv _ this)];have:=ahR (hv _ this);omega
 unfold O7;rw[if_pos (by rw[decide_eq_true_eq];omega)];omega
theorem aeV {d:Dg} (h:DgR d) (he:d.ends.length<=aO) {i:Nat} (hi:i<d.nodes.length) (hf:nJ d.sizes) (ho:ES d.sizes.length d.order=true) (hv:∀ j,j<i->(D6 d j).var∈d.order):a2E (loD d) i=!(cLn d i):=by
 have e0:Vw (loD d) i=D6 d i:=rfl;unfold a2E cLn;rw[e0];show (if (!(EO [(D6 d i).var] 0 (xw d.sizes)))=true then false else if (((D6 d i).kids.length:Int) != d.sizes.getD (D6 d i).var.toNat 0)=true then false else _)=_;rw[a5a];cases e1:yY (D6 d i).var 0 (xw d.sizes)
 ·rfl
 have hvi:(D6 d i).var∈d.order:=a0j ho (Vq hf e1);have ake:(iG d (i:Int)).var∈d.order:=hvi;simp only[Bool.not_true,Bool.false_eq_true,if_false];split
 ·rfl
 have DR:((D6 d i).kids.all fun x=>Je (loD d) x i (D7 (loD d).o (D6 d i).var))=G8 (pJ (cLk d i) (D6 d i).kids.length):=by
  rw[Bool.eq_iff_iff,List.all_eq_true,Jb];have hk:∀ k,k<(D6 d i).kids.length->(Je (loD d) ((D6 d i).kids.getD k 0) i (D7 d.order (D6 d i).var)=true↔cLk d i k=false):=fun k hk=>by
   rw[acM (h.kid i hi k hk) he (ahQ hvi) (fun a b=>hv _ (by omega)),Bool.and_eq_true,decide_eq_true_eq];unfold cLk;rw[show O7 d (i:Int)=D7 d.order (D6 d i).var from a8h (by omega) ake];cases yZ d ((D6 d i).kids.getD k 0) i
   ·simp
   simp<;>omega
  constructor
  ·intro a k hkl;exact (hk k hkl).1 (a _ (KU hkl))
  intro a x hx;obtain⟨k,hkl,rfl⟩:=List.mem_iff_getElem.1 hx;have:=(hk k hkl).2 (a k hkl);rw[a0q hkl] at this;exact this
 rw[DR];cases G8 (pJ (cLk d i) (D6 d i).kids.length)<;>rfl
theorem afH {d:Dg} (h:DgR d) (he:d.ends.length<=aO) (hf:nJ d.sizes) (ho:ES d.sizes.length d.order=true):(a0L d.nodes.length).all (a2E (loD d))=G8 (pJ (cLn d) d.nodes.length):=by
 have ahS:∀ i,cLn d i=false->(D6 d i).var∈d.order:=fun i hc=>by
  unfold cLn at hc;split at hc
  ·cases hc
  rename_i e;exact a0j ho (Vq hf (by simpa using e))
 have key:∀ i,i<=d.nodes.length->((∀ j,j<i->a2E (loD d) j=true)↔∀ j,j<i->cLn d j=false):=by
  intro i
  induction i with
  | zero=>intro _;exact⟨fun _ j hj=>absurd hj (by omega),fun _ j hj=>absurd hj (by omega)⟩
  | succ i ih=>
   intro hi;have ih:=ih (by omega);constructor
   ·intro a;have b:=ih.1 fun j hj=>a j (by omega);intro j hj;by_cases hji:j<i
    ·exact b j hji
    have:j=i:=(by omega);subst this;have:=a j (by omega);rw[aeV h he (by omega) hf ho (fun k hk=>ahS k (b k hk))] at this;simpa using this
   intro b j hj;by_cases hji:j<i
   ·exact ih.2 (fun k hk=>b k (by omega)) j hji
   have:j=i:=(by omega);subst this;rw[aeV h he (by omega) hf ho (fun k hk=>ahS k (b k (by omega))),b j (by omega)];rfl
 rw[Bool.eq_iff_iff,List.all_eq_true,Jb,<-key _ (Nat.le_refl _)];constructor
 ·intro a j hj;exact a _ (by unfold a0L;rw[List.mem_map];exact⟨j,List.mem_range.2 hj,rfl⟩)
 intro a x hx;simp only[a0L,List.mem_map,List.mem_range] at hx;obtain⟨k,hk,rfl⟩:=hx;exact a k hk
theorem aed {d:Dg} (h:∀ v∈d.ends,0<=v.f):d.ends.all I5=G8 (pJ (cLe d) d.ends.length):=by
 rw[Bool.eq_iff_iff,List.all_eq_true,Jb];have hg:∀ k,(hk:k<d.ends.length)->d.ends.getD k V0=d.ends[k]:=fun k hk=>by simp[List.getD,List.getElem?_eq_getElem hk]
 constructor
 ·intro a k hk;unfold cLe;rw[hg k hk,<-acL (h _ (List.getElem_mem hk)),a _ (List.getElem_mem hk)];rfl
 intro a x hx;obtain⟨k,hk,rfl⟩:=List.mem_iff_getElem.1 hx;have:=a k hk;unfold cLe at this;rw[hg k hk,<-acL (h _ hx)] at this;simpa using this
theorem a7P {d:Dg} (h:DgR d) (he:d.ends.length<=aO):qC d=(if (jy d.sizes d.order != 0)=true then lo0 else loD d,iE d):=by
 unfold qC iE;split
 ·rfl
 rename_i h1;have MX:=O6.1 (show jy d.sizes d.order=0 by simpa using h1);split
 ·rfl
 unfold vN;rw[aed h.fault,afH h he MX.1 MX.2];cases e1:G8 (pJ (cLe d) d.ends.length)
 ·rfl
 cases e2:G8 (pJ (cLn d) d.nodes.length)
 ·rfl
 have hv:∀ r,CO r d.nodes.length->(iG d r).var∈d.order:=fun r hr=>by
  have:=Jb.1 e2 r.toNat (by have:=hr.1;have:=hr.2;omega);unfold cLn at this;split at this
  ·cases this
  rename_i e;exact a0j MX.2 (Vq MX.1 (by simpa using e))
 rw[acN h he hv];simp only[Bool.not_true,Bool.false_eq_true,if_false,if_true];cases yZ d d.root d.nodes.length<;>rfl
end Go.Proofs.YtjkgcifieggcpaaGreat
namespace Pv
open Go Tw
variable {X:iR} {P:Program} {kt:TypeId} {α:Type} [DecidableEq α] (C:Gf X P kt α)
theorem Gf.found {l:List (α×PV X.Γ)} {x:α} {v:PV X.Γ} (hn:(l.map (·.1)).Nodup) (h:(x,v)∈l):a1L X P kt (C.es l) (C.tv x) v:=by
 obtain⟨j,hj,e⟩:=List.mem_iff_getElem.1 h;refine⟨C.v x,_,j,C.pv x,C.ht x,C.pk l,?_,?_⟩
 ·have hxj:(l.map (·.1))[j]? = some x:=by simp[List.getElem?_eq_getElem hj,e]
  have hu:∀ (i:Nat) y,(l.map (·.1))[i]? = some y->decide (x=y)=(some i==some j):=fun i y hy=>by
   rw[Bool.eq_iff_iff];simp only[decide_eq_true_eq,beq_iff_eq,Option.some.injEq];constructor
   ·rintro rfl;have i1:=List.getElem?_eq_some_iff.1 hy;have i2:=List.getElem?_eq_some_iff.1 hxj;exact (List.getElem_inj hn (h₀:=i1.1) (h₁:=i2.1)).1 (i1.2.trans i2.2.symm)
   rintro rfl;rw[hxj] at hy;exact Option.some.inj hy
  refine C.find x _ (some j) ?_ hu;rw[List.findIdx?_eq_some_iff_getElem];refine⟨by simpa using hj,by simp[e],fun i hi=>?_⟩;have hil:i<(l.map (·.1)).length:=by simp;omega
  rw[hu i _ (List.getElem?_eq_getElem hil)];simp;omega
 simp[Gf.es,List.getElem?_eq_getElem hj,e]
theorem Gf.seat {l:List (α×PV X.Γ)} {x:α} {v:PV X.Γ} (hb:Instr.sameBits 10000 (C.v x) (C.v x)=true) (hn:(l.map (·.1)).Nodup) (h:(x,v)∈l):a5h X P kt (C.es l) (C.tv x) (C.pv x) v:=by
 obtain⟨j,hj,e⟩:=List.mem_iff_getElem.1 h;refine⟨C.v x,_,j,C.tv x,C.v x,C.ht x,C.hc false x,C.pk l,?_,?_,?_,C.ht x,hb⟩
 ·have hxj:(l.map (·.1))[j]? = some x:=by simp[List.getElem?_eq_getElem hj,e]
  have hu:∀ (i:Nat) y,(l.map (·.1))[i]? = some y->decide (x=y)=(some i==some j):=fun i y hy=>by
   rw[Bool.eq_iff_iff];simp only[decide_eq_true_eq,beq_iff_eq,Option.some.injEq];constructor
   ·rintro rfl;have i1:=List.getElem?_eq_some_iff.1 hy;have i2:=List.getElem?_eq_some_iff.1 hxj;exact (List.getElem_inj hn (h₀:=i1.1) (h₁:=i2.1)).1 (i1.2.trans i2.2.symm)
   rintro rfl;rw[hxj] at hy;exact Option.some.inj hy
  refine C.find x _ (some j) ?_ hu;rw[List.findIdx?_eq_some_iff_getElem];refine⟨by simpa using hj,by simp[e],fun i hi=>?_⟩;have hil:i<(l.map (·.1)).length:=by simp;omega
  rw[hu i _ (List.getElem?_eq_getElem hil)];simp;omega
 ·simp[Gf.es,List.getElem?_eq_getElem hj,e]
 simp[List.getElem?_eq_getElem hj,e]
theorem aaZ {k:IntKind} (x:Int):∀ (l:List Int) (i:Nat),Instr.findNow (.int k) (.int k x) (l.map fun y=>⟨.int k y,.bool false,0⟩) i=some ((l.findIdx? fun y=>decide (x=y)).map fun j=>(j+i,.bool false))
 | [],i=>rfl
 | y::l,i=>by
  simp only[List.map_cons,Instr.findNow,Instr.sameNow,if_true];rw[List.findIdx?_cons];by_cases h:x=y
  ·subst h;simp
  rw[show (x==y)=false by simpa using h,decide_eq_false h];simp only[Bool.false_eq_true,if_false];rw[aaZ x l (i+1)];cases l.findIdx? fun y=>decide (x=y) with
  | none=>rfl
  | some j=>simp;omega
theorem afI {k:IntKind} (hu:P.underlying kt=some (.int k)) (x:Int) (l:List Int):au P (Instr.findKey kt (.int k x) (l.map fun y=>⟨.int k y,.bool false,0⟩))=some ((l.findIdx? fun y=>decide (x=y)).map fun i=>(i,.bool false)):=by
 unfold Instr.findKey;rw[aY,Vx hu,Option.bind_some,aaZ x l 0];cases l.findIdx? fun y=>decide (x=y)<;>rfl
theorem afJ {k:IntKind} (hu:P.underlying kt=some (.int k)) :
  ∃ kind,au P (underlying kt)=some kind∧((∀ x y:Int,Instr.sameNow kind (.int k x) (.int k y)=some (decide (x=y)))∨∀ x y:Int,Instr.sameNow kind (.int k x) (.int k y)=none∧au P (Op.equal kt (.int k x) (.int k y))=some (decide (x=y))):=
 ⟨_,Vx hu,.inl fun x y=>by simp only[Instr.sameNow,if_true];congr 1⟩
end Pv
namespace Go.Proofs.YtjkgcifieggcpaaGreat
open Go Tw Pv gq
noncomputable def kV:Gf X0 Tryz.prog 79 V where
 pv x:=.agg x.ps
 tv x:=x.tv
 v x:=.agg #[.int .u8 x.f,.int .i64 x.n]
 hp _:=rfl
 ht _:=rfl
 hc em x:=by kernel_rfl
 hf x l:=Yl aau (fun a b=>a6h 9998 a b) x l
 hk:=Ym aau fun a b=>a6h 9998 a b
noncomputable def kI:Gf X0 Tryz.prog 3 Int where
 pv x:=.int .i64 x
 tv x:=.int .i64 x
 v x:=.int .i64 x
 hp _:=rfl
 ht _:=rfl
 hc em x:=by kernel_rfl
 hf x l:=afI aat x l
 hk:=afJ aat
noncomputable abbrev a1q (E:List V):List (V×PV X0.Γ):=E.zipIdx.map fun e=>(e.1,.int .i64 (e.2:Nat))
abbrev mkC (a b:List Int) (e n:Nat) (r:Int):PB bM:=.cells [.bK 3 a false,.bK 3 b false,.own 0,.own 1,.own e,.own n,.int .i64 r,.map 2,.map 3]
abbrev lsV (l:List V):PB bM:=.list false false 79 l
abbrev lsB (l:List Br):PB bM:=.list false false 102 l
noncomputable abbrev MK (a b:List Int) (E:List V) (nd:List Br) (r:Int) (nm:List (PV bM×PV bM)):List (PB bM):=[.list false false 3 a,.list false false 3 b,.map (kV.es (a1q E)),.map nm,mkC a b 5 6 r,lsV E,lsB nd]
noncomputable abbrev MK' (a b:List Int) (E:List V) (nd:List Br) (r:Int) (nm:List (PV bM×PV bM)):List (PB bM):=[.list false false 3 a,.list false false 3 b,.map (kV.es (a1q E)),.map nm,mkC a b 7 8 r,.gone,.gone,lsV E,lsB nd]
theorem a7Q (E:List V):(a1q E).map (·.1)=E:=by
 unfold a1q;rw[List.map_map];show E.zipIdx.map (·.1)=E;simp
theorem acO (E:List V) (v:V):a1q (E++[v])=a1q E++[(v,.int .i64 (E.length:Nat))]:=by
 unfold a1q;rw[List.zipIdx_append,List.map_append];simp
theorem acP {E:List V} {v:V} (h:v∈E):(v,(.int .i64 (E.idxOf v:Nat):PV X0.Γ))∈a1q E:=by
 unfold a1q;rw[List.mem_map];have hl:=List.idxOf_lt_length_iff.2 h;exact⟨(v,E.idxOf v),by rw[List.mem_zipIdx_iff_getElem?];simp[List.getElem?_eq_getElem hl],rfl⟩
theorem a8i {E:List V} {v:V} (h:E.Nodup):(Vz E v).Nodup:=by
 unfold Vz;split
 ·exact h
 rename_i hn;rw[List.nodup_append];exact⟨h,by simp,fun x hx y hy=>by rw[List.mem_singleton] at hy;subst hy;intro e;subst e;exact hn hx⟩
theorem akg {n:Nat} (hO:Ok n a6F) {a b:List Int} {E:List V} {nd:List Br} {r:Int} {nm:List (PV bM×PV bM)} (v:V) (hE:E.Nodup) (hl:E.length+1<=aO):qH X0 Tryz.prog (ApN (n+1)) (.fn 203 [] []) [.ptr 4 0 9,.agg v.ps] (MK a b E nd r nm) (.int .i64 (IntKind.i64.wrap (-1-(E.idxOf v:Nat)))) (MK' a b (Vz E v) nd r nm):=by
 by_cases h:v∈E
 ·rw[show Vz E v=E from if_pos h];have hf:a1L X0 Tryz.prog 79 (kV.es (a1q E)) v.tv (.int .i64 (E.idxOf v:Nat)):=kV.found (by rw[a7Q];exact hE) (acP h);exact qH.gs hX (a2w hX hO (first:=[]) (cap:=[]) (v:=.int .i64 (IntKind.i64.wrap (-1-(E.idxOf v:Nat)))) (H1:=MK a b E nd r nm) (by kernel_rfl) (.c (.int .i64 (E.idxOf v:Nat)) [] hf (.b (rfl:(!true)=false) .er))) [.mv 5,.mv 6] rfl
 rw[show Vz E v=E++[v] from if_neg h,List.idxOf_eq_length h];have hf:Et X0 Tryz.prog 79 (kV.es (a1q E)) v.tv:=kV.fresh (by rw[a7Q];exact h);have em:kV.es (a1q (E++[v]))=kV.es (a1q E)++[(.agg v.ps,.int .i64 (E.length:Nat))]:=by rw[acO];exact List.map_append ..
 show qH X0 Tryz.prog _ _ _ _ _ [_,_,.map (kV.es (a1q (E++[v]))),_,_,_,_,_,_];rw[em];exact qH.gs hX (a2w hX hO (first:=[]) (cap:=[]) (v:=.int .i64 (IntKind.i64.wrap (-1-(E.length:Nat)))) (H1:=[.list false false 3 a,.list false false 3 b,.map (kV.es (a1q E)++[(.agg v.ps,.int .i64 (E.length:Nat))]),.map nm,mkC a b 8 6 r,.gone,lsB nd,.list true true 79 [v],lsV (E++[v])]) (by kernel_rfl) (.a .calm (.o hf (.b (rfl:(!false)=true) (.a .calm (.o (kV.ck v) (.o hf (.o (show E.length+[v].length<=aO by simpa using hl) .er)))))))) [.mv 6,.gc [8,9]] rfl
end Go.Proofs.YtjkgcifieggcpaaGreat
namespace Tw
open Go
section
variable {P:Program}
theorem a2j {e:TypeId} (hg:au P (isAgg e)=some false) {xs:Array Value} {i:Nat} {v:Value} (h:xs[i]? = some v):au P (part e xs i)=some v:=by
 unfold part;rw[aY,hg,Option.bind_some];simp only[Bool.false_eq_true,if_false,h];rfl
def abX (d:Nat) (e:TypeId) (c:Nat) (xs ys:Array Value):List Nat->Sem Bool
 | []=>pure true
 | i::is=>do
  let a <-part e xs (i*c)
  let b <-part e ys (i*c)
  let r <-Op.equalIn d e a b
  if (!r)=true then pure false else abX d e c xs ys is
theorem a3V (d:Nat) {t e:TypeId} {n c:Nat} (xs ys:Array Value) (hu:P.underlying t=some (.array n e)) (hs:au P (sizeOf e)=some c) :
  au P (Op.equalIn (d+1) t (.agg xs) (.agg ys))=au P (abX d e c xs ys (List.range' 0 n)):=by
 have hu':au P (underlying t)=some (.array n e):=by
  simp only[underlying,aY];have:au P program=some P:=rfl;simp[this,hu,au];rfl
 simp only[Op.equalIn,aY,hu',Option.bind_some,hs];simp only[Std.Legacy.Range.forIn_eq_forIn_range',Std.Legacy.Range.size,Nat.sub_zero,Nat.add_one_sub_one,Nat.div_one];generalize List.range' 0 n=is;clear hu hu' hs
 induction is with
 | nil=>simp[abX,au,aY];rfl
 | cons j is ih=>
  simp only[List.forIn_cons,abX,aY] at ih ⊢;generalize au P (part e xs (j*c))=r1;cases r1 with
  | none=>simp
  | some a=>
   simp only[Option.bind_some];generalize au P (part e ys (j*c))=r2;cases r2 with
   | none=>simp
   | some b=>
    simp only[Option.bind_some];generalize au P (Op.equalIn d e a b)=r3;cases r3 with
    | none=>simp
    | some r=>
     cases r with
     | false=>simp only[Option.bind_some,Bool.not_false,if_true];rfl
     | true=>simp only[Option.bind_some,Bool.not_true,Bool.false_eq_true,if_false];exact ih
abbrev a3H (k:IntKind) (l:List Int):Array Value:=(l.map fun x=>Value.int k x).toArray
theorem a5i {k:IntKind} {l:List Int} {i:Nat} (h:i<l.length):(a3H k l)[i]? = some (.int k l[i]):=by
 simp[a3H,h]
theorem a4d {d:Nat} {e:TypeId} {k k':IntKind} (hu:P.underlying e=some (.int k')) (hg:au P (isAgg e)=some false) (l l':List Int) (hl:l.length=l'.length):∀ (m i:Nat),i+m=l.length->au P (abX (d+1) e 1 (a3H k l) (a3H k l') (List.range' i m))=some (decide (l.drop i=l'.drop i))
 | 0,i,h=>by
  rw[List.drop_of_length_le (by omega),List.drop_of_length_le (by omega)];rfl
 | m+1,i,h=>by
  have h1:i<l.length:=by omega
  have h2:i<l'.length:=by omega
  rw[List.range'_succ];simp only[abX,Nat.mul_one];rw[aY,a2j hg (a5i h1),Option.bind_some,aY,a2j hg (a5i h2),Option.bind_some,aY,ng d e k k' _ _ hu,Option.bind_some];rw[List.drop_eq_getElem_cons h1,List.drop_eq_getElem_cons h2];by_cases hc:l[i]=l'[i]
  ·have:=a4d (d:=d) (k:=k) hu hg l l' hl m (i+1) (by omega);simp only[hc,beq_self_eq_true,Bool.not_true,Bool.false_eq_true,if_false,this,List.cons.injEq,true_and]
  have:(l[i]==l'[i])=false:=by simpa using hc
  simp only[this,Bool.not_false,if_true,List.cons.injEq,hc,false_and,decide_false];rfl
theorem a4m (d:Nat) {t e:TypeId} {n:Nat} {k k':IntKind} (ht:P.underlying t=some (.array n e)) (hs:au P (sizeOf e)=some 1) (hu:P.underlying e=some (.int k')) (hg:au P (isAgg e)=some false) {l l':List Int} (hl:l.length=n) (hl':l'.length=n) :
  au P (Op.equalIn (d+2) t (.agg (a3H k l)) (.agg (a3H k l')))=some (decide (l=l')):=by
 rw[a3V (d+1) _ _ ht hs,a4d hu hg l l' (by omega) n 0 (by omega),List.drop_zero,List.drop_zero]
end
end Tw
namespace Go.Proofs.YtjkgcifieggcpaaGreat
open Go Tw Pv gq
abbrev oI (k ex:Bool) (l:List Int):PB bM:=.list k ex 3 l
abbrev wOI (f:Nat) (a c:List (PV bM)) (k ex:Bool) (R:List (PB bM)) (l:List Int) (i:Int) (x:List (Nat×PE bM)):aW bM:=⟨[(0,.val (.own 0)),(1,.val (.fn f a c)),(7,xi l.length),(8,xi i)]++x,[],oI k ex l::R⟩
def zOI (f:Nat) (a c:List (PV bM)) (k ex:Bool) (R:List (PB bM)) (l:List Int):Unit⊕(Nat×Int×Unit)->Ex×aW bM
 | .inl _=>(.exit 0,wOI f a c k ex R l l.length [(9,xl false)])
 | .inr r=>(.ret,⟨[(4,xi r.1)],[],oI k ex l::R⟩)
theorem qoI {n f:Nat} {a c:List (PV bM)} {ko ex:Bool} {R:List (PB bM)} {g:Int->Bool} (l:List Int) (hf:∀ x∈l,qH X0 Tryz.prog (ApN n) (.fn f a c) [.int .i64 x] (oI ko ex l::R) (.bool (g x)) (oI ko ex l::R)) (hl:l.length<=aO):qH X0 Tryz.prog (ApN (n+1)) (.fn 183 [] []) [.own 0,.fn f a c] (oI ko ex l::R) (iA.put (TL g l)) (oI ko ex l::R):=by
 have lp:LpB n 183 0 (R.length+1) (wOI f a c ko ex R l 0 []) (zOI f a c ko ex R l (a0i (Fa g) l 0 ())).1 (zOI f a c ko ex R l (a0i (Fa g) l 0 ())).2:=
  a7o (st:=fun i _=>wOI f a c ko ex R l i []) (0:Int) (fun _ _=>True) (by kernel_rfl) hl LLm trivial (fun k s n hk _ ih=>round hX ok0 (by kernel_rfl) (.b (a2v hk) (.o (bP hk) (.k (hf (l.getD k (0:Int)) (KU hk)) (.ls (.ou nofun) (.nx (ih _ trivial))))))) (fun s _=>round hX ok0 (by kernel_rfl) (.b (a5U l.length) (.ou nofun)))
 exact dV hX ok0 (first:=[]) (cap:=[]) (by kernel_rfl) (.szh (fun h=>.w (pF lp () h) .sr) (fun h=>.w (rC lp (0,0,()) h) .sr))
theorem qoC {n f:Nat} {a c:List (PV bM)} {ko ex:Bool} {R:List (PB bM)} {g:Int->Bool} (l:List Int) (hf:∀ x∈l,qH X0 Tryz.prog (ApN n) (.fn f a c) [.int .i64 x] (oI ko ex l::R) (.bool (g x)) (oI ko ex l::R)) (hl:l.length<=aO):qH X0 Tryz.prog (ApN (n+2)) (.fn 138 [] []) [.own 0,.fn f a c] (oI ko ex l::R) (tA.put (l.any g)) (oI ko ex l::R):=by
 have h1:=qoI l hf hl;have h2:=a1i g l;rw[<-h2];exact dV hX ok0 (first:=[]) (cap:=[]) (by kernel_rfl) (.k h1 .sr)
abbrev Hk (k ex:Bool) (l:List Int):List (PB bM):=[oI k ex l,.cells [.own 0]]
theorem qoA {n f:Nat} {ko ex:Bool} {g:Int->Bool} (l:List Int) (hf:∀ x∈l,qH X0 Tryz.prog (ApN n) (.fn f [] [.ptr 1 0 1]) [.int .i64 x] (Hk ko ex l) (tA.put (g x)) (Hk ko ex l)) (hl:l.length<=aO):qH X0 Tryz.prog (ApN (n+4)) (.fn 197 [] []) [.own 0,.fn f [] [.ptr 1 0 1]] (Hk ko ex l) (tA.put (l.all g)) (Hk ko ex l):=by
 have h1:∀ x∈l,qH X0 Tryz.prog (ApN (n+1)) (.fn 235 [] [.ptr 2 0 1]) [.int .i64 x] (Hk ko ex l++[.cells [.fn f [] [.ptr 1 0 1]]]) (tA.put (!(g x))) (Hk ko ex l++[.cells [.fn f [] [.ptr 1 0 1]]]):=fun x hx=>
  dV hX ok0 (first:=[]) (by kernel_rfl) (.fr [0,1] (hf x hx) .sr)
 have h2:=qoC (R:=[.cells [.own 0],.cells [.fn f [] [.ptr 1 0 1]]]) l h1 hl;rw[<-a3G l g];exact qH.drop hX (dV hX ok0 (first:=[]) (cap:=[]) (H1:=Hk ko ex l++[.cells [.fn f [] [.ptr 1 0 1]]]) (by kernel_rfl) (.k h2 .sr)) rfl rfl
theorem acQ {n:Nat} {ko ex:Bool} (l:List Int) (hl:l.length<=aO):qH X0 Tryz.prog (ApN (n+5)) (.fn 197 [] []) [.own 0,.fn 238 [] [.ptr 1 0 1]] (Hk ko ex l) (tA.put (l.all fun x=>x==l.getD 0 0)) (Hk ko ex l):=
 qoA (n:=n+1) l (fun x hx=>dV hX ok0 (first:=[]) (by kernel_rfl) (.o (show CO 0 l.length from⟨by omega,by have:=List.length_pos_of_mem hx;omega⟩) .sr)) hl
theorem acR:∀ l:List Int,l.length=12->∃ a0 a1 a2 a3 a4 a5 a6 a7 a8 a9 a10 a11:Int,l=[a0,a1,a2,a3,a4,a5,a6,a7,a8,a9,a10,a11]
 | [a0,a1,a2,a3,a4,a5,a6,a7,a8,a9,a10,a11],_=>⟨a0,a1,a2,a3,a4,a5,a6,a7,a8,a9,a10,a11,rfl⟩
 | [],h=>by simp at h
 | [_],h=>by simp at h
 | [_,_],h=>by simp at h
 | [_,_,_],h=>by simp at h
 | [_,_,_,_],h=>by simp at h
 | [_,_,_,_,_],h=>by simp at h
 | [_,_,_,_,_,_],h=>by simp at h
 | [_,_,_,_,_,_,_],h=>by simp at h
 | [_,_,_,_,_,_,_,_],h=>by simp at h
 | [_,_,_,_,_,_,_,_,_],h=>by simp at h
 | [_,_,_,_,_,_,_,_,_,_],h=>by simp at h
 | [_,_,_,_,_,_,_,_,_,_,_],h=>by simp at h
 | _::_::_::_::_::_::_::_::_::_::_::_::_::_,h=>by simp at h
theorem a5j:∀ l:List Int,jW (Γ:=bM) (l.map fun x=>PV.int .i64 x)=some (l.map fun x=>TV.int .i64 x)
 | []=>rfl
 | a::l=>by simp only[List.map_cons,jW,mY,a5j l]
theorem a7R:∀ l:List Int,TV.LJ (l.map fun x=>TV.int .i64 x)=some (l.map fun x=>Value.int .i64 x)
 | []=>rfl
 | a::l=>by simp only[List.map_cons,TV.LJ,TV.toC,a7R l]
theorem afK : Tryz.prog.underlying 257 = some (.struct #[⟨"choice", 3, 0, false, "", "mist/node", 0⟩, ⟨"kids", 255, 1, false, "", "mist/node", 8⟩]) := by kernel_rfl
theorem aeX (d:Nat) (a b:Ky):au Tryz.prog (Op.equalIn (d+3) 257 (.agg (a3H .i64 a.l)) (.agg (a3H .i64 b.l)))=some (decide (a=b)):=by
 obtain⟨a1,a2,ha⟩:=a;obtain⟨b1,b2,hb⟩:=b;rw[oD (d+2) 257 _ _ _ afK (by kernel_rfl)];have gI:au Tryz.prog (isAgg 3)=some false:=by kernel_rfl
 have gA:au Tryz.prog (isAgg 255)=some true:=by kernel_rfl
 have sA:au Tryz.prog (sizeOf 255)=some 12:=by kernel_rfl
 have sI:au Tryz.prog (sizeOf 3)=some 1:=by kernel_rfl
 have p0:∀ x l,au Tryz.prog (part 3 (a3H .i64 (x::l)) 0)=some (.int .i64 x):=fun x l=>a2j gI (a5i (l:=x::l) (by simp));have p1:∀ x l,l.length=12->au Tryz.prog (part 255 (a3H .i64 (x::l)) 1)=some (.agg (a3H .i64 l)):=fun x l h=>by
  obtain⟨a0,a1,a2,a3,a4,a5,a6,a7,a8,a9,a10,a11,rfl⟩:=acR l h
  kernel_rfl
 have q1 := iY (f := ⟨"choice", 3, 0, false, "", "mist/node", 0⟩) (fs := [⟨"kids", 255, 1, false, "", "mist/node", 8⟩]) (by decide) (p0 a1 a2) (p0 b1 b2) (ng (d + 1) _ .i64 _ a1 b1 aat);have q2 := iY (f := ⟨"kids", 255, 1, false, "", "mist/node", 8⟩) (fs := []) (by decide) (p1 a1 a2 ha) (p1 b1 b2 hb) (a4m d (k := .i64) (t := 255) (by kernel_rfl) sI aat gI ha hb);rw[q1,q2];rw[show au Tryz.prog (Op.eqFields (d+2) (a3H .i64 (a1::a2)) (a3H .i64 (b1::b2)) [])=some true from rfl];by_cases h1:a1=b1<;>by_cases h2:a2=b2<;>simp[h1,h2]
noncomputable def kK:Gf X0 Tryz.prog 257 Ky where
 pv x:=.agg (x.l.map fun i=>.int .i64 i)
 tv x:=.agg (x.l.map fun i=>.int .i64 i)
 v x:=.agg (a3H .i64 x.l)
 hp x:=congrArg (Option.map TV.agg) (a5j x.l)
 ht x:=congrArg (Option.map fun vs:List Value=>Value.agg vs.toArray) (a7R x.l)
 hc em x:=by
  obtain⟨c,l,h⟩:=x;obtain⟨a0,a1,a2,a3,a4,a5,a6,a7,a8,a9,a10,a11,rfl⟩:=acR l h
  kernel_rfl
 hf x l:=Yl afK (fun a b=>aeX 9997 a b) x l
 hk:=Ym afK (fun a b=>aeX 9997 a b)
open Go Tw Pv gq
noncomputable abbrev a1f (nd:List Br):List (Ky×PV X0.Γ):=nd.zipIdx.map fun e=>(kyB e.1,.int .i64 (e.2:Nat))
theorem a7S (nd:List Br):(a1f nd).map (·.1)=nd.map kyB:=by
 unfold a1f;rw[List.map_map];show nd.zipIdx.map (kyB∘fun e=>e.1)=_;rw[<-List.map_map];simp
theorem acS (nd:List Br) (b:Br):a1f (nd++[b])=a1f nd++[(kyB b,.int .i64 (nd.length:Nat))]:=by
 unfold a1f;rw[List.zipIdx_append,List.map_append];simp
theorem acT {nd:List Br} {k:Ky} (h:k∈nd.map kyB):(k,(.int .i64 ((nd.map kyB).idxOf k:Nat):PV X0.Γ))∈a1f nd:=by
 have hl:=List.idxOf_lt_length_iff.2 h;have SA:(nd.map kyB).idxOf k<nd.length:=by simpa using hl
 unfold a1f;rw[List.mem_map];refine⟨(nd[(nd.map kyB).idxOf k],(nd.map kyB).idxOf k),by rw[List.mem_zipIdx_iff_getElem?];simp[List.getElem?_eq_getElem SA],?_⟩;have:=List.getElem_idxOf hl;rw[List.getElem_map] at this;show (kyB _,_)=_;rw[this]
noncomputable abbrev MN (a b:List Int) (E:List V) (nd:List Br) (r:Int):List (PB bM):=MK a b E nd r (kK.es (a1f nd))
noncomputable abbrev MNg (a b:List Int) (E:List V) (nd:List Br) (r:Int) (nm:List (PV bM×PV bM)):List (PB bM):=[.list false false 3 a,.list false false 3 b,.map (kV.es (a1q E)),.map nm,mkC a b 8 9 r,.gone,.gone,.gone,lsV E,lsB nd]
noncomputable abbrev MN' (a b:List Int) (E:List V) (nd:List Br) (r:Int):List (PB bM):=MNg a b E nd r (kK.es (a1f nd))
theorem afL {n:Nat} (hO:Ok (n+5) a6F) {a b:List Int} {E:List V} {nd:List Br} {r:Int} (c:Int) (ks:List Int) (hk:1<=ks.length∧ks.length<=12) (hf:(ks.all fun x=>x==ks.getD 0 0)=true):qH X0 Tryz.prog (ApN (n+6)) (.fn 205 [] []) [.ptr 4 0 9,.int .i64 c,.own 7] (MN a b E nd r++[oI true true ks]) (.int .i64 (ks.getD 0 0)) (MN' a b E nd r):=by
 have h1:=a2w hX hO (first:=[]) (cap:=[]) (xs:=[.ptr 4 0 9,.int .i64 c,.own 7]) (H:=MN a b E nd r++[oI true true ks]) (v:=.int .i64 (ks.getD 0 0)) (H1:=MN a b E nd r++[oI true true ks,.cells [.own 7]]) (f:=205) (by kernel_rfl) (.fr [7,8] (acQ (n:=n) (ko:=true) (ex:=true) ks (m12 hk.2)) (.b hf (.o (show CO 0 ks.length from⟨by omega,by omega⟩) .er)));exact qH.forget (qH.gs hX h1 [.mv 5,.mv 6,.gc [9,10]] rfl) 7
abbrev acU (c:Int) (ks:List Int):PB bM:=.cells ((Ky.l (a2H c ks)).map fun i=>.int .i64 i)
theorem afM {n:Nat} (hO:Ok (n+5) a6F) {a b:List Int} {E:List V} {nd:List Br} {r:Int} (c:Int) (ks:List Int) (hk:1<=ks.length∧ks.length<=12) (hf:(ks.all fun x=>x==ks.getD 0 0)=false) (hN:(nd.map kyB).Nodup) (hm:a2H c ks∈nd.map kyB):qH X0 Tryz.prog (ApN (n+6)) (.fn 205 [] []) [.ptr 4 0 9,.int .i64 c,.own 7] (MN a b E nd r++[oI true true ks]) (.int .i64 ((nd.map kyB).idxOf (a2H c ks):Nat)) (MN' a b E nd r):=by
 have hF:a1L X0 Tryz.prog 257 (kK.es (a1f nd)) (kK.tv (a2H c ks)) (.int .i64 ((nd.map kyB).idxOf (a2H c ks):Nat)):=kK.found (by rw[a7S];exact hN) (acT hm);have h1:qH X0 Tryz.prog (ApN (n+6)) (.fn 205 [] []) [.ptr 4 0 9,.int .i64 c,.own 7] (MN a b E nd r++[oI true true ks]) (.int .i64 ((nd.map kyB).idxOf (a2H c ks):Nat)) (MN a b E nd r++[oI true true ks,.cells [.own 7],acU c ks]):=by
  generalize (nd.map kyB).idxOf (a2H c ks)=j at hF ⊢;generalize a1f nd=nm at hF ⊢;obtain⟨k1,k2⟩:=hk;rcases ks with _ | ⟨x0,_ | ⟨x1,_ | ⟨x2,_ | ⟨x3,_ | ⟨x4,_ | ⟨x5,_ | ⟨x6,_ | ⟨x7,_ | ⟨x8,_ | ⟨x9,_ | ⟨x10,_ | ⟨x11,_ | ⟨x12,_⟩⟩⟩⟩⟩⟩⟩⟩⟩⟩⟩⟩⟩<;>first | (exfalso;simp at k1;done) | (exfalso;simp at k2;omega) | (exact a2w hX hO (first:=[]) (cap:=[]) (by kernel_rfl) (.fr [7,8] (acQ (n:=n) (ko:=true) (ex:=true) _ (m12 k2)) (.b hf (.c (.int .i64 (j:Nat)) [] hF (.b (rfl:(!true)=false) .er)))))
 exact qH.forget (qH.gs hX (qH.forget h1 9) [.mv 5,.mv 6,.gc [10,11]] rfl) 7
theorem afN {n:Nat} (hO:Ok (n+5) a6F) {a b:List Int} {E:List V} {nd:List Br} {r:Int} (c:Int) (ks:List Int) (hk:1<=ks.length∧ks.length<=12) (hf:(ks.all fun x=>x==ks.getD 0 0)=false) (hm:a2H c ks∉nd.map kyB) (hl:nd.length+1<=aO):qH X0 Tryz.prog (ApN (n+6)) (.fn 205 [] []) [.ptr 4 0 9,.int .i64 c,.own 7] (MN a b E nd r++[oI true true ks]) (.int .i64 (nd.length:Nat)) (MN' a b E (nd++[⟨c,ks⟩]) r):=by
 have hF:Et X0 Tryz.prog 257 (kK.es (a1f nd)) (kK.tv (a2H c ks)):=kK.fresh (by rw[a7S];exact hm);have hC:=kK.ck (a2H c ks);have hL:nd.length+([⟨c,ks⟩]:List Br).length<=aO:=by simpa using hl
 have em:kK.es (a1f (nd++[⟨c,ks⟩]))=kK.es (a1f nd)++[(kK.pv (a2H c ks),.int .i64 (nd.length:Nat))]:=by rw[acS];exact List.map_append ..
 show qH X0 Tryz.prog _ _ _ _ _ (MNg a b E (nd++[⟨c,ks⟩]) r (kK.es (a1f (nd++[⟨c,ks⟩]))));rw[em];have h1:qH X0 Tryz.prog (ApN (n+6)) (.fn 205 [] []) [.ptr 4 0 9,.int .i64 c,.own 7] (MN a b E nd r++[oI true true ks]) (.int .i64 (nd.length:Nat)) [.list false false 3 a,.list false false 3 b,.map (kV.es (a1q E)),.map (kK.es (a1f nd)++[(kK.pv (a2H c ks),.int .i64 (nd.length:Nat))]),mkC a b 5 11 r,lsV E,.gone,.gone,.cells [.own 7],acU c ks,.list true true 102 [⟨c,ks⟩],lsB (nd++[⟨c,ks⟩])]:=by
  generalize a1f nd=nm at hF ⊢;obtain⟨k1,k2⟩:=hk;rcases ks with _ | ⟨x0,_ | ⟨x1,_ | ⟨x2,_ | ⟨x3,_ | ⟨x4,_ | ⟨x5,_ | ⟨x6,_ | ⟨x7,_ | ⟨x8,_ | ⟨x9,_ | ⟨x10,_ | ⟨x11,_ | ⟨x12,_⟩⟩⟩⟩⟩⟩⟩⟩⟩⟩⟩⟩⟩<;>first | (exfalso;simp at k1;done) | (exfalso;simp at k2;omega) | (exact a2w hX hO (first:=[]) (cap:=[]) (by kernel_rfl) (.fr [7,8] (acQ (n:=n) (ko:=true) (ex:=true) _ (m12 k2)) (.b hf (.q (.bool false) hF (.b (rfl:(!false)=true) (.q (.bool false) hC (.o hF (.o hL .er))))))))
 exact qH.gs hX (qH.forget (qH.forget h1 9) 10) [.mv 5,.gc [12,11]] rfl
theorem ahW {n:Nat} (hO:Ok (n+5) a6F) {a b:List Int} {E:List V} {nd:List Br} {r:Int} (c:Int) (ks:List Int) (hk:1<=ks.length∧ks.length<=12) (hN:(nd.map kyB).Nodup) (hl:nd.length+1<=aO):qH X0 Tryz.prog (ApN (n+6)) (.fn 205 [] []) [.ptr 4 0 9,.int .i64 c,.own 7] (MN a b E nd r++[oI true true ks]) (.int .i64 (Qe nd c ks)) (MN' a b E (Yn nd c ks) r):=by
 unfold Qe Yn;cases hf:ks.all fun x=>x==ks.getD 0 0
 ·rw[if_neg (by simp),if_neg (by simp)];by_cases hm:a2H c ks∈nd.map kyB
  ·rw[if_pos hm];exact afM hO c ks hk hf hN hm
  rw[if_neg hm,List.idxOf_eq_length hm,List.length_map];exact afN hO c ks hk hf hm hl
 rw[if_pos rfl,if_pos rfl];exact afL hO c ks hk hf
theorem a7k {nd:List Br} {c:Int} {ks:List Int} (h:(nd.map kyB).Nodup):((Yn nd c ks).map kyB).Nodup:=by
 unfold Yn;split
 ·exact h
 split
 ·exact h
 rename_i hn;rw[List.map_append,List.nodup_append];exact⟨h,by simp,fun x hx y hy=>by simp at hy;subst hy;intro e;subst e;exact hn hx⟩
open Go Tw Pv gq
theorem aki {n:Nat} (hO:Ok n a6F) (a b:List Int) (ha:a.length<=aO) (hb:b.length<=aO):qH X0 Tryz.prog (ApN (n+1)) (.fn 201 [] []) [.agg [.bK 3 a false,.bK 3 b false]] [] (.ptr 4 0 9) (MN a b [] [] 0):=
 qH.gs hX (a2w hX hO (first:=[]) (cap:=[]) (v:=.ptr 4 0 9) (H1:=[.list false false 3 a,.list false false 3 b,.map [],.map [],.cells [.bK 3 a false,.bK 3 b false,.own 0,.own 1,.nil .slc,.nil .slc,.int .i64 0,.map 2,.map 3]]) (by kernel_rfl) (.o ha (.o hb .er))) [.a5g 4 4 79,.a5g 4 5 102] rfl
noncomputable abbrev a4o (k:List (Int×Int)):List (Int×PV X0.Γ):=k.map fun p=>(p.1,.int .i64 p.2)
abbrev pC:List (PV bM):=[.ptr 8 0 1,.ptr 7 0 7,.ptr 10 0 1,.ptr 11 0 1]
noncomputable abbrev aeY (l:Lo) (k:List (Int×Int)):List (PB bM):=[.fG l.ps,.fG [.ptr 4 0 9],.map (kI.es (a4o k)),.fG [.map 9],.fG [.fn 202 [] pC]]
noncomputable abbrev HC (l:Lo) (x:Cs):List (PB bM):=MN l.s l.o x.e x.n 0++aeY l x.k
noncomputable abbrev HC' (l:Lo) (x:Cs):List (PB bM):=[.list false false 3 l.s,.list false false 3 l.o,.map (kV.es (a1q x.e)),.map (kK.es (a1f x.n)),mkC l.s l.o 12 13 0,.gone,.gone]++aeY l x.k++[lsV x.e,lsB x.n]
theorem a6G.ahX {d:Dg} {x:Cs} (h:a6G d x):x.e.length<=d.ends.length:=List.Nodup.length_le_of_subset h.e1 h.e2
theorem a8O (nd:List Br) (c:Int) (ks:List Int):(Yn nd c ks).length<=nd.length+1:=by
 unfold Yn;split
 ·omega
 split
 ·omega
 simp
theorem ab7 {k:List (Int×Int)} {r:Int} (h:r∈k.map (·.1)):(r,knV k r)∈k:=by
 rw[List.mem_map] at h;obtain⟨p,hp,rfl⟩:=h;unfold knV;cases e:k.find? fun q=>q.1==p.1 with
 | none=>have:=List.find?_eq_none.1 e p hp;simp at this
 | some q=>
  have h1:=List.mem_of_find?_eq_some e;have h2:=List.find?_some e;simp at h2;rw[<-h2];exact h1
theorem acV {d:Dg} {r:Int} (h:CO (IntKind.i64.wrap (-1-r)) d.ends.length):a2I d r∈d.ends:=by
 have h1:(IntKind.i64.wrap (-1-r)).toNat<d.ends.length:=by have:=h.1;have:=h.2;omega
 unfold a2I;simp[List.getD,List.getElem?_eq_getElem h1]
theorem a3I {d:Dg} (P:Cs->Prop) {F:Nat} {r:Int} {x:Cs} (h:P x) (hs:∀ j y,j<(iG d r).kids.length->P y->P (VD d F ((iG d r).kids.getD j 0) y).2) :
  (uq (fun j (y:List Int×Cs)=>(y.1.set j (VD d F ((iG d r).kids.getD j 0) y.2).1,(VD d F ((iG d r).kids.getD j 0) y.2).2)) (iG d r).kids.length 0 (List.replicate (iG d r).kids.length 0,x)).1.length=(iG d r).kids.length∧P (uq (fun j (y:List Int×Cs)=>(y.1.set j (VD d F ((iG d r).kids.getD j 0) y.2).1,(VD d F ((iG d r).kids.getD j 0) y.2).2)) (iG d r).kids.length 0 (List.replicate (iG d r).kids.length 0,x)).2:=
 RH (g:=fun j (y:List Int×Cs)=>(y.1.set j (VD d F ((iG d r).kids.getD j 0) y.2).1,(VD d F ((iG d r).kids.getD j 0) y.2).2)) (m:=(iG d r).kids.length) (k:=0) (s:=(List.replicate (iG d r).kids.length 0,x)) (fun _ y=>y.1.length=(iG d r).kids.length∧P y.2) ⟨by simp,h⟩ (fun j y _ hj hy=>⟨by simp[hy.1],hs j y.2 (by omega) hy.2⟩)
theorem a8P {d:Dg}:∀ (F:Nat) (r s:Int) (x:Cs),r<s->s∉x.k.map (·.1)->0<=s->(∀ i,i<d.nodes.length->∀ k,k<(D6 d i).kids.length->(D6 d i).kids.getD k 0<i)->(0<=r->CO r d.nodes.length)->s∉(VD d F r x).2.k.map (·.1)
 | 0,_,_,_,_,h,_,_,_=>h
 | F+1,r,s,x,hr,h,h0,hk,hn=>by
  unfold VD;by_cases c:r<0
  ·rw[if_pos (by simpa using c)];exact h
  rw[if_neg (by simpa using c)];split
  ·exact h
  have hi:=hn (by omega);have Td:∀ k,k<(iG d r).kids.length->(iG d r).kids.getD k 0<r:=fun k Cb=>by
   obtain⟨i1,i2⟩:=hi;have h9:(iG d r).kids.getD k 0<(r.toNat:Int):=hk r.toNat (by omega) k Cb;omega
  have:=(a3I (d:=d) (fun y=>s∉y.k.map (·.1)) (F:=F) (r:=r) h (fun j y hj hy=>a8P F _ s y (by have:=Td j hj;omega) hy h0 hk fun h5=>⟨h5,by have:=hi.2;have:=Td j hj;omega⟩)).2;simp only[List.map_append,List.mem_append,not_or];exact⟨this,by simp;omega⟩
theorem a5l {d:Dg} (h:SL d):∀ (F:Nat) (r:Int) (x:Cs),a6G d x->EW d r d.nodes.length->a6G d (VD d F r x).2
 | 0,_,_,hx,_=>hx
 | F+1,r,x,hx,hr=>by
  unfold VD;by_cases c:r<0
  ·rw[if_pos (by simpa using c)];refine⟨a8i hx.e1,fun v hv=>?_,hx.n1,hx.n2,hx.k1,hx.k2⟩;have hv:v∈Vz x.e (a2I d r):=hv;unfold Vz at hv;split at hv
   ·exact hx.e2 v hv
   rcases List.mem_append.1 hv with hv | hv
   ·exact hx.e2 v hv
   rw[List.mem_singleton.1 hv];exact acV (hr.2 c)
  rw[if_neg (by simpa using c)];split
  ·exact hx
  rename_i c2;have aN:r.toNat<d.nodes.length:=by have:=hr.1;omega
  have a1W:∀ k,k<(iG d r).kids.length->(iG d r).kids.getD k 0<r:=fun k Cb=>by
   have h9:=(h.kid r.toNat aN k Cb).1;have h9:(iG d r).kids.getD k 0<(r.toNat:Int):=h9;omega
  have hb:=(a3I (d:=d) (fun y=>a6G d y∧r∉y.k.map (·.1)) (F:=F) (r:=r) ⟨hx,by simpa using c2⟩ (fun j y hj hy=>by
   have hrk:EW d ((iG d r).kids.getD j 0) d.nodes.length:=⟨by have:=a1W j hj;have:=hr.1;omega,(h.kid r.toNat aN j hj).2⟩;refine⟨a5l h F _ y hy.1 hrk,a8P F _ r y (a1W j hj) hy.2 (by omega) (fun i hi k hk=>(h.kid i hi k hk).1) (fun h5=>⟨h5,by have:=hrk.1;omega⟩)⟩)).2
  obtain⟨hb,vZ⟩:=hb;refine⟨hb.e1,hb.e2,a7k hb.n1,?_,?_,?_⟩
  ·have:=a8O (uq (fun j (y:List Int×Cs)=>(y.1.set j (VD d F ((iG d r).kids.getD j 0) y.2).1,(VD d F ((iG d r).kids.getD j 0) y.2).2)) (iG d r).kids.length 0 (List.replicate (iG d r).kids.length 0,x)).2.n (iG d r).var (uq (fun j (y:List Int×Cs)=>(y.1.set j (VD d F ((iG d r).kids.getD j 0) y.2).1,(VD d F ((iG d r).kids.getD j 0) y.2).2)) (iG d r).kids.length 0 (List.replicate (iG d r).kids.length 0,x)).1;have:=hb.n2;simp only[List.length_append,List.length_singleton];omega
  ·simp only[List.map_append,List.map_cons,List.map_nil];exact a13 hb.k1 vZ
  intro a ha;simp only[List.map_append,List.mem_append,List.map_cons,List.map_nil,List.mem_singleton] at ha;rcases ha with ha | rfl
  ·exact hb.k2 a ha
  exact⟨by omega,by omega⟩
open Go Tw Pv gq
noncomputable abbrev hCl (l:Lo) (x:Cs) (ks:List Int):List (PB bM):=HC' l x++[oI true true ks]
noncomputable abbrev wCl (l:Lo) (r:Int) (i:Int) (y:List Int×Cs) (x:List (Nat×PE bM)):aW bM:=⟨[(0,xi r),(1,.val (.ptr 8 0 1)),(3,.val (.ptr 10 0 1)),(4,.val (.ptr 11 0 1)),(9,.loc 0 0),(10,xo 14),(43,xL 3 (iG l.d r).kids),(44,xi (iG l.d r).kids.length),(45,xi i)]++x,[(iG l.d r).ps],hCl l y.2 y.1⟩
theorem lCl {M:Nat} (hO:Ok M a6F) {d:Dg} {F:Nat} {r:Int} (hk:(iG d r).kids.length<=12) (Q:Cs->Prop) {x:Cs} (hx:Q x) (hq:∀ j y,j<(iG d r).kids.length->Q y->Q (VD d F ((iG d r).kids.getD j 0) y).2) (hs:∀ j y,j<(iG d r).kids.length->Q y->qH X0 Tryz.prog (ApN M) (.fn 202 [] pC) [.int .i64 ((iG d r).kids.getD j 0)] (HC (loD d) y) (.int .i64 (VD d F ((iG d r).kids.getD j 0) y).1) (HC' (loD d) (VD d F ((iG d r).kids.getD j 0) y).2)) :
  LpB M 202 0 12 (wCl (loD d) r 0 (List.replicate (iG d r).kids.length 0,x) []) (.exit 0) (wCl (loD d) r (iG d r).kids.length (uq (fun j (y:List Int×Cs)=>(y.1.set j (VD d F ((iG d r).kids.getD j 0) y.2).1,(VD d F ((iG d r).kids.getD j 0) y.2).2)) (iG d r).kids.length 0 (List.replicate (iG d r).kids.length 0,x)) [(46,xl false)]):=by
 refine a0B (σ:=List Int×Cs) (N:=(iG d r).kids.length) (g:=fun j (y:List Int×Cs)=>(y.1.set j (VD d F ((iG d r).kids.getD j 0) y.2).1,(VD d F ((iG d r).kids.getD j 0) y.2).2)) (s0:=(List.replicate (iG d r).kids.length 0,x)) (st:=fun k y=>wCl (loD d) r k y []) (fin:=fun y=>wCl (loD d) r (iG d r).kids.length y [(46,xl false)]) (fun _ y=>y.1.length=(iG d r).kids.length∧Q y.2) (by kernel_rfl) (m12 hk) ⟨by simp,hx⟩ (fun j y hj hy=>⟨by simp[hy.1],hq j y.2 hj hy.2⟩) (fun j y hj hy m e p g=>?_) (fun y _=>round hX hO (by kernel_rfl) (.b (a5U (iG d r).kids.length) .ex));have h1:=hs j y.2 hj hy.2;have h2:CO j y.1.length:=bP (by rw[hy.1];exact hj);generalize VD d F ((iG d r).kids.getD j 0) y.2=z at h1 g;obtain⟨v,z⟩:=z;exact round hX hO (by kernel_rfl) (.b (a2v hj) (.o (bP hj) (.fr [0,1,2,3,4,12,13,7,8,9,10,11] h1 (.o h2 (.goG [.gc [15,16,14]] g)))))
theorem a2D (k:List (Int×Int)):(a4o k).map (·.1)=k.map (·.1):=by
 unfold a4o;rw[List.map_map];rfl
theorem akj {n:Nat} (hO:Ok n a6F) (k:Int):qH X0 Tryz.prog (ApN n) (.fn 204 [] []) [.int .i64 k] [] (iA.put (IntKind.i64.wrap (-1-k))) []:=
 Con.afz hX (hO 204 [.int .i64 k] (iA.put (IntKind.i64.wrap (-1-k))) [] [] (by kernel_rfl) (fun q hq=>by cases hq)) rfl rfl rfl rfl
theorem sCl {N:Nat} (hO:∀ m,N<=m->Ok m a6F) {d:Dg} (h:SL d) (he:d.ends.length+1<=aO) (hn:d.nodes.length+1<=aO) (h1k:∀ i,i<d.nodes.length->1<=(D6 d i).kids.length):∀ (F:Nat) (r:Int) (x:Cs),r+1<F->a6G d x->EW d r d.nodes.length->1<=F->qH X0 Tryz.prog (ApN (N+F+6)) (.fn 202 [] pC) [.int .i64 r] (HC (loD d) x) (.int .i64 (VD d F r x).1) (HC' (loD d) (VD d F r x).2)
 | 0,r,x,_,_,_,h1=>by omega
 | F+1,r,x,hF,hx,hr,_=>by
  rw[show N+(F+1)+6=N+F+6+1 by omega];have hO1:=hO (N+F+6) (by omega);have hO2:=hO (N+F+5) (by omega);unfold VD;by_cases c:r<0
  ·have t0:decide (r<0)=true:=(by simpa using c);rw[if_pos t0];have hi:CO (IntKind.i64.wrap (-1-r)) d.ends.length:=hr.2 c;have hs:=akg hO2 (a:=d.sizes) (b:=d.order) (E:=x.e) (nd:=x.n) (r:=0) (nm:=kK.es (a1f x.n)) (a2I d r) hx.e1 (by have:=hx.ahX;omega);exact a2w hX hO1 (first:=[]) (by kernel_rfl) (.b t0 (.fr [] (akj hO1 r) (.o hi (.fr [0,1,2,3,4,5,6] hs .er))))
  have t0:decide (r<0)=false:=by simpa using c
  rw[if_neg (by rw[t0];simp)];have aN:r.toNat<d.nodes.length:=by have:=hr.1;omega
  by_cases c2:r∈x.k.map (·.1)
  ·rw[if_pos (by simpa using c2)];have hf:a1L X0 Tryz.prog 3 (kI.es (a4o x.k)) (kI.tv r) (.int .i64 (knV x.k r)):=kI.found (by rw[a2D];exact hx.k1) (List.mem_map.2 ⟨(r,knV x.k r),ab7 c2,rfl⟩);generalize knV x.k r=v at hf ⊢;exact qH.gs hX (a2w hX hO1 (first:=[]) (H1:=HC (loD d) x) (v:=.int .i64 v) (by kernel_rfl) (.b t0 (.c (.int .i64 v) [] hf (.b (rfl:true=true) .er)))) [.mv 5,.mv 6] rfl
  rw[if_neg (by simpa using c2)];have a1W:∀ k,k<(iG d r).kids.length->(iG d r).kids.getD k 0<r:=fun k Cb=>by
   have h9:=(h.kid r.toNat aN k Cb).1;have h9:(iG d r).kids.getD k 0<(r.toNat:Int):=h9;omega
  have hrk:∀ j,j<(iG d r).kids.length->EW d ((iG d r).kids.getD j 0) d.nodes.length:=fun j hj=>⟨by have:=a1W j hj;have:=hr.1;omega,(h.kid r.toNat aN j hj).2⟩;have hkl:(iG d r).kids.length<=12:=h.aaA r.toNat aN;have hq:∀ j y,j<(iG d r).kids.length->(a6G d y∧r∉y.k.map (·.1))->a6G d (VD d F ((iG d r).kids.getD j 0) y).2∧r∉(VD d F ((iG d r).kids.getD j 0) y).2.k.map (·.1):=fun j y hj hy=>
   ⟨a5l h F _ y hy.1 (hrk j hj),a8P F _ r y (a1W j hj) hy.2 (by omega) (fun i hi k hk=>(h.kid i hi k hk).1) (fun h5=>⟨h5,by have:=(hrk j hj).1;omega⟩)⟩
  have hl:=lCl hO1 (d:=d) (F:=F) (r:=r) hkl (fun y=>a6G d y∧r∉y.k.map (·.1)) (x:=x) ⟨hx,c2⟩ hq (fun j y hj hy=>sCl hO h he hn h1k F _ y (by have:=a1W j hj;omega) hy.1 (hrk j hj) (by omega));obtain⟨g1,g2,g3⟩:=a3I (d:=d) (fun y=>a6G d y∧r∉y.k.map (·.1)) (F:=F) (r:=r) (x:=x) ⟨hx,c2⟩ hq;generalize uq (fun j (y:List Int×Cs)=>(y.1.set j (VD d F ((iG d r).kids.getD j 0) y.2).1,(VD d F ((iG d r).kids.getD j 0) y.2).2)) (iG d r).kids.length 0 (List.replicate (iG d r).kids.length 0,x)=y at hl g1 g2 g3;obtain⟨ks,e,nd,kn⟩:=y;have g1:ks.length=(iG d r).kids.length:=g1;have DN:1<=ks.length∧ks.length<=12:=by rw[g1];exact⟨h1k r.toNat aN,hkl⟩
  have hN:nd.length+1<=aO:=by have:=g2.aaA;have:=g2.n2;simp at *;omega
  have hs:=ahW (n:=N+F) hO2 (a:=d.sizes) (b:=d.order) (E:=e) (nd:=nd) (r:=0) (iG d r).var ks DN g2.n1 hN;have f0:Et X0 Tryz.prog 3 (kI.es (a4o x.k)) (kI.tv r):=kI.fresh (by rw[a2D];exact c2);have f1:Et X0 Tryz.prog 3 (kI.es (a4o kn)) (kI.tv r):=kI.fresh (by rw[a2D];exact g3);have f2:=kI.ck r;show qH X0 Tryz.prog _ _ _ _ (.int .i64 (Qe nd (iG d r).var ks)) (HC' (loD d) ⟨e,Yn nd (iG d r).var ks,kn++[(r,Qe nd (iG d r).var ks)]⟩);generalize Qe nd (iG d r).var ks=v at hs ⊢;generalize Yn nd (iG d r).var ks=nd' at hs ⊢;have em:kI.es (a4o (kn++[(r,v)]))=kI.es (a4o kn)++[(kI.pv r,.int .i64 v)]:=by
   show List.map _ (List.map _ (kn++[(r,v)]))=_;rw[List.map_append,List.map_append];rfl
  have f3:a1L X0 Tryz.prog 3 (kI.es (a4o kn)++[(kI.pv r,.int .i64 v)]) (kI.tv r) (.int .i64 v):=by
   rw[<-em];exact kI.found (by rw[a2D,List.map_append];exact a13 g2.k1 g3) (List.mem_map.2 ⟨(r,v),by simp,rfl⟩)
  have hi:CO r d.nodes.length:=⟨by omega,hr.1⟩;have hm:((iG d r).kids.length:Int)<=(aO:Int):=by have:=m12 hkl;omega
  show qH X0 Tryz.prog _ _ _ _ _ ([_,_,_,_,_,_,_]++[_,_,.map (kI.es (a4o (kn++[(r,v)]))),_,_]++[_,_]);rw[em];exact qH.gs hX (a2w hX hO1 (first:=[]) (v:=.int .i64 v) (H1:=[.list false false 3 d.sizes,.list false false 3 d.order,.map (kV.es (a1q e)),.map (kK.es (a1f nd')),mkC d.sizes d.order 15 16 0,.gone,.gone,.fG (loD d).ps,.fG [.ptr 4 0 9],.map (kI.es (a4o kn)++[(kI.pv r,.int .i64 v)]),.fG [.map 9],.fG [.fn 202 [] pC],.gone,.gone,.gone,lsV e,lsB nd']) (by kernel_rfl) (.b t0 (.q (.bool false) f0 (.b (rfl:false=false) (.o hi (.o (show ((iG d r).kids.length:Int)=((iG d r).kids.length:Int) from rfl) (.o (show (0:Int)<=((iG d r).kids.length:Int) by omega) (.o hm (.wG [.mv 5,.mv 6,.gc [13,14,12]] hl (.fr [0,1,2,3,4,12,13,14] hs (.q (.bool false) f2 (.o f1 (.c (.int .i64 v) [] f3 .er))))))))))))) [.gc [15,16]] rfl
open Go Tw Pv gq
abbrev a5n (a b:List V) (k:Nat):Bool:=!(decide (a.getD k V0=b.getD k V0))
abbrev afO (a b:List V) (i:Int) (x:List (Nat×PE bM)):aW bM:=⟨[(0,xL 79 a),(1,xL 79 b),(12,xi a.length),(13,xi i)]++x,[],[]⟩
def z154 (a b:List V):Unit⊕Nat->Ex×aW bM
 | .inl _=>(.exit 0,afO a b a.length [(14,xl false)])
 | .inr _=>(.ret,⟨[(4,xl false)],[],[]⟩)
theorem ahY {n:Nat} {kX:iO bM} (hO:Ok n kX) (a b:List V) (hl:a.length<=aO) (h:a.length=b.length):Lp n 154 0 (afO a b 0 []) (z154 a b (pJ (a5n a b) a.length)).1 (z154 a b (pJ (a5n a b) a.length)).2:=
 kN (st:=fun i _=>afO a b i []) (fun _ _=>True) (by kernel_rfl) hl trivial (fun k s m hk _ ih=>round hX hO (by kernel_rfl) (.b (a2v hk) (.o (bP hk) (.o (bP (h▸hk)) (.q (.bool (!(decide (a.getD k V0=b.getD k V0)))) (neV (.tmp 19) (.tmp 23) (a.getD k V0) (b.getD k V0)) (.ls (.ou nofun) (.nx (ih _ trivial)))))))) (fun s _=>round hX hO (by kernel_rfl) (.b (a5U a.length) (.ou nofun)))
theorem aef {a b:List V} (h:a.length=b.length):a=b↔∀ j,j<a.length->a.getD j V0=b.getD j V0:=by
 constructor
 ·rintro rfl j _;rfl
 intro h2;apply List.ext_getElem h;intro j h3 h4;have:=h2 j h3;simpa[List.getD,List.getElem?_eq_getElem h3,List.getElem?_eq_getElem h4] using this
theorem a5o {a b:List V} (h:a.length=b.length):G8 (pJ (a5n a b) a.length)=decide (a=b):=by
 rw[Bool.eq_iff_iff,Jb,decide_eq_true_eq,aef h];simp[a5n]
theorem aeg {α:Type} [DecidableEq α] {a b:List α} (h:((a.length:Int) != (b.length:Int))=true):decide (a=b)=false:=by
 rw[decide_eq_false_iff_not];rintro rfl;simp at h
theorem ahZ:Gd a6H:=aeT.add fun n hO p hp=>dS hX hO (by kernel_rfl) (.s (fun h=>.v false (aeg h).symm) fun h=>.z (c:=G8 (pJ (a5n p.1 p.2) p.1.length)) (fun h2=>.w (pF (ahY hO p.1 p.2 (hp _ (.head _)) (VB h)) () h2) (.v true (by rw[<-a5o (VB h),h2]))) fun h2=>.w (rC (ahY hO p.1 p.2 (hp _ (.head _)) (VB h)) 0 h2) (.v false (by rw[<-a5o (VB h),h2])))
theorem ai0:Gd a6I:=ahZ.add fun n hO p hp=>dS hX hO (by kernel_rfl) (.ss (.o (hp _ (.head _)) .rr) .rr)
abbrev wEB (a b:List Br) (i:Int) (x:List (Nat×PE bM)):aW bM:=⟨[(1,xL 102 b),(2,.val (.fn 200 [] [])),(15,xL 102 a),(16,xi a.length),(17,xi i)]++x,[],[]⟩
def zEB (a b:List Br):Unit⊕Nat->Ex×aW bM
 | .inl _=>(.exit 0,wEB a b a.length [(18,xl false)])
 | .inr k=>(.ret,⟨[(6,xl false)],[(a.getD k SK).ps,(b.getD k SK).ps],[]⟩)
theorem lEB {n:Nat} (hO:Ok n a6I) (a b:List Br) (hl:a.length<=aO) (h:a.length=b.length) (hk:∀ k,k<a.length->(a.getD k SK).kids.length<=aO):Lp n 155 0 (wEB a b 0 []) (zEB a b (pJ (cEB a b) a.length)).1 (zEB a b (pJ (cEB a b) a.length)).2:=
 kN (st:=fun i _=>wEB a b i []) (fun _ _=>True) (by kernel_rfl) hl trivial (fun k s m Cb _ ih=>round hX hO (by kernel_rfl) (.b (a2v Cb) (.o (bP Cb) (.o (bP (h▸Cb)) (.o (hk k Cb) (.ls (.ou nofun) (.nx (ih _ trivial)))))))) (fun s _=>round hX hO (by kernel_rfl) (.b (a5U a.length) (.ou nofun)))
theorem ai1:Gd a6J:=ai0.add fun n hO p hp=>dS hX hO (by kernel_rfl) (.sh (fun _=>.rr) fun h=>.zh (fun h2=>.w (pF (lEB hO p.1 p.2.1 (hp _ (.head _)) (VB h) (hp (∀ k,k<p.1.length->(p.1.getD k SK).kids.length<=aO) (.tail _ (.head _)))) () h2) .rr) fun h2=>.w (rC (lEB hO p.1 p.2.1 (hp _ (.head _)) (VB h) (hp (∀ k,k<p.1.length->(p.1.getD k SK).kids.length<=aO) (.tail _ (.head _)))) 0 h2) .rr)
theorem ai2:Gd a6K:=ai1.add fun n hO p hp=>dS hX hO (by kernel_rfl) (.o (hp _ (.head _)) (.ss (.o (hp _ (.tail _ (.head _))) (.ss (.o (hp _ (.tail _ (.tail _ (.head _)))) (.ss (.o (hp _ (.tail _ (.tail _ (.tail _ (.head _))))) (.o (hp (∀ k,k<p.1.nodes.length->(p.1.nodes.getD k SK).kids.length<=aO) (.tail _ (.tail _ (.tail _ (.tail _ (.head _)))))) (.ss .rr .rr))) .rr)) .rr)) .rr))
theorem a8Q {x y:Br}:VE x y=true↔x=y:=by
 obtain⟨a,b⟩:=x;obtain⟨c,e⟩:=y;unfold VE;simp only[Br.mk.injEq];by_cases h:a=c<;>simp[h]
theorem abZ {a b:List Br}:Qg a b=true↔a=b:=by
 unfold Qg;by_cases h:a.length=b.length
 ·rw[if_neg (by simp;omega)];have e:G8 (pJ (cEB a b) a.length)=true↔a=b:=by
   rw[Jb];constructor
   ·intro h1;apply List.ext_getElem h;intro j h3 h4;have:=h1 j h3;simp only[cEB,Bool.not_eq_false'] at this;have:=a8Q.1 this;simpa[List.getD,List.getElem?_eq_getElem h3,List.getElem?_eq_getElem h4] using this
   rintro rfl j _;simp only[cEB,Bool.not_eq_false'];exact a8Q.2 rfl
  rw[<-e];cases G8 (pJ (cEB a b) a.length)<;>simp
 rw[if_pos (by simp;omega)];constructor
 ·intro h1;cases h1
 rintro rfl;exact absurd rfl h
theorem ab8 {a b:Dg}:a0O a b=true↔a=b:=by
 obtain⟨a1,a2,a3,a4,a5⟩:=a;obtain⟨b1,b2,b3,b4,b5⟩:=b;unfold a0O;simp only[Dg.mk.injEq];by_cases h1:a1=b1
 ·by_cases h2:a2=b2
  ·by_cases h3:a3=b3
   ·have h4:=abZ (a:=a4) (b:=b4);cases e:Qg a4 b4
    ·rw[e] at h4;simp[h1,h2,h3];intro h5;exact absurd h5 (by simpa using h4)
    rw[e] at h4;simp at h4;simp[h1,h2,h3,h4]
   simp[h3]
  simp[h2]
 simp[h1]
open Go Tw Pv gq
def KS (d:Dg) (s:List Int×List Int):Cs:=⟨s.2.map fun e=>d.ends.getD e.toNat V0,s.1.map fun o=>⟨(iG d o).var,(iG d o).kids.map (phi s)⟩,s.1.map fun o=>(o,phi s o)⟩
def a3W (d:Dg) (s:List Int×List Int):Prop:=∀ o∈s.1,∀ k∈(iG d o).kids,Cov s k
theorem a8j {s:List Int×List Int} {x:Int} (l:List Int) (h:Cov s x):phi (s.1,s.2++l) x=phi s x:=by
 unfold phi;split
 ·rename_i c;rw[List.idxOf_append,if_pos (h.1 c)]
 rfl
theorem a3J {s:List Int×List Int} {x:Int} (l:List Int) (h:Cov s x):phi (s.1++l,s.2) x=phi s x:=by
 unfold phi;split
 ·rfl
 rename_i c;rw[List.idxOf_append,if_pos (h.2 (by omega))]
theorem afP {d:Dg} {s:List Int×List Int} (hk:a3W d s) (hn:∀ o∈s.1,0<=o) (e:Int):KS d (s.1,s.2++[e])=⟨(KS d s).e++[d.ends.getD e.toNat V0],(KS d s).n,(KS d s).k⟩:=by
 unfold KS;simp only[List.map_append,List.map_cons,List.map_nil,Cs.mk.injEq,true_and];constructor
 ·apply List.map_congr_left;intro o ho;congr 1;apply List.map_congr_left;intro k Cb;exact a8j [e] (hk o ho k Cb)
 apply List.map_congr_left;intro o ho;rw[a8j [e] ⟨fun c=>absurd (hn o ho) (by omega),fun _=>ho⟩]
theorem aeh {d:Dg} {s:List Int×List Int} (hk:a3W d s) (hn:∀ o∈s.1,0<=o) {r:Int} (h0:0<=r) (hr:r∉s.1) (hrk:∀ k∈(iG d r).kids,Cov s k):KS d (s.1++[r],s.2)=⟨(KS d s).e,(KS d s).n++[⟨(iG d r).var,(iG d r).kids.map (phi s)⟩],(KS d s).k++[(r,(s.1.length:Int))]⟩:=by
 unfold KS;simp only[List.map_append,List.map_cons,List.map_nil,Cs.mk.injEq,true_and];refine⟨?_,?_⟩
 ·congr 1
  ·apply List.map_congr_left;intro o ho;congr 1;exact List.map_congr_left fun k Cb=>a3J [r] (hk o ho k Cb)
  congr 2;exact List.map_congr_left fun k Cb=>a3J [r] (hrk k Cb)
 congr 1
 ·apply List.map_congr_left;intro o ho;rw[a3J [r] ⟨fun c=>absurd (hn o ho) (by omega),fun _=>ho⟩]
 congr 2;unfold phi;rw[if_neg (by omega)];simp[List.idxOf_append,hr]
theorem ai3 {a b:Nat} (ha:a<=2^61) (hb:b<=2^61) (h:IntKind.i64.wrap (-1-(a:Int))=IntKind.i64.wrap (-1-(b:Int))):a=b:=by
 rw[D5 (by omega) (by omega),D5 (by omega) (by omega)] at h;omega
theorem ab9 {l:List Int} {a b:Int} (ha:a∈l) (hb:b∈l) (h:l.idxOf a=l.idxOf b):a=b:=by
 have h1:=List.getElem_idxOf (List.idxOf_lt_length_iff.2 ha);have h2:=List.getElem_idxOf (List.idxOf_lt_length_iff.2 hb);rw[<-h1,<-h2];congr 1
theorem acW {x y:Int} (hx:W64 x) (hy:W64 y) (cx:x<0) (cy:y<0) (h:BU x=BU y):x=y:=by
 unfold BU at h;rw[a4x hx cx,a4x hy cy] at h;omega
theorem abb {s:List Int×List Int} (hs:s.2.length<=2^61) {x y:Int} (hx:Cov s x) (hy:Cov s y) (wx:W64 x) (wy:W64 y) (h:phi s x=phi s y):x=y:=by
 have lt:∀ z,z∈s.2->s.2.idxOf z<=2^61:=fun z hz=>Nat.le_trans (Nat.le_of_lt (List.idxOf_lt_length_iff.2 hz)) hs;unfold phi at h;by_cases cx:x<0
 ·rw[if_pos cx] at h;by_cases cy:y<0
  ·rw[if_pos cy] at h;exact acW wx wy cx cy (ab9 (hx.1 cx) (hy.1 cy) (ai3 (lt _ (hx.1 cx)) (lt _ (hy.1 cy)) h))
  rw[if_neg cy] at h;have:=lt _ (hx.1 cx);rw[D5 (by omega) (by omega)] at h;omega
 rw[if_neg cx] at h;by_cases cy:y<0
 ·rw[if_pos cy] at h;have:=lt _ (hy.1 cy);rw[D5 (by omega) (by omega)] at h;omega
 rw[if_neg cy] at h;exact ab9 (hx.2 (by omega)) (hy.2 (by omega)) (by omega)
open Go Tw Pv gq
theorem aei {s t:List Int×List Int} {x:Int} (h:Cov s x) (he:Ext s t):phi t x=phi s x:=by
 have hc:=h;obtain⟨a,b,rfl⟩:=he;have h2:Cov (s.1,s.2++b) x:=⟨fun c=>List.mem_append_left _ (h.1 c),h.2⟩;rw[<-a8j b h,<-a3J a h2]
theorem a7T {α β:Type} {g1:Nat->α->α} {g2:Nat->β->β} (R:Nat->α->β->Prop):∀ (m k:Nat) (a:α) (b:β),R k a b->(∀ j a b,k<=j->j<k+m->R j a b->R (j+1) (g1 j a) (g2 j b))->R (k+m) (uq g1 m k a) (uq g2 m k b)
 | 0,_,_,_,h,_=>h
 | m+1,k,a,b,h,hs=>by
  have:=a7T R m (k+1) (g1 k a) (g2 k b) (hs k a b (Nat.le_refl _) (by omega) h) (fun j a b h1 h2=>hs j a b (by omega) (by omega));rw[show k+(m+1)=k+1+m by omega];exact this
theorem abd {α β:Type} [BEq α] [LawfulBEq α] [BEq β] [LawfulBEq β] {f:α->β} {a:α}:∀ {l:List α},(∀ b∈l,f b=f a->b=a)->(l.map f).idxOf (f a)=l.idxOf a
 | [],_=>rfl
 | c::l,h=>by
  rw[List.map_cons,List.idxOf_cons,List.idxOf_cons,abd fun b hb=>h b (List.mem_cons_of_mem _ hb)];by_cases hc:c=a
  ·subst hc;simp
  have:¬(f c=f a):=fun e=>hc (h c (.head _) e);rw[show (c==a)=false by simpa using hc,show (f c==f a)=false by simpa using this]
structure DgD (d:Dg):Prop where
 ends:d.ends.Nodup
 nodes:∀ i j,i<d.nodes.length->j<d.nodes.length->(D6 d i).var=(D6 d j).var->(D6 d i).kids=(D6 d j).kids->i=j
 flat:∀ i,i<d.nodes.length->((D6 d i).kids.all fun x=>x==(D6 d i).kids.getD 0 0)=false
theorem a8S {d:Dg} (h:d.ends.Nodup) {a b:Int} (ha:CO a d.ends.length) (hb:CO b d.ends.length) (e:d.ends.getD a.toNat V0=d.ends.getD b.toNat V0):a=b:=by
 have h1:a.toNat<d.ends.length:=by have:=ha.1;have:=ha.2;omega
 have h2:b.toNat<d.ends.length:=by have:=hb.1;have:=hb.2;omega
 simp only[List.getD,List.getElem?_eq_getElem h1,List.getElem?_eq_getElem h2,Option.getD_some] at e;have:=(List.getElem_inj h).1 e;have:=ha.1;have:=hb.1;omega
theorem afR {d:Dg} (hd:DgD d) {s:List Int×List Int} (hs:a6q d s) {r:Int} (hr:CO (BU r) d.ends.length):(KS d s).e.idxOf (a2I d r)=s.2.idxOf (BU r)∧(a2I d r∈(KS d s).e↔BU r∈s.2):=by
 have hi:∀ b∈s.2,(fun e:Int=>d.ends.getD e.toNat V0) b=(fun e:Int=>d.ends.getD e.toNat V0) (BU r)->b=BU r:=fun b hb e=>a8S hd.ends (hs.e2 b hb) hr e;refine⟨abd (f:=fun e:Int=>d.ends.getD e.toNat V0) (a:=BU r) hi,?_⟩;constructor
 ·intro h;obtain⟨b,hb,e⟩:=List.mem_map.1 h;rw[<-hi b hb e];exact hb
 intro h;exact List.mem_map.2 ⟨BU r,h,rfl⟩
theorem afS {d:Dg} {s:List Int×List Int} {r:Int} (h:r∈s.1):knV (KS d s).k r=phi s r:=by
 have h1:r∈(KS d s).k.map (·.1):=by
  unfold KS;rw[List.map_map];exact List.mem_map.2 ⟨r,h,rfl⟩
 have h2:=ab7 h1;obtain⟨o,_,e⟩:=List.mem_map.1 h2;have e1:o=r:=congrArg Prod.fst e;have e2:phi s o=knV (KS d s).k r:=congrArg Prod.snd e;rw[<-e2,e1]
theorem aej {a b:List Int} (h:a.length=b.length) (ha:a.length<=12) (e:a2G a=a2G b):a=b:=by
 unfold a2G at e;have:=congrArg (List.take a.length) e;rw[List.take_take,List.take_take,Nat.min_eq_left ha,List.take_append_of_le_length (Nat.le_refl _),List.take_append_of_le_length (by omega),List.take_length,h,List.take_length] at this;exact this
theorem map_inj {α β:Type} {f:α->β}:∀ {a b:List α},(∀ x∈a,∀ y∈b,f x=f y->x=y)->a.map f=b.map f->a=b
 | [],[],_,_=>rfl
 | [],_::_,_,h=>by simp at h
 | _::_,[],_,h=>by simp at h
 | x::a,y::b,hi,h=>by
  simp only[List.map_cons,List.cons.injEq] at h;rw[hi x (.head _) y (.head _) h.1,map_inj (fun u hu v hv=>hi u (List.mem_cons_of_mem _ hu) v (List.mem_cons_of_mem _ hv)) h.2]
open Go Tw Pv gq
structure Alk (d:Dg) (F:Nat) (r:Int) (s:List Int×List Int):Prop where
 eq:VD d F r (KS d s)=(phi (Yk d F r s) r,KS d (Yk d F r s))
 kids:a3W d (Yk d F r s)
 cov:Cov (Yk d F r s) r
 ext:Ext s (Yk d F r s)
theorem aeZ {d:Dg} (h:SL d) (hw:DgR d) (hd:DgD d) (he:d.ends.length<=2^61):∀ (F:Nat) (r:Int) (s:List Int×List Int),r+1<F->a6q d s->a3W d s->EW d r d.nodes.length->1<=F->Alk d F r s
 | 0,r,s,_,_,_,_,h1=>by omega
 | F+1,r,s,hF,hs,hk,hr,_=>by
  have hn:∀ o∈s.1,0<=o:=fun o ho=>(hs.n2 o ho).1;by_cases c:r<0
  ·have t0:decide (r<0)=true:=(by simpa using c);obtain⟨q1,q2⟩:=afR hd hs (hr.2 c);have e1:VD d (F+1) r (KS d s)=(IntKind.i64.wrap (-1-((KS d s).e.idxOf (a2I d r):Nat)),⟨Vz (KS d s).e (a2I d r),(KS d s).n,(KS d s).k⟩):=by unfold VD;rw[if_pos t0]
   by_cases c2:BU r∈s.2
   ·have e2:Yk d (F+1) r s=s:=by unfold Yk;rw[if_pos t0,if_neg (by simpa using c2)]
    refine⟨?_,by rw[e2];exact hk,by rw[e2];exact⟨fun _=>c2,fun h0=>by omega⟩,by rw[e2];exact .refl s⟩;rw[e1,e2,q1,show Vz (KS d s).e (a2I d r)=(KS d s).e from if_pos (q2.2 c2)];unfold phi;rw[if_pos c]
   have e2:Yk d (F+1) r s=(s.1,s.2++[BU r]):=by unfold Yk;rw[if_pos t0,if_pos (by simpa using c2)]
   have hc:Cov (s.1,s.2++[BU r]) r:=⟨fun _=>by simp,fun h0=>by omega⟩;have hx:Ext s (s.1,s.2++[BU r]):=⟨[],[BU r],by simp⟩;refine⟨?_,by rw[e2];exact fun o ho k Cb=>(hk o ho k Cb).ext hx,by rw[e2];exact hc,by rw[e2];exact hx⟩;rw[e1,e2,q1,afP hk hn,show Vz (KS d s).e (a2I d r)=(KS d s).e++[a2I d r] from if_neg (fun e=>c2 (q2.1 e))];unfold phi;rw[if_pos c];simp[List.idxOf_append,c2,List.idxOf_eq_length c2,a2I]
  have t0:¬(decide (r<0)=true):=by simpa using c
  have qM:(KS d s).k.map (·.1)=s.1:=by unfold KS;rw[List.map_map];exact List.map_id _
  by_cases c2:r∈s.1
  ·have e2:Yk d (F+1) r s=s:=by unfold Yk;rw[if_neg t0,if_pos (by simpa using c2)]
   have e1:VD d (F+1) r (KS d s)=(knV (KS d s).k r,KS d s):=by unfold VD;rw[if_neg t0,if_pos (by rw[qM];simpa using c2)]
   refine⟨?_,by rw[e2];exact hk,by rw[e2];exact⟨fun h0=>absurd h0 c,fun _=>c2⟩,by rw[e2];exact .refl s⟩;rw[e1,e2,afS c2]
  have aN:r.toNat<d.nodes.length:=by have:=hr.1;omega
  have a1W:∀ k,k<(iG d r).kids.length->(iG d r).kids.getD k 0<r:=fun k Cb=>by
   have h9:=(h.kid r.toNat aN k Cb).1;have h9:(iG d r).kids.getD k 0<(r.toNat:Int):=h9;omega
  have hrk:∀ j,j<(iG d r).kids.length->EW d ((iG d r).kids.getD j 0) d.nodes.length:=fun j hj=>⟨by have:=a1W j hj;have:=hr.1;omega,(h.kid r.toNat aN j hj).2⟩;have aa7:=a7T (g1:=fun j (y:List Int×Cs)=>(y.1.set j (VD d F ((iG d r).kids.getD j 0) y.2).1,(VD d F ((iG d r).kids.getD j 0) y.2).2)) (g2:=fun k y=>Yk d F ((iG d r).kids.getD k 0) y)
   (fun j (y:List Int×Cs) (t:List Int×List Int)=>y=(((iG d r).kids.take j).map (phi t)++List.replicate ((iG d r).kids.length-j) 0,KS d t)∧a6q d t∧a3W d t∧Ext s t∧r∉t.1∧∀ i,i<j->Cov t ((iG d r).kids.getD i 0)) (iG d r).kids.length 0 (List.replicate (iG d r).kids.length 0,KS d s) s ⟨by simp,hs,hk,.refl s,c2,fun i hi=>by omega⟩ (fun j y t _ hj hy=>by
    obtain⟨rfl,y1,y2,y3,y4,y5⟩:=hy;have hj:j<(iG d r).kids.length:=(by omega);have ih:=aeZ h hw hd he F _ t (by have:=a1W j hj;omega) y1 y2 (hrk j hj) (by omega);have hno:=acD F ((iG d r).kids.getD j 0) r t (a1W j hj) y4 (by omega) (fun i hi k hk=>(h.kid i hi k hk).1) (fun h5=>⟨h5,by have:=(hrk j hj).1;omega⟩);have Ju:=a4b h F ((iG d r).kids.getD j 0) t y1 (hrk j hj);obtain⟨i1,i2,i3,i4⟩:=ih;simp only[i1];generalize Yk d F ((iG d r).kids.getD j 0) t=u at i2 i3 i4 hno Ju ⊢;refine⟨?_,Ju,i2,y3.trans i4,hno,fun i hi=>?_⟩
    ·simp only[Prod.mk.injEq,and_true];have hl:(List.map (phi t) (List.take j (iG d r).kids)).length=j:=by rw[List.length_map,List.length_take];omega
     rw[show (iG d r).kids.length-j=((iG d r).kids.length-(j+1))+1 by omega,List.replicate_succ,List.set_append_right _ _ (by rw[hl];exact Nat.le_refl j)];rw[hl,Nat.sub_self,List.set_cons_zero,List.take_succ_eq_append_getElem hj,List.map_append,List.append_assoc];congr 1
     ·apply List.map_congr_left;intro x hx;obtain⟨i,hi,rfl⟩:=List.mem_iff_getElem.1 hx;have BN:i<j:=by simp at hi;omega
      have:=y5 i BN;rw[a0q (l:=(iG d r).kids) (show i<(iG d r).kids.length by omega)] at this;rw[List.getElem_take];exact (aei this i4).symm
     ·rw[a0q hj];rfl
    ·by_cases BN:i<j
     ·exact (y5 i BN).ext i4
     ·rw[show i=j by omega];exact i3)
  have e1:VD d (F+1) r (KS d s)=(Qe (uq (fun j (y:List Int×Cs)=>(y.1.set j (VD d F ((iG d r).kids.getD j 0) y.2).1,(VD d F ((iG d r).kids.getD j 0) y.2).2)) (iG d r).kids.length 0 (List.replicate (iG d r).kids.length 0,KS d s)).2.n (iG d r).var (uq (fun j (y:List Int×Cs)=>(y.1.set j (VD d F ((iG d r).kids.getD j 0) y.2).1,(VD d F ((iG d r).kids.getD j 0) y.2).2)) (iG d r).kids.length 0 (List.replicate (iG d r).kids.length 0,KS d s)).1,⟨(uq (fun j (y:List Int×Cs)=>(y.1.set j (VD d F ((iG d r).kids.getD j 0) y.2).1,(VD d F ((iG d r).kids.getD j 0) y.2).2)) (iG d r).kids.length 0 (List.replicate (iG d r).kids.length 0,KS d s)).2.e,Yn (uq (fun j (y:List Int×Cs)=>(y.1.set j (VD d F ((iG d r).kids.getD j 0) y.2).1,(VD d F ((iG d r).kids.getD j 0) y.2).2)) (iG d r).kids.length 0 (List.replicate (iG d r).kids.length 0,KS d s)).2.n (iG d r).var (uq (fun j (y:List Int×Cs)=>(y.1.set j (VD d F ((iG d r).kids.getD j 0) y.2).1,(VD d F ((iG d r).kids.getD j 0) y.2).2)) (iG d r).kids.length 0 (List.replicate (iG d r).kids.length 0,KS d s)).1,(uq (fun j (y:List Int×Cs)=>(y.1.set j (VD d F ((iG d r).kids.getD j 0) y.2).1,(VD d F ((iG d r).kids.getD j 0) y.2).2)) (iG d r).kids.length 0 (List.replicate (iG d r).kids.length 0,KS d s)).2.k++[(r,Qe (uq (fun j (y:List Int×Cs)=>(y.1.set j (VD d F ((iG d r).kids.getD j 0) y.2).1,(VD d F ((iG d r).kids.getD j 0) y.2).2)) (iG d r).kids.length 0 (List.replicate (iG d r).kids.length 0,KS d s)).2.n (iG d r).var (uq (fun j (y:List Int×Cs)=>(y.1.set j (VD d F ((iG d r).kids.getD j 0) y.2).1,(VD d F ((iG d r).kids.getD j 0) y.2).2)) (iG d r).kids.length 0 (List.replicate (iG d r).kids.length 0,KS d s)).1)]⟩):=by
   rw[VD,if_neg t0,if_neg (by rw[qM];simpa using c2)]
  have e2:Yk d (F+1) r s=((uq (fun k y=>Yk d F ((iG d r).kids.getD k 0) y) (iG d r).kids.length 0 s).1++[r],(uq (fun k y=>Yk d F ((iG d r).kids.getD k 0) y) (iG d r).kids.length 0 s).2):=by
   rw[Yk,if_neg t0,if_neg (by simpa using c2)]
  generalize uq (fun j (y:List Int×Cs)=>(y.1.set j (VD d F ((iG d r).kids.getD j 0) y.2).1,(VD d F ((iG d r).kids.getD j 0) y.2).2)) (iG d r).kids.length 0 (List.replicate (iG d r).kids.length 0,KS d s)=y at aa7 e1;generalize uq (fun k y=>Yk d F ((iG d r).kids.getD k 0) y) (iG d r).kids.length 0 s=t at aa7 e2;obtain⟨rfl,f2,f3,f4,f5,f6⟩:=aa7;rw[Nat.zero_add] at f6;simp only[Nat.zero_add,List.take_length,Nat.sub_self,List.replicate_zero,List.append_nil] at e1;have acX:∀ k∈(iG d r).kids,Cov t k:=fun k Cb=>by
   obtain⟨i,hi,rfl⟩:=List.mem_iff_getElem.1 Cb;have:=f6 i hi
   rwa [a0q hi] at this
  have hW:∀ o,0<=o->CO o d.nodes.length->∀ k∈(iG d o).kids,W64 k:=fun o _ ho k Cb=>by
   obtain⟨i,hi,rfl⟩:=List.mem_iff_getElem.1 Cb;have:=hw.kid o.toNat (by have:=ho.1;have:=ho.2;omega) i hi
   rwa [a0q hi] at this
  have hrI:CO r d.nodes.length:=⟨by omega,hr.1⟩;have hel:t.2.length<=2^61:=Nat.le_trans f2.len.2 he;have af0:((iG d r).kids.map (phi t)).all (fun x=>x==((iG d r).kids.map (phi t)).getD 0 0)=false:=by
   cases e:((iG d r).kids.map (phi t)).all (fun x=>x==((iG d r).kids.map (phi t)).getD 0 0)
   ·rfl
   exfalso;have hf:=hd.flat r.toNat aN;rw[List.all_eq_false] at hf;obtain⟨x,hx,hx2⟩:=hf;have hx:x∈(iG d r).kids:=hx;have h0:0<(iG d r).kids.length:=List.length_pos_of_mem hx;rw[List.all_eq_true] at e;have:=e (phi t x) (List.mem_map.2 ⟨x,hx,rfl⟩);rw[a0q (by simpa using h0),List.getElem_map] at this;have WW:(iG d r).kids[0]∈(iG d r).kids:=List.getElem_mem h0;have:=abb hel (acX x hx) (acX _ WW) (hW r (by omega) hrI x hx) (hW r (by omega) hrI _ WW) (by simpa using this);apply hx2;have h9:(D6 d r.toNat).kids.getD 0 0=(iG d r).kids[0]:=a0q h0;rw[h9,this];simp
  have aeI:a2H (iG d r).var ((iG d r).kids.map (phi t))∉(KS d t).n.map kyB:=by
   intro hm;unfold KS at hm;rw[List.map_map] at hm;obtain⟨o,ho,e⟩:=List.mem_map.1 hm;have ho2:=f2.n2 o ho;have hol:o.toNat<d.nodes.length:=by have:=ho2.1;have:=ho2.2;omega
   have ev:(D6 d o.toNat).var=(D6 d r.toNat).var:=congrArg Prod.fst e;have ep:a2G ((iG d o).kids.map (phi t))=a2G ((iG d r).kids.map (phi t)):=congrArg (fun z:Ky=>z.2.val) e;have hlen:((D6 d o.toNat).kids.length:Int)=((D6 d r.toNat).kids.length:Int):=(by rw[h.ksz _ hol,h.ksz _ aN,ev]);have hlen:(iG d o).kids.length=(iG d r).kids.length:=by exact_mod_cast hlen
   have em:=aej (by simpa using hlen) (by rw[List.length_map];exact h.aaA _ hol) ep;have ek:=map_inj (fun x hx y hy e=>abb hel (f3 o ho x hx) (acX y hy) (hW o ho2.1 ho2 x hx) (hW r (by omega) hrI y hy) e) em;have:=hd.nodes _ _ hol aN ev ek;have:o=r:=by have:=ho2.1;omega
   exact f5 (this▸ho)
  have Sz:(KS d t).n.length=t.1.length:=by unfold KS;simp
  have hR:Qe (KS d t).n (iG d r).var ((iG d r).kids.map (phi t))=(t.1.length:Int):=by
   unfold Qe;rw[af0,if_neg (by simp),List.idxOf_eq_length aeI,List.length_map,Sz]
  have hS:Yn (KS d t).n (iG d r).var ((iG d r).kids.map (phi t))=(KS d t).n++[⟨(iG d r).var,(iG d r).kids.map (phi t)⟩]:=by
   unfold Yn;rw[af0,if_neg (by simp),if_neg aeI]
  have hx:Ext t (t.1++[r],t.2):=⟨[r],[],by simp⟩;have hc:Cov (t.1++[r],t.2) r:=⟨fun h0=>absurd h0 c,fun _=>by simp⟩;refine⟨?_,?_,by rw[e2];exact hc,by rw[e2];exact f4.trans hx⟩
  ·rw[e1,e2,hR,hS,aeh f3 (fun o ho=>(f2.n2 o ho).1) (by omega) f5 acX];unfold phi;rw[if_neg c];simp[List.idxOf_append,f5]
  rw[e2];intro o ho k Cb;rcases List.mem_append.1 ho with ho | ho
  ·exact (f3 o ho k Cb).ext hx
  rw[List.mem_singleton.1 ho] at Cb;exact (acX k Cb).ext hx
open Go Tw Pv gq
theorem a5p (b:Br):Vp b=b.kids.all fun x=>x==b.kids.getD 0 0:=by
 have e:G8 (a5V (a6l b) 1 (max 1 b.kids.length))=true↔∀ k,1<=k->k<b.kids.length->b.kids.getD k 0=b.kids.getD 0 0:=by
  unfold a5V gS;rw[KQ (r:=fun k=>k)];constructor
  ·intro h k h1 h2;simpa[a6l] using h k h1 (by omega)
  intro h k h1 h2;simpa[a6l] using h k h1 (by omega)
 have e2:(b.kids.all fun x=>x==b.kids.getD 0 0)=true↔∀ k,1<=k->k<b.kids.length->b.kids.getD k 0=b.kids.getD 0 0:=by
  rw[List.all_eq_true];constructor
  ·intro h k _ h2;have:=h _ (KU h2);simpa using this
  intro h x hx;obtain⟨k,hk,rfl⟩:=List.mem_iff_getElem.1 hx;by_cases h0:k=0
  ·subst h0;rw[a0q hk];simp
  have:=h k (by omega) hk;rw[a0q hk] at this;rw[this];simp
 have:Vp b=true↔(b.kids.all fun x=>x==b.kids.getD 0 0)=true:=by
  rw[e2,<-e];unfold Vp;cases G8 (a5V (a6l b) 1 (max 1 b.kids.length))<;>simp
 rw[Bool.eq_iff_iff];exact this
theorem afT {d:Dg}:G8 (pJ (cD0 d) d.ends.length)=true↔d.ends.Nodup:=by
 rw[Jb];have h1:∀ i,cD0 d i=false↔∀ j,j<i->d.ends.getD j V0≠d.ends.getD i V0:=fun i=>by
  have:G8 (pJ (cD1 d i) i)=true↔∀ j,j<i->d.ends.getD j V0≠d.ends.getD i V0:=by
   rw[Jb];simp[cD1]
  rw[<-this];unfold cD0;cases G8 (pJ (cD1 d i) i)<;>simp
 have hg:∀ j,(hj:j<d.ends.length)->d.ends.getD j V0=d.ends[j]:=fun j hj=>by simp[List.getD,List.getElem?_eq_getElem hj]
 constructor
 ·intro h;rw[List.nodup_iff_pairwise_ne,List.pairwise_iff_getElem];intro i j hi hj BN;have:=(h1 j).1 (h j hj) i BN
  rwa [hg i hi,hg j hj] at this
 intro h i hi;rw[h1];intro j hj;rw[List.nodup_iff_pairwise_ne,List.pairwise_iff_getElem] at h;have:=h j i (by omega) hi hj
 rwa [hg i hi,hg j (by omega)]
theorem afU {d:Dg}:G8 (pJ (cD2 d) d.nodes.length)=true↔(∀ i j,i<d.nodes.length->j<d.nodes.length->(D6 d i).var=(D6 d j).var->(D6 d i).kids=(D6 d j).kids->i=j)∧∀ i,i<d.nodes.length->((D6 d i).kids.all fun x=>x==(D6 d i).kids.getD 0 0)=false:=by
 rw[Jb];have h1:∀ i,cD2 d i=false↔Vp (D6 d i)=false∧∀ j,j<i->¬((D6 d j).var=(D6 d i).var∧(D6 d j).kids=(D6 d i).kids):=fun i=>by
  have h3:∀ j,cD3 d i j=false↔¬((D6 d j).var=(D6 d i).var∧(D6 d j).kids=(D6 d i).kids):=fun j=>by
   unfold cD3;by_cases hv:(D6 d j).var=(D6 d i).var
   ·rw[if_pos (by rw[beq_iff_eq];exact hv),decide_eq_false_iff_not];exact⟨fun a b=>a b.2,fun a b=>a ⟨hv,b⟩⟩
   rw[if_neg (by rw[beq_iff_eq];exact hv)];exact⟨fun _ a=>hv a.1,fun _=>rfl⟩
  have:G8 (pJ (cD3 d i) i)=true↔∀ j,j<i->¬((D6 d j).var=(D6 d i).var∧(D6 d j).kids=(D6 d i).kids):=by
   rw[Jb];exact forall_congr' fun j=>forall_congr' fun _=>h3 j
  rw[<-this];unfold cD2;cases Vp (D6 d i)
  ·cases G8 (pJ (cD3 d i) i)<;>simp
  simp
 constructor
 ·intro h;refine⟨fun i j hi hj hv hk=>?_,fun i hi=>by rw[<-a5p];exact ((h1 i).1 (h i hi)).1⟩;rcases Nat.lt_trichotomy i j with BN | BN | BN
  ·exact absurd ⟨hv,hk⟩ (((h1 j).1 (h j hj)).2 i BN)
  ·exact BN
  exact absurd ⟨hv.symm,hk.symm⟩ (((h1 i).1 (h i hi)).2 j BN)
 intro h i hi;rw[h1];refine⟨by rw[a5p];exact h.2 i hi,fun j hj hc=>?_⟩;have:=h.1 j i (by omega) hi hc.1 hc.2;omega
theorem aek {d:Dg}:(G8 (pJ (cD0 d) d.ends.length)=true∧G8 (pJ (cD2 d) d.nodes.length)=true)↔DgD d:=by
 rw[afT,afU];exact⟨fun h=>⟨h.1,h.2.1,h.2.2⟩,fun h=>⟨h.ends,h.nodes,h.flat⟩⟩
theorem a5q {l:List Int} {m:Nat}:EU l m=true↔l=a0L m:=by
 unfold EU;have e:G8 (pJ (aav l) l.length)=true↔∀ j,j<l.length->l.getD j 0=(j:Int):=by
  rw[Jb];simp[aav]
 constructor
 ·intro h;split at h
  ·rename_i h1;have hl:(l.length:Int)=(m:Int):=(by simpa using h);have hl:l.length=m:=(by omega);rw[a3E (d:=0) (by rw[xC,hl])];intro j hj;rw[e.1 h1 j hj];have:j<m:=(by omega);simp[a0L,List.getD,this]
  cases h
 rintro rfl;rw[if_pos (e.2 fun j hj=>by rw[xC] at hj;simp[a0L,List.getD,hj]),xC];simp
theorem acY {d:Dg}:KZ d=true↔DgD d∧srN d d.root=a0L d.nodes.length∧srE d d.root=a0L d.ends.length:=by
 rw[<-aek,<-a5q,<-a5q];unfold KZ;cases G8 (pJ (cD0 d) d.ends.length)
 ·simp
 cases G8 (pJ (cD2 d) d.nodes.length)
 ·simp
 cases EU (srN d d.root) (d.nodes.length:Int)<;>simp
open Go Tw Pv gq
theorem a8k {d:Dg}:a6G d cl0:=⟨List.nodup_nil,by simp,List.nodup_nil,by simp,List.nodup_nil,by simp⟩
abbrev acZ (b:Br):Bool:=b.kids.all fun x=>x==b.kids.getD 0 0
theorem abe {d:Dg}:∀ (F:Nat) (r:Int) (x:Cs),(∀ b∈x.n,acZ b=false)->∀ b∈(VD d F r x).2.n,acZ b=false
 | 0,_,_,h=>h
 | F+1,r,x,h=>by
  unfold VD;split
  ·exact h
  split
  ·exact h
  have hb:=(a3I (d:=d) (fun y=>∀ b∈y.n,acZ b=false) (F:=F) (r:=r) h (fun j y _ hy=>abe F _ y hy)).2;intro b hbm;simp only[Yn] at hbm;split at hbm
  ·exact hb b hbm
  rename_i hf;split at hbm
  ·exact hb b hbm
  rcases List.mem_append.1 hbm with hbm | hbm
  ·exact hb b hbm
  rw[List.mem_singleton.1 hbm];simpa using hf
theorem ac0 {d:Dg} (h:SL d) (e:Qh d=d):DgD d:=by
 have hc:=a5l h 6002 d.root cl0 a8k h.root;have hf:=abe (d:=d) 6002 d.root cl0 (by simp);have ee:(VD d 6002 d.root cl0).2.e=d.ends:=congrArg Dg.ends e;have en:(VD d 6002 d.root cl0).2.n=d.nodes:=congrArg Dg.nodes e;rw[en] at hf;have hg:∀ j,(hj:j<d.nodes.length)->D6 d j=d.nodes[j]:=fun j hj=>by simp[List.getD,List.getElem?_eq_getElem hj]
 refine⟨ee▸hc.e1,fun i j hi hj hv hk=>?_,fun i hi=>?_⟩
 ·have hn:(d.nodes.map kyB).Nodup:=en▸hc.n1;have:=(List.getElem_inj (i:=i) (j:=j) (h₀:=by simpa using hi) (h₁:=by simpa using hj) hn).1 (by
   rw[List.getElem_map,List.getElem_map,<-hg i hi,<-hg j hj];show a2H _ _=a2H _ _;rw[hv,hk])
  exact this
 have:=hf (D6 d i) (by rw[hg i hi];exact List.getElem_mem hi);exact this
theorem a5v {d:Dg} {n m:Nat} {x:Int} (hm:m<=2^61) (hx:W64 x) (hc:Cov (a0L n,a0L m) x):phi (a0L n,a0L m) x=x:=by
 have hid:∀ (n:Nat) (y:Int),y∈a0L n->(((a0L n).idxOf y:Nat):Int)=y:=fun n y hy=>by
  have hl:=List.idxOf_lt_length_iff.2 hy;have h1:=List.getElem_idxOf hl;rw[xC] at hl;simp only[a0L,List.getElem_map,List.getElem_range] at h1;exact h1
 unfold phi;by_cases c:x<0
 ·rw[if_pos c];have h1:=hid m _ (hc.1 c);have h2:BU x=-1-x:=a4x hx c;have h3:=aaW (hc.1 c);have h4:=h3.2;rw[show ((((a0L n,a0L m):List Int×List Int).2.idxOf (BU x):Nat):Int)=BU x from h1,h2,D5 (by omega) (by omega)];omega
 rw[if_neg c];exact hid n _ (hc.2 (by omega))
theorem a8T {α:Type} (l:List α) (f:Int->α) (h:∀ j,(hj:j<l.length)->f j=l[j]):(a0L l.length).map f=l:=by
 apply List.ext_getElem (by simp[a0L]);intro j h1 h2;simp[a0L,h j h2]
theorem abf {d:Dg} {j:Nat} (hj:j<d.ends.length):d.ends.getD ((j:Nat):Int).toNat V0=d.ends[j]:=by simp[List.getD,List.getElem?_eq_getElem hj]
theorem abg {l:List Int} {m:Nat} (hl:l.length=m) (h:∀ j,(hj:j<l.length)->l[j]=(j:Int)):l=a0L m:=by
 apply List.ext_getElem (by rw[xC,hl]);intro j h1 h2;rw[h j h1];simp[a0L]
theorem afV {d:Dg} (h:SL d) (hw:DgR d) (hd:DgD d) (he:d.ends.length<=2^61) {t:List Int×List Int} (ht:a6q d t) (hk:a3W d t) (hc:Cov t d.root):((KS d t).e=d.ends∧(KS d t).n=d.nodes∧phi t d.root=d.root)↔(t.1=a0L d.nodes.length∧t.2=a0L d.ends.length):=by
 have hW:∀ o,CO o d.nodes.length->∀ k∈(iG d o).kids,W64 k:=fun o ho k Cb=>by
  obtain⟨i,hi,rfl⟩:=List.mem_iff_getElem.1 Cb;have:=hw.kid o.toNat (by have:=ho.1;have:=ho.2;omega) i hi
  rwa [a0q hi] at this
 have hg:∀ j,(hj:j<d.nodes.length)->iG d (j:Nat)=d.nodes[j]:=fun j hj=>by simp[List.getD,List.getElem?_eq_getElem hj]
 constructor
 ·rintro⟨h1,h2,h3⟩;have l1:t.2.length=d.ends.length:=by have:=congrArg List.length h1;simpa[KS] using this
  have l2:t.1.length=d.nodes.length:=by have:=congrArg List.length h2;simpa[KS] using this
  have e2:t.2=a0L d.ends.length:=abg l1 fun j hj=>by
   have LD:j<d.ends.length:=(by omega);have:(KS d t).e[j]'(by rw[h1];exact LD)=d.ends[j]:=(by simp only[h1]);unfold KS at this;simp only[List.getElem_map] at this;rw[<-abf LD] at this;exact a8S hd.ends (ht.e2 _ (List.getElem_mem hj)) (bP LD) this
  have key:∀ (N:Nat) (o:Int),o∈t.1->o.toNat<N->phi t o=o:=by
   intro N
   induction N with
   | zero=>intro o _ hN;omega
   | succ N ih=>
    intro o ho hN;have ho2:=ht.n2 o ho;have aN:=List.idxOf_lt_length_iff.2 ho;have LD:t.1.idxOf o<d.nodes.length:=(by omega);have hel:=List.getElem_idxOf aN;have:(KS d t).n[t.1.idxOf o]'(by rw[h2];exact LD)=d.nodes[t.1.idxOf o]:=(by simp only[h2]);unfold KS at this;simp only[List.getElem_map,hel] at this;have hkm:(iG d o).kids.map (phi t)=(iG d o).kids:=by
     conv=>rhs;rw[<-List.map_id (iG d o).kids]
     apply List.map_congr_left;intro k Cb;show phi t k=k;have hcv:=hk o ho k Cb;by_cases c:k<0
     ·have:=a5v (d:=d) (n:=0) (m:=d.ends.length) he (hW o ho2 k Cb) ⟨fun c=>by have:=hcv.1 c;rwa [e2] at this,fun h0=>by omega⟩;unfold phi at this ⊢;rw[if_pos c] at this ⊢;rw[e2];exact this
     obtain⟨i,hi,rfl⟩:=List.mem_iff_getElem.1 Cb;have akm:o.toNat<d.nodes.length:=by have:=ho2.1;have:=ho2.2;omega
     have h9:=(h.kid o.toNat akm i hi).1;have h9:(iG d o).kids.getD i 0<(o.toNat:Int):=h9;rw[a0q hi] at h9;exact ih _ (hcv.2 (by omega)) (by omega)
    rw[hkm] at this;have hv:(D6 d (t.1.idxOf o)).var=(D6 d o.toNat).var:=(by rw[show D6 d (t.1.idxOf o)=d.nodes[t.1.idxOf o] from hg _ LD,<-this]);have qM:(D6 d (t.1.idxOf o)).kids=(D6 d o.toNat).kids:=(by rw[show D6 d (t.1.idxOf o)=d.nodes[t.1.idxOf o] from hg _ LD,<-this]);have h8:=hd.nodes _ _ LD (by have:=ho2.1;have:=ho2.2;omega) hv qM;unfold phi;rw[if_neg (by have:=ho2.1;omega),h8];have:=ho2.1;omega
  refine⟨abg l2 fun j hj=>?_,e2⟩;have hm:=List.getElem_mem hj;have:=key ((t.1[j]).toNat+1) _ hm (by omega);unfold phi at this;rw[if_neg (by have:=(ht.n2 _ hm).1;omega)] at this;rw[<-this];have:t.1.idxOf t.1[j]=j:=by
   have h5:=List.idxOf_lt_length_iff.2 hm;exact (List.getElem_inj (i:=t.1.idxOf t.1[j]) (j:=j) (h₀:=h5) (h₁:=hj) ht.n1).1 (List.getElem_idxOf h5)
  rw[this]
 rintro⟨h1,h2⟩;obtain⟨t1,t2⟩:=t;simp only at h1 h2;subst h1 h2;refine⟨?_,?_,a5v (d:=d) he hw.root hc⟩
 ·exact a8T d.ends (fun e=>d.ends.getD e.toNat V0) fun j hj=>abf hj
 refine a8T d.nodes _ fun j hj=>?_;have hkm:(iG d (j:Nat)).kids.map (phi (a0L d.nodes.length,a0L d.ends.length))=(iG d (j:Nat)).kids:=by
  conv=>rhs;rw[<-List.map_id (iG d (j:Nat)).kids]
  apply List.map_congr_left;intro k Cb;exact a5v (d:=d) he (hW _ (bP hj) k Cb) (hk _ (by show (j:Int)∈a0L _;unfold a0L;rw[List.mem_map];exact⟨j,List.mem_range.2 hj,rfl⟩) k Cb)
 rw[hkm,hg j hj]
theorem a7U {d:Dg} (h:SL d) (hw:DgR d) (he:d.ends.length<=2^61) (hn:d.nodes.length<=6000):Qh d=d↔KZ d=true:=by
 have main:DgD d->(Qh d=d↔(srN d d.root=a0L d.nodes.length∧srE d d.root=a0L d.ends.length)):=fun hd=>by
  have hr:d.root+1<6002:=by have:=h.root.1;omega
  have ha:=aeZ h hw hd he 6002 d.root ([],[]) hr sr0 (fun o ho=>by cases ho) h.root (by omega);have hs:=a4b h 6002 d.root ([],[]) sr0 h.root;have hi:=afV h hw hd he hs ha.kids ha.cov;have e0:KS d ([],[])=cl0:=rfl;have e1:=ha.eq;rw[e0] at e1;unfold srN srE;rw[<-hi];unfold Qh;rw[e1];obtain⟨d1,d2,d3,d4,d5⟩:=d;simp
 rw[acY];constructor
 ·intro e;have hd:=ac0 h e;exact⟨hd,(main hd).1 e⟩
 rintro⟨hd,h2⟩;exact (main hd).2 h2
open Go Tw Pv gq
noncomputable abbrev HCw (l:Lo) (x:Cs):List (PB bM):=[.list false false 3 l.s,.list false false 3 l.o,.map (kV.es (a1q x.e)),.map (kK.es (a1f x.n)),mkC l.s l.o 12 13 0,.gone,.gone,.cells l.ps,.cells [.ptr 4 0 9],.map (kI.es (a4o x.k)),.cells [.map 9],.cells [.fn 202 [] pC],lsV x.e,lsB x.n]
theorem ai4:Gd a6L:=ai2.ah3 6010 aeT fun n hn hO hOl l hp=>by
 obtain⟨n,rfl⟩:∃ k,n=k+6009:=⟨n-6009,by omega⟩;have h:ClP l:=hp _ (.head _);obtain⟨s,o,d⟩:=l;obtain⟨e1,e2,ht,he,hn6,hk,hsl,hol⟩:=h;obtain rfl:s=d.sizes:=e1;obtain rfl:o=d.order:=e2;have hO':∀ m,n+1<=m->Ok m _:=fun m hm=>hOl m (by omega);have he:d.ends.length+1<=aO:=he;have hn6:d.nodes.length<=6000:=hn6;have hr:=ht.root.1;have hr:d.root<(d.nodes.length:Int):=hr;have pK:=sCl (N:=n+1) hO' ht he (by unfold aO;omega) hk 6002 d.root cl0 (by omega) a8k ht.root (by omega);have dh:=aki (n:=n+6008) (hO' _ (by omega)) d.sizes d.order hsl hol;show Con _ _ _ _ _ (dA.put (Qh d)) _;unfold Qh;generalize VD d 6002 d.root cl0=z at pK ⊢;obtain⟨v,e,nd,k⟩:=z;exact dS hX (hO (n+6009) (by omega)) (by kernel_rfl) (.fr [] dh (.frR (H2:=HCw (loD d) ⟨e,nd,k⟩) [1,2,3,4,5,6,7,0,8,9,10,11] [7,8,10,11] pK .rr))
open Go Tw Pv gq
theorem abh {d:Dg} (h:SL d):∀ (F:Nat) (r:Int) (x:Cs),(∀ b∈x.n,b.kids.length<=12)->EW d r d.nodes.length->∀ b∈(VD d F r x).2.n,b.kids.length<=12
 | 0,_,_,hx,_=>hx
 | F+1,r,x,hx,hr=>by
  unfold VD;by_cases c:r<0
  ·rw[if_pos (by simpa using c)];exact hx
  rw[if_neg (by simpa using c)];split
  ·exact hx
  have aN:r.toNat<d.nodes.length:=by have:=hr.1;omega
  have hb:=a3I (d:=d) (fun y=>∀ b∈y.n,b.kids.length<=12) (F:=F) (r:=r) hx (fun j y hj hy=>abh h F _ y hy (by
   have h9:=h.kid r.toNat aN j hj;have h8:=h9.1;have h8:(iG d r).kids.getD j 0<(r.toNat:Int):=h8;exact⟨by have:=hr.1;omega,h9.2⟩))
  intro b hbm;simp only[Yn] at hbm;split at hbm
  ·exact hb.2 b hbm
  split at hbm
  ·exact hb.2 b hbm
  rcases List.mem_append.1 hbm with hbm | hbm
  ·exact hb.2 b hbm
  rw[List.mem_singleton.1 hbm];show List.length _<=12;rw[hb.1];exact h.aaA r.toNat aN
theorem a5w {d:Dg} (h:DgR d) (he:d.ends.length+1<=aO) (hs:d.sizes.length<=aO) (ho:d.order.length<=aO) (h0:(qC d).2=0):(qC d).1=loD d∧ClP (loD d):=by
 rw[a7P h (by omega)] at h0 ⊢;have h0:iE d=0:=h0;have hc:=wK ho (show d.ends.length<=aO by omega) (by simp[h0]);have hf:(jy d.sizes d.order != 0)=false:=by
  cases e:jy d.sizes d.order != 0
  ·rfl
  unfold iE at h0;rw[if_pos e] at h0;simp[h0] at e
 refine⟨by rw[if_neg (by rw[hf];simp)],rfl,rfl,hc.1,he,hc.2,fun i hi=>?_,hs,ho⟩;have h1:=hc.1.ksz i hi;have h2:=hc.1.var i hi;have h3:=(O8 hf).sz _ (KU (s:=d.sizes) (k:=(D6 d i).var.toNat) (by have:=h2.2;have:=h2.1;omega));have h1:((D6 d i).kids.length:Int)=d.sizes.getD (D6 d i).var.toNat 0:=h1;show 1<=(D6 d i).kids.length;omega
theorem a9G {d:Dg} (h:SL d) (hn:d.nodes.length<=6000):(Qh d).ends.length<=d.ends.length∧(Qh d).nodes.length<=6000∧∀ b∈(Qh d).nodes,b.kids.length<=12:=by
 have hc:=a5l h 6002 d.root cl0 a8k h.root;refine⟨hc.ahX,?_,abh h 6002 d.root cl0 (by simp) h.root⟩;have h1:=hc.aaA;have h2:=hc.n2;show (VD d 6002 d.root cl0).2.n.length<=6000;omega
theorem ac1 {d:Dg} (h:DgR d) (hs:d.sizes.length<=aO) (ho:d.order.length<=2^20) (he:d.ends.length+1<=aO) (h0:((qC d).2==0)=true):ClP (qC d).1∧(Qh (qC d).1.d).sizes.length<=aO∧(Qh (qC d).1.d).order.length<=aO∧(Qh (qC d).1.d).ends.length<=aO∧(Qh (qC d).1.d).nodes.length<=aO∧∀ k,k<(Qh (qC d).1.d).nodes.length->((Qh (qC d).1.d).nodes.getD k SK).kids.length<=aO:=by
 have ho:d.order.length<=aO:=by unfold aO;omega
 obtain⟨h1,h2⟩:=a5w h he hs ho (by simpa using h0);rw[h1];obtain⟨a,b,c⟩:=a9G h2.t h2.n;refine⟨h2,hs,ho,?_,?_,fun k hk=>?_⟩
 ·have a:(Qh d).ends.length<=d.ends.length:=a;show (Qh d).ends.length<=aO;omega
 ·have b:(Qh d).nodes.length<=6000:=b;show (Qh d).nodes.length<=aO;unfold aO;omega
 exact m12 (c _ (acJ hk))
theorem ai5:Gd a6M:=ai4.add fun n hO p hp=>dS hX hO (by kernel_rfl) (.o (hp _ (.tail _ (.head _))) (.o (hp _ (.tail _ (.tail _ (.head _)))) (.o (by have h9:p.ends.length+1<=aO:=hp _ (.tail _ (.tail _ (.tail _ (.head _))));show p.ends.length<=aO;omega) (.sh (fun h=>have q:=ac1 (hp _ (.head _)) (hp _ (.tail _ (.head _))) (hp _ (.tail _ (.tail _ (.head _)))) (hp _ (.tail _ (.tail _ (.tail _ (.head _))))) h;.o q.1 (.o q.2.1 (.o q.2.2.1 (.o q.2.2.2.1 (.o q.2.2.2.2.1 (.o q.2.2.2.2.2 (.ss .rr .rr))))))) fun _=>.rr))))
theorem a5x {d:Dg} (h:DgR d) (hs:d.sizes.length<=aO) (ho:d.order.length<=aO) (he:d.ends.length+1<=aO):oJ d=(if (jy d.sizes d.order != 0)=true then lo0 else loD d,a6t d):=by
 have h9:=a7P h (show d.ends.length<=aO by omega);unfold oJ a6t;by_cases h0:(qC d).2=0
 ·obtain⟨h1,h2⟩:=a5w h he hs ho h0;have h3:=a7U h2.t h (show d.ends.length<=2^61 by unfold aO at he;omega) h2.n;have h4:iE d=0:=by rw[h9] at h0;exact h0
  rw[if_pos (show ((qC d).2==0)=true by simpa using h0),h1,h4,if_neg (show ¬(((0:Int) != 0)=true) by simp)];rw[h9] at h1;show (if (!(a0O (Qh d) d))=true then (loD d,4) else qC d)=_;have h1:(if (jy d.sizes d.order != 0)=true then lo0 else loD d)=loD d:=h1;rw[h9,h1];by_cases h5:Qh d=d
  ·rw[if_neg (show ¬((!(a0O (Qh d) d))=true) by rw[ab8.2 h5];simp),if_neg (show ¬((!(KZ d))=true) by rw[h3.1 h5];simp),h4]
  have h6:a0O (Qh d) d=false:=by
   cases e:a0O (Qh d) d
   ·rfl
   exact absurd (ab8.1 e) h5
  have h7:KZ d=false:=by
   cases e:KZ d
   ·rfl
   exact absurd (h3.2 e) h5
  rw[if_pos (show (!(a0O (Qh d) d))=true by rw[h6];rfl),if_pos (show (!(KZ d))=true by rw[h7];rfl)]
 have h4:¬iE d=0:=by rw[h9] at h0;exact h0
 rw[if_neg (show ¬(((qC d).2==0)=true) by simpa using h0),h9,if_pos (show (iE d != 0)=true by simpa using h4)]
end Go.Proofs.YtjkgcifieggcpaaGreat
namespace gq
def a2V:List Int->List Int->List Int->List (List Int)
 | f::fs,t::ts,x::p=>(a2V fs ts p).map (x::·)++(List.range (t-x).toNat).flatMap fun (k:Nat)=>(a2V fs ts fs).map ((x+1+(k:Int))::·)
 | _,_,_=>[[]]
theorem a1r:∀ {f t p:List Int},LeB t p->LeB t f->a2V f t p=p::(match I7 f t p with | some q=>a2V f t q | none=>[])
 | [],[],[],_,_=>rfl
 | f::fs,t::ts,x::p,h,hf=>by
  have ih:=a1r h.2 hf.2;simp only[a2V,I7];rw[ih];cases hn:I7 fs ts p with
  | some q=>rfl
  | none=>
   by_cases e:x=t
   ·subst e;simp
   have hx:x<t:=by have:=h.1;omega
   obtain⟨m,hm⟩:∃ m,(t-x).toNat=m+1:=⟨(t-x).toNat-1,by omega⟩;rw[if_neg e,hm,List.range_succ_eq_map];simp only[List.map_cons,List.map_nil,List.cons_append,List.nil_append,List.flatMap_cons,List.flatMap_map];have e1:∀ k:Nat,x+1+((Nat.succ k:Nat):Int)=x+1+1+(k:Int):=fun k=>by rw[Nat.succ_eq_add_one];push_cast;omega
   show _=(x::p)::a2V (f::fs) (t::ts) ((x+1)::fs);simp only[a2V];rw[show (t-(x+1)).toNat=m by omega];simp only[e1];simp
 | [],_::_,_,_,hf=>hf.elim
 | _::_,[],_,_,hf=>hf.elim
 | [],[],_::_,h,_=>h.elim
 | _::_,_::_,[],h,_=>h.elim
theorem a5y:∀ {f t p:List Int} (a b x:Int),t.length=f.length->p.length=f.length->I7 (f++[a]) (t++[b]) (p++[x])=if x=b then (I7 f t p).map (·++[a]) else some (p++[x+1])
 | [],[],[],a,b,x,_,_=>by simp only[List.nil_append,I7];split<;>rfl
 | f::fs,t::ts,y::p,a,b,x,h1,h2=>by
  have ih:=a5y (f:=fs) (t:=ts) (p:=p) a b x (by simpa using h1) (by simpa using h2);simp only[List.cons_append,I7,ih];by_cases e:x=b
  ·rw[if_pos e,if_pos e];cases hn:I7 fs ts p with
   | some q=>rfl
   | none=>simp only[Option.map_none];split<;>rfl
  rw[if_neg e,if_neg e]
 | [],_::_,_,_,_,_,h,_=>by simp at h
 | [],[],_::_,_,_,_,_,h=>by simp at h
 | _::_,[],_,_,_,_,h,_=>by simp at h
 | _::_,_::_,[],_,_,_,_,h=>by simp at h
def abj (f t p:List Int):Option (List Int):=if (car f t p.length p).1=0 then none else some ((car f t p.length p).2.set ((car f t p.length p).1-1) ((car f t p.length p).2.getD ((car f t p.length p).1-1) 0+1))
theorem a8V:∀ (k:Nat) {f t p1 p2:List Int},t.length=f.length->p1.length=k->k<=f.length->(if (car f t k (p1++p2)).1=0 then none else some ((car f t k (p1++p2)).2.set ((car f t k (p1++p2)).1-1) ((car f t k (p1++p2)).2.getD ((car f t k (p1++p2)).1-1) 0+1)))=(I7 (f.take k) (t.take k) p1).map (·++p2)
 | 0,f,t,p1,p2,h1,h2,h3=>by
  rw[List.eq_nil_of_length_eq_zero h2];simp[car,I7]
 | k+1,f,t,p1,p2,h1,h2,h3=>by
  obtain⟨q,x,rfl⟩:∃ q x,p1=q++[x]:=by
   rcases List.eq_nil_or_concat p1 with rfl | ⟨q,x,e⟩
   ·cases h2
   exact⟨q,x,by simpa using e⟩
  have hq:q.length=k:=by simpa using h2
  have hf:f.take (k+1)=f.take k++[f.getD k 0]:=by rw[List.take_add_one,List.getElem?_eq_getElem (by omega)];simp[List.getD,List.getElem?_eq_getElem (show k<f.length by omega)]
  have ht:t.take (k+1)=t.take k++[t.getD k 0]:=by rw[List.take_add_one,List.getElem?_eq_getElem (by omega)];simp[List.getD,List.getElem?_eq_getElem (show k<t.length by omega)]
  have hg:(q++[x]++p2).getD k 0=x:=by simp[List.getD,<-hq]
  have hs:∀ y,(q++[x]++p2).set k y=q++(y::p2):=fun y=>by rw[List.append_assoc,<-hq,List.set_append_right _ _ (Nat.le_refl _)];simp
  rw[hf,ht,a5y _ _ _ (by simp;omega) (by simp;omega)];simp only[car,hg];by_cases e:x=t.getD k 0
  ·rw[if_pos e,if_pos e,hs,a8V k h1 hq (by omega),Option.map_map];congr 1
   funext r
   simp
  rw[if_neg e,if_neg e,if_neg (by omega)];simp only[Nat.add_sub_cancel,hg,hs,Option.map_some];simp
theorem a8W {f t p:List Int} (h1:t.length=f.length) (h2:p.length=f.length):abj f t p=I7 f t p:=by
 have:=a8V f.length (f:=f) (t:=t) (p1:=p) (p2:=[]) h1 h2 (Nat.le_refl _);unfold abj;rw[h2];rw[List.append_nil] at this;rw[this,List.take_length,List.take_of_length_le (by omega)];cases hn:I7 f t p with
 | none=>rfl
 | some q=>simp
theorem a5z:∀ {s:List Int},BQ s->a2V (s.map fun _=>0) (s.map (·-1)) (s.map fun _=>0)=(List.range (cnt s)).map fun (k:Nat)=>a2x s k
 | [],_=>rfl
 | a::s,h=>by
  have ih:=a5z h.tail;have ha:=h a (List.mem_cons_self ..);have hp:=qy h.tail;have hc:((cnt s:Nat):Int)=dD s:=by show ((dD s).toNat:Int)=_;omega
  obtain⟨m,hm⟩:∃ m:Nat,a=m+1:=⟨(a-1).toNat,by omega⟩;subst hm;have akn:cnt ((m+1:Int)::s)=(m+1)*cnt s:=by
   show ((m+1:Int)*dD s).toNat=_;rw[<-hc];have:((m:Int)+1)*((cnt s:Nat):Int)=(((m+1)*cnt s:Nat):Int):=by push_cast;rfl
   rw[this,Int.toNat_natCast]
  have oV:∀ k:Nat,k<m+1->(List.range (cnt s)).map (fun (j:Nat)=>a2x ((m+1:Int)::s) ((k*cnt s+j:Nat):Int))=((List.range (cnt s)).map fun (j:Nat)=>a2x s j).map ((k:Int)::·):=fun k hk=>by
   rw[List.map_map];apply List.map_congr_left;intro j hj;have hj:=List.mem_range.1 hj;simp only[a2x,Function.comp];have e1:(((k*cnt s+j:Nat):Int))=(k:Int)*dD s+j:=by rw[<-hc];push_cast;rfl
   have e2:((k:Int)*dD s+j)/dD s=k:=by
    rw[Int.add_comm,Int.add_mul_ediv_right _ _ (by omega),Int.ediv_eq_zero_of_lt (by omega) (by omega)];omega
   have e3:((k:Int)*dD s+j)%dD s=j:=by
    rw[Int.add_comm,Int.add_mul_emod_self_right,Int.emod_eq_of_lt (by omega) (by omega)]
   rw[e1,e2,Int.emod_eq_of_lt (by omega) (by omega),<-a1p _ h.tail,e3]
  have DR:∀ n:Nat,n<=m+1->(List.range (n*cnt s)).map (fun (j:Nat)=>a2x ((m+1:Int)::s) j)=(List.range n).flatMap fun (k:Nat)=>((List.range (cnt s)).map fun (j:Nat)=>a2x s j).map ((k:Int)::·):=by
   intro n
   induction n with
   | zero=>intro _;simp
   | succ n ih2=>
    intro hn;rw[Nat.succ_mul,List.range_add,List.map_append,ih2 (by omega),List.range_succ,List.flatMap_append];rw[List.flatMap_cons,List.flatMap_nil,List.append_nil,<-oV n (by omega),List.map_map];rfl
  rw[akn,DR (m+1) (Nat.le_refl _),List.range_succ_eq_map];simp only[List.map_cons,a2V,ih,List.flatMap_cons,List.flatMap_map];rw[show ((m:Int)+1-1-0).toNat=m by omega];congr 1;congr 1
  funext k
  congr 1
  funext r
  congr 1;omega
end gq
namespace Pv
open Go Tw
def a1d:Code->Option (Code×Code)
 | .seq a b=>match a1d a with
  | some r=>some r
  | none=>a1d b
 | .cond _ a b=>match a1d a with
  | some r=>some r
  | none=>a1d b
 | .block _ b=>a1d b
 | .loop b=>a1d b
 | .rangeFunc _ _ a b=>some (a,b)
 | _=>none
def a0D (P:Program) (f:Nat):Code:=
 match FU P f with
 | some t=>match a1d t.body with
  | some (a,_)=>a
  | none=>.skip
 | none=>.skip
def a2q (P:Program) (f:Nat):Code:=
 match FU P f with
 | some t=>match a1d t.body with
  | some (_,b)=>b
  | none=>.skip
 | none=>.skip
end Pv
namespace Go.Proofs.YtjkgcifieggcpaaGreat
open Go Tw Pv gq
theorem ai6:Gd a6N:=ai5.add fun n hO p hp=>dS hX hO (by kernel_rfl) .rr
abbrev ael (l:Lo) (p:List Int) (r:Int) (x:List (Nat×PE bM)):aW bM:=⟨[(1,xL 3 p),(2,.val (.fn 241 [] [])),(3,.loc 0 0),(7,xi r)]++x,[l.ps],[]⟩
theorem ako {n:Nat} (hO:Ok n a6N) {l:Lo} (h:SL l.d) (hm:l.d.nodes.length<=6000) {p:List Int} (hp:Ah l.d.sizes p=true):Lp n 240 0 (ael l p l.d.root []) (.exit 0) (ael l p (atR l.d p) [(12,xl false)]):=by
 have h0:l.d.root<(l.d.nodes.length:Int):=h.root.1;have ha:=a4w h hp 6001 l.d.root (by omega) h.root;have JM:=acE 6001 l.d.root ha.1;refine acz (st:=fun r=>ael l p r []) (g:=gAt l.d p) (out:=fun r=>(.exit 0,ael l p r [(12,xl false)])) (fun r=>EW l.d r l.d.nodes.length) JM (by kernel_rfl) (by decide) h.root ?_ ?_
 ·intro r r1 hr e;unfold gAt at e;split at e
  ·rename_i c;have c:0<=r:=(by simpa using c);cases e;have:=(Vu h hp (r:=r) ⟨c,hr.1⟩).2.2;have a3:r<(l.d.nodes.length:Int):=hr.1;obtain⟨a1,a2⟩:=this;exact⟨by omega,a2⟩
  cases e
 intro r m r' hr ih;by_cases c:0<=r
 ·have hk:=Vu h hp (r:=r) ⟨c,hr.1⟩;have t1:decide (r>=0)=true:=by simpa using c
  have e:gAt l.d p r=.inl ((iG l.d r).kids.getD (p.getD (iG l.d r).var.toNat 0).toNat 0):=by unfold gAt;rw[if_pos t1]
  have g:=ih _ e;rw[e];have hr2:CO r l.d.nodes.length:=⟨c,hr.1⟩;exact round hX hO (by kernel_rfl) (.b t1 (.o hr2 (.o hr2 (.o hk.1 (.o hk.2.1 (.go g))))))
 have t1:decide (r>=0)=false:=by simpa using c
 have e:gAt l.d p r=.inr r:=by unfold gAt;rw[if_neg (by rw[t1];simp)]
 rw[e];dsimp only[a3u];exact round hX hO (by kernel_rfl) (.b t1 .ex)
theorem ai7:Gd a6O:=ai6.add fun n hO p hp=>dS hX hO (by kernel_rfl) (.w (ako hO (hp _ (.head _)) (hp _ (.tail _ (.head _))) (hp _ (.tail _ (.tail _ (.head _))))) .rr)
abbrev fPl (d:Dg):PV bM:=.fn 239 [.agg [.bK 3 d.sizes false,.bK 3 d.order false]] []
abbrev ad1 (d:Dg):List (Nat×PE bM):=[(1,.val (.ptr 0 0 7)),(2,.val (.ptr 1 0 1)),(7,.val (fPl d))]
noncomputable abbrev LRL (d:Dg) (rd:Bool) (gK:Option Code):PB bM:=.loop rd 206 (ntP Tryz.prog 206) (ad1 d) [8,9] (a0D Tryz.prog 206) (a2q Tryz.prog 206) gK
noncomputable abbrev ML (d:Dg) (rd:Bool) (acc:List V):List (PB bM):=[.cells (loD d).ps,.cells [.own 2],lsV acc,.mark,LRL d rd none]
noncomputable abbrev ML' (d:Dg) (p:List Int) (acc:List V):List (PB bM):=[.cells (loD d).ps,.cells [.own 6],.gone,.mark,LRL d true none,oI true true p,lsV acc]
theorem yL {n:Nat} (hO:Ok n a6O) {d:Dg} (h:SL d) (hm:d.nodes.length<=6000) {p:List Int} (hp:Ah d.sizes p=true) (k:Int) (acc:List V) (hl:acc.length+1<=aO):qH X0 Tryz.prog (ApN (n+1)) (.jk 4) [.int .i64 k,.own 5] (ML d true acc++[oI true true p]) (.bool true) (ML' d p (acc++[a6v d p])):=by
 have q1:iq X0 Tryz.prog T (ApN n) LL 206 true (ntP Tryz.prog 206) 6 (a0D Tryz.prog 206) ⟨a0o (ad1 d) [8,9] [.int .i64 k,.own 5],[],ML d true acc++[oI true true p]⟩ .norm ⟨[(1,.val (.ptr 0 0 7)),(2,.val (.ptr 1 0 1)),(4,.val (.own 5))],[],ML d true acc++[oI true true p]⟩:=a1c hX hO (by kernel_rfl) .xx;have he:CO (BU (atR d p)) d.ends.length:=aaF h hm hp;have hL:acc.length+([a6v d p]:List V).length<=aO:=hl;have q2:iq X0 Tryz.prog T (ApN n) LL 206 true (ntP Tryz.prog 206) 6 (a2q Tryz.prog 206) ⟨[(1,.val (.ptr 0 0 7)),(2,.val (.ptr 1 0 1)),(4,.val (.own 5))],[],ML d false acc++[oI true true p]⟩ .norm ⟨[],[],[.cells (loD d).ps,.cells [.own 7],.gone,.mark,LRL d false none,oI true true p,.list true true 79 [a6v d p],lsV (acc++[a6v d p])]⟩:=a1c hX hO (by kernel_rfl) (.o h (.o hm (.o hp (.o he (.o hL .xx)))));exact qH.gs hX (a4q hX (l:=4) rfl rfl (by kernel_rfl) q1 rfl q2 rfl) [.gc [7]] rfl
noncomputable abbrev wPl (d:Dg) (num:Int) (p:List Int) (acc:List V) (x:List (Nat×PE bM)):aW bM:=⟨[(1,.val (.jk 4)),(2,.loc 0 0),(4,.val (.own 5)),(5,xi num)]++x,[[.bK 3 d.sizes false,.bK 3 d.order false]],ML' d p acc⟩
def a5C (s:List Int) (x:Int×List Int):(Int×List Int)⊕(Int×List Int):=if decide (x.1>=0)=true then (if (x.2.getD x.1.toNat 0==IntKind.i64.wrap (s.getD x.1.toNat 0-1))=true then .inl (IntKind.i64.wrap (x.1-1),x.2.set x.1.toNat 0) else .inr x) else .inr x
theorem aem {s:List Int} (hs:BQ s) {k:Nat} (hk:k<s.length):IntKind.i64.wrap (s.getD k 0-1)=(esI s).getD k 0:=by
 have h1:=hs _ (KU hk);rw[D5 (by omega) (by omega)];simp[List.getD,List.getElem?_eq_getElem hk]
theorem a8X {s:List Int} {k:Nat}:(zsI s).getD k 0=0:=by
 simp only[List.getD,List.getElem?_map];cases s[k]?<;>rfl
theorem ai9 {k:Nat} (hk:k<=6):IntKind.i64.wrap (((k+1:Nat):Int)-1-1)=(k:Int)-1:=by rw[D5 (by omega) (by omega)];omega
theorem ad2 {s:List Int} (hs:BQ s) (hl:s.length<=6):∀ (k:Nat) (p:List Int),k<=s.length->itF (a5C s) (k+1) ((k:Int)-1,p)=some (((car (zsI s) (esI s) k p).1:Int)-1,(car (zsI s) (esI s) k p).2)
 | 0,p,_=>by
  simp only[itF,a5C,car];rw[if_neg (by simp)]
 | k+1,p,h=>by
  rw[itF];simp only[a5C,car];have hk:(((k+1:Nat):Int)-1).toNat=k:=by omega
  rw[if_pos (decide_eq_true (by omega)),hk,aem hs (by omega),ai9 (by omega)];by_cases e:p.getD k 0=(esI s).getD k 0
  ·rw[if_pos (by simpa using e),if_pos e,a8X];exact ad2 hs hl k _ (by omega)
  rw[if_neg (by simpa using e),if_neg e]
theorem akp {n:Nat} (hO:Ok n a6O) {d:Dg} (hf:nJ d.sizes) (num:Int) {p:List Int} (hp:p.length=d.sizes.length) (acc:List V):iq X0 Tryz.prog T (ApN n) LL 239 false (ntP Tryz.prog 239) 5 (.loop (a5T Tryz.prog 239 1)) (wPl d num p acc [(6,xi ((p.length:Int)-1))]) (.exit 2) (wPl d num (car (zsI d.sizes) (esI d.sizes) p.length p).2 acc [(6,xi (((car (zsI d.sizes) (esI d.sizes) p.length p).1:Int)-1)),(35,xl false)]):=by
 have JM:=ad2 hf.sz hf.len p.length p (by omega);refine a4J (X:=X0) (P:=Tryz.prog) (T:=T) (st:=fun x=>wPl d num x.2 acc [(6,xi x.1)]) (g:=a5C d.sizes) (s:=((p.length:Int)-1,p)) (out:=fun x=>(.exit 2,wPl d num x.2 acc [(6,xi x.1),(35,xl false)])) (fun x=>x.2.length=d.sizes.length∧x.1<d.sizes.length) JM (by kernel_rfl) (show p.length+1<=LL by have:=hf.len;have:=LLm;unfold aO at this;omega) ⟨hp,by show (p.length:Int)-1<_;omega⟩ ?_ ?_
 ·rintro⟨x,q⟩ ⟨y,r⟩ ⟨h1,h2⟩ e;unfold a5C at e;split at e
  ·rename_i c;split at e
   ·cases e;have c:x>=0:=(by simpa using c);have h2:x<(d.sizes.length:Int):=h2;have:=hf.len;refine⟨by simpa using h1,?_⟩;show IntKind.i64.wrap (x-1)<_;rw[D5 (by omega) (by omega)];omega
   cases e
  cases e
 rintro⟨x,q⟩ m r' ⟨h1,h2⟩ ih;by_cases c:x>=0
 ·have t1:decide (x>=0)=true:=by simpa using c
  have i1:CO x q.length:=⟨c,by show x<_;rw[h1];exact h2⟩;have i2:CO x d.sizes.length:=⟨c,h2⟩;cases t2:q.getD x.toNat 0==IntKind.i64.wrap (d.sizes.getD x.toNat 0-1)
  ·have e:a5C d.sizes (x,q)=.inr (x,q):=by unfold a5C;rw[if_pos t1,if_neg (by simp only[];rw[t2];simp)]
   rw[e];dsimp only[a3u];exact round hX hO (by kernel_rfl) (.b t1 (.o i1 (.o i2 (.b t2 .ex))))
  have e:a5C d.sizes (x,q)=.inl (IntKind.i64.wrap (x-1),q.set x.toNat 0):=by unfold a5C;rw[if_pos t1,if_pos t2]
  have g:=ih _ e;rw[e];exact round hX hO (by kernel_rfl) (.b t1 (.o i1 (.o i2 (.b t2 (.o i1 (.go g))))))
 have t1:decide (x>=0)=false:=by simpa using c
 have e:a5C d.sizes (x,q)=.inr (x,q):=by unfold a5C;rw[if_neg (by simp only[];rw[t1];simp)]
 rw[e];dsimp only[a3u];exact round hX hO (by kernel_rfl) (.b t1 .ex)
structure Pf where
 num:Int
 last:Int
 p:List Int
 acc:List V
def gPl (d:Dg) (x:Int×List Int×List V):(Int×List Int×List V)⊕Pf:=if decide ((((cr d.sizes x.2.1).1:Nat):Int)-1<0)=true then .inr ⟨x.1,(((cr d.sizes x.2.1).1:Nat):Int)-1,(cr d.sizes x.2.1).2,x.2.2++[a6v d x.2.1]⟩
 else .inl (IntKind.i64.wrap (x.1+1),(cr d.sizes x.2.1).2.set ((((cr d.sizes x.2.1).1:Nat):Int)-1).toNat (IntKind.i64.wrap ((cr d.sizes x.2.1).2.getD ((((cr d.sizes x.2.1).1:Nat):Int)-1).toNat 0+1)),x.2.2++[a6v d x.2.1])
theorem a8l {f t:List Int}:∀ (k:Nat) (p:List Int),(car f t k p).1<=k∧(car f t k p).2.length=p.length
 | 0,p=>⟨Nat.le_refl _,rfl⟩
 | k+1,p=>by
  simp only[car];split
  ·have:=a8l (f:=f) (t:=t) k (p.set k (f.getD k 0));exact⟨by omega,by simpa using this.2⟩
  exact⟨Nat.le_refl _,rfl⟩
theorem a8m {s:List Int} (hs:BQ s):∀ (k:Nat) (p:List Int),Ah s p=true->Ah s (car (zsI s) (esI s) k p).2=true
 | 0,p,h=>h
 | k+1,p,h=>by
  simp only[car];split
  ·rw[a8X];rcases Nat.lt_or_ge k s.length with hk | hk
   ·have h1:=hs _ (KU hk);exact a8m hs k _ (a3F (ch:=(k:Int)) h (bP hk) ⟨by omega,by rw[Int.toNat_natCast];omega⟩)
   have hp:=a0f h;rw[List.set_eq_of_length_le (by omega)];exact a8m hs k _ h
  exact h
theorem a14:∀ {s p:List Int},Ah s p=true->LeB (esI s) p
 | [],[],_=>trivial
 | a::s,x::p,h=>by
  simp only[Ah,Bool.and_eq_true,decide_eq_true_eq] at h;exact⟨by show x<=a-1;omega,a14 h.2⟩
 | [],_::_,h=>by simp[Ah] at h
 | _::_,[],h=>by simp[Ah] at h
theorem a1e:∀ {s:List Int},BQ s->Ah s (zsI s)=true
 | [],_=>rfl
 | a::s,h=>by
  have:=h a (List.mem_cons_self ..);simp only[zsI,List.map_cons,Ah,Bool.and_eq_true,decide_eq_true_eq];exact⟨by omega,a1e h.tail⟩
theorem ad3 {d:Dg} (hf:nJ d.sizes) {p:List Int} (hp:Ah d.sizes p=true) (num:Int) (acc:List V):match I7 (zsI d.sizes) (esI d.sizes) p with
  | none=>∃ y:Pf,y.acc=acc++[a6v d p]∧gPl d (num,p,acc)=.inr y
  | some q=>Ah d.sizes q=true∧gPl d (num,p,acc)=.inl (IntKind.i64.wrap (num+1),q,acc++[a6v d p]):=by
 have hl:=a0f hp;have hc:=a8l (f:=zsI d.sizes) (t:=esI d.sizes) p.length p;have hd:=a8m hf.sz p.length p hp;rw[<-a8W (by simp) (by simpa using hl)];unfold abj;by_cases c:(car (zsI d.sizes) (esI d.sizes) p.length p).1=0
 ·rw[if_pos c];refine⟨⟨num,(((cr d.sizes p).1:Nat):Int)-1,(cr d.sizes p).2,acc++[a6v d p]⟩,rfl,?_⟩;unfold gPl;rw[if_pos (decide_eq_true (by show (((car (zsI d.sizes) (esI d.sizes) p.length p).1:Nat):Int)-1<0;omega))]
 ·rw[if_neg c];have hk:(car (zsI d.sizes) (esI d.sizes) p.length p).1-1<d.sizes.length:=by omega
  have e1:((((car (zsI d.sizes) (esI d.sizes) p.length p).1:Nat):Int)-1).toNat=(car (zsI d.sizes) (esI d.sizes) p.length p).1-1:=by omega
  have hz:=hf.sz _ (KU hk);have hdg:=(KT.1 hd).2 _ hk;have e2:IntKind.i64.wrap ((car (zsI d.sizes) (esI d.sizes) p.length p).2.getD ((car (zsI d.sizes) (esI d.sizes) p.length p).1-1) 0+1)=(car (zsI d.sizes) (esI d.sizes) p.length p).2.getD ((car (zsI d.sizes) (esI d.sizes) p.length p).1-1) 0+1:=D5 (by omega) (by omega);have hg:gPl d (num,p,acc)=.inl (IntKind.i64.wrap (num+1),(car (zsI d.sizes) (esI d.sizes) p.length p).2.set ((car (zsI d.sizes) (esI d.sizes) p.length p).1-1) ((car (zsI d.sizes) (esI d.sizes) p.length p).2.getD ((car (zsI d.sizes) (esI d.sizes) p.length p).1-1) 0+1),acc++[a6v d p]):=by
   unfold gPl;rw[if_neg (by rw[decide_eq_true_eq];show ¬((((car (zsI d.sizes) (esI d.sizes) p.length p).1:Nat):Int)-1<0);omega)];simp only[cr,e1,e2]
  refine⟨?_,hg⟩;have pK:(car (zsI d.sizes) (esI d.sizes) p.length p).2.length=d.sizes.length:=by rw[hc.2,hl]
  have hn:I7 (zsI d.sizes) (esI d.sizes) p=some ((car (zsI d.sizes) (esI d.sizes) p.length p).2.set ((car (zsI d.sizes) (esI d.sizes) p.length p).1-1) ((car (zsI d.sizes) (esI d.sizes) p.length p).2.getD ((car (zsI d.sizes) (esI d.sizes) p.length p).1-1) 0+1)):=by
   rw[<-a8W (by simp) (by simpa using hl)];unfold abj;rw[if_neg c]
  have hle:=(a14 hp).next (a14 (a1e hf.sz)) hn;refine KT.2 ⟨by simpa using pK,fun j hj=>?_⟩;have hj1:=(KT.1 hd).2 j hj;have LD:∀ {t q:List Int},LeB t q->∀ j,j<t.length->q.getD j 0<=t.getD j 0:=by
   intro t
   induction t with
   | nil=>intro q _ j h;simp at h
   | cons a t ih=>
    intro q h j hj;cases q with
    | nil=>exact h.elim
    | cons x q=>
     cases j with
     | zero=>exact h.1
     | succ j=>exact ih h.2 j (by simpa using hj)
  have h9:=LD hle j (by simpa using hj);have h8:(esI d.sizes).getD j 0=d.sizes.getD j 0-1:=by simp[List.getD,List.getElem?_eq_getElem hj]
  refine⟨?_,by omega⟩;rw[DY (by omega)];split
  ·omega
  ·exact hj1.1
theorem af2 {d:Dg} (hf:nJ d.sizes):∀ (m:Nat) (p:List Int) (num:Int) (acc:List V),Ah d.sizes p=true->(a2V (zsI d.sizes) (esI d.sizes) p).length<=m->∃ y:Pf,y.acc=acc++(a2V (zsI d.sizes) (esI d.sizes) p).map (a6v d)∧itF (gPl d) m (num,p,acc)=some y
 | 0,p,num,acc,hp,hm=>by
  rw[a1r (a14 hp) (a14 (a1e hf.sz))] at hm;simp at hm
 | m+1,p,num,acc,hp,hm=>by
  have hb:=a1r (a14 hp) (a14 (a1e hf.sz));have hg:=ad3 hf hp num acc;cases hn:I7 (zsI d.sizes) (esI d.sizes) p with
  | none=>
   rw[hn] at hb hg;obtain⟨y,h1,h2⟩:=hg;refine⟨y,by rw[hb,h1];rfl,by rw[itF,h2]⟩
  | some q=>
   rw[hn] at hb hg;obtain⟨h1,h2⟩:=hg;rw[hb] at hm ⊢;obtain⟨y,h3,h4⟩:=af2 hf m q (IntKind.i64.wrap (num+1)) (acc++[a6v d p]) h1 (by simpa using hm);refine⟨y,by rw[h3];simp,by rw[itF,h2];exact h4⟩
noncomputable abbrev oPl (d:Dg) (y:Pf):Ex×aW bM:=(.ret,⟨[(1,.val (.jk 4)),(2,.loc 0 0),(4,.val (.own 5)),(5,xi y.num),(6,xi y.last),(42,xl true)],[[.bK 3 d.sizes false,.bK 3 d.order false]],ML' d y.p y.acc⟩)
theorem lPl {n:Nat} (hO:∀ m,n<=m->Ok m a6O) {d:Dg} (h:SL d) (hm:d.nodes.length<=6000) (y:Pf) (JM:itF (gPl d) (cnt d.sizes) (0,zsI d.sizes,[])=some y) (hb:(a2V (zsI d.sizes) (esI d.sizes) (zsI d.sizes)).length<=cnt d.sizes):iq X0 Tryz.prog T (ApN (n+1)) LL 239 false (ntP Tryz.prog 239) 5 (.loop (a5T Tryz.prog 239 0)) (wPl d 0 (zsI d.sizes) [] []) (oPl d y).1 (oPl d y).2:=by
 have hf:=h.vW;refine a4J (X:=X0) (P:=Tryz.prog) (T:=T) (st:=fun x=>wPl d x.1 x.2.1 x.2.2 []) (g:=gPl d) (s:=(0,zsI d.sizes,[])) (out:=oPl d) (fun x=>Ah d.sizes x.2.1=true∧x.2.2.length+(a2V (zsI d.sizes) (esI d.sizes) x.2.1).length<=cnt d.sizes) JM (by kernel_rfl) (show cnt d.sizes<=LL by have:=hf.a4S;have:=LLm;omega) ⟨a1e hf.sz,by simpa using hb⟩ ?_ ?_
 ·rintro⟨num,p,acc⟩ ⟨amK,q,amL⟩ ⟨h1,h2⟩ e;have h1:Ah d.sizes p=true:=h1;have h2:acc.length+(a2V (zsI d.sizes) (esI d.sizes) p).length<=cnt d.sizes:=h2;have hg:=ad3 hf h1 num acc;rw[a1r (a14 h1) (a14 (a1e hf.sz))] at h2;cases hn:I7 (zsI d.sizes) (esI d.sizes) p with
  | none=>rw[hn] at hg;obtain⟨y,_,e2⟩:=hg;rw[e2] at e;cases e
  | some r=>
   rw[hn] at hg h2;obtain⟨g1,g2⟩:=hg;rw[g2] at e;cases e;exact⟨g1,by simp at h2 ⊢;omega⟩
 rintro⟨num,p,acc⟩ m r ⟨h1,h2⟩ ih;have h1:Ah d.sizes p=true:=h1;have h2:acc.length+(a2V (zsI d.sizes) (esI d.sizes) p).length<=cnt d.sizes:=h2;rw[a1r (a14 h1) (a14 (a1e hf.sz))] at h2;simp only[List.length_cons] at h2;have SH:=hf.a4S;have hp:=a0f h1;have hy:=yL (hO n (Nat.le_refl _)) h hm h1 num acc (by omega);have hl:=akp (hO (n+1) (by omega)) hf num hp (acc++[a6v d p]);rw[show (p.length:Int)-1=IntKind.i64.wrap ((p.length:Int)-1) by rw[D5 (by omega) (by have:=hf.len;omega)]] at hl;have hc:=a8l (f:=zsI d.sizes) (t:=esI d.sizes) p.length p;have hgz:∀ z:Nat×List Int,car (zsI d.sizes) (esI d.sizes) p.length p=z->gPl d (num,p,acc)=(if decide (((z.1:Nat):Int)-1<0)=true then .inr ⟨num,((z.1:Nat):Int)-1,z.2,acc++[a6v d p]⟩ else .inl (IntKind.i64.wrap (num+1),z.2.set (((z.1:Nat):Int)-1).toNat (IntKind.i64.wrap (z.2.getD (((z.1:Nat):Int)-1).toNat 0+1)),acc++[a6v d p])):=by rintro _ rfl;rfl
 obtain⟨z,hz⟩:∃ z,car (zsI d.sizes) (esI d.sizes) p.length p=z:=⟨_,rfl⟩;have hg:=hgz z hz;rw[hz] at hl hc;obtain⟨k,q⟩:=z;have hc:k<=p.length∧q.length=p.length:=hc;have hg:gPl d (num,p,acc)=(if decide ((k:Int)-1<0)=true then .inr ⟨num,(k:Int)-1,q,acc++[a6v d p]⟩ else .inl (IntKind.i64.wrap (num+1),q.set ((k:Int)-1).toNat (IntKind.i64.wrap (q.getD ((k:Int)-1).toNat 0+1)),acc++[a6v d p])):=hg;cases t:decide (((k:Nat):Int)-1<0)
 ·have t':¬(((k:Nat):Int)-1<0):=by simpa using t
  rw[if_neg (by rw[t];simp)] at hg;have hi:CO ((k:Int)-1) q.length:=⟨by omega,by omega⟩;have g:=ih _ hg;rw[hg];exact round hX (hO (n+1) (by omega)) (by kernel_rfl) (.fr [0,1,6,3,4,5] hy (.b (rfl:(!true)=false) (.wG [.gc [5,7]] hl (.b t (.o hi (.o hi (.go g)))))))
 rw[if_pos t] at hg;rw[hg];exact round hX (hO (n+1) (by omega)) (by kernel_rfl) (.fr [0,1,6,3,4,5] hy (.b (rfl:(!true)=false) (.wG [.gc [5,7]] hl (.b t .re))))
theorem sPl {n:Nat} (hO:∀ m,n<=m->Ok m a6O) {d:Dg} (h:SL d) (hm:d.nodes.length<=6000):∃ p,qH X0 Tryz.prog (ApN (n+2)) (fPl d) [.jk 4] (ML d true []) (.bH []) (ML' d p ((List.range (cnt d.sizes)).map fun (k:Nat)=>a6v d (a2x d.sizes k))):=by
 have hf:=h.vW;have DR:=a5z hf.sz;have hb:(a2V (zsI d.sizes) (esI d.sizes) (zsI d.sizes)).length=cnt d.sizes:=by rw[DR];simp
 obtain⟨y,h1,h2⟩:=af2 hf (cnt d.sizes) (zsI d.sizes) 0 [] (a1e hf.sz) (by omega);have hl:=lPl hO h hm y h2 (by omega);rw[DR,List.map_map,List.nil_append] at h1;have h1:y.acc=(List.range (cnt d.sizes)).map fun (k:Nat)=>a6v d (a2x d.sizes k):=h1;rw[<-h1];refine⟨y.p,?_⟩;have e0:zsI d.sizes=List.replicate ((d.sizes.length:Nat):Int).toNat 0:=by rw[Int.toNat_natCast];exact List.map_const' ..
 rw[e0] at hl;have hs:(d.sizes.length:Int)<=(aO:Int):=by have:=hf.aa5;omega
 exact a2w hX (hO (n+1) (by omega)) (first:=[.agg [.bK 3 d.sizes false,.bK 3 d.order false]]) (cap:=[]) (by kernel_rfl) (.o (rfl:(d.sizes.length:Int)=(d.sizes.length:Int)) (.o (show (0:Int)<=(d.sizes.length:Int) by omega) (.o hs (.wG [.mv 2,.gc [5,6]] hl .er))))
theorem aia:Gd a6P:=ai7.deep 3 fun n hn hO l hp=>by
 obtain⟨n,rfl⟩:∃ k,n=k+2:=⟨n-2,by omega⟩;have h:LsP l:=hp _ (.head _);obtain⟨s,o,d⟩:=l;obtain⟨e1,e2,ht,hm⟩:=h;obtain rfl:s=d.sizes:=e1;obtain rfl:o=d.order:=e2;obtain⟨p,hs⟩:=sPl (n:=n) (fun m hm=>hO m (by omega)) ht hm;show Con _ _ _ _ _ (vsA.put (cellsD d)) _;unfold cellsD;generalize (List.range (cnt d.sizes)).map (fun (k:Nat)=>a6v d (a2x d.sizes k))=acc at hs ⊢;have hr:iq X0 Tryz.prog T (ApN (n+2)) LL 206 false (ntP Tryz.prog 206) 0 (.rangeFunc (.tmp 7) #[8,9] (a0D Tryz.prog 206) (a2q Tryz.prog 206)) ⟨ad1 d,[],[.cells (loD d).ps,.cells [.own 2],lsV []]⟩ .norm ⟨ad1 d,[],(ML' d p acc).set 4 (LRL d false (some .skip))⟩:=aad hX (ps:=⟨ad1 d,[],[.cells (loD d).ps,.cells [.own 2],lsV []]⟩) rfl rfl hs rfl rfl;exact dS hX (hO (n+2) (by omega)) (by kernel_rfl) (.wG [.a5g 1 0 79] hr .rr)
theorem ad4 {d:Dg} (h:DgR d) (hs:d.sizes.length<=aO) (ho:d.order.length<=aO) (he:d.ends.length+1<=aO) (h0:((oJ d).2 != 0)=false):LsP (oJ d).1:=by
 rw[a5x h hs ho he] at h0 ⊢;have h0:a6t d=0:=by simpa using h0
 unfold a6t at h0;split at h0
 ·rename_i h1;simp[h0] at h1
 rename_i h1;have hc:=wK ho (show d.ends.length<=aO by omega) (by simpa using h1);have hf:(jy d.sizes d.order != 0)=false:=by
  cases e:jy d.sizes d.order != 0
  ·rfl
  unfold iE at h1;rw[if_pos e] at h1;exact absurd e h1
 refine⟨?_,?_,?_,?_⟩<;>simp only[hf]<;>first | rfl | exact hc.1 | exact hc.2
theorem aib:Gd a6Q:=aia.add fun n hO p hp=>dS hX hO (by kernel_rfl) (.o (hp _ (.head _)) (.o (hp _ (.tail _ (.head _))) (.o (hp _ (.tail _ (.tail _ (.head _)))) (.o (hp _ (.tail _ (.tail _ (.tail _ (.head _))))) (.sh (fun _=>.rn (.bH [.nil .slc,.int .i64 (oJ p).2]) rfl) fun h=>.o (ad4 (hp _ (.head _)) (hp _ (.tail _ (.head _))) (by have h9:p.order.length<=2^20:=hp _ (.tail _ (.tail _ (.head _)));unfold aO;omega) (hp _ (.tail _ (.tail _ (.tail _ (.head _))))) h) .rr)))))
theorem ad5 {d:Dg} (h:DgR d) (hs:d.sizes.length<=aO) (ho:d.order.length<=aO) (he:d.ends.length+1<=aO):Yo d=if (a6t d != 0)=true then ([],a6t d) else (cellsD d,0):=by
 unfold Yo;rw[a5x h hs ho he];by_cases c:(a6t d != 0)=true
 ·rw[if_pos c,if_pos c]
 rw[if_neg c,if_neg c];have hf:(jy d.sizes d.order != 0)=false:=by
  cases e:jy d.sizes d.order != 0
  ·rfl
  exfalso;apply c;have:iE d=jy d.sizes d.order:=by unfold iE;rw[if_pos e]
  unfold a6t;rw[this,if_pos e];exact e
 rw[hf];rfl
end Go.Proofs.YtjkgcifieggcpaaGreat
