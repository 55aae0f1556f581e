/- Part 17 of a proof: closed runs of the given program, and the readings of its code that they use. -/
import Derived.Test.YtjkgcifieggcpaaGreatP15
set_option linter.constructorNameAsVariable false
set_option linter.unusedVariables false
set_option linter.unusedSimpArgs false
set_option linter.unusedSectionVars false
namespace Tw
open Go
noncomputable def runN (P:Program) (T:Tab) (L n f:Nat) (args:List TV) (h:List HB):Option (TV×List HB×List Nat):=yw P T L n (.fn f [] []) args h
section
variable {P:Program} {T:Tab} {call:ay} {L:Nat} {nt:Nat} {M:Mp} {h:List HB} {w:World}
theorem a8N (hm:P.follows .mixedOrders=true) (hE:aj P T.ext) {n f:Nat} {args:List TV} {v:TV} {h':List HB} {ws:List Nat} (hnf:T.exts.contains f=false) (hnd:T.Ho.contains f=false) (hr:runN P T L (n+1) f args h=some (v,h',ws)) (hV:Valid M jW (fQ h) w) (hl:∀ k,M (.l k)=none)
  {xs:List Value} (hx:aG M.h args xs) (k:Nat):CallsIn Fence.wide k P f xs.toArray w (uD (dL M h w v h' ws)):=by
 simp only[runN,yw,hnf,hnd,Bool.false_eq_true,if_false] at hr
 have hargs:aG M.h ([]++args++[]) xs:=by simpa using hx
 obtain⟨fn,c,_,_,_,e4⟩:=SE hm (OV hm hE n) hr ⟨hV,hl⟩ hargs
 exact e4 k
end
open Go Go.ChangeShapes Go.WideShapes Go.RowKit
section
variable {H:Type} {enc:TypeId×Value→H} {P:Program} {W W':World}
theorem a5T {T:Tab} {L n g Yv:Nat} {f:Func} {s:ChangeSpec} {args:Array Value} {ds:List (DataW H)} {before:List MemPlace} {tb:TypeId} {r:Reach} {b:Nat} (hm:P.follows .mixedOrders=true)
  (hl:laidOutB P=true) (hv:s.vars=[]) (hs:s.fn H ds={ results:=[.lit (.bool true)],args:=ds })
  (hf:f.resultTypes=#[tb]) (htb:P.underlying tb=some .bool) (hp:(f.params.toList.all fun t=>P.readableRec t&&decide (t<P.types.size))=true)
  (hW:DataW.Whole enc P f.params.toList s.vars false W args.toList ds [] before)
  (hval:∀ (j:Nat) t v,f.params[j]? = some t→args[j]? = some v→Value.okWide P W r b t v)
  {az:List TV} {h h':List HB} (he:OU P g f.params.toList ds []=some (az,h)) (hE:aj P T.ext) (hnf:T.exts.contains Yv=false) (hnd:T.Ho.contains Yv=false) (hr:runN P T L (n+1) Yv az h=some (.bool true,h',[])) :
  Calls P Yv args W fun e W'=>∃ v,e=.returned v∧s.post enc P f false true false false W args v W':=by
 obtain⟨p,q,hA,_⟩:=id hW
 have h0:Opened (fun _=>none) [] W:=⟨⟨⟨by simp,by simp,by simp⟩,by simp⟩,by simp⟩
 obtain⟨M',b1,_,v1⟩:=EK hA (fun j t v e1 e2=>hval j t v (by simpa using e1) (by simpa using e2)) he h0
 have hc:=a8N hm hE hnf hnd hr b1.base.val b1.base.loc v1 0
 refine (callsIn_wide.1 hc).mono fun e W' hR=>?_
 cases e with
 | panicked c=>exact hR.elim
 | outgrown=>exact hR.elim
 | returned v=>
  obtain⟨M2,_,_,hX,hv'⟩:=hR
  cases hv'
  refine⟨_,rfl,N7 hl hv hs hf htb hp hW ⟨hX.os,hX.tape,hX.output,hX.size,fun k hk=>hX.frame k hk (by simp)⟩⟩
end
end Tw
namespace Pv
open Go Tw
section
variable {X:gZ} {P:Program} {T:Tab} {A W:Nat→Prop} {m m':List MB}
variable {call:ay} {jG:gK X.Γ} {L:Nat}
theorem a5U (hX:aT X P) {n f:Nat} (hn:0<n) (hO:jL X P (yw P T L (n-1)) jG) {vs:List (PV X.Γ)} {an:PT X.Γ} {v:PV X.Γ} {ext:List (PB X.Γ)}
  (hk:(KT X P T jG (nH X P (yw P T L (n-1))) (GL X P T (yw P T L (n-1)) L f 0) L f vs [] an).Ends (v,ext)):VW X P (yw P T L n) f vs v ext:=by
 intro A h first args cap hup hv
 have hr:HR X P A [] [] h:=⟨rfl,fun i b hb=>by simp at hb,by simp[blks],hup,fun b hb=>by simp[blks] at hb⟩
 obtain⟨w,h1,ws,m1,g1,g2,g3,g4,_,g6,g7⟩:=Ak hX hO (H:=[]) hk hr (hv.mono fun b hb=>⟨hb,by simp[blks]⟩)
 obtain⟨n,rfl⟩:∃ j,n=j+1:=⟨n-1,by omega⟩
 have:ws=[]:=List.eq_nil_iff_forall_not_mem.2 fun x hx=>by have:=g6 x hx;simp[blks] at this
 subst this
 exact⟨w,h1,m1,by simp only[yw];simp only[Bool.or_eq_true,not_or] at g7;rw[if_neg g7.1,if_neg g7.2];exact g1,g2,g3,g4⟩
end
end Pv
namespace Pv
open Go Tw
theorem OT.a2g {ρ σ:Type} {f:ρ→σ} {y:σ}:∀ {o:OT ρ},(o.map f).Ends y→∃ r,o.Ends r∧f r=y
 | .bad,h=>h.elim
 | .ret r,h=>⟨r,rfl,h⟩
 | .o p r,h=>by obtain⟨x,h1,h2⟩:=OT.a2g h.2;exact⟨x,⟨h.1,h1⟩,h2⟩
 | .br c t e,h=>by
  rcases h with⟨h0,h⟩ | ⟨h0,h⟩
  ·obtain⟨x,h1,h2⟩:=OT.a2g h;exact⟨x,.inl ⟨h0,h1⟩,h2⟩
  ·obtain⟨x,h1,h2⟩:=OT.a2g h;exact⟨x,.inr ⟨h0,h1⟩,h2⟩
section
variable {X:gZ} {P:Program} {T:Tab} {L:Nat}
def frz (r:PV X.Γ×List (PB X.Γ)):Option (PV X.Γ):=view r.2 r.1
theorem a5f (hX:aT X P) {call:ay} {f:FuncId} {vs:List (PV X.Γ)} {v w:PV X.Γ} {ext:List (PB X.Γ)} (hc:VW X P call f vs v ext) (hw:view ext v=some w):VW X P call f vs w []:=by
 intro A h first args cap hup hv
 obtain⟨x,h',m',c1,c2,c3,c4⟩:=hc A h first args cap hup hv
 refine⟨x,h',[],c1,⟨rfl,fun i b hb=>by simp at hb,by simp[blks],c2.up,fun b hb=>by simp[blks] at hb⟩,?_,?_⟩
 ·refine (SS (m':=[]) hX c2 c3 hw (is:=owns v) fun i hi=>hi).mono fun b hb=>⟨?_,by simp[blks]⟩
  rcases hb with hb | ⟨i,mb,h1,h2,h3⟩
  ·exact hb.1
  ·exact c2.uS b (aC h2 h3)
 ·exact⟨c4.len,fun b hb hn=>c4.same b hb hn,fun b hb=>by simp[blks] at hb,c4.grow⟩
section
variable {f nt B:Nat} {dI:Bool} {call:ay} {jG:gK X.Γ}
theorem a4U {b:Code} {n k:Nat} {ps:aP X.Γ} {e:Ex} {ps1:aP X.Γ} (h:rF X P T call L f dI nt B b n ps e ps1) (hk:n≤k):rF X P T call L f dI nt B b k ps e ps1:=fun A W fl m ts hS=>by
 obtain⟨dD,m1,h1,h2⟩:=h A W fl m ts hS
 exact⟨dD,m1,zq h1 hk,h2⟩
theorem a1J {b:Code} {n:Nat} {s0 ps:aP X.Γ} {e:Ex} {ps1:aP X.Γ} (h:rF X P T call L f dI nt B b n ps e ps1) (h0:patHead X (T.bY f (bH b)) s0=ps) (hn:n≤L):fO X P T call L f dI nt B (.loop b) s0 e ps1:=fun A W fl m ts hS=>by
 obtain⟨dD,m1,h1,h2⟩:=a4U h hn A W fl m ts (by rw[←h0];exact hS.head _)
 exact⟨dD,m1,by simp only[exec];exact h1,h2⟩
end
theorem Good.deep {α β:Type} {f:FuncId} {a:Jj X P α} {r:Ar X P β} {S:α→β} {pre:α→List Prop} {jG:gK X.Γ} (d:Nat) (hg:Good X P T L jG)
  (hf:∀ n,d≤n→(∀ m,n-d≤m→jL X P (yw P T L m) jG)→∀ x,(∀ p∈pre x,p)→VW X P (yw P T L (n+1)) f (a.put x) (r.put (S x)) []):Good X P T L (cO f a r S pre jG):=by
 obtain⟨N,hN⟩:=hg
 refine⟨N+d+1,fun n hn=>?_⟩
 obtain⟨k,rfl⟩:∃ k,n=k+1:=⟨n-1,by omega⟩
 intro g vs v ext ps ho hp
 unfold cO at ho
 split at ho
 ·rename_i e
  have e:=Nat.eq_of_beq_eq_true e
  subst e
  split at ho
  ·rename_i x hx
   cases ho
   intro A h first args cap hup hv
   exact hf k (by omega) (fun m hm=>hN m (by omega)) x hp A h first args cap hup (a.ok hx hv)
  ·exact hN (k+1) (by omega) g vs v ext ps ho hp
 ·exact hN (k+1) (by omega) g vs v ext ps ho hp
theorem dS {β:Type} (hX:aT X P) {n f:Nat} {jG:gK X.Γ} (hO:jL X P (yw P T L n) jG) {vs:List (PV X.Γ)} {an:PT X.Γ} {r:Ar X P β} {s:β} {o:OT (Option (PV X.Γ))}
  (hk:(KT X P T jG (nH X P (yw P T L n)) (GL X P T (yw P T L n) L f 0) L f vs [] an).map frz=o) (ht:Fp (Is r s) an o):VW X P (yw P T L (n+1)) f vs (r.put s) []:=
 by
 obtain⟨v,h1,h2⟩:=ht.ends
 rw[←hk] at h1
 obtain⟨⟨v,H⟩,h3,rfl⟩:=OT.a2g h1
 rcases h2 with h2 | ⟨w,h2,h4⟩
 ·exact a5f hX (a5U hX (n:=n+1) (by omega) hO h3) h2
 ·intro A h first args cap hup hv
  obtain⟨x,h',m',c1,c2,c3,c4⟩:=a5f hX (a5U hX (n:=n+1) (by omega) hO h3) h2 A h first args cap hup hv
  exact⟨x,h',m',c1,c2,r.ok h4 c3,c4⟩
theorem Fp.rr {β:Type} {r:Ar X P β} {s:β}:Fp (Is r s) (.n:PT X.Γ) (.ret (some (r.put s))):=.r (.inl rfl)
theorem Fp.rn {β:Type} {r:Ar X P β} {s:β} (w:PV X.Γ) (h:r.get w=some s):Fp (Is r s) (.n:PT X.Γ) (.ret (some w)):=.r (.inr ⟨w,rfl,h⟩)
theorem Fp.ss {β:Type} {r:Ar X P β} {c:Bool} {t e:β} {a b:PT X.Γ} {x y:OT (Option (PV X.Γ))} (h1:Fp (Is r t) a x) (h2:Fp (Is r e) b y):Fp (Is r (if c=true then t else e)) (.s a b) (.br c x y):=
 .s (fun h=>by subst h;exact h1) (fun h=>by subst h;exact h2)
theorem Fp.sh {β:Type} {r:Ar X P β} {c:Bool} {t e:β} {a b:PT X.Γ} {x y:OT (Option (PV X.Γ))} (h1:c=true→Fp (Is r t) a x) (h2:c=false→Fp (Is r e) b y):Fp (Is r (if c=true then t else e)) (.s a b) (.br c x y):=
 .s (fun h=>by rw[if_pos h];exact h1 h) (fun h=>by rw[if_neg (by rw[h];simp)];exact h2 h)
theorem Fp.zh {β:Type} {r:Ar X P β} {c:Bool} {t e:β} {a b:PT X.Γ} {x y:OT (Option (PV X.Γ))} (h1:c=true→Fp (Is r t) a x) (h2:c=false→Fp (Is r e) b y):Fp (Is r (if c=true then t else e)) (.z c a b) (.br c x y):=
 .z (fun h=>by rw[if_pos h];exact h1 h) (fun h=>by rw[if_neg (by rw[h];simp)];exact h2 h)
def IsS {β:Type} (r:Ar X P β) (s:β) (H:List (PB X.Γ)):PV X.Γ×List (PB X.Γ)→Prop:=fun v=>v=(r.put s,H)
theorem Fp.sr {β:Type} {r:Ar X P β} {s:β} {H:List (PB X.Γ)}:Fp (IsS r s H) (.n:PT X.Γ) (.ret (r.put s,H)):=.r rfl
theorem Fp.szh {β:Type} {r:Ar X P β} {H:List (PB X.Γ)} {c:Bool} {t e:β} {a b:PT X.Γ} {x y:OT (PV X.Γ×List (PB X.Γ))} (h1:c=true→Fp (IsS r t H) a x) (h2:c=false→Fp (IsS r e H) b y):Fp (IsS r (if c=true then t else e) H) (.z c a b) (.br c x y):=
 .z (fun h=>by rw[if_pos h];exact h1 h) (fun h=>by rw[if_neg (by rw[h];simp)];exact h2 h)
theorem Fp.ssh {β:Type} {r:Ar X P β} {H:List (PB X.Γ)} {c:Bool} {t e:β} {a b:PT X.Γ} {x y:OT (PV X.Γ×List (PB X.Γ))} (h1:c=true→Fp (IsS r t H) a x) (h2:c=false→Fp (IsS r e H) b y):Fp (IsS r (if c=true then t else e) H) (.s a b) (.br c x y):=
 .s (fun h=>by rw[if_pos h];exact h1 h) (fun h=>by rw[if_neg (by rw[h];simp)];exact h2 h)
theorem pF {β:Type} (hX:aT X P) {n f:Nat} {jG:gK X.Γ} (hO:jL X P (yw P T L n) jG) {first xs cap:List (PV X.Γ)} {H H1:List (PB X.Γ)} {an:PT X.Γ} {r:Ar X P β} {s:β} {o:OT (PV X.Γ×List (PB X.Γ))}
  (hk:KT X P T jG (nH X P (yw P T L n)) (GL X P T (yw P T L n) L f H.length) L f (first++xs++cap) H an=o) (ht:Fp (IsS r s H1) an o):nH X P (yw P T L (n+1)) (.fn f first cap) xs H (r.put s) H1:=by
 obtain⟨y,h1,h2⟩:=ht.ends
 cases h2
 rw[←hk] at h1
 exact Wx hX (n:=n+1) (by omega) hO h1
end
end Pv
namespace Tw
def a19 {α σ ρ:Type} (step:Nat→α→σ→σ⊕ρ):List α→Nat→σ→σ⊕ρ
 | [],_,s=>.inl s
 | a::l,i,s=>match step i a s with
  | .inl s'=>a19 step l (i+1) s'
  | .inr r=>.inr r
def abz {σ ρ:Type} (d:σ):σ⊕ρ→σ
 | .inl s=>s
 | .inr _=>d
def ae9 {σ:Type}:σ⊕Empty→σ
 | .inl s=>s
end Tw
namespace Pv
open Go Tw
theorem dB {k n:Nat} (h:k<n):zl k n:=⟨by omega,by omega⟩
section
variable {X:gZ} {P:Program} {T:Tab} {L:Nat} {f nt B:Nat} {dI:Bool} {call:ay} {b:Code} {σ α ρ:Type}
theorem Fp.wG {τ:Type} {R:τ→Prop} (gs:List G) {c:Code} {e:Ex} {s s':aP X.Γ} {an:PT X.Γ} {o:OT τ} (h:fO X P T call L f dI nt B c s e s') (t:Fp R an o):Fp R (.a (.lg gs e s') an) (.o (fO X P T call L f dI nt B c s e s') o):=.l gs e s' h t
theorem Fp.goG {n:Nat} {e:Ex} {s s':aP X.Γ} (gs:List G) (h:rF X P T call L f dI nt B b n s' e s):Fp (Rnd X P T call L f dI nt B b n e s) (.a (.lg gs .norm ⟨[],[],[]⟩) .n:PT X.Γ) (.ret (.norm,s')):=Fp.g (v:=(Ex.norm,s')) gs h
theorem Fp.re {n:Nat} {s:aP X.Γ}:Fp (Rnd X P T call L f dI nt B b n .ret s) (.n:PT X.Γ) (.ret (.ret,s)):=Fp.r (v:=(Ex.ret,s)) ⟨rfl,rfl⟩
def cont (out:σ⊕ρ→Ex×aP X.Γ) (g:Nat→α→σ→σ⊕ρ) (l:List α) (i:Nat):σ⊕ρ→Ex×aP X.Γ
 | .inl s=>out (a19 g l i s)
 | .inr r=>out (.inr r)
section
variable {τ:Type} {K:τ→Ex×aP X.Γ} {n:Nat}
theorem Fp.ou {x:τ} (h:(K x).1≠.norm):Fp (Rn X P T call L f dI nt B b n K x) (.n:PT X.Γ) (.ret (K x)):=by
 refine Fp.r ?_
 unfold Rn Rnd
 split
 ·rename_i e;rw[e] at h;exact absurd rfl h
 ·rename_i e;rw[e];exact⟨rfl,rfl⟩
end
theorem a5h {l:List α} (d:α) {st:Int→σ→aP X.Γ} {g:Nat→α→σ→σ⊕ρ} {out:σ⊕ρ→Ex×aP X.Γ} {s0:σ} {w:aP X.Γ} (Inv:Nat→σ→Prop) (h0:patHead X (T.bY f (bH b)) w=st 0 s0) (hl:l.length≤most) (hL:most<L) (hi:Inv 0 s0)
  (hs:∀ (k:Nat) (s:σ) (n:Nat),k<l.length→Inv k s→(∀ s1,Inv (k+1) s1→rF X P T call L f dI nt B b n (st (IntKind.i64.wrap (k+1)) s1) (cont out g (l.drop (k+1)) (k+1) (.inl s1)).1 (cont out g (l.drop (k+1)) (k+1) (.inl s1)).2) →
   rF X P T call L f dI nt B b (n+1) (st k s) (cont out g (l.drop (k+1)) (k+1) (g k (l.getD k d) s)).1 (cont out g (l.drop (k+1)) (k+1) (g k (l.getD k d) s)).2)
  (ho:∀ s,Inv l.length s→rF X P T call L f dI nt B b 1 (st l.length s) (out (.inl s)).1 (out (.inl s)).2) :
  fO X P T call L f dI nt B (.loop b) w (out (a19 g l 0 s0)).1 (out (a19 g l 0 s0)).2:=by
 have key:∀ (m k:Nat) (s:σ),k+m=l.length→Inv k s→rF X P T call L f dI nt B b (m+1) (st k s) (out (a19 g (l.drop k) k s)).1 (out (a19 g (l.drop k) k s)).2:=by
  intro m
  induction m with
  | zero=>
   intro k s hk hr
   have:k=l.length:=by omega
   subst this
   rw[List.drop_length]
   exact ho s hr
  | succ m ih=>
   intro k s hk hr
   have hlt:k<l.length:=by omega
   have h1:=hs k s (m+1) hlt hr fun s1 h=>by
    have:=ih (k+1) s1 (by omega) h
    rw[Tv (by omega)]
    exact this
   have hd:l.getD k d=l[k]:=by simp[List.getD,List.getElem?_eq_getElem hlt]
   rw[List.drop_eq_getElem_cons hlt]
   simp only[a19]
   rw[hd] at h1
   cases hg:g k l[k] s with
   | inl s1=>rw[hg] at h1;exact h1
   | inr r=>rw[hg] at h1;exact h1
 exact a1J (key l.length 0 s0 (by omega) hi) h0 (by omega)
theorem rC {c:Code} {w:aP X.Γ} {R:σ⊕ρ} {out:σ⊕ρ→Ex×aP X.Γ} (h:fO X P T call L f dI nt B c w (out R).1 (out R).2) (d:σ) (hR:D5 R=true):fO X P T call L f dI nt B c w (out (.inl (abz d R))).1 (out (.inl (abz d R))).2:=by
 cases R with
 | inl s=>exact h
 | inr r=>cases hR
theorem wC {c:Code} {w:aP X.Γ} {R:σ⊕ρ} {out:σ⊕ρ→Ex×aP X.Γ} (h:fO X P T call L f dI nt B c w (out R).1 (out R).2) (d:ρ) (hR:D5 R=false):fO X P T call L f dI nt B c w (out (.inr (WB d R))).1 (out (.inr (WB d R))).2:=by
 cases R with
 | inl s=>cases hR
 | inr r=>exact h
end
end Pv
namespace Pv
open Go Tw
def a1F {Γ:Nat→Type} (env:List (Nat×PE Γ)):List Nat→List (PV Γ)→List (Nat×PE Γ)
 | p::ps,v::vs=>a1F ((p,.val v)::env) ps vs
 | _,_=>env
section
variable {X:gZ} {P:Program} {T:Tab} {A W:Nat→Prop} {m m':List MB} {h h':List HB} {L f nt B:Nat}
theorem a4D:∀ {ps:List Nat} {vs:List (PV X.Γ)} {xs:List TV} {env:List (Nat×PE X.Γ)} {env':List (Nat×EV)},fH X P A m h env env'→aG X P A m h vs xs→fH X P A m h (a1F env ps vs) (nJ env' ps xs)
 | [],vs,xs,_,_,he,hv=>by simpa[a1F,nJ] using he
 | p::ps,[],xs,_,_,he,hv=>by rw[hv.inv0];simpa[a1F,nJ] using he
 | p::ps,v::vs,xs,_,_,he,hv=>by
  obtain⟨x,r,rfl,h1,h2⟩:=hv.inv
  simp only[a1F,nJ]
  exact a4D (fH.cons (v:=.val v) (x:=.val x) h1 he) h2
theorem a8O (hX:aT X P) {call:ay} {g:Operand} {qs:Array Nat} {ku body:Code} {ps:aP X.Γ} {f1:FuncId} {a1 b1:List (PV X.Γ)} {v:PV X.Γ} {H1:List (PB X.Γ)} {rd:Bool} {f2 zS:Nat} {e2:List (Nat×PE X.Γ)} {ps2:List Nat} {a2 b2:Code} {pend:Option Code} {e:Ex}
  (hg:su ps.env g=some (.fn f1 a1 b1)) (hall:(ps.env.all fun p=>Jm p.2)=true)
  (a3N:nH X P call (.fn f1 a1 b1) [.iF (ps.heap.length+1)] (ps.heap++[.mark]++[.loop true f nt ps.env qs.toList ku body none]) v H1)
  (hl:H1[ps.heap.length+1]? = some (.loop rd f2 zS e2 ps2 a2 b2 pend)) (hj:zQ rd pend=some e) :
  fO X P T call L f false nt B (.rangeFunc g qs ku body) ps e { ps with heap:=H1.set (ps.heap.length+1) (.loop false f2 zS e2 ps2 a2 b2 (some .skip)) }:=by
 intro A W fl m ts hS
 obtain⟨tg,g1,g2⟩:=eF hS.st.env hg
 have hm:=hS.st.heap.len
 obtain⟨p1,p2,p3⟩:=hS.st.heap.push (pb:=.mark) (hb:=.mark) (mb:=.blk ts.heap.length) (.inl rfl) (by simp[BR])
 obtain⟨q1,q2,q3⟩:=p1.push (pb:=.loop true f nt ps.env qs.toList ku body none) (hb:=.loop true f nt ts.env qs.toList ku body none) (mb:=.blk (ts.heap.length+1)) (.inl (by simp[MB.own])) (by
  refine⟨ts.env,by simp,?_⟩
  refine fH.step (m:=m) (h:=ts.heap) (A:=A) ?_ ?_ hS.st.env
  ·have r2:Fr (m++[MB.blk ts.heap.length]) (ts.heap++[HB.mark]) (m++[MB.blk ts.heap.length]++[MB.blk (ts.heap.length+1)]) (ts.heap++[HB.mark]++[HB.loop true f nt ts.env qs.toList ku body none]):=by
    refine⟨by simp,fun b hb _=>by rw[List.getElem?_append_left hb],fun b hb=>?_,fun b cs hc=>⟨cs,?_,Nat.le_refl _⟩⟩
    ·rw[dF,List.mem_append,eU] at hb
     rcases hb with hb | hb
     ·exact .inl hb
     ·simp[MB.own] at hb;subst hb;exact .inr (by simp)
    ·rw[bI (List.getElem?_append_left (bQ hc)),hc]
   exact p2.trans r2
  ·exact p3.trans (kU _))
 have hF:=p2.trans q2
 have hU:=p3.trans q3
 have hyl:VR X P (AA A (m++[MB.blk ts.heap.length]++[MB.blk (ts.heap.length+1)])) (m++[MB.blk ts.heap.length]++[MB.blk (ts.heap.length+1)]) (ts.heap++[HB.mark]++[HB.loop true f nt ts.env qs.toList ku body none]) (.iF (ps.heap.length+1)) (.iF (ts.heap.length+1)):=by
  refine .iF ?_
  rw[←hm,List.getElem?_append_right (by simp)]
  simp
 obtain⟨w,h1,ws,m1,c1,c2,c3,c4,c5,c6⟩:=a3N A _ _ tg [.iF (ts.heap.length+1)] q1 (g2.step hF hU) (.cons hyl .nil)
 have hm1:m1[ps.heap.length+1]? = some (.blk (ts.heap.length+1)):=by
  rcases c5 (ps.heap.length+1) (.blk (ts.heap.length+1)) (by rw[←hm,List.getElem?_append_right (by simp)];simp) with e | e
  ·exact e
  ·obtain⟨mb,k1,k2⟩:=c2.at_ _ _ hl
   rw[e] at k1;cases k1
   exact k2.elim
 obtain⟨mb,k1,k2⟩:=c2.at_ _ _ hl
 rw[hm1] at k1;cases k1
 obtain⟨e2',k3,k4⟩:=k2
 obtain⟨s1,s2⟩:=c2.set (i:=ps.heap.length+1) (c:=ts.heap.length+1) (pb:=.loop false f2 zS e2 ps2 a2 b2 (some .skip)) (hb:=.loop false f2 zS e2' ps2 a2 b2 (some .skip)) hm1 rfl (fun cs hc=>by unfold aB at hc;rw[k3] at hc;cases hc) (fun hF=>⟨e2',by rw[List.getElem?_set_self (List.getElem?_eq_some_iff.1 k3).1],k4.step hF .refl⟩)
 have hF2:=hF.trans (c4.trans s2)
 have hU2:=hU.trans c5
 refine⟨{ ts with heap:=h1.set (ts.heap.length+1) (.loop false f2 zS e2' ps2 a2 b2 (some .skip)),ws:=bU fl (ws.map .h) ts.ws },m1,?_,⟨?_,fun b hb=>?_,fun b hb=>?_,?_⟩,hF2,hU2.b⟩
 ·have hg':∃ a1' b1',tg=.fn f1 a1' b1':=by
   cases g2 with
   | gone hi _ _=>simp[aF] at hi
   | fn _ _ _ _=>exact⟨_,_,rfl⟩
  obtain⟨a1',b1',rfl⟩:=hg'
  simp only[exec,g1,PZ hS.st.env hall,Bool.not_false,Bool.and_self,if_true]
  rw[show ts.heap++[HB.mark,HB.loop true f nt ts.env qs.toList ku body none]=ts.heap++[HB.mark]++[HB.loop true f nt ts.env qs.toList ku body none] by simp,c1]
  simp only[k3,hj]
 ·have q:=hS.st.step s1 hF2 hU2;exact⟨q.heap,q.llen,q.loc,q.env⟩
 ·rcases hF2.new b hb with k | k
  ·exact hS.own b k
  ·exact .inr (Nat.le_trans hS.fl k)
 ·rcases rE hb with k | ⟨k,k'⟩
  ·exact hS.ws b k
  ·obtain⟨b',hb',e⟩:=List.mem_map.1 k
   cases e
   rcases hF.new b (c6 b hb') with k2 | k2
   ·rcases hS.own b k2 with k3 | k3
    ·exact k3
    ·omega
   ·have:=hS.fl;omega
 ·exact Nat.le_trans hS.fl hF2.len
theorem a8P (hX:aT X P) {n l:Nat} {xs:List (PV X.Γ)} {H:List (PB X.Γ)} {env:List (Nat×PE X.Γ)} {ps:List Nat} {ku body:Code} {pend:Option Code} {s1 s2:aP X.Γ} {e:Ex}
  {f' Rz:Nat} {env':List (Nat×PE X.Γ)} {ps':List Nat} {a' b':Code} {a4v:Option Code} {f'' a9T:Nat} {a9t:List (Nat×PE X.Γ)} {a9U:List Nat} {a'' b'':Code}
  (hl:H[l]? = some (.loop true f nt env ps ku body pend)) (hlen:xs.length=ps.length) (hps:(ps.all fun p=>decide (p<nt))=true)
  (h1:fO X P T (yw P T L n) L f true nt H.length ku ⟨a1F env ps xs,[],H⟩ .norm s1) (hl1:s1.heap[l]? = some (.loop true f' Rz env' ps' a' b' a4v))
  (h2:fO X P T (yw P T L n) L f true nt H.length body { s1 with heap:=s1.heap.set l (.loop false f' Rz env' ps' a' b' none) } e s2)
  (hl2:s2.heap[l]? = some (.loop false f'' a9T a9t a9U a'' b'' none)) :
  nH X P (yw P T L (n+1)) (.iF l) xs H (.bool (jq e)) (s2.heap.set l (.loop (jq e) f'' a9T a9t a9U a'' b'' (kF e))):=by
 intro A m h tf kY hr hf hx
 have hlt:l<H.length:=(List.getElem?_eq_some_iff.1 hl).1
 obtain⟨mb,k1,k2⟩:=hr.at_ l _ hl
 cases mb with
 | lst _=>exact k2.elim
 | bM _=>exact k2.elim
 | gone=>exact k2.elim
 | blk c=>
 obtain⟨te,k3,k4⟩:=k2
 have hcm:c∈blks m:=aC k1 rfl
 cases hf with
 | gone hi hi2 _=>simp only[aF,Option.some.injEq] at hi;subst hi;rw[k1] at hi2;cases hi2
 | iF hy=>
 rw[k1] at hy;cases hy
 have hS:SR X P A (fun b=>b∈blks m) h.length m ⟨a1F env ps xs,[],H⟩ ⟨nJ te ps kY,[],h,[]⟩:=
  ⟨⟨hr,rfl,fun k cs hk=>by simp at hk,a4D (env:=env) (env':=te) k4 hx⟩,fun b hb=>.inl hb,fun b hb=>(by cases hb),Nat.le_refl _⟩
 obtain⟨t1,m1,x1,x2,x3,x4⟩:=h1 A _ _ m _ hS
 have PG:∀ {M:List MB} {S:aP X.Γ} {TS:St} {W:Nat→Prop} {rd:Bool} {f0 n0:Nat} {ee:List (Nat×PE X.Γ)} {pp:List Nat} {aa bb:Code} {pe:Option Code},SR X P A W h.length M S TS→CO H.length m M→S.heap[l]? = some (.loop rd f0 n0 ee pp aa bb pe)→M[l]? = some (.blk c)∧∃ te,TS.heap[c]? = some (.loop rd f0 n0 te pp aa bb pe)∧fH X P (AA A M) M TS.heap ee te:=by
  intro M S TS W rd f0 n0 ee pp aa bb pe hS hU hh
  obtain⟨mb,j1,j2⟩:=hS.st.heap.at_ l _ hh
  rcases hU l _ hlt k1 with e | e
  ·rw[e] at j1;cases j1
   obtain⟨te,j3,j4⟩:=j2
   exact⟨e,te,j3,j4⟩
  ·rw[e] at j1;cases j1;exact j2.elim
 have abA:∀ {M:List MB} {S:aP X.Γ} {TS:St} {W:Nat→Prop} {rd:Bool} {f0 n0:Nat} {ee:List (Nat×PE X.Γ)} {pp:List Nat} {aa bb:Code} {pe:Option Code} (rd':Bool) (pe':Option Code),SR X P A W h.length M S TS→CO H.length m M→S.heap[l]? = some (.loop rd f0 n0 ee pp aa bb pe)→∃ te,TS.heap[c]? = some (.loop rd f0 n0 te pp aa bb pe)∧HR X P A M (S.heap.set l (.loop rd' f0 n0 ee pp aa bb pe')) (TS.heap.set c (.loop rd' f0 n0 te pp aa bb pe'))∧Fr M TS.heap M (TS.heap.set c (.loop rd' f0 n0 te pp aa bb pe')):=by
  intro M S TS W rd f0 n0 ee pp aa bb pe rd' pe' hS hU hh
  obtain⟨j1,te,j3,j4⟩:=PG hS hU hh
  obtain⟨s1,s2⟩:=hS.st.heap.set (i:=l) (c:=c) (pb:=.loop rd' f0 n0 ee pp aa bb pe') (hb:=.loop rd' f0 n0 te pp aa bb pe') j1 rfl (fun cs hc=>by unfold aB at hc;rw[j3] at hc;cases hc) (fun hF=>⟨te,by rw[List.getElem?_set_self (List.getElem?_eq_some_iff.1 j3).1],j4.step hF .refl⟩)
  exact⟨te,j3,s1,s2⟩
 obtain⟨te1,y1,y2,y3⟩:=abA false none x2 x4 hl1
 have hS1:SR X P A (fun b=>b∈blks m) h.length m1 { s1 with heap:=s1.heap.set l (.loop false f' Rz env' ps' a' b' none) } { t1 with heap:=t1.heap.set c (.loop false f' Rz te1 ps' a' b' none),ws:=ug h.length c t1.ws }:=by
  have q:=x2.st.step y2 y3 .refl
  refine⟨⟨q.heap,q.llen,q.loc,q.env⟩,x2.own,fun b hb=>?_,Nat.le_trans x2.fl y3.len⟩
  rcases rE (ks:=[.h c]) hb with k | ⟨k,_⟩
  ·exact x2.ws b k
  ·simp at k;subst k;exact hcm
 obtain⟨t2,m2,z1,z2,z3,z4⟩:=h2 A _ _ m1 _ hS1
 obtain⟨te2,u1,u2,u3⟩:=abA (jq e) (kF e) z2 (x4.trans z4) hl2
 have hF:=(x3.trans y3).trans (z3.trans u3)
 refine⟨.bool (jq e),t2.heap.set c (.loop (jq e) f'' a9T te2 a9U a'' b'' (kF e)),ug h.length c t2.ws,m2,?_,u2,.bool _,hF,fun i mb hi=>(x4.trans z4) i mb ?_ hi,fun b hb=>?_⟩
 ·have hl':kY.length=ps.length:=by rw[←hx.1,hlen]
  simp only[yw,ap,wK,k3,hl',hps,and_self,if_true,x1,y1,z1,u1]
 ·rw[←hr.len];exact (List.getElem?_eq_some_iff.1 hi).1
 ·rcases rE (ks:=[.h c]) hb with k | ⟨k,_⟩
  ·exact z2.ws b k
  ·simp at k;subst k;exact hcm
end
end Pv
namespace Pv
open Go Tw
def itF {σ ρ:Type} (g:σ→σ⊕ρ):Nat→σ→Option ρ
 | 0,_=>none
 | k+1,s=>match g s with
  | .inl s1=>itF g k s1
  | .inr r=>some r
section
variable {X:gZ} {P:Program} {T:Tab} {L:Nat} {f nt B:Nat} {dI:Bool} {call:ay} {b:Code} {σ ρ:Type}
def a2b (out:ρ→Ex×aP X.Γ) (r:ρ):σ⊕ρ→Ex×aP X.Γ
 | .inl _=>out r
 | .inr r'=>out r'
theorem a7m {st:σ→aP X.Γ} {g:σ→σ⊕ρ} {out:ρ→Ex×aP X.Γ} (Inv:σ→Prop) (hi:∀ s s1,Inv s→g s=.inl s1→Inv s1)
  (hs:∀ s n r,Inv s→(∀ s1,g s=.inl s1→rF X P T call L f dI nt B b n (st s1) (out r).1 (out r).2)→rF X P T call L f dI nt B b (n+1) (st s) (a2b out r (g s)).1 (a2b out r (g s)).2) :
  ∀ {k:Nat} {s:σ} {r:ρ},Inv s→itF g k s=some r→rF X P T call L f dI nt B b k (st s) (out r).1 (out r).2
 | 0,s,r,_,h=>by cases h
 | k+1,s,r,hv,h=>by
  simp only[itF] at h
  have h1:=hs s k r hv fun s1 h1=>by
   rw[h1] at h
   exact a7m Inv hi hs (hi s s1 hv h1) h
  cases hg:g s with
  | inl s1=>rw[hg] at h1;exact h1
  | inr r'=>rw[hg] at h1 h;simp only[Option.some.injEq] at h;subst h;exact h1
theorem a5V {st:σ→aP X.Γ} {g:σ→σ⊕ρ} {out:ρ→Ex×aP X.Γ} (Inv:σ→Prop) {k:Nat} {s:σ} {r:ρ} {w:aP X.Γ} (hr:itF g k s=some r) (h0:patHead X (T.bY f (bH b)) w=st s) (hk:k≤L) (hv:Inv s) (hi:∀ s s1,Inv s→g s=.inl s1→Inv s1)
  (hs:∀ s n r,Inv s→(∀ s1,g s=.inl s1→rF X P T call L f dI nt B b n (st s1) (out r).1 (out r).2)→rF X P T call L f dI nt B b (n+1) (st s) (a2b out r (g s)).1 (a2b out r (g s)).2) :
  fO X P T call L f dI nt B (.loop b) w (out r).1 (out r).2:=a1J (a7m Inv hi hs hv hr) h0 hk
end
end Pv
namespace Pv
open Go Tw
section
variable {X:gZ} {P:Program} {T:Tab} {L:Nat}
theorem Good.abB {α:Type} {f:FuncId} {a:Jj X P α} {v:α→PV X.Γ} {ext:α→List (PB X.Γ)} {pre:α→List Prop} {jG:gK X.Γ} (d:Nat) (hg:Good X P T L jG)
  (hf:∀ n,d≤n→(∀ m,n-d≤m→jL X P (yw P T L m) jG)→∀ x,(∀ p∈pre x,p)→VW X P (yw P T L (n+1)) f (a.put x) (v x) (ext x)):Good X P T L (a2S f a v ext pre jG):=by
 obtain⟨N,hN⟩:=hg
 refine⟨N+d+1,fun n hn=>?_⟩
 obtain⟨k,rfl⟩:∃ k,n=k+1:=⟨n-1,by omega⟩
 intro g vs v ext ps ho hp
 unfold a2S at ho
 split at ho
 ·rename_i e
  have e:=Nat.eq_of_beq_eq_true e
  subst e
  split at ho
  ·rename_i x hx
   cases ho
   intro A h first args cap hup hv
   exact hf k (by omega) (fun m hm=>hN m (by omega)) x hp A h first args cap hup (a.ok hx hv)
  ·exact hN (k+1) (by omega) g vs v ext ps ho hp
 ·exact hN (k+1) (by omega) g vs v ext ps ho hp
theorem abC (hX:aT X P) {n f:Nat} {jG:gK X.Γ} (hO:jL X P (yw P T L n) jG) {vs:List (PV X.Γ)} {an:PT X.Γ} {v:PV X.Γ} {H:List (PB X.Γ)} {o:OT (PV X.Γ×List (PB X.Γ))}
  (hk:KT X P T jG (nH X P (yw P T L n)) (GL X P T (yw P T L n) L f 0) L f vs [] an=o) (ht:Fp (IsE v H) an o):VW X P (yw P T L (n+1)) f vs v H:=by
 obtain⟨y,h1,h2⟩:=ht.ends
 cases h2
 rw[←hk] at h1
 exact a5U hX (n:=n+1) (by omega) hO h1
end
end Pv
namespace Pv
open Go Tw
theorem Good.a9u {X:gZ} {P:Program} {T:Tab} {L:Nat} {α β:Type} {f:FuncId} {a:Jj X P α} {r:Ar X P β} {S:α→β} {pre:α→List Prop} {jG abD:gK X.Γ} (d:Nat) (hg:Good X P T L jG) (hg2:Good X P T L abD)
  (hf:∀ n,d≤n→(∀ m,n-d≤m→jL X P (yw P T L m) jG)→(∀ m,n-d≤m→jL X P (yw P T L m) abD)→∀ x,(∀ p∈pre x,p)→VW X P (yw P T L (n+1)) f (a.put x) (r.put (S x)) []):Good X P T L (cO f a r S pre jG):=by
 obtain⟨N2,hN2⟩:=hg2
 obtain⟨M,hM⟩:=hg
 refine⟨M+N2+d+1,fun n hn=>?_⟩
 obtain⟨k,rfl⟩:∃ k,n=k+1:=⟨n-1,by omega⟩
 intro g vs v ext ps ho hp
 unfold cO at ho
 split at ho
 ·rename_i e
  have e:=Nat.eq_of_beq_eq_true e
  subst e
  split at ho
  ·rename_i x hx
   cases ho
   intro A h first args cap hup hv
   exact hf k (by omega) (fun m hm=>hM m (by omega)) (fun m hm=>hN2 m (by omega)) x hp A h first args cap hup (a.ok hx hv)
  ·exact hM (k+1) (by omega) g vs v ext ps ho hp
 ·exact hM (k+1) (by omega) g vs v ext ps ho hp
end Pv
namespace Pv
open Go Tw
section
variable {X:gZ} {P:Program} {T:Tab} {L f nt B:Nat} {dI:Bool} {call:ay} {jG:gK X.Γ}
theorem a6j (hX:aT X P) (hO:jL X P call jG) {c:Code} {ps ps1:aP X.Γ} {an:PT X.Γ} {e:Ex} {o:OT (Ex×aP X.Γ)}
  (hk:eH X P T jG (nH X P call) (fO X P T call L f dI nt B) B L f dI nt c ps an Wy=o) (ht:Fp (fun y=>y=(e,ps1)) an o):fO X P T call L f dI nt B c ps e ps1:=by
 obtain⟨y,h1,rfl⟩:=ht.ends
 rw[←hk] at h1
 exact PX hX hO h1
end
end Pv
namespace Pv
open Go Tw
theorem nH.forget {X:gZ} {P:Program} {call:ay} {fv:PV X.Γ} {xs:List (PV X.Γ)} {H H1:List (PB X.Γ)} {v:PV X.Γ} (hs:nH X P call fv xs H v H1) (i:Nat):nH X P call fv xs H v (H1.set i .gone):=by
 intro A m h tf kY hr hf hx
 obtain⟨w,h',ws,m1,c1,c2,c3,c4,c5,c6⟩:=hs A m h tf kY hr hf hx
 have hg:=c2.aI [i]
 have hf2:=fV (h:=h') [i] m1
 exact⟨w,h',ws,_,c1,hg,c3.step hf2.1 hf2.2,c4.trans hf2.1,c5.trans hf2.2,c6⟩
end Pv
namespace Pv
open Go Tw
section
variable {X:gZ} {P:Program} {A:Nat→Prop} {m:List MB} {h:List HB}
theorem VR.a8Q {k:IntKind} {n:Int} {y:TV} (hy:VR X P A m h (.int k n) y):y=.int k n:=by
 cases hy with
 | int=>rfl
 | gone hi _ _=>simp[aF] at hi
theorem VR.a7n {f:FuncId} {y:TV} (hy:VR X P A m h (.fn f [] []) y):y=.fn f [] []:=by
 cases hy with
 | gone hi _ _=>simp[aF] at hi
 | fn p1 _ p3 _=>rw[List.eq_nil_of_length_eq_zero p1.symm,List.eq_nil_of_length_eq_zero p3.symm]
theorem a9V {k ex:Bool} {t:Nat} {l:List (X.Γ t)} {x:TV} (hl:LR X P A m h k ex t l x):(l=[]∧x=.nil .slc)∨(l=[]∧∃ b off sz cs,x=.slc b off 0 0 sz true∧A b∧aB h b=some cs∧off≤cs.length∧sizeT P t=some sz∧0<sz) ∨
  (l≠[]∧∃ b sz e kk cs,x=.slc b 0 l.length l.length sz e∧sizeT P t=some sz∧0<sz∧h[b]? = some (.cells kk cs)∧kk≠.ro∧(k=true→kk=.own)∧(ex=true→e=true)∧cs.length=l.length*sz∧aZ X P A m h t l cs 0 sz):=by
 cases hl with
 | nil=>exact .inl ⟨rfl,rfl⟩
 | emp p0 p1 p2 p3 p4=>exact .inr (.inl ⟨rfl,_,_,_,_,rfl,p0,p1,p2,p3,p4⟩)
 | some p1 p2 p3 p4 p5 p6 p7 p8 p9=>exact .inr (.inr ⟨p1,_,_,_,_,_,rfl,p2,p3,p4,p5,p6,p7,p8,p9⟩)
theorem a8R {H:List (PB X.Γ)} {i:Nat} {x:TV} {k ex:Bool} {t:Nat} {l:List (X.Γ t)} (hr:HR X P A m H h) (hi:H[i]? = some (.list k ex t l)) (hv:VR X P (AA A m) m h (.own i) x):m[i]? = some (.lst x)∧LR X P (AA A m) m h k ex t l x:=by
 obtain⟨mb,g1,g2⟩:=hr.at_ i _ hi
 cases hv with
 | own e _=>
  rw[g1] at e
  cases e
  exact⟨g1,g2⟩
 | gone hi2 e _=>
  simp only[aF,Option.some.injEq] at hi2
  subst hi2
  rw[g1] at e
  cases e<;>exact g2.elim
end
end Pv
namespace Pv
open Go Tw
section
variable {X:gZ} {P:Program}
theorem a7o {A:Nat→Prop} {m:List MB} {h:List HB} {t:Nat} {fu:Bool} {x:TV} (hv:VR X P A m h (.lst t [] fu) x):x=.nil .slc∨∃ b off cap sz ex cs,x=.slc b off 0 cap sz ex∧A b∧aB h b=some cs∧sizeT P t=some sz∧0<sz∧off≤cs.length:=by
 generalize hl:([]:List (X.Γ t))=l at hv
 cases hv with
 | jg=>exact .inl rfl
 | lst a c c2 s z o k f e r=>
  subst hl
  exact .inr ⟨_,_,_,_,_,_,rfl,a,c,s,z,by simpa using o⟩
 | gone hi _ _=>simp[aF] at hi
theorem a5i {A:Nat→Prop} {h:List HB} {t:Nat} {x:TV} (hup:∀ b,h.length≤b→A b) (hx:LR X P (AA A [.lst x]) [.lst x] h false false t [] x) (ho:(MB.lst x).own=none):HR X P A [.lst x] [.list false false t []] h:=by
 have hb:blks [MB.lst x]=[]:=by simp[blks,ho]
 refine⟨rfl,fun i b hi=>?_,by rw[hb];exact List.nodup_nil,hup,fun b hb'=>by rw[hb] at hb';cases hb'⟩
 cases i with
 | zero=>simp only[List.getElem?_cons_zero,Option.some.injEq] at hi;subst hi;exact⟨.lst x,rfl,hx⟩
 | succ i=>simp at hi
end
end Pv
namespace Go.Proofs.YtjkgcifieggcpaaGreat
open Go Tw
def a0c (g:Int→Bool) (i:Nat) (x:Int) (s:Unit):(Unit)⊕(Nat×Int×(Unit)):=
 if (g x)=true then .inr (i,x,s) else .inl ()
def a1a (g:Int→Bool) (l:List Int):Int:=
 if (D5 (a19 (a0c g) l 0 ()))=true then -1 else (((WB (0,0,()) (a19 (a0c g) l 0 ())).1:Int))
def J3 (g:Int→Bool) (l:List Int):Bool:=
 decide ((a1a g l)≥0)
theorem a7p (g:Int→Bool):∀ (l:List Int) (i:Nat),D5 (a19 (a0c g) l i ())=!(l.any g)
 | [],i=>rfl
 | x::l,i=>by
  simp only[a19,a0c,List.any_cons]
  cases g x with
  | true=>rfl
  | false=>simpa using a7p g l (i+1)
theorem a1W (g:Int→Bool) (l:List Int):J3 g l=l.any g:=by
 have:=a7p g l 0
 unfold J3 a1a
 rw[this]
 cases l.any g with
 | true=>simp
 | false=>simp
def a1K (g:V→Bool) (i:Nat) (x:V) (s:Unit):(Unit)⊕(Nat×V×(Unit)):=
 if (g x)=true then .inr (i,x,s) else .inl ()
def a1O (g:V→Bool) (l:List V):Int:=
 if (D5 (a19 (a1K g) l 0 ()))=true then -1 else (((WB (0,V0,()) (a19 (a1K g) l 0 ())).1:Int))
def a1w (g:V→Bool) (l:List V):Bool:=
 decide ((a1O g l)≥0)
theorem a7q (g:V→Bool):∀ (l:List V) (i:Nat),D5 (a19 (a1K g) l i ())=!(l.any g)
 | [],i=>rfl
 | x::l,i=>by
  simp only[a19,a1K,List.any_cons]
  cases g x with
  | true=>rfl
  | false=>simpa using a7q g l (i+1)
theorem a6P (g:V→Bool) (l:List V):a1w g l=l.any g:=by
 have:=a7q g l 0
 unfold a1w a1O
 rw[this]
 cases l.any g with
 | true=>simp
 | false=>simp
end Go.Proofs.YtjkgcifieggcpaaGreat
namespace Pv
open Go Tw
theorem a4E {σ ρ:Type} {g:Nat→σ→σ}:∀ (m k:Nat) (s:σ),Nz (ρ:=ρ) (fun k s=>.inl (g k s)) m k s=.inl (qj g m k s)
 | 0,_,_=>rfl
 | m+1,k,s=>a4E m (k+1) (g k s)
theorem a7r {c:Nat→Bool} {ρ:Type} {r:Nat→ρ} {m k:Nat} (h:D5 (Nz (σ:=Unit) (fun k _=>if c k=true then .inr (r k) else .inl ()) m k ())=false):∃ j,k≤j∧j<k+m∧c j=true∧(∀ i,k≤i→i<j→c i=false)∧Nz (σ:=Unit) (fun k _=>if c k=true then .inr (r k) else .inl ()) m k ()=.inr (r j):=by
 induction m generalizing k with
 | zero=>simp[Nz,D5] at h
 | succ m ih=>
  simp only[Nz] at h ⊢
  by_cases hc:c k=true
  ·simp only[hc,if_true]
   exact⟨k,Nat.le_refl _,by omega,hc,fun i h1 h2=>by omega,rfl⟩
  ·simp only[hc,Bool.false_eq_true,if_false] at h ⊢
   obtain⟨j,h1,h2,h3,h4,h5⟩:=ih h
   exact⟨j,by omega,by omega,h3,fun i hi1 hi2=>by
    rcases Nat.lt_or_ge k i with h6 | h6
    ·exact h4 i h6 hi2
    ·rw[show i=k by omega];simpa using hc,h5⟩
theorem a2P {c:Nat→Bool} {N:Nat} (h:D5 (mF c N)=false):∃ j,j<N∧c j=true∧(∀ i,i<j→c i=false)∧mF c N=.inr j:=by
 obtain⟨j,_,h2,h3,h4,h5⟩:=a7r (r:=fun k=>k) h
 exact⟨j,by omega,h3,fun i hi=>h4 i (by omega) hi,h5⟩
def a3r {σ:Type} (g:Nat→σ→σ):Nat→σ→σ
 | 0,s=>s
 | k+1,s=>a3r g k (g k s)
theorem a4F {σ:Type} {g:Nat→σ→σ} (Q:Nat→σ→Prop):∀ {k:Nat} {s:σ},Q k s→(∀ j s,j<k→Q (j+1) s→Q j (g j s))→Q 0 (a3r g k s)
 | 0,_,h,_=>h
 | k+1,s,h,hs=>a4F Q (k:=k) (hs k s (by omega) h) fun j s h1 h2=>hs j s (by omega) h2
theorem a2Q {α:Type} {a b:List α} {d:α} (hl:a.length=b.length):a=b↔∀ j,j<a.length→a.getD j d=b.getD j d:=by
 constructor
 ·rintro rfl j _;rfl
 ·intro h
  apply List.ext_getElem hl
  intro j h1 h2
  simpa[List.getD,List.getElem?_eq_getElem h1,List.getElem?_eq_getElem h2] using h j h1
section
variable {X:gZ} {P:Program} {T:Tab} {L:Nat} {f nt B:Nat} {dI:Bool} {call:ay} {b:Code} {σ ρ:Type}
def a1x (out:σ⊕ρ→Ex×aP X.Γ) (g:Nat→σ→σ⊕ρ) (m k:Nat):σ⊕ρ→Ex×aP X.Γ
 | .inl s=>out (Nz g m k s)
 | .inr r=>out (.inr r)
theorem a4G {N:Nat} {st:Int→σ→aP X.Γ} {g:Nat→σ→σ⊕ρ} {out:σ⊕ρ→Ex×aP X.Γ} {s0:σ} {w:aP X.Γ} (Inv:Nat→σ→Prop) (h0:patHead X (T.bY f (bH b)) w=st 0 s0) (hl:N≤most) (hL:most<L) (hi:Inv 0 s0)
  (hs:∀ (k:Nat) (s:σ) (n:Nat),k<N→Inv k s→(∀ s1,Inv (k+1) s1→rF X P T call L f dI nt B b n (st (IntKind.i64.wrap (k+1)) s1) (a1x out g (N-(k+1)) (k+1) (.inl s1)).1 (a1x out g (N-(k+1)) (k+1) (.inl s1)).2) →
   rF X P T call L f dI nt B b (n+1) (st k s) (a1x out g (N-(k+1)) (k+1) (g k s)).1 (a1x out g (N-(k+1)) (k+1) (g k s)).2)
  (ho:∀ s,Inv N s→rF X P T call L f dI nt B b 1 (st N s) (out (.inl s)).1 (out (.inl s)).2) :
  fO X P T call L f dI nt B (.loop b) w (out (Nz g N 0 s0)).1 (out (Nz g N 0 s0)).2:=by
 have key:∀ (m k:Nat) (s:σ),k+m=N→Inv k s→rF X P T call L f dI nt B b (m+1) (st k s) (out (Nz g m k s)).1 (out (Nz g m k s)).2:=by
  intro m
  induction m with
  | zero=>
   intro k s hk hr
   have:k=N:=by omega
   subst this
   exact ho s hr
  | succ m ih=>
   intro k s hk hr
   have hlt:k<N:=by omega
   have h1:=hs k s (m+1) hlt hr fun s1 h=>by
    have:=ih (k+1) s1 (by omega) h
    rw[Tv (by omega),show N-(k+1)=m by omega]
    exact this
   rw[show N-(k+1)=m by omega] at h1
   simp only[Nz]
   cases hg:g k s with
   | inl s1=>rw[hg] at h1;exact h1
   | inr r=>rw[hg] at h1;exact h1
 exact a1J (key N 0 s0 (by omega) hi) h0 (by omega)
theorem a9W {a N:Nat} {st:Int→σ→aP X.Γ} {g:Nat→σ→σ⊕ρ} {out:σ⊕ρ→Ex×aP X.Γ} {s0:σ} {w:aP X.Γ} (Inv:Nat→σ→Prop) (h0:patHead X (T.bY f (bH b)) w=st a s0) (ha:a≤N) (hl:N≤most) (hL:most<L) (hi:Inv a s0)
  (hs:∀ (k:Nat) (s:σ) (n:Nat),a≤k→k<N→Inv k s→(∀ s1,Inv (k+1) s1→rF X P T call L f dI nt B b n (st (IntKind.i64.wrap (k+1)) s1) (a1x out g (N-(k+1)) (k+1) (.inl s1)).1 (a1x out g (N-(k+1)) (k+1) (.inl s1)).2) →
   rF X P T call L f dI nt B b (n+1) (st k s) (a1x out g (N-(k+1)) (k+1) (g k s)).1 (a1x out g (N-(k+1)) (k+1) (g k s)).2)
  (ho:∀ s,Inv N s→rF X P T call L f dI nt B b 1 (st N s) (out (.inl s)).1 (out (.inl s)).2) :
  fO X P T call L f dI nt B (.loop b) w (out (Nz g (N-a) a s0)).1 (out (Nz g (N-a) a s0)).2:=by
 have key:∀ (m k:Nat) (s:σ),a≤k→k+m=N→Inv k s→rF X P T call L f dI nt B b (m+1) (st k s) (out (Nz g m k s)).1 (out (Nz g m k s)).2:=by
  intro m
  induction m with
  | zero=>
   intro k s _ hk hr
   have:k=N:=by omega
   subst this
   exact ho s hr
  | succ m ih=>
   intro k s ak hk hr
   have hlt:k<N:=by omega
   have h1:=hs k s (m+1) ak hlt hr fun s1 h=>by
    have:=ih (k+1) s1 (by omega) (by omega) h
    rw[Tv (by omega),show N-(k+1)=m by omega]
    exact this
   rw[show N-(k+1)=m by omega] at h1
   simp only[Nz]
   cases hg:g k s with
   | inl s1=>rw[hg] at h1;exact h1
   | inr r=>rw[hg] at h1;exact h1
 exact a1J (key (N-a) a s0 (Nat.le_refl _) (by omega) hi) h0 (by omega)
theorem a6k {N:Nat} {st:Int→σ→aP X.Γ} {g:Nat→σ→σ} {e:Ex} {fin:σ→aP X.Γ} {s0:σ} {w:aP X.Γ} (Inv:Nat→σ→Prop) (h0:patHead X (T.bY f (bH b)) w=st 0 s0) (hl:N≤most) (hL:most<L) (hi:Inv 0 s0) (hv:∀ k s,k<N→Inv k s→Inv (k+1) (g k s))
  (hs:∀ (k:Nat) (s:σ),k<N→Inv k s→∀ n e1 p,rF X P T call L f dI nt B b n (st (IntKind.i64.wrap (k+1)) (g k s)) e1 p→rF X P T call L f dI nt B b (n+1) (st k s) e1 p)
  (ho:∀ s,Inv N s→rF X P T call L f dI nt B b 1 (st N s) e (fin s)):fO X P T call L f dI nt B (.loop b) w e (fin (qj g N 0 s0)):=by
 have:=a4G (X:=X) (P:=P) (T:=T) (call:=call) (f:=f) (dI:=dI) (nt:=nt) (B:=B) (b:=b) (ρ:=Empty) (N:=N) (st:=st) (g:=fun k s=>.inl (g k s)) (out:=fun x=>(e,fin (ae9 x))) (s0:=s0) (w:=w) Inv h0 hl hL hi
  (fun k s n hk hr h=>hs k s hk hr n _ _ (h _ (hv k s hk hr))) ho
 rw[a4E] at this
 exact this
theorem abE {N:Nat} {st:Int→σ→aP X.Γ} {g:Nat→σ→σ} {e:Ex} {fin:σ→aP X.Γ} {s0:σ} {w:aP X.Γ} (Inv:Nat→σ→Prop) (h0:patHead X (T.bY f (bH b)) w=st (IntKind.i64.wrap ((N:Int)-1)) s0) (hl:N≤most) (hL:most<L) (hi:Inv N s0) (hv:∀ k s,k<N→Inv (k+1) s→Inv k (g k s))
  (hs:∀ (k:Nat) (s:σ),k<N→Inv (k+1) s→∀ n e1 p,rF X P T call L f dI nt B b n (st (IntKind.i64.wrap (k-1)) (g k s)) e1 p→rF X P T call L f dI nt B b (n+1) (st k s) e1 p)
  (ho:∀ s,Inv 0 s→rF X P T call L f dI nt B b 1 (st (-1) s) e (fin s)):fO X P T call L f dI nt B (.loop b) w e (fin (a3r g N s0)):=by
 have wr:∀ k:Nat,k≤most→IntKind.i64.wrap ((k:Int)-1)=(k:Int)-1:=by
  intro k hk
  cases k with
  | zero=>rfl
  | succ k=>
   have:=Tv (k:=k) (by omega)
   rw[show ((k+1:Nat):Int)-1=(k:Int) by omega]
   unfold most at hk
   simp only[IntKind.wrap,IntKind.bits,IntKind.signed]
   have:(k:Int)%(2^64:Int)=(k:Int):=Int.emod_eq_of_lt (by omega) (by omega)
   simp only[this]
   rw[if_neg (by simp;omega)]
 have key:∀ (k:Nat) (s:σ),k≤N→Inv k s→rF X P T call L f dI nt B b (k+1) (st ((k:Int)-1) s) e (fin (a3r g k s)):=by
  intro k
  induction k with
  | zero=>intro s _ hr;exact ho s hr
  | succ k ih=>
   intro s hk hr
   have h1:=ih (g k s) (by omega) (hv k s (by omega) hr)
   rw[←wr k (by omega)] at h1
   rw[show ((k+1:Nat):Int)-1=(k:Int) by omega]
   exact hs k s (by omega) hr _ _ _ h1
 rw[wr N hl] at h0
 exact a1J (key N s0 (Nat.le_refl _) hi) h0 (by omega)
end
end Pv
namespace fA
open Go Tw Pv
theorem a2c {s:List Int} (h:yP s) (k:Nat):bV (s.take k)≤bV s:=by
 have e:bV s=bV (s.take k)*bV (s.drop k):=by rw[←Eb,List.take_append_drop]
 have h1:1≤bV (s.take k):=ny fun a ha=>h a (List.mem_of_mem_take ha)
 have h2:1≤bV (s.drop k):=ny fun a ha=>h a (List.mem_of_mem_drop ha)
 have:=Int.mul_le_mul_of_nonneg_left h2 (show 0≤bV (s.take k) by omega)
 omega
theorem a5j:∀ (s:List Int) (n:Int),(WG s n).length=s.length
 | [],_=>rfl
 | _::t,n=>by simp[WG,a5j t n]
theorem a4H:∀ (s:List Int) (n:Int) (k:Nat),k<s.length→(WG s n).getD k 0=(n/bV (s.drop (k+1)))%s.getD k 0
 | [],_,k,h=>by simp at h
 | a::t,n,0,_=>by simp[WG]
 | a::t,n,k+1,h=>by
  have:=a4H t n k (by simpa using h)
  simpa[WG] using this
theorem a1v:∀ {s p:List Int},xB s p=true→p.length=s.length
 | [],[],_=>rfl
 | a::t,d::p,h=>by
  simp only[xB,Bool.and_eq_true] at h
  simp[a1v h.2]
 | [],_::_,h=>by cases h
 | _::_,[],h=>by cases h
theorem a3s:∀ {s p:List Int},xB s p=true→yP s→0≤TA s p∧TA s p<bV s
 | [],[],_,_=>by simp[TA,bV]
 | a::t,d::p,h,hs=>by
  simp only[xB,Bool.and_eq_true,decide_eq_true_eq] at h
  have ih:=a3s h.2 hs.tail
  have hp:=ny hs.tail
  simp only[TA,bV]
  have h1:0≤d*bV t:=Int.mul_nonneg h.1.1 (by omega)
  have h2:(d+1)*bV t≤a*bV t:=Int.mul_le_mul_of_nonneg_right (by omega) (by omega)
  rw[Int.add_mul,Int.one_mul] at h2
  omega
theorem a4I:∀ {s:List Int} (n:Int),yP s→xB s (WG s n)=true
 | [],_,_=>rfl
 | a::t,n,hs=>by
  simp only[WG,xB,Bool.and_eq_true,decide_eq_true_eq]
  have:=hs a (List.mem_cons_self ..)
  exact⟨⟨Int.emod_nonneg _ (by omega),Int.emod_lt_of_pos _ (by omega)⟩,a4I n hs.tail⟩
theorem a3x:∀ {s:List Int} (n:Int),yP s→WG s (n%bV s)=WG s n
 | [],_,_=>rfl
 | a::t,n,hs=>by
  have hp:=ny hs.tail
  have ha:=hs a (List.mem_cons_self ..)
  simp only[WG,bV]
  have e1:n%(a*bV t)/bV t%a=n/bV t%a:=by
   rw[Int.emod_def n,show n-a*bV t*(n/(a*bV t))=n+(-(a*(n/(a*bV t))))*bV t by rw[Int.neg_mul,Int.mul_right_comm];rfl,Int.add_mul_ediv_right _ _ (by omega),show n/bV t+-(a*(n/(a*bV t)))=n/bV t+a*(-(n/(a*bV t))) by rw[Int.mul_neg],Int.add_mul_emod_self_left]
  have e2:WG t (n%(a*bV t))=WG t n:=by
   rw[←a3x (n%(a*bV t)) hs.tail,←a3x n hs.tail,Int.emod_emod_of_dvd n (Int.dvd_mul_left a (bV t))]
  rw[e1,e2]
theorem a5W {s:List Int} {k:Nat} (h:k<s.length):bV (s.drop k)=s.getD k 0*bV (s.drop (k+1)):=by
 rw[List.drop_eq_getElem_cons h]
 simp[bV,List.getD,List.getElem?_eq_getElem h]
def a6Q (s:List Int) (k:Nat) (x:Int×List Int):Int×List Int:=(Yz .i64 x.1 (s.getD k 0),x.2.set k (YA .i64 x.1 (s.getD k 0)))
theorem a9X {a b:Int} (h0:0≤a) (h1:a<2^62) (hb:0<b):Yz .i64 a b=a/b:=by
 have:a/b≤a:=Int.ediv_le_self b h0
 have h2:0≤a/b:=Int.ediv_nonneg h0 (by omega)
 rw[Yz,Int.tdiv_eq_ediv_of_nonneg h0,zD (by omega) (by omega)]
theorem a9Y {a b:Int} (h0:0≤a) (h1:a<2^62) (hb:0<b):YA .i64 a b=a%b:=by
 have h2:0≤a%b:=Int.emod_nonneg _ (by omega)
 have h3:a%b≤a:=by
  have:=Int.emod_def a b
  have h4:0≤b*(a/b):=Int.mul_nonneg (by omega) (Int.ediv_nonneg h0 (by omega))
  omega
 rw[YA,Int.tmod_eq_emod_of_nonneg h0]
theorem a7s {s:List Int} {n:Int} (hs:yP s) (h0:0≤n) (h1:n<2^62) {o:List Int} (ho:o.length=s.length):(a3r (a6Q s) s.length (n,o)).2=WG s n:=by
 have:=a4F (g:=a6Q s) (k:=s.length) (s:=(n,o)) (fun k x=>x.1=n/bV (s.drop k)∧x.2.length=s.length∧∀ j,k≤j→j<s.length→x.2.getD j 0=(WG s n).getD j 0)
  ⟨by simp[bV],ho,fun j h1 h2=>by omega⟩ (fun k x hk hx=>by
   obtain⟨e1,e2,e3⟩:=hx
   have hp:1≤bV (s.drop (k+1)):=ny fun a ha=>hs a (List.mem_of_mem_drop ha)
   have ha:=hs _ (getD_mem hk)
   have hx0:0≤x.1:=by rw[e1];exact Int.ediv_nonneg h0 (by omega)
   have hx1:x.1≤n:=by rw[e1];exact Int.ediv_le_self _ h0
   simp only[a6Q]
   rw[a9X hx0 (by omega) (by omega),a9Y hx0 (by omega) (by omega)]
   refine⟨?_,by simp[e2],fun j h2 h3=>?_⟩
   ·rw[a5W hk,Int.mul_comm,←Int.ediv_ediv_of_nonneg (by omega),e1]
   ·rw[Ah (by omega)]
    split
    ·rename_i e;subst e;rw[a4H s n k hk,e1]
    ·exact e3 j (by omega) h3)
 obtain⟨_,e2,e3⟩:=this
 rw[a2Q (d:=0) (by rw[e2,a5j])]
 intro j hj
 exact e3 j (Nat.zero_le _) (by omega)
def abG (s p:List Int):Int:=qj (fun k n=>IntKind.i64.wrap (IntKind.i64.wrap (n*s.getD k 0)+p.getD k 0)) s.length 0 0
theorem a5k:∀ {s p:List Int} (s' p':List Int),s.length=p.length→TA (s++s') (p++p')=TA s p*bV s'+TA s' p'
 | [],[],_,_,_=>by simp[TA]
 | a::s,d::p,s',p',h=>by
  simp only[List.cons_append,TA,a5k s' p' (by simpa using h),Eb,Int.add_mul,Int.mul_assoc];omega
theorem a8S {s p:List Int} (hp:xB s p=true) (hs:yP s) (hm:bV s≤2000):abG s p=TA s p:=by
 have hl:=a1v hp
 have:=NC (g:=fun k n=>IntKind.i64.wrap (IntKind.i64.wrap (n*s.getD k 0)+p.getD k 0)) (m:=s.length) (k:=0) (s:=(0:Int)) (fun k n=>n=TA (s.take k) (p.take k)) (by simp[TA]) (fun j n h1 h2 h3=>by
  have hj:j<s.length:=by omega
  have ha:=hs _ (getD_mem hj)
  have hd:=(GU.1 hp).2 j hj
  have e:TA (s.take (j+1)) (p.take (j+1))=TA (s.take j) (p.take j)*s.getD j 0+p.getD j 0:=by
   rw[List.take_succ_eq_append_getElem hj,List.take_succ_eq_append_getElem (show j<p.length by omega),a5k _ _ (by simp;omega)]
   simp[TA,bV,List.getD,List.getElem?_eq_getElem hj,List.getElem?_eq_getElem (show j<p.length by omega)]
  have hpl:xB (s.take j) (p.take j)=true:=GU.2 ⟨by simp[hl],fun i hi=>by
   have hi':i<j:=by have:=hi;simp at this;omega
   have:=(GU.1 hp).2 i (by omega)
   simpa[List.getD_eq_getElem?_getD,List.getElem?_take,hi'] using this⟩
  have hr:=a3s hpl fun a ha=>hs a (List.mem_of_mem_take ha)
  have hle:=a2c hs j
  rw[←h3] at hr e
  have h4:n*s.getD j 0≤2000*12:=Int.mul_le_mul (by omega) ha.2 (by omega) (by omega)
  have h5:0≤n*s.getD j 0:=Int.mul_nonneg hr.1 (by omega)
  rw[e,zD (z:=n*_) (by omega) (by omega),zD (by omega) (by omega)])
 rw[Nat.zero_add,List.take_length,List.take_of_length_le (show p.length≤s.length by omega)] at this
 exact this
theorem Fine.a3y {s:List Int} (h:Fine s):fA.cnt s≤most:=by have:=h.many;have:=h.a2T;unfold most;omega
theorem nm {k:Nat} (h:k≤most):(k:Int)<2^62:=by unfold most at h;omega
theorem a5l {α:Type} (f:Nat→α) (n:Nat):qj (fun k (s:List α)=>s++[f k]) n 0 []=(List.range n).map f:=by
 have:=NC (g:=fun k (s:List α)=>s++[f k]) (m:=n) (k:=0) (s:=[]) (fun k s=>s=(List.range k).map f) rfl (fun j s _ _ h=>by rw[h,List.range_succ,List.map_append];rfl)
 simpa using this
end fA
namespace Go.Proofs.YtjkgcifieggcpaaGreat
open Go Tw Go.Shelf
theorem a8T (h:aj Tryz.prog (a03 17 true)):aj Tryz.prog a2Y:=aj.or h (Qc sortL)
end Go.Proofs.YtjkgcifieggcpaaGreat
namespace Tw
open Go Go.ChangeShapes
section
variable {H:Type} {xC:TypeId×Value→H} {P:Program} {w:World}
def Rd (xC:TypeId×Value→H) (P:Program) (w:World) (t:TypeId) (d:DataW H):Prop:=∃ cs,Reads xC P w t cs d
theorem a9Z {t:TypeId} {k:IntKind} {d:DataW H} (ht:P.underlying t=some (.int k)) (hd:Rd xC P w t d):∃ n,d=.lit (.int k n)∧(Lit.int k n).wf=true:=by
 obtain⟨cs,fuel,ps,hd⟩:=hd
 cases fuel with
 | zero=>simp[DataW.trod] at hd
 | succ n=>
  unfold DataW.trod at hd
  rw[ht] at hd
  split at hd<;>simp_all
  obtain⟨⟨_,h1⟩,rfl,_⟩:=hd
  exact⟨_,rfl,h1⟩
theorem aa0 {t:TypeId} {d:DataW H} (ht:P.underlying t=some .string) (hd:Rd xC P w t d):∃ bs,d=.lit (.string bs):=by
 obtain⟨cs,fuel,ps,hd⟩:=hd
 cases fuel with
 | zero=>simp[DataW.trod] at hd
 | succ n=>
  unfold DataW.trod at hd
  rw[ht] at hd
  split at hd<;>simp_all
  exact⟨_,hd.2.1.symm⟩
theorem a6R {t:TypeId} {fs:Array Field} {d:DataW H} (ht:P.underlying t=some (.struct fs)) (hd:Rd xC P w t d) :
  ∃ ds,d=.agg ds∧ds.length=fs.size∧∀ (i:Nat) f d',fs[i]? = some f→ds[i]? = some d'→Rd xC P w f.type d':=by
 obtain⟨cs,fuel,ps,hd⟩:=hd
 obtain⟨zs,n,_,hx,hcl,hzl,hat⟩:=DataW.trod_struct ht hd
 simp only[Prod.mk.injEq] at hx
 refine⟨zs.map (·.1),hx.1,by simpa using hzl,fun i f d' e1 e2=>?_⟩
 simp only[List.getElem?_map,Option.map_eq_some_iff] at e2
 obtain⟨z,hz,rfl⟩:=e2
 exact⟨_,n,z.2,by rw[hat i f e1,hz]⟩
theorem a7t {t e:TypeId} {d:DataW H} (ht:P.underlying t=some (.slice e)) (hd:Rd xC P w t d) :
  d=.nil∨∃ xs ys,d=.slice xs ys∧∀ y∈xs++ys,Rd xC P w e y:=by
 obtain⟨cs,fuel,ps,hd⟩:=hd
 rcases Deep.open_slice ht hd with⟨rfl,hx⟩ | ⟨a,len,cap,m,n,Dt,Pl,rfl,_,hlc,_,hm,hx,hat⟩
 ·left;cases hx;rfl
 ·right
  simp only[if_true] at hm
  subst hm
  simp only[Prod.mk.injEq] at hx
  refine⟨_,_,hx.1,fun y hy=>?_⟩
  have:∃ i,i<m∧y=Dt i:=by
   rcases List.mem_append.mp hy with hy | hy
   ·obtain⟨i,hi,rfl⟩:=List.mem_map.mp hy
    exact⟨i,by have:=List.mem_range.mp hi;omega,rfl⟩
   ·obtain⟨i,hi,rfl⟩:=List.mem_map.mp hy
    exact⟨len+i,by have:=List.mem_range.mp hi;omega,rfl⟩
  obtain⟨i,hi,rfl⟩:=this
  obtain⟨cs',_,e2⟩:=hat i hi
  exact⟨cs',n,_,e2⟩
theorem a5m {t:TypeId} {fs:Array Field} {g:Nat} {ds:List (DataW H)} {h:List HB} (ht:P.underlying t=some (.struct fs)) :
  MZ P (g+1) t (.agg ds) h=match IL P (MZ P g) 0 fs.toList ds h with
   | some (cs,h1)=>if cs.length=P.cellsOf t then some (cs,h1) else none
   | none=>none:=by
 simp only[MZ,ht]<;>rfl
end
end Tw
namespace Go.Proofs.YtjkgcifieggcpaaGreat
open Go Tw Pv
abbrev lBs (l:List (List Bool)):PV bF:=.lst 45 l false
abbrev lFc (l:List Fc):PV bF:=.lst 66 l false
abbrev Args (α:Type):=Jj X0 Tryz.prog α
noncomputable def abI:Arg (List Bool):=Nw 4
noncomputable def aea:Arg (List (List Bool)):=Nw 45
abbrev Gd (jG:gK bF):Prop:=Pv.Good X0 Tryz.prog T LL jG
theorem LLm:most<LL:=by decide
abbrev Lp (n f k:Nat) (s:aP bF) (e:Ex) (s':aP bF):Prop:=fO X0 Tryz.prog T (ApN n) LL f false (ntP Tryz.prog f) 0 (.loop (YX Tryz.prog f k)) s e s'
abbrev xo (b:Nat):PE bF:=.val (.own b)
theorem le0:0≤most:=by decide
theorem le1:1≤most:=by decide
theorem ok0 {n:Nat}:Ok n (Jl (X:=X0)):=fun f vs v ext ps h=>by cases h
abbrev LpB (n f k B:Nat) (s:aP bF) (e:Ex) (s':aP bF):Prop:=fO X0 Tryz.prog T (ApN n) LL f false (ntP Tryz.prog f) B (.loop (YX Tryz.prog f k)) s e s'
end Go.Proofs.YtjkgcifieggcpaaGreat
namespace Go.Proofs.YtjkgcifieggcpaaGreat
open Go Tw Pv
theorem aeb {n f:Nat} {a c:List (PV bF)} {H:List (PB bF)} {g:Int→Bool} (hf:∀ x,nH X0 Tryz.prog (ApN n) (.fn f a c) [.int .i64 x] H (.bool (g x)) H) (l:List Int) (hl:l.length≤most):nH X0 Tryz.prog (ApN (n+1)) (.fn 183 [] []) [.lst 3 l false,.fn f a c] H (iA.put (a1a g l)) H:=by
 have lp:LpB n 183 0 H.length (a3b f a c H l 0 []) (z183 f a c H l (a19 (a0c g) l 0 ())).1 (z183 f a c H l (a19 (a0c g) l 0 ())).2:=
  a5h (st:=fun i _=>a3b f a c H l i []) (0:Int) (fun _ _=>True) (by kernel_rfl) hl LLm trivial (fun k s n hk _ ih=>round hX ok0 (by kernel_rfl) (.b (WC hk) (.o (dB hk) (.k (hf (l.getD k (0:Int))) (.ls (.ou nofun) (.nx (ih _ trivial))))))) (fun s _=>round hX ok0 (by kernel_rfl) (.b (YZ l.length) (.ou nofun)))
 exact pF hX ok0 (first:=[]) (cap:=[]) (by kernel_rfl) (.szh (fun h=>.w (rC lp () h) .sr) (fun h=>.w (wC lp (0,0,()) h) .sr))
theorem abJ {n f:Nat} (hn:0<n) {a c:List (PV bF)} {H:List (PB bF)} {g:Int→Bool} (hf:∀ x,nH X0 Tryz.prog (ApN (n-1)) (.fn f a c) [.int .i64 x] H (.bool (g x)) H) (l:List Int) (hl:l.length≤most):nH X0 Tryz.prog (ApN (n+1)) (.fn 138 [] []) [.lst 3 l false,.fn f a c] H (tA.put (J3 g l)) H:=by
 have h1:=aeb hf l hl
 rw[show n-1+1=n by omega] at h1
 exact pF hX ok0 (first:=[]) (cap:=[]) (by kernel_rfl) (.k h1 .sr)
abbrev aa1 (f:Nat) (a c:List (PV bF)) (H:List (PB bF)) (l:List V) (i:Int) (x:List (Nat×PE bF)):aP bF:=⟨[(0,xL 79 l),(1,.val (.fn f a c)),(7,xi l.length),(8,xi i)]++x,[],H⟩
def abK (f:Nat) (a c:List (PV bF)) (H:List (PB bF)) (l:List V):Unit⊕(Nat×V×Unit)→Ex×aP bF
 | .inl _=>(.exit 0,aa1 f a c H l l.length [(9,xl false)])
 | .inr r=>(.ret,⟨[(4,xi r.1)],[],H⟩)
theorem aec {n f:Nat} {a c:List (PV bF)} {H:List (PB bF)} {g:V→Bool} (hf:∀ x,nH X0 Tryz.prog (ApN n) (.fn f a c) [.agg x.ps] H (.bool (g x)) H) (l:List V) (hl:l.length≤most):nH X0 Tryz.prog (ApN (n+1)) (.fn 254 [] []) [.lst 79 l false,.fn f a c] H (iA.put (a1O g l)) H:=by
 have lp:LpB n 254 0 H.length (aa1 f a c H l 0 []) (abK f a c H l (a19 (a1K g) l 0 ())).1 (abK f a c H l (a19 (a1K g) l 0 ())).2:=
  a5h (st:=fun i _=>aa1 f a c H l i []) V0 (fun _ _=>True) (by kernel_rfl) hl LLm trivial (fun k s n hk _ ih=>round hX ok0 (by kernel_rfl) (.b (WC hk) (.o (dB hk) (.k (hf (l.getD k V0)) (.ls (.ou nofun) (.nx (ih _ trivial))))))) (fun s _=>round hX ok0 (by kernel_rfl) (.b (YZ l.length) (.ou nofun)))
 exact pF hX ok0 (first:=[]) (cap:=[]) (by kernel_rfl) (.szh (fun h=>.w (rC lp () h) .sr) (fun h=>.w (wC lp (0,V0,()) h) .sr))
theorem aed {n f:Nat} (hn:0<n) {a c:List (PV bF)} {H:List (PB bF)} {g:V→Bool} (hf:∀ x,nH X0 Tryz.prog (ApN (n-1)) (.fn f a c) [.agg x.ps] H (.bool (g x)) H) (l:List V) (hl:l.length≤most):nH X0 Tryz.prog (ApN (n+1)) (.fn 233 [] []) [.lst 79 l false,.fn f a c] H (tA.put (a1w g l)) H:=by
 have h1:=aec hf l hl
 rw[show n-1+1=n by omega] at h1
 exact pF hX ok0 (first:=[]) (cap:=[]) (by kernel_rfl) (.k h1 .sr)
end Go.Proofs.YtjkgcifieggcpaaGreat
namespace Go.Proofs.YtjkgcifieggcpaaGreat
open Go Tw Pv
theorem abL:Gd a05:=Good.nil.deep 3 fun n hn hO p hp=>by
 have h1:∀ x,nH X0 Tryz.prog (ApN (n-3+1)) (.fn 275 [] [.ptr 0 0 1,.ptr 1 0 1]) [.int .i64 x] [.cells [.int .i64 p.1],.cells [.int .i64 p.2.1]] (tA.put (Jo x p.1 p.2.1)) [.cells [.int .i64 p.1],.cells [.int .i64 p.2.1]]:=fun x=>pF hX ok0 (first:=[]) (by kernel_rfl) (.ssh (fun _=>.sr) (fun _=>.sr))
 obtain⟨n,rfl⟩:∃ k,n=k+3:=⟨n-3,by omega⟩
 rw[show n+3-3+1=n+1 by omega] at h1
 have h2:=abJ (n:=n+2) (by omega) (g:=fun x=>Jo x p.1 p.2.1) h1 p.2.2 (hp _ (.head _))
 exact dS hX (hO _ (by omega)) (by kernel_rfl) (.k h2 (.v (!(J3 (fun x=>Jo x p.1 p.2.1) p.2.2)) (by rw[a1W];rfl)))
theorem abM:Gd a06:=abL.add fun n hO p hp=>dS hX hO (by kernel_rfl) (.ss (.o le1 .rr) (.ss .rr .rr))
end Go.Proofs.YtjkgcifieggcpaaGreat
namespace Go.Proofs.YtjkgcifieggcpaaGreat
open Go Tw Pv fA
theorem aee:Gd a3c:=abM.add fun n hO p hp=>dS hX hO (by kernel_rfl) (.ss .rr .rr)
abbrev cSame (a b:List Int) (k:Nat):Bool:=a.getD k 0 != b.getD k 0
abbrev w26 (a b:List Int) (i:Int) (x:List (Nat×PE bF)):aP bF:=⟨[(0,xL 3 a),(1,xL 3 b),(5,xi i)]++x,[],[]⟩
def z26 (a b:List Int):Unit⊕Nat→Ex×aP bF
 | .inl _=>(.exit 0,w26 a b a.length [(14,xl false)])
 | .inr _=>(.ret,⟨[(4,xl false)],[],[]⟩)
theorem l26 {n:Nat} {jG:gK bF} (hO:Ok n jG) (a b:List Int) (hl:a.length≤most) (h:a.length=b.length):Lp n 26 0 (w26 a b 0 []) (z26 a b (mF (cSame a b) a.length)).1 (z26 a b (mF (cSame a b) a.length)).2:=
 a4G (st:=fun i _=>w26 a b i []) (fun _ _=>True) (by kernel_rfl) hl LLm trivial (fun k s n hk _ ih=>round hX hO (by kernel_rfl) (.b (WC hk) (.o (dB hk) (.o (dB (h▸hk)) (.ls (.ou nofun) (.nx (ih _ trivial))))))) (fun s _=>round hX hO (by kernel_rfl) (.b (YZ a.length) (.ou nofun)))
theorem a1X {a b:List Int} (h:a.length=b.length):D5 (mF (cSame a b) a.length)=decide (a=b):=by
 rw[Bool.eq_iff_iff,Fg,decide_eq_true_eq,a2Q (d:=0) h]
 simp[cSame]
theorem a7v {a b:List Int} (h:((a.length:Int) != (b.length:Int))=true):decide (a=b)=false:=by
 rw[decide_eq_false_iff_not];rintro rfl;simp at h
theorem len_eq {α β:Type} {a:List α} {b:List β} (h:((a.length:Int) != (b.length:Int))=false):a.length=b.length:=by simp at h;omega
theorem aeg:Gd a3d:=aee.add fun n hO p hp=>dS hX hO (by kernel_rfl) (.s (fun h=>.v false (a7v h).symm) fun h=>.z (c:=D5 (mF (cSame p.1 p.2) p.1.length)) (fun h2=>.w (rC (l26 hO p.1 p.2 (hp _ (.head _)) (len_eq h)) () h2) (.v true (by rw[←a1X (len_eq h),h2]))) fun h2=>.w (wC (l26 hO p.1 p.2 (hp _ (.head _)) (len_eq h)) 0 h2) (.v false (by rw[←a1X (len_eq h),h2])))
abbrev w94 (a:List Int) (n i:Int) (x:List (Nat×PE bF)):aP bF:=⟨[(0,xL 3 a),(5,xi n),(6,xi i)]++x,[],[]⟩
theorem l94 {n:Nat} {jG:gK bF} (hO:Ok n jG) (a:List Int) (hl:a.length≤most):Lp n 94 0 (w94 a 1 0 []) (.exit 0) (w94 a (yG a) a.length [(11,xl false)]):=
 a6k (st:=fun i n=>w94 a n i []) (fin:=fun n=>w94 a n a.length [(11,xl false)]) (fun _ _=>True) (by kernel_rfl) hl LLm trivial (fun _ _ _ _=>trivial) (fun k s hk _ n e p h=>round hX hO (by kernel_rfl) (.b (WC hk) (.o (dB hk) (.go h)))) (fun s _=>round hX hO (by kernel_rfl) (.b (YZ a.length) .ex))
theorem aeh:Gd a3e:=aeg.add fun n hO p hp=>by
 obtain⟨a,k⟩:=p
 have h0:k=0:=hp _ (.tail _ (.head _))
 subst h0
 exact dS hX hO (by kernel_rfl) (.w (l94 hO a (hp _ (.head _))) .rr)
theorem aei:Gd a3f:=aeh.add fun n hO p hp=>dS hX hO (by kernel_rfl) (.o (hp _ (.head _)) (.o (rfl:(0:Int)=0) .rr))
abbrev a2G (b:List Int) (k j:Nat):Bool:=b.getD j 0==b.getD k 0
abbrev w95 (a b:List Int) (i:Int) (x:List (Nat×PE bF)):aP bF:=⟨[(0,xL 3 a),(1,xL 3 b),(5,xi i)]++x,[],[]⟩
def abN (a b:List Int) (k:Int) (i:Int):Unit⊕Nat→Ex×aP bF
 | .inl _=>(.exit 2,w95 a b k [(6,xi i),(29,xl false)])
 | .inr _=>(.ret,⟨[(4,xl false)],[],[]⟩)
theorem l95b {n:Nat} {jG:gK bF} (hO:Ok n jG) (a b:List Int) (k:Nat) (hl:k≤most) (h:k<b.length):Lp n 95 1 (w95 a b k [(6,xi 0)]) (abN a b k k (mF (a2G b k) k)).1 (abN a b k k (mF (a2G b k) k)).2:=
 a4G (st:=fun i _=>w95 a b k [(6,xi i)]) (fun _ _=>True) (by kernel_rfl) hl LLm trivial (fun j s n hk _ ih=>round hX hO (by kernel_rfl) (.b (WC hk) (.o (dB (show j<b.length by omega)) (.o (dB h) (.ls (.ou nofun) (.nx (ih _ trivial))))))) (fun s _=>round hX hO (by kernel_rfl) (.b (YZ k) (.ou nofun)))
abbrev a5X (m:Int) (b:List Int) (k:Nat):Bool:=if (!(vk (b.getD k 0) 0 m))=true then true else if D5 (mF (a2G b k) k)=true then false else true
def z95 (a b:List Int):Unit⊕Nat→Ex×aP bF
 | .inl _=>(.exit 0,w95 a b b.length [(15,xl false)])
 | .inr _=>(.ret,⟨[(4,xl false)],[],[]⟩)
theorem l95 {n:Nat} (hO:Ok n a3f) (a b:List Int) (hl:b.length≤most):Lp n 95 0 (w95 a b 0 []) (z95 a b (mF (a5X (xw a) b) b.length)).1 (z95 a b (mF (a5X (xw a) b) b.length)).2:=
 a4G (st:=fun i _=>w95 a b i []) (fun _ _=>True) (by kernel_rfl) hl LLm trivial (fun k s n hk _ ih=>by
  unfold gS a5X
  cases h1:(!(vk (b.getD k 0) 0 (xw a)))
  ·cases h2:D5 (mF (a2G b k) k)
   ·exact round hX hO (by kernel_rfl) (.b (WC hk) (.o (dB hk) (.b h1 (.w (wC (l95b hO a b k (by omega) hk) 0 h2) (.ou nofun)))))
   ·exact round hX hO (by kernel_rfl) (.b (WC hk) (.o (dB hk) (.b h1 (.w (rC (l95b hO a b k (by omega) hk) () h2) (.nx (ih _ trivial))))))
  ·exact round hX hO (by kernel_rfl) (.b (WC hk) (.o (dB hk) (.b h1 (.ou nofun))))
  ) (fun s _=>round hX hO (by kernel_rfl) (.b (YZ b.length) (.ou nofun)))
theorem a5n {a b:List Int} (ha:a.length≤most) (h:b.length=a.length):D5 (mF (a5X (xw a) b) b.length)=BH a.length b:=by
 rw[Bool.eq_iff_iff,Fg,BH,decide_eq_true_eq]
 have e1:(∀ j,j<b.length→a5X (xw a) b j=false)↔(∀ j,j<b.length→(0≤b.getD j 0∧b.getD j 0<a.length)∧∀ i,i<j→b.getD i 0≠b.getD j 0):=by
  refine forall_congr' fun j=>forall_congr' fun hj=>?_
  unfold a5X
  rw[a07 ha]
  cases h1:vk (b.getD j 0) 0 ((a.length:Int)-1)
  ·simp only[Bool.not_false,if_true,Bool.true_eq_false,false_iff]
   intro h2
   have:vk (b.getD j 0) 0 ((a.length:Int)-1)=true:=by
    rw[Fj];omega
   rw[h1] at this;cases this
  ·have h3:0≤b.getD j 0∧b.getD j 0<a.length:=by
    rw[Fj] at h1;omega
   simp only[Bool.not_true,Bool.false_eq_true,if_false,h3,and_self,true_and]
   cases h2:D5 (mF (a2G b j) j)
   ·simp only[Bool.false_eq_true,if_false,Bool.true_eq_false,false_iff]
    intro h4
    have:D5 (mF (a2G b j) j)=true:=Fg.2 fun i hi=>by simpa[a2G] using h4 i hi
    rw[h2] at this;cases this
   ·simp only[if_true,true_iff]
    intro i hi
    have:=Fg.1 h2 i hi
    simpa[a2G] using this
 rw[e1]
 constructor
 ·intro hq
  refine⟨h,(Q9 (d:=0)).1 fun j hj=>(hq j hj).1,?_⟩
  rw[List.nodup_iff_pairwise_ne,List.pairwise_iff_getElem]
  intro i j hi hj hij
  have:=(hq j hj).2 i hij
  simpa[List.getD,List.getElem?_eq_getElem hi,List.getElem?_eq_getElem hj] using this
 ·rintro⟨_,h2,h3⟩ j hj
  refine⟨(Q9 (d:=0)).2 h2 j hj,fun i hi=>?_⟩
  rw[List.nodup_iff_pairwise_ne,List.pairwise_iff_getElem] at h3
  have:=h3 i j (by omega) hj hi
  simpa[List.getD,List.getElem?_eq_getElem (show i<b.length by omega),List.getElem?_eq_getElem hj] using this
theorem a8U {a b:List Int} (h:((b.length:Int) != (a.length:Int))=true):BH a.length b=false:=by
 unfold BH;rw[decide_eq_false_iff_not];rintro⟨h1,_⟩;rw[h1] at h;simp at h
theorem aej:Gd a3g:=aei.add fun n hO p hp=>dS hX hO (by kernel_rfl) (.s (fun h=>.v false (a8U h).symm) fun h=>.z (c:=D5 (mF (a5X (xw p.1) p.2) p.2.length)) (fun h2=>.w (rC (l95 hO p.1 p.2 (hp _ (.tail _ (.head _)))) () h2) (.v true (by rw[←a5n (hp _ (.head _)) (len_eq h),h2]))) fun h2=>.w (wC (l95 hO p.1 p.2 (hp _ (.tail _ (.head _)))) 0 h2) (.v false (by rw[←a5n (hp _ (.head _)) (len_eq h),h2])))
abbrev w62 (a b:List Int) (i:Int) (x:List (Nat×PE bF)):aP bF:=⟨[(0,xL 3 a),(1,xL 3 b),(5,xi i)]++x,[],[]⟩
def z62 (a b:List Int):Unit⊕Nat→Ex×aP bF
 | .inl _=>(.exit 0,w62 a b a.length [(12,xl false)])
 | .inr _=>(.ret,⟨[(4,xi 3)],[],[]⟩)
theorem l62 {n:Nat} (hO:Ok n a3g) (a b:List Int) (hl:a.length≤most):Lp n 62 0 (w62 a b 0 []) (z62 a b (mF (cSz a) a.length)).1 (z62 a b (mF (cSz a) a.length)).2:=
 a4G (st:=fun i _=>w62 a b i []) (fun _ _=>True) (by kernel_rfl) hl LLm trivial (fun k s n hk _ ih=>round hX hO (by kernel_rfl) (.b (WC hk) (.o (dB hk) (.ls (.ou nofun) (.nx (ih _ trivial)))))) (fun s _=>round hX hO (by kernel_rfl) (.b (YZ a.length) (.ou nofun)))
theorem a8V {s:List Int} (h:decide ((s.length:Int)>6)=false):s.length≤6:=by simp at h;omega
theorem a5o {k:Nat} (h:k≤6):k≤most:=by unfold most;omega
theorem ael:Gd a3i:=aej.add fun n hO p hp=>dS hX hO (by kernel_rfl) (.sh (fun _=>.rr) fun h=>.zh (fun h2=>.w (rC (l62 hO p.1 p.2 (a5o (a8V h))) () h2) (.o (a5o (a8V h)) (.o (rfl:(0:Int)=0) (.ss .rr (.o (a5o (a8V h)) (.o (hp _ (.head _)) (.ss .rr .rr))))))) fun h2=>.w (wC (l62 hO p.1 p.2 (a5o (a8V h))) 0 h2) .rr)
abbrev w86 (a:List Int) (i:Int) (s:Int×List Int) (x:List (Nat×PE bF)):aP bF:=⟨[(0,xL 3 a),(1,xi s.1),(5,xo 0),(6,xi i)]++x,[],[.list true true 3 s.2]⟩
theorem szk {a:List Int} (hs:yP a) {k:Nat} (hk:k<a.length):a.getD k 0≠0:=by have:=hs _ (getD_mem hk);omega
theorem aa2 (k:Nat):decide ((k:Int)≥0)=true:=by simp
theorem l86 {n:Nat} {jG:gK bF} (hO:Ok n jG) (a:List Int) (m:Int) (hl:a.length≤most) (hs:yP a):Lp n 86 0 (w86 a (IntKind.i64.wrap ((a.length:Int)-1)) (m,List.replicate a.length 0) []) (.exit 0) (w86 a (-1) (a3r (a6Q a) a.length (m,List.replicate a.length 0)) [(14,xl false)]):=
 abE (st:=fun i s=>w86 a i s []) (fin:=fun s=>w86 a (-1) s [(14,xl false)]) (fun _ s=>s.2.length=a.length) (by kernel_rfl) hl LLm (by simp) (fun k s _ h=>by simp[a6Q,h]) (fun k s hk hi n e p h=>round hX hO (by kernel_rfl) (.b (aa2 k) (.o (dB hk) (.o (szk hs hk) (.o (dB (show k<s.2.length by omega)) (.o (dB hk) (.o (szk hs hk) (.go h)))))))) (fun s _=>round hX hO (by kernel_rfl) (.b (rfl:decide ((-1:Int)≥0)=false) .ex))
theorem mk1 {α:Type} (l:List α):(l.length:Int)=(l.length:Int):=rfl
theorem mk2 {α:Type} (l:List α):(0:Int)≤(l.length:Int):=by omega
theorem mk3 {α:Type} {l:List α} (h:l.length≤most):(l.length:Int)≤(most:Int):=by omega
theorem aem:Gd a3j:=ael.add fun n hO p hp=>dS hX hO (by kernel_rfl) (.o (mk1 p.1) (.o (mk2 p.1) (.o (mk3 (hp _ (.head _))) (.w (l86 hO p.1 p.2 (hp _ (.head _)) (hp _ (.tail _ (.head _)))) (.v (a3r (a6Q p.1) p.1.length (p.2,List.replicate p.1.length 0)).2 (a7s (hp _ (.tail _ (.head _))) (hp _ (.tail _ (.tail _ (.head _)))) (hp _ (.tail _ (.tail _ (.tail _ (.head _))))) List.length_replicate))))))
abbrev a8W (a b:List Int) (m i:Int) (x:List (Nat×PE bF)):aP bF:=⟨[(0,xL 3 a),(1,xL 3 b),(5,xi m),(6,xi i)]++x,[],[]⟩
theorem aen {n:Nat} {jG:gK bF} (hO:Ok n jG) (a b:List Int) (hl:a.length≤most) (h:b.length=a.length):Lp n 126 0 (a8W a b 0 0 []) (.exit 0) (a8W a b (abG a b) a.length [(10,xl false)]):=
 a6k (st:=fun i m=>a8W a b m i []) (fin:=fun m=>a8W a b m a.length [(10,xl false)]) (fun _ _=>True) (by kernel_rfl) hl LLm trivial (fun _ _ _ _=>trivial) (fun k s hk _ n e p g=>round hX hO (by kernel_rfl) (.b (WC hk) (.o (dB hk) (.o (dB (h▸hk)) (.go g))))) (fun s _=>round hX hO (by kernel_rfl) (.b (YZ a.length) .ex))
theorem abO:Gd a08:=aem.add fun n hO p hp=>dS hX hO (by kernel_rfl) (.w (aen hO p.1 p.2 (a5o (show Fine p.1 from hp _ (.tail _ (.head _))).len) (a1v (hp _ (.head _)))) (.v _ (a8S (hp _ (.head _)) (show Fine p.1 from hp _ (.tail _ (.head _))).sz (show Fine p.1 from hp _ (.tail _ (.head _))).many)))
theorem abP:Gd a09:=abO.add fun n hO p hp=>dS hX hO (by kernel_rfl) (.ss .rr (.ss .rr .rr))
def vIs (v:V):Bool:=if (decide (v.f>0))=true then (if (decide (v.f≤4))=true then v.n==0 else false) else vk v.n (-9999) 9999
theorem aa3 {v:V} (h:0≤v.f):vOk v=vIs v:=by
 unfold vOk vIs
 by_cases h0:v.f=0
 ·rw[if_pos (by simp[h0]),if_neg (by simp;omega)]
 ·have:v.f>0:=by omega
  simp[h0,this]
end Go.Proofs.YtjkgcifieggcpaaGreat
namespace Go.Proofs.YtjkgcifieggcpaaGreat
open Go Tw Pv fA
theorem yM (n:Nat):(UZ n).length=n:=by simp[UZ]
theorem a6S (n:Nat):BH n (UZ n)=true:=by
 unfold BH;rw[decide_eq_true_eq]
 refine⟨yM n,fun a ha=>?_,?_⟩
 ·simp only[UZ,List.mem_map,List.mem_range] at ha;obtain⟨k,h1,rfl⟩:=ha;omega
 ·unfold UZ
  exact List.Pairwise.map _ (fun a b h=>by omega) List.nodup_range
end Go.Proofs.YtjkgcifieggcpaaGreat
namespace Go.Proofs.YtjkgcifieggcpaaGreat
open Go Tw Pv fA
theorem neV (x y:Operand) (a b:V):jo Tryz.prog .neq 79 x y (V.tv a) (V.tv b)=some (.bool (!decide (a=b))):=(EP rfl rfl (by kernel_rfl) (by decide) (a0b 9998 a b)).2
end Go.Proofs.YtjkgcifieggcpaaGreat
namespace Go.Proofs.YtjkgcifieggcpaaGreat
open Go Tw Pv fA
abbrev RhB (n f k B m:Nat) (s:aP bF) (e:Ex) (p:aP bF):Prop:=rF X0 Tryz.prog T (ApN n) LL f false (ntP Tryz.prog f) B (YX Tryz.prog f k) m s e p
noncomputable abbrev hdP (f k:Nat) (w:aP bF):aP bF:=patHead X0 (T.bY f (bH (YX Tryz.prog f k))) w
section
variable {n f k B N:Nat} {σ ρ:Type}
theorem a0V {st:Int→σ→aP bF} {g:Nat→σ→σ} {e:Ex} {fin:σ→aP bF} {s0:σ} {w:aP bF} (Inv:Nat→σ→Prop) (h0:hdP f k w=st 0 s0) (hl:N≤most) (hi:Inv 0 s0) (hv:∀ j s,j<N→Inv j s→Inv (j+1) (g j s))
  (hs:∀ (j:Nat) (s:σ),j<N→Inv j s→∀ m e1 p,RhB n f k B m (st (IntKind.i64.wrap (j+1)) (g j s)) e1 p→RhB n f k B (m+1) (st j s) e1 p)
  (ho:∀ s,Inv N s→RhB n f k B 1 (st N s) e (fin s)):LpB n f k B w e (fin (qj g N 0 s0)):=a6k Inv h0 hl LLm hi hv hs ho
theorem searchL {st:Int→σ→aP bF} {g:Nat→σ→σ⊕ρ} {out:σ⊕ρ→Ex×aP bF} {s0:σ} {w:aP bF} (Inv:Nat→σ→Prop) (h0:hdP f k w=st 0 s0) (hl:N≤most) (hi:Inv 0 s0)
  (hs:∀ (j:Nat) (s:σ) (m:Nat),j<N→Inv j s→(∀ s1,Inv (j+1) s1→RhB n f k B m (st (IntKind.i64.wrap (j+1)) s1) (a1x (X:=X0) out g (N-(j+1)) (j+1) (.inl s1)).1 (a1x (X:=X0) out g (N-(j+1)) (j+1) (.inl s1)).2) →
   RhB n f k B (m+1) (st j s) (a1x (X:=X0) out g (N-(j+1)) (j+1) (g j s)).1 (a1x (X:=X0) out g (N-(j+1)) (j+1) (g j s)).2)
  (ho:∀ s,Inv N s→RhB n f k B 1 (st N s) (out (.inl s)).1 (out (.inl s)).2):LpB n f k B w (out (Nz g N 0 s0)).1 (out (Nz g N 0 s0)).2:=a4G Inv h0 hl LLm hi hs ho
theorem a8X {a:Nat} {st:Int→σ→aP bF} {g:Nat→σ→σ⊕ρ} {out:σ⊕ρ→Ex×aP bF} {s0:σ} {w:aP bF} (Inv:Nat→σ→Prop) (h0:hdP f k w=st a s0) (ha:a≤N) (hl:N≤most) (hi:Inv a s0)
  (hs:∀ (j:Nat) (s:σ) (m:Nat),a≤j→j<N→Inv j s→(∀ s1,Inv (j+1) s1→RhB n f k B m (st (IntKind.i64.wrap (j+1)) s1) (a1x (X:=X0) out g (N-(j+1)) (j+1) (.inl s1)).1 (a1x (X:=X0) out g (N-(j+1)) (j+1) (.inl s1)).2) →
   RhB n f k B (m+1) (st j s) (a1x (X:=X0) out g (N-(j+1)) (j+1) (g j s)).1 (a1x (X:=X0) out g (N-(j+1)) (j+1) (g j s)).2)
  (ho:∀ s,Inv N s→RhB n f k B 1 (st N s) (out (.inl s)).1 (out (.inl s)).2):LpB n f k B w (out (Nz g (N-a) a s0)).1 (out (Nz g (N-a) a s0)).2:=a9W Inv h0 ha hl LLm hi hs ho
theorem a7x {st:σ→aP bF} {g:σ→σ⊕ρ} {out:ρ→Ex×aP bF} (Inv:σ→Prop) {m:Nat} {s:σ} {r:ρ} {w:aP bF} (hr:itF g m s=some r) (h0:hdP f k w=st s) (hk:m≤LL) (hv:Inv s) (hi:∀ s s1,Inv s→g s=.inl s1→Inv s1)
  (hs:∀ s m r,Inv s→(∀ s1,g s=.inl s1→RhB n f k B m (st s1) (out r).1 (out r).2)→RhB n f k B (m+1) (st s) (a2b (X:=X0) out r (g s)).1 (a2b (X:=X0) out r (g s)).2):LpB n f k B w (out r).1 (out r).2:=a5V Inv hr h0 hk hv hi hs
end
end Go.Proofs.YtjkgcifieggcpaaGreat
namespace Go.Proofs.YtjkgcifieggcpaaGreat
open Go Tw Pv fA
section
variable {l:List V} {w n j:Nat} (h:Prt l w n)
include h
end
theorem map_range {α β:Type} (l:List α) (d:α) (f:α→β):(List.range l.length).map (fun k=>f (l.getD k d))=l.map f:=by
 apply List.ext_getElem (by simp)
 intro i h1 h2
 have:i<l.length:=by simpa using h1
 simp[List.getD,List.getElem?_eq_getElem this]
end Go.Proofs.YtjkgcifieggcpaaGreat
namespace Go.Proofs.YtjkgcifieggcpaaGreat
open Go Tw Pv fA
theorem a5p {s p:List Int} {ch d:Int} (hp:xB s p=true) (hc:zl ch s.length) (hd:zl d (s.getD ch.toNat 0).toNat):xB s (p.set ch.toNat d)=true:=by
 rw[GU] at hp ⊢
 obtain⟨c1,c2⟩:=hc
 obtain⟨d1,d2⟩:=hd
 refine⟨by simp[hp.1],fun j hj=>?_⟩
 rw[Ah (by omega)]
 split
 ·rename_i e;subst e;omega
 ·exact hp.2 j hj
end Go.Proofs.YtjkgcifieggcpaaGreat
namespace Go.Proofs.YtjkgcifieggcpaaGreat
open Go Tw Pv fA
abbrev a6T (d:Dg) (r i:Int) (x:List (Nat×PE bF)):aP bF:=⟨[(1,xi r),(2,.loc 0 0),(5,xi i)]++x,[d.ps],[]⟩
def z164 (d:Dg) (r:Int) (N:Nat):Unit⊕Nat→Ex×aP bF
 | .inl _=>(.exit 0,a6T d r N [(14,xl false)])
 | .inr k=>(.ret,⟨[(4,xi k)],[d.ps],[]⟩)
theorem abQ {r:Int} (h:0≤r):decide (r≥0)=true:=by simpa using h
theorem abR {n:Nat} {jG:gK bF} (hO:Ok n jG) (d:Dg) (r:Int) (hl:d.order.length≤most) (h:zl r d.nodes.length):Lp n 164 0 (a6T d r 0 []) (z164 d r d.order.length (mF (V4 d r) d.order.length)).1 (z164 d r d.order.length (mF (V4 d r) d.order.length)).2:=
 searchL (st:=fun i _=>a6T d r i []) (fun _ _=>True) (by kernel_rfl) hl trivial (fun k s m hk _ ih=>round hX hO (by kernel_rfl) (.b (abQ h.1) (.b (WC hk) (.o (dB hk) (.o h (.ls (.ou nofun) (.nx (ih _ trivial)))))))) (fun s _=>round hX hO (by kernel_rfl) (.b (abQ h.1) (.b (YZ d.order.length) (.ou nofun))))
theorem abS {n:Nat} {jG:gK bF} (hO:Ok n jG) (d:Dg) (r:Int) (h:r<0):Lp n 164 0 (a6T d r 0 []) (.exit 0) (a6T d r 0 [(14,xl false)]):=
 a1J (ps:=a6T d r 0 []) (round hX hO (by kernel_rfl) (.b (show decide (r≥0)=false by simpa using h) .ex)) (by kernel_rfl) (by decide:1≤LL)
theorem abT:Gd a0d:=abP.add fun n hO p hp=>dS hX hO (by kernel_rfl) (.zh (fun h=>.w (abS hO p.1 p.2 (by simpa using h)) .rr) fun h=>.zh (fun h2=>.w (rC (abR hO p.1 p.2 (hp _ (.head _)) (hp (0≤p.2→zl p.2 p.1.nodes.length) (.tail _ (.head _)) (by simpa using h))) () h2) .rr) fun h2=>.w (wC (abR hO p.1 p.2 (hp _ (.head _)) (hp (0≤p.2→zl p.2 p.1.nodes.length) (.tail _ (.head _)) (by simpa using h))) 0 h2) .rr)
theorem abU:Gd a0e:=abT.add fun n hO p hp=>dS hX hO (by kernel_rfl) (.ss .rr .rr)
abbrev aa4 (b:Br) (i:Int) (x:List (Nat×PE bF)):aP bF:=⟨[(1,.loc 0 0),(3,xi i)]++x,[b.ps],[]⟩
def z127 (b:Br):Unit⊕Nat→Ex×aP bF
 | .inl _=>(.exit 0,aa4 b (max 1 b.kids.length:Nat) [(8,xl false)])
 | .inr _=>(.ret,⟨[(2,xl false)],[b.ps],[]⟩)
theorem abV {n:Nat} {jG:gK bF} (hO:Ok n jG) (b:Br) (hl:b.kids.length≤most):Lp n 127 0 (aa4 b 1 []) (z127 b (a00 (a0f b) 1 (max 1 b.kids.length))).1 (z127 b (a00 (a0f b) 1 (max 1 b.kids.length))).2:=
 a8X (st:=fun i _=>aa4 b i []) (fun _ _=>True) (by kernel_rfl) (by omega) (by unfold most at *;omega) trivial (fun k s m h1 hk _ ih=>round hX hO (by kernel_rfl) (.b (WC (show k<b.kids.length by omega)) (.o (dB (show k<b.kids.length by omega)) (.o (show zl 0 b.kids.length from⟨by omega,by omega⟩) (.ls (.ou nofun) (.nx (ih _ trivial))))))) (fun s _=>round hX hO (by kernel_rfl) (.b (show decide (((max 1 b.kids.length:Nat):Int)<(b.kids.length:Int))=false by simp only[decide_eq_false_iff_not];omega) (.ou nofun)))
theorem abW:Gd a0g:=abU.add fun n hO p hp=>dS hX hO (by kernel_rfl) (.zh (fun h=>.w (rC (abV hO p (hp _ (.head _))) () h) .rr) fun h=>.w (wC (abV hO p (hp _ (.head _))) 0 h) .rr)
abbrev a4J (l:List Int) (n:Int) (k:Nat):Bool:=l.getD k 0==n
abbrev aa5 (l:List Int) (m i:Int) (x:List (Nat×PE bF)):aP bF:=⟨[(0,xL 3 l),(1,xi m),(5,xi i)]++x,[],[]⟩
def z226 (l:List Int) (m:Int):Unit⊕Nat→Ex×aP bF
 | .inl _=>(.exit 0,aa5 l m l.length [(9,xl false)])
 | .inr _=>(.ret,⟨[(4,xl true)],[],[]⟩)
theorem abX {n:Nat} {jG:gK bF} (hO:Ok n jG) (l:List Int) (m:Int) (hl:l.length≤most):Lp n 226 0 (aa5 l m 0 []) (z226 l m (mF (a4J l m) l.length)).1 (z226 l m (mF (a4J l m) l.length)).2:=
 searchL (st:=fun i _=>aa5 l m i []) (fun _ _=>True) (by kernel_rfl) hl trivial (fun k s m hk _ ih=>round hX hO (by kernel_rfl) (.b (WC hk) (.o (dB hk) (.ls (.ou nofun) (.nx (ih _ trivial)))))) (fun s _=>round hX hO (by kernel_rfl) (.b (YZ l.length) (.ou nofun)))
theorem a4K {l:List Int} {m:Int}:D5 (mF (a4J l m) l.length)=!decide (m∈l):=by
 rw[Bool.eq_iff_iff,Fg]
 simp only[Bool.not_eq_true',decide_eq_false_iff_not]
 constructor
 ·intro h hm
  obtain⟨j,hj,e⟩:=List.mem_iff_getElem.1 hm
  have:=h j hj
  simp[a4J,List.getD,List.getElem?_eq_getElem hj,e] at this
 ·intro h j hj
  have e:l.getD j 0=l[j]:=by simp[List.getD,List.getElem?_eq_getElem hj]
  simp only[a4J,beq_eq_false_iff_ne,ne_eq,e]
  intro e2;exact h (e2▸List.getElem_mem hj)
theorem abY:Gd a0h:=abW.add fun n hO p hp=>dS hX hO (by kernel_rfl) (.z (c:=D5 (mF (a4J p.1 p.2) p.1.length)) (fun h=>.w (rC (abX hO p.1 p.2 (hp _ (.head _))) () h) (.v false (by rw[a4K] at h;simp at h;simp[h]))) fun h=>.w (wC (abX hO p.1 p.2 (hp _ (.head _))) 0 h) (.v true (by rw[a4K] at h;simp at h;simp[h])))
theorem abZ {n:Nat} {jG:gK bF} (hO:Ok n jG) (l:List Int) (m:Int) (hl:l.length≤most):Lp n 182 0 (a3q l m 0 []) (z182 l m (mF (a3p l) l.length)).1 (z182 l m (mF (a3p l) l.length)).2:=
 searchL (st:=fun i _=>a3q l m i []) (fun _ _=>True) (by kernel_rfl) hl trivial (fun k s m hk _ ih=>round hX hO (by kernel_rfl) (.b (WC hk) (.o (dB hk) (.ls (.ou nofun) (.nx (ih _ trivial)))))) (fun s _=>round hX hO (by kernel_rfl) (.b (YZ l.length) (.ou nofun)))
theorem ac0:Gd a0i:=abY.add fun n hO p hp=>dS hX hO (by kernel_rfl) (.zh (fun h=>.w (rC (abZ hO p.1 p.2 (hp _ (.head _))) () h) .rr) fun h=>.w (wC (abZ hO p.1 p.2 (hp _ (.head _))) 0 h) .rr)
abbrev a7y (d:Dg) (i k:Int) (b:Br) (x:List (Nat×PE bF)):aP bF:=⟨[(1,.loc 0 0),(4,xi i),(5,.loc 1 0),(6,xi k)]++x,[d.ps,b.ps],[]⟩
def a9v (d:Dg) (i:Nat):Unit⊕Nat→Ex×aP bF
 | .inl _=>(.exit 4,a7y d i (zF d i).kids.length (zF d i) [(57,xl false)])
 | .inr _=>(.ret,⟨[(2,xl false)],[d.ps,(zF d i).ps],[]⟩)
theorem a5q {d:Dg} {r:Int} {i:Nat} (h:vw d r i=true) (h0:0≤r) (hi:i≤d.nodes.length):zl r d.nodes.length:=by
 unfold vw at h
 rw[if_pos (by simpa using h0)] at h
 have:r<(i:Int):=by simpa using h
 exact⟨h0,by omega⟩
theorem ac1 {n:Nat} (hO:Ok n a0i) {d:Dg} (h:DgL d) {i:Nat} (hi:i<d.nodes.length) (hk:(zF d i).kids.length≤most):Lp n 128 2 (a7y d i 0 (zF d i) []) (a9v d i (mF (cLk d i) (zF d i).kids.length)).1 (a9v d i (mF (cLk d i) (zF d i).kids.length)).2:=
 searchL (st:=fun k _=>a7y d i k (zF d i) []) (fun _ _=>True) (by kernel_rfl) hk trivial (fun k s m hk _ ih=>by
  unfold gS cLk
  cases e1:vw d ((zF d i).kids.getD k 0) i
  ·exact round hX hO (by kernel_rfl) (.b (WC hk) (.o (dB hk) (.b (show (!(vw d ((zF d i).kids.getD k 0) i))=true by rw[e1];rfl) (.ou nofun))))
  ·exact round hX hO (by kernel_rfl) (.b (WC hk) (.o (dB hk) (.b (show (!(vw d ((zF d i).kids.getD k 0) i))=false by rw[e1];rfl) (.o (dB hk) (.o h.order (.o (show 0≤(zF d i).kids.getD k 0→zl ((zF d i).kids.getD k 0) d.nodes.length from fun h0=>a5q e1 h0 (by omega)) (.o h.order (.o (show 0≤((i:Nat):Int)→zl i d.nodes.length from fun _=>dB hi) (.ls (.ou nofun) (.nx (ih _ trivial)))))))))))
  ) (fun s _=>round hX hO (by kernel_rfl) (.b (YZ (zF d i).kids.length) (.ou nofun)))
abbrev a7z (d:Dg) (i:Int) (x:List (Nat×PE bF)):aP bF:=⟨[(1,.loc 0 0),(4,xi i)]++x,[d.ps],[]⟩
def a9w (d:Dg):Unit⊕Nat→Ex×aP bF
 | .inl _=>(.exit 2,a7z d d.nodes.length [(25,xl false)])
 | .inr k=>(.ret,⟨[(2,xl false)],[d.ps,(zF d k).ps],[]⟩)
theorem m12 {k:Nat} (h:k≤12):k≤most:=by unfold most;omega
theorem a9x {n:Nat} (hO:Ok n a0i) {d:Dg} (h:DgL d):Lp n 128 1 (a7z d 0 []) (a9w d (mF (cLn d) d.nodes.length)).1 (a9w d (mF (cLn d) d.nodes.length)).2:=
 searchL (st:=fun k _=>a7z d k []) (fun _ _=>True) (by kernel_rfl) h.nodes trivial (fun k s m hk _ ih=>by
  unfold gS cLn
  cases e1:vk (zF d k).var 0 (xw d.sizes)
  ·exact round hX hO (by kernel_rfl) (.b (WC hk) (.o (dB hk) (.b (show (!(vk (zF d k).var 0 (xw d.sizes)))=true by rw[e1];rfl) (.ou nofun))))
  ·have hv:=Qh h.fine e1
   cases e2:(((zF d k).kids.length:Int) != d.sizes.getD (zF d k).var.toNat 0)
   ·have hl:=ac1 hO h hk (m12 (Qi h.fine hv e2))
    cases e3:D5 (mF (cLk d k) (zF d k).kids.length)
    ·exact round hX hO (by kernel_rfl) (.b (WC hk) (.o (dB hk) (.b (show (!(vk (zF d k).var 0 (xw d.sizes)))=false by rw[e1];rfl) (.o hv (.b e2 (.w (wC hl 0 e3) (.ou nofun)))))))
    ·exact round hX hO (by kernel_rfl) (.b (WC hk) (.o (dB hk) (.b (show (!(vk (zF d k).var 0 (xw d.sizes)))=false by rw[e1];rfl) (.o hv (.b e2 (.w (rC hl () e3) (.nx (ih _ trivial))))))))
   ·exact round hX hO (by kernel_rfl) (.b (WC hk) (.o (dB hk) (.b (show (!(vk (zF d k).var 0 (xw d.sizes)))=false by rw[e1];rfl) (.o hv (.b e2 (.ou nofun))))))
  ) (fun s _=>round hX hO (by kernel_rfl) (.b (YZ d.nodes.length) (.ou nofun)))
abbrev a7A (d:Dg) (i:Int) (x:List (Nat×PE bF)):aP bF:=⟨[(1,.loc 0 0),(3,xi i)]++x,[d.ps],[]⟩
def a9y (d:Dg):Unit⊕Nat→Ex×aP bF
 | .inl _=>(.exit 0,a7A d d.ends.length [(11,xl false)])
 | .inr _=>(.ret,⟨[(2,xl false)],[d.ps],[]⟩)
theorem a9z {n:Nat} (hO:Ok n a0i) {d:Dg} (h:DgL d):Lp n 128 0 (a7A d 0 []) (a9y d (mF (cLe d) d.ends.length)).1 (a9y d (mF (cLe d) d.ends.length)).2:=
 searchL (st:=fun k _=>a7A d k []) (fun _ _=>True) (by kernel_rfl) h.ends trivial (fun k s m hk _ ih=>round hX hO (by kernel_rfl) (.b (WC hk) (.o (dB hk) (.ls (.ou nofun) (.nx (ih _ trivial)))))) (fun s _=>round hX hO (by kernel_rfl) (.b (YZ d.ends.length) (.ou nofun)))
theorem ac2:Gd a0j:=ac0.add fun n hO p hp=>dS hX hO (by kernel_rfl) (.zh (fun h=>.w (rC (a9z hO (show DgL p from hp _ (.head _))) () h) (.zh (fun h2=>.w (rC (a9x hO (show DgL p from hp _ (.head _))) () h2) .rr) fun h2=>.w (wC (a9x hO (show DgL p from hp _ (.head _))) 0 h2) .rr)) fun h=>.w (wC (a9z hO (show DgL p from hp _ (.head _))) 0 h) .rr)
theorem aep:Gd a3t:=ac2.add fun n hO p hp=>dS hX hO (by kernel_rfl) (.o (hp _ (.head _)) (.sh (fun _=>.rr) fun h=>.sh (fun _=>.rr) fun h2=>.o (show DgL p from⟨hp _ (.head _),WJ h2,hp _ (.tail _ (.head _)),Jt h⟩) (.ss .rr .rr)))
end Go.Proofs.YtjkgcifieggcpaaGreat
namespace Go.Proofs.YtjkgcifieggcpaaGreat
open Go Tw Pv fA
theorem a1z {l:List Int} {a:Int} (h:l.Nodup) (ha:a∉l):(l++[a]).Nodup:=by
 rw[List.nodup_append]
 exact⟨h,by simp,fun x hx y hy e=>by simp at hy;subst hy;subst e;exact ha hx⟩
theorem a7B {d:Dg}:∀ (F:Nat) (r s:Int) (x:List Int×List Int),r<s→s∉x.1→0≤s→(∀ i,i<d.nodes.length→∀ k,k<(zF d i).kids.length→(zF d i).kids.getD k 0<i)→(0≤r→zl r d.nodes.length)→s∉(TJ d F r x).1
 | 0,_,_,_,_,h,_,_,_=>h
 | F+1,r,s,x,hr,h,h0,hk,hn=>by
  unfold TJ
  by_cases c:r<0
  ·rw[if_pos (by simpa using c)]
   split<;>exact h
  ·rw[if_neg (by simpa using c)]
   split
   ·exact h
   ·have hi:=hn (by omega)
    have hn2:∀ k,k<(fZ d r).kids.length→(fZ d r).kids.getD k 0<r:=fun k hk2=>by
     obtain⟨i1,i2⟩:=hi
     have h9:(fZ d r).kids.getD k 0<(r.toNat:Int):=hk r.toNat (by omega) k hk2
     omega
    have:=NC (g:=fun k y=>TJ d F ((fZ d r).kids.getD k 0) y) (m:=(fZ d r).kids.length) (k:=0) (s:=x) (fun _ y=>s∉y.1) h (fun j y _ hj hy=>by
     have h4:=hn2 j (by omega)
     exact a7B F _ s y (by omega) hy h0 hk fun h5=>⟨h5,by have:=hi.2;omega⟩)
    simp only[List.mem_append,List.mem_singleton,not_or]
    exact⟨this,by omega⟩
theorem a2H {d:Dg} (h:O5 d):∀ (F:Nat) (r:Int) (x:List Int×List Int),a0k d x→BL d r d.nodes.length→a0k d (TJ d F r x)
 | 0,_,_,hx,_=>hx
 | F+1,r,x,hx,hr=>by
  unfold TJ
  by_cases c:r<0
  ·rw[if_pos (by simpa using c)]
   split
   ·rename_i c2
    have c2:yQ r∉x.2:=by simpa using c2
    refine⟨hx.n1,hx.n2,a1z hx.e1 c2,fun a ha=>?_⟩
    rw[List.mem_append,List.mem_singleton] at ha
    rcases ha with ha | rfl
    ·exact hx.e2 a ha
    ·exact hr.2 c
   ·exact hx
  ·rw[if_neg (by simpa using c)]
   split
   ·exact hx
   ·rename_i c2
    have c2:r∉x.1:=by simpa using c2
    have hi:zl r d.nodes.length:=⟨by omega,hr.1⟩
    have hlt:r.toNat<d.nodes.length:=by have:=hr.1;omega
    have h1:=NC (g:=fun k y=>TJ d F ((fZ d r).kids.getD k 0) y) (m:=(fZ d r).kids.length) (k:=0) (s:=x) (fun _ y=>a0k d y∧r∉y.1) ⟨hx,c2⟩ (fun j y _ hj hy=>by
     have hk:BL d ((fZ d r).kids.getD j 0) r.toNat:=h.kid r.toNat hlt j (by simpa using hj)
     obtain⟨k1,k2⟩:=hk
     have hk2:BL d ((fZ d r).kids.getD j 0) d.nodes.length:=⟨by omega,k2⟩
     refine⟨a2H h F _ y hy.1 hk2,a7B F _ r y (by omega) hy.2 (by omega) (fun i hi k hk=>(h.kid i hi k hk).1) fun h5=>⟨h5,hk2.1⟩⟩)
    obtain⟨h2,h3⟩:=h1
    refine⟨a1z h2.n1 h3,fun a ha=>?_,h2.e1,h2.e2⟩
    rw[List.mem_append,List.mem_singleton] at ha
    rcases ha with ha | rfl
    ·exact h2.n2 a ha
    ·exact hi
abbrev wSr (d:Dg) (r:Int) (k:Int) (s:List Int×List Int) (x:List (Nat×PE bF)):aP bF:=⟨[(1,xi r),(2,xo 2),(3,xo 3),(4,.loc 0 0),(10,.loc 1 0),(11,xi k)]++x,[d.ps,(fZ d r).ps],[.gone,.gone,ls s.1,ls s.2]⟩
abbrev ac3 (n:Nat) (d:Dg) (r:Int) (x y:List Int×List Int):Prop:=nH X0 Tryz.prog (ApN n) (.fn 181 [] []) [.agg d.ps,.int .i64 r,.own 0,.own 1] [ls x.1,ls x.2] (.bf [.own 2,.own 3]) [.gone,.gone,ls y.1,ls y.2]
theorem sSr {N:Nat} (hO:∀ m,N≤m→Ok m a3t) {d:Dg} (h:O5 d):∀ (F:Nat) (r:Int) (x:List Int×List Int),r+1<F→a0k d x→BL d r d.nodes.length→1≤F→ac3 (N+F) d r x (TJ d F r x)
 | 0,r,x,_,_,_,h1=>by omega
 | F+1,r,x,hF,hx,hr,_=>by
  have hn:=hx.len.1
  have he:=hx.len.2
  have m1:=h.nodes
  have m2:=h.ends
  have hO1:=hO (N+F) (by omega)
  have mn:x.1.length≤most:=by omega
  have me:x.2.length≤most:=by omega
  unfold TJ
  by_cases c:r<0
  ·have t0:decide (r<0)=true:=by simpa using c
   rw[if_pos t0]
   by_cases c2:yQ r∈x.2
   ·have t1:(!(decide (yQ r∈x.2)))=false:=by simpa using c2
    rw[if_neg (by rw[t1];simp)]
    exact nH.gs hX (WE hX hO1 (first:=[]) (cap:=[]) (v:=.bf [.own 0,.own 1]) (H1:=[ls x.1,ls x.2]) (by kernel_rfl) (.b t0 (.o me (.b t1 .er)))) [.mv 0,.mv 1] rfl
   ·have t1:(!(decide (yQ r∈x.2)))=true:=by simpa using c2
    rw[if_pos t1]
    have e1:=rJ _ _ (a1z hx.e1 c2) (fun a ha=>by
     rw[List.mem_append,List.mem_singleton] at ha
     rcases ha with ha | rfl
     ·exact hx.e2 a ha
     ·exact hr.2 c)
    have e2:x.2.length+[yQ r].length≤most:=by rw[←List.length_append];omega
    exact nH.gs hX (WE hX hO1 (first:=[]) (cap:=[]) (v:=.bf [.own 0,.own 3]) (H1:=[ls x.1,.gone,.list true true 3 ([yQ r]:List Int),ls (x.2++[yQ r])]) (by kernel_rfl) (.b t0 (.o me (.b t1 (.o e2 .er))))) [.mv 0,.gc [4,3]] rfl
  ·have t0:decide (r<0)=false:=by simpa using c
   rw[if_neg (by rw[t0];simp)]
   by_cases c2:r∈x.1
   ·have t1:decide (r∈x.1)=true:=by simpa using c2
    rw[if_pos t1]
    exact nH.gs hX (WE hX hO1 (first:=[]) (cap:=[]) (v:=.bf [.own 0,.own 1]) (H1:=[ls x.1,ls x.2]) (by kernel_rfl) (.b t0 (.o mn (.b t1 .er)))) [.mv 0,.mv 1] rfl
   ·have t1:decide (r∈x.1)=false:=by simpa using c2
    rw[if_neg (by rw[t1];simp)]
    have hi:zl r d.nodes.length:=⟨by omega,hr.1⟩
    obtain⟨i1,i2⟩:=id hi
    have hlt:r.toNat<d.nodes.length:=by omega
    have hl:LpB (N+F) 181 0 2 (wSr d r 0 x []) (.exit 0) (wSr d r (fZ d r).kids.length (qj (fun k y=>TJ d F ((fZ d r).kids.getD k 0) y) (fZ d r).kids.length 0 x) [(40,xl false)]):=by
     refine a0V (σ:=List Int×List Int) (N:=(fZ d r).kids.length) (g:=fun k y=>TJ d F ((fZ d r).kids.getD k 0) y) (s0:=x) (st:=fun k y=>wSr d r k y []) (fin:=fun y=>wSr d r (fZ d r).kids.length y [(40,xl false)]) (fun _ y=>a0k d y) (by kernel_rfl) (m12 (h.a3u r.toNat hlt)) hx (fun k y hk hy=>?_) (fun k y hk hy m e p g=>?_) (fun y _=>round hX hO1 (by kernel_rfl) (.b (YZ (fZ d r).kids.length) .ex))
     ·have hk:BL d ((fZ d r).kids.getD k 0) r.toNat:=h.kid r.toNat hlt k hk
      have k1:(fZ d r).kids.getD k 0<(r.toNat:Int):=hk.1
      exact a2H h F _ y hy ⟨by omega,hk.2⟩
     ·have hk2:BL d ((fZ d r).kids.getD k 0) r.toNat:=h.kid r.toNat hlt k hk
      have k1:=hk2.1
      have hs:=sSr hO h F ((fZ d r).kids.getD k 0) y (by omega) hy ⟨by omega,hk2.2⟩ (by omega)
      exact round hX hO1 (by kernel_rfl) (.b (WC hk) (.o (dB hk) (.fr [2,3] hs (.goG [.gc [4,5]] g))))
    generalize hy:qj (fun k y=>TJ d F ((fZ d r).kids.getD k 0) y) (fZ d r).kids.length 0 x=y at hl
    have sk:=a2H h (F+1) r x hx hr
    unfold TJ at sk
    rw[if_neg (by rw[t0];simp),if_neg (by rw[t1];simp),hy] at sk
    have sl:(y.1++[r]).length≤d.nodes.length:=sk.len.1
    have ml:y.1.length+[r].length≤most:=by rw[←List.length_append];omega
    exact nH.gs hX (WE hX hO1 (first:=[]) (cap:=[]) (v:=.bf [.own 5,.own 3]) (H1:=[.gone,.gone,.gone,ls y.2,.list true true 3 ([r]:List Int),ls (y.1++[r])]) (by kernel_rfl) (.b t0 (.o mn (.b t1 (.o hi (.wG [.mv 0,.mv 1] hl (.o ml .er))))))) [.gc [5,3]] rfl
abbrev wSn (d:Dg) (r:Int) (k:Int) (s:List Int×List Int) (x:List (Nat×PE bF)):aP bF:=⟨[(1,xi r),(2,xo 0),(3,xo 1),(4,.loc 0 0),(10,.loc 1 0),(11,xi k)]++x,[d.ps,(fZ d r).ps],[ls s.1,ls s.2]⟩
theorem sr0 {d:Dg}:a0k d ([],[]):=⟨List.nodup_nil,by simp,List.nodup_nil,by simp⟩
theorem ac5:Gd a0l:=aep.deep 6001 fun n hn hO p hp=>by
 obtain⟨d,r,_,_⟩:=p
 have h:O5 d:=hp _ (.head _)
 have hr:BL d r d.nodes.length:=hp _ (.tail _ (.head _))
 have hm:d.nodes.length≤6000:=hp _ (.tail _ (.tail _ (.head _)))
 obtain⟨N,rfl⟩:∃ N,n=N+6001:=⟨n-6001,by omega⟩
 have hO:∀ m,N≤m→Ok m a3t:=fun m hm=>hO m (by omega)
 have hO1:=hO (N+6001) (by omega)
 by_cases c:r<0
 ·have t0:decide (r<0)=true:=by simpa using c
  have t1:(!(decide (yQ r∈([]:List Int))))=true:=by simp
  have e:TJ d 6002 r ([],[])=([],[yQ r]):=by
   rw[TJ,if_pos t0,if_pos t1];rfl
  show VW X0 Tryz.prog _ _ _ ((PY (a2 isA isA)).put ((TJ d 6002 r ([],[])).1,(TJ d 6002 r ([],[])).2)) []
  rw[e]
  exact dS hX hO1 (by kernel_rfl) (.b t0 (.o le0 (.b t1 (.o le1 (.rn (.bf [.nil .slc,.lst 3 ([yQ r]:List Int) false]) rfl)))))
 ·have t0:decide (r<0)=false:=by simpa using c
  have t1:decide (r∈([]:List Int))=false:=by simp
  have hi:zl r d.nodes.length:=⟨by omega,hr.1⟩
  obtain⟨i1,i2⟩:=id hi
  have hlt:r.toNat<d.nodes.length:=by omega
  have hl:LpB (N+6001) 181 0 0 (wSn d r 0 ([],[]) []) (.exit 0) (wSn d r (fZ d r).kids.length (qj (fun k y=>TJ d 6001 ((fZ d r).kids.getD k 0) y) (fZ d r).kids.length 0 ([],[])) [(40,xl false)]):=by
   refine a0V (σ:=List Int×List Int) (N:=(fZ d r).kids.length) (g:=fun k y=>TJ d 6001 ((fZ d r).kids.getD k 0) y) (s0:=(([],[]):List Int×List Int)) (st:=fun k y=>wSn d r k y []) (fin:=fun y=>wSn d r (fZ d r).kids.length y [(40,xl false)]) (fun _ y=>a0k d y) (by kernel_rfl) (m12 (h.a3u r.toNat hlt)) sr0 (fun k y hk hy=>?_) (fun k y hk hy m e p g=>?_) (fun y _=>round hX hO1 (by kernel_rfl) (.b (YZ (fZ d r).kids.length) .ex))
   ·have hk:BL d ((fZ d r).kids.getD k 0) r.toNat:=h.kid r.toNat hlt k hk
    have k1:(fZ d r).kids.getD k 0<(r.toNat:Int):=hk.1
    exact a2H h 6001 _ y hy ⟨by omega,hk.2⟩
   ·have hk2:BL d ((fZ d r).kids.getD k 0) r.toNat:=h.kid r.toNat hlt k hk
    have k1:(fZ d r).kids.getD k 0<(r.toNat:Int):=hk2.1
    have hs:=sSr hO h 6001 ((fZ d r).kids.getD k 0) y (by omega) hy ⟨by omega,hk2.2⟩ (by omega)
    exact round hX hO1 (by kernel_rfl) (.b (WC hk) (.o (dB hk) (.fr [0,1] hs (.goG [.gc [2,3]] g))))
  have sk:=a2H h 6002 r ([],[]) sr0 hr
  have e:TJ d 6002 r ([],[])=((qj (fun k y=>TJ d 6001 ((fZ d r).kids.getD k 0) y) (fZ d r).kids.length 0 ([],[])).1++[r],(qj (fun k y=>TJ d 6001 ((fZ d r).kids.getD k 0) y) (fZ d r).kids.length 0 ([],[])).2):=by
   rw[TJ,if_neg (by rw[t0];simp),if_neg (by rw[t1];simp)]
  show VW X0 Tryz.prog _ _ _ ((PY (a2 isA isA)).put ((TJ d 6002 r ([],[])).1,(TJ d 6002 r ([],[])).2)) []
  rw[e] at sk ⊢
  generalize qj (fun k y=>TJ d 6001 ((fZ d r).kids.getD k 0) y) (fZ d r).kids.length 0 ([],[])=y at hl sk
  have sl:(y.1++[r]).length≤d.nodes.length:=sk.len.1
  have m1:=h.nodes
  have ml:y.1.length+[r].length≤most:=by rw[←List.length_append];omega
  exact dS hX hO1 (by kernel_rfl) (.b t0 (.o le0 (.b t1 (.o hi (.wG [.J7 2 3,.J7 3 3] hl (.o ml .rr))))))
end Go.Proofs.YtjkgcifieggcpaaGreat
namespace Go.Proofs.YtjkgcifieggcpaaGreat
open Go Tw Pv fA
abbrev wD (d:Dg) (x:List (Nat×PE bF)):aP bF:=⟨[(1,.loc 0 0)]++x,[d.ps],[]⟩
abbrev rD (d:Dg):Ex×aP bF:=(.ret,⟨[(2,xl false)],[d.ps],[]⟩)
def zD1 (d:Dg) (i:Nat):Unit⊕Nat→Ex×aP bF
 | .inl _=>(.exit 2,wD d [(3,xi i),(4,xi i),(18,xl false)])
 | .inr _=>rD d
theorem lD1 {n:Nat} {jG:gK bF} (hO:Ok n jG) {d:Dg} (h:DgL d) {i:Nat} (hi:i<d.ends.length):Lp n 137 1 (wD d [(3,xi i),(4,xi 0)]) (zD1 d i (mF (cD1 d i) i)).1 (zD1 d i (mF (cD1 d i) i)).2:=
 searchL (st:=fun j _=>wD d [(3,xi i),(4,xi j)]) (fun _ _=>True) (by kernel_rfl) (by have:=h.ends;omega) trivial (fun j s m hj _ ih=>round hX hO (by kernel_rfl) (.b (WC hj) (.o (dB (show j<d.ends.length by omega)) (.o (dB hi) (.q (.bool (cD1 d i j)) (D6 (.tmp 25) (.tmp 30) (d.ends.getD j V0) (d.ends.getD i V0)) (.ls (.ou nofun) (.nx (ih _ trivial)))))))) (fun s _=>round hX hO (by kernel_rfl) (.b (YZ i) (.ou nofun)))
def zD0 (d:Dg):Unit⊕Nat→Ex×aP bF
 | .inl _=>(.exit 0,wD d [(3,xi d.ends.length),(13,xl false)])
 | .inr _=>rD d
theorem lD0 {n:Nat} {jG:gK bF} (hO:Ok n jG) {d:Dg} (h:DgL d):Lp n 137 0 (wD d [(3,xi 0)]) (zD0 d (mF (cD0 d) d.ends.length)).1 (zD0 d (mF (cD0 d) d.ends.length)).2:=
 searchL (st:=fun i _=>wD d [(3,xi i)]) (fun _ _=>True) (by kernel_rfl) h.ends trivial (fun i s m hi _ ih=>by
  have hl:=lD1 hO h hi
  unfold gS cD0
  cases e:D5 (mF (cD1 d i) i)
  ·exact round hX hO (by kernel_rfl) (.b (WC hi) (.w (wC hl 0 e) (.ou nofun)))
  ·exact round hX hO (by kernel_rfl) (.b (WC hi) (.w (rC hl () e) (.nx (ih _ trivial))))
  ) (fun s _=>round hX hO (by kernel_rfl) (.b (YZ d.ends.length) (.ou nofun)))
def zD3 (d:Dg) (i:Nat):Unit⊕Nat→Ex×aP bF
 | .inl _=>(.exit 6,wD d [(5,xi i),(6,xi i),(47,xl false)])
 | .inr _=>rD d
theorem lD3 {n:Nat} (hO:Ok n a0l) {d:Dg} (h:O5 d) {i:Nat} (hi:i<d.nodes.length):Lp n 137 3 (wD d [(5,xi i),(6,xi 0)]) (zD3 d i (mF (cD3 d i) i)).1 (zD3 d i (mF (cD3 d i) i)).2:=
 searchL (st:=fun j _=>wD d [(5,xi i),(6,xi j)]) (fun _ _=>True) (by kernel_rfl) (by have:=h.nodes;omega) trivial (fun j s m hj _ ih=>by
  have hj2:j<d.nodes.length:=by omega
  unfold gS cD3
  cases e:((zF d j).var==(zF d i).var)
  ·exact round hX hO (by kernel_rfl) (.b (WC hj) (.o (dB hj2) (.o (dB hi) (.b e (.nx (ih _ trivial))))))
  ·exact round hX hO (by kernel_rfl) (.b (WC hj) (.o (dB hj2) (.o (dB hi) (.b e (.o (dB hj2) (.o (dB hi) (.o (m12 (h.a3u j hj2)) (.ls (.ou nofun) (.nx (ih _ trivial))))))))))
  ) (fun s _=>round hX hO (by kernel_rfl) (.b (YZ i) (.ou nofun)))
def zD2 (d:Dg):Unit⊕Nat→Ex×aP bF
 | .inl _=>(.exit 4,wD d [(5,xi d.nodes.length),(36,xl false)])
 | .inr _=>rD d
theorem lD2 {n:Nat} (hO:Ok n a0l) {d:Dg} (h:O5 d):Lp n 137 2 (wD d [(5,xi 0)]) (zD2 d (mF (cD2 d) d.nodes.length)).1 (zD2 d (mF (cD2 d) d.nodes.length)).2:=
 searchL (st:=fun i _=>wD d [(5,xi i)]) (fun _ _=>True) (by kernel_rfl) h.nodes trivial (fun i s m hi _ ih=>by
  have hl:=lD3 hO h hi
  unfold gS cD2
  cases e1:Qg (zF d i)
  ·cases e:D5 (mF (cD3 d i) i)
   ·exact round hX hO (by kernel_rfl) (.b (WC hi) (.o (dB hi) (.o (m12 (h.a3u i hi)) (.b e1 (.w (wC hl 0 e) (.ou nofun))))))
   ·exact round hX hO (by kernel_rfl) (.b (WC hi) (.o (dB hi) (.o (m12 (h.a3u i hi)) (.b e1 (.w (rC hl () e) (.nx (ih _ trivial)))))))
  ·exact round hX hO (by kernel_rfl) (.b (WC hi) (.o (dB hi) (.o (m12 (h.a3u i hi)) (.b e1 (.ou nofun)))))
  ) (fun s _=>round hX hO (by kernel_rfl) (.b (YZ d.nodes.length) (.ou nofun)))
theorem a6l {d:Dg} (h:O5 d):(srN d d.root).length≤most∧(srE d d.root).length≤most:=by
 have hl:=(a2H h 6002 d.root ([],[]) sr0 h.root).len
 exact⟨Nat.le_trans hl.1 h.nodes,Nat.le_trans hl.2 h.ends⟩
theorem ac6:Gd a0m:=ac5.add fun n hO p hp=>dS hX hO (by kernel_rfl) (.zh (fun h=>.w (rC (lD0 hO (show O5 p from hp _ (.head _)).toDgL) () h) (.zh (fun h2=>.w (rC (lD2 hO (show O5 p from hp _ (.head _))) () h2) (.o (hp _ (.head _)) (.o (show O5 p from hp _ (.head _)).root (.o (hp _ (.tail _ (.head _))) (.o (a6l (hp _ (.head _))).1 (.ss (.o (a6l (hp _ (.head _))).2 .rr) .rr)))))) fun h2=>.w (wC (lD2 hO (show O5 p from hp _ (.head _))) 0 h2) .rr)) fun h=>.w (wC (lD0 hO (show O5 p from hp _ (.head _)).toDgL) 0 h) .rr)
theorem ac8:Gd a0o:=ac6.add fun n hO p hp=>dS hX hO (by kernel_rfl) (.o (hp _ (.head _)) (.o (hp _ (.tail _ (.head _))) (.sh (fun _=>.rr) fun h=>.o (sH (hp _ (.head _)) (hp _ (.tail _ (.head _))) h).1 (.o (sH (hp _ (.head _)) (hp _ (.tail _ (.head _))) h).2 (.ss .rr .rr)))))
end Go.Proofs.YtjkgcifieggcpaaGreat
namespace Go.Proofs.YtjkgcifieggcpaaGreat
open Go Tw Pv fA
def gAt (d:Dg) (p:List Int) (r:Int):Int⊕Int:=if decide (r≥0)=true then .inl ((fZ d r).kids.getD (p.getD (fZ d r).var.toNat 0).toNat 0) else .inr r
theorem a7C {d:Dg} {p:List Int}:∀ (F:Nat) (r:Int),WL d p F r<0→itF (gAt d p) (F+1) r=some (WL d p F r)
 | 0,r,h=>by
  have h:r<0:=h
  have e:gAt d p r=.inr r:=by unfold gAt;rw[if_neg (by simpa using h)]
  rw[itF,e];rfl
 | F+1,r,h=>by
  by_cases c:r<0
  ·have e:gAt d p r=.inr r:=by unfold gAt;rw[if_neg (by simpa using c)]
   rw[itF,e,WL,if_pos c]
  ·have e:gAt d p r=.inl ((fZ d r).kids.getD (p.getD (fZ d r).var.toNat 0).toNat 0):=by unfold gAt;rw[if_pos (by simp;omega)]
   rw[WL,if_neg c] at h
   rw[itF,e,WL,if_neg c]
   exact a7C F _ h
theorem a2R {d:Dg} (h:O5 d) {p:List Int} (hp:xB d.sizes p=true):∀ (F:Nat) (r:Int),r<F→BL d r d.nodes.length→BL d (WL d p F r) 0
 | 0,r,hr,hk=>⟨by show r<((0:Nat):Int);omega,hk.2⟩
 | F+1,r,hr,hk=>by
  unfold WL
  split
  ·rename_i c;exact⟨by show r<((0:Nat):Int);omega,hk.2⟩
  ·rename_i c
   have:=(Qk h hp (r:=r) ⟨by omega,hk.1⟩).2.2
   obtain⟨a1,a2⟩:=this
   have a3:r<(d.nodes.length:Int):=hk.1
   exact a2R h hp F _ (by omega) ⟨by omega,a2⟩
abbrev wAt (d:Dg) (p:List Int) (r:Int) (x:List (Nat×PE bF)):aP bF:=⟨[(1,xL 3 p),(2,.loc 0 0),(4,.loc 1 0),(5,xi r)]++x,[d.ps,V0.ps],[]⟩
theorem lAt {n:Nat} {jG:gK bF} (hO:Ok n jG) {d:Dg} (h:O5 d) (hm:d.nodes.length≤6000) {p:List Int} (hp:xB d.sizes p=true):Lp n 85 0 (wAt d p d.root []) (.exit 0) (wAt d p (atR d p) [(9,xl false)]):=by
 have h0:d.root<(d.nodes.length:Int):=h.root.1
 have ha:=a2R h hp 6001 d.root (by omega) h.root
 have hit:=a7C 6001 d.root ha.1
 refine a7x (st:=fun r=>wAt d p r []) (g:=gAt d p) (out:=fun r=>(.exit 0,wAt d p r [(9,xl false)])) (fun r=>BL d r d.nodes.length) hit (by kernel_rfl) (by decide) h.root ?_ ?_
 ·intro r r1 hr e
  unfold gAt at e
  split at e
  ·rename_i c
   have c:0≤r:=by simpa using c
   cases e
   have:=(Qk h hp (r:=r) ⟨c,hr.1⟩).2.2
   have a3:r<(d.nodes.length:Int):=hr.1
   obtain⟨a1,a2⟩:=this
   exact⟨by omega,a2⟩
  ·cases e
 ·intro r m r' hr ih
  by_cases c:0≤r
  ·have hk:=Qk h hp (r:=r) ⟨c,hr.1⟩
   have t1:decide (r≥0)=true:=by simpa using c
   have e:gAt d p r=.inl ((fZ d r).kids.getD (p.getD (fZ d r).var.toNat 0).toNat 0):=by unfold gAt;rw[if_pos t1]
   have g:=ih _ e
   rw[e]
   have hr2:zl r d.nodes.length:=⟨c,hr.1⟩
   exact round hX hO (by kernel_rfl) (.b t1 (.o hr2 (.o hr2 (.o hk.1 (.o hk.2.1 (.go g))))))
  ·have t1:decide (r≥0)=false:=by simpa using c
   have e:gAt d p r=.inr r:=by unfold gAt;rw[if_neg (by rw[t1];simp)]
   rw[e]
   dsimp only[a2b]
   exact round hX hO (by kernel_rfl) (.b t1 .ex)
theorem a6m {d:Dg} (h:O5 d) (hm:d.nodes.length≤6000) {p:List Int} (hp:xB d.sizes p=true):zl (yQ (atR d p)) d.ends.length:=by
 have h0:d.root<(d.nodes.length:Int):=h.root.1
 have ha:=a2R h hp 6001 d.root (by omega) h.root
 exact ha.2 ha.1
theorem aer:Gd a3v:=ac8.add fun n hO p hp=>dS hX hO (by kernel_rfl) (.w (lAt hO (hp _ (.head _)) (hp _ (.tail _ (.head _))) (hp _ (.tail _ (.tail _ (.head _))))) (.o (a6m (hp _ (.head _)) (hp _ (.tail _ (.head _))) (hp _ (.tail _ (.tail _ (.head _))))) .rr))
end Go.Proofs.YtjkgcifieggcpaaGreat
namespace Go.Proofs.YtjkgcifieggcpaaGreat
open Go Tw Pv fA
theorem a8Y {A:Nat→Prop} {m:List MB} {h:List HB} {l:List Int} {cs:List TV} (hr:aZ X0 Tryz.prog A m h 3 l cs 0 1) (hc:cs.length=l.length):cs=l.map fun n=>TV.int .i64 n:=by
 apply List.ext_getElem (by simp[hc])
 intro j h1 h2
 have hj:j<l.length:=by omega
 have:=hr.2.2 j l[j] 0 (.int .i64 l[j]) cs[j] (List.getElem?_eq_getElem hj) rfl (by rw[List.getElem?_eq_some_iff];exact⟨by omega,by simp⟩)
 rw[this.a8Q];simp
theorem a4L:∀ l:List Int,GX (l.map fun n=>TV.int .i64 n)=some l
 | []=>rfl
 | a::l=>by simp[GX,a4L l]
theorem a6U {A:Nat→Prop} {m:List MB} {h:List HB} (l:List Int):aZ X0 Tryz.prog A m h 3 l (l.map fun n=>TV.int .i64 n) 0 1:=by
 refine⟨fun j a _=>rfl,by simp only[List.length_map,Nat.mul_one,Nat.zero_add];exact Nat.le_refl _,fun j a i c v hj hi hv=>?_⟩
 have hj2:=(List.getElem?_eq_some_iff.1 hj).1
 cases i with
 | zero=>
  have hi:some (PV.int .i64 a)=some c:=hi
  cases hi
  have hj:(l:List Int)[j]? = some a:=hj
  rw[Nat.zero_add,Nat.mul_one,Nat.add_zero,List.getElem?_map,hj] at hv
  have hv:some (TV.int .i64 a)=some v:=hv
  cases hv
  exact .int _ _
 | succ i=>have hi:([]:List (PV bF))[i]? = some c:=hi;simp at hi
theorem a6n:sizeT Tryz.prog 3=some 1:=by kernel_rfl
theorem a7D (n:Nat) (x:TV) (h:List HB):yw Tryz.prog T LL (n+1) (.fn 104 [] []) [x] h=Qb 104 (.fn 104 [] []) [x] h:=rfl
theorem a8Z {f c:Nat} {h:List HB} {kk rU:BK} {cs:List TV} {l:List Int} {e:Bool} (hb:h[c]? = some (.cells kk cs)) (hk:oN kk true=some rU) (hcs:cs=l.map fun n=>TV.int .i64 n) (h0:0<l.length) (h1:l.length≤2^20) :
  Qb f (.fn f [] []) [.slc c 0 l.length l.length 1 e] h=some (.bf [],h.set c (.cells rU ((sG l).map fun n=>TV.int .i64 n)),[c]):=by
 have hcl:cs.length=l.length:=by rw[hcs,List.length_map]
 have him:GX cs=some l:=by rw[hcs];exact a4L l
 generalize l.length=n at *
 obtain⟨j,rfl⟩:∃ j,n=j+1:=⟨n-1,by omega⟩
 simp only[Qb,Qa,if_true,hb,hk,him,hcl,h0,h1,and_self]
theorem ac9 {n:Nat} {k ex:Bool} (l:List Int) (hl:l.length≤2^20):nH X0 Tryz.prog (ApN (n+1)) (.fn 104 [] []) [.own 0] [.list k ex 3 l] (.bf []) [.list k ex 3 (sG l)]:=by
 intro A m h tf kY hr hf hx
 obtain⟨x,r,rfl,h1,h2⟩:=hx.inv
 have:=h2.inv0
 subst this
 obtain⟨g1,g2⟩:=a8R hr (i:=0) (k:=k) (ex:=ex) (t:=3) (l:=l) rfl h1
 have htf:=hf.a7n
 subst htf
 show ∃ w h1 ws m1,yw Tryz.prog T LL (n+1) _ _ h=_∧_
 rw[a7D]
 have hnil:sG ([]:List Int)=[]:=by simp[sG]
 have hE:∀ h0:(l:List Int)=[],sG l=l:=fun h0=>by rw[h0];exact hnil
 rcases a9V g2 with⟨h0,rfl⟩ | ⟨h0,b,off,sz,cs,rfl,p0,p1,p2,p3,p4⟩ | ⟨p1,c,sz,e,kk,cs,rfl,p2,p3,p4,p5,p6,p7,p8,p9⟩
 ·rw[hE h0];exact⟨.bf [],h,[],m,rfl,hr,.bf rfl (fun i x y hx=>by simp at hx),.refl,.refl,fun b hb=>by cases hb⟩
 ·rw[hE h0];exact⟨.bf [],h,[],m,rfl,hr,.bf rfl (fun i x y hx=>by simp at hx),.refl,.refl,fun b hb=>by cases hb⟩
 ·rw[a6n] at p2
  cases p2
  have p8:cs.length=(l:List Int).length*1:=p8
  have hcl:cs.length=l.length:=by omega
  have hcs:=a8Y p9 hcl
  have hn0:0<l.length:=by cases l with | nil=>exact absurd rfl p1 | cons=>simp
  obtain⟨rU,hkk,a2A,hko⟩:=DN p5
  have hlt:=(List.getElem?_eq_some_iff.1 p4).1
  have hown:(MB.lst (TV.slc c 0 l.length l.length 1 e)).own=some c:=by simp only[MB.own];rw[if_neg (by omega)]
  have hsl:(sG l).length=l.length:=by unfold sG;rw[List.length_mergeSort]
  have hne:sG l≠[]:=fun e0=>by rw[e0] at hsl;simp at hsl;omega
  obtain⟨q1,q2⟩:=hr.set (i:=0) (c:=c) (pb:=.list k ex 3 (sG l)) (hb:=.cells rU ((sG l).map fun n=>TV.int .i64 n)) g1 hown
   (fun cs2 hc2=>⟨_,by simp only[aB];rw[List.getElem?_set_self hlt],by
    simp only[aB,p4,Option.some.injEq] at hc2;subst hc2;rw[List.length_map,hsl,hcl];exact Nat.le_refl _⟩)
   (fun hF=>by
    have r:=LR.some (X:=X0) (P:=Tryz.prog) (A:=AA A m) (m:=m) (k:=k) (ex:=ex) (e:=e) (t:=3) (b:=c) (kk:=rU) hne a6n (by decide) (by rw[List.getElem?_set_self hlt]) a2A (fun e0=>hko (p6 e0)) p7 (by rw[List.length_map,Nat.mul_one];rfl) (a6U (sG l))
    have hsl2:@List.length (X0.Γ 3) (sG l)=l.length:=hsl
    rw[hsl2] at r
    exact r)
  refine⟨.bf [],_,[c],m,?_,q1,.bf rfl (fun i x y hx=>by simp at hx),q2,.refl,fun d hd=>?_⟩
  ·exact a8Z p4 hkk hcs hn0 hl
  ·simp at hd;subst hd;exact aC g1 hown
end Go.Proofs.YtjkgcifieggcpaaGreat
namespace Pv
open Go Tw
variable {X:gZ} {P:Program}
theorem VW.aa6 (hX:aT X P) {call:ay} {f:FuncId} {xs vs:List (PV X.Γ)} {v v':PV X.Γ} {ext ext':List (PB X.Γ)} (hc:VW X P call f vs v ext) (hv:views [] ([]++xs++[])=some vs) (hs:jY X 0 ext=some ext')
  (e:shift 0 v=v') (he:(if oL v||ext.any (hasB X) then aI (owns.kR ([]++xs++[])) [] else [])=([]:List (PB X.Γ))):nH X P call (.fn f [] []) xs [] v' ext':=by
 subst e
 intro A m h tf kY hr hf hx
 have htf:=hf.a7n
 subst htf
 obtain⟨w,h',m1,c1,c2,c3,c4,c5⟩:=Tc hX hc hr hv hs (t1:=[]) (t3:=[]) .nil hx .nil
 rw[he] at c2
 exact⟨w,h',[],m1,c1,c2,c3,c4,c5,fun b hb=>by cases hb⟩
end Pv
namespace Go.Proofs.YtjkgcifieggcpaaGreat
open Go Tw Pv fA
theorem clone_nil (n:Nat) (h:List HB):N8 Tryz.prog T (ApN n) LL 103 [.nil .slc] h=some (.nil .slc,h,[]):=by kernel_rfl
theorem a6V (n b off cap:Nat) (ex:Bool) (h:List HB):N8 Tryz.prog T (ApN n) LL 103 [.slc b off 0 cap 1 ex] h=some (.slc h.length 0 0 0 1 true,h++[.cells .own []],[]):=by kernel_rfl
theorem aa7 {n:Nat}:VW X0 Tryz.prog (ApN (n+1)) 103 [.lst 3 ([]:List Int) false] (.own 0) (lsI []):=by
 intro A h first args cap hup hv
 obtain⟨x,r,e,h1,h2⟩:=hv.inv
 have:=h2.inv0
 subst this
 have hun:yw Tryz.prog T LL (n+1) (.fn 103 first cap) args h=N8 Tryz.prog T (ApN n) LL 103 [x] h:=by
  rw[←e]
  show yw Tryz.prog T LL (n+1) _ _ _=_
  rw[yw,if_neg (by decide),if_neg (by decide)]
 rcases a7o h1 with rfl | ⟨b,off,cap',sz,ex,cs,rfl,a1,a2,a3,a4,a5⟩
 ·exact⟨.nil .slc,h,[.lst (.nil .slc)],by rw[←clone_nil n h,←hun],a5i hup .nil rfl,.own rfl rfl,⟨Nat.le_refl _,fun _ _ _=>rfl,fun b hb=>by simp[blks,MB.own] at hb,fun b cs hc=>⟨cs,hc,Nat.le_refl _⟩⟩⟩
 ·rw[a6n] at a3
  cases a3
  have hc:aB (h++[HB.cells .own []]) h.length=some []:=by unfold aB;rw[List.getElem?_append_right (Nat.le_refl _),Nat.sub_self];rfl
  refine⟨.slc h.length 0 0 0 1 true,h++[.cells .own []],[.lst (.slc h.length 0 0 0 1 true)],by rw[←a6V n b off cap' ex h,←hun],a5i (fun b hb=>hup b (by simp at hb;omega)) (.emp ⟨hup _ (Nat.le_refl _),by simp[blks,MB.own]⟩ hc (Nat.le_refl _) a6n (by decide)) (by simp[MB.own]),.own rfl rfl,⟨by simp,fun b hb _=>by rw[List.getElem?_append_left hb],fun b hb=>by simp[blks,MB.own] at hb,fun b cs hc=>⟨cs,?_,Nat.le_refl _⟩⟩⟩
  rw[bI (List.getElem?_append_left (bQ hc)),hc]
theorem acd:Gd a0q:=aer.abB 0 fun n _ hO p hp=>by
 have hl:p.length≤most:=hp _ (.head _)
 by_cases h:p=[]
 ·subst h;exact aa7
 ·have h2:([]:List Int).length+p.length≤most:=by simpa using hl
  exact VW.gs hX (abC hX (hO n (by omega)) (v:=.own 1) (H:=[.gone,.list true false 3 p]) (by kernel_rfl) (.o h (.b (rfl:false=false) (.o h2 .er)))) [.gc [1],.flag 0] rfl
abbrev a90 (m:Nat) (i:Int) (l:List Int) (x:List (Nat×PE bF)):aP bF:=⟨[(3,xo 0),(7,xi m),(8,xi i)]++x,[],[.list true true 3 l]⟩
theorem a7E (m:Nat):qj (fun k (l:List Int)=>l.set k (k:Int)) m 0 (List.replicate m 0)=UZ m:=by
 have:=NC (g:=fun k (l:List Int)=>l.set k (k:Int)) (m:=m) (k:=0) (s:=List.replicate m 0) (fun k l=>l.length=m∧∀ j,j<k→l.getD j 0=(j:Int)) ⟨by simp,by simp⟩ (fun j l _ hj h=>⟨by simp[h.1],fun i hi=>by
  rw[fA.Ah (by omega)]
  split
  ·rename_i e;rw[e]
  ·exact h.2 i (by omega)⟩)
 rw[a2Q (d:=0) (by rw[this.1,yM])]
 intro j hj
 have hj2:j<m:=by have:=this.1;omega
 rw[this.2 j (by omega)]
 simp[UZ,List.getD,List.getElem?_map,List.getElem?_range,hj2]
theorem aes {n:Nat} {jG:gK bF} (hO:Ok n jG) (m:Nat) (hm:m≤most):Lp n 106 0 (a90 m 0 (List.replicate m 0) []) (.exit 0) (a90 m m (UZ m) [(9,xl false)]):=by
 rw[←a7E]
 exact a0V (σ:=List Int) (N:=m) (g:=fun k (l:List Int)=>l.set k (k:Int)) (s0:=List.replicate m 0) (st:=fun i (l:List Int)=>a90 m i l []) (fin:=fun (l:List Int)=>a90 m m l [(9,xl false)]) (fun _ (l:List Int)=>l.length=m) (by kernel_rfl) hm (by simp) (fun k l _ h=>by simp[h]) (fun k l hk hl j e p g=>round hX hO (by kernel_rfl) (.b (WC hk) (.o (dB (show k<l.length by omega)) (.go g)))) (fun l _=>round hX hO (by kernel_rfl) (.b (YZ m) .ex))
theorem ace:Gd a0r:=acd.add fun n hO p hp=>by
 have h0:0≤p:=hp _ (.head _)
 have h1:p≤(most:Int):=hp _ (.tail _ (.head _))
 obtain⟨m,rfl⟩:∃ m:Nat,p=(m:Int):=⟨p.toNat,by omega⟩
 exact dS hX hO (by kernel_rfl) (.o (rfl:(m:Int)=(m:Int)) (.o h0 (.o h1 (.w (aes hO m (by omega)) .rr))))
abbrev aa8 (a b:List Int) (i:Int) (x:List (Nat×PE bF)):aP bF:=⟨[(0,xL 3 a),(1,xL 3 b),(12,xi a.length),(13,xi i)]++x,[],[]⟩
def z105 (a b:List Int):Unit⊕Nat→Ex×aP bF
 | .inl _=>(.exit 0,aa8 a b a.length [(14,xl false)])
 | .inr _=>(.ret,⟨[(4,xl false)],[],[]⟩)
theorem acf {n:Nat} {jG:gK bF} (hO:Ok n jG) (a b:List Int) (hl:a.length≤most) (h:a.length=b.length):Lp n 105 0 (aa8 a b 0 []) (z105 a b (mF (cSame a b) a.length)).1 (z105 a b (mF (cSame a b) a.length)).2:=
 searchL (st:=fun i _=>aa8 a b i []) (fun _ _=>True) (by kernel_rfl) hl trivial (fun k s m hk _ ih=>round hX hO (by kernel_rfl) (.b (WC hk) (.o (dB hk) (.o (dB (h▸hk)) (.ls (.ou nofun) (.nx (ih _ trivial))))))) (fun s _=>round hX hO (by kernel_rfl) (.b (YZ a.length) (.ou nofun)))
theorem acg:Gd a0s:=ace.add fun n hO p hp=>dS hX hO (by kernel_rfl) (.s (fun h=>.v false (a7v h).symm) fun h=>.z (c:=D5 (mF (cSame p.1 p.2) p.1.length)) (fun h2=>.w (rC (acf hO p.1 p.2 (hp _ (.head _)) (len_eq h)) () h2) (.v true (by rw[←a1X (len_eq h),h2]))) fun h2=>.w (wC (acf hO p.1 p.2 (hp _ (.head _)) (len_eq h)) 0 h2) (.v false (by rw[←a1X (len_eq h),h2])))
theorem ach:Gd a0t:=acg.deep 3 fun n hn hO p hp=>by
 have h1:∀ x,nH X0 Tryz.prog (ApN (n-3+1)) (.fn 139 [] [.ptr 0 0 1,.ptr 1 0 1]) [.int .i64 x] [.cells [.int .i64 p.1],.cells [.int .i64 p.2.1]] (tA.put (Ny x p.1 p.2.1)) [.cells [.int .i64 p.1],.cells [.int .i64 p.2.1]]:=fun x=>pF hX ok0 (first:=[]) (by kernel_rfl) (.ssh (fun _=>.sr) (fun _=>.sr))
 obtain⟨n,rfl⟩:∃ k,n=k+3:=⟨n-3,by omega⟩
 rw[show n+3-3+1=n+1 by omega] at h1
 have h2:=abJ (n:=n+2) (by omega) (g:=fun x=>Ny x p.1 p.2.1) h1 p.2.2 (hp _ (.head _))
 exact dS hX (hO _ (by omega)) (by kernel_rfl) (.k h2 (.v (!(J3 (fun x=>Ny x p.1 p.2.1) p.2.2)) (by rw[a1W];rfl)))
def a6o (s:List Int):Int:=qj (fun k n=>IntKind.i64.wrap (n*s.getD k 0)) s.length 0 1
theorem a5s:∀ {s:List Int},yP s→bV s≤12^s.length
 | [],_=>by decide
 | a::t,h=>by
  have h1:=a5s h.tail
  have h2:=ny h.tail
  have h3:=h a (.head _)
  have h4:a*bV t≤12*bV t:=Int.mul_le_mul_of_nonneg_right h3.2 (by omega)
  show a*bV t≤12^(t.length+1)
  rw[Int.pow_succ]
  omega
theorem aci:∀ {n:Nat},n≤6→(12:Int)^n≤2985984:=by decide
theorem a7F {s:List Int} (h:yP s) (hl:s.length≤6):a6o s=bV s:=by
 have:=NC (g:=fun k n=>IntKind.i64.wrap (n*s.getD k 0)) (m:=s.length) (k:=0) (s:=1) (fun k n=>n=bV (s.take k)) (by simp[bV]) (fun j n _ hj e=>by
  have hj2:j<s.length:=by omega
  have e2:bV (s.take (j+1))=n*s.getD j 0:=by
   rw[List.take_succ_eq_append_getElem hj2,Eb,e];simp[bV,List.getD,List.getElem?_eq_getElem hj2]
  have h1:=a2c h (j+1)
  have h2:1≤bV (s.take (j+1)):=ny fun a ha=>h a (List.mem_of_mem_take ha)
  have h3:=a5s h
  have h4:=aci hl
  show IntKind.i64.wrap (n*s.getD j 0)=_
  rw[e2] at h1 h2 ⊢
  exact zD (by omega) (by omega))
 rw[a6o,this]
 simp
abbrev w67 (a b:List Int) (p i:Int) (x:List (Nat×PE bF)):aP bF:=⟨[(0,xL 3 a),(1,xL 3 b),(5,xi p),(17,xL 3 a),(18,xi a.length),(19,xi i)]++x,[],[]⟩
theorem l67 {n:Nat} {jG:gK bF} (hO:Ok n jG) (a b:List Int) (hl:a.length≤most):Lp n 67 0 (w67 a b 1 0 []) (.exit 1) (w67 a b (a6o a) a.length [(20,xl false)]):=
 a6k (st:=fun i n=>w67 a b n i []) (fin:=fun n=>w67 a b n a.length [(20,xl false)]) (fun _ _=>True) (by kernel_rfl) hl LLm trivial (fun _ _ _ _=>trivial) (fun k s hk _ n e p h=>round hX hO (by kernel_rfl) (.b (WC hk) (.o (dB hk) (.go h)))) (fun s _=>round hX hO (by kernel_rfl) (.b (YZ a.length) .ex))
theorem aa9 {n:Nat} (hO:Ok n a0t) (l:List Int) (hl:l.length≤most):nH X0 Tryz.prog (ApN n) (.fn 103 [] []) [.lst 3 l false] [] (.own 0) (lsI l):=
 VW.aa6 hX (hO 103 [.lst 3 l false] (.own 0) (lsI l) [l.length≤most] (by kernel_rfl) (List.forall_mem_singleton.2 hl)) rfl rfl rfl rfl
theorem a7G (n:Nat):(UZ n).Pairwise fun a b=>decide (a≤b)=true:=by
 unfold UZ
 rw[List.pairwise_map]
 exact List.pairwise_lt_range.imp fun h=>by simp;omega
theorem a6W {n:Nat} {o:List Int}:decide (sG o=UZ n)=BH n o:=by
 rw[Bool.eq_iff_iff,decide_eq_true_eq]
 have h2:=a6S n
 have hp:(sG o).Perm o:=List.mergeSort_perm _ _
 constructor
 ·intro h
  rw[h] at hp
  unfold BH at h2 ⊢
  rw[decide_eq_true_eq] at h2 ⊢
  exact⟨by rw[←hp.length_eq,h2.1],fun a ha=>h2.2.1 a (hp.mem_iff.2 ha),hp.nodup_iff.1 h2.2.2⟩
 ·intro h
  unfold BH at h h2
  rw[decide_eq_true_eq] at h h2
  have e:o.Perm (UZ n):=(List.perm_ext_iff_of_nodup h.2.2 h2.2.2).2 fun a=>by
   have hm:∀ x,0≤x∧x<(n:Int)→x∈UZ n:=fun x hx=>by
    unfold UZ
    rw[List.mem_map]
    exact⟨x.toNat,by rw[List.mem_range];omega,by omega⟩
   constructor
   ·exact fun ha=>hm a (h.2.1 a ha)
   ·intro ha
    by_cases hc:a∈o
    ·exact hc
    ·have:=List.Nodup.length_le_of_subset (l₁:=a::o) (l₂:=UZ n) (List.nodup_cons.2 ⟨hc,h.2.2⟩) (fun x hx=>by
      rcases List.mem_cons.1 hx with rfl | hx
      ·exact ha
      ·exact hm x (h.2.1 x hx))
     rw[yM] at this
     simp at this
     omega
  refine List.Perm.eq_of_pairwise (le:=fun a b=>decide (a≤b)=true) (fun a b _ _ h1 h2=>by simp at h1 h2;omega) ?_ (a7G n) (hp.trans e)
  exact List.pairwise_mergeSort (fun a b c h1 h2=>by simp at h1 h2 ⊢;omega) (fun a b=>by simp;omega) o
def a5t (s o:List Int):Int:=if decide ((s.length:Int)>6)=true then 5 else if (!(BF s 1 12))=true then 3 else if decide (a6o s>2000)=true then 5 else if (!(decide (sG o=UZ s.length)))=true then 4 else 0
theorem a5u (s o:List Int):a5t s o=iK s o:=by
 rw[Jq]
 unfold a5t
 rw[a6W]
 by_cases h1:6<s.length
 ·rw[if_pos (by simp;omega),if_pos h1]
 ·rw[if_neg (by simp;omega),if_neg h1]
  have hw:BF s 1 12=decide (yP s):=by
   unfold BF
   rw[Bool.eq_iff_iff,Bool.not_eq_true',List.any_eq_false,decide_eq_true_eq]
   refine forall_congr' fun a=>forall_congr' fun _=>?_
   unfold Ny
   split
   ·rename_i h;simp at h ⊢;omega
   ·rename_i h;simp at h ⊢;omega
  rw[hw]
  by_cases h2:yP s
  ·rw[if_neg (by simp[h2]),if_pos h2,a7F h2 (by omega)]
   simp only[decide_eq_true_eq,Int.not_lt,gt_iff_lt]
   split
   ·rfl
   ·cases BH s.length o<;>simp
  ·rw[if_pos (by simp[h2]),if_neg h2]
theorem aeu:Gd a3w:=ach.deep 1 fun n hn hO p hp=>by
 obtain⟨n,rfl⟩:∃ k,n=k+1:=⟨n-1,by omega⟩
 have hO:=hO (n+1) (by omega)
 have h1:p.1.length≤most:=hp _ (.head _)
 have h2:p.2.length≤2^20:=hp _ (.tail _ (.head _))
 have h3:p.2.length≤most:=by unfold most;omega
 have h4:(UZ p.1.length).length≤most:=by rw[yM];exact h1
 have h5:(sG p.2).length≤most:=by unfold sG;rw[List.length_mergeSort];exact h3
 show VW X0 Tryz.prog _ _ _ (iA.put (iK p.1 p.2)) _
 rw[←a5u]
 exact dS hX hO (by kernel_rfl) (.ss .rr (.o h1 (.ss .rr (.w (l67 hO p.1 p.2 h1) (.ss .rr (.fr [] (aa9 hO p.2 h3) (.fr [0] (ac9 (n:=n) (k:=false) (ex:=false) p.2 h2) (.o (show (0:Int)≤(p.1.length:Int) by omega) (.o (show (p.1.length:Int)≤(most:Int) by omega) (.o h5 (.ss .rr .rr)))))))))))
end Go.Proofs.YtjkgcifieggcpaaGreat
namespace Go.Proofs.YtjkgcifieggcpaaGreat
open Go Tw Pv fA
theorem a5v {α:Type} (x:α):[x].length≤most:=by unfold most;simp
theorem acj:Gd a0u:=aeu.add fun n hO p hp=>dS hX hO (by kernel_rfl) (.ss (.ss .rr .rr) (.o (a5v p.n) .rr))
abbrev aac (l:List Int) (v:Int) (i:Int) (x:List (Nat×PE bF)):aP bF:=⟨[(0,xL 3 l),(1,xi v),(7,xi l.length),(8,xi i)]++x,[],[]⟩
def acn (l:List Int) (v:Int):Unit⊕Nat→Ex×aP bF
 | .inl _=>(.exit 0,aac l v l.length [(9,xl false)])
 | .inr k=>(.ret,⟨[(4,xi k)],[],[]⟩)
theorem aco {n:Nat} {jG:gK bF} (hO:Ok n jG) (l:List Int) (v:Int) (hl:l.length≤most):Lp n 255 0 (aac l v 0 []) (acn l v (mF (cIx l v) l.length)).1 (acn l v (mF (cIx l v) l.length)).2:=
 searchL (st:=fun i _=>aac l v i []) (fun _ _=>True) (by kernel_rfl) hl trivial (fun k s m hk _ ih=>round hX hO (by kernel_rfl) (.b (WC hk) (.o (dB hk) (.ls (.ou nofun) (.nx (ih _ trivial)))))) (fun s _=>round hX hO (by kernel_rfl) (.b (YZ l.length) (.ou nofun)))
theorem acp:Gd a0v:=acj.add fun n hO p hp=>dS hX hO (by kernel_rfl) (.zh (fun h=>.w (rC (aco hO p.1 p.2 (hp _ (.head _))) () h) .rr) fun h=>.w (wC (aco hO p.1 p.2 (hp _ (.head _))) 0 h) .rr)
theorem acr:Gd a0w:=acp.add fun n hO p hp=>dS hX hO (by kernel_rfl) (.o (hp _ (.head _)) .rr)
theorem acs:Gd a0x:=acr.add fun n hO p hp=>dS hX hO (by kernel_rfl) .rr
theorem acu:Gd a0y:=acs.add fun n hO p hp=>dS hX hO (by kernel_rfl) (.sh (fun _=>.rr) fun h=>.sh (fun h2=>.o (hp (0≤p.2.1→p.2.1<p.2.2.1→zl p.2.1 p.1.d.nodes.length) (.tail _ (.head _)) (by simpa using h) (by simpa using h2)) (.o (hp _ (.head _)) .rr)) fun _=>.rr)
abbrev Hb (l:Lo) (i:Int) (b:Br):List (PB bF):=[.cells l.ps,.cells [.int .i64 i],.cells b.ps]
theorem aev {n f:Nat} {a c:List (PV bF)} {H:List (PB bF)} {g:Int→Bool} (l:List Int) (hf:∀ x∈l,nH X0 Tryz.prog (ApN n) (.fn f a c) [.int .i64 x] H (.bool (g x)) H) (hl:l.length≤most):nH X0 Tryz.prog (ApN (n+1)) (.fn 183 [] []) [.lst 3 l false,.fn f a c] H (iA.put (a1a g l)) H:=by
 have lp:LpB n 183 0 H.length (a3b f a c H l 0 []) (z183 f a c H l (a19 (a0c g) l 0 ())).1 (z183 f a c H l (a19 (a0c g) l 0 ())).2:=
  a5h (st:=fun i _=>a3b f a c H l i []) (0:Int) (fun _ _=>True) (by kernel_rfl) hl LLm trivial (fun k s n hk _ ih=>round hX ok0 (by kernel_rfl) (.b (WC hk) (.o (dB hk) (.k (hf (l.getD k (0:Int)) (getD_mem hk)) (.ls (.ou nofun) (.nx (ih _ trivial))))))) (fun s _=>round hX ok0 (by kernel_rfl) (.b (YZ l.length) (.ou nofun)))
 exact pF hX ok0 (first:=[]) (cap:=[]) (by kernel_rfl) (.szh (fun h=>.w (rC lp () h) .sr) (fun h=>.w (wC lp (0,0,()) h) .sr))
theorem acv {n f:Nat} {a c:List (PV bF)} {H:List (PB bF)} {g:Int→Bool} (l:List Int) (hf:∀ x∈l,nH X0 Tryz.prog (ApN n) (.fn f a c) [.int .i64 x] H (.bool (g x)) H) (hl:l.length≤most):nH X0 Tryz.prog (ApN (n+2)) (.fn 138 [] []) [.lst 3 l false,.fn f a c] H (tA.put (l.any g)) H:=by
 have h1:=aev l hf hl
 have h2:=a1W g l
 rw[←h2]
 exact pF hX ok0 (first:=[]) (cap:=[]) (by kernel_rfl) (.k h1 .sr)
theorem a2j {α:Type} (l:List α) (g:α→Bool):(!(l.any fun x=>!(g x)))=l.all g:=by
 induction l with
 | nil=>rfl
 | cons a l ih=>simp only[List.any_cons,List.all_cons,Bool.not_or,Bool.not_not,ih]
abbrev pB:List (PV bF):=[.ptr 0 0 7,.ptr 1 0 1,.ptr 2 0 2]
theorem aew {n f:Nat} {l:Lo} {i:Int} {b:Br} {g:Int→Bool} (ks:List Int) (hf:∀ x∈ks,nH X0 Tryz.prog (ApN n) (.fn f [] pB) [.int .i64 x] (Hb l i b) (tA.put (g x)) (Hb l i b)) (hl:ks.length≤most):nH X0 Tryz.prog (ApN (n+4)) (.fn 197 [] []) [.lst 3 ks false,.fn f [] pB] (Hb l i b) (tA.put (ks.all g)) (Hb l i b):=by
 have h1:∀ x∈ks,nH X0 Tryz.prog (ApN (n+1)) (.fn 235 [] [.ptr 3 0 1]) [.int .i64 x] (Hb l i b++[.cells [.fn f [] pB]]) (tA.put (!(g x))) (Hb l i b++[.cells [.fn f [] pB]]):=fun x hx=>
  pF hX ok0 (first:=[]) (by kernel_rfl) (.fr [0,1,2] (hf x hx) .sr)
 have h2:=acv ks h1 hl
 rw[←a2j ks g]
 exact nH.drop hX (pF hX ok0 (first:=[]) (cap:=[]) (H1:=Hb l i b++[.cells [.fn f [] pB]]) (by kernel_rfl) (.k h2 .sr)) rfl rfl
theorem a6p {x a b:Int}:BF [x] a b=decide (a≤x∧x≤b):=by
 unfold BF Ny
 simp only[List.any_cons,List.any_nil,Bool.or_false]
 by_cases h:x<a
 ·rw[if_pos (by simpa using h),Bool.not_true,eq_comm,decide_eq_false_iff_not];omega
 ·rw[if_neg (by simpa using h),Bool.eq_iff_iff,Bool.not_eq_true',decide_eq_false_iff_not,decide_eq_true_eq];omega
theorem a7H {l:List Br} {k:Nat} (h:k<l.length):l.getD k O4∈l:=by simp[List.getD,List.getElem?_eq_getElem h]
theorem acw {n:Nat} (hO:∀ m,n≤m→Ok m a0y) {l:Lo} {i:Int} (ho:l.o.length≤most) (hf:Fine l.s) (hi:zl i l.d.nodes.length):nH X0 Tryz.prog (ApN (n+6)) (.fn 198 [.agg l.ps] []) [.int .i64 i] [] (tA.put (WM l i)) []:=by
 have h1:∀ x∈(Ql l i).kids,nH X0 Tryz.prog (ApN (n+1)) (.fn 236 [] pB) [.int .i64 x] (Hb l i (Ql l i)) (tA.put (Fq l x i (zG l.o (Ql l i).var))) (Hb l i (Ql l i)):=fun x _=>
  pF hX (hO n (Nat.le_refl _)) (first:=[]) (by kernel_rfl) (.o ho (.o ho (.o (show 0≤x→x<i→zl x l.d.nodes.length from fun h0 h1=>⟨h0,by have:=hi.1;have:=hi.2;omega⟩) .sr)))
 have hv:(!(BF [(Ql l i).var] 0 (xw l.s)))=false→zl (Ql l i).var l.s.length:=fun h=>by
  rw[a6p,Bool.not_eq_false',decide_eq_true_eq,a07 hf.a2U] at h
  exact⟨h.1,by omega⟩
 have hk:(!(BF [(Ql l i).var] 0 (xw l.s)))=false→(((Ql l i).kids.length:Int) != l.s.getD (Ql l i).var.toNat 0)=false→(Ql l i).kids.length≤most:=fun h h2=>by
  have h3:=hv h
  have h4:=hf.sz _ (getD_mem (s:=l.s) (k:=(Ql l i).var.toNat) (by have:=h3.2;have:=h3.1;omega))
  have h2:((Ql l i).kids.length:Int)=l.s.getD (Ql l i).var.toNat 0:=by simpa using h2
  exact m12 (by omega)
 exact nH.drop hX (pF hX (hO (n+5) (by omega)) (first:=[.agg l.ps]) (cap:=[]) (H1:=Hb l i (Ql l i)++[.list true true 3 [(Ql l i).var]]) (by kernel_rfl) (.o hi (.o (a5v (Ql l i).var) (.ssh (fun _=>.sr) fun h5=>.o (hv h5) (.ssh (fun _=>.sr) fun h6=>.fr [0,1,2] (aew (Ql l i).kids h1 (hk h5 h6)) .sr))))) rfl rfl
abbrev a6X (f:Nat) (a:List (PV bF)):List (PB bF):=[.cells [.fn f a []]]
theorem acy {n:Nat} {l:Lo} {g:Int→Bool} (ks:List Int) (hf:∀ x∈ks,nH X0 Tryz.prog (ApN n) (.fn 198 [.agg l.ps] []) [.int .i64 x] [] (tA.put (g x)) []) (hl:ks.length≤most):nH X0 Tryz.prog (ApN (n+4)) (.fn 197 [] []) [.lst 3 ks false,.fn 198 [.agg l.ps] []] [] (tA.put (ks.all g)) []:=by
 have h1:∀ x∈ks,nH X0 Tryz.prog (ApN (n+1)) (.fn 235 [] [.ptr 0 0 1]) [.int .i64 x] (a6X 198 [.agg l.ps]) (tA.put (!(g x))) (a6X 198 [.agg l.ps]):=fun x hx=>
  pF hX ok0 (first:=[]) (by kernel_rfl) (.fr [] (hf x hx) .sr)
 have h2:=acv ks h1 hl
 rw[←a2j ks g]
 exact nH.drop hX (pF hX ok0 (first:=[]) (cap:=[]) (H1:=a6X 198 [.agg l.ps]) (by kernel_rfl) (.k h2 .sr)) rfl rfl
theorem aex {n:Nat} (hO:Ok n a0y) (l:List V) (hl:l.length≤most):nH X0 Tryz.prog (ApN (n+4)) (.fn 195 [] []) [.lst 79 l false,.fn 196 [] []] [] (tA.put (l.all Ed)) []:=by
 have h1:∀ x:V,nH X0 Tryz.prog (ApN (n+1)) (.fn 234 [] [.ptr 0 0 1]) [.agg x.ps] (a6X 196 []) (tA.put (!(Ed x))) (a6X 196 []):=fun x=>
  pF hX hO (first:=[]) (by kernel_rfl) .sr
 have h2:=aed (n:=n+2) (by omega) (g:=fun x=>!(Ed x)) h1 l hl
 rw[←a2j l,←a6P]
 exact nH.drop hX (pF hX ok0 (first:=[]) (cap:=[]) (H1:=a6X 196 []) (by kernel_rfl) (.k h2 .sr)) rfl rfl
theorem aey {n:Nat} (hO:Ok n a0y) (m:Nat) (hm:m≤most):nH X0 Tryz.prog (ApN n) (.fn 106 [] []) [.int .i64 m] [] (isA.put (UZ m)) []:=
 VW.aa6 hX (hO 106 [.int .i64 m] (isA.put (UZ m)) [] [0≤(m:Int),(m:Int)≤(most:Int)] (by kernel_rfl) (by
  intro q hq
  rcases List.mem_cons.1 hq with rfl | hq
  ·omega
  ·rw[List.mem_singleton.1 hq];omega)) rfl rfl rfl rfl
theorem a6q {x:Int} {m:Nat} (h:x∈UZ m):zl x m:=by
 simp only[UZ,List.mem_map,List.mem_range] at h
 obtain⟨k,hk,rfl⟩:=h
 exact dB hk
theorem a9A:Gd a0z:=acu.deep 11 fun n hn hO d hp=>by
 obtain⟨n,rfl⟩:∃ k,n=k+10:=⟨n-10,by omega⟩
 have h1:d.sizes.length≤most:=hp _ (.head _)
 have h2:d.order.length≤2^20:=hp _ (.tail _ (.head _))
 have h3:d.ends.length≤most:=hp _ (.tail _ (.tail _ (.head _)))
 have ho:d.order.length≤most:=by unfold most;omega
 have hO:∀ m,n≤m→Ok m _:=fun m hm=>hO m (by omega)
 have hI:(iK d.sizes d.order != 0)=false→∀ x∈UZ d.nodes.length,nH X0 Tryz.prog (ApN (n+6)) (.fn 198 [.agg (WO d).ps] []) [.int .i64 x] [] (tA.put (WM (WO d) x)) []:=fun h x hx=>acw hO (l:=WO d) ho (Jt h) (a6q hx)
 have hR:0≤d.root→d.root<(d.nodes.length:Int)→zl d.root d.nodes.length:=fun a b=>⟨a,by omega⟩
 have hL:decide ((d.nodes.length:Int)>6000)=false→(UZ d.nodes.length).length≤most:=fun h=>by rw[yM];exact WJ h
 exact dS hX (hO (n+10) (by omega)) (by kernel_rfl) (.o h1 (.o h2 (.sh (fun _=>.rn (.bf [.agg [.nil .slc,.nil .slc,.nil .slc,.nil .slc,.nil .slc,.nil .slc,.int .i64 0],.int .i64 (iK d.sizes d.order)]) rfl) fun h=>.sh (fun _=>.rr) fun h4=>.fr [] (aex (n:=n+6) (hO (n+6) (by omega)) d.ends h3) (.ss .rr (.fr [] (aey (hO (n+10) (by omega)) d.nodes.length (WJ h4)) (.fr [] (acy (l:=WO d) (n:=n+6) (UZ d.nodes.length) (hI h) (hL h4)) (.ss .rr (.o ho (.o hR (.ss .rr .rr))))))))))
end Go.Proofs.YtjkgcifieggcpaaGreat
namespace Go.Proofs.YtjkgcifieggcpaaGreat
open Go Tw Pv fA
theorem a2C {n:Nat} {o:List Int} (h:BH n o=true) {v:Int} (hv:zl v n):v∈o:=by
 unfold BH at h
 rw[decide_eq_true_eq] at h
 obtain⟨h0,h1⟩:=hv
 by_cases hc:v∈o
 ·exact hc
 ·have:=List.Nodup.length_le_of_subset (l₁:=v::o) (l₂:=UZ n) (List.nodup_cons.2 ⟨hc,h.2.2⟩) (fun x hx=>by
   have:0≤x∧x<(n:Int):=by
    rcases List.mem_cons.1 hx with rfl | hx
    ·exact⟨h0,by omega⟩
    ·exact h.2.1 x hx
   unfold UZ
   rw[List.mem_map]
   exact⟨x.toNat,by rw[List.mem_range];omega,by omega⟩)
  rw[yM] at this
  simp at this
  omega
theorem a1s {l:List Int} {k:Nat} (h:k<l.length):l.getD k 0=l[k]:=by simp[List.getD,List.getElem?_eq_getElem h]
theorem a6r {l:List Int} {v:Int} (h:v∈l):D5 (mF (cIx l v) l.length)=false:=by
 cases e:D5 (mF (cIx l v) l.length)
 ·rfl
 ·obtain⟨j,hj,e2⟩:=List.mem_iff_getElem.1 h
  have:=Fg.1 e j hj
  simp[cIx,List.getD,List.getElem?_eq_getElem hj,e2] at this
theorem a7I {d:Dg} {r:Int}:V4 d r=cIx d.order (fZ d r).var:=by
 funext k;exact BEq.comm
theorem a4X {d:Dg} {r:Int} (h0:0≤r) (h:(fZ d r).var∈d.order):Js d r=zG d.order (fZ d r).var:=by
 unfold Js zG
 rw[if_neg (by rw[decide_eq_true_eq];omega),a7I,a6r h,if_neg (by decide),if_neg (by decide)]
theorem acz {l:List Int} {v:Int} (h:v∈l):zG l v<(l.length:Int):=by
 unfold zG
 rw[a6r h,if_neg (by simp)]
 obtain⟨j,h1,_,_,h2⟩:=a2P (a6r h)
 rw[h2]
 show (j:Int)<_
 omega
theorem a3z {x a b:Int}:BF [x] a b=vk x a b:=by
 rw[a6p,Bool.eq_iff_iff,Fj,decide_eq_true_eq]
theorem a7J {v:V} (h:0≤v.f):Ed v=vOk v:=by
 rw[aa3 h];unfold Ed vIs;rw[a3z]
theorem aad {z:Int} (h:W64 z):IntKind.i64.wrap z=z:=by
 obtain⟨h0,h1⟩:=h
 simp only[IntKind.wrap,IntKind.bits,IntKind.signed]
 rcases Int.lt_or_le z 0 with h | h
 ·have:z%(2^64:Int)=z+2^64:=by
   have:=Int.add_mul_emod_self_left z (2^64) 1
   rw[Int.mul_one] at this
   rw[←this]
   exact Int.emod_eq_of_lt (by omega) (by omega)
  simp only[this]
  rw[if_pos (by simp;omega)]
  omega
 ·have:z%(2^64:Int)=z:=Int.emod_eq_of_lt h (by omega)
  simp only[this]
  rw[if_neg (by simp;omega)]
theorem a2X {x:Int} (h:W64 x) (h0:x<0):IntKind.i64.wrap (-1-x)=-1-x:=by
 have h1:=h.1
 exact aad ⟨by omega,by omega⟩
theorem a94 {d:Dg} {x:Int} (below:Int) (h:W64 x) (h0:x<0) (he:d.ends.length≤most):vw d x below=decide (IntKind.i64.wrap (-1-x)<(d.ends.length:Int)):=by
 have he:d.ends.length≤2^60:=by unfold most at he;omega
 unfold vw
 rw[if_neg (by simp;omega),a2X h h0,Bool.eq_iff_iff,Fj,decide_eq_true_eq]
 by_cases h1:d.ends.length=0
 ·rw[h1,show IntKind.i64.wrap (((0:Nat):Int)-1)=-1 by decide];omega
 ·rw[zD (by omega) (by omega)];omega
theorem acA {l:List Int} {v:Int} (h:v∈l):0≤zG l v:=by
 unfold zG
 rw[a6r h,if_neg (by simp)]
 omega
theorem aae {d:Dg} {x below rank:Int} (h0:0≤x) (hv:x<below→(fZ d x).var∈d.order):Fq (WO d) x below rank=(vw d x below&&decide (rank<Js d x)):=by
 unfold Fq vw
 rw[if_neg (show ¬(decide (x<0)=true) by rw[decide_eq_true_eq];omega),if_pos (show decide (x≥0)=true by rw[decide_eq_true_eq];omega)]
 by_cases h1:x<below
 ·rw[if_pos (show decide (x<below)=true by rw[decide_eq_true_eq];exact h1),a4X h0 (hv h1),decide_eq_true h1,Bool.true_and]
 ·rw[if_neg (show ¬(decide (x<below)=true) by rw[decide_eq_true_eq];exact h1),decide_eq_false h1,Bool.false_and]
theorem aaf {d:Dg} {x below rank:Int} (h:W64 x) (h0:x<0) (he:d.ends.length≤most) (hr:rank<(d.order.length:Int)):Fq (WO d) x below rank=(vw d x below&&decide (rank<Js d x)):=by
 rw[a94 _ h h0 he]
 unfold Fq Js
 rw[if_pos (by rw[decide_eq_true_eq];exact h0),if_pos (by rw[decide_eq_true_eq];exact h0),decide_eq_true hr,Bool.and_true]
theorem a7K {d:Dg} {x below rank:Int} (h:W64 x) (he:d.ends.length≤most) (hr:rank<(d.order.length:Int)) (hv:0≤x→x<below→(fZ d x).var∈d.order):Fq (WO d) x below rank=(vw d x below&&decide (rank<Js d x)):=by
 by_cases h0:0≤x
 ·exact aae h0 (hv h0)
 ·exact aaf h (by omega) he hr
theorem a7L {d:Dg} (h:DgR d) (he:d.ends.length≤most) (hv:∀ r,zl r d.nodes.length→(fZ d r).var∈d.order):Fq (WO d) d.root d.nodes.length (-1)=vw d d.root d.nodes.length:=by
 rw[a7K h.root he (by omega) (fun a b=>hv _ ⟨a,by omega⟩)]
 cases e:vw d d.root d.nodes.length
 ·rfl
 ·rw[Bool.true_and,decide_eq_true_eq]
  by_cases h0:0≤d.root
  ·have:=a5q e h0 (Nat.le_refl _)
   rw[a4X h0 (hv _ this)]
   have:=acA (hv _ this)
   omega
  ·unfold Js
   rw[if_pos (by rw[decide_eq_true_eq];omega)]
   omega
theorem a9B {d:Dg} (h:DgR d) (he:d.ends.length≤most) {i:Nat} (hi:i<d.nodes.length) (hf:Fine d.sizes) (ho:BH d.sizes.length d.order=true) (hv:∀ j,j<i→(zF d j).var∈d.order):WM (WO d) i=!(cLn d i):=by
 have e0:Ql (WO d) i=zF d i:=rfl
 unfold WM cLn
 rw[e0]
 show (if (!(BF [(zF d i).var] 0 (xw d.sizes)))=true then false else if (((zF d i).kids.length:Int) != d.sizes.getD (zF d i).var.toNat 0)=true then false else _)=_
 rw[a3z]
 cases e1:vk (zF d i).var 0 (xw d.sizes)
 ·rfl
 ·have hvi:(zF d i).var∈d.order:=a2C ho (Qh hf e1)
  have aez:(fZ d (i:Int)).var∈d.order:=hvi
  simp only[Bool.not_true,Bool.false_eq_true,if_false]
  split
  ·rfl
  ·have hall:((zF d i).kids.all fun x=>Fq (WO d) x i (zG (WO d).o (zF d i).var))=D5 (mF (cLk d i) (zF d i).kids.length):=by
    rw[Bool.eq_iff_iff,List.all_eq_true,Fg]
    have hk:∀ k,k<(zF d i).kids.length→(Fq (WO d) ((zF d i).kids.getD k 0) i (zG d.order (zF d i).var)=true↔cLk d i k=false):=fun k hk=>by
     rw[a7K (h.kid i hi k hk) he (acz hvi) (fun a b=>hv _ (by omega)),Bool.and_eq_true,decide_eq_true_eq]
     unfold cLk
     rw[show Js d (i:Int)=zG d.order (zF d i).var from a4X (by omega) aez]
     cases vw d ((zF d i).kids.getD k 0) i
     ·simp
     ·simp<;>omega
    constructor
    ·intro a k hkl
     exact (hk k hkl).1 (a _ (getD_mem hkl))
    ·intro a x hx
     obtain⟨k,hkl,rfl⟩:=List.mem_iff_getElem.1 hx
     have:=(hk k hkl).2 (a k hkl)
     rw[a1s hkl] at this
     exact this
   rw[hall]
   cases D5 (mF (cLk d i) (zF d i).kids.length)<;>rfl
theorem aag {d:Dg} (h:DgR d) (he:d.ends.length≤most) (hf:Fine d.sizes) (ho:BH d.sizes.length d.order=true):(UZ d.nodes.length).all (WM (WO d))=D5 (mF (cLn d) d.nodes.length):=by
 have hvar:∀ i,cLn d i=false→(zF d i).var∈d.order:=fun i hc=>by
  unfold cLn at hc
  split at hc
  ·cases hc
  ·rename_i e;exact a2C ho (Qh hf (by simpa using e))
 have key:∀ i,i≤d.nodes.length→((∀ j,j<i→WM (WO d) j=true)↔∀ j,j<i→cLn d j=false):=by
  intro i
  induction i with
  | zero=>intro _;exact⟨fun _ j hj=>absurd hj (by omega),fun _ j hj=>absurd hj (by omega)⟩
  | succ i ih=>
   intro hi
   have ih:=ih (by omega)
   constructor
   ·intro a
    have b:=ih.1 fun j hj=>a j (by omega)
    intro j hj
    by_cases hji:j<i
    ·exact b j hji
    ·have:j=i:=by omega
     subst this
     have:=a j (by omega)
     rw[a9B h he (by omega) hf ho (fun k hk=>hvar k (b k hk))] at this
     simpa using this
   ·intro b j hj
    by_cases hji:j<i
    ·exact ih.2 (fun k hk=>b k (by omega)) j hji
    ·have:j=i:=by omega
     subst this
     rw[a9B h he (by omega) hf ho (fun k hk=>hvar k (b k (by omega))),b j (by omega)];rfl
 rw[Bool.eq_iff_iff,List.all_eq_true,Fg,←key _ (Nat.le_refl _)]
 constructor
 ·intro a j hj;exact a _ (by unfold UZ;rw[List.mem_map];exact⟨j,List.mem_range.2 hj,rfl⟩)
 ·intro a x hx
  simp only[UZ,List.mem_map,List.mem_range] at hx
  obtain⟨k,hk,rfl⟩:=hx
  exact a k hk
theorem a95 {d:Dg} (h:∀ v∈d.ends,0≤v.f):d.ends.all Ed=D5 (mF (cLe d) d.ends.length):=by
 rw[Bool.eq_iff_iff,List.all_eq_true,Fg]
 have hg:∀ k,(hk:k<d.ends.length)→d.ends.getD k V0=d.ends[k]:=fun k hk=>by simp[List.getD,List.getElem?_eq_getElem hk]
 constructor
 ·intro a k hk
  unfold cLe
  rw[hg k hk,←a7J (h _ (List.getElem_mem hk)),a _ (List.getElem_mem hk)];rfl
 ·intro a x hx
  obtain⟨k,hk,rfl⟩:=List.mem_iff_getElem.1 hx
  have:=a k hk
  unfold cLe at this
  rw[hg k hk,←a7J (h _ hx)] at this
  simpa using this
theorem a4M {d:Dg} (h:DgR d) (he:d.ends.length≤most):nC d=(if (iK d.sizes d.order != 0)=true then lo0 else WO d,fU d):=by
 unfold nC fU
 split
 ·rfl
 ·rename_i h1
  have hfr:=Jr.1 (show iK d.sizes d.order=0 by simpa using h1)
  split
  ·rfl
  ·unfold rH
   rw[a95 h.fault,aag h he hfr.1 hfr.2]
   cases e1:D5 (mF (cLe d) d.ends.length)
   ·rfl
   ·cases e2:D5 (mF (cLn d) d.nodes.length)
    ·rfl
    ·have hv:∀ r,zl r d.nodes.length→(fZ d r).var∈d.order:=fun r hr=>by
      have:=Fg.1 e2 r.toNat (by have:=hr.1;have:=hr.2;omega)
      unfold cLn at this
      split at this
      ·cases this
      ·rename_i e;exact a2C hfr.2 (Qh hfr.1 (by simpa using e))
     rw[a7L h he hv]
     simp only[Bool.not_true,Bool.false_eq_true,if_false,if_true]
     cases vw d d.root d.nodes.length<;>rfl
end Go.Proofs.YtjkgcifieggcpaaGreat
namespace Pv
open Go Tw
variable {X:gZ} {P:Program} {kt:TypeId} {α:Type} [DecidableEq α] (C:D7 X P kt α)
theorem D7.found {l:List (α×PV X.Γ)} {x:α} {v:PV X.Γ} (hn:(l.map (·.1)).Nodup) (h:(x,v)∈l):VK X P kt (C.es l) (C.tv x) v:=by
 obtain⟨j,hj,e⟩:=List.mem_iff_getElem.1 h
 refine⟨C.v x,_,j,C.pv x,C.ht x,C.pk l,?_,?_⟩
 ·have hxj:(l.map (·.1))[j]? = some x:=by simp[List.getElem?_eq_getElem hj,e]
  have hu:∀ (i:Nat) y,(l.map (·.1))[i]? = some y→decide (x=y)=(some i==some j):=fun i y hy=>by
   rw[Bool.eq_iff_iff]
   simp only[decide_eq_true_eq,beq_iff_eq,Option.some.injEq]
   constructor
   ·rintro rfl
    have i1:=List.getElem?_eq_some_iff.1 hy
    have i2:=List.getElem?_eq_some_iff.1 hxj
    exact (List.getElem_inj hn (h₀:=i1.1) (h₁:=i2.1)).1 (i1.2.trans i2.2.symm)
   ·rintro rfl
    rw[hxj] at hy;exact Option.some.inj hy
  refine C.find x _ (some j) ?_ hu
  rw[List.findIdx?_eq_some_iff_getElem]
  refine⟨by simpa using hj,by simp[e],fun i hi=>?_⟩
  have hil:i<(l.map (·.1)).length:=by simp;omega
  rw[hu i _ (List.getElem?_eq_getElem hil)]
  simp;omega
 ·simp[D7.es,List.getElem?_eq_getElem hj,e]
theorem D7.seat {l:List (α×PV X.Γ)} {x:α} {v:PV X.Γ} (hb:Instr.sameBits 10000 (C.v x) (C.v x)=true) (hn:(l.map (·.1)).Nodup) (h:(x,v)∈l):YE X P kt (C.es l) (C.tv x) (C.pv x) v:=by
 obtain⟨j,hj,e⟩:=List.mem_iff_getElem.1 h
 refine⟨C.v x,_,j,C.tv x,C.v x,C.ht x,C.hc false x,C.pk l,?_,?_,?_,C.ht x,hb⟩
 ·have hxj:(l.map (·.1))[j]? = some x:=by simp[List.getElem?_eq_getElem hj,e]
  have hu:∀ (i:Nat) y,(l.map (·.1))[i]? = some y→decide (x=y)=(some i==some j):=fun i y hy=>by
   rw[Bool.eq_iff_iff]
   simp only[decide_eq_true_eq,beq_iff_eq,Option.some.injEq]
   constructor
   ·rintro rfl
    have i1:=List.getElem?_eq_some_iff.1 hy
    have i2:=List.getElem?_eq_some_iff.1 hxj
    exact (List.getElem_inj hn (h₀:=i1.1) (h₁:=i2.1)).1 (i1.2.trans i2.2.symm)
   ·rintro rfl
    rw[hxj] at hy;exact Option.some.inj hy
  refine C.find x _ (some j) ?_ hu
  rw[List.findIdx?_eq_some_iff_getElem]
  refine⟨by simpa using hj,by simp[e],fun i hi=>?_⟩
  have hil:i<(l.map (·.1)).length:=by simp;omega
  rw[hu i _ (List.getElem?_eq_getElem hil)]
  simp;omega
 ·simp[D7.es,List.getElem?_eq_getElem hj,e]
 ·simp[List.getElem?_eq_getElem hj,e]
theorem a6s {k:IntKind} (x:Int):∀ (l:List Int) (i:Nat),Instr.findNow (.int k) (.int k x) (l.map fun y=>⟨.int k y,.bool false,0⟩) i=some ((l.findIdx? fun y=>decide (x=y)).map fun j=>(j+i,.bool false))
 | [],i=>rfl
 | y::l,i=>by
  simp only[List.map_cons,Instr.findNow,Instr.sameNow,if_true]
  rw[List.findIdx?_cons]
  by_cases h:x=y
  ·subst h;simp
  ·rw[show (x==y)=false by simpa using h,decide_eq_false h]
   simp only[Bool.false_eq_true,if_false]
   rw[a6s x l (i+1)]
   cases l.findIdx? fun y=>decide (x=y) with
   | none=>rfl
   | some j=>simp;omega
theorem aah {k:IntKind} (hu:P.underlying kt=some (.int k)) (x:Int) (l:List Int):au P (Instr.findKey kt (.int k x) (l.map fun y=>⟨.int k y,.bool false,0⟩))=some ((l.findIdx? fun y=>decide (x=y)).map fun i=>(i,.bool false)):=by
 unfold Instr.findKey
 rw[aQ,Qm hu,Option.bind_some,a6s x l 0]
 cases l.findIdx? fun y=>decide (x=y)<;>rfl
theorem aai {k:IntKind} (hu:P.underlying kt=some (.int k)) :
  ∃ kind,au P (underlying kt)=some kind∧((∀ x y:Int,Instr.sameNow kind (.int k x) (.int k y)=some (decide (x=y)))∨∀ x y:Int,Instr.sameNow kind (.int k x) (.int k y)=none∧au P (Op.equal kt (.int k x) (.int k y))=some (decide (x=y))):=
 ⟨_,Qm hu,.inl fun x y=>by simp only[Instr.sameNow,if_true];congr 1⟩
end Pv
namespace Go.Proofs.YtjkgcifieggcpaaGreat
open Go Tw Pv fA
noncomputable def kV:D7 X0 Tryz.prog 79 V where
 pv x:=.agg x.ps
 tv x:=x.tv
 v x:=.agg #[.int .u8 x.f,.int .i64 x.n]
 hp _:=rfl
 ht _:=rfl
 hc em x:=by kernel_rfl
 hf x l:=TK a3o (fun a b=>a0b 9998 a b) x l
 hk:=TN a3o fun a b=>a0b 9998 a b
noncomputable def kI:D7 X0 Tryz.prog 3 Int where
 pv x:=.int .i64 x
 tv x:=.int .i64 x
 v x:=.int .i64 x
 hp _:=rfl
 ht _:=rfl
 hc em x:=by kernel_rfl
 hf x l:=aah a3n x l
 hk:=aai a3n
noncomputable abbrev a1L (E:List V):List (V×PV X0.Γ):=E.zipIdx.map fun e=>(e.1,.int .i64 (e.2:Nat))
abbrev mkC (a b:List Int) (e n:Nat) (r:Int):PB bF:=.cells [.lst 3 a false,.lst 3 b false,.own 0,.own 1,.own e,.own n,.int .i64 r,.map 2,.map 3]
abbrev lsV (l:List V):PB bF:=.list false false 79 l
abbrev lsB (l:List Br):PB bF:=.list false false 102 l
noncomputable abbrev MK (a b:List Int) (E:List V) (nd:List Br) (r:Int) (nm:List (PV bF×PV bF)):List (PB bF):=[.list false false 3 a,.list false false 3 b,.map (kV.es (a1L E)),.map nm,mkC a b 5 6 r,lsV E,lsB nd]
noncomputable abbrev MK' (a b:List Int) (E:List V) (nd:List Br) (r:Int) (nm:List (PV bF×PV bF)):List (PB bF):=[.list false false 3 a,.list false false 3 b,.map (kV.es (a1L E)),.map nm,mkC a b 7 8 r,.gone,.gone,lsV E,lsB nd]
theorem a4N (E:List V):(a1L E).map (·.1)=E:=by
 unfold a1L
 rw[List.map_map]
 show E.zipIdx.map (·.1)=E
 simp
theorem a7M (E:List V) (v:V):a1L (E++[v])=a1L E++[(v,.int .i64 (E.length:Nat))]:=by
 unfold a1L
 rw[List.zipIdx_append,List.map_append]
 simp
theorem a7N {E:List V} {v:V} (h:v∈E):(v,(.int .i64 (E.idxOf v:Nat):PV X0.Γ))∈a1L E:=by
 unfold a1L
 rw[List.mem_map]
 have hl:=List.idxOf_lt_length_iff.2 h
 exact⟨(v,E.idxOf v),by rw[List.mem_zipIdx_iff_getElem?];simp[List.getElem?_eq_getElem hl],rfl⟩
theorem a4Y {E:List V} {v:V} (h:E.Nodup):(Qo E v).Nodup:=by
 unfold Qo
 split
 ·exact h
 ·rename_i hn
  rw[List.nodup_append]
  exact⟨h,by simp,fun x hx y hy=>by rw[List.mem_singleton] at hy;subst hy;intro e;subst e;exact hn hx⟩
theorem aeA {n:Nat} (hO:Ok n a0z) {a b:List Int} {E:List V} {nd:List Br} {r:Int} {nm:List (PV bF×PV bF)} (v:V) (hE:E.Nodup) (hl:E.length+1≤most):nH X0 Tryz.prog (ApN (n+1)) (.fn 203 [] []) [.ptr 4 0 9,.agg v.ps] (MK a b E nd r nm) (.int .i64 (IntKind.i64.wrap (-1-(E.idxOf v:Nat)))) (MK' a b (Qo E v) nd r nm):=by
 by_cases h:v∈E
 ·rw[show Qo E v=E from if_pos h]
  have hf:VK X0 Tryz.prog 79 (kV.es (a1L E)) v.tv (.int .i64 (E.idxOf v:Nat)):=kV.found (by rw[a4N];exact hE) (a7N h)
  exact nH.gs hX (WE hX hO (first:=[]) (cap:=[]) (v:=.int .i64 (IntKind.i64.wrap (-1-(E.idxOf v:Nat)))) (H1:=MK a b E nd r nm) (by kernel_rfl) (.c (.int .i64 (E.idxOf v:Nat)) [] hf (.b (rfl:(!true)=false) .er))) [.mv 5,.mv 6] rfl
 ·rw[show Qo E v=E++[v] from if_neg h,List.idxOf_eq_length h]
  have hf:AY X0 Tryz.prog 79 (kV.es (a1L E)) v.tv:=kV.fresh (by rw[a4N];exact h)
  have em:kV.es (a1L (E++[v]))=kV.es (a1L E)++[(.agg v.ps,.int .i64 (E.length:Nat))]:=by rw[a7M];exact List.map_append ..
  show nH X0 Tryz.prog _ _ _ _ _ [_,_,.map (kV.es (a1L (E++[v]))),_,_,_,_,_,_]
  rw[em]
  exact nH.gs hX (WE hX hO (first:=[]) (cap:=[]) (v:=.int .i64 (IntKind.i64.wrap (-1-(E.length:Nat)))) (H1:=[.list false false 3 a,.list false false 3 b,.map (kV.es (a1L E)++[(.agg v.ps,.int .i64 (E.length:Nat))]),.map nm,mkC a b 8 6 r,.gone,lsB nd,.list true true 79 [v],lsV (E++[v])]) (by kernel_rfl) (.a .calm (.o hf (.b (rfl:(!false)=true) (.a .calm (.o (kV.ck v) (.o hf (.o (show E.length+[v].length≤most by simpa using hl) .er)))))))) [.mv 6,.gc [8,9]] rfl
end Go.Proofs.YtjkgcifieggcpaaGreat
namespace Tw
open Go
section
variable {P:Program}
theorem a1S {e:TypeId} (hg:au P (isAgg e)=some false) {xs:Array Value} {i:Nat} {v:Value} (h:xs[i]? = some v):au P (part e xs i)=some v:=by
 unfold part
 rw[aQ,hg,Option.bind_some]
 simp only[Bool.false_eq_true,if_false,h]
 rfl
def a6Y (d:Nat) (e:TypeId) (c:Nat) (xs ys:Array Value):List Nat→Sem Bool
 | []=>pure true
 | i::is=>do
  let a ←part e xs (i*c)
  let b ←part e ys (i*c)
  let r ←Op.equalIn d e a b
  if (!r)=true then pure false else a6Y d e c xs ys is
theorem a2D (d:Nat) {t e:TypeId} {n c:Nat} (xs ys:Array Value) (hu:P.underlying t=some (.array n e)) (hs:au P (sizeOf e)=some c) :
  au P (Op.equalIn (d+1) t (.agg xs) (.agg ys))=au P (a6Y d e c xs ys (List.range' 0 n)):=by
 have hu':au P (underlying t)=some (.array n e):=by
  simp only[underlying,aQ]
  have:au P program=some P:=rfl
  simp[this,hu,au]
  rfl
 simp only[Op.equalIn,aQ,hu',Option.bind_some,hs]
 simp only[Std.Legacy.Range.forIn_eq_forIn_range',Std.Legacy.Range.size,Nat.sub_zero,Nat.add_one_sub_one,Nat.div_one]
 generalize List.range' 0 n=is
 clear hu hu' hs
 induction is with
 | nil=>simp[a6Y,au,aQ];rfl
 | cons j is ih=>
  simp only[List.forIn_cons,a6Y,aQ] at ih ⊢
  generalize au P (part e xs (j*c))=r1
  cases r1 with
  | none=>simp
  | some a=>
   simp only[Option.bind_some]
   generalize au P (part e ys (j*c))=r2
   cases r2 with
   | none=>simp
   | some b=>
    simp only[Option.bind_some]
    generalize au P (Op.equalIn d e a b)=r3
    cases r3 with
    | none=>simp
    | some r=>
     cases r with
     | false=>simp only[Option.bind_some,Bool.not_false,if_true];rfl
     | true=>simp only[Option.bind_some,Bool.not_true,Bool.false_eq_true,if_false];exact ih
abbrev a2k (k:IntKind) (l:List Int):Array Value:=(l.map fun x=>Value.int k x).toArray
theorem a3F {k:IntKind} {l:List Int} {i:Nat} (h:i<l.length):(a2k k l)[i]? = some (.int k l[i]):=by
 simp[a2k,h]
theorem a2L {d:Nat} {e:TypeId} {k k':IntKind} (hu:P.underlying e=some (.int k')) (hg:au P (isAgg e)=some false) (l l':List Int) (hl:l.length=l'.length):∀ (m i:Nat),i+m=l.length→au P (a6Y (d+1) e 1 (a2k k l) (a2k k l') (List.range' i m))=some (decide (l.drop i=l'.drop i))
 | 0,i,h=>by
  rw[List.drop_of_length_le (by omega),List.drop_of_length_le (by omega)];rfl
 | m+1,i,h=>by
  have h1:i<l.length:=by omega
  have h2:i<l'.length:=by omega
  rw[List.range'_succ]
  simp only[a6Y,Nat.mul_one]
  rw[aQ,a1S hg (a3F h1),Option.bind_some,aQ,a1S hg (a3F h2),Option.bind_some,aQ,kS d e k k' _ _ hu,Option.bind_some]
  rw[List.drop_eq_getElem_cons h1,List.drop_eq_getElem_cons h2]
  by_cases hc:l[i]=l'[i]
  ·have:=a2L (d:=d) (k:=k) hu hg l l' hl m (i+1) (by omega)
   simp only[hc,beq_self_eq_true,Bool.not_true,Bool.false_eq_true,if_false,this,List.cons.injEq,true_and]
  ·have:(l[i]==l'[i])=false:=by simpa using hc
   simp only[this,Bool.not_false,if_true,List.cons.injEq,hc,false_and,decide_false]
   rfl
theorem a2M (d:Nat) {t e:TypeId} {n:Nat} {k k':IntKind} (ht:P.underlying t=some (.array n e)) (hs:au P (sizeOf e)=some 1) (hu:P.underlying e=some (.int k')) (hg:au P (isAgg e)=some false) {l l':List Int} (hl:l.length=n) (hl':l'.length=n) :
  au P (Op.equalIn (d+2) t (.agg (a2k k l)) (.agg (a2k k l')))=some (decide (l=l')):=by
 rw[a2D (d+1) _ _ ht hs,a2L hu hg l l' (by omega) n 0 (by omega),List.drop_zero,List.drop_zero]
end
end Tw
namespace Go.Proofs.YtjkgcifieggcpaaGreat
open Go Tw Pv fA
abbrev oI (k ex:Bool) (l:List Int):PB bF:=.list k ex 3 l
abbrev wOI (f:Nat) (a c:List (PV bF)) (k ex:Bool) (R:List (PB bF)) (l:List Int) (i:Int) (x:List (Nat×PE bF)):aP bF:=⟨[(0,.val (.own 0)),(1,.val (.fn f a c)),(7,xi l.length),(8,xi i)]++x,[],oI k ex l::R⟩
def zOI (f:Nat) (a c:List (PV bF)) (k ex:Bool) (R:List (PB bF)) (l:List Int):Unit⊕(Nat×Int×Unit)→Ex×aP bF
 | .inl _=>(.exit 0,wOI f a c k ex R l l.length [(9,xl false)])
 | .inr r=>(.ret,⟨[(4,xi r.1)],[],oI k ex l::R⟩)
theorem qoI {n f:Nat} {a c:List (PV bF)} {ko ex:Bool} {R:List (PB bF)} {g:Int→Bool} (l:List Int) (hf:∀ x∈l,nH X0 Tryz.prog (ApN n) (.fn f a c) [.int .i64 x] (oI ko ex l::R) (.bool (g x)) (oI ko ex l::R)) (hl:l.length≤most):nH X0 Tryz.prog (ApN (n+1)) (.fn 183 [] []) [.own 0,.fn f a c] (oI ko ex l::R) (iA.put (a1a g l)) (oI ko ex l::R):=by
 have lp:LpB n 183 0 (R.length+1) (wOI f a c ko ex R l 0 []) (zOI f a c ko ex R l (a19 (a0c g) l 0 ())).1 (zOI f a c ko ex R l (a19 (a0c g) l 0 ())).2:=
  a5h (st:=fun i _=>wOI f a c ko ex R l i []) (0:Int) (fun _ _=>True) (by kernel_rfl) hl LLm trivial (fun k s n hk _ ih=>round hX ok0 (by kernel_rfl) (.b (WC hk) (.o (dB hk) (.k (hf (l.getD k (0:Int)) (getD_mem hk)) (.ls (.ou nofun) (.nx (ih _ trivial))))))) (fun s _=>round hX ok0 (by kernel_rfl) (.b (YZ l.length) (.ou nofun)))
 exact pF hX ok0 (first:=[]) (cap:=[]) (by kernel_rfl) (.szh (fun h=>.w (rC lp () h) .sr) (fun h=>.w (wC lp (0,0,()) h) .sr))
theorem qoC {n f:Nat} {a c:List (PV bF)} {ko ex:Bool} {R:List (PB bF)} {g:Int→Bool} (l:List Int) (hf:∀ x∈l,nH X0 Tryz.prog (ApN n) (.fn f a c) [.int .i64 x] (oI ko ex l::R) (.bool (g x)) (oI ko ex l::R)) (hl:l.length≤most):nH X0 Tryz.prog (ApN (n+2)) (.fn 138 [] []) [.own 0,.fn f a c] (oI ko ex l::R) (tA.put (l.any g)) (oI ko ex l::R):=by
 have h1:=qoI l hf hl
 have h2:=a1W g l
 rw[←h2]
 exact pF hX ok0 (first:=[]) (cap:=[]) (by kernel_rfl) (.k h1 .sr)
abbrev Hk (k ex:Bool) (l:List Int):List (PB bF):=[oI k ex l,.cells [.own 0]]
theorem qoA {n f:Nat} {ko ex:Bool} {g:Int→Bool} (l:List Int) (hf:∀ x∈l,nH X0 Tryz.prog (ApN n) (.fn f [] [.ptr 1 0 1]) [.int .i64 x] (Hk ko ex l) (tA.put (g x)) (Hk ko ex l)) (hl:l.length≤most):nH X0 Tryz.prog (ApN (n+4)) (.fn 197 [] []) [.own 0,.fn f [] [.ptr 1 0 1]] (Hk ko ex l) (tA.put (l.all g)) (Hk ko ex l):=by
 have h1:∀ x∈l,nH X0 Tryz.prog (ApN (n+1)) (.fn 235 [] [.ptr 2 0 1]) [.int .i64 x] (Hk ko ex l++[.cells [.fn f [] [.ptr 1 0 1]]]) (tA.put (!(g x))) (Hk ko ex l++[.cells [.fn f [] [.ptr 1 0 1]]]):=fun x hx=>
  pF hX ok0 (first:=[]) (by kernel_rfl) (.fr [0,1] (hf x hx) .sr)
 have h2:=qoC (R:=[.cells [.own 0],.cells [.fn f [] [.ptr 1 0 1]]]) l h1 hl
 rw[←a2j l g]
 exact nH.drop hX (pF hX ok0 (first:=[]) (cap:=[]) (H1:=Hk ko ex l++[.cells [.fn f [] [.ptr 1 0 1]]]) (by kernel_rfl) (.k h2 .sr)) rfl rfl
theorem a7O {n:Nat} {ko ex:Bool} (l:List Int) (hl:l.length≤most):nH X0 Tryz.prog (ApN (n+5)) (.fn 197 [] []) [.own 0,.fn 238 [] [.ptr 1 0 1]] (Hk ko ex l) (tA.put (l.all fun x=>x==l.getD 0 0)) (Hk ko ex l):=
 qoA (n:=n+1) l (fun x hx=>pF hX ok0 (first:=[]) (by kernel_rfl) (.o (show zl 0 l.length from⟨by omega,by have:=List.length_pos_of_mem hx;omega⟩) .sr)) hl
theorem a7P:∀ l:List Int,l.length=12→∃ a0 a1 a2 a3 a4 a5 a6 a7 a8 a9 a10 a11:Int,l=[a0,a1,a2,a3,a4,a5,a6,a7,a8,a9,a10,a11]
 | [a0,a1,a2,a3,a4,a5,a6,a7,a8,a9,a10,a11],_=>⟨a0,a1,a2,a3,a4,a5,a6,a7,a8,a9,a10,a11,rfl⟩
 | [],h=>by simp at h
 | [_],h=>by simp at h
 | [_,_],h=>by simp at h
 | [_,_,_],h=>by simp at h
 | [_,_,_,_],h=>by simp at h
 | [_,_,_,_,_],h=>by simp at h
 | [_,_,_,_,_,_],h=>by simp at h
 | [_,_,_,_,_,_,_],h=>by simp at h
 | [_,_,_,_,_,_,_,_],h=>by simp at h
 | [_,_,_,_,_,_,_,_,_],h=>by simp at h
 | [_,_,_,_,_,_,_,_,_,_],h=>by simp at h
 | [_,_,_,_,_,_,_,_,_,_,_],h=>by simp at h
 | _::_::_::_::_::_::_::_::_::_::_::_::_::_,h=>by simp at h
theorem a3K:∀ l:List Int,jd (Γ:=bF) (l.map fun x=>PV.int .i64 x)=some (l.map fun x=>TV.int .i64 x)
 | []=>rfl
 | a::l=>by simp only[List.map_cons,jd,kQ,a3K l]
theorem a4O:∀ l:List Int,TV.Ia (l.map fun x=>TV.int .i64 x)=some (l.map fun x=>Value.int .i64 x)
 | []=>rfl
 | a::l=>by simp only[List.map_cons,TV.Ia,TV.toC,a4O l]
theorem aaj : Tryz.prog.underlying 257 = some (.struct #[⟨"choice", 3, 0, false, "", "mist/node", 0⟩, ⟨"kids", 255, 1, false, "", "mist/node", 8⟩]) := by kernel_rfl
theorem a9D (d:Nat) (a b:Ky):au Tryz.prog (Op.equalIn (d+3) 257 (.agg (a2k .i64 a.l)) (.agg (a2k .i64 b.l)))=some (decide (a=b)):=by
 obtain⟨a1,a2,ha⟩:=a
 obtain⟨b1,b2,hb⟩:=b
 rw[lN (d+2) 257 _ _ _ aaj (by kernel_rfl)]
 have gI:au Tryz.prog (isAgg 3)=some false:=by kernel_rfl
 have gA:au Tryz.prog (isAgg 255)=some true:=by kernel_rfl
 have sA:au Tryz.prog (sizeOf 255)=some 12:=by kernel_rfl
 have sI:au Tryz.prog (sizeOf 3)=some 1:=by kernel_rfl
 have p0:∀ x l,au Tryz.prog (part 3 (a2k .i64 (x::l)) 0)=some (.int .i64 x):=fun x l=>a1S gI (a3F (l:=x::l) (by simp))
 have p1:∀ x l,l.length=12→au Tryz.prog (part 255 (a2k .i64 (x::l)) 1)=some (.agg (a2k .i64 l)):=fun x l h=>by
  obtain⟨a0,a1,a2,a3,a4,a5,a6,a7,a8,a9,a10,a11,rfl⟩:=a7P l h
  kernel_rfl
 have q1 := ig (f := ⟨"choice", 3, 0, false, "", "mist/node", 0⟩) (fs := [⟨"kids", 255, 1, false, "", "mist/node", 8⟩]) (by decide) (p0 a1 a2) (p0 b1 b2) (kS (d + 1) _ .i64 _ a1 b1 a3n)
 have q2 := ig (f := ⟨"kids", 255, 1, false, "", "mist/node", 8⟩) (fs := []) (by decide) (p1 a1 a2 ha) (p1 b1 b2 hb) (a2M d (k := .i64) (t := 255) (by kernel_rfl) sI a3n gI ha hb)
 rw[q1,q2]
 rw[show au Tryz.prog (Op.eqFields (d+2) (a2k .i64 (a1::a2)) (a2k .i64 (b1::b2)) [])=some true from rfl]
 by_cases h1:a1=b1<;>by_cases h2:a2=b2<;>simp[h1,h2]
noncomputable def kK:D7 X0 Tryz.prog 257 Ky where
 pv x:=.agg (x.l.map fun i=>.int .i64 i)
 tv x:=.agg (x.l.map fun i=>.int .i64 i)
 v x:=.agg (a2k .i64 x.l)
 hp x:=congrArg (Option.map TV.agg) (a3K x.l)
 ht x:=congrArg (Option.map fun vs:List Value=>Value.agg vs.toArray) (a4O x.l)
 hc em x:=by
  obtain⟨c,l,h⟩:=x
  obtain⟨a0,a1,a2,a3,a4,a5,a6,a7,a8,a9,a10,a11,rfl⟩:=a7P l h
  kernel_rfl
 hf x l:=TK aaj (fun a b=>a9D 9997 a b) x l
 hk:=TN aaj (fun a b=>a9D 9997 a b)
end Go.Proofs.YtjkgcifieggcpaaGreat
namespace Go.Proofs.YtjkgcifieggcpaaGreat
open Go Tw Pv fA
noncomputable abbrev a1I (nd:List Br):List (Ky×PV X0.Γ):=nd.zipIdx.map fun e=>(kyB e.1,.int .i64 (e.2:Nat))
theorem a4P (nd:List Br):(a1I nd).map (·.1)=nd.map kyB:=by
 unfold a1I
 rw[List.map_map]
 show nd.zipIdx.map (kyB∘fun e=>e.1)=_
 rw[←List.map_map]
 simp
theorem a7Q (nd:List Br) (b:Br):a1I (nd++[b])=a1I nd++[(kyB b,.int .i64 (nd.length:Nat))]:=by
 unfold a1I
 rw[List.zipIdx_append,List.map_append]
 simp
theorem a7R {nd:List Br} {k:Ky} (h:k∈nd.map kyB):(k,(.int .i64 ((nd.map kyB).idxOf k:Nat):PV X0.Γ))∈a1I nd:=by
 have hl:=List.idxOf_lt_length_iff.2 h
 have hl2:(nd.map kyB).idxOf k<nd.length:=by simpa using hl
 unfold a1I
 rw[List.mem_map]
 refine⟨(nd[(nd.map kyB).idxOf k],(nd.map kyB).idxOf k),by rw[List.mem_zipIdx_iff_getElem?];simp[List.getElem?_eq_getElem hl2],?_⟩
 have:=List.getElem_idxOf hl
 rw[List.getElem_map] at this
 show (kyB _,_)=_
 rw[this]
noncomputable abbrev MN (a b:List Int) (E:List V) (nd:List Br) (r:Int):List (PB bF):=MK a b E nd r (kK.es (a1I nd))
noncomputable abbrev MNg (a b:List Int) (E:List V) (nd:List Br) (r:Int) (nm:List (PV bF×PV bF)):List (PB bF):=[.list false false 3 a,.list false false 3 b,.map (kV.es (a1L E)),.map nm,mkC a b 8 9 r,.gone,.gone,.gone,lsV E,lsB nd]
noncomputable abbrev MN' (a b:List Int) (E:List V) (nd:List Br) (r:Int):List (PB bF):=MNg a b E nd r (kK.es (a1I nd))
theorem aak {n:Nat} (hO:Ok (n+5) a0z) {a b:List Int} {E:List V} {nd:List Br} {r:Int} (c:Int) (ks:List Int) (hk:1≤ks.length∧ks.length≤12) (hf:(ks.all fun x=>x==ks.getD 0 0)=true):nH X0 Tryz.prog (ApN (n+6)) (.fn 205 [] []) [.ptr 4 0 9,.int .i64 c,.own 7] (MN a b E nd r++[oI true true ks]) (.int .i64 (ks.getD 0 0)) (MN' a b E nd r):=by
 have h1:=WE hX hO (first:=[]) (cap:=[]) (xs:=[.ptr 4 0 9,.int .i64 c,.own 7]) (H:=MN a b E nd r++[oI true true ks]) (v:=.int .i64 (ks.getD 0 0)) (H1:=MN a b E nd r++[oI true true ks,.cells [.own 7]]) (f:=205) (by kernel_rfl) (.fr [7,8] (a7O (n:=n) (ko:=true) (ex:=true) ks (m12 hk.2)) (.b hf (.o (show zl 0 ks.length from⟨by omega,by omega⟩) .er)))
 exact nH.forget (nH.gs hX h1 [.mv 5,.mv 6,.gc [9,10]] rfl) 7
abbrev a7S (c:Int) (ks:List Int):PB bF:=.cells ((Ky.l (WR c ks)).map fun i=>.int .i64 i)
theorem aal {n:Nat} (hO:Ok (n+5) a0z) {a b:List Int} {E:List V} {nd:List Br} {r:Int} (c:Int) (ks:List Int) (hk:1≤ks.length∧ks.length≤12) (hf:(ks.all fun x=>x==ks.getD 0 0)=false) (hN:(nd.map kyB).Nodup) (hm:WR c ks∈nd.map kyB):nH X0 Tryz.prog (ApN (n+6)) (.fn 205 [] []) [.ptr 4 0 9,.int .i64 c,.own 7] (MN a b E nd r++[oI true true ks]) (.int .i64 ((nd.map kyB).idxOf (WR c ks):Nat)) (MN' a b E nd r):=by
 have hF:VK X0 Tryz.prog 257 (kK.es (a1I nd)) (kK.tv (WR c ks)) (.int .i64 ((nd.map kyB).idxOf (WR c ks):Nat)):=kK.found (by rw[a4P];exact hN) (a7R hm)
 have h1:nH X0 Tryz.prog (ApN (n+6)) (.fn 205 [] []) [.ptr 4 0 9,.int .i64 c,.own 7] (MN a b E nd r++[oI true true ks]) (.int .i64 ((nd.map kyB).idxOf (WR c ks):Nat)) (MN a b E nd r++[oI true true ks,.cells [.own 7],a7S c ks]):=by
  generalize (nd.map kyB).idxOf (WR c ks)=j at hF ⊢
  generalize a1I nd=nm at hF ⊢
  obtain⟨k1,k2⟩:=hk
  rcases ks with _ | ⟨x0,_ | ⟨x1,_ | ⟨x2,_ | ⟨x3,_ | ⟨x4,_ | ⟨x5,_ | ⟨x6,_ | ⟨x7,_ | ⟨x8,_ | ⟨x9,_ | ⟨x10,_ | ⟨x11,_ | ⟨x12,_⟩⟩⟩⟩⟩⟩⟩⟩⟩⟩⟩⟩⟩<;>first | (exfalso;simp at k1;done) | (exfalso;simp at k2;omega) | (exact WE hX hO (first:=[]) (cap:=[]) (by kernel_rfl) (.fr [7,8] (a7O (n:=n) (ko:=true) (ex:=true) _ (m12 k2)) (.b hf (.c (.int .i64 (j:Nat)) [] hF (.b (rfl:(!true)=false) .er)))))
 exact nH.forget (nH.gs hX (nH.forget h1 9) [.mv 5,.mv 6,.gc [10,11]] rfl) 7
theorem aam {n:Nat} (hO:Ok (n+5) a0z) {a b:List Int} {E:List V} {nd:List Br} {r:Int} (c:Int) (ks:List Int) (hk:1≤ks.length∧ks.length≤12) (hf:(ks.all fun x=>x==ks.getD 0 0)=false) (hm:WR c ks∉nd.map kyB) (hl:nd.length+1≤most):nH X0 Tryz.prog (ApN (n+6)) (.fn 205 [] []) [.ptr 4 0 9,.int .i64 c,.own 7] (MN a b E nd r++[oI true true ks]) (.int .i64 (nd.length:Nat)) (MN' a b E (nd++[⟨c,ks⟩]) r):=by
 have hF:AY X0 Tryz.prog 257 (kK.es (a1I nd)) (kK.tv (WR c ks)):=kK.fresh (by rw[a4P];exact hm)
 have hC:=kK.ck (WR c ks)
 have hL:nd.length+([⟨c,ks⟩]:List Br).length≤most:=by simpa using hl
 have em:kK.es (a1I (nd++[⟨c,ks⟩]))=kK.es (a1I nd)++[(kK.pv (WR c ks),.int .i64 (nd.length:Nat))]:=by rw[a7Q];exact List.map_append ..
 show nH X0 Tryz.prog _ _ _ _ _ (MNg a b E (nd++[⟨c,ks⟩]) r (kK.es (a1I (nd++[⟨c,ks⟩]))))
 rw[em]
 have h1:nH X0 Tryz.prog (ApN (n+6)) (.fn 205 [] []) [.ptr 4 0 9,.int .i64 c,.own 7] (MN a b E nd r++[oI true true ks]) (.int .i64 (nd.length:Nat)) [.list false false 3 a,.list false false 3 b,.map (kV.es (a1L E)),.map (kK.es (a1I nd)++[(kK.pv (WR c ks),.int .i64 (nd.length:Nat))]),mkC a b 5 11 r,lsV E,.gone,.gone,.cells [.own 7],a7S c ks,.list true true 102 [⟨c,ks⟩],lsB (nd++[⟨c,ks⟩])]:=by
  generalize a1I nd=nm at hF ⊢
  obtain⟨k1,k2⟩:=hk
  rcases ks with _ | ⟨x0,_ | ⟨x1,_ | ⟨x2,_ | ⟨x3,_ | ⟨x4,_ | ⟨x5,_ | ⟨x6,_ | ⟨x7,_ | ⟨x8,_ | ⟨x9,_ | ⟨x10,_ | ⟨x11,_ | ⟨x12,_⟩⟩⟩⟩⟩⟩⟩⟩⟩⟩⟩⟩⟩<;>first | (exfalso;simp at k1;done) | (exfalso;simp at k2;omega) | (exact WE hX hO (first:=[]) (cap:=[]) (by kernel_rfl) (.fr [7,8] (a7O (n:=n) (ko:=true) (ex:=true) _ (m12 k2)) (.b hf (.q (.bool false) hF (.b (rfl:(!false)=true) (.q (.bool false) hC (.o hF (.o hL .er))))))))
 exact nH.gs hX (nH.forget (nH.forget h1 9) 10) [.mv 5,.gc [12,11]] rfl
theorem acB {n:Nat} (hO:Ok (n+5) a0z) {a b:List Int} {E:List V} {nd:List Br} {r:Int} (c:Int) (ks:List Int) (hk:1≤ks.length∧ks.length≤12) (hN:(nd.map kyB).Nodup) (hl:nd.length+1≤most):nH X0 Tryz.prog (ApN (n+6)) (.fn 205 [] []) [.ptr 4 0 9,.int .i64 c,.own 7] (MN a b E nd r++[oI true true ks]) (.int .i64 (Ls nd c ks)) (MN' a b E (TP nd c ks) r):=by
 unfold Ls TP
 cases hf:ks.all fun x=>x==ks.getD 0 0
 ·rw[if_neg (by simp),if_neg (by simp)]
  by_cases hm:WR c ks∈nd.map kyB
  ·rw[if_pos hm];exact aal hO c ks hk hf hN hm
  ·rw[if_neg hm,List.idxOf_eq_length hm,List.length_map];exact aam hO c ks hk hf hm hl
 ·rw[if_pos rfl,if_pos rfl];exact aak hO c ks hk hf
theorem a4A {nd:List Br} {c:Int} {ks:List Int} (h:(nd.map kyB).Nodup):((TP nd c ks).map kyB).Nodup:=by
 unfold TP
 split
 ·exact h
 ·split
  ·exact h
  ·rename_i hn
   rw[List.map_append,List.nodup_append]
   exact⟨h,by simp,fun x hx y hy=>by simp at hy;subst hy;intro e;subst e;exact hn hx⟩
end Go.Proofs.YtjkgcifieggcpaaGreat
namespace Go.Proofs.YtjkgcifieggcpaaGreat
open Go Tw Pv fA
theorem sNew {n:Nat} (hO:Ok n a0z) (a b:List Int) (ha:a.length≤most) (hb:b.length≤most):nH X0 Tryz.prog (ApN (n+1)) (.fn 201 [] []) [.agg [.lst 3 a false,.lst 3 b false]] [] (.ptr 4 0 9) (MN a b [] [] 0):=
 nH.gs hX (WE hX hO (first:=[]) (cap:=[]) (v:=.ptr 4 0 9) (H1:=[.list false false 3 a,.list false false 3 b,.map [],.map [],.cells [.lst 3 a false,.lst 3 b false,.own 0,.own 1,.nil .slc,.nil .slc,.int .i64 0,.map 2,.map 3]]) (by kernel_rfl) (.o ha (.o hb .er))) [.YD 4 4 79,.YD 4 5 102] rfl
noncomputable abbrev a2N (k:List (Int×Int)):List (Int×PV X0.Γ):=k.map fun p=>(p.1,.int .i64 p.2)
abbrev pC:List (PV bF):=[.ptr 8 0 1,.ptr 7 0 7,.ptr 10 0 1,.ptr 11 0 1]
noncomputable abbrev a9E (l:Lo) (k:List (Int×Int)):List (PB bF):=[.eu l.ps,.eu [.ptr 4 0 9],.map (kI.es (a2N k)),.eu [.map 9],.eu [.fn 202 [] pC]]
noncomputable abbrev HC (l:Lo) (x:Cs):List (PB bF):=MN l.s l.o x.e x.n 0++a9E l x.k
noncomputable abbrev HC' (l:Lo) (x:Cs):List (PB bF):=[.list false false 3 l.s,.list false false 3 l.o,.map (kV.es (a1L x.e)),.map (kK.es (a1I x.n)),mkC l.s l.o 12 13 0,.gone,.gone]++a9E l x.k++[lsV x.e,lsB x.n]
theorem a0A.acC {d:Dg} {x:Cs} (h:a0A d x):x.e.length≤d.ends.length:=List.Nodup.length_le_of_subset h.e1 h.e2
theorem a5w (nd:List Br) (c:Int) (ks:List Int):(TP nd c ks).length≤nd.length+1:=by
 unfold TP
 split
 ·omega
 ·split
  ·omega
  ·simp
theorem a6t {k:List (Int×Int)} {r:Int} (h:r∈k.map (·.1)):(r,knV k r)∈k:=by
 rw[List.mem_map] at h
 obtain⟨p,hp,rfl⟩:=h
 unfold knV
 cases e:k.find? fun q=>q.1==p.1 with
 | none=>have:=List.find?_eq_none.1 e p hp;simp at this
 | some q=>
  have h1:=List.mem_of_find?_eq_some e
  have h2:=List.find?_some e
  simp at h2
  rw[←h2]
  exact h1
theorem a7T {d:Dg} {r:Int} (h:zl (IntKind.i64.wrap (-1-r)) d.ends.length):WS d r∈d.ends:=by
 have h1:(IntKind.i64.wrap (-1-r)).toNat<d.ends.length:=by have:=h.1;have:=h.2;omega
 unfold WS
 simp[List.getD,List.getElem?_eq_getElem h1]
theorem a2m {d:Dg} (P:Cs→Prop) {F:Nat} {r:Int} {x:Cs} (h:P x) (hs:∀ j y,j<(fZ d r).kids.length→P y→P (Qq d F ((fZ d r).kids.getD j 0) y).2) :
  (qj (fun j (y:List Int×Cs)=>(y.1.set j (Qq d F ((fZ d r).kids.getD j 0) y.2).1,(Qq d F ((fZ d r).kids.getD j 0) y.2).2)) (fZ d r).kids.length 0 (List.replicate (fZ d r).kids.length 0,x)).1.length=(fZ d r).kids.length∧P (qj (fun j (y:List Int×Cs)=>(y.1.set j (Qq d F ((fZ d r).kids.getD j 0) y.2).1,(Qq d F ((fZ d r).kids.getD j 0) y.2).2)) (fZ d r).kids.length 0 (List.replicate (fZ d r).kids.length 0,x)).2:=
 NC (g:=fun j (y:List Int×Cs)=>(y.1.set j (Qq d F ((fZ d r).kids.getD j 0) y.2).1,(Qq d F ((fZ d r).kids.getD j 0) y.2).2)) (m:=(fZ d r).kids.length) (k:=0) (s:=(List.replicate (fZ d r).kids.length 0,x)) (fun _ y=>y.1.length=(fZ d r).kids.length∧P y.2) ⟨by simp,h⟩ (fun j y _ hj hy=>⟨by simp[hy.1],hs j y.2 (by omega) hy.2⟩)
theorem a7U {d:Dg}:∀ (F:Nat) (r s:Int) (x:Cs),r<s→s∉x.k.map (·.1)→0≤s→(∀ i,i<d.nodes.length→∀ k,k<(zF d i).kids.length→(zF d i).kids.getD k 0<i)→(0≤r→zl r d.nodes.length)→s∉(Qq d F r x).2.k.map (·.1)
 | 0,_,_,_,_,h,_,_,_=>h
 | F+1,r,s,x,hr,h,h0,hk,hn=>by
  unfold Qq
  by_cases c:r<0
  ·rw[if_pos (by simpa using c)];exact h
  ·rw[if_neg (by simpa using c)]
   split
   ·exact h
   ·have hi:=hn (by omega)
    have hn2:∀ k,k<(fZ d r).kids.length→(fZ d r).kids.getD k 0<r:=fun k hk2=>by
     obtain⟨i1,i2⟩:=hi
     have h9:(fZ d r).kids.getD k 0<(r.toNat:Int):=hk r.toNat (by omega) k hk2
     omega
    have:=(a2m (d:=d) (fun y=>s∉y.k.map (·.1)) (F:=F) (r:=r) h (fun j y hj hy=>a7U F _ s y (by have:=hn2 j hj;omega) hy h0 hk fun h5=>⟨h5,by have:=hi.2;have:=hn2 j hj;omega⟩)).2
    simp only[List.map_append,List.mem_append,not_or]
    exact⟨this,by simp;omega⟩
theorem a6u {d:Dg} (h:O5 d):∀ (F:Nat) (r:Int) (x:Cs),a0A d x→BL d r d.nodes.length→a0A d (Qq d F r x).2
 | 0,_,_,hx,_=>hx
 | F+1,r,x,hx,hr=>by
  unfold Qq
  by_cases c:r<0
  ·rw[if_pos (by simpa using c)]
   refine⟨a4Y hx.e1,fun v hv=>?_,hx.n1,hx.n2,hx.k1,hx.k2⟩
   have hv:v∈Qo x.e (WS d r):=hv
   unfold Qo at hv
   split at hv
   ·exact hx.e2 v hv
   ·rcases List.mem_append.1 hv with hv | hv
    ·exact hx.e2 v hv
    ·rw[List.mem_singleton.1 hv];exact a7T (hr.2 c)
  ·rw[if_neg (by simpa using c)]
   split
   ·exact hx
   ·rename_i c2
    have hlt:r.toNat<d.nodes.length:=by have:=hr.1;omega
    have a4B:∀ k,k<(fZ d r).kids.length→(fZ d r).kids.getD k 0<r:=fun k hk2=>by
     have h9:=(h.kid r.toNat hlt k hk2).1
     have h9:(fZ d r).kids.getD k 0<(r.toNat:Int):=h9
     omega
    have hb:=(a2m (d:=d) (fun y=>a0A d y∧r∉y.k.map (·.1)) (F:=F) (r:=r) ⟨hx,by simpa using c2⟩ (fun j y hj hy=>by
     have hrk:BL d ((fZ d r).kids.getD j 0) d.nodes.length:=⟨by have:=a4B j hj;have:=hr.1;omega,(h.kid r.toNat hlt j hj).2⟩
     refine⟨a6u h F _ y hy.1 hrk,a7U F _ r y (a4B j hj) hy.2 (by omega) (fun i hi k hk=>(h.kid i hi k hk).1) (fun h5=>⟨h5,by have:=hrk.1;omega⟩)⟩)).2
    obtain⟨hb,hb2⟩:=hb
    refine⟨hb.e1,hb.e2,a4A hb.n1,?_,?_,?_⟩
    ·have:=a5w (qj (fun j (y:List Int×Cs)=>(y.1.set j (Qq d F ((fZ d r).kids.getD j 0) y.2).1,(Qq d F ((fZ d r).kids.getD j 0) y.2).2)) (fZ d r).kids.length 0 (List.replicate (fZ d r).kids.length 0,x)).2.n (fZ d r).var (qj (fun j (y:List Int×Cs)=>(y.1.set j (Qq d F ((fZ d r).kids.getD j 0) y.2).1,(Qq d F ((fZ d r).kids.getD j 0) y.2).2)) (fZ d r).kids.length 0 (List.replicate (fZ d r).kids.length 0,x)).1
     have:=hb.n2
     simp only[List.length_append,List.length_singleton]
     omega
    ·simp only[List.map_append,List.map_cons,List.map_nil]
     exact a1z hb.k1 hb2
    ·intro a ha
     simp only[List.map_append,List.mem_append,List.map_cons,List.map_nil,List.mem_singleton] at ha
     rcases ha with ha | rfl
     ·exact hb.k2 a ha
     ·exact⟨by omega,by omega⟩
end Go.Proofs.YtjkgcifieggcpaaGreat
namespace Go.Proofs.YtjkgcifieggcpaaGreat
open Go Tw Pv fA
noncomputable abbrev hCl (l:Lo) (x:Cs) (ks:List Int):List (PB bF):=HC' l x++[oI true true ks]
noncomputable abbrev wCl (l:Lo) (r:Int) (i:Int) (y:List Int×Cs) (x:List (Nat×PE bF)):aP bF:=⟨[(0,xi r),(1,.val (.ptr 8 0 1)),(3,.val (.ptr 10 0 1)),(4,.val (.ptr 11 0 1)),(9,.loc 0 0),(10,xo 14),(43,xL 3 (fZ l.d r).kids),(44,xi (fZ l.d r).kids.length),(45,xi i)]++x,[(fZ l.d r).ps],hCl l y.2 y.1⟩
theorem lCl {M:Nat} (hO:Ok M a0z) {d:Dg} {F:Nat} {r:Int} (hk:(fZ d r).kids.length≤12) (Q:Cs→Prop) {x:Cs} (hx:Q x) (hq:∀ j y,j<(fZ d r).kids.length→Q y→Q (Qq d F ((fZ d r).kids.getD j 0) y).2) (hs:∀ j y,j<(fZ d r).kids.length→Q y→nH X0 Tryz.prog (ApN M) (.fn 202 [] pC) [.int .i64 ((fZ d r).kids.getD j 0)] (HC (WO d) y) (.int .i64 (Qq d F ((fZ d r).kids.getD j 0) y).1) (HC' (WO d) (Qq d F ((fZ d r).kids.getD j 0) y).2)) :
  LpB M 202 0 12 (wCl (WO d) r 0 (List.replicate (fZ d r).kids.length 0,x) []) (.exit 0) (wCl (WO d) r (fZ d r).kids.length (qj (fun j (y:List Int×Cs)=>(y.1.set j (Qq d F ((fZ d r).kids.getD j 0) y.2).1,(Qq d F ((fZ d r).kids.getD j 0) y.2).2)) (fZ d r).kids.length 0 (List.replicate (fZ d r).kids.length 0,x)) [(46,xl false)]):=by
 refine a0V (σ:=List Int×Cs) (N:=(fZ d r).kids.length) (g:=fun j (y:List Int×Cs)=>(y.1.set j (Qq d F ((fZ d r).kids.getD j 0) y.2).1,(Qq d F ((fZ d r).kids.getD j 0) y.2).2)) (s0:=(List.replicate (fZ d r).kids.length 0,x)) (st:=fun k y=>wCl (WO d) r k y []) (fin:=fun y=>wCl (WO d) r (fZ d r).kids.length y [(46,xl false)]) (fun _ y=>y.1.length=(fZ d r).kids.length∧Q y.2) (by kernel_rfl) (m12 hk) ⟨by simp,hx⟩ (fun j y hj hy=>⟨by simp[hy.1],hq j y.2 hj hy.2⟩) (fun j y hj hy m e p g=>?_) (fun y _=>round hX hO (by kernel_rfl) (.b (YZ (fZ d r).kids.length) .ex))
 have h1:=hs j y.2 hj hy.2
 have h2:zl j y.1.length:=dB (by rw[hy.1];exact hj)
 generalize Qq d F ((fZ d r).kids.getD j 0) y.2=z at h1 g
 obtain⟨v,z⟩:=z
 exact round hX hO (by kernel_rfl) (.b (WC hj) (.o (dB hj) (.fr [0,1,2,3,4,12,13,7,8,9,10,11] h1 (.o h2 (.goG [.gc [15,16,14]] g)))))
theorem a1Y (k:List (Int×Int)):(a2N k).map (·.1)=k.map (·.1):=by
 unfold a2N
 rw[List.map_map]
 rfl
theorem aeC {n:Nat} (hO:Ok n a0z) (k:Int):nH X0 Tryz.prog (ApN n) (.fn 204 [] []) [.int .i64 k] [] (iA.put (IntKind.i64.wrap (-1-k))) []:=
 VW.aa6 hX (hO 204 [.int .i64 k] (iA.put (IntKind.i64.wrap (-1-k))) [] [] (by kernel_rfl) (fun q hq=>by cases hq)) rfl rfl rfl rfl
theorem sCl {N:Nat} (hO:∀ m,N≤m→Ok m a0z) {d:Dg} (h:O5 d) (he:d.ends.length+1≤most) (hn:d.nodes.length+1≤most) (h1k:∀ i,i<d.nodes.length→1≤(zF d i).kids.length):∀ (F:Nat) (r:Int) (x:Cs),r+1<F→a0A d x→BL d r d.nodes.length→1≤F→nH X0 Tryz.prog (ApN (N+F+6)) (.fn 202 [] pC) [.int .i64 r] (HC (WO d) x) (.int .i64 (Qq d F r x).1) (HC' (WO d) (Qq d F r x).2)
 | 0,r,x,_,_,_,h1=>by omega
 | F+1,r,x,hF,hx,hr,_=>by
  rw[show N+(F+1)+6=N+F+6+1 by omega]
  have hO1:=hO (N+F+6) (by omega)
  have hO2:=hO (N+F+5) (by omega)
  unfold Qq
  by_cases c:r<0
  ·have t0:decide (r<0)=true:=by simpa using c
   rw[if_pos t0]
   have hi:zl (IntKind.i64.wrap (-1-r)) d.ends.length:=hr.2 c
   have hs:=aeA hO2 (a:=d.sizes) (b:=d.order) (E:=x.e) (nd:=x.n) (r:=0) (nm:=kK.es (a1I x.n)) (WS d r) hx.e1 (by have:=hx.acC;omega)
   exact WE hX hO1 (first:=[]) (by kernel_rfl) (.b t0 (.fr [] (aeC hO1 r) (.o hi (.fr [0,1,2,3,4,5,6] hs .er))))
  ·have t0:decide (r<0)=false:=by simpa using c
   rw[if_neg (by rw[t0];simp)]
   have hlt:r.toNat<d.nodes.length:=by have:=hr.1;omega
   by_cases c2:r∈x.k.map (·.1)
   ·rw[if_pos (by simpa using c2)]
    have hf:VK X0 Tryz.prog 3 (kI.es (a2N x.k)) (kI.tv r) (.int .i64 (knV x.k r)):=kI.found (by rw[a1Y];exact hx.k1) (List.mem_map.2 ⟨(r,knV x.k r),a6t c2,rfl⟩)
    generalize knV x.k r=v at hf ⊢
    exact nH.gs hX (WE hX hO1 (first:=[]) (H1:=HC (WO d) x) (v:=.int .i64 v) (by kernel_rfl) (.b t0 (.c (.int .i64 v) [] hf (.b (rfl:true=true) .er)))) [.mv 5,.mv 6] rfl
   ·rw[if_neg (by simpa using c2)]
    have a4B:∀ k,k<(fZ d r).kids.length→(fZ d r).kids.getD k 0<r:=fun k hk2=>by
     have h9:=(h.kid r.toNat hlt k hk2).1
     have h9:(fZ d r).kids.getD k 0<(r.toNat:Int):=h9
     omega
    have hrk:∀ j,j<(fZ d r).kids.length→BL d ((fZ d r).kids.getD j 0) d.nodes.length:=fun j hj=>⟨by have:=a4B j hj;have:=hr.1;omega,(h.kid r.toNat hlt j hj).2⟩
    have hkl:(fZ d r).kids.length≤12:=h.a3u r.toNat hlt
    have hq:∀ j y,j<(fZ d r).kids.length→(a0A d y∧r∉y.k.map (·.1))→a0A d (Qq d F ((fZ d r).kids.getD j 0) y).2∧r∉(Qq d F ((fZ d r).kids.getD j 0) y).2.k.map (·.1):=fun j y hj hy=>
     ⟨a6u h F _ y hy.1 (hrk j hj),a7U F _ r y (a4B j hj) hy.2 (by omega) (fun i hi k hk=>(h.kid i hi k hk).1) (fun h5=>⟨h5,by have:=(hrk j hj).1;omega⟩)⟩
    have hl:=lCl hO1 (d:=d) (F:=F) (r:=r) hkl (fun y=>a0A d y∧r∉y.k.map (·.1)) (x:=x) ⟨hx,c2⟩ hq (fun j y hj hy=>sCl hO h he hn h1k F _ y (by have:=a4B j hj;omega) hy.1 (hrk j hj) (by omega))
    obtain⟨g1,g2,g3⟩:=a2m (d:=d) (fun y=>a0A d y∧r∉y.k.map (·.1)) (F:=F) (r:=r) (x:=x) ⟨hx,c2⟩ hq
    generalize qj (fun j (y:List Int×Cs)=>(y.1.set j (Qq d F ((fZ d r).kids.getD j 0) y.2).1,(Qq d F ((fZ d r).kids.getD j 0) y.2).2)) (fZ d r).kids.length 0 (List.replicate (fZ d r).kids.length 0,x)=y at hl g1 g2 g3
    obtain⟨ks,e,nd,kn⟩:=y
    have g1:ks.length=(fZ d r).kids.length:=g1
    have hks:1≤ks.length∧ks.length≤12:=by rw[g1];exact⟨h1k r.toNat hlt,hkl⟩
    have hN:nd.length+1≤most:=by have:=g2.a3u;have:=g2.n2;simp at *;omega
    have hs:=acB (n:=N+F) hO2 (a:=d.sizes) (b:=d.order) (E:=e) (nd:=nd) (r:=0) (fZ d r).var ks hks g2.n1 hN
    have f0:AY X0 Tryz.prog 3 (kI.es (a2N x.k)) (kI.tv r):=kI.fresh (by rw[a1Y];exact c2)
    have f1:AY X0 Tryz.prog 3 (kI.es (a2N kn)) (kI.tv r):=kI.fresh (by rw[a1Y];exact g3)
    have f2:=kI.ck r
    show nH X0 Tryz.prog _ _ _ _ (.int .i64 (Ls nd (fZ d r).var ks)) (HC' (WO d) ⟨e,TP nd (fZ d r).var ks,kn++[(r,Ls nd (fZ d r).var ks)]⟩)
    generalize Ls nd (fZ d r).var ks=v at hs ⊢
    generalize TP nd (fZ d r).var ks=nd' at hs ⊢
    have em:kI.es (a2N (kn++[(r,v)]))=kI.es (a2N kn)++[(kI.pv r,.int .i64 v)]:=by
     show List.map _ (List.map _ (kn++[(r,v)]))=_
     rw[List.map_append,List.map_append];rfl
    have f3:VK X0 Tryz.prog 3 (kI.es (a2N kn)++[(kI.pv r,.int .i64 v)]) (kI.tv r) (.int .i64 v):=by
     rw[←em]
     exact kI.found (by rw[a1Y,List.map_append];exact a1z g2.k1 g3) (List.mem_map.2 ⟨(r,v),by simp,rfl⟩)
    have hi:zl r d.nodes.length:=⟨by omega,hr.1⟩
    have hm:((fZ d r).kids.length:Int)≤(most:Int):=by have:=m12 hkl;omega
    show nH X0 Tryz.prog _ _ _ _ _ ([_,_,_,_,_,_,_]++[_,_,.map (kI.es (a2N (kn++[(r,v)]))),_,_]++[_,_])
    rw[em]
    exact nH.gs hX (WE hX hO1 (first:=[]) (v:=.int .i64 v) (H1:=[.list false false 3 d.sizes,.list false false 3 d.order,.map (kV.es (a1L e)),.map (kK.es (a1I nd')),mkC d.sizes d.order 15 16 0,.gone,.gone,.eu (WO d).ps,.eu [.ptr 4 0 9],.map (kI.es (a2N kn)++[(kI.pv r,.int .i64 v)]),.eu [.map 9],.eu [.fn 202 [] pC],.gone,.gone,.gone,lsV e,lsB nd']) (by kernel_rfl) (.b t0 (.q (.bool false) f0 (.b (rfl:false=false) (.o hi (.o (show ((fZ d r).kids.length:Int)=((fZ d r).kids.length:Int) from rfl) (.o (show (0:Int)≤((fZ d r).kids.length:Int) by omega) (.o hm (.wG [.mv 5,.mv 6,.gc [13,14,12]] hl (.fr [0,1,2,3,4,12,13,14] hs (.q (.bool false) f2 (.o f1 (.c (.int .i64 v) [] f3 .er))))))))))))) [.gc [15,16]] rfl
end Go.Proofs.YtjkgcifieggcpaaGreat
namespace Go.Proofs.YtjkgcifieggcpaaGreat
open Go Tw Pv fA
abbrev a3P (a b:List V) (k:Nat):Bool:=!(decide (a.getD k V0=b.getD k V0))
abbrev aan (a b:List V) (i:Int) (x:List (Nat×PE bF)):aP bF:=⟨[(0,xL 79 a),(1,xL 79 b),(12,xi a.length),(13,xi i)]++x,[],[]⟩
def z154 (a b:List V):Unit⊕Nat→Ex×aP bF
 | .inl _=>(.exit 0,aan a b a.length [(14,xl false)])
 | .inr _=>(.ret,⟨[(4,xl false)],[],[]⟩)
theorem acD {n:Nat} {jG:gK bF} (hO:Ok n jG) (a b:List V) (hl:a.length≤most) (h:a.length=b.length):Lp n 154 0 (aan a b 0 []) (z154 a b (mF (a3P a b) a.length)).1 (z154 a b (mF (a3P a b) a.length)).2:=
 searchL (st:=fun i _=>aan a b i []) (fun _ _=>True) (by kernel_rfl) hl trivial (fun k s m hk _ ih=>round hX hO (by kernel_rfl) (.b (WC hk) (.o (dB hk) (.o (dB (h▸hk)) (.q (.bool (!(decide (a.getD k V0=b.getD k V0)))) (neV (.tmp 19) (.tmp 23) (a.getD k V0) (b.getD k V0)) (.ls (.ou nofun) (.nx (ih _ trivial)))))))) (fun s _=>round hX hO (by kernel_rfl) (.b (YZ a.length) (.ou nofun)))
theorem a96 {a b:List V} (h:a.length=b.length):a=b↔∀ j,j<a.length→a.getD j V0=b.getD j V0:=by
 constructor
 ·rintro rfl j _;rfl
 ·intro h2
  apply List.ext_getElem h
  intro j h3 h4
  have:=h2 j h3
  simpa[List.getD,List.getElem?_eq_getElem h3,List.getElem?_eq_getElem h4] using this
theorem a3W {a b:List V} (h:a.length=b.length):D5 (mF (a3P a b) a.length)=decide (a=b):=by
 rw[Bool.eq_iff_iff,Fg,decide_eq_true_eq,a96 h]
 simp[a3P]
theorem a97 {α:Type} [DecidableEq α] {a b:List α} (h:((a.length:Int) != (b.length:Int))=true):decide (a=b)=false:=by
 rw[decide_eq_false_iff_not];rintro rfl;simp at h
theorem acE:Gd a0B:=a9A.add fun n hO p hp=>dS hX hO (by kernel_rfl) (.s (fun h=>.v false (a97 h).symm) fun h=>.z (c:=D5 (mF (a3P p.1 p.2) p.1.length)) (fun h2=>.w (rC (acD hO p.1 p.2 (hp _ (.head _)) (len_eq h)) () h2) (.v true (by rw[←a3W (len_eq h),h2]))) fun h2=>.w (wC (acD hO p.1 p.2 (hp _ (.head _)) (len_eq h)) 0 h2) (.v false (by rw[←a3W (len_eq h),h2])))
theorem acF:Gd a0C:=acE.add fun n hO p hp=>dS hX hO (by kernel_rfl) (.ss (.o (hp _ (.head _)) .rr) .rr)
abbrev wEB (a b:List Br) (i:Int) (x:List (Nat×PE bF)):aP bF:=⟨[(1,xL 102 b),(2,.val (.fn 200 [] [])),(15,xL 102 a),(16,xi a.length),(17,xi i)]++x,[],[]⟩
def zEB (a b:List Br):Unit⊕Nat→Ex×aP bF
 | .inl _=>(.exit 0,wEB a b a.length [(18,xl false)])
 | .inr k=>(.ret,⟨[(6,xl false)],[(a.getD k O4).ps,(b.getD k O4).ps],[]⟩)
theorem lEB {n:Nat} (hO:Ok n a0C) (a b:List Br) (hl:a.length≤most) (h:a.length=b.length) (hk:∀ k,k<a.length→(a.getD k O4).kids.length≤most):Lp n 155 0 (wEB a b 0 []) (zEB a b (mF (cEB a b) a.length)).1 (zEB a b (mF (cEB a b) a.length)).2:=
 searchL (st:=fun i _=>wEB a b i []) (fun _ _=>True) (by kernel_rfl) hl trivial (fun k s m hk2 _ ih=>round hX hO (by kernel_rfl) (.b (WC hk2) (.o (dB hk2) (.o (dB (h▸hk2)) (.o (hk k hk2) (.ls (.ou nofun) (.nx (ih _ trivial)))))))) (fun s _=>round hX hO (by kernel_rfl) (.b (YZ a.length) (.ou nofun)))
theorem acG:Gd a0D:=acF.add fun n hO p hp=>dS hX hO (by kernel_rfl) (.sh (fun _=>.rr) fun h=>.zh (fun h2=>.w (rC (lEB hO p.1 p.2.1 (hp _ (.head _)) (len_eq h) (hp (∀ k,k<p.1.length→(p.1.getD k O4).kids.length≤most) (.tail _ (.head _)))) () h2) .rr) fun h2=>.w (wC (lEB hO p.1 p.2.1 (hp _ (.head _)) (len_eq h) (hp (∀ k,k<p.1.length→(p.1.getD k O4).kids.length≤most) (.tail _ (.head _)))) 0 h2) .rr)
theorem acH:Gd a0E:=acG.add fun n hO p hp=>dS hX hO (by kernel_rfl) (.o (hp _ (.head _)) (.ss (.o (hp _ (.tail _ (.head _))) (.ss (.o (hp _ (.tail _ (.tail _ (.head _)))) (.ss (.o (hp _ (.tail _ (.tail _ (.tail _ (.head _))))) (.o (hp (∀ k,k<p.1.nodes.length→(p.1.nodes.getD k O4).kids.length≤most) (.tail _ (.tail _ (.tail _ (.tail _ (.head _)))))) (.ss .rr .rr))) .rr)) .rr)) .rr))
theorem a5x {x y:Br}:Qr x y=true↔x=y:=by
 obtain⟨a,b⟩:=x
 obtain⟨c,e⟩:=y
 unfold Qr
 simp only[Br.mk.injEq]
 by_cases h:a=c<;>simp[h]
theorem a6Z {a b:List Br}:Lu a b=true↔a=b:=by
 unfold Lu
 by_cases h:a.length=b.length
 ·rw[if_neg (by simp;omega)]
  have e:D5 (mF (cEB a b) a.length)=true↔a=b:=by
   rw[Fg]
   constructor
   ·intro h1
    apply List.ext_getElem h
    intro j h3 h4
    have:=h1 j h3
    simp only[cEB,Bool.not_eq_false'] at this
    have:=a5x.1 this
    simpa[List.getD,List.getElem?_eq_getElem h3,List.getElem?_eq_getElem h4] using this
   ·rintro rfl j _
    simp only[cEB,Bool.not_eq_false']
    exact a5x.2 rfl
  rw[←e]
  cases D5 (mF (cEB a b) a.length)<;>simp
 ·rw[if_pos (by simp;omega)]
  constructor
  ·intro h1;cases h1
  ·rintro rfl;exact absurd rfl h
theorem a6v {a b:Dg}:V5 a b=true↔a=b:=by
 obtain⟨a1,a2,a3,a4,a5⟩:=a
 obtain⟨b1,b2,b3,b4,b5⟩:=b
 unfold V5
 simp only[Dg.mk.injEq]
 by_cases h1:a1=b1
 ·by_cases h2:a2=b2
  ·by_cases h3:a3=b3
   ·have h4:=a6Z (a:=a4) (b:=b4)
    cases e:Lu a4 b4
    ·rw[e] at h4;simp[h1,h2,h3];intro h5;exact absurd h5 (by simpa using h4)
    ·rw[e] at h4;simp at h4;simp[h1,h2,h3,h4]
   ·simp[h3]
  ·simp[h2]
 ·simp[h1]
end Go.Proofs.YtjkgcifieggcpaaGreat
namespace Go.Proofs.YtjkgcifieggcpaaGreat
open Go Tw Pv fA
def KS (d:Dg) (s:List Int×List Int):Cs:=⟨s.2.map fun e=>d.ends.getD e.toNat V0,s.1.map fun o=>⟨(fZ d o).var,(fZ d o).kids.map (phi s)⟩,s.1.map fun o=>(o,phi s o)⟩
def a2E (d:Dg) (s:List Int×List Int):Prop:=∀ o∈s.1,∀ k∈(fZ d o).kids,Cov s k
theorem a4Z {s:List Int×List Int} {x:Int} (l:List Int) (h:Cov s x):phi (s.1,s.2++l) x=phi s x:=by
 unfold phi
 split
 ·rename_i c
  rw[List.idxOf_append,if_pos (h.1 c)]
 ·rfl
theorem a2n {s:List Int×List Int} {x:Int} (l:List Int) (h:Cov s x):phi (s.1++l,s.2) x=phi s x:=by
 unfold phi
 split
 ·rfl
 ·rename_i c
  rw[List.idxOf_append,if_pos (h.2 (by omega))]
theorem aao {d:Dg} {s:List Int×List Int} (hk:a2E d s) (hn:∀ o∈s.1,0≤o) (e:Int):KS d (s.1,s.2++[e])=⟨(KS d s).e++[d.ends.getD e.toNat V0],(KS d s).n,(KS d s).k⟩:=by
 unfold KS
 simp only[List.map_append,List.map_cons,List.map_nil,Cs.mk.injEq,true_and]
 constructor
 ·apply List.map_congr_left
  intro o ho
  congr 1
  apply List.map_congr_left
  intro k hk2
  exact a4Z [e] (hk o ho k hk2)
 ·apply List.map_congr_left
  intro o ho
  rw[a4Z [e] ⟨fun c=>absurd (hn o ho) (by omega),fun _=>ho⟩]
theorem a98 {d:Dg} {s:List Int×List Int} (hk:a2E d s) (hn:∀ o∈s.1,0≤o) {r:Int} (h0:0≤r) (hr:r∉s.1) (hrk:∀ k∈(fZ d r).kids,Cov s k):KS d (s.1++[r],s.2)=⟨(KS d s).e,(KS d s).n++[⟨(fZ d r).var,(fZ d r).kids.map (phi s)⟩],(KS d s).k++[(r,(s.1.length:Int))]⟩:=by
 unfold KS
 simp only[List.map_append,List.map_cons,List.map_nil,Cs.mk.injEq,true_and]
 refine⟨?_,?_⟩
 ·congr 1
  ·apply List.map_congr_left
   intro o ho
   congr 1
   exact List.map_congr_left fun k hk2=>a2n [r] (hk o ho k hk2)
  ·congr 2
   exact List.map_congr_left fun k hk2=>a2n [r] (hrk k hk2)
 ·congr 1
  ·apply List.map_congr_left
   intro o ho
   rw[a2n [r] ⟨fun c=>absurd (hn o ho) (by omega),fun _=>ho⟩]
  ·congr 2
   unfold phi
   rw[if_neg (by omega)]
   simp[List.idxOf_append,hr]
theorem acI {a b:Nat} (ha:a≤2^61) (hb:b≤2^61) (h:IntKind.i64.wrap (-1-(a:Int))=IntKind.i64.wrap (-1-(b:Int))):a=b:=by
 rw[zD (by omega) (by omega),zD (by omega) (by omega)] at h
 omega
theorem a6x {l:List Int} {a b:Int} (ha:a∈l) (hb:b∈l) (h:l.idxOf a=l.idxOf b):a=b:=by
 have h1:=List.getElem_idxOf (List.idxOf_lt_length_iff.2 ha)
 have h2:=List.getElem_idxOf (List.idxOf_lt_length_iff.2 hb)
 rw[←h1,←h2]
 congr 1
theorem a7V {x y:Int} (hx:W64 x) (hy:W64 y) (cx:x<0) (cy:y<0) (h:yQ x=yQ y):x=y:=by
 unfold yQ at h
 rw[a2X hx cx,a2X hy cy] at h
 omega
theorem a6y {s:List Int×List Int} (hs:s.2.length≤2^61) {x y:Int} (hx:Cov s x) (hy:Cov s y) (wx:W64 x) (wy:W64 y) (h:phi s x=phi s y):x=y:=by
 have lt:∀ z,z∈s.2→s.2.idxOf z≤2^61:=fun z hz=>Nat.le_trans (Nat.le_of_lt (List.idxOf_lt_length_iff.2 hz)) hs
 unfold phi at h
 by_cases cx:x<0
 ·rw[if_pos cx] at h
  by_cases cy:y<0
  ·rw[if_pos cy] at h
   exact a7V wx wy cx cy (a6x (hx.1 cx) (hy.1 cy) (acI (lt _ (hx.1 cx)) (lt _ (hy.1 cy)) h))
  ·rw[if_neg cy] at h
   have:=lt _ (hx.1 cx)
   rw[zD (by omega) (by omega)] at h
   omega
 ·rw[if_neg cx] at h
  by_cases cy:y<0
  ·rw[if_pos cy] at h
   have:=lt _ (hy.1 cy)
   rw[zD (by omega) (by omega)] at h
   omega
  ·rw[if_neg cy] at h
   exact a6x (hx.2 (by omega)) (hy.2 (by omega)) (by omega)
end Go.Proofs.YtjkgcifieggcpaaGreat
namespace Go.Proofs.YtjkgcifieggcpaaGreat
open Go Tw Pv fA
theorem a99 {s t:List Int×List Int} {x:Int} (h:Cov s x) (he:Ext s t):phi t x=phi s x:=by
 have hc:=h
 obtain⟨a,b,rfl⟩:=he
 have h2:Cov (s.1,s.2++b) x:=⟨fun c=>List.mem_append_left _ (h.1 c),h.2⟩
 rw[←a4Z b h,←a2n a h2]
theorem a4Q {α β:Type} {g1:Nat→α→α} {g2:Nat→β→β} (R:Nat→α→β→Prop):∀ (m k:Nat) (a:α) (b:β),R k a b→(∀ j a b,k≤j→j<k+m→R j a b→R (j+1) (g1 j a) (g2 j b))→R (k+m) (qj g1 m k a) (qj g2 m k b)
 | 0,_,_,_,h,_=>h
 | m+1,k,a,b,h,hs=>by
  have:=a4Q R m (k+1) (g1 k a) (g2 k b) (hs k a b (Nat.le_refl _) (by omega) h) (fun j a b h1 h2=>hs j a b (by omega) (by omega))
  rw[show k+(m+1)=k+1+m by omega]
  exact this
theorem a6z {α β:Type} [BEq α] [LawfulBEq α] [BEq β] [LawfulBEq β] {f:α→β} {a:α}:∀ {l:List α},(∀ b∈l,f b=f a→b=a)→(l.map f).idxOf (f a)=l.idxOf a
 | [],_=>rfl
 | c::l,h=>by
  rw[List.map_cons,List.idxOf_cons,List.idxOf_cons,a6z fun b hb=>h b (List.mem_cons_of_mem _ hb)]
  by_cases hc:c=a
  ·subst hc;simp
  ·have:¬(f c=f a):=fun e=>hc (h c (.head _) e)
   rw[show (c==a)=false by simpa using hc,show (f c==f a)=false by simpa using this]
structure DgD (d:Dg):Prop where
 ends:d.ends.Nodup
 nodes:∀ i j,i<d.nodes.length→j<d.nodes.length→(zF d i).var=(zF d j).var→(zF d i).kids=(zF d j).kids→i=j
 flat:∀ i,i<d.nodes.length→((zF d i).kids.all fun x=>x==(zF d i).kids.getD 0 0)=false
theorem a5y {d:Dg} (h:d.ends.Nodup) {a b:Int} (ha:zl a d.ends.length) (hb:zl b d.ends.length) (e:d.ends.getD a.toNat V0=d.ends.getD b.toNat V0):a=b:=by
 have h1:a.toNat<d.ends.length:=by have:=ha.1;have:=ha.2;omega
 have h2:b.toNat<d.ends.length:=by have:=hb.1;have:=hb.2;omega
 simp only[List.getD,List.getElem?_eq_getElem h1,List.getElem?_eq_getElem h2,Option.getD_some] at e
 have:=(List.getElem_inj h).1 e
 have:=ha.1;have:=hb.1
 omega
theorem aaq {d:Dg} (hd:DgD d) {s:List Int×List Int} (hs:a0k d s) {r:Int} (hr:zl (yQ r) d.ends.length):(KS d s).e.idxOf (WS d r)=s.2.idxOf (yQ r)∧(WS d r∈(KS d s).e↔yQ r∈s.2):=by
 have hi:∀ b∈s.2,(fun e:Int=>d.ends.getD e.toNat V0) b=(fun e:Int=>d.ends.getD e.toNat V0) (yQ r)→b=yQ r:=fun b hb e=>a5y hd.ends (hs.e2 b hb) hr e
 refine⟨a6z (f:=fun e:Int=>d.ends.getD e.toNat V0) (a:=yQ r) hi,?_⟩
 constructor
 ·intro h
  obtain⟨b,hb,e⟩:=List.mem_map.1 h
  rw[←hi b hb e];exact hb
 ·intro h
  exact List.mem_map.2 ⟨yQ r,h,rfl⟩
theorem aar {d:Dg} {s:List Int×List Int} {r:Int} (h:r∈s.1):knV (KS d s).k r=phi s r:=by
 have h1:r∈(KS d s).k.map (·.1):=by
  unfold KS;rw[List.map_map];exact List.mem_map.2 ⟨r,h,rfl⟩
 have h2:=a6t h1
 obtain⟨o,_,e⟩:=List.mem_map.1 h2
 have e1:o=r:=congrArg Prod.fst e
 have e2:phi s o=knV (KS d s).k r:=congrArg Prod.snd e
 rw[←e2,e1]
theorem a9a {a b:List Int} (h:a.length=b.length) (ha:a.length≤12) (e:WQ a=WQ b):a=b:=by
 unfold WQ at e
 have:=congrArg (List.take a.length) e
 rw[List.take_take,List.take_take,Nat.min_eq_left ha,List.take_append_of_le_length (Nat.le_refl _),List.take_append_of_le_length (by omega),List.take_length,h,List.take_length] at this
 exact this
theorem map_inj {α β:Type} {f:α→β}:∀ {a b:List α},(∀ x∈a,∀ y∈b,f x=f y→x=y)→a.map f=b.map f→a=b
 | [],[],_,_=>rfl
 | [],_::_,_,h=>by simp at h
 | _::_,[],_,h=>by simp at h
 | x::a,y::b,hi,h=>by
  simp only[List.map_cons,List.cons.injEq] at h
  rw[hi x (.head _) y (.head _) h.1,map_inj (fun u hu v hv=>hi u (List.mem_cons_of_mem _ hu) v (List.mem_cons_of_mem _ hv)) h.2]
end Go.Proofs.YtjkgcifieggcpaaGreat
namespace Go.Proofs.YtjkgcifieggcpaaGreat
open Go Tw Pv fA
structure Alk (d:Dg) (F:Nat) (r:Int) (s:List Int×List Int):Prop where
 eq:Qq d F r (KS d s)=(phi (TJ d F r s) r,KS d (TJ d F r s))
 kids:a2E d (TJ d F r s)
 cov:Cov (TJ d F r s) r
 ext:Ext s (TJ d F r s)
theorem a9F {d:Dg} (h:O5 d) (hw:DgR d) (hd:DgD d) (he:d.ends.length≤2^61):∀ (F:Nat) (r:Int) (s:List Int×List Int),r+1<F→a0k d s→a2E d s→BL d r d.nodes.length→1≤F→Alk d F r s
 | 0,r,s,_,_,_,_,h1=>by omega
 | F+1,r,s,hF,hs,hk,hr,_=>by
  have hn:∀ o∈s.1,0≤o:=fun o ho=>(hs.n2 o ho).1
  by_cases c:r<0
  ·have t0:decide (r<0)=true:=by simpa using c
   obtain⟨q1,q2⟩:=aaq hd hs (hr.2 c)
   have e1:Qq d (F+1) r (KS d s)=(IntKind.i64.wrap (-1-((KS d s).e.idxOf (WS d r):Nat)),⟨Qo (KS d s).e (WS d r),(KS d s).n,(KS d s).k⟩):=by unfold Qq;rw[if_pos t0]
   by_cases c2:yQ r∈s.2
   ·have e2:TJ d (F+1) r s=s:=by unfold TJ;rw[if_pos t0,if_neg (by simpa using c2)]
    refine⟨?_,by rw[e2];exact hk,by rw[e2];exact⟨fun _=>c2,fun h0=>by omega⟩,by rw[e2];exact .refl s⟩
    rw[e1,e2,q1,show Qo (KS d s).e (WS d r)=(KS d s).e from if_pos (q2.2 c2)]
    unfold phi
    rw[if_pos c]
   ·have e2:TJ d (F+1) r s=(s.1,s.2++[yQ r]):=by unfold TJ;rw[if_pos t0,if_pos (by simpa using c2)]
    have hc:Cov (s.1,s.2++[yQ r]) r:=⟨fun _=>by simp,fun h0=>by omega⟩
    have hx:Ext s (s.1,s.2++[yQ r]):=⟨[],[yQ r],by simp⟩
    refine⟨?_,by rw[e2];exact fun o ho k hk2=>(hk o ho k hk2).ext hx,by rw[e2];exact hc,by rw[e2];exact hx⟩
    rw[e1,e2,q1,aao hk hn,show Qo (KS d s).e (WS d r)=(KS d s).e++[WS d r] from if_neg (fun e=>c2 (q2.1 e))]
    unfold phi
    rw[if_pos c]
    simp[List.idxOf_append,c2,List.idxOf_eq_length c2,WS]
  ·have t0:¬(decide (r<0)=true):=by simpa using c
   have hkk:(KS d s).k.map (·.1)=s.1:=by unfold KS;rw[List.map_map];exact List.map_id _
   by_cases c2:r∈s.1
   ·have e2:TJ d (F+1) r s=s:=by unfold TJ;rw[if_neg t0,if_pos (by simpa using c2)]
    have e1:Qq d (F+1) r (KS d s)=(knV (KS d s).k r,KS d s):=by unfold Qq;rw[if_neg t0,if_pos (by rw[hkk];simpa using c2)]
    refine⟨?_,by rw[e2];exact hk,by rw[e2];exact⟨fun h0=>absurd h0 c,fun _=>c2⟩,by rw[e2];exact .refl s⟩
    rw[e1,e2,aar c2]
   ·have hlt:r.toNat<d.nodes.length:=by have:=hr.1;omega
    have a4B:∀ k,k<(fZ d r).kids.length→(fZ d r).kids.getD k 0<r:=fun k hk2=>by
     have h9:=(h.kid r.toNat hlt k hk2).1
     have h9:(fZ d r).kids.getD k 0<(r.toNat:Int):=h9
     omega
    have hrk:∀ j,j<(fZ d r).kids.length→BL d ((fZ d r).kids.getD j 0) d.nodes.length:=fun j hj=>⟨by have:=a4B j hj;have:=hr.1;omega,(h.kid r.toNat hlt j hj).2⟩
    have hrel:=a4Q (g1:=fun j (y:List Int×Cs)=>(y.1.set j (Qq d F ((fZ d r).kids.getD j 0) y.2).1,(Qq d F ((fZ d r).kids.getD j 0) y.2).2)) (g2:=fun k y=>TJ d F ((fZ d r).kids.getD k 0) y)
     (fun j (y:List Int×Cs) (t:List Int×List Int)=>y=(((fZ d r).kids.take j).map (phi t)++List.replicate ((fZ d r).kids.length-j) 0,KS d t)∧a0k d t∧a2E d t∧Ext s t∧r∉t.1∧∀ i,i<j→Cov t ((fZ d r).kids.getD i 0)) (fZ d r).kids.length 0 (List.replicate (fZ d r).kids.length 0,KS d s) s ⟨by simp,hs,hk,.refl s,c2,fun i hi=>by omega⟩ (fun j y t _ hj hy=>by
      obtain⟨rfl,y1,y2,y3,y4,y5⟩:=hy
      have hj:j<(fZ d r).kids.length:=by omega
      have ih:=a9F h hw hd he F _ t (by have:=a4B j hj;omega) y1 y2 (hrk j hj) (by omega)
      have hno:=a7B F ((fZ d r).kids.getD j 0) r t (a4B j hj) y4 (by omega) (fun i hi k hk=>(h.kid i hi k hk).1) (fun h5=>⟨h5,by have:=(hrk j hj).1;omega⟩)
      have hok:=a2H h F ((fZ d r).kids.getD j 0) t y1 (hrk j hj)
      obtain⟨i1,i2,i3,i4⟩:=ih
      simp only[i1]
      generalize TJ d F ((fZ d r).kids.getD j 0) t=u at i2 i3 i4 hno hok ⊢
      refine⟨?_,hok,i2,y3.trans i4,hno,fun i hi=>?_⟩
      ·simp only[Prod.mk.injEq,and_true]
       have hl:(List.map (phi t) (List.take j (fZ d r).kids)).length=j:=by rw[List.length_map,List.length_take];omega
       rw[show (fZ d r).kids.length-j=((fZ d r).kids.length-(j+1))+1 by omega,List.replicate_succ,List.set_append_right _ _ (by rw[hl];exact Nat.le_refl j)]
       rw[hl,Nat.sub_self,List.set_cons_zero,List.take_succ_eq_append_getElem hj,List.map_append,List.append_assoc]
       congr 1
       ·apply List.map_congr_left
        intro x hx
        obtain⟨i,hi,rfl⟩:=List.mem_iff_getElem.1 hx
        have hij:i<j:=by simp at hi;omega
        have:=y5 i hij
        rw[a1s (l:=(fZ d r).kids) (show i<(fZ d r).kids.length by omega)] at this
        rw[List.getElem_take]
        exact (a99 this i4).symm
       ·rw[a1s hj];rfl
      ·by_cases hij:i<j
       ·exact (y5 i hij).ext i4
       ·rw[show i=j by omega];exact i3)
    have e1:Qq d (F+1) r (KS d s)=(Ls (qj (fun j (y:List Int×Cs)=>(y.1.set j (Qq d F ((fZ d r).kids.getD j 0) y.2).1,(Qq d F ((fZ d r).kids.getD j 0) y.2).2)) (fZ d r).kids.length 0 (List.replicate (fZ d r).kids.length 0,KS d s)).2.n (fZ d r).var (qj (fun j (y:List Int×Cs)=>(y.1.set j (Qq d F ((fZ d r).kids.getD j 0) y.2).1,(Qq d F ((fZ d r).kids.getD j 0) y.2).2)) (fZ d r).kids.length 0 (List.replicate (fZ d r).kids.length 0,KS d s)).1,⟨(qj (fun j (y:List Int×Cs)=>(y.1.set j (Qq d F ((fZ d r).kids.getD j 0) y.2).1,(Qq d F ((fZ d r).kids.getD j 0) y.2).2)) (fZ d r).kids.length 0 (List.replicate (fZ d r).kids.length 0,KS d s)).2.e,TP (qj (fun j (y:List Int×Cs)=>(y.1.set j (Qq d F ((fZ d r).kids.getD j 0) y.2).1,(Qq d F ((fZ d r).kids.getD j 0) y.2).2)) (fZ d r).kids.length 0 (List.replicate (fZ d r).kids.length 0,KS d s)).2.n (fZ d r).var (qj (fun j (y:List Int×Cs)=>(y.1.set j (Qq d F ((fZ d r).kids.getD j 0) y.2).1,(Qq d F ((fZ d r).kids.getD j 0) y.2).2)) (fZ d r).kids.length 0 (List.replicate (fZ d r).kids.length 0,KS d s)).1,(qj (fun j (y:List Int×Cs)=>(y.1.set j (Qq d F ((fZ d r).kids.getD j 0) y.2).1,(Qq d F ((fZ d r).kids.getD j 0) y.2).2)) (fZ d r).kids.length 0 (List.replicate (fZ d r).kids.length 0,KS d s)).2.k++[(r,Ls (qj (fun j (y:List Int×Cs)=>(y.1.set j (Qq d F ((fZ d r).kids.getD j 0) y.2).1,(Qq d F ((fZ d r).kids.getD j 0) y.2).2)) (fZ d r).kids.length 0 (List.replicate (fZ d r).kids.length 0,KS d s)).2.n (fZ d r).var (qj (fun j (y:List Int×Cs)=>(y.1.set j (Qq d F ((fZ d r).kids.getD j 0) y.2).1,(Qq d F ((fZ d r).kids.getD j 0) y.2).2)) (fZ d r).kids.length 0 (List.replicate (fZ d r).kids.length 0,KS d s)).1)]⟩):=by
     rw[Qq,if_neg t0,if_neg (by rw[hkk];simpa using c2)]
    have e2:TJ d (F+1) r s=((qj (fun k y=>TJ d F ((fZ d r).kids.getD k 0) y) (fZ d r).kids.length 0 s).1++[r],(qj (fun k y=>TJ d F ((fZ d r).kids.getD k 0) y) (fZ d r).kids.length 0 s).2):=by
     rw[TJ,if_neg t0,if_neg (by simpa using c2)]
    generalize qj (fun j (y:List Int×Cs)=>(y.1.set j (Qq d F ((fZ d r).kids.getD j 0) y.2).1,(Qq d F ((fZ d r).kids.getD j 0) y.2).2)) (fZ d r).kids.length 0 (List.replicate (fZ d r).kids.length 0,KS d s)=y at hrel e1
    generalize qj (fun k y=>TJ d F ((fZ d r).kids.getD k 0) y) (fZ d r).kids.length 0 s=t at hrel e2
    obtain⟨rfl,f2,f3,f4,f5,f6⟩:=hrel
    rw[Nat.zero_add] at f6
    simp only[Nat.zero_add,List.take_length,Nat.sub_self,List.replicate_zero,List.append_nil] at e1
    have hcov:∀ k∈(fZ d r).kids,Cov t k:=fun k hk2=>by
     obtain⟨i,hi,rfl⟩:=List.mem_iff_getElem.1 hk2
     have:=f6 i hi
     rwa [a1s hi] at this
    have hW:∀ o,0≤o→zl o d.nodes.length→∀ k∈(fZ d o).kids,W64 k:=fun o _ ho k hk2=>by
     obtain⟨i,hi,rfl⟩:=List.mem_iff_getElem.1 hk2
     have:=hw.kid o.toNat (by have:=ho.1;have:=ho.2;omega) i hi
     rwa [a1s hi] at this
    have hrI:zl r d.nodes.length:=⟨by omega,hr.1⟩
    have hel:t.2.length≤2^61:=Nat.le_trans f2.len.2 he
    have a9G:((fZ d r).kids.map (phi t)).all (fun x=>x==((fZ d r).kids.map (phi t)).getD 0 0)=false:=by
     cases e:((fZ d r).kids.map (phi t)).all (fun x=>x==((fZ d r).kids.map (phi t)).getD 0 0)
     ·rfl
     ·exfalso
      have hf:=hd.flat r.toNat hlt
      rw[List.all_eq_false] at hf
      obtain⟨x,hx,hx2⟩:=hf
      have hx:x∈(fZ d r).kids:=hx
      have h0:0<(fZ d r).kids.length:=List.length_pos_of_mem hx
      rw[List.all_eq_true] at e
      have:=e (phi t x) (List.mem_map.2 ⟨x,hx,rfl⟩)
      rw[a1s (by simpa using h0),List.getElem_map] at this
      have h00:(fZ d r).kids[0]∈(fZ d r).kids:=List.getElem_mem h0
      have:=a6y hel (hcov x hx) (hcov _ h00) (hW r (by omega) hrI x hx) (hW r (by omega) hrI _ h00) (by simpa using this)
      apply hx2
      have h9:(zF d r.toNat).kids.getD 0 0=(fZ d r).kids[0]:=a1s h0
      rw[h9,this];simp
    have hnot:WR (fZ d r).var ((fZ d r).kids.map (phi t))∉(KS d t).n.map kyB:=by
     intro hm
     unfold KS at hm
     rw[List.map_map] at hm
     obtain⟨o,ho,e⟩:=List.mem_map.1 hm
     have ho2:=f2.n2 o ho
     have hol:o.toNat<d.nodes.length:=by have:=ho2.1;have:=ho2.2;omega
     have ev:(zF d o.toNat).var=(zF d r.toNat).var:=congrArg Prod.fst e
     have ep:WQ ((fZ d o).kids.map (phi t))=WQ ((fZ d r).kids.map (phi t)):=congrArg (fun z:Ky=>z.2.val) e
     have hlen:((zF d o.toNat).kids.length:Int)=((zF d r.toNat).kids.length:Int):=by rw[h.ksz _ hol,h.ksz _ hlt,ev]
     have hlen:(fZ d o).kids.length=(fZ d r).kids.length:=by exact_mod_cast hlen
     have em:=a9a (by simpa using hlen) (by rw[List.length_map];exact h.a3u _ hol) ep
     have ek:=map_inj (fun x hx y hy e=>a6y hel (f3 o ho x hx) (hcov y hy) (hW o ho2.1 ho2 x hx) (hW r (by omega) hrI y hy) e) em
     have:=hd.nodes _ _ hol hlt ev ek
     have:o=r:=by have:=ho2.1;omega
     exact f5 (this▸ho)
    have hnl:(KS d t).n.length=t.1.length:=by unfold KS;simp
    have hR:Ls (KS d t).n (fZ d r).var ((fZ d r).kids.map (phi t))=(t.1.length:Int):=by
     unfold Ls;rw[a9G,if_neg (by simp),List.idxOf_eq_length hnot,List.length_map,hnl]
    have hS:TP (KS d t).n (fZ d r).var ((fZ d r).kids.map (phi t))=(KS d t).n++[⟨(fZ d r).var,(fZ d r).kids.map (phi t)⟩]:=by
     unfold TP;rw[a9G,if_neg (by simp),if_neg hnot]
    have hx:Ext t (t.1++[r],t.2):=⟨[r],[],by simp⟩
    have hc:Cov (t.1++[r],t.2) r:=⟨fun h0=>absurd h0 c,fun _=>by simp⟩
    refine⟨?_,?_,by rw[e2];exact hc,by rw[e2];exact f4.trans hx⟩
    ·rw[e1,e2,hR,hS,a98 f3 (fun o ho=>(f2.n2 o ho).1) (by omega) f5 hcov]
     unfold phi
     rw[if_neg c]
     simp[List.idxOf_append,f5]
    ·rw[e2]
     intro o ho k hk2
     rcases List.mem_append.1 ho with ho | ho
     ·exact (f3 o ho k hk2).ext hx
     ·rw[List.mem_singleton.1 ho] at hk2
      exact (hcov k hk2).ext hx
end Go.Proofs.YtjkgcifieggcpaaGreat
namespace Go.Proofs.YtjkgcifieggcpaaGreat
open Go Tw Pv fA
theorem a3X (b:Br):Qg b=b.kids.all fun x=>x==b.kids.getD 0 0:=by
 have e:D5 (a00 (a0f b) 1 (max 1 b.kids.length))=true↔∀ k,1≤k→k<b.kids.length→b.kids.getD k 0=b.kids.getD 0 0:=by
  unfold a00 gS
  rw[GR (r:=fun k=>k)]
  constructor
  ·intro h k h1 h2
   simpa[a0f] using h k h1 (by omega)
  ·intro h k h1 h2
   simpa[a0f] using h k h1 (by omega)
 have e2:(b.kids.all fun x=>x==b.kids.getD 0 0)=true↔∀ k,1≤k→k<b.kids.length→b.kids.getD k 0=b.kids.getD 0 0:=by
  rw[List.all_eq_true]
  constructor
  ·intro h k _ h2
   have:=h _ (getD_mem h2)
   simpa using this
  ·intro h x hx
   obtain⟨k,hk,rfl⟩:=List.mem_iff_getElem.1 hx
   by_cases h0:k=0
   ·subst h0;rw[a1s hk];simp
   ·have:=h k (by omega) hk
    rw[a1s hk] at this
    rw[this];simp
 have:Qg b=true↔(b.kids.all fun x=>x==b.kids.getD 0 0)=true:=by
  rw[e2,←e]
  unfold Qg
  cases D5 (a00 (a0f b) 1 (max 1 b.kids.length))<;>simp
 rw[Bool.eq_iff_iff];exact this
theorem aas {d:Dg}:D5 (mF (cD0 d) d.ends.length)=true↔d.ends.Nodup:=by
 rw[Fg]
 have h1:∀ i,cD0 d i=false↔∀ j,j<i→d.ends.getD j V0≠d.ends.getD i V0:=fun i=>by
  have:D5 (mF (cD1 d i) i)=true↔∀ j,j<i→d.ends.getD j V0≠d.ends.getD i V0:=by
   rw[Fg];simp[cD1]
  rw[←this]
  unfold cD0
  cases D5 (mF (cD1 d i) i)<;>simp
 have hg:∀ j,(hj:j<d.ends.length)→d.ends.getD j V0=d.ends[j]:=fun j hj=>by simp[List.getD,List.getElem?_eq_getElem hj]
 constructor
 ·intro h
  rw[List.nodup_iff_pairwise_ne,List.pairwise_iff_getElem]
  intro i j hi hj hij
  have:=(h1 j).1 (h j hj) i hij
  rwa [hg i hi,hg j hj] at this
 ·intro h i hi
  rw[h1]
  intro j hj
  rw[List.nodup_iff_pairwise_ne,List.pairwise_iff_getElem] at h
  have:=h j i (by omega) hi hj
  rwa [hg i hi,hg j (by omega)]
theorem aat {d:Dg}:D5 (mF (cD2 d) d.nodes.length)=true↔(∀ i j,i<d.nodes.length→j<d.nodes.length→(zF d i).var=(zF d j).var→(zF d i).kids=(zF d j).kids→i=j)∧∀ i,i<d.nodes.length→((zF d i).kids.all fun x=>x==(zF d i).kids.getD 0 0)=false:=by
 rw[Fg]
 have h1:∀ i,cD2 d i=false↔Qg (zF d i)=false∧∀ j,j<i→¬((zF d j).var=(zF d i).var∧(zF d j).kids=(zF d i).kids):=fun i=>by
  have h3:∀ j,cD3 d i j=false↔¬((zF d j).var=(zF d i).var∧(zF d j).kids=(zF d i).kids):=fun j=>by
   unfold cD3
   by_cases hv:(zF d j).var=(zF d i).var
   ·rw[if_pos (by rw[beq_iff_eq];exact hv),decide_eq_false_iff_not]
    exact⟨fun a b=>a b.2,fun a b=>a ⟨hv,b⟩⟩
   ·rw[if_neg (by rw[beq_iff_eq];exact hv)]
    exact⟨fun _ a=>hv a.1,fun _=>rfl⟩
  have:D5 (mF (cD3 d i) i)=true↔∀ j,j<i→¬((zF d j).var=(zF d i).var∧(zF d j).kids=(zF d i).kids):=by
   rw[Fg]
   exact forall_congr' fun j=>forall_congr' fun _=>h3 j
  rw[←this]
  unfold cD2
  cases Qg (zF d i)
  ·cases D5 (mF (cD3 d i) i)<;>simp
  ·simp
 constructor
 ·intro h
  refine⟨fun i j hi hj hv hk=>?_,fun i hi=>by rw[←a3X];exact ((h1 i).1 (h i hi)).1⟩
  rcases Nat.lt_trichotomy i j with hij | hij | hij
  ·exact absurd ⟨hv,hk⟩ (((h1 j).1 (h j hj)).2 i hij)
  ·exact hij
  ·exact absurd ⟨hv.symm,hk.symm⟩ (((h1 i).1 (h i hi)).2 j hij)
 ·intro h i hi
  rw[h1]
  refine⟨by rw[a3X];exact h.2 i hi,fun j hj hc=>?_⟩
  have:=h.1 j i (by omega) hi hc.1 hc.2
  omega
theorem a9b {d:Dg}:(D5 (mF (cD0 d) d.ends.length)=true∧D5 (mF (cD2 d) d.nodes.length)=true)↔DgD d:=by
 rw[aas,aat]
 exact⟨fun h=>⟨h.1,h.2.1,h.2.2⟩,fun h=>⟨h.ends,h.nodes,h.flat⟩⟩
theorem a3Y {l:List Int} {m:Nat}:BJ l m=true↔l=UZ m:=by
 unfold BJ
 have e:D5 (mF (a3p l) l.length)=true↔∀ j,j<l.length→l.getD j 0=(j:Int):=by
  rw[Fg];simp[a3p]
 constructor
 ·intro h
  split at h
  ·rename_i h1
   have hl:(l.length:Int)=(m:Int):=by simpa using h
   have hl:l.length=m:=by omega
   rw[a2Q (d:=0) (by rw[yM,hl])]
   intro j hj
   rw[e.1 h1 j hj]
   have:j<m:=by omega
   simp[UZ,List.getD,this]
  ·cases h
 ·rintro rfl
  rw[if_pos (e.2 fun j hj=>by rw[yM] at hj;simp[UZ,List.getD,hj]),yM]
  simp
theorem a7W {d:Dg}:GY d=true↔DgD d∧srN d d.root=UZ d.nodes.length∧srE d d.root=UZ d.ends.length:=by
 rw[←a9b,←a3Y,←a3Y]
 unfold GY
 cases D5 (mF (cD0 d) d.ends.length)
 ·simp
 ·cases D5 (mF (cD2 d) d.nodes.length)
  ·simp
  ·cases BJ (srN d d.root) (d.nodes.length:Int)<;>simp
end Go.Proofs.YtjkgcifieggcpaaGreat
namespace Go.Proofs.YtjkgcifieggcpaaGreat
open Go Tw Pv fA
theorem a5Y {d:Dg}:a0A d cl0:=⟨List.nodup_nil,by simp,List.nodup_nil,by simp,List.nodup_nil,by simp⟩
abbrev a7X (b:Br):Bool:=b.kids.all fun x=>x==b.kids.getD 0 0
theorem a6A {d:Dg}:∀ (F:Nat) (r:Int) (x:Cs),(∀ b∈x.n,a7X b=false)→∀ b∈(Qq d F r x).2.n,a7X b=false
 | 0,_,_,h=>h
 | F+1,r,x,h=>by
  unfold Qq
  split
  ·exact h
  ·split
   ·exact h
   ·have hb:=(a2m (d:=d) (fun y=>∀ b∈y.n,a7X b=false) (F:=F) (r:=r) h (fun j y _ hy=>a6A F _ y hy)).2
    intro b hbm
    simp only[TP] at hbm
    split at hbm
    ·exact hb b hbm
    ·rename_i hf
     split at hbm
     ·exact hb b hbm
     ·rcases List.mem_append.1 hbm with hbm | hbm
      ·exact hb b hbm
      ·rw[List.mem_singleton.1 hbm]
       simpa using hf
theorem a7a {d:Dg} (h:O5 d) (e:LC d=d):DgD d:=by
 have hc:=a6u h 6002 d.root cl0 a5Y h.root
 have hf:=a6A (d:=d) 6002 d.root cl0 (by simp)
 have ee:(Qq d 6002 d.root cl0).2.e=d.ends:=congrArg Dg.ends e
 have en:(Qq d 6002 d.root cl0).2.n=d.nodes:=congrArg Dg.nodes e
 rw[en] at hf
 have hg:∀ j,(hj:j<d.nodes.length)→zF d j=d.nodes[j]:=fun j hj=>by simp[List.getD,List.getElem?_eq_getElem hj]
 refine⟨ee▸hc.e1,fun i j hi hj hv hk=>?_,fun i hi=>?_⟩
 ·have hn:(d.nodes.map kyB).Nodup:=en▸hc.n1
  have:=(List.getElem_inj (i:=i) (j:=j) (h₀:=by simpa using hi) (h₁:=by simpa using hj) hn).1 (by
   rw[List.getElem_map,List.getElem_map,←hg i hi,←hg j hj]
   show WR _ _=WR _ _
   rw[hv,hk])
  exact this
 ·have:=hf (zF d i) (by rw[hg i hi];exact List.getElem_mem hi)
  exact this
theorem a3Z {d:Dg} {n m:Nat} {x:Int} (hm:m≤2^61) (hx:W64 x) (hc:Cov (UZ n,UZ m) x):phi (UZ n,UZ m) x=x:=by
 have hid:∀ (n:Nat) (y:Int),y∈UZ n→(((UZ n).idxOf y:Nat):Int)=y:=fun n y hy=>by
  have hl:=List.idxOf_lt_length_iff.2 hy
  have h1:=List.getElem_idxOf hl
  rw[yM] at hl
  simp only[UZ,List.getElem_map,List.getElem_range] at h1
  exact h1
 unfold phi
 by_cases c:x<0
 ·rw[if_pos c]
  have h1:=hid m _ (hc.1 c)
  have h2:yQ x=-1-x:=a2X hx c
  have h3:=a6q (hc.1 c)
  have h4:=h3.2
  rw[show ((((UZ n,UZ m):List Int×List Int).2.idxOf (yQ x):Nat):Int)=yQ x from h1,h2,zD (by omega) (by omega)]
  omega
 ·rw[if_neg c]
  exact hid n _ (hc.2 (by omega))
theorem a5z {α:Type} (l:List α) (f:Int→α) (h:∀ j,(hj:j<l.length)→f j=l[j]):(UZ l.length).map f=l:=by
 apply List.ext_getElem (by simp[UZ])
 intro j h1 h2
 simp[UZ,h j h2]
theorem a6B {d:Dg} {j:Nat} (hj:j<d.ends.length):d.ends.getD ((j:Nat):Int).toNat V0=d.ends[j]:=by simp[List.getD,List.getElem?_eq_getElem hj]
theorem a6C {l:List Int} {m:Nat} (hl:l.length=m) (h:∀ j,(hj:j<l.length)→l[j]=(j:Int)):l=UZ m:=by
 apply List.ext_getElem (by rw[yM,hl])
 intro j h1 h2
 rw[h j h1];simp[UZ]
theorem aau {d:Dg} (h:O5 d) (hw:DgR d) (hd:DgD d) (he:d.ends.length≤2^61) {t:List Int×List Int} (ht:a0k d t) (hk:a2E d t) (hc:Cov t d.root):((KS d t).e=d.ends∧(KS d t).n=d.nodes∧phi t d.root=d.root)↔(t.1=UZ d.nodes.length∧t.2=UZ d.ends.length):=by
 have hW:∀ o,zl o d.nodes.length→∀ k∈(fZ d o).kids,W64 k:=fun o ho k hk2=>by
  obtain⟨i,hi,rfl⟩:=List.mem_iff_getElem.1 hk2
  have:=hw.kid o.toNat (by have:=ho.1;have:=ho.2;omega) i hi
  rwa [a1s hi] at this
 have hg:∀ j,(hj:j<d.nodes.length)→fZ d (j:Nat)=d.nodes[j]:=fun j hj=>by simp[List.getD,List.getElem?_eq_getElem hj]
 constructor
 ·rintro⟨h1,h2,h3⟩
  have l1:t.2.length=d.ends.length:=by have:=congrArg List.length h1;simpa[KS] using this
  have l2:t.1.length=d.nodes.length:=by have:=congrArg List.length h2;simpa[KS] using this
  have e2:t.2=UZ d.ends.length:=a6C l1 fun j hj=>by
   have hj2:j<d.ends.length:=by omega
   have:(KS d t).e[j]'(by rw[h1];exact hj2)=d.ends[j]:=by simp only[h1]
   unfold KS at this
   simp only[List.getElem_map] at this
   rw[←a6B hj2] at this
   exact a5y hd.ends (ht.e2 _ (List.getElem_mem hj)) (dB hj2) this
  have key:∀ (N:Nat) (o:Int),o∈t.1→o.toNat<N→phi t o=o:=by
   intro N
   induction N with
   | zero=>intro o _ hN;omega
   | succ N ih=>
    intro o ho hN
    have ho2:=ht.n2 o ho
    have hlt:=List.idxOf_lt_length_iff.2 ho
    have hj2:t.1.idxOf o<d.nodes.length:=by omega
    have hel:=List.getElem_idxOf hlt
    have:(KS d t).n[t.1.idxOf o]'(by rw[h2];exact hj2)=d.nodes[t.1.idxOf o]:=by simp only[h2]
    unfold KS at this
    simp only[List.getElem_map,hel] at this
    have hkm:(fZ d o).kids.map (phi t)=(fZ d o).kids:=by
     conv=>rhs;rw[←List.map_id (fZ d o).kids]
     apply List.map_congr_left
     intro k hk2
     show phi t k=k
     have hcv:=hk o ho k hk2
     by_cases c:k<0
     ·have:=a3Z (d:=d) (n:=0) (m:=d.ends.length) he (hW o ho2 k hk2) ⟨fun c=>by have:=hcv.1 c;rwa [e2] at this,fun h0=>by omega⟩
      unfold phi at this ⊢
      rw[if_pos c] at this ⊢
      rw[e2];exact this
     ·obtain⟨i,hi,rfl⟩:=List.mem_iff_getElem.1 hk2
      have hlt3:o.toNat<d.nodes.length:=by have:=ho2.1;have:=ho2.2;omega
      have h9:=(h.kid o.toNat hlt3 i hi).1
      have h9:(fZ d o).kids.getD i 0<(o.toNat:Int):=h9
      rw[a1s hi] at h9
      exact ih _ (hcv.2 (by omega)) (by omega)
    rw[hkm] at this
    have hv:(zF d (t.1.idxOf o)).var=(zF d o.toNat).var:=by rw[show zF d (t.1.idxOf o)=d.nodes[t.1.idxOf o] from hg _ hj2,←this]
    have hkk:(zF d (t.1.idxOf o)).kids=(zF d o.toNat).kids:=by rw[show zF d (t.1.idxOf o)=d.nodes[t.1.idxOf o] from hg _ hj2,←this]
    have h8:=hd.nodes _ _ hj2 (by have:=ho2.1;have:=ho2.2;omega) hv hkk
    unfold phi
    rw[if_neg (by have:=ho2.1;omega),h8]
    have:=ho2.1
    omega
  refine⟨a6C l2 fun j hj=>?_,e2⟩
  have hm:=List.getElem_mem hj
  have:=key ((t.1[j]).toNat+1) _ hm (by omega)
  unfold phi at this
  rw[if_neg (by have:=(ht.n2 _ hm).1;omega)] at this
  rw[←this]
  have:t.1.idxOf t.1[j]=j:=by
   have h5:=List.idxOf_lt_length_iff.2 hm
   exact (List.getElem_inj (i:=t.1.idxOf t.1[j]) (j:=j) (h₀:=h5) (h₁:=hj) ht.n1).1 (List.getElem_idxOf h5)
  rw[this]
 ·rintro⟨h1,h2⟩
  obtain⟨t1,t2⟩:=t
  simp only at h1 h2
  subst h1 h2
  refine⟨?_,?_,a3Z (d:=d) he hw.root hc⟩
  ·exact a5z d.ends (fun e=>d.ends.getD e.toNat V0) fun j hj=>a6B hj
  ·refine a5z d.nodes _ fun j hj=>?_
   have hkm:(fZ d (j:Nat)).kids.map (phi (UZ d.nodes.length,UZ d.ends.length))=(fZ d (j:Nat)).kids:=by
    conv=>rhs;rw[←List.map_id (fZ d (j:Nat)).kids]
    apply List.map_congr_left
    intro k hk2
    exact a3Z (d:=d) he (hW _ (dB hj) k hk2) (hk _ (by show (j:Int)∈UZ _;unfold UZ;rw[List.mem_map];exact⟨j,List.mem_range.2 hj,rfl⟩) k hk2)
   rw[hkm,hg j hj]
theorem a7b {d:Dg} (h:O5 d) (hw:DgR d) (he:d.ends.length≤2^61) (hn:d.nodes.length≤6000):LC d=d↔GY d=true:=by
 have main:DgD d→(LC d=d↔(srN d d.root=UZ d.nodes.length∧srE d d.root=UZ d.ends.length)):=fun hd=>by
  have hr:d.root+1<6002:=by have:=h.root.1;omega
  have ha:=a9F h hw hd he 6002 d.root ([],[]) hr sr0 (fun o ho=>by cases ho) h.root (by omega)
  have hs:=a2H h 6002 d.root ([],[]) sr0 h.root
  have hi:=aau h hw hd he hs ha.kids ha.cov
  have e0:KS d ([],[])=cl0:=rfl
  have e1:=ha.eq
  rw[e0] at e1
  unfold srN srE
  rw[←hi]
  unfold LC
  rw[e1]
  obtain⟨d1,d2,d3,d4,d5⟩:=d
  simp
 rw[a7W]
 constructor
 ·intro e
  have hd:=a7a h e
  exact⟨hd,(main hd).1 e⟩
 ·rintro⟨hd,h2⟩
  exact (main hd).2 h2
end Go.Proofs.YtjkgcifieggcpaaGreat
namespace Go.Proofs.YtjkgcifieggcpaaGreat
open Go Tw Pv fA
noncomputable abbrev HCw (l:Lo) (x:Cs):List (PB bF):=[.list false false 3 l.s,.list false false 3 l.o,.map (kV.es (a1L x.e)),.map (kK.es (a1I x.n)),mkC l.s l.o 12 13 0,.gone,.gone,.cells l.ps,.cells [.ptr 4 0 9],.map (kI.es (a2N x.k)),.cells [.map 9],.cells [.fn 202 [] pC],lsV x.e,lsB x.n]
theorem acJ:Gd a0F:=acH.a9u 6010 a9A fun n hn hO hOl l hp=>by
 obtain⟨n,rfl⟩:∃ k,n=k+6009:=⟨n-6009,by omega⟩
 have h:ClP l:=hp _ (.head _)
 obtain⟨s,o,d⟩:=l
 obtain⟨e1,e2,ht,he,hn6,hk,hsl,hol⟩:=h
 obtain rfl:s=d.sizes:=e1
 obtain rfl:o=d.order:=e2
 have hO':∀ m,n+1≤m→Ok m _:=fun m hm=>hOl m (by omega)
 have he:d.ends.length+1≤most:=he
 have hn6:d.nodes.length≤6000:=hn6
 have hr:=ht.root.1
 have hr:d.root<(d.nodes.length:Int):=hr
 have hcl:=sCl (N:=n+1) hO' ht he (by unfold most;omega) hk 6002 d.root cl0 (by omega) a5Y ht.root (by omega)
 have hnew:=sNew (n:=n+6008) (hO' _ (by omega)) d.sizes d.order hsl hol
 show VW _ _ _ _ _ (dA.put (LC d)) _
 unfold LC
 generalize Qq d 6002 d.root cl0=z at hcl ⊢
 obtain⟨v,e,nd,k⟩:=z
 exact dS hX (hO (n+6009) (by omega)) (by kernel_rfl) (.fr [] hnew (.frR (H2:=HCw (WO d) ⟨e,nd,k⟩) [1,2,3,4,5,6,7,0,8,9,10,11] [7,8,10,11] hcl .rr))
end Go.Proofs.YtjkgcifieggcpaaGreat
namespace Go.Proofs.YtjkgcifieggcpaaGreat
open Go Tw Pv fA
theorem a6D {d:Dg} (h:O5 d):∀ (F:Nat) (r:Int) (x:Cs),(∀ b∈x.n,b.kids.length≤12)→BL d r d.nodes.length→∀ b∈(Qq d F r x).2.n,b.kids.length≤12
 | 0,_,_,hx,_=>hx
 | F+1,r,x,hx,hr=>by
  unfold Qq
  by_cases c:r<0
  ·rw[if_pos (by simpa using c)];exact hx
  ·rw[if_neg (by simpa using c)]
   split
   ·exact hx
   ·have hlt:r.toNat<d.nodes.length:=by have:=hr.1;omega
    have hb:=a2m (d:=d) (fun y=>∀ b∈y.n,b.kids.length≤12) (F:=F) (r:=r) hx (fun j y hj hy=>a6D h F _ y hy (by
     have h9:=h.kid r.toNat hlt j hj
     have h8:=h9.1
     have h8:(fZ d r).kids.getD j 0<(r.toNat:Int):=h8
     exact⟨by have:=hr.1;omega,h9.2⟩))
    intro b hbm
    simp only[TP] at hbm
    split at hbm
    ·exact hb.2 b hbm
    ·split at hbm
     ·exact hb.2 b hbm
     ·rcases List.mem_append.1 hbm with hbm | hbm
      ·exact hb.2 b hbm
      ·rw[List.mem_singleton.1 hbm]
       show List.length _≤12
       rw[hb.1]
       exact h.a3u r.toNat hlt
theorem a4a {d:Dg} (h:DgR d) (he:d.ends.length+1≤most) (hs:d.sizes.length≤most) (ho:d.order.length≤most) (h0:(nC d).2=0):(nC d).1=WO d∧ClP (WO d):=by
 rw[a4M h (by omega)] at h0 ⊢
 have h0:fU d=0:=h0
 have hc:=sH ho (show d.ends.length≤most by omega) (by simp[h0])
 have hf:(iK d.sizes d.order != 0)=false:=by
  cases e:iK d.sizes d.order != 0
  ·rfl
  ·unfold fU at h0;rw[if_pos e] at h0;simp[h0] at e
 refine⟨by rw[if_neg (by rw[hf];simp)],rfl,rfl,hc.1,he,hc.2,fun i hi=>?_,hs,ho⟩
 have h1:=hc.1.ksz i hi
 have h2:=hc.1.var i hi
 have h3:=(Jt hf).sz _ (getD_mem (s:=d.sizes) (k:=(zF d i).var.toNat) (by have:=h2.2;have:=h2.1;omega))
 have h1:((zF d i).kids.length:Int)=d.sizes.getD (zF d i).var.toNat 0:=h1
 show 1≤(zF d i).kids.length
 omega
theorem a6a {d:Dg} (h:O5 d) (hn:d.nodes.length≤6000):(LC d).ends.length≤d.ends.length∧(LC d).nodes.length≤6000∧∀ b∈(LC d).nodes,b.kids.length≤12:=by
 have hc:=a6u h 6002 d.root cl0 a5Y h.root
 refine⟨hc.acC,?_,a6D h 6002 d.root cl0 (by simp) h.root⟩
 have h1:=hc.a3u
 have h2:=hc.n2
 show (Qq d 6002 d.root cl0).2.n.length≤6000
 omega
theorem a7c {d:Dg} (h:DgR d) (hs:d.sizes.length≤most) (ho:d.order.length≤2^20) (he:d.ends.length+1≤most) (h0:((nC d).2==0)=true):ClP (nC d).1∧(LC (nC d).1.d).sizes.length≤most∧(LC (nC d).1.d).order.length≤most∧(LC (nC d).1.d).ends.length≤most∧(LC (nC d).1.d).nodes.length≤most∧∀ k,k<(LC (nC d).1.d).nodes.length→((LC (nC d).1.d).nodes.getD k O4).kids.length≤most:=by
 have ho:d.order.length≤most:=by unfold most;omega
 obtain⟨h1,h2⟩:=a4a h he hs ho (by simpa using h0)
 rw[h1]
 obtain⟨a,b,c⟩:=a6a h2.t h2.n
 refine⟨h2,hs,ho,?_,?_,fun k hk=>?_⟩
 ·have a:(LC d).ends.length≤d.ends.length:=a
  show (LC d).ends.length≤most
  omega
 ·have b:(LC d).nodes.length≤6000:=b
  show (LC d).nodes.length≤most
  unfold most;omega
 ·exact m12 (c _ (a7H hk))
theorem acK:Gd a0G:=acJ.add fun n hO p hp=>dS hX hO (by kernel_rfl) (.o (hp _ (.tail _ (.head _))) (.o (hp _ (.tail _ (.tail _ (.head _)))) (.o (by have h9:p.ends.length+1≤most:=hp _ (.tail _ (.tail _ (.tail _ (.head _))));show p.ends.length≤most;omega) (.sh (fun h=>have q:=a7c (hp _ (.head _)) (hp _ (.tail _ (.head _))) (hp _ (.tail _ (.tail _ (.head _)))) (hp _ (.tail _ (.tail _ (.tail _ (.head _))))) h;.o q.1 (.o q.2.1 (.o q.2.2.1 (.o q.2.2.2.1 (.o q.2.2.2.2.1 (.o q.2.2.2.2.2 (.ss .rr .rr))))))) fun _=>.rr))))
theorem a4b {d:Dg} (h:DgR d) (hs:d.sizes.length≤most) (ho:d.order.length≤most) (he:d.ends.length+1≤most):lT d=(if (iK d.sizes d.order != 0)=true then lo0 else WO d,a0n d):=by
 have h9:=a4M h (show d.ends.length≤most by omega)
 unfold lT a0n
 by_cases h0:(nC d).2=0
 ·obtain⟨h1,h2⟩:=a4a h he hs ho h0
  have h3:=a7b h2.t h (show d.ends.length≤2^61 by unfold most at he;omega) h2.n
  have h4:fU d=0:=by rw[h9] at h0;exact h0
  rw[if_pos (show ((nC d).2==0)=true by simpa using h0),h1,h4,if_neg (show ¬(((0:Int) != 0)=true) by simp)]
  rw[h9] at h1
  show (if (!(V5 (LC d) d))=true then (WO d,4) else nC d)=_
  have h1:(if (iK d.sizes d.order != 0)=true then lo0 else WO d)=WO d:=h1
  rw[h9,h1]
  by_cases h5:LC d=d
  ·rw[if_neg (show ¬((!(V5 (LC d) d))=true) by rw[a6v.2 h5];simp),if_neg (show ¬((!(GY d))=true) by rw[h3.1 h5];simp),h4]
  ·have h6:V5 (LC d) d=false:=by
    cases e:V5 (LC d) d
    ·rfl
    ·exact absurd (a6v.1 e) h5
   have h7:GY d=false:=by
    cases e:GY d
    ·rfl
    ·exact absurd (h3.2 e) h5
   rw[if_pos (show (!(V5 (LC d) d))=true by rw[h6];rfl),if_pos (show (!(GY d))=true by rw[h7];rfl)]
 ·have h4:¬fU d=0:=by rw[h9] at h0;exact h0
  rw[if_neg (show ¬(((nC d).2==0)=true) by simpa using h0),h9,if_pos (show (fU d != 0)=true by simpa using h4)]
end Go.Proofs.YtjkgcifieggcpaaGreat
namespace fA
def a2a:List Int→List Int→List Int→List (List Int)
 | f::fs,t::ts,x::p=>(a2a fs ts p).map (x::·)++(List.range (t-x).toNat).flatMap fun (k:Nat)=>(a2a fs ts fs).map ((x+1+(k:Int))::·)
 | _,_,_=>[[]]
theorem a1M:∀ {f t p:List Int},V6 t p→V6 t f→a2a f t p=p::(match Ee f t p with | some q=>a2a f t q | none=>[])
 | [],[],[],_,_=>rfl
 | f::fs,t::ts,x::p,h,hf=>by
  have ih:=a1M h.2 hf.2
  simp only[a2a,Ee]
  rw[ih]
  cases hn:Ee fs ts p with
  | some q=>rfl
  | none=>
   by_cases e:x=t
   ·subst e;simp
   ·have hx:x<t:=by have:=h.1;omega
    obtain⟨m,hm⟩:∃ m,(t-x).toNat=m+1:=⟨(t-x).toNat-1,by omega⟩
    rw[if_neg e,hm,List.range_succ_eq_map]
    simp only[List.map_cons,List.map_nil,List.cons_append,List.nil_append,List.flatMap_cons,List.flatMap_map]
    have e1:∀ k:Nat,x+1+((Nat.succ k:Nat):Int)=x+1+1+(k:Int):=fun k=>by rw[Nat.succ_eq_add_one];push_cast;omega
    show _=(x::p)::a2a (f::fs) (t::ts) ((x+1)::fs)
    simp only[a2a]
    rw[show (t-(x+1)).toNat=m by omega]
    simp only[e1]
    simp
 | [],_::_,_,_,hf=>hf.elim
 | _::_,[],_,_,hf=>hf.elim
 | [],[],_::_,h,_=>h.elim
 | _::_,_::_,[],h,_=>h.elim
theorem a4k:∀ {f t p:List Int} (a b x:Int),t.length=f.length→p.length=f.length→Ee (f++[a]) (t++[b]) (p++[x])=if x=b then (Ee f t p).map (·++[a]) else some (p++[x+1])
 | [],[],[],a,b,x,_,_=>by simp only[List.nil_append,Ee];split<;>rfl
 | f::fs,t::ts,y::p,a,b,x,h1,h2=>by
  have ih:=a4k (f:=fs) (t:=ts) (p:=p) a b x (by simpa using h1) (by simpa using h2)
  simp only[List.cons_append,Ee,ih]
  by_cases e:x=b
  ·rw[if_pos e,if_pos e]
   cases hn:Ee fs ts p with
   | some q=>rfl
   | none=>simp only[Option.map_none];split<;>rfl
  ·rw[if_neg e,if_neg e]
 | [],_::_,_,_,_,_,h,_=>by simp at h
 | [],[],_::_,_,_,_,_,h=>by simp at h
 | _::_,[],_,_,_,_,h,_=>by simp at h
 | _::_,_::_,[],_,_,_,_,h=>by simp at h
def a6E (f t p:List Int):Option (List Int):=if (car f t p.length p).1=0 then none else some ((car f t p.length p).2.set ((car f t p.length p).1-1) ((car f t p.length p).2.getD ((car f t p.length p).1-1) 0+1))
theorem a5A:∀ (k:Nat) {f t p1 p2:List Int},t.length=f.length→p1.length=k→k≤f.length→(if (car f t k (p1++p2)).1=0 then none else some ((car f t k (p1++p2)).2.set ((car f t k (p1++p2)).1-1) ((car f t k (p1++p2)).2.getD ((car f t k (p1++p2)).1-1) 0+1)))=(Ee (f.take k) (t.take k) p1).map (·++p2)
 | 0,f,t,p1,p2,h1,h2,h3=>by
  rw[List.eq_nil_of_length_eq_zero h2]
  simp[car,Ee]
 | k+1,f,t,p1,p2,h1,h2,h3=>by
  obtain⟨q,x,rfl⟩:∃ q x,p1=q++[x]:=by
   rcases List.eq_nil_or_concat p1 with rfl | ⟨q,x,e⟩
   ·cases h2
   ·exact⟨q,x,by simpa using e⟩
  have hq:q.length=k:=by simpa using h2
  have hf:f.take (k+1)=f.take k++[f.getD k 0]:=by rw[List.take_add_one,List.getElem?_eq_getElem (by omega)];simp[List.getD,List.getElem?_eq_getElem (show k<f.length by omega)]
  have ht:t.take (k+1)=t.take k++[t.getD k 0]:=by rw[List.take_add_one,List.getElem?_eq_getElem (by omega)];simp[List.getD,List.getElem?_eq_getElem (show k<t.length by omega)]
  have hg:(q++[x]++p2).getD k 0=x:=by simp[List.getD,←hq]
  have hs:∀ y,(q++[x]++p2).set k y=q++(y::p2):=fun y=>by rw[List.append_assoc,←hq,List.set_append_right _ _ (Nat.le_refl _)];simp
  rw[hf,ht,a4k _ _ _ (by simp;omega) (by simp;omega)]
  simp only[car,hg]
  by_cases e:x=t.getD k 0
  ·rw[if_pos e,if_pos e,hs,a5A k h1 hq (by omega),Option.map_map]
   congr 1
   funext r
   simp
  ·rw[if_neg e,if_neg e,if_neg (by omega)]
   simp only[Nat.add_sub_cancel,hg,hs,Option.map_some]
   simp
theorem a5B {f t p:List Int} (h1:t.length=f.length) (h2:p.length=f.length):a6E f t p=Ee f t p:=by
 have:=a5A f.length (f:=f) (t:=t) (p1:=p) (p2:=[]) h1 h2 (Nat.le_refl _)
 unfold a6E
 rw[h2]
 rw[List.append_nil] at this
 rw[this,List.take_length,List.take_of_length_le (by omega)]
 cases hn:Ee f t p with
 | none=>rfl
 | some q=>simp
theorem a4l:∀ {s:List Int},yP s→a2a (s.map fun _=>0) (s.map (·-1)) (s.map fun _=>0)=(List.range (cnt s)).map fun (k:Nat)=>WG s k
 | [],_=>rfl
 | a::s,h=>by
  have ih:=a4l h.tail
  have ha:=h a (List.mem_cons_self ..)
  have hp:=ny h.tail
  have hc:((cnt s:Nat):Int)=bV s:=by show ((bV s).toNat:Int)=_;omega
  obtain⟨m,hm⟩:∃ m:Nat,a=m+1:=⟨(a-1).toNat,by omega⟩
  subst hm
  have hcnt:cnt ((m+1:Int)::s)=(m+1)*cnt s:=by
   show ((m+1:Int)*bV s).toNat=_
   rw[←hc]
   have:((m:Int)+1)*((cnt s:Nat):Int)=(((m+1)*cnt s:Nat):Int):=by push_cast;rfl
   rw[this,Int.toNat_natCast]
  have hrow:∀ k:Nat,k<m+1→(List.range (cnt s)).map (fun (j:Nat)=>WG ((m+1:Int)::s) ((k*cnt s+j:Nat):Int))=((List.range (cnt s)).map fun (j:Nat)=>WG s j).map ((k:Int)::·):=fun k hk=>by
   rw[List.map_map]
   apply List.map_congr_left
   intro j hj
   have hj:=List.mem_range.1 hj
   simp only[WG,Function.comp]
   have e1:(((k*cnt s+j:Nat):Int))=(k:Int)*bV s+j:=by rw[←hc];push_cast;rfl
   have e2:((k:Int)*bV s+j)/bV s=k:=by
    rw[Int.add_comm,Int.add_mul_ediv_right _ _ (by omega),Int.ediv_eq_zero_of_lt (by omega) (by omega)];omega
   have e3:((k:Int)*bV s+j)%bV s=j:=by
    rw[Int.add_comm,Int.add_mul_emod_self_right,Int.emod_eq_of_lt (by omega) (by omega)]
   rw[e1,e2,Int.emod_eq_of_lt (by omega) (by omega),←a3x _ h.tail,e3]
  have hall:∀ n:Nat,n≤m+1→(List.range (n*cnt s)).map (fun (j:Nat)=>WG ((m+1:Int)::s) j)=(List.range n).flatMap fun (k:Nat)=>((List.range (cnt s)).map fun (j:Nat)=>WG s j).map ((k:Int)::·):=by
   intro n
   induction n with
   | zero=>intro _;simp
   | succ n ih2=>
    intro hn
    rw[Nat.succ_mul,List.range_add,List.map_append,ih2 (by omega),List.range_succ,List.flatMap_append]
    rw[List.flatMap_cons,List.flatMap_nil,List.append_nil,←hrow n (by omega),List.map_map]
    rfl
  rw[hcnt,hall (m+1) (Nat.le_refl _),List.range_succ_eq_map]
  simp only[List.map_cons,a2a,ih,List.flatMap_cons,List.flatMap_map]
  rw[show ((m:Int)+1-1-0).toNat=m by omega]
  congr 1
  congr 1
  funext k
  congr 1
  funext r
  congr 1
  omega
end fA
namespace Pv
open Go Tw
def a1G:Code→Option (Code×Code)
 | .seq a b=>match a1G a with
  | some r=>some r
  | none=>a1G b
 | .cond _ a b=>match a1G a with
  | some r=>some r
  | none=>a1G b
 | .block _ b=>a1G b
 | .loop b=>a1G b
 | .rangeFunc _ _ a b=>some (a,b)
 | _=>none
def a4p (P:Program) (f:Nat):Code:=
 match CS P f with
 | some t=>match a1G t.body with
  | some (a,_)=>a
  | none=>.skip
 | none=>.skip
def a6b (P:Program) (f:Nat):Code:=
 match CS P f with
 | some t=>match a1G t.body with
  | some (_,b)=>b
  | none=>.skip
 | none=>.skip
end Pv
namespace Go.Proofs.YtjkgcifieggcpaaGreat
open Go Tw Pv fA
theorem acL:Gd a0H:=acK.add fun n hO p hp=>dS hX hO (by kernel_rfl) .rr
abbrev a9c (l:Lo) (p:List Int) (r:Int) (x:List (Nat×PE bF)):aP bF:=⟨[(1,xL 3 p),(2,.val (.fn 241 [] [])),(3,.loc 0 0),(7,xi r)]++x,[l.ps],[]⟩
theorem aeF {n:Nat} (hO:Ok n a0H) {l:Lo} (h:O5 l.d) (hm:l.d.nodes.length≤6000) {p:List Int} (hp:xB l.d.sizes p=true):Lp n 240 0 (a9c l p l.d.root []) (.exit 0) (a9c l p (atR l.d p) [(12,xl false)]):=by
 have h0:l.d.root<(l.d.nodes.length:Int):=h.root.1
 have ha:=a2R h hp 6001 l.d.root (by omega) h.root
 have hit:=a7C 6001 l.d.root ha.1
 refine a7x (st:=fun r=>a9c l p r []) (g:=gAt l.d p) (out:=fun r=>(.exit 0,a9c l p r [(12,xl false)])) (fun r=>BL l.d r l.d.nodes.length) hit (by kernel_rfl) (by decide) h.root ?_ ?_
 ·intro r r1 hr e
  unfold gAt at e
  split at e
  ·rename_i c
   have c:0≤r:=by simpa using c
   cases e
   have:=(Qk h hp (r:=r) ⟨c,hr.1⟩).2.2
   have a3:r<(l.d.nodes.length:Int):=hr.1
   obtain⟨a1,a2⟩:=this
   exact⟨by omega,a2⟩
  ·cases e
 ·intro r m r' hr ih
  by_cases c:0≤r
  ·have hk:=Qk h hp (r:=r) ⟨c,hr.1⟩
   have t1:decide (r≥0)=true:=by simpa using c
   have e:gAt l.d p r=.inl ((fZ l.d r).kids.getD (p.getD (fZ l.d r).var.toNat 0).toNat 0):=by unfold gAt;rw[if_pos t1]
   have g:=ih _ e
   rw[e]
   have hr2:zl r l.d.nodes.length:=⟨c,hr.1⟩
   exact round hX hO (by kernel_rfl) (.b t1 (.o hr2 (.o hr2 (.o hk.1 (.o hk.2.1 (.go g))))))
  ·have t1:decide (r≥0)=false:=by simpa using c
   have e:gAt l.d p r=.inr r:=by unfold gAt;rw[if_neg (by rw[t1];simp)]
   rw[e]
   dsimp only[a2b]
   exact round hX hO (by kernel_rfl) (.b t1 .ex)
theorem acM:Gd a0I:=acL.add fun n hO p hp=>dS hX hO (by kernel_rfl) (.w (aeF hO (hp _ (.head _)) (hp _ (.tail _ (.head _))) (hp _ (.tail _ (.tail _ (.head _))))) .rr)
abbrev fPl (d:Dg):PV bF:=.fn 239 [.agg [.lst 3 d.sizes false,.lst 3 d.order false]] []
abbrev a7Y (d:Dg):List (Nat×PE bF):=[(1,.val (.ptr 0 0 7)),(2,.val (.ptr 1 0 1)),(7,.val (fPl d))]
noncomputable abbrev LRL (d:Dg) (rd:Bool) (pend:Option Code):PB bF:=.loop rd 206 (ntP Tryz.prog 206) (a7Y d) [8,9] (a4p Tryz.prog 206) (a6b Tryz.prog 206) pend
noncomputable abbrev ML (d:Dg) (rd:Bool) (acc:List V):List (PB bF):=[.cells (WO d).ps,.cells [.own 2],lsV acc,.mark,LRL d rd none]
noncomputable abbrev ML' (d:Dg) (p:List Int) (acc:List V):List (PB bF):=[.cells (WO d).ps,.cells [.own 6],.gone,.mark,LRL d true none,oI true true p,lsV acc]
theorem yL {n:Nat} (hO:Ok n a0I) {d:Dg} (h:O5 d) (hm:d.nodes.length≤6000) {p:List Int} (hp:xB d.sizes p=true) (k:Int) (acc:List V) (hl:acc.length+1≤most):nH X0 Tryz.prog (ApN (n+1)) (.iF 4) [.int .i64 k,.own 5] (ML d true acc++[oI true true p]) (.bool true) (ML' d p (acc++[a0p d p])):=by
 have q1:fO X0 Tryz.prog T (ApN n) LL 206 true (ntP Tryz.prog 206) 6 (a4p Tryz.prog 206) ⟨a1F (a7Y d) [8,9] [.int .i64 k,.own 5],[],ML d true acc++[oI true true p]⟩ .norm ⟨[(1,.val (.ptr 0 0 7)),(2,.val (.ptr 1 0 1)),(4,.val (.own 5))],[],ML d true acc++[oI true true p]⟩:=a6j hX hO (by kernel_rfl) .xx
 have he:zl (yQ (atR d p)) d.ends.length:=a6m h hm hp
 have hL:acc.length+([a0p d p]:List V).length≤most:=hl
 have q2:fO X0 Tryz.prog T (ApN n) LL 206 true (ntP Tryz.prog 206) 6 (a6b Tryz.prog 206) ⟨[(1,.val (.ptr 0 0 7)),(2,.val (.ptr 1 0 1)),(4,.val (.own 5))],[],ML d false acc++[oI true true p]⟩ .norm ⟨[],[],[.cells (WO d).ps,.cells [.own 7],.gone,.mark,LRL d false none,oI true true p,.list true true 79 [a0p d p],lsV (acc++[a0p d p])]⟩:=a6j hX hO (by kernel_rfl) (.o h (.o hm (.o hp (.o he (.o hL .xx)))))
 exact nH.gs hX (a8P hX (l:=4) rfl rfl (by kernel_rfl) q1 rfl q2 rfl) [.gc [7]] rfl
noncomputable abbrev wPl (d:Dg) (num:Int) (p:List Int) (acc:List V) (x:List (Nat×PE bF)):aP bF:=⟨[(1,.val (.iF 4)),(2,.loc 0 0),(4,.val (.own 5)),(5,xi num)]++x,[[.lst 3 d.sizes false,.lst 3 d.order false]],ML' d p acc⟩
def a4r (s:List Int) (x:Int×List Int):(Int×List Int)⊕(Int×List Int):=if decide (x.1≥0)=true then (if (x.2.getD x.1.toNat 0==IntKind.i64.wrap (s.getD x.1.toNat 0-1))=true then .inl (IntKind.i64.wrap (x.1-1),x.2.set x.1.toNat 0) else .inr x) else .inr x
theorem a9d {s:List Int} (hs:yP s) {k:Nat} (hk:k<s.length):IntKind.i64.wrap (s.getD k 0-1)=(esI s).getD k 0:=by
 have h1:=hs _ (getD_mem hk)
 rw[zD (by omega) (by omega)]
 simp[List.getD,List.getElem?_eq_getElem hk]
theorem a5C {s:List Int} {k:Nat}:(zsI s).getD k 0=0:=by
 simp only[List.getD,List.getElem?_map]
 cases s[k]?<;>rfl
theorem acO {k:Nat} (hk:k≤6):IntKind.i64.wrap (((k+1:Nat):Int)-1-1)=(k:Int)-1:=by rw[zD (by omega) (by omega)];omega
theorem a7Z {s:List Int} (hs:yP s) (hl:s.length≤6):∀ (k:Nat) (p:List Int),k≤s.length→itF (a4r s) (k+1) ((k:Int)-1,p)=some (((car (zsI s) (esI s) k p).1:Int)-1,(car (zsI s) (esI s) k p).2)
 | 0,p,_=>by
  simp only[itF,a4r,car]
  rw[if_neg (by simp)]
 | k+1,p,h=>by
  rw[itF]
  simp only[a4r,car]
  have hk:(((k+1:Nat):Int)-1).toNat=k:=by omega
  rw[if_pos (decide_eq_true (by omega)),hk,a9d hs (by omega),acO (by omega)]
  by_cases e:p.getD k 0=(esI s).getD k 0
  ·rw[if_pos (by simpa using e),if_pos e,a5C]
   exact a7Z hs hl k _ (by omega)
  ·rw[if_neg (by simpa using e),if_neg e]
theorem aeG {n:Nat} (hO:Ok n a0I) {d:Dg} (hf:Fine d.sizes) (num:Int) {p:List Int} (hp:p.length=d.sizes.length) (acc:List V):fO X0 Tryz.prog T (ApN n) LL 239 false (ntP Tryz.prog 239) 5 (.loop (YX Tryz.prog 239 1)) (wPl d num p acc [(6,xi ((p.length:Int)-1))]) (.exit 2) (wPl d num (car (zsI d.sizes) (esI d.sizes) p.length p).2 acc [(6,xi (((car (zsI d.sizes) (esI d.sizes) p.length p).1:Int)-1)),(35,xl false)]):=by
 have hit:=a7Z hf.sz hf.len p.length p (by omega)
 refine a5V (X:=X0) (P:=Tryz.prog) (T:=T) (st:=fun x=>wPl d num x.2 acc [(6,xi x.1)]) (g:=a4r d.sizes) (s:=((p.length:Int)-1,p)) (out:=fun x=>(.exit 2,wPl d num x.2 acc [(6,xi x.1),(35,xl false)])) (fun x=>x.2.length=d.sizes.length∧x.1<d.sizes.length) hit (by kernel_rfl) (show p.length+1≤LL by have:=hf.len;have:=LLm;unfold most at this;omega) ⟨hp,by show (p.length:Int)-1<_;omega⟩ ?_ ?_
 ·rintro⟨x,q⟩ ⟨y,r⟩ ⟨h1,h2⟩ e
  unfold a4r at e
  split at e
  ·rename_i c
   split at e
   ·cases e
    have c:x≥0:=by simpa using c
    have h2:x<(d.sizes.length:Int):=h2
    have:=hf.len
    refine⟨by simpa using h1,?_⟩
    show IntKind.i64.wrap (x-1)<_
    rw[zD (by omega) (by omega)]
    omega
   ·cases e
  ·cases e
 ·rintro⟨x,q⟩ m r' ⟨h1,h2⟩ ih
  by_cases c:x≥0
  ·have t1:decide (x≥0)=true:=by simpa using c
   have i1:zl x q.length:=⟨c,by show x<_;rw[h1];exact h2⟩
   have i2:zl x d.sizes.length:=⟨c,h2⟩
   cases t2:q.getD x.toNat 0==IntKind.i64.wrap (d.sizes.getD x.toNat 0-1)
   ·have e:a4r d.sizes (x,q)=.inr (x,q):=by unfold a4r;rw[if_pos t1,if_neg (by simp only[];rw[t2];simp)]
    rw[e]
    dsimp only[a2b]
    exact round hX hO (by kernel_rfl) (.b t1 (.o i1 (.o i2 (.b t2 .ex))))
   ·have e:a4r d.sizes (x,q)=.inl (IntKind.i64.wrap (x-1),q.set x.toNat 0):=by unfold a4r;rw[if_pos t1,if_pos t2]
    have g:=ih _ e
    rw[e]
    exact round hX hO (by kernel_rfl) (.b t1 (.o i1 (.o i2 (.b t2 (.o i1 (.go g))))))
  ·have t1:decide (x≥0)=false:=by simpa using c
   have e:a4r d.sizes (x,q)=.inr (x,q):=by unfold a4r;rw[if_neg (by simp only[];rw[t1];simp)]
   rw[e]
   dsimp only[a2b]
   exact round hX hO (by kernel_rfl) (.b t1 .ex)
structure Pf where
 num:Int
 last:Int
 p:List Int
 acc:List V
def gPl (d:Dg) (x:Int×List Int×List V):(Int×List Int×List V)⊕Pf:=if decide ((((cr d.sizes x.2.1).1:Nat):Int)-1<0)=true then .inr ⟨x.1,(((cr d.sizes x.2.1).1:Nat):Int)-1,(cr d.sizes x.2.1).2,x.2.2++[a0p d x.2.1]⟩
 else .inl (IntKind.i64.wrap (x.1+1),(cr d.sizes x.2.1).2.set ((((cr d.sizes x.2.1).1:Nat):Int)-1).toNat (IntKind.i64.wrap ((cr d.sizes x.2.1).2.getD ((((cr d.sizes x.2.1).1:Nat):Int)-1).toNat 0+1)),x.2.2++[a0p d x.2.1])
theorem a5a {f t:List Int}:∀ (k:Nat) (p:List Int),(car f t k p).1≤k∧(car f t k p).2.length=p.length
 | 0,p=>⟨Nat.le_refl _,rfl⟩
 | k+1,p=>by
  simp only[car]
  split
  ·have:=a5a (f:=f) (t:=t) k (p.set k (f.getD k 0))
   exact⟨by omega,by simpa using this.2⟩
  ·exact⟨Nat.le_refl _,rfl⟩
theorem a5b {s:List Int} (hs:yP s):∀ (k:Nat) (p:List Int),xB s p=true→xB s (car (zsI s) (esI s) k p).2=true
 | 0,p,h=>h
 | k+1,p,h=>by
  simp only[car]
  split
  ·rw[a5C]
   rcases Nat.lt_or_ge k s.length with hk | hk
   ·have h1:=hs _ (getD_mem hk)
    exact a5b hs k _ (a5p (ch:=(k:Int)) h (dB hk) ⟨by omega,by rw[Int.toNat_natCast];omega⟩)
   ·have hp:=a1v h
    rw[List.set_eq_of_length_le (by omega)]
    exact a5b hs k _ h
  ·exact h
theorem a1A:∀ {s p:List Int},xB s p=true→V6 (esI s) p
 | [],[],_=>trivial
 | a::s,x::p,h=>by
  simp only[xB,Bool.and_eq_true,decide_eq_true_eq] at h
  exact⟨by show x≤a-1;omega,a1A h.2⟩
 | [],_::_,h=>by simp[xB] at h
 | _::_,[],h=>by simp[xB] at h
theorem a1H:∀ {s:List Int},yP s→xB s (zsI s)=true
 | [],_=>rfl
 | a::s,h=>by
  have:=h a (List.mem_cons_self ..)
  simp only[zsI,List.map_cons,xB,Bool.and_eq_true,decide_eq_true_eq]
  exact⟨by omega,a1H h.tail⟩
theorem a81 {d:Dg} (hf:Fine d.sizes) {p:List Int} (hp:xB d.sizes p=true) (num:Int) (acc:List V):match Ee (zsI d.sizes) (esI d.sizes) p with
  | none=>∃ y:Pf,y.acc=acc++[a0p d p]∧gPl d (num,p,acc)=.inr y
  | some q=>xB d.sizes q=true∧gPl d (num,p,acc)=.inl (IntKind.i64.wrap (num+1),q,acc++[a0p d p]):=by
 have hl:=a1v hp
 have hc:=a5a (f:=zsI d.sizes) (t:=esI d.sizes) p.length p
 have hd:=a5b hf.sz p.length p hp
 rw[←a5B (by simp) (by simpa using hl)]
 unfold a6E
 by_cases c:(car (zsI d.sizes) (esI d.sizes) p.length p).1=0
 ·rw[if_pos c]
  refine⟨⟨num,(((cr d.sizes p).1:Nat):Int)-1,(cr d.sizes p).2,acc++[a0p d p]⟩,rfl,?_⟩
  unfold gPl
  rw[if_pos (decide_eq_true (by show (((car (zsI d.sizes) (esI d.sizes) p.length p).1:Nat):Int)-1<0;omega))]
 ·rw[if_neg c]
  have hk:(car (zsI d.sizes) (esI d.sizes) p.length p).1-1<d.sizes.length:=by omega
  have e1:((((car (zsI d.sizes) (esI d.sizes) p.length p).1:Nat):Int)-1).toNat=(car (zsI d.sizes) (esI d.sizes) p.length p).1-1:=by omega
  have hz:=hf.sz _ (getD_mem hk)
  have hdg:=(GU.1 hd).2 _ hk
  have e2:IntKind.i64.wrap ((car (zsI d.sizes) (esI d.sizes) p.length p).2.getD ((car (zsI d.sizes) (esI d.sizes) p.length p).1-1) 0+1)=(car (zsI d.sizes) (esI d.sizes) p.length p).2.getD ((car (zsI d.sizes) (esI d.sizes) p.length p).1-1) 0+1:=zD (by omega) (by omega)
  have hg:gPl d (num,p,acc)=.inl (IntKind.i64.wrap (num+1),(car (zsI d.sizes) (esI d.sizes) p.length p).2.set ((car (zsI d.sizes) (esI d.sizes) p.length p).1-1) ((car (zsI d.sizes) (esI d.sizes) p.length p).2.getD ((car (zsI d.sizes) (esI d.sizes) p.length p).1-1) 0+1),acc++[a0p d p]):=by
   unfold gPl
   rw[if_neg (by rw[decide_eq_true_eq];show ¬((((car (zsI d.sizes) (esI d.sizes) p.length p).1:Nat):Int)-1<0);omega)]
   simp only[cr,e1,e2]
  refine⟨?_,hg⟩
  have hcl:(car (zsI d.sizes) (esI d.sizes) p.length p).2.length=d.sizes.length:=by rw[hc.2,hl]
  have hn:Ee (zsI d.sizes) (esI d.sizes) p=some ((car (zsI d.sizes) (esI d.sizes) p.length p).2.set ((car (zsI d.sizes) (esI d.sizes) p.length p).1-1) ((car (zsI d.sizes) (esI d.sizes) p.length p).2.getD ((car (zsI d.sizes) (esI d.sizes) p.length p).1-1) 0+1)):=by
   rw[←a5B (by simp) (by simpa using hl)]
   unfold a6E
   rw[if_neg c]
  have hle:=(a1A hp).next (a1A (a1H hf.sz)) hn
  refine GU.2 ⟨by simpa using hcl,fun j hj=>?_⟩
  have hj1:=(GU.1 hd).2 j hj
  have hj2:∀ {t q:List Int},V6 t q→∀ j,j<t.length→q.getD j 0≤t.getD j 0:=by
   intro t
   induction t with
   | nil=>intro q _ j h;simp at h
   | cons a t ih=>
    intro q h j hj
    cases q with
    | nil=>exact h.elim
    | cons x q=>
     cases j with
     | zero=>exact h.1
     | succ j=>exact ih h.2 j (by simpa using hj)
  have h9:=hj2 hle j (by simpa using hj)
  have h8:(esI d.sizes).getD j 0=d.sizes.getD j 0-1:=by simp[List.getD,List.getElem?_eq_getElem hj]
  refine⟨?_,by omega⟩
  rw[Ah (by omega)]
  split
  ·omega
  ·exact hj1.1
theorem a9H {d:Dg} (hf:Fine d.sizes):∀ (m:Nat) (p:List Int) (num:Int) (acc:List V),xB d.sizes p=true→(a2a (zsI d.sizes) (esI d.sizes) p).length≤m→∃ y:Pf,y.acc=acc++(a2a (zsI d.sizes) (esI d.sizes) p).map (a0p d)∧itF (gPl d) m (num,p,acc)=some y
 | 0,p,num,acc,hp,hm=>by
  rw[a1M (a1A hp) (a1A (a1H hf.sz))] at hm
  simp at hm
 | m+1,p,num,acc,hp,hm=>by
  have hb:=a1M (a1A hp) (a1A (a1H hf.sz))
  have hg:=a81 hf hp num acc
  cases hn:Ee (zsI d.sizes) (esI d.sizes) p with
  | none=>
   rw[hn] at hb hg
   obtain⟨y,h1,h2⟩:=hg
   refine⟨y,by rw[hb,h1];rfl,by rw[itF,h2]⟩
  | some q=>
   rw[hn] at hb hg
   obtain⟨h1,h2⟩:=hg
   rw[hb] at hm ⊢
   obtain⟨y,h3,h4⟩:=a9H hf m q (IntKind.i64.wrap (num+1)) (acc++[a0p d p]) h1 (by simpa using hm)
   refine⟨y,by rw[h3];simp,by rw[itF,h2];exact h4⟩
noncomputable abbrev oPl (d:Dg) (y:Pf):Ex×aP bF:=(.ret,⟨[(1,.val (.iF 4)),(2,.loc 0 0),(4,.val (.own 5)),(5,xi y.num),(6,xi y.last),(42,xl true)],[[.lst 3 d.sizes false,.lst 3 d.order false]],ML' d y.p y.acc⟩)
theorem lPl {n:Nat} (hO:∀ m,n≤m→Ok m a0I) {d:Dg} (h:O5 d) (hm:d.nodes.length≤6000) (y:Pf) (hit:itF (gPl d) (cnt d.sizes) (0,zsI d.sizes,[])=some y) (hb:(a2a (zsI d.sizes) (esI d.sizes) (zsI d.sizes)).length≤cnt d.sizes):fO X0 Tryz.prog T (ApN (n+1)) LL 239 false (ntP Tryz.prog 239) 5 (.loop (YX Tryz.prog 239 0)) (wPl d 0 (zsI d.sizes) [] []) (oPl d y).1 (oPl d y).2:=by
 have hf:=h.fine
 refine a5V (X:=X0) (P:=Tryz.prog) (T:=T) (st:=fun x=>wPl d x.1 x.2.1 x.2.2 []) (g:=gPl d) (s:=(0,zsI d.sizes,[])) (out:=oPl d) (fun x=>xB d.sizes x.2.1=true∧x.2.2.length+(a2a (zsI d.sizes) (esI d.sizes) x.2.1).length≤cnt d.sizes) hit (by kernel_rfl) (show cnt d.sizes≤LL by have:=hf.a3y;have:=LLm;omega) ⟨a1H hf.sz,by simpa using hb⟩ ?_ ?_
 ·rintro⟨num,p,acc⟩ ⟨num',q,acc'⟩ ⟨h1,h2⟩ e
  have h1:xB d.sizes p=true:=h1
  have h2:acc.length+(a2a (zsI d.sizes) (esI d.sizes) p).length≤cnt d.sizes:=h2
  have hg:=a81 hf h1 num acc
  rw[a1M (a1A h1) (a1A (a1H hf.sz))] at h2
  cases hn:Ee (zsI d.sizes) (esI d.sizes) p with
  | none=>rw[hn] at hg;obtain⟨y,_,e2⟩:=hg;rw[e2] at e;cases e
  | some r=>
   rw[hn] at hg h2
   obtain⟨g1,g2⟩:=hg
   rw[g2] at e
   cases e
   exact⟨g1,by simp at h2 ⊢;omega⟩
 ·rintro⟨num,p,acc⟩ m r ⟨h1,h2⟩ ih
  have h1:xB d.sizes p=true:=h1
  have h2:acc.length+(a2a (zsI d.sizes) (esI d.sizes) p).length≤cnt d.sizes:=h2
  rw[a1M (a1A h1) (a1A (a1H hf.sz))] at h2
  simp only[List.length_cons] at h2
  have hcm:=hf.a3y
  have hp:=a1v h1
  have hy:=yL (hO n (Nat.le_refl _)) h hm h1 num acc (by omega)
  have hl:=aeG (hO (n+1) (by omega)) hf num hp (acc++[a0p d p])
  rw[show (p.length:Int)-1=IntKind.i64.wrap ((p.length:Int)-1) by rw[zD (by omega) (by have:=hf.len;omega)]] at hl
  have hc:=a5a (f:=zsI d.sizes) (t:=esI d.sizes) p.length p
  have hgz:∀ z:Nat×List Int,car (zsI d.sizes) (esI d.sizes) p.length p=z→gPl d (num,p,acc)=(if decide (((z.1:Nat):Int)-1<0)=true then .inr ⟨num,((z.1:Nat):Int)-1,z.2,acc++[a0p d p]⟩ else .inl (IntKind.i64.wrap (num+1),z.2.set (((z.1:Nat):Int)-1).toNat (IntKind.i64.wrap (z.2.getD (((z.1:Nat):Int)-1).toNat 0+1)),acc++[a0p d p])):=by rintro _ rfl;rfl
  obtain⟨z,hz⟩:∃ z,car (zsI d.sizes) (esI d.sizes) p.length p=z:=⟨_,rfl⟩
  have hg:=hgz z hz
  rw[hz] at hl hc
  obtain⟨k,q⟩:=z
  have hc:k≤p.length∧q.length=p.length:=hc
  have hg:gPl d (num,p,acc)=(if decide ((k:Int)-1<0)=true then .inr ⟨num,(k:Int)-1,q,acc++[a0p d p]⟩ else .inl (IntKind.i64.wrap (num+1),q.set ((k:Int)-1).toNat (IntKind.i64.wrap (q.getD ((k:Int)-1).toNat 0+1)),acc++[a0p d p])):=hg
  cases t:decide (((k:Nat):Int)-1<0)
  ·have t':¬(((k:Nat):Int)-1<0):=by simpa using t
   rw[if_neg (by rw[t];simp)] at hg
   have hi:zl ((k:Int)-1) q.length:=⟨by omega,by omega⟩
   have g:=ih _ hg
   rw[hg]
   exact round hX (hO (n+1) (by omega)) (by kernel_rfl) (.fr [0,1,6,3,4,5] hy (.b (rfl:(!true)=false) (.wG [.gc [5,7]] hl (.b t (.o hi (.o hi (.go g)))))))
  ·rw[if_pos t] at hg
   rw[hg]
   exact round hX (hO (n+1) (by omega)) (by kernel_rfl) (.fr [0,1,6,3,4,5] hy (.b (rfl:(!true)=false) (.wG [.gc [5,7]] hl (.b t .re))))
theorem sPl {n:Nat} (hO:∀ m,n≤m→Ok m a0I) {d:Dg} (h:O5 d) (hm:d.nodes.length≤6000):∃ p,nH X0 Tryz.prog (ApN (n+2)) (fPl d) [.iF 4] (ML d true []) (.bf []) (ML' d p ((List.range (cnt d.sizes)).map fun (k:Nat)=>a0p d (WG d.sizes k))):=by
 have hf:=h.fine
 have hall:=a4l hf.sz
 have hb:(a2a (zsI d.sizes) (esI d.sizes) (zsI d.sizes)).length=cnt d.sizes:=by rw[hall];simp
 obtain⟨y,h1,h2⟩:=a9H hf (cnt d.sizes) (zsI d.sizes) 0 [] (a1H hf.sz) (by omega)
 have hl:=lPl hO h hm y h2 (by omega)
 rw[hall,List.map_map,List.nil_append] at h1
 have h1:y.acc=(List.range (cnt d.sizes)).map fun (k:Nat)=>a0p d (WG d.sizes k):=h1
 rw[←h1]
 refine⟨y.p,?_⟩
 have e0:zsI d.sizes=List.replicate ((d.sizes.length:Nat):Int).toNat 0:=by rw[Int.toNat_natCast];exact List.map_const' ..
 rw[e0] at hl
 have hs:(d.sizes.length:Int)≤(most:Int):=by have:=hf.a2U;omega
 exact WE hX (hO (n+1) (by omega)) (first:=[.agg [.lst 3 d.sizes false,.lst 3 d.order false]]) (cap:=[]) (by kernel_rfl) (.o (rfl:(d.sizes.length:Int)=(d.sizes.length:Int)) (.o (show (0:Int)≤(d.sizes.length:Int) by omega) (.o hs (.wG [.mv 2,.gc [5,6]] hl .er))))
theorem acP:Gd a0J:=acM.deep 3 fun n hn hO l hp=>by
 obtain⟨n,rfl⟩:∃ k,n=k+2:=⟨n-2,by omega⟩
 have h:LsP l:=hp _ (.head _)
 obtain⟨s,o,d⟩:=l
 obtain⟨e1,e2,ht,hm⟩:=h
 obtain rfl:s=d.sizes:=e1
 obtain rfl:o=d.order:=e2
 obtain⟨p,hs⟩:=sPl (n:=n) (fun m hm=>hO m (by omega)) ht hm
 show VW _ _ _ _ _ (vsA.put (cellsD d)) _
 unfold cellsD
 generalize (List.range (cnt d.sizes)).map (fun (k:Nat)=>a0p d (WG d.sizes k))=acc at hs ⊢
 have hr:fO X0 Tryz.prog T (ApN (n+2)) LL 206 false (ntP Tryz.prog 206) 0 (.rangeFunc (.tmp 7) #[8,9] (a4p Tryz.prog 206) (a6b Tryz.prog 206)) ⟨a7Y d,[],[.cells (WO d).ps,.cells [.own 2],lsV []]⟩ .norm ⟨a7Y d,[],(ML' d p acc).set 4 (LRL d false (some .skip))⟩:=a8O hX (ps:=⟨a7Y d,[],[.cells (WO d).ps,.cells [.own 2],lsV []]⟩) rfl rfl hs rfl rfl
 exact dS hX (hO (n+2) (by omega)) (by kernel_rfl) (.wG [.YD 1 0 79] hr .rr)
theorem a88 {d:Dg} (h:DgR d) (hs:d.sizes.length≤most) (ho:d.order.length≤most) (he:d.ends.length+1≤most) (h0:((lT d).2 != 0)=false):LsP (lT d).1:=by
 rw[a4b h hs ho he] at h0 ⊢
 have h0:a0n d=0:=by simpa using h0
 unfold a0n at h0
 split at h0
 ·rename_i h1;simp[h0] at h1
 ·rename_i h1
  have hc:=sH ho (show d.ends.length≤most by omega) (by simpa using h1)
  have hf:(iK d.sizes d.order != 0)=false:=by
   cases e:iK d.sizes d.order != 0
   ·rfl
   ·unfold fU at h1;rw[if_pos e] at h1;exact absurd e h1
  refine⟨?_,?_,?_,?_⟩<;>simp only[hf]<;>first | rfl | exact hc.1 | exact hc.2
theorem acQ:Gd a0K:=acP.add fun n hO p hp=>dS hX hO (by kernel_rfl) (.o (hp _ (.head _)) (.o (hp _ (.tail _ (.head _))) (.o (hp _ (.tail _ (.tail _ (.head _)))) (.o (hp _ (.tail _ (.tail _ (.tail _ (.head _))))) (.sh (fun _=>.rn (.bf [.nil .slc,.int .i64 (lT p).2]) rfl) fun h=>.o (a88 (hp _ (.head _)) (hp _ (.tail _ (.head _))) (by have h9:p.order.length≤2^20:=hp _ (.tail _ (.tail _ (.head _)));unfold most;omega) (hp _ (.tail _ (.tail _ (.tail _ (.head _))))) h) .rr)))))
theorem a8a {d:Dg} (h:DgR d) (hs:d.sizes.length≤most) (ho:d.order.length≤most) (he:d.ends.length+1≤most):TQ d=if (a0n d != 0)=true then ([],a0n d) else (cellsD d,0):=by
 unfold TQ
 rw[a4b h hs ho he]
 by_cases c:(a0n d != 0)=true
 ·rw[if_pos c,if_pos c]
 ·rw[if_neg c,if_neg c]
  have hf:(iK d.sizes d.order != 0)=false:=by
   cases e:iK d.sizes d.order != 0
   ·rfl
   ·exfalso
    apply c
    have:fU d=iK d.sizes d.order:=by unfold fU;rw[if_pos e]
    unfold a0n
    rw[this,if_pos e]
    exact e
  rw[hf]
  rfl
end Go.Proofs.YtjkgcifieggcpaaGreat
