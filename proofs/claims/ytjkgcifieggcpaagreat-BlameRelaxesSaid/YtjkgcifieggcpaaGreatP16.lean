/- Part 17 of a proof: closed runs of the given program, and the readings of its code that they use. -/
import Derived.Test.YtjkgcifieggcpaaGreatP15
set_option linter.constructorNameAsVariable false
set_option linter.unusedVariables false
set_option linter.unusedSimpArgs false
set_option linter.unusedSectionVars false
namespace Tw
open Go
noncomputable def runN (P:Program)(T:iF)(L n f:Nat)(args:List TV)(h:List HB):Option (TV×List HB×List Nat):=AZ P T L n (.fn f [] []) args h
section
variable {P:Program}{T:iF}{call:ay}{L:Nat}{nt:Nat}{M:Mp}{h:List HB}{w:World}
theorem aeC (hm:P.follows .mixedOrders=true)(hE:aj P T.ext){n f:Nat}{args:List TV}{v:TV}{h':List HB}{ws:List Nat}(hnf:T.exts.contains f=false)(lH:T.Lh.contains f=false)(hr:runN P T L (n+1) f args h=some (v,h',ws))(hV:Valid M mg (iD h) w)(hl:∀k,M (.l k)=none)
  {xs:List Value} (hx:aH M.h args xs) (k:Nat):CallsIn Fence.wide k P f xs.toArray w (yc (eP M h w v h' ws)):=by
 simp only[runN,AZ,hnf,lH,Bool.false_eq_true,if_false]at hr;have wo:aH M.h ([]++args++[]) xs:=by simpa using hx
 obtain⟨fn,c,_,_,_,e4⟩:=Xt hm (Uh hm hE n) hr ⟨hV,hl⟩ wo;exact e4 k
end
open Go.ChangeShapes Go.WideShapes Go.RowKit
section
variable {H:Type}{enc:TypeId×Value->H}{P:Program}{W W':World}
theorem a9Z {T:iF}{L n g a4O:Nat}{f:Func}{s:ChangeSpec}{args:Array Value}{ds:List (DataW H)}{before:List MemPlace}{tb:TypeId}{r:Reach}{b:Nat}(hm:P.follows .mixedOrders=true)
  (hl:laidOutB P=true) (hv:s.vars=[]) (hs:s.fn H ds={ results:=[.lit (.bool true)],args:=ds })
  (hf:f.resultTypes=#[tb]) (htb:P.underlying tb=some .bool) (hp:(f.params.toList.all fun t=>P.readableRec t&&decide (t<P.types.size))=true)
  (hW:DataW.Whole enc P f.params.toList s.vars false W args.toList ds [] before)
  (a9c:∀(j:Nat) t v,f.params[j]? = some t->args[j]? = some v->Value.okWide P W r b t v)
  {az:List TV} {h h':List HB} (he:Ug P g f.params.toList ds []=some (az,h)) (hE:aj P T.ext) (hnf:T.exts.contains a4O=false) (lH:T.Lh.contains a4O=false) (hr:runN P T L (n+1) a4O az h=some (.bool true,h',[])) :
  Calls P a4O args W fun e W'=>∃v,e=.returned v∧s.post enc P f false true false false W args v W':=by
 obtain⟨p,q,hA,_⟩:=id hW;have h0:lM (fun _=>none) [] W:=⟨⟨⟨by simp,by simp,by simp⟩,by simp⟩,by simp⟩;obtain⟨M',b1,_,v1⟩:=IG hA (fun j t v e1 e2=>a9c j t v (by simpa using e1) (by simpa using e2)) he h0;have hc:=aeC hm hE hnf lH hr b1.base.val b1.base.loc v1 0;refine (callsIn_wide.1 hc).mono fun e W' hR=>?_;cases e with
 |panicked c=>exact hR.elim
 |outgrown=>exact hR.elim
 |returned v=>
  obtain⟨M2,_,_,hX,WJ⟩:=hR;cases WJ;refine⟨_,rfl,QN hl hv hs hf htb hp hW ⟨hX.os,hX.tape,hX.output,hX.size,fun k hk=>hX.frame k hk (by simp)⟩⟩
end
end Tw
namespace Pv
open Go Tw
section
variable {X:iQ}{P:Program}{T:iF}{A W:Nat->Prop}{m m':List MB}
variable {call:ay}{kX:iO X.Γ}{L:Nat}
theorem aa0 (hX:aX X P){n f:Nat}(hn:0<n)(hO:lC X P (AZ P T L (n-1)) kX){vs:List (PV X.Γ)}{an:PT X.Γ}{v:PV X.Γ}{ext:List (PB X.Γ)}
  (hk:(Pz X P T kX (qC X P (AZ P T L (n-1))) (KJ X P T (AZ P T L (n-1)) L f 0) L f vs [] an).Ends (v,ext)):Con X P (AZ P T L n) f vs v ext:=by
 intro A h first args cap hup hv
 have hr:HR X P A [] [] h:=⟨rfl,fun i b hb=>by simp at hb,by simp[aJ],hup,fun b hb=>by simp[aJ]at hb⟩;obtain⟨w,h1,ws,m1,g1,g2,g3,g4,_,g6,g7⟩:=DY hX hO (H:=[]) hk hr (hv.mono fun b hb=>⟨hb,by simp[aJ]⟩);obtain⟨n,rfl⟩:∃j,n=j+1:=⟨n-1,by omega⟩;have:ws=[]:=List.eq_nil_iff_forall_not_mem.2 fun x hx=>by have:=g6 x hx;simp[aJ]at this
 subst this;exact⟨w,h1,m1,by simp only[AZ];simp only[Bool.or_eq_true,not_or]at g7;rw[if_neg g7.1,if_neg g7.2];exact g1,g2,g3,g4⟩
end
theorem OT.a3P {ρ σ:Type}{f:ρ->σ}{y:σ}:∀{o:OT ρ},(o.map f).Ends y->∃r,o.Ends r∧f r=y
 |.bad,h=>h.elim
 |.ret r,h=>⟨r,rfl,h⟩
 |.o p r,h=>by obtain⟨x,h1,h2⟩:=OT.a3P h.2;exact⟨x,⟨h.1,h1⟩,h2⟩
 |.br c t e,h=>by
  rcases h with⟨h0,h⟩|⟨h0,h⟩
  ·obtain⟨x,h1,h2⟩:=OT.a3P h;exact⟨x,.inl ⟨h0,h1⟩,h2⟩
  obtain⟨x,h1,h2⟩:=OT.a3P h;exact⟨x,.inr ⟨h0,h1⟩,h2⟩
section
variable {X:iQ}{P:Program}{T:iF}{L:Nat}
def frz (r:PV X.Γ×List (PB X.Γ)):Option (PV X.Γ):=view r.2 r.1
theorem a8M (hX:aX X P){call:ay}{f:FuncId}{vs:List (PV X.Γ)}{v w:PV X.Γ}{ext:List (PB X.Γ)}(hc:Con X P call f vs v ext)(hw:view ext v=some w):Con X P call f vs w []:=by
 intro A h first args cap hup hv
 obtain⟨x,h',m',c1,c2,c3,c4⟩:=hc A h first args cap hup hv
 refine⟨x,h',[],c1,⟨rfl,fun i b hb=>by simp at hb,by simp[aJ],c2.up,fun b hb=>by simp[aJ]at hb⟩,?_,?_⟩
 ·refine (XA (m':=[]) hX c2 c3 hw (is:=qV v) fun i hi=>hi).mono fun b hb=>⟨?_,by simp[aJ]⟩;rcases hb with hb|⟨i,mb,h1,h2,h3⟩
  ·exact hb.1
  exact c2.yH b (aC h2 h3)
 exact⟨c4.len,fun b hb hn=>c4.same b hb hn,fun b hb=>by simp[aJ]at hb,c4.grow⟩
section
variable {f nt B:Nat}{eu:Bool}{call:ay}{kX:iO X.Γ}
theorem a8q {b:Code}{n k:Nat}{ps:aV X.Γ}{e:Ex}{fJ:aV X.Γ}(h:vJ X P T call L f eu nt B b n ps e fJ)(hk:n<=k):vJ X P T call L f eu nt B b k ps e fJ:=fun A W fl m ts hS=>by
 obtain⟨dX,m1,h1,h2⟩:=h A W fl m ts hS;exact⟨dX,m1,CO h1 hk,h2⟩
theorem a2u {b:Code}{n:Nat}{s0 ps:aV X.Γ}{e:Ex}{fJ:aV X.Γ}(h:vJ X P T call L f eu nt B b n ps e fJ)(h0:kY X (T.dG f (bY b)) s0=ps)(hn:n<=L):iq X P T call L f eu nt B (.loop b) s0 e fJ:=fun A W fl m ts hS=>by
 obtain⟨dX,m1,h1,h2⟩:=a8q h hn A W fl m ts (by rw[<-h0];exact hS.head _);exact⟨dX,m1,by simp only[exec];exact h1,h2⟩
end
theorem Good.deep {α β:Type}{f:FuncId}{a:NS X P α}{r:Ar X P β}{S:α->β}{pre:α->List Prop}{kX:iO X.Γ}(d:Nat)(hg:Good X P T L kX)
  (hf:∀n,d<=n->(∀m,n-d<=m->lC X P (AZ P T L m) kX)->∀x,(∀p∈pre x,p)->Con X P (AZ P T L (n+1)) f (a.put x) (r.put (S x)) []):Good X P T L (dL f a r S pre kX):=by
 obtain⟨N,hN⟩:=hg;refine⟨N+d+1,fun n hn=>?_⟩;obtain⟨k,rfl⟩:∃k,n=k+1:=⟨n-1,by omega⟩;intro g vs v ext ps ho hp;unfold dL at ho;split at ho
 ·rename_i e;have e:=Nat.eq_of_beq_eq_true e;subst e;split at ho
  ·rename_i x hx;cases ho;intro A h first args cap hup hv
   exact hf k (by omega) (fun m hm=>hN m (by omega)) x hp A h first args cap hup (a.ok hx hv)
  ·exact hN (k+1) (by omega) g vs v ext ps ho hp
 ·exact hN (k+1) (by omega) g vs v ext ps ho hp
theorem dS {β:Type}(hX:aX X P){n f:Nat}{kX:iO X.Γ}(hO:lC X P (AZ P T L n) kX){vs:List (PV X.Γ)}{an:PT X.Γ}{r:Ar X P β}{s:β}{o:OT (Option (PV X.Γ))}
  (hk:(Pz X P T kX (qC X P (AZ P T L n)) (KJ X P T (AZ P T L n) L f 0) L f vs [] an).map frz=o) (ht:Fp (Is r s) an o):Con X P (AZ P T L (n+1)) f vs (r.put s) []:=
 by
 obtain⟨v,h1,h2⟩:=ht.ends;rw[<-hk]at h1;obtain⟨⟨v,H⟩,h3,rfl⟩:=OT.a3P h1;rcases h2 with h2|⟨w,h2,h4⟩
 ·exact a8M hX (aa0 hX (n:=n+1) (by omega) hO h3) h2
 ·intro A h first args cap hup hv
  obtain⟨x,h',m',c1,c2,c3,c4⟩:=a8M hX (aa0 hX (n:=n+1) (by omega) hO h3) h2 A h first args cap hup hv
  exact⟨x,h',m',c1,c2,r.ok h4 c3,c4⟩
theorem Fp.rr {β:Type}{r:Ar X P β}{s:β}:Fp (Is r s) (.n:PT X.Γ) (.ret (some (r.put s))):=.r (.inl rfl)
theorem Fp.rn {β:Type}{r:Ar X P β}{s:β}(w:PV X.Γ)(h:r.get w=some s):Fp (Is r s) (.n:PT X.Γ) (.ret (some w)):=.r (.inr ⟨w,rfl,h⟩)
theorem Fp.ss {β:Type}{r:Ar X P β}{c:Bool}{t e:β}{a b:PT X.Γ}{x y:OT (Option (PV X.Γ))}(h1:Fp (Is r t) a x)(h2:Fp (Is r e) b y):Fp (Is r (if c=true then t else e)) (.s a b) (.br c x y):=
 .s (fun h=>by subst h;exact h1) (fun h=>by subst h;exact h2)
theorem Fp.sh {β:Type}{r:Ar X P β}{c:Bool}{t e:β}{a b:PT X.Γ}{x y:OT (Option (PV X.Γ))}(h1:c=true->Fp (Is r t) a x)(h2:c=false->Fp (Is r e) b y):Fp (Is r (if c=true then t else e)) (.s a b) (.br c x y):=
 .s (fun h=>by rw[if_pos h];exact h1 h) (fun h=>by rw[if_neg (by rw[h];simp)];exact h2 h)
theorem Fp.zh {β:Type}{r:Ar X P β}{c:Bool}{t e:β}{a b:PT X.Γ}{x y:OT (Option (PV X.Γ))}(h1:c=true->Fp (Is r t) a x)(h2:c=false->Fp (Is r e) b y):Fp (Is r (if c=true then t else e)) (.z c a b) (.br c x y):=
 .z (fun h=>by rw[if_pos h];exact h1 h) (fun h=>by rw[if_neg (by rw[h];simp)];exact h2 h)
def IsS {β:Type}(r:Ar X P β)(s:β)(H:List (PB X.Γ)):PV X.Γ×List (PB X.Γ)->Prop:=fun v=>v=(r.put s,H)
theorem Fp.sr {β:Type}{r:Ar X P β}{s:β}{H:List (PB X.Γ)}:Fp (IsS r s H) (.n:PT X.Γ) (.ret (r.put s,H)):=.r rfl
theorem Fp.szh {β:Type}{r:Ar X P β}{H:List (PB X.Γ)}{c:Bool}{t e:β}{a b:PT X.Γ}{x y:OT (PV X.Γ×List (PB X.Γ))}(h1:c=true->Fp (IsS r t H) a x)(h2:c=false->Fp (IsS r e H) b y):Fp (IsS r (if c=true then t else e) H) (.z c a b) (.br c x y):=
 .z (fun h=>by rw[if_pos h];exact h1 h) (fun h=>by rw[if_neg (by rw[h];simp)];exact h2 h)
theorem Fp.ssh {β:Type}{r:Ar X P β}{H:List (PB X.Γ)}{c:Bool}{t e:β}{a b:PT X.Γ}{x y:OT (PV X.Γ×List (PB X.Γ))}(h1:c=true->Fp (IsS r t H) a x)(h2:c=false->Fp (IsS r e H) b y):Fp (IsS r (if c=true then t else e) H) (.s a b) (.br c x y):=
 .s (fun h=>by rw[if_pos h];exact h1 h) (fun h=>by rw[if_neg (by rw[h];simp)];exact h2 h)
theorem kN {β:Type}(hX:aX X P){n f:Nat}{kX:iO X.Γ}(hO:lC X P (AZ P T L n) kX){first xs cap:List (PV X.Γ)}{H H1:List (PB X.Γ)}{an:PT X.Γ}{r:Ar X P β}{s:β}{o:OT (PV X.Γ×List (PB X.Γ))}
  (hk:Pz X P T kX (qC X P (AZ P T L n)) (KJ X P T (AZ P T L n) L f H.length) L f (first++xs++cap) H an=o) (ht:Fp (IsS r s H1) an o):qC X P (AZ P T L (n+1)) (.fn f first cap) xs H (r.put s) H1:=by
 obtain⟨y,h1,h2⟩:=ht.ends;cases h2;rw[<-hk]at h1;exact a2i hX (n:=n+1) (by omega) hO h1
end
end Pv
namespace Tw
def a0C {α σ ρ:Type}(step:Nat->α->σ->σ⊕ρ):List α->Nat->σ->σ⊕ρ
 |[],_,s=>.inl s
 |a::l,i,s=>match step i a s with
  |.inl s'=>a0C step l (i+1) s'
  |.inr r=>.inr r
def ai0 {σ ρ:Type}(d:σ):σ⊕ρ->σ
 |.inl s=>s
 |.inr _=>d
def al3 {σ:Type}:σ⊕Empty->σ
 |.inl s=>s
end Tw
namespace Pv
open Go Tw
theorem dB {k n:Nat}(h:k<n):CB k n:=⟨by omega,by omega⟩
section
variable {X:iQ}{P:Program}{T:iF}{L:Nat}{f nt B:Nat}{eu:Bool}{call:ay}{b:Code}{σ α ρ:Type}
theorem Fp.wG {τ:Type}{R:τ->Prop}(gs:List G){c:Code}{e:Ex}{s s':aV X.Γ}{an:PT X.Γ}{o:OT τ}(h:iq X P T call L f eu nt B c s e s')(t:Fp R an o):Fp R (.a (.lg gs e s') an) (.o (iq X P T call L f eu nt B c s e s') o):=.l gs e s' h t
theorem Fp.goG {n:Nat}{e:Ex}{s s':aV X.Γ}(gs:List G)(h:vJ X P T call L f eu nt B b n s' e s):Fp (Rnd X P T call L f eu nt B b n e s) (.a (.lg gs .norm ⟨[],[],[]⟩) .n:PT X.Γ) (.ret (.norm,s')):=Fp.g (v:=(Ex.norm,s')) gs h
theorem Fp.re {n:Nat}{s:aV X.Γ}:Fp (Rnd X P T call L f eu nt B b n .ret s) (.n:PT X.Γ) (.ret (.ret,s)):=Fp.r (v:=(Ex.ret,s)) ⟨rfl,rfl⟩
def cont (out:σ⊕ρ->Ex×aV X.Γ)(g:Nat->α->σ->σ⊕ρ)(l:List α)(i:Nat):σ⊕ρ->Ex×aV X.Γ
 |.inl s=>out (a0C g l i s)
 |.inr r=>out (.inr r)
section
variable {τ:Type}{K:τ->Ex×aV X.Γ}{n:Nat}
theorem Fp.ou {x:τ}(h:(K x).1≠.norm):Fp (Rn X P T call L f eu nt B b n K x) (.n:PT X.Γ) (.ret (K x)):=by
 refine Fp.r ?_;unfold Rn Rnd;split
 ·rename_i e;rw[e]at h;exact absurd rfl h
 rename_i e;rw[e];exact⟨rfl,rfl⟩
end
theorem a7R {l:List α}(d:α){st:Int->σ->aV X.Γ}{g:Nat->α->σ->σ⊕ρ}{out:σ⊕ρ->Ex×aV X.Γ}{s0:σ}{w:aV X.Γ}(Inv:Nat->σ->Prop)(h0:kY X (T.dG f (bY b)) w=st 0 s0)(hl:l.length<=aO)(hL:aO<L)(hi:Inv 0 s0)
  (hs:∀(k:Nat) (s:σ) (n:Nat),k<l.length->Inv k s->(∀s1,Inv (k+1) s1->vJ X P T call L f eu nt B b n (st (IntKind.i64.wrap (k+1)) s1) (cont out g (l.drop (k+1)) (k+1) (.inl s1)).1 (cont out g (l.drop (k+1)) (k+1) (.inl s1)).2) ->
   vJ X P T call L f eu nt B b (n+1) (st k s) (cont out g (l.drop (k+1)) (k+1) (g k (l.getD k d) s)).1 (cont out g (l.drop (k+1)) (k+1) (g k (l.getD k d) s)).2)
  (ho:∀s,Inv l.length s->vJ X P T call L f eu nt B b 1 (st l.length s) (out (.inl s)).1 (out (.inl s)).2) :
  iq X P T call L f eu nt B (.loop b) w (out (a0C g l 0 s0)).1 (out (a0C g l 0 s0)).2:=by
 have key:∀(m k:Nat) (s:σ),k+m=l.length->Inv k s->vJ X P T call L f eu nt B b (m+1) (st k s) (out (a0C g (l.drop k) k s)).1 (out (a0C g (l.drop k) k s)).2:=by
  intro m
  induction m with
  |zero=>
   intro k s hk hr;have:k=l.length:=(by omega);subst this;rw[List.drop_length];exact ho s hr
  |succ m ih=>
   intro k s hk hr;have aN:k<l.length:=(by omega);have h1:=hs k s (m+1) aN hr fun s1 h=>by
    have:=ih (k+1) s1 (by omega) h;rw[XU (by omega)];exact this
   have hd:l.getD k d=l[k]:=(by simp[List.getD,List.getElem?_eq_getElem aN]);rw[List.drop_eq_getElem_cons aN];simp only[a0C];rw[hd]at h1;cases hg:g k l[k] s with
   |inl s1=>rw[hg]at h1;exact h1
   |inr r=>rw[hg]at h1;exact h1
 exact a2u (key l.length 0 s0 (by omega) hi) h0 (by omega)
theorem xC {c:Code}{w:aV X.Γ}{R:σ⊕ρ}{out:σ⊕ρ->Ex×aV X.Γ}(h:iq X P T call L f eu nt B c w (out R).1 (out R).2)(d:σ)(hR:G5 R=true):iq X P T call L f eu nt B c w (out (.inl (ai0 d R))).1 (out (.inl (ai0 d R))).2:=by
 cases R with
 |inl s=>exact h
 |inr r=>cases hR
theorem Fa {c:Code}{w:aV X.Γ}{R:σ⊕ρ}{out:σ⊕ρ->Ex×aV X.Γ}(h:iq X P T call L f eu nt B c w (out R).1 (out R).2)(d:ρ)(hR:G5 R=false):iq X P T call L f eu nt B c w (out (.inr (a2l d R))).1 (out (.inr (a2l d R))).2:=by
 cases R with
 |inl s=>cases hR
 |inr r=>exact h
end
def a0u {Γ:Nat->Type}(env:List (Nat×PE Γ)):List Nat->List (PV Γ)->List (Nat×PE Γ)
 |p::ps,v::vs=>a0u ((p,.val v)::env) ps vs
 |_,_=>env
section
variable {X:iQ}{P:Program}{T:iF}{A W:Nat->Prop}{m m':List MB}{h h':List HB}{L f nt B:Nat}
theorem a7S:∀{ps:List Nat} {vs:List (PV X.Γ)} {xs:List TV} {env:List (Nat×PE X.Γ)} {env':List (Nat×EV)},gX X P A m h env env'->aH X P A m h vs xs->gX X P A m h (a0u env ps vs) (qG env' ps xs)
 |[],vs,xs,_,_,he,hv=>by simpa[a0u,qG]using he
 |p::ps,[],xs,_,_,he,hv=>by rw[hv.inv0];simpa[a0u,qG]using he
 |p::ps,v::vs,xs,_,_,he,hv=>by
  obtain⟨x,r,rfl,h1,h2⟩:=hv.inv;simp only[a0u,qG];exact a7S (gX.cons (v:=.val v) (x:=.val x) h1 he) h2
theorem a5e (hX:aX X P){call:ay}{g:Operand}{qs:Array Nat}{mG body:Code}{ps:aV X.Γ}{f1:FuncId}{a1 b1:List (PV X.Γ)}{v:PV X.Γ}{H1:List (PB X.Γ)}{rd:Bool}{f2 Dj:Nat}{e2:List (Nat×PE X.Γ)}{rW:List Nat}{a2 b2:Code}{gG:Option Code}{e:Ex}
  (hg:wB ps.env g=some (.fn f1 a1 b1)) (DK:(ps.env.all fun p=>NV p.2)=true)
  (aaK:qC X P call (.fn f1 a1 b1) [.jk (ps.heap.length+1)] (ps.heap++[.mark]++[.loop true f nt ps.env qs.toList mG body none]) v H1)
  (hl:H1[ps.heap.length+1]? = some (.loop rd f2 Dj e2 rW a2 b2 gG)) (hj:Di rd gG=some e) :
  iq X P T call L f false nt B (.rangeFunc g qs mG body) ps e { ps with heap:=H1.set (ps.heap.length+1) (.loop false f2 Dj e2 rW a2 b2 (some .skip)) }:=by
 intro A W fl m ts hS;obtain⟨tg,g1,g2⟩:=fK hS.st.env hg;have hm:=hS.st.heap.len;obtain⟨p1,p2,p3⟩:=hS.st.heap.push (pb:=.mark) (hb:=.mark) (mb:=.cO ts.heap.length) (.inl rfl) (by simp[BR]);obtain⟨q1,q2,q3⟩:=p1.push (pb:=.loop true f nt ps.env qs.toList mG body none) (hb:=.loop true f nt ts.env qs.toList mG body none) (mb:=.cO (ts.heap.length+1)) (.inl (by simp[MB.own])) (by
  refine⟨ts.env,by simp,?_⟩;refine gX.step (m:=m) (h:=ts.heap) (A:=A) ?_ ?_ hS.st.env
  ·have r2:Fr (m++[MB.cO ts.heap.length]) (ts.heap++[HB.mark]) (m++[MB.cO ts.heap.length]++[MB.cO (ts.heap.length+1)]) (ts.heap++[HB.mark]++[HB.loop true f nt ts.env qs.toList mG body none]):=by
    refine⟨by simp,fun b hb _=>by rw[List.getElem?_append_left hb],fun b hb=>?_,fun b cs hc=>⟨cs,?_,Nat.le_refl _⟩⟩
    ·rw[dK,List.mem_append,fG]at hb;rcases hb with hb|hb
     ·exact .inl hb
     ·simp[MB.own]at hb;subst hb;exact .inr (by simp)
    ·rw[bZ (List.getElem?_append_left (bU hc)),hc]
   exact p2.trans r2
  ·exact p3.trans (nC _))
 have hF:=p2.trans q2;have hU:=p3.trans q3;have hyl:VR X P (AA A (m++[MB.cO ts.heap.length]++[MB.cO (ts.heap.length+1)])) (m++[MB.cO ts.heap.length]++[MB.cO (ts.heap.length+1)]) (ts.heap++[HB.mark]++[HB.loop true f nt ts.env qs.toList mG body none]) (.jk (ps.heap.length+1)) (.jk (ts.heap.length+1)):=by
  refine .jk ?_;rw[<-hm,List.getElem?_append_right (by simp)];simp
 obtain⟨w,h1,ws,m1,c1,c2,c3,c4,c5,c6⟩:=aaK A _ _ tg [.jk (ts.heap.length+1)] q1 (g2.step hF hU) (.cons hyl .nil);have Ij:m1[ps.heap.length+1]? = some (.cO (ts.heap.length+1)):=by
  rcases c5 (ps.heap.length+1) (.cO (ts.heap.length+1)) (by rw[<-hm,List.getElem?_append_right (by simp)];simp)with e|e
  ·exact e
  ·obtain⟨mb,k1,k2⟩:=c2.at_ _ _ hl;rw[e]at k1;cases k1;exact k2.elim
 obtain⟨mb,k1,k2⟩:=c2.at_ _ _ hl;rw[Ij]at k1;cases k1;obtain⟨OE,k3,k4⟩:=k2;obtain⟨s1,s2⟩:=c2.set (i:=ps.heap.length+1) (c:=ts.heap.length+1) (pb:=.loop false f2 Dj e2 rW a2 b2 (some .skip)) (hb:=.loop false f2 Dj OE rW a2 b2 (some .skip)) Ij rfl (fun cs hc=>by unfold aB at hc;rw[k3]at hc;cases hc) (fun hF=>⟨OE,by rw[List.getElem?_set_self (List.getElem?_eq_some_iff.1 k3).1],k4.step hF .refl⟩);have hF2:=hF.trans (c4.trans s2);have hU2:=hU.trans c5;refine⟨{ ts with heap:=h1.set (ts.heap.length+1) (.loop false f2 Dj OE rW a2 b2 (some .skip)),ws:=dn fl (ws.map .h) ts.ws },m1,?_,⟨?_,fun b hb=>?_,fun b hb=>?_,?_⟩,hF2,hU2.b⟩
 ·have hg':∃a1' b1',tg=.fn f1 a1' b1':=by
   cases g2 with
   |gone hi _ _=>simp[aG]at hi
   |fn _ _ _ _=>exact⟨_,_,rfl⟩
  obtain⟨a1',b1',rfl⟩:=hg';simp only[exec,g1,V4 hS.st.env DK,Bool.not_false,Bool.and_self,if_true];rw[show ts.heap++[HB.mark,HB.loop true f nt ts.env qs.toList mG body none]=ts.heap++[HB.mark]++[HB.loop true f nt ts.env qs.toList mG body none]by simp,c1];simp only[k3,hj]
 ·have q:=hS.st.step s1 hF2 hU2;exact⟨q.heap,q.llen,q.loc,q.env⟩
 ·rcases hF2.new b hb with k|k
  ·exact hS.own b k
  ·exact .inr (Nat.le_trans hS.fl k)
 ·rcases vI hb with k|⟨k,k'⟩
  ·exact hS.ws b k
  ·obtain⟨b',rM,e⟩:=List.mem_map.1 k;cases e;rcases hF.new b (c6 b rM)with k2|k2
   ·rcases hS.own b k2 with k3|k3
    ·exact k3
    ·omega
   ·have:=hS.fl;omega
 ·exact Nat.le_trans hS.fl hF2.len
theorem a3y (hX:aX X P){n l:Nat}{xs:List (PV X.Γ)}{H:List (PB X.Γ)}{env:List (Nat×PE X.Γ)}{ps:List Nat}{mG body:Code}{gG:Option Code}{s1 s2:aV X.Γ}{e:Ex}
  {f' WE:Nat} {env':List (Nat×PE X.Γ)} {WG:List Nat} {a' b':Code} {abJ:Option Code} {f'' ag8:Nat} {afy:List (Nat×PE X.Γ)} {ag9:List Nat} {a'' b'':Code}
  (hl:H[l]? = some (.loop true f nt env ps mG body gG)) (hlen:xs.length=ps.length) (hps:(ps.all fun p=>decide (p<nt))=true)
  (h1:iq X P T (AZ P T L n) L f true nt H.length mG ⟨a0u env ps xs,[],H⟩ .norm s1) (hl1:s1.heap[l]? = some (.loop true f' WE env' WG a' b' abJ))
  (h2:iq X P T (AZ P T L n) L f true nt H.length body { s1 with heap:=s1.heap.set l (.loop false f' WE env' WG a' b' none) } e s2)
  (Sj:s2.heap[l]? = some (.loop false f'' ag8 afy ag9 a'' b'' none)) :
  qC X P (AZ P T L (n+1)) (.jk l) xs H (.bool (kJ e)) (s2.heap.set l (.loop (kJ e) f'' ag8 afy ag9 a'' b'' (mP e))):=by
 intro A m h tf nH hr hf hx;have aN:l<H.length:=(List.getElem?_eq_some_iff.1 hl).1;obtain⟨mb,k1,k2⟩:=hr.at_ l _ hl;cases mb with
 |bK _=>exact k2.elim
 |cZ _=>exact k2.elim
 |gone=>exact k2.elim
 |cO c=>
 obtain⟨te,k3,k4⟩:=k2;have Sz:c∈aJ m:=aC k1 rfl;cases hf with
 |gone hi WH _=>simp only[aG,Option.some.injEq]at hi;subst hi;rw[k1]at WH;cases WH
 |jk hy=>
 rw[k1]at hy;cases hy;have hS:SR X P A (fun b=>b∈aJ m) h.length m ⟨a0u env ps xs,[],H⟩ ⟨qG te ps nH,[],h,[]⟩:=
  ⟨⟨hr,rfl,fun k cs hk=>by simp at hk,a7S (env:=env) (env':=te) k4 hx⟩,fun b hb=>.inl hb,fun b hb=>(by cases hb),Nat.le_refl _⟩
 obtain⟨t1,m1,x1,x2,x3,x4⟩:=h1 A _ _ m _ hS;have UL:∀{M:List MB} {S:aV X.Γ} {TS:St} {W:Nat->Prop} {rd:Bool} {f0 n0:Nat} {ee:List (Nat×PE X.Γ)} {pp:List Nat} {aa bb:Code} {pe:Option Code},SR X P A W h.length M S TS->FK H.length m M->S.heap[l]? = some (.loop rd f0 n0 ee pp aa bb pe)->M[l]? = some (.cO c)∧∃te,TS.heap[c]? = some (.loop rd f0 n0 te pp aa bb pe)∧gX X P (AA A M) M TS.heap ee te:=by
  intro M S TS W rd f0 n0 ee pp aa bb pe hS hU hh;obtain⟨mb,j1,j2⟩:=hS.st.heap.at_ l _ hh;rcases hU l _ aN k1 with e|e
  ·rw[e]at j1;cases j1;obtain⟨te,j3,j4⟩:=j2;exact⟨e,te,j3,j4⟩
  ·rw[e]at j1;cases j1;exact j2.elim
 have ai1:∀{M:List MB} {S:aV X.Γ} {TS:St} {W:Nat->Prop} {rd:Bool} {f0 n0:Nat} {ee:List (Nat×PE X.Γ)} {pp:List Nat} {aa bb:Code} {pe:Option Code} (rd':Bool) (pe':Option Code),SR X P A W h.length M S TS->FK H.length m M->S.heap[l]? = some (.loop rd f0 n0 ee pp aa bb pe)->∃te,TS.heap[c]? = some (.loop rd f0 n0 te pp aa bb pe)∧HR X P A M (S.heap.set l (.loop rd' f0 n0 ee pp aa bb pe')) (TS.heap.set c (.loop rd' f0 n0 te pp aa bb pe'))∧Fr M TS.heap M (TS.heap.set c (.loop rd' f0 n0 te pp aa bb pe')):=by
  intro M S TS W rd f0 n0 ee pp aa bb pe rd' pe' hS hU hh;obtain⟨j1,te,j3,j4⟩:=UL hS hU hh;obtain⟨s1,s2⟩:=hS.st.heap.set (i:=l) (c:=c) (pb:=.loop rd' f0 n0 ee pp aa bb pe') (hb:=.loop rd' f0 n0 te pp aa bb pe') j1 rfl (fun cs hc=>by unfold aB at hc;rw[j3]at hc;cases hc) (fun hF=>⟨te,by rw[List.getElem?_set_self (List.getElem?_eq_some_iff.1 j3).1],j4.step hF .refl⟩);exact⟨te,j3,s1,s2⟩
 obtain⟨te1,y1,y2,y3⟩:=ai1 false none x2 x4 hl1;have hS1:SR X P A (fun b=>b∈aJ m) h.length m1 { s1 with heap:=s1.heap.set l (.loop false f' WE env' WG a' b' none) } { t1 with heap:=t1.heap.set c (.loop false f' WE te1 WG a' b' none),ws:=xJ h.length c t1.ws }:=by
  have q:=x2.st.step y2 y3 .refl;refine⟨⟨q.heap,q.llen,q.loc,q.env⟩,x2.own,fun b hb=>?_,Nat.le_trans x2.fl y3.len⟩;rcases vI (ks:=[.h c]) hb with k|⟨k,_⟩
  ·exact x2.ws b k
  ·simp at k;subst k;exact Sz
 obtain⟨t2,m2,z1,z2,z3,z4⟩:=h2 A _ _ m1 _ hS1;obtain⟨te2,u1,u2,u3⟩:=ai1 (kJ e) (mP e) z2 (x4.trans z4) Sj;have hF:=(x3.trans y3).trans (z3.trans u3);refine⟨.bool (kJ e),t2.heap.set c (.loop (kJ e) f'' ag8 te2 ag9 a'' b'' (mP e)),xJ h.length c t2.ws,m2,?_,u2,.bool _,hF,fun i mb hi=>(x4.trans z4) i mb ?_ hi,fun b hb=>?_⟩
 ·have hl':nH.length=ps.length:=by rw[<-hx.1,hlen]
  simp only[AZ,ap,zJ,k3,hl',hps,and_self,if_true,x1,y1,z1,u1]
 ·rw[<-hr.len];exact (List.getElem?_eq_some_iff.1 hi).1
 ·rcases vI (ks:=[.h c]) hb with k|⟨k,_⟩
  ·exact z2.ws b k
  ·simp at k;subst k;exact Sz
end
def itF {σ ρ:Type}(g:σ->σ⊕ρ):Nat->σ->Option ρ
 | 0,_=>none
 |k+1,s=>match g s with
  |.inl s1=>itF g k s1
  |.inr r=>some r
section
variable {X:iQ}{P:Program}{T:iF}{L:Nat}{f nt B:Nat}{eu:Bool}{call:ay}{b:Code}{σ ρ:Type}
def a3H (out:ρ->Ex×aV X.Γ)(r:ρ):σ⊕ρ->Ex×aV X.Γ
 |.inl _=>out r
 |.inr r'=>out r'
theorem acM {st:σ->aV X.Γ}{g:σ->σ⊕ρ}{out:ρ->Ex×aV X.Γ}(Inv:σ->Prop)(hi:∀s s1,Inv s->g s=.inl s1->Inv s1)
  (hs:∀s n r,Inv s->(∀s1,g s=.inl s1->vJ X P T call L f eu nt B b n (st s1) (out r).1 (out r).2)->vJ X P T call L f eu nt B b (n+1) (st s) (a3H out r (g s)).1 (a3H out r (g s)).2) :
  ∀{k:Nat} {s:σ} {r:ρ},Inv s->itF g k s=some r->vJ X P T call L f eu nt B b k (st s) (out r).1 (out r).2
 | 0,s,r,_,h=>by cases h
 |k+1,s,r,hv,h=>by
  simp only[itF]at h;have h1:=hs s k r hv fun s1 h1=>by
   rw[h1]at h;exact acM Inv hi hs (hi s s1 hv h1) h
  cases hg:g s with
  |inl s1=>rw[hg]at h1;exact h1
  |inr r'=>rw[hg]at h1 h;simp only[Option.some.injEq]at h;subst h;exact h1
theorem a3K {st:σ->aV X.Γ}{g:σ->σ⊕ρ}{out:ρ->Ex×aV X.Γ}(Inv:σ->Prop){k:Nat}{s:σ}{r:ρ}{w:aV X.Γ}(hr:itF g k s=some r)(h0:kY X (T.dG f (bY b)) w=st s)(hk:k<=L)(hv:Inv s)(hi:∀s s1,Inv s->g s=.inl s1->Inv s1)
  (hs:∀s n r,Inv s->(∀s1,g s=.inl s1->vJ X P T call L f eu nt B b n (st s1) (out r).1 (out r).2)->vJ X P T call L f eu nt B b (n+1) (st s) (a3H out r (g s)).1 (a3H out r (g s)).2) :
  iq X P T call L f eu nt B (.loop b) w (out r).1 (out r).2:=a2u (acM Inv hi hs hv hr) h0 hk
end
section
variable {X:iQ}{P:Program}{T:iF}{L:Nat}
theorem Good.ai2 {α:Type}{f:FuncId}{a:NS X P α}{v:α->PV X.Γ}{ext:α->List (PB X.Γ)}{pre:α->List Prop}{kX:iO X.Γ}(d:Nat)(hg:Good X P T L kX)
  (hf:∀n,d<=n->(∀m,n-d<=m->lC X P (AZ P T L m) kX)->∀x,(∀p∈pre x,p)->Con X P (AZ P T L (n+1)) f (a.put x) (v x) (ext x)):Good X P T L (a9S f a v ext pre kX):=by
 obtain⟨N,hN⟩:=hg;refine⟨N+d+1,fun n hn=>?_⟩;obtain⟨k,rfl⟩:∃k,n=k+1:=⟨n-1,by omega⟩;intro g vs v ext ps ho hp;unfold a9S at ho;split at ho
 ·rename_i e;have e:=Nat.eq_of_beq_eq_true e;subst e;split at ho
  ·rename_i x hx;cases ho;intro A h first args cap hup hv
   exact hf k (by omega) (fun m hm=>hN m (by omega)) x hp A h first args cap hup (a.ok hx hv)
  ·exact hN (k+1) (by omega) g vs v ext ps ho hp
 ·exact hN (k+1) (by omega) g vs v ext ps ho hp
theorem ai3 (hX:aX X P){n f:Nat}{kX:iO X.Γ}(hO:lC X P (AZ P T L n) kX){vs:List (PV X.Γ)}{an:PT X.Γ}{v:PV X.Γ}{H:List (PB X.Γ)}{o:OT (PV X.Γ×List (PB X.Γ))}
  (hk:Pz X P T kX (qC X P (AZ P T L n)) (KJ X P T (AZ P T L n) L f 0) L f vs [] an=o) (ht:Fp (IsE v H) an o):Con X P (AZ P T L (n+1)) f vs v H:=by
 obtain⟨y,h1,h2⟩:=ht.ends;cases h2;rw[<-hk]at h1;exact aa0 hX (n:=n+1) (by omega) hO h1
end
theorem Good.ai4 {X:iQ}{P:Program}{T:iF}{L:Nat}{α β:Type}{f:FuncId}{a:NS X P α}{r:Ar X P β}{S:α->β}{pre:α->List Prop}{kX acN:iO X.Γ}(d:Nat)(hg:Good X P T L kX)(hg2:Good X P T L acN)
  (hf:∀n,d<=n->(∀m,n-d<=m->lC X P (AZ P T L m) kX)->(∀m,n-d<=m->lC X P (AZ P T L m) acN)->∀x,(∀p∈pre x,p)->Con X P (AZ P T L (n+1)) f (a.put x) (r.put (S x)) []):Good X P T L (dL f a r S pre kX):=by
 obtain⟨N2,hN2⟩:=hg2;obtain⟨M,hM⟩:=hg;refine⟨M+N2+d+1,fun n hn=>?_⟩;obtain⟨k,rfl⟩:∃k,n=k+1:=⟨n-1,by omega⟩;intro g vs v ext ps ho hp;unfold dL at ho;split at ho
 ·rename_i e;have e:=Nat.eq_of_beq_eq_true e;subst e;split at ho
  ·rename_i x hx;cases ho;intro A h first args cap hup hv
   exact hf k (by omega) (fun m hm=>hM m (by omega)) (fun m hm=>hN2 m (by omega)) x hp A h first args cap hup (a.ok hx hv)
  ·exact hM (k+1) (by omega) g vs v ext ps ho hp
 ·exact hM (k+1) (by omega) g vs v ext ps ho hp
section
variable {X:iQ}{P:Program}{T:iF}{L f nt B:Nat}{eu:Bool}{call:ay}{kX:iO X.Γ}
theorem a0B (hX:aX X P)(hO:lC X P call kX){c:Code}{ps fJ:aV X.Γ}{an:PT X.Γ}{e:Ex}{o:OT (Ex×aV X.Γ)}
  (hk:fO X P T kX (qC X P call) (iq X P T call L f eu nt B) B L f eu nt c ps an a2j=o) (ht:Fp (fun y=>y=(e,fJ)) an o):iq X P T call L f eu nt B c ps e fJ:=by
 obtain⟨y,h1,rfl⟩:=ht.ends;rw[<-hk]at h1;exact UZ hX hO h1
end
theorem qC.forget {X:iQ}{P:Program}{call:ay}{fv:PV X.Γ}{xs:List (PV X.Γ)}{H H1:List (PB X.Γ)}{v:PV X.Γ}(hs:qC X P call fv xs H v H1)(i:Nat):qC X P call fv xs H v (H1.set i .gone):=by
 intro A m h tf nH hr hf hx;obtain⟨w,h',ws,m1,c1,c2,c3,c4,c5,c6⟩:=hs A m h tf nH hr hf hx;have hg:=c2.aK [i];have hf2:=gU (h:=h') [i] m1;exact⟨w,h',ws,_,c1,hg,c3.step hf2.1 hf2.2,c4.trans hf2.1,c5.trans hf2.2,c6⟩
section
variable {X:iQ}{P:Program}{A:Nat->Prop}{m:List MB}{h:List HB}
theorem VR.aeE {k:IntKind}{n:Int}{y:TV}(hy:VR X P A m h (.int k n) y):y=.int k n:=by
 cases hy with
 |int=>rfl
 |gone hi _ _=>simp[aG]at hi
theorem VR.acO {f:FuncId}{y:TV}(hy:VR X P A m h (.fn f [] []) y):y=.fn f [] []:=by
 cases hy with
 |gone hi _ _=>simp[aG]at hi
 |fn p1 _ p3 _=>rw[List.eq_nil_of_length_eq_zero p1.symm,List.eq_nil_of_length_eq_zero p3.symm]
theorem aga {k ex:Bool}{t:Nat}{l:List (X.Γ t)}{x:TV}(hl:LR X P A m h k ex t l x):(l=[]∧x=.nil .slc)∨(l=[]∧∃b off sz cs,x=.slc b off 0 0 sz true∧A b∧aB h b=some cs∧off<=cs.length∧aZ P t=some sz∧0<sz) ∨
  (l≠[]∧∃b sz e kk cs,x=.slc b 0 l.length l.length sz e∧aZ P t=some sz∧0<sz∧h[b]? = some (.cells kk cs)∧kk≠.ro∧(k=true->kk=.own)∧(ex=true->e=true)∧cs.length=l.length*sz∧aW X P A m h t l cs 0 sz):=by
 cases hl with
 |nil=>exact .inl ⟨rfl,rfl⟩
 |emp p0 p1 p2 p3 p4=>exact .inr (.inl ⟨rfl,_,_,_,_,rfl,p0,p1,p2,p3,p4⟩)
 |some p1 p2 p3 p4 p5 p6 p7 p8 p9=>exact .inr (.inr ⟨p1,_,_,_,_,_,rfl,p2,p3,p4,p5,p6,p7,p8,p9⟩)
theorem aeF {H:List (PB X.Γ)}{i:Nat}{x:TV}{k ex:Bool}{t:Nat}{l:List (X.Γ t)}(hr:HR X P A m H h)(hi:H[i]? = some (.list k ex t l))(hv:VR X P (AA A m) m h (.own i) x):m[i]? = some (.bK x)∧LR X P (AA A m) m h k ex t l x:=by
 obtain⟨mb,g1,g2⟩:=hr.at_ i _ hi;cases hv with
 |own e _=>
  rw[g1]at e;cases e;exact⟨g1,g2⟩
 |gone WH e _=>
  simp only[aG,Option.some.injEq]at WH;subst WH;rw[g1]at e;cases e<;>exact g2.elim
end
section
variable {X:iQ}{P:Program}
theorem acP {A:Nat->Prop}{m:List MB}{h:List HB}{t:Nat}{fu:Bool}{x:TV}(hv:VR X P A m h (.bK t [] fu) x):x=.nil .slc∨∃b off cap sz ex cs,x=.slc b off 0 cap sz ex∧A b∧aB h b=some cs∧aZ P t=some sz∧0<sz∧off<=cs.length:=by
 generalize hl:([]:List (X.Γ t))=l at hv;cases hv with
 |jZ=>exact .inl rfl
 |bK a c c2 s z o k f e r=>
  subst hl;exact .inr ⟨_,_,_,_,_,_,rfl,a,c,s,z,by simpa using o⟩
 |gone hi _ _=>simp[aG]at hi
theorem a8N {A:Nat->Prop}{h:List HB}{t:Nat}{x:TV}(hup:∀b,h.length<=b->A b)(hx:LR X P (AA A [.bK x]) [.bK x] h false false t [] x)(ho:(MB.bK x).own=none):HR X P A [.bK x] [.list false false t []] h:=by
 have hb:aJ [MB.bK x]=[]:=by simp[aJ,ho]
 refine⟨rfl,fun i b hi=>?_,by rw[hb];exact List.nodup_nil,hup,fun b rM=>by rw[hb]at rM;cases rM⟩;cases i with
 |zero=>simp only[List.getElem?_cons_zero,Option.some.injEq]at hi;subst hi;exact⟨.bK x,rfl,hx⟩
 |succ i=>simp at hi
end
end Pv
namespace Go.Proofs.YtjkgcifieggcpaaGreat
open Go Tw
def a0d (g:Int->Bool)(i:Nat)(x:Int)(s:Unit):(Unit)⊕(Nat×Int×(Unit)):=
 if (g x)=true then .inr (i,x,s)else .inl ()
def a0w (g:Int->Bool)(l:List Int):Int:=
 if (G5 (a0C (a0d g) l 0 ()))=true then -1 else (((a2l (0,0,()) (a0C (a0d g) l 0 ())).1:Int))
def xu (g:Int->Bool)(l:List Int):Bool:=
 decide ((a0w g l)>=0)
theorem acQ (g:Int->Bool):∀(l:List Int) (i:Nat),G5 (a0C (a0d g) l i ())=!(l.any g)
 |[],i=>rfl
 |x::l,i=>by
  simp only[a0C,a0d,List.any_cons];cases g x with
  |true=>rfl
  |false=>simpa using acQ g l (i+1)
theorem a2w (g:Int->Bool)(l:List Int):xu g l=l.any g:=by
 have:=acQ g l 0;unfold xu a0w;rw[this];cases l.any g with
 |true=>simp
 |false=>simp
def a2A (g:V->Bool)(i:Nat)(x:V)(s:Unit):(Unit)⊕(Nat×V×(Unit)):=
 if (g x)=true then .inr (i,x,s)else .inl ()
def a3o (g:V->Bool)(l:List V):Int:=
 if (G5 (a0C (a2A g) l 0 ()))=true then -1 else (((a2l (0,V0,()) (a0C (a2A g) l 0 ())).1:Int))
def a15 (g:V->Bool)(l:List V):Bool:=
 decide ((a3o g l)>=0)
theorem acR (g:V->Bool):∀(l:List V) (i:Nat),G5 (a0C (a2A g) l i ())=!(l.any g)
 |[],i=>rfl
 |x::l,i=>by
  simp only[a0C,a2A,List.any_cons];cases g x with
  |true=>rfl
  |false=>simpa using acR g l (i+1)
theorem ac6 (g:V->Bool)(l:List V):a15 g l=l.any g:=by
 have:=acR g l 0;unfold a15 a3o;rw[this];cases l.any g with
 |true=>simp
 |false=>simp
end Go.Proofs.YtjkgcifieggcpaaGreat
namespace Pv
open Go Tw
theorem a7T {σ ρ:Type}{g:Nat->σ->σ}:∀(m k:Nat) (s:σ),Rt (ρ:=ρ) (fun k s=>.inl (g k s)) m k s=.inl (uo g m k s)
 | 0,_,_=>rfl
 |m+1,k,s=>a7T m (k+1) (g k s)
theorem acS {c:Nat->Bool}{ρ:Type}{r:Nat->ρ}{m k:Nat}(h:G5 (Rt (σ:=Unit) (fun k _=>if c k=true then .inr (r k)else .inl ()) m k ())=false):∃j,k<=j∧j<k+m∧c j=true∧(∀i,k<=i->i<j->c i=false)∧Rt (σ:=Unit) (fun k _=>if c k=true then .inr (r k)else .inl ()) m k ()=.inr (r j):=by
 induction m generalizing k with
 |zero=>simp[Rt,G5]at h
 |succ m ih=>
  simp only[Rt]at h ⊢;by_cases hc:c k=true
  ·simp only[hc,if_true];exact⟨k,Nat.le_refl _,by omega,hc,fun i h1 h2=>by omega,rfl⟩
  simp only[hc,Bool.false_eq_true,if_false]at h ⊢;obtain⟨j,h1,h2,h3,h4,h5⟩:=ih h;exact⟨j,by omega,by omega,h3,fun i SS WH=>by
   rcases Nat.lt_or_ge k i with h6|h6
   ·exact h4 i h6 WH
   rw[show i=k by omega];simpa using hc,h5⟩
theorem a5f {c:Nat->Bool}{N:Nat}(h:G5 (pz c N)=false):∃j,j<N∧c j=true∧(∀i,i<j->c i=false)∧pz c N=.inr j:=by
 obtain⟨j,_,h2,h3,h4,h5⟩:=acS (r:=fun k=>k) h;exact⟨j,by omega,h3,fun i hi=>h4 i (by omega) hi,h5⟩
def a5p {σ:Type}(g:Nat->σ->σ):Nat->σ->σ
 | 0,s=>s
 |k+1,s=>a5p g k (g k s)
theorem a7U {σ:Type}{g:Nat->σ->σ}(Q:Nat->σ->Prop):∀{k:Nat} {s:σ},Q k s->(∀j s,j<k->Q (j+1) s->Q j (g j s))->Q 0 (a5p g k s)
 | 0,_,h,_=>h
 |k+1,s,h,hs=>a7U Q (k:=k) (hs k s (by omega) h) fun j s h1 h2=>hs j s (by omega) h2
theorem a5g {α:Type}{a b:List α}{d:α}(hl:a.length=b.length):a=b↔∀j,j<a.length->a.getD j d=b.getD j d:=by
 constructor
 ·rintro rfl j _;rfl
 intro h;apply List.ext_getElem hl;intro j h1 h2;simpa[List.getD,List.getElem?_eq_getElem h1,List.getElem?_eq_getElem h2]using h j h1
section
variable {X:iQ}{P:Program}{T:iF}{L:Nat}{f nt B:Nat}{eu:Bool}{call:ay}{b:Code}{σ ρ:Type}
def a1a (out:σ⊕ρ->Ex×aV X.Γ)(g:Nat->σ->σ⊕ρ)(m k:Nat):σ⊕ρ->Ex×aV X.Γ
 |.inl s=>out (Rt g m k s)
 |.inr r=>out (.inr r)
theorem a7V {N:Nat}{st:Int->σ->aV X.Γ}{g:Nat->σ->σ⊕ρ}{out:σ⊕ρ->Ex×aV X.Γ}{s0:σ}{w:aV X.Γ}(Inv:Nat->σ->Prop)(h0:kY X (T.dG f (bY b)) w=st 0 s0)(hl:N<=aO)(hL:aO<L)(hi:Inv 0 s0)
  (hs:∀(k:Nat) (s:σ) (n:Nat),k<N->Inv k s->(∀s1,Inv (k+1) s1->vJ X P T call L f eu nt B b n (st (IntKind.i64.wrap (k+1)) s1) (a1a out g (N-(k+1)) (k+1) (.inl s1)).1 (a1a out g (N-(k+1)) (k+1) (.inl s1)).2) ->
   vJ X P T call L f eu nt B b (n+1) (st k s) (a1a out g (N-(k+1)) (k+1) (g k s)).1 (a1a out g (N-(k+1)) (k+1) (g k s)).2)
  (ho:∀s,Inv N s->vJ X P T call L f eu nt B b 1 (st N s) (out (.inl s)).1 (out (.inl s)).2) :
  iq X P T call L f eu nt B (.loop b) w (out (Rt g N 0 s0)).1 (out (Rt g N 0 s0)).2:=by
 have key:∀(m k:Nat) (s:σ),k+m=N->Inv k s->vJ X P T call L f eu nt B b (m+1) (st k s) (out (Rt g m k s)).1 (out (Rt g m k s)).2:=by
  intro m
  induction m with
  |zero=>
   intro k s hk hr;have:k=N:=(by omega);subst this;exact ho s hr
  |succ m ih=>
   intro k s hk hr;have aN:k<N:=(by omega);have h1:=hs k s (m+1) aN hr fun s1 h=>by
    have:=ih (k+1) s1 (by omega) h;rw[XU (by omega),show N-(k+1)=m by omega];exact this
   rw[show N-(k+1)=m by omega]at h1;simp only[Rt];cases hg:g k s with
   |inl s1=>rw[hg]at h1;exact h1
   |inr r=>rw[hg]at h1;exact h1
 exact a2u (key N 0 s0 (by omega) hi) h0 (by omega)
theorem agb {a N:Nat}{st:Int->σ->aV X.Γ}{g:Nat->σ->σ⊕ρ}{out:σ⊕ρ->Ex×aV X.Γ}{s0:σ}{w:aV X.Γ}(Inv:Nat->σ->Prop)(h0:kY X (T.dG f (bY b)) w=st a s0)(ha:a<=N)(hl:N<=aO)(hL:aO<L)(hi:Inv a s0)
  (hs:∀(k:Nat) (s:σ) (n:Nat),a<=k->k<N->Inv k s->(∀s1,Inv (k+1) s1->vJ X P T call L f eu nt B b n (st (IntKind.i64.wrap (k+1)) s1) (a1a out g (N-(k+1)) (k+1) (.inl s1)).1 (a1a out g (N-(k+1)) (k+1) (.inl s1)).2) ->
   vJ X P T call L f eu nt B b (n+1) (st k s) (a1a out g (N-(k+1)) (k+1) (g k s)).1 (a1a out g (N-(k+1)) (k+1) (g k s)).2)
  (ho:∀s,Inv N s->vJ X P T call L f eu nt B b 1 (st N s) (out (.inl s)).1 (out (.inl s)).2) :
  iq X P T call L f eu nt B (.loop b) w (out (Rt g (N-a) a s0)).1 (out (Rt g (N-a) a s0)).2:=by
 have key:∀(m k:Nat) (s:σ),a<=k->k+m=N->Inv k s->vJ X P T call L f eu nt B b (m+1) (st k s) (out (Rt g m k s)).1 (out (Rt g m k s)).2:=by
  intro m
  induction m with
  |zero=>
   intro k s _ hk hr;have:k=N:=(by omega);subst this;exact ho s hr
  |succ m ih=>
   intro k s ak hk hr;have aN:k<N:=(by omega);have h1:=hs k s (m+1) ak aN hr fun s1 h=>by
    have:=ih (k+1) s1 (by omega) (by omega) h;rw[XU (by omega),show N-(k+1)=m by omega];exact this
   rw[show N-(k+1)=m by omega]at h1;simp only[Rt];cases hg:g k s with
   |inl s1=>rw[hg]at h1;exact h1
   |inr r=>rw[hg]at h1;exact h1
 exact a2u (key (N-a) a s0 (Nat.le_refl _) (by omega) hi) h0 (by omega)
theorem ab7 {N:Nat}{st:Int->σ->aV X.Γ}{g:Nat->σ->σ}{e:Ex}{fin:σ->aV X.Γ}{s0:σ}{w:aV X.Γ}(Inv:Nat->σ->Prop)(h0:kY X (T.dG f (bY b)) w=st 0 s0)(hl:N<=aO)(hL:aO<L)(hi:Inv 0 s0)(hv:∀k s,k<N->Inv k s->Inv (k+1) (g k s))
  (hs:∀(k:Nat) (s:σ),k<N->Inv k s->∀n e1 p,vJ X P T call L f eu nt B b n (st (IntKind.i64.wrap (k+1)) (g k s)) e1 p->vJ X P T call L f eu nt B b (n+1) (st k s) e1 p)
  (ho:∀s,Inv N s->vJ X P T call L f eu nt B b 1 (st N s) e (fin s)):iq X P T call L f eu nt B (.loop b) w e (fin (uo g N 0 s0)):=by
 have:=a7V (X:=X) (P:=P) (T:=T) (call:=call) (f:=f) (eu:=eu) (nt:=nt) (B:=B) (b:=b) (ρ:=Empty) (N:=N) (st:=st) (g:=fun k s=>.inl (g k s)) (out:=fun x=>(e,fin (al3 x))) (s0:=s0) (w:=w) Inv h0 hl hL hi
  (fun k s n hk hr h=>hs k s hk hr n _ _ (h _ (hv k s hk hr))) ho
 rw[a7T]at this;exact this
theorem ai5 {N:Nat}{st:Int->σ->aV X.Γ}{g:Nat->σ->σ}{e:Ex}{fin:σ->aV X.Γ}{s0:σ}{w:aV X.Γ}(Inv:Nat->σ->Prop)(h0:kY X (T.dG f (bY b)) w=st (IntKind.i64.wrap ((N:Int)-1)) s0)(hl:N<=aO)(hL:aO<L)(hi:Inv N s0)(hv:∀k s,k<N->Inv (k+1) s->Inv k (g k s))
  (hs:∀(k:Nat) (s:σ),k<N->Inv (k+1) s->∀n e1 p,vJ X P T call L f eu nt B b n (st (IntKind.i64.wrap (k-1)) (g k s)) e1 p->vJ X P T call L f eu nt B b (n+1) (st k s) e1 p)
  (ho:∀s,Inv 0 s->vJ X P T call L f eu nt B b 1 (st (-1) s) e (fin s)):iq X P T call L f eu nt B (.loop b) w e (fin (a5p g N s0)):=by
 have wr:∀k:Nat,k<=aO->IntKind.i64.wrap ((k:Int)-1)=(k:Int)-1:=by
  intro k hk;cases k with
  |zero=>rfl
  |succ k=>
   have:=XU (k:=k) (by omega);rw[show ((k+1:Nat):Int)-1=(k:Int)by omega];unfold aO at hk;simp only[IntKind.wrap,IntKind.bits,IntKind.signed];have:(k:Int)%(2^64:Int)=(k:Int):=Int.emod_eq_of_lt (by omega) (by omega);simp only[this];rw[if_neg (by simp;omega)]
 have key:∀(k:Nat) (s:σ),k<=N->Inv k s->vJ X P T call L f eu nt B b (k+1) (st ((k:Int)-1) s) e (fin (a5p g k s)):=by
  intro k
  induction k with
  |zero=>intro s _ hr;exact ho s hr
  |succ k ih=>
   intro s hk hr;have h1:=ih (g k s) (by omega) (hv k s (by omega) hr);rw[<-wr k (by omega)]at h1;rw[show ((k+1:Nat):Int)-1=(k:Int)by omega];exact hs k s (by omega) hr _ _ _ h1
 rw[wr N hl]at h0;exact a2u (key N s0 (Nat.le_refl _) hi) h0 (by omega)
end
end Pv
namespace fZ
open Go Tw Pv
theorem a3I {s:List Int}(h:BN s)(k:Nat):dD (s.take k)<=dD s:=by
 have e:dD s=dD (s.take k)*dD (s.drop k):=by rw[<-Hw,List.take_append_drop]
 have h1:1<=dD (s.take k):=qp fun a ha=>h a (List.mem_of_mem_take ha);have h2:1<=dD (s.drop k):=qp fun a ha=>h a (List.mem_of_mem_drop ha);have:=Int.mul_le_mul_of_nonneg_left h2 (show 0<=dD (s.take k)by omega);omega
theorem a8O:∀(s:List Int) (n:Int),(a2o s n).length=s.length
 |[],_=>rfl
 |_::t,n=>by simp[a2o,a8O t n]
theorem a7W:∀(s:List Int) (n:Int) (k:Nat),k<s.length->(a2o s n).getD k 0=(n/dD (s.drop (k+1)))%s.getD k 0
 |[],_,k,h=>by simp at h
 |a::t,n,0,_=>by simp[a2o]
 |a::t,n,k+1,h=>by
  have:=a7W t n k (by simpa using h);simpa[a2o]using this
theorem a0Y:∀{s p:List Int},Ae s p=true->p.length=s.length
 |[],[],_=>rfl
 |a::t,d::p,h=>by
  simp only[Ae,Bool.and_eq_true]at h;simp[a0Y h.2]
 |[],_::_,h=>by cases h
 |_::_,[],h=>by cases h
theorem a5q:∀{s p:List Int},Ae s p=true->BN s->0<=XW s p∧XW s p<dD s
 |[],[],_,_=>by simp[XW,dD]
 |a::t,d::p,h,hs=>by
  simp only[Ae,Bool.and_eq_true,decide_eq_true_eq]at h;have ih:=a5q h.2 hs.tail;have hp:=qp hs.tail;simp only[XW,dD];have h1:0<=d*dD t:=Int.mul_nonneg h.1.1 (by omega);have h2:(d+1)*dD t<=a*dD t:=Int.mul_le_mul_of_nonneg_right (by omega) (by omega);rw[Int.add_mul,Int.one_mul]at h2;omega
theorem a7X:∀{s:List Int} (n:Int),BN s->Ae s (a2o s n)=true
 |[],_,_=>rfl
 |a::t,n,hs=>by
  simp only[a2o,Ae,Bool.and_eq_true,decide_eq_true_eq];have:=hs a (List.mem_cons_self ..);exact⟨⟨Int.emod_nonneg _ (by omega),Int.emod_lt_of_pos _ (by omega)⟩,a7X n hs.tail⟩
theorem a5t:∀{s:List Int} (n:Int),BN s->a2o s (n%dD s)=a2o s n
 |[],_,_=>rfl
 |a::t,n,hs=>by
  have hp:=qp hs.tail;have ha:=hs a (List.mem_cons_self ..);simp only[a2o,dD];have e1:n%(a*dD t)/dD t%a=n/dD t%a:=by
   rw[Int.emod_def n,show n-a*dD t*(n/(a*dD t))=n+(-(a*(n/(a*dD t))))*dD t by rw[Int.neg_mul,Int.mul_right_comm];rfl,Int.add_mul_ediv_right _ _ (by omega),show n/dD t+-(a*(n/(a*dD t)))=n/dD t+a*(-(n/(a*dD t)))by rw[Int.mul_neg],Int.add_mul_emod_self_left]
  have e2:a2o t (n%(a*dD t))=a2o t n:=by
   rw[<-a5t (n%(a*dD t)) hs.tail,<-a5t n hs.tail,Int.emod_emod_of_dvd n (Int.dvd_mul_left a (dD t))]
  rw[e1,e2]
theorem a5u {s:List Int}{k:Nat}(h:k<s.length):dD (s.drop k)=s.getD k 0*dD (s.drop (k+1)):=by
 rw[List.drop_eq_getElem_cons h];simp[dD,List.getD,List.getElem?_eq_getElem h]
def ac7 (s:List Int)(k:Nat)(x:Int×List Int):Int×List Int:=(a4T .i64 x.1 (s.getD k 0),x.2.set k (a4U .i64 x.1 (s.getD k 0)))
theorem agc {a b:Int}(h0:0<=a)(h1:a<2^62)(hb:0<b):a4T .i64 a b=a/b:=by
 have:a/b<=a:=Int.ediv_le_self b h0;have h2:0<=a/b:=Int.ediv_nonneg h0 (by omega);rw[a4T,Int.tdiv_eq_ediv_of_nonneg h0,CX (by omega) (by omega)]
theorem agd {a b:Int}(h0:0<=a)(h1:a<2^62)(hb:0<b):a4U .i64 a b=a%b:=by
 have h2:0<=a%b:=Int.emod_nonneg _ (by omega);have h3:a%b<=a:=by
  have:=Int.emod_def a b;have h4:0<=b*(a/b):=Int.mul_nonneg (by omega) (Int.ediv_nonneg h0 (by omega));omega
 rw[a4U,Int.tmod_eq_emod_of_nonneg h0]
theorem acT {s:List Int}{n:Int}(hs:BN s)(h0:0<=n)(h1:n<2^62){o:List Int}(ho:o.length=s.length):(a5p (ac7 s) s.length (n,o)).2=a2o s n:=by
 have:=a7U (g:=ac7 s) (k:=s.length) (s:=(n,o)) (fun k x=>x.1=n/dD (s.drop k)∧x.2.length=s.length∧∀j,k<=j->j<s.length->x.2.getD j 0=(a2o s n).getD j 0)
  ⟨by simp[dD],ho,fun j h1 h2=>by omega⟩ (fun k x hk hx=>by
   obtain⟨e1,e2,e3⟩:=hx;have hp:1<=dD (s.drop (k+1)):=qp fun a ha=>hs a (List.mem_of_mem_drop ha);have ha:=hs _ (KP hk);have hx0:0<=x.1:=by rw[e1];exact Int.ediv_nonneg h0 (by omega)
   have Xb:x.1<=n:=by rw[e1];exact Int.ediv_le_self _ h0
   simp only[ac7];rw[agc hx0 (by omega) (by omega),agd hx0 (by omega) (by omega)];refine⟨?_,by simp[e2],fun j h2 h3=>?_⟩
   ·rw[a5u hk,Int.mul_comm,<-Int.ediv_ediv_of_nonneg (by omega),e1]
   ·rw[DV (by omega)];split
    ·rename_i e;subst e;rw[a7W s n k hk,e1]
    ·exact e3 j (by omega) h3)
 obtain⟨_,e2,e3⟩:=this;rw[a5g (d:=0) (by rw[e2,a8O])];intro j hj;exact e3 j (Nat.zero_le _) (by omega)
def ai6 (s p:List Int):Int:=uo (fun k n=>IntKind.i64.wrap (IntKind.i64.wrap (n*s.getD k 0)+p.getD k 0)) s.length 0 0
theorem a8V:∀{s p:List Int} (s' p':List Int),s.length=p.length->XW (s++s') (p++p')=XW s p*dD s'+XW s' p'
 |[],[],_,_,_=>by simp[XW]
 |a::s,d::p,s',p',h=>by
  simp only[List.cons_append,XW,a8V s' p' (by simpa using h),Hw,Int.add_mul,Int.mul_assoc];omega
theorem aeG {s p:List Int}(hp:Ae s p=true)(hs:BN s)(hm:dD s<=2000):ai6 s p=XW s p:=by
 have hl:=a0Y hp;have:=Ru (g:=fun k n=>IntKind.i64.wrap (IntKind.i64.wrap (n*s.getD k 0)+p.getD k 0)) (m:=s.length) (k:=0) (s:=(0:Int)) (fun k n=>n=XW (s.take k) (p.take k)) (by simp[XW]) (fun j n h1 h2 h3=>by
  have hj:j<s.length:=by omega
  have ha:=hs _ (KP hj);have hd:=(KO.1 hp).2 j hj;have e:XW (s.take (j+1)) (p.take (j+1))=XW (s.take j) (p.take j)*s.getD j 0+p.getD j 0:=by
   rw[List.take_succ_eq_append_getElem hj,List.take_succ_eq_append_getElem (show j<p.length by omega),a8V _ _ (by simp;omega)];simp[XW,dD,List.getD,List.getElem?_eq_getElem hj,List.getElem?_eq_getElem (show j<p.length by omega)]
  have qK:Ae (s.take j) (p.take j)=true:=KO.2 ⟨by simp[hl],fun i hi=>by
   have nO:i<j:=by have:=hi;simp at this;omega
   have:=(KO.1 hp).2 i (by omega);simpa[List.getD_eq_getElem?_getD,List.getElem?_take,nO]using this⟩
  have hr:=a5q qK fun a ha=>hs a (List.mem_of_mem_take ha);have hle:=a3I hs j;rw[<-h3]at hr e;have h4:n*s.getD j 0<=2000*12:=Int.mul_le_mul (by omega) ha.2 (by omega) (by omega);have h5:0<=n*s.getD j 0:=Int.mul_nonneg hr.1 (by omega);rw[e,CX (z:=n*_) (by omega) (by omega),CX (by omega) (by omega)])
 rw[Nat.zero_add,List.take_length,List.take_of_length_le (show p.length<=s.length by omega)]at this;exact this
theorem nI.a5y {s:List Int}(h:nI s):fZ.cnt s<=aO:=by have:=h.many;have:=h.a9T;unfold aO;omega
theorem nm {k:Nat}(h:k<=aO):(k:Int)<2^62:=by unfold aO at h;omega
theorem a8W {α:Type}(f:Nat->α)(n:Nat):uo (fun k (s:List α)=>s++[f k]) n 0 []=(List.range n).map f:=by
 have:=Ru (g:=fun k (s:List α)=>s++[f k]) (m:=n) (k:=0) (s:=[]) (fun k s=>s=(List.range k).map f) rfl (fun j s _ _ h=>by rw[h,List.range_succ,List.map_append];rfl);simpa using this
end fZ
namespace Go.Proofs.YtjkgcifieggcpaaGreat
open Go Tw Go.Shelf
theorem aeH (h:aj Tryz.prog (a5P 17 true)):aj Tryz.prog aa1:=aj.or h (Vb a5Q)
end Go.Proofs.YtjkgcifieggcpaaGreat
namespace Tw
open Go Go.ChangeShapes
section
variable {H:Type}{a07:TypeId×Value->H}{P:Program}{w:World}
def Rd (a07:TypeId×Value->H)(P:Program)(w:World)(t:TypeId)(d:DataW H):Prop:=∃cs,Reads a07 P w t cs d
theorem agf {t:TypeId}{k:IntKind}{d:DataW H}(ht:P.underlying t=some (.int k))(hd:Rd a07 P w t d):∃n,d=.lit (.int k n)∧(Lit.int k n).wf=true:=by
 obtain⟨cs,fuel,ps,hd⟩:=hd;cases fuel with
 |zero=>simp[DataW.trod]at hd
 |succ n=>
  unfold DataW.trod at hd;rw[ht]at hd;split at hd<;>simp_all
  obtain⟨⟨_,h1⟩,rfl,_⟩:=hd;exact⟨_,rfl,h1⟩
theorem agh {t:TypeId}{d:DataW H}(ht:P.underlying t=some .string)(hd:Rd a07 P w t d):∃bs,d=.lit (.string bs):=by
 obtain⟨cs,fuel,ps,hd⟩:=hd;cases fuel with
 |zero=>simp[DataW.trod]at hd
 |succ n=>
  unfold DataW.trod at hd;rw[ht]at hd;split at hd<;>simp_all
  exact⟨_,hd.2.1.symm⟩
theorem ac8 {t:TypeId}{fs:Array Field}{d:DataW H}(ht:P.underlying t=some (.struct fs))(hd:Rd a07 P w t d) :
  ∃ds,d=.agg ds∧ds.length=fs.size∧∀(i:Nat) f d',fs[i]? = some f->ds[i]? = some d'->Rd a07 P w f.type d':=by
 obtain⟨cs,fuel,ps,hd⟩:=hd;obtain⟨zs,n,_,hx,pG,OA,Ig⟩:=DataW.trod_struct ht hd;simp only[Prod.mk.injEq]at hx;refine⟨zs.map (·.1),hx.1,by simpa using OA,fun i f d' e1 e2=>?_⟩;simp only[List.getElem?_map,Option.map_eq_some_iff]at e2;obtain⟨z,hz,rfl⟩:=e2;exact⟨_,n,z.2,by rw[Ig i f e1,hz]⟩
theorem acU {t e:TypeId}{d:DataW H}(ht:P.underlying t=some (.slice e))(hd:Rd a07 P w t d) :
  d=.nil∨∃xs ys,d=.slice xs ys∧∀y∈xs++ys,Rd a07 P w e y:=by
 obtain⟨cs,fuel,ps,hd⟩:=hd;rcases Deep.open_slice ht hd with⟨rfl,hx⟩|⟨a,len,cap,m,n,Dt,Pl,rfl,_,Jk,_,hm,hx,Ig⟩
 ·left;cases hx;rfl
 ·right;simp only[if_true]at hm;subst hm;simp only[Prod.mk.injEq]at hx;refine⟨_,_,hx.1,fun y hy=>?_⟩;have:∃i,i<m∧y=Dt i:=by
   rcases List.mem_append.mp hy with hy|hy
   ·obtain⟨i,hi,rfl⟩:=List.mem_map.mp hy;exact⟨i,by have:=List.mem_range.mp hi;omega,rfl⟩
   ·obtain⟨i,hi,rfl⟩:=List.mem_map.mp hy;exact⟨len+i,by have:=List.mem_range.mp hi;omega,rfl⟩
  obtain⟨i,hi,rfl⟩:=this;obtain⟨cs',_,e2⟩:=Ig i hi;exact⟨cs',n,_,e2⟩
theorem a8X {t:TypeId}{fs:Array Field}{g:Nat}{ds:List (DataW H)}{h:List HB}(ht:P.underlying t=some (.struct fs)) :
  QM P (g+1) t (.agg ds) h=match N8 P (QM P g) 0 fs.toList ds h with
   |some (cs,h1)=>if cs.length=P.cellsOf t then some (cs,h1)else none
   |none=>none:=by
 simp only[QM,ht]<;>rfl
end
end Tw
namespace Go.Proofs.YtjkgcifieggcpaaGreat
open Go Tw Pv
abbrev lBs (l:List (List Bool)):PV bM:=.bK 45 l false
abbrev lFc (l:List Fc):PV bM:=.bK 66 l false
abbrev al9 (α:Type):=NS X0 Tryz.prog α
noncomputable def ac9:Arg (List (List Int)):=Ro 22
noncomputable def ai7:Arg (List Bool):=Ro 4
noncomputable def ala:Arg (List (List Bool)):=Ro 45
abbrev Gd (kX:iO bM):Prop:=Pv.Good X0 Tryz.prog T LL kX
theorem LLm:aO<LL:=by decide
abbrev Lp (n f k:Nat)(s:aV bM)(e:Ex)(s':aV bM):Prop:=iq X0 Tryz.prog T (ApN n) LL f false (ntP Tryz.prog f) 0 (.loop (a5K Tryz.prog f k)) s e s'
abbrev xo (b:Nat):PE bM:=.val (.own b)
theorem le0:0<=aO:=by decide
theorem le1:1<=aO:=by decide
theorem ok0 {n:Nat}:Ok n (NU (X:=X0)):=fun f vs v ext ps h=>by cases h
abbrev LpB (n f k B:Nat)(s:aV bM)(e:Ex)(s':aV bM):Prop:=iq X0 Tryz.prog T (ApN n) LL f false (ntP Tryz.prog f) B (.loop (a5K Tryz.prog f k)) s e s'
theorem alb {n f:Nat}{a c:List (PV bM)}{H:List (PB bM)}{g:Int->Bool}(hf:∀x,qC X0 Tryz.prog (ApN n) (.fn f a c) [.int .i64 x] H (.bool (g x)) H)(l:List Int)(hl:l.length<=aO):qC X0 Tryz.prog (ApN (n+1)) (.fn 183 [] []) [.bK 3 l false,.fn f a c] H (iA.put (a0w g l)) H:=by
 have lp:LpB n 183 0 H.length (aa4 f a c H l 0 []) (z183 f a c H l (a0C (a0d g) l 0 ())).1 (z183 f a c H l (a0C (a0d g) l 0 ())).2:=
  a7R (st:=fun i _=>aa4 f a c H l i []) (0:Int) (fun _ _=>True) (by kernel_rfl) hl LLm trivial (fun k s n hk _ ih=>round hX ok0 (by kernel_rfl) (.b (a2m hk) (.o (dB hk) (.k (hf (l.getD k (0:Int))) (.ls (.ou nofun) (.nx (ih _ trivial))))))) (fun s _=>round hX ok0 (by kernel_rfl) (.b (a5L l.length) (.ou nofun)))
 exact kN hX ok0 (first:=[]) (cap:=[]) (by kernel_rfl) (.szh (fun h=>.w (xC lp () h) .sr) (fun h=>.w (Fa lp (0,0,()) h) .sr))
theorem ai8 {n f:Nat}(hn:0<n){a c:List (PV bM)}{H:List (PB bM)}{g:Int->Bool}(hf:∀x,qC X0 Tryz.prog (ApN (n-1)) (.fn f a c) [.int .i64 x] H (.bool (g x)) H)(l:List Int)(hl:l.length<=aO):qC X0 Tryz.prog (ApN (n+1)) (.fn 138 [] []) [.bK 3 l false,.fn f a c] H (tA.put (xu g l)) H:=by
 have h1:=alb hf l hl;rw[show n-1+1=n by omega]at h1;exact kN hX ok0 (first:=[]) (cap:=[]) (by kernel_rfl) (.k h1 .sr)
abbrev agj (f:Nat)(a c:List (PV bM))(H:List (PB bM))(l:List V)(i:Int)(x:List (Nat×PE bM)):aV bM:=⟨[(0,xL 79 l),(1,.val (.fn f a c)),(7,xi l.length),(8,xi i)]++x,[],H⟩
def ai9 (f:Nat)(a c:List (PV bM))(H:List (PB bM))(l:List V):Unit⊕(Nat×V×Unit)->Ex×aV bM
 |.inl _=>(.exit 0,agj f a c H l l.length [(9,xl false)])
 |.inr r=>(.ret,⟨[(4,xi r.1)],[],H⟩)
theorem alc {n f:Nat}{a c:List (PV bM)}{H:List (PB bM)}{g:V->Bool}(hf:∀x,qC X0 Tryz.prog (ApN n) (.fn f a c) [.agg x.ps] H (.bool (g x)) H)(l:List V)(hl:l.length<=aO):qC X0 Tryz.prog (ApN (n+1)) (.fn 254 [] []) [.bK 79 l false,.fn f a c] H (iA.put (a3o g l)) H:=by
 have lp:LpB n 254 0 H.length (agj f a c H l 0 []) (ai9 f a c H l (a0C (a2A g) l 0 ())).1 (ai9 f a c H l (a0C (a2A g) l 0 ())).2:=
  a7R (st:=fun i _=>agj f a c H l i []) V0 (fun _ _=>True) (by kernel_rfl) hl LLm trivial (fun k s n hk _ ih=>round hX ok0 (by kernel_rfl) (.b (a2m hk) (.o (dB hk) (.k (hf (l.getD k V0)) (.ls (.ou nofun) (.nx (ih _ trivial))))))) (fun s _=>round hX ok0 (by kernel_rfl) (.b (a5L l.length) (.ou nofun)))
 exact kN hX ok0 (first:=[]) (cap:=[]) (by kernel_rfl) (.szh (fun h=>.w (xC lp () h) .sr) (fun h=>.w (Fa lp (0,V0,()) h) .sr))
theorem ald {n f:Nat}(hn:0<n){a c:List (PV bM)}{H:List (PB bM)}{g:V->Bool}(hf:∀x,qC X0 Tryz.prog (ApN (n-1)) (.fn f a c) [.agg x.ps] H (.bool (g x)) H)(l:List V)(hl:l.length<=aO):qC X0 Tryz.prog (ApN (n+1)) (.fn 233 [] []) [.bK 79 l false,.fn f a c] H (tA.put (a15 g l)) H:=by
 have h1:=alc hf l hl;rw[show n-1+1=n by omega]at h1;exact kN hX ok0 (first:=[]) (cap:=[]) (by kernel_rfl) (.k h1 .sr)
theorem aia:Gd a5S:=Good.nil.deep 3 fun n hn hO p hp=>by
 have h1:∀x,qC X0 Tryz.prog (ApN (n-3+1)) (.fn 275 [] [.ptr 0 0 1,.ptr 1 0 1]) [.int .i64 x] [.cells [.int .i64 p.1],.cells [.int .i64 p.2.1]] (tA.put (NW x p.1 p.2.1)) [.cells [.int .i64 p.1],.cells [.int .i64 p.2.1]]:=fun x=>kN hX ok0 (first:=[]) (by kernel_rfl) (.ssh (fun _=>.sr) (fun _=>.sr));obtain⟨n,rfl⟩:∃k,n=k+3:=⟨n-3,by omega⟩;rw[show n+3-3+1=n+1 by omega]at h1;have h2:=ai8 (n:=n+2) (by omega) (g:=fun x=>NW x p.1 p.2.1) h1 p.2.2 (hp _ (.head _));exact dS hX (hO _ (by omega)) (by kernel_rfl) (.k h2 (.v (!(xu (fun x=>NW x p.1 p.2.1) p.2.2)) (by rw[a2w];rfl)))
theorem aib:Gd a5T:=aia.add fun n hO p hp=>dS hX hO (by kernel_rfl) (.ss (.o le1 .rr) (.ss .rr .rr))
open Go Tw Pv fZ
theorem ale:Gd aa5:=aib.add fun n hO p hp=>dS hX hO (by kernel_rfl) (.ss .rr .rr)
abbrev a4A (a b:List Int)(k:Nat):Bool:=a.getD k 0 != b.getD k 0
abbrev w26 (a b:List Int)(i:Int)(x:List (Nat×PE bM)):aV bM:=⟨[(0,xL 3 a),(1,xL 3 b),(5,xi i)]++x,[],[]⟩
def z26 (a b:List Int):Unit⊕Nat->Ex×aV bM
 |.inl _=>(.exit 0,w26 a b a.length [(14,xl false)])
 |.inr _=>(.ret,⟨[(4,xl false)],[],[]⟩)
theorem l26 {n:Nat}{kX:iO bM}(hO:Ok n kX)(a b:List Int)(hl:a.length<=aO)(h:a.length=b.length):Lp n 26 0 (w26 a b 0 []) (z26 a b (pz (a4A a b) a.length)).1 (z26 a b (pz (a4A a b) a.length)).2:=
 a7V (st:=fun i _=>w26 a b i []) (fun _ _=>True) (by kernel_rfl) hl LLm trivial (fun k s n hk _ ih=>round hX hO (by kernel_rfl) (.b (a2m hk) (.o (dB hk) (.o (dB (h▸hk)) (.ls (.ou nofun) (.nx (ih _ trivial))))))) (fun s _=>round hX hO (by kernel_rfl) (.b (a5L a.length) (.ou nofun)))
theorem a3z {a b:List Int}(h:a.length=b.length):G5 (pz (a4A a b) a.length)=decide (a=b):=by
 rw[Bool.eq_iff_iff,J8,decide_eq_true_eq,a5g (d:=0) h];simp[a4A]
theorem acW {a b:List Int}(h:((a.length:Int) != (b.length:Int))=true):decide (a=b)=false:=by
 rw[decide_eq_false_iff_not];rintro rfl;simp at h
theorem a0y {α β:Type}{a:List α}{b:List β}(h:((a.length:Int) != (b.length:Int))=false):a.length=b.length:=by simp at h;omega
theorem alg:Gd aa6:=ale.add fun n hO p hp=>dS hX hO (by kernel_rfl) (.s (fun h=>.v false (acW h).symm) fun h=>.z (c:=G5 (pz (a4A p.1 p.2) p.1.length)) (fun h2=>.w (xC (l26 hO p.1 p.2 (hp _ (.head _)) (a0y h)) () h2) (.v true (by rw[<-a3z (a0y h),h2]))) fun h2=>.w (Fa (l26 hO p.1 p.2 (hp _ (.head _)) (a0y h)) 0 h2) (.v false (by rw[<-a3z (a0y h),h2])))
abbrev w94 (a:List Int)(n i:Int)(x:List (Nat×PE bM)):aV bM:=⟨[(0,xL 3 a),(5,xi n),(6,xi i)]++x,[],[]⟩
theorem l94 {n:Nat}{kX:iO bM}(hO:Ok n kX)(a:List Int)(hl:a.length<=aO):Lp n 94 0 (w94 a 1 0 []) (.exit 0) (w94 a (Bq a) a.length [(11,xl false)]):=
 ab7 (st:=fun i n=>w94 a n i []) (fin:=fun n=>w94 a n a.length [(11,xl false)]) (fun _ _=>True) (by kernel_rfl) hl LLm trivial (fun _ _ _ _=>trivial) (fun k s hk _ n e p h=>round hX hO (by kernel_rfl) (.b (a2m hk) (.o (dB hk) (.go h)))) (fun s _=>round hX hO (by kernel_rfl) (.b (a5L a.length) .ex))
theorem alh:Gd aa7:=alg.add fun n hO p hp=>by
 obtain⟨a,k⟩:=p;have h0:k=0:=hp _ (.tail _ (.head _));subst h0;exact dS hX hO (by kernel_rfl) (.w (l94 hO a (hp _ (.head _))) .rr)
theorem ali:Gd aa8:=alh.add fun n hO p hp=>dS hX hO (by kernel_rfl) (.o (hp _ (.head _)) (.o (rfl:(0:Int)=0) .rr))
abbrev a4B (b:List Int)(k j:Nat):Bool:=b.getD j 0==b.getD k 0
abbrev w95 (a b:List Int)(i:Int)(x:List (Nat×PE bM)):aV bM:=⟨[(0,xL 3 a),(1,xL 3 b),(5,xi i)]++x,[],[]⟩
def aic (a b:List Int)(k:Int)(i:Int):Unit⊕Nat->Ex×aV bM
 |.inl _=>(.exit 2,w95 a b k [(6,xi i),(29,xl false)])
 |.inr _=>(.ret,⟨[(4,xl false)],[],[]⟩)
theorem aie {n:Nat}{kX:iO bM}(hO:Ok n kX)(a b:List Int)(k:Nat)(hl:k<=aO)(h:k<b.length):Lp n 95 1 (w95 a b k [(6,xi 0)]) (aic a b k k (pz (a4B b k) k)).1 (aic a b k k (pz (a4B b k) k)).2:=
 a7V (st:=fun i _=>w95 a b k [(6,xi i)]) (fun _ _=>True) (by kernel_rfl) hl LLm trivial (fun j s n hk _ ih=>round hX hO (by kernel_rfl) (.b (a2m hk) (.o (dB (show j<b.length by omega)) (.o (dB h) (.ls (.ou nofun) (.nx (ih _ trivial))))))) (fun s _=>round hX hO (by kernel_rfl) (.b (a5L k) (.ou nofun)))
abbrev aa2 (m:Int)(b:List Int)(k:Nat):Bool:=if (!(yU (b.getD k 0) 0 m))=true then true else if G5 (pz (a4B b k) k)=true then false else true
def z95 (a b:List Int):Unit⊕Nat->Ex×aV bM
 |.inl _=>(.exit 0,w95 a b b.length [(15,xl false)])
 |.inr _=>(.ret,⟨[(4,xl false)],[],[]⟩)
theorem l95 {n:Nat}(hO:Ok n aa8)(a b:List Int)(hl:b.length<=aO):Lp n 95 0 (w95 a b 0 []) (z95 a b (pz (aa2 (xw a) b) b.length)).1 (z95 a b (pz (aa2 (xw a) b) b.length)).2:=
 a7V (st:=fun i _=>w95 a b i []) (fun _ _=>True) (by kernel_rfl) hl LLm trivial (fun k s n hk _ ih=>by
  unfold gS aa2;cases h1:(!(yU (b.getD k 0) 0 (xw a)))
  ·cases h2:G5 (pz (a4B b k) k)
   ·exact round hX hO (by kernel_rfl) (.b (a2m hk) (.o (dB hk) (.b h1 (.w (Fa (aie hO a b k (by omega) hk) 0 h2) (.ou nofun)))))
   ·exact round hX hO (by kernel_rfl) (.b (a2m hk) (.o (dB hk) (.b h1 (.w (xC (aie hO a b k (by omega) hk) () h2) (.nx (ih _ trivial))))))
  ·exact round hX hO (by kernel_rfl) (.b (a2m hk) (.o (dB hk) (.b h1 (.ou nofun))))
  ) (fun s _=>round hX hO (by kernel_rfl) (.b (a5L b.length) (.ou nofun)))
theorem a8Y {a b:List Int}(ha:a.length<=aO)(h:b.length=a.length):G5 (pz (aa2 (xw a) b) b.length)=EM a.length b:=by
 rw[Bool.eq_iff_iff,J8,EM,decide_eq_true_eq];have e1:(∀j,j<b.length->aa2 (xw a) b j=false)↔(∀j,j<b.length->(0<=b.getD j 0∧b.getD j 0<a.length)∧∀i,i<j->b.getD i 0≠b.getD j 0):=by
  refine forall_congr' fun j=>forall_congr' fun hj=>?_;unfold aa2;rw[a5U ha];cases h1:yU (b.getD j 0) 0 ((a.length:Int)-1)
  ·simp only[Bool.not_false,if_true,Bool.true_eq_false,false_iff];intro h2;have:yU (b.getD j 0) 0 ((a.length:Int)-1)=true:=by
    rw[Ja];omega
   rw[h1]at this;cases this
  have h3:0<=b.getD j 0∧b.getD j 0<a.length:=by
   rw[Ja]at h1;omega
  simp only[Bool.not_true,Bool.false_eq_true,if_false,h3,and_self,true_and];cases h2:G5 (pz (a4B b j) j)
  ·simp only[Bool.false_eq_true,if_false,Bool.true_eq_false,false_iff];intro h4;have:G5 (pz (a4B b j) j)=true:=J8.2 fun i hi=>(by simpa[a4B]using h4 i hi);rw[h2]at this;cases this
  simp only[if_true,true_iff];intro i hi;have:=J8.1 h2 i hi;simpa[a4B]using this
 rw[e1];constructor
 ·intro hq;refine⟨h,(V8 (d:=0)).1 fun j hj=>(hq j hj).1,?_⟩;rw[List.nodup_iff_pairwise_ne,List.pairwise_iff_getElem];intro i j hi hj BJ;have:=(hq j hj).2 i BJ;simpa[List.getD,List.getElem?_eq_getElem hi,List.getElem?_eq_getElem hj]using this
 rintro⟨_,h2,h3⟩ j hj;refine⟨(V8 (d:=0)).2 h2 j hj,fun i hi=>?_⟩;rw[List.nodup_iff_pairwise_ne,List.pairwise_iff_getElem]at h3;have:=h3 i j (by omega) hj hi;simpa[List.getD,List.getElem?_eq_getElem (show i<b.length by omega),List.getElem?_eq_getElem hj]using this
theorem aeI {a b:List Int}(h:((b.length:Int) != (a.length:Int))=true):EM a.length b=false:=by
 unfold EM;rw[decide_eq_false_iff_not];rintro⟨h1,_⟩;rw[h1]at h;simp at h
theorem alj:Gd aa9:=ali.add fun n hO p hp=>dS hX hO (by kernel_rfl) (.s (fun h=>.v false (aeI h).symm) fun h=>.z (c:=G5 (pz (aa2 (xw p.1) p.2) p.2.length)) (fun h2=>.w (xC (l95 hO p.1 p.2 (hp _ (.tail _ (.head _)))) () h2) (.v true (by rw[<-a8Y (hp _ (.head _)) (a0y h),h2]))) fun h2=>.w (Fa (l95 hO p.1 p.2 (hp _ (.tail _ (.head _)))) 0 h2) (.v false (by rw[<-a8Y (hp _ (.head _)) (a0y h),h2])))
abbrev w62 (a b:List Int)(i:Int)(x:List (Nat×PE bM)):aV bM:=⟨[(0,xL 3 a),(1,xL 3 b),(5,xi i)]++x,[],[]⟩
def z62 (a b:List Int):Unit⊕Nat->Ex×aV bM
 |.inl _=>(.exit 0,w62 a b a.length [(12,xl false)])
 |.inr _=>(.ret,⟨[(4,xi 3)],[],[]⟩)
theorem l62 {n:Nat}(hO:Ok n aa9)(a b:List Int)(hl:a.length<=aO):Lp n 62 0 (w62 a b 0 []) (z62 a b (pz (cSz a) a.length)).1 (z62 a b (pz (cSz a) a.length)).2:=
 a7V (st:=fun i _=>w62 a b i []) (fun _ _=>True) (by kernel_rfl) hl LLm trivial (fun k s n hk _ ih=>round hX hO (by kernel_rfl) (.b (a2m hk) (.o (dB hk) (.ls (.ou nofun) (.nx (ih _ trivial)))))) (fun s _=>round hX hO (by kernel_rfl) (.b (a5L a.length) (.ou nofun)))
theorem aeK {s:List Int}(h:decide ((s.length:Int)>6)=false):s.length<=6:=by simp at h;omega
theorem a90 {k:Nat}(h:k<=6):k<=aO:=by unfold aO;omega
theorem alm:Gd aad:=alj.add fun n hO p hp=>dS hX hO (by kernel_rfl) (.sh (fun _=>.rr) fun h=>.zh (fun h2=>.w (xC (l62 hO p.1 p.2 (a90 (aeK h))) () h2) (.o (a90 (aeK h)) (.o (rfl:(0:Int)=0) (.ss .rr (.o (a90 (aeK h)) (.o (hp _ (.head _)) (.ss .rr .rr))))))) fun h2=>.w (Fa (l62 hO p.1 p.2 (a90 (aeK h))) 0 h2) .rr)
abbrev w86 (a:List Int)(i:Int)(s:Int×List Int)(x:List (Nat×PE bM)):aV bM:=⟨[(0,xL 3 a),(1,xi s.1),(5,xo 0),(6,xi i)]++x,[],[.list true true 3 s.2]⟩
theorem szk {a:List Int}(hs:BN a){k:Nat}(hk:k<a.length):a.getD k 0≠0:=by have:=hs _ (KP hk);omega
theorem agk (k:Nat):decide ((k:Int)>=0)=true:=by simp
theorem l86 {n:Nat}{kX:iO bM}(hO:Ok n kX)(a:List Int)(m:Int)(hl:a.length<=aO)(hs:BN a):Lp n 86 0 (w86 a (IntKind.i64.wrap ((a.length:Int)-1)) (m,List.replicate a.length 0) []) (.exit 0) (w86 a (-1) (a5p (ac7 a) a.length (m,List.replicate a.length 0)) [(14,xl false)]):=
 ai5 (st:=fun i s=>w86 a i s []) (fin:=fun s=>w86 a (-1) s [(14,xl false)]) (fun _ s=>s.2.length=a.length) (by kernel_rfl) hl LLm (by simp) (fun k s _ h=>by simp[ac7,h]) (fun k s hk hi n e p h=>round hX hO (by kernel_rfl) (.b (agk k) (.o (dB hk) (.o (szk hs hk) (.o (dB (show k<s.2.length by omega)) (.o (dB hk) (.o (szk hs hk) (.go h)))))))) (fun s _=>round hX hO (by kernel_rfl) (.b (rfl:decide ((-1:Int)>=0)=false) .ex))
theorem mk1 {α:Type}(l:List α):(l.length:Int)=(l.length:Int):=rfl
theorem mk2 {α:Type}(l:List α):(0:Int)<=(l.length:Int):=by omega
theorem mk3 {α:Type}{l:List α}(h:l.length<=aO):(l.length:Int)<=(aO:Int):=by omega
theorem aln:Gd aae:=alm.add fun n hO p hp=>dS hX hO (by kernel_rfl) (.o (mk1 p.1) (.o (mk2 p.1) (.o (mk3 (hp _ (.head _))) (.w (l86 hO p.1 p.2 (hp _ (.head _)) (hp _ (.tail _ (.head _)))) (.v (a5p (ac7 p.1) p.1.length (p.2,List.replicate p.1.length 0)).2 (acT (hp _ (.tail _ (.head _))) (hp _ (.tail _ (.tail _ (.head _)))) (hp _ (.tail _ (.tail _ (.tail _ (.head _))))) List.length_replicate))))))
abbrev aeL (a b:List Int)(m i:Int)(x:List (Nat×PE bM)):aV bM:=⟨[(0,xL 3 a),(1,xL 3 b),(5,xi m),(6,xi i)]++x,[],[]⟩
theorem alo {n:Nat}{kX:iO bM}(hO:Ok n kX)(a b:List Int)(hl:a.length<=aO)(h:b.length=a.length):Lp n 126 0 (aeL a b 0 0 []) (.exit 0) (aeL a b (ai6 a b) a.length [(10,xl false)]):=
 ab7 (st:=fun i m=>aeL a b m i []) (fin:=fun m=>aeL a b m a.length [(10,xl false)]) (fun _ _=>True) (by kernel_rfl) hl LLm trivial (fun _ _ _ _=>trivial) (fun k s hk _ n e p g=>round hX hO (by kernel_rfl) (.b (a2m hk) (.o (dB hk) (.o (dB (h▸hk)) (.go g))))) (fun s _=>round hX hO (by kernel_rfl) (.b (a5L a.length) .ex))
theorem aif:Gd a5V:=aln.add fun n hO p hp=>dS hX hO (by kernel_rfl) (.w (alo hO p.1 p.2 (a90 (show nI p.1 from hp _ (.tail _ (.head _))).len) (a0Y (hp _ (.head _)))) (.v _ (aeG (hp _ (.head _)) (show nI p.1 from hp _ (.tail _ (.head _))).sz (show nI p.1 from hp _ (.tail _ (.head _))).many)))
theorem aii:Gd a5W:=aif.add fun n hO p hp=>dS hX hO (by kernel_rfl) (.ss .rr (.ss .rr .rr))
def vIs (v:V):Bool:=if (decide (v.f>0))=true then (if (decide (v.f<=4))=true then v.n==0 else false)else yU v.n (-9999) 9999
theorem agl {v:V}(h:0<=v.f):vOk v=vIs v:=by
 unfold vOk vIs;by_cases h0:v.f=0
 ·rw[if_pos (by simp[h0]),if_neg (by simp;omega)]
 have:v.f>0:=by omega
 simp[h0,this]
open Go Tw Pv fZ
theorem a09 (n:Nat):(a0E n).length=n:=by simp[a0E]
theorem a7Y (n:Nat):EM n (a0E n)=true:=by
 unfold EM;rw[decide_eq_true_eq];refine⟨a09 n,fun a ha=>?_,?_⟩
 ·simp only[a0E,List.mem_map,List.mem_range]at ha;obtain⟨k,h1,rfl⟩:=ha;omega
 unfold a0E;exact List.Pairwise.map _ (fun a b h=>by omega) List.nodup_range
open Go Tw Pv fZ
theorem neV (x y:Operand)(a b:V):kH Tryz.prog .neq 79 x y (V.tv a) (V.tv b)=some (.bool (!decide (a=b))):=(IL rfl rfl (by kernel_rfl) (by decide) (a5Y 9998 a b)).2
open Go Tw Pv fZ
abbrev RhB (n f k B m:Nat)(s:aV bM)(e:Ex)(p:aV bM):Prop:=vJ X0 Tryz.prog T (ApN n) LL f false (ntP Tryz.prog f) B (a5K Tryz.prog f k) m s e p
noncomputable abbrev hdP (f k:Nat)(w:aV bM):aV bM:=kY X0 (T.dG f (bY (a5K Tryz.prog f k))) w
section
variable {n f k B N:Nat}{σ ρ:Type}
theorem a0j {st:Int->σ->aV bM}{g:Nat->σ->σ}{e:Ex}{fin:σ->aV bM}{s0:σ}{w:aV bM}(Inv:Nat->σ->Prop)(h0:hdP f k w=st 0 s0)(hl:N<=aO)(hi:Inv 0 s0)(hv:∀j s,j<N->Inv j s->Inv (j+1) (g j s))
  (hs:∀(j:Nat) (s:σ),j<N->Inv j s->∀m e1 p,RhB n f k B m (st (IntKind.i64.wrap (j+1)) (g j s)) e1 p->RhB n f k B (m+1) (st j s) e1 p)
  (ho:∀s,Inv N s->RhB n f k B 1 (st N s) e (fin s)):LpB n f k B w e (fin (uo g N 0 s0)):=ab7 Inv h0 hl LLm hi hv hs ho
theorem rC {st:Int->σ->aV bM}{g:Nat->σ->σ⊕ρ}{out:σ⊕ρ->Ex×aV bM}{s0:σ}{w:aV bM}(Inv:Nat->σ->Prop)(h0:hdP f k w=st 0 s0)(hl:N<=aO)(hi:Inv 0 s0)
  (hs:∀(j:Nat) (s:σ) (m:Nat),j<N->Inv j s->(∀s1,Inv (j+1) s1->RhB n f k B m (st (IntKind.i64.wrap (j+1)) s1) (a1a (X:=X0) out g (N-(j+1)) (j+1) (.inl s1)).1 (a1a (X:=X0) out g (N-(j+1)) (j+1) (.inl s1)).2) ->
   RhB n f k B (m+1) (st j s) (a1a (X:=X0) out g (N-(j+1)) (j+1) (g j s)).1 (a1a (X:=X0) out g (N-(j+1)) (j+1) (g j s)).2)
  (ho:∀s,Inv N s->RhB n f k B 1 (st N s) (out (.inl s)).1 (out (.inl s)).2):LpB n f k B w (out (Rt g N 0 s0)).1 (out (Rt g N 0 s0)).2:=a7V Inv h0 hl LLm hi hs ho
theorem aeM {a:Nat}{st:Int->σ->aV bM}{g:Nat->σ->σ⊕ρ}{out:σ⊕ρ->Ex×aV bM}{s0:σ}{w:aV bM}(Inv:Nat->σ->Prop)(h0:hdP f k w=st a s0)(ha:a<=N)(hl:N<=aO)(hi:Inv a s0)
  (hs:∀(j:Nat) (s:σ) (m:Nat),a<=j->j<N->Inv j s->(∀s1,Inv (j+1) s1->RhB n f k B m (st (IntKind.i64.wrap (j+1)) s1) (a1a (X:=X0) out g (N-(j+1)) (j+1) (.inl s1)).1 (a1a (X:=X0) out g (N-(j+1)) (j+1) (.inl s1)).2) ->
   RhB n f k B (m+1) (st j s) (a1a (X:=X0) out g (N-(j+1)) (j+1) (g j s)).1 (a1a (X:=X0) out g (N-(j+1)) (j+1) (g j s)).2)
  (ho:∀s,Inv N s->RhB n f k B 1 (st N s) (out (.inl s)).1 (out (.inl s)).2):LpB n f k B w (out (Rt g (N-a) a s0)).1 (out (Rt g (N-a) a s0)).2:=agb Inv h0 ha hl LLm hi hs ho
theorem acY {st:σ->aV bM}{g:σ->σ⊕ρ}{out:ρ->Ex×aV bM}(Inv:σ->Prop){m:Nat}{s:σ}{r:ρ}{w:aV bM}(hr:itF g m s=some r)(h0:hdP f k w=st s)(hk:m<=LL)(hv:Inv s)(hi:∀s s1,Inv s->g s=.inl s1->Inv s1)
  (hs:∀s m r,Inv s->(∀s1,g s=.inl s1->RhB n f k B m (st s1) (out r).1 (out r).2)->RhB n f k B (m+1) (st s) (a3H (X:=X0) out r (g s)).1 (a3H (X:=X0) out r (g s)).2):LpB n f k B w (out r).1 (out r).2:=a3K Inv hr h0 hk hv hi hs
end
open Go Tw Pv fZ
section
variable {l:List V}{w n j:Nat}(h:Prt l w n)
include h
end
theorem a7Z {α β:Type}(l:List α)(d:α)(f:α->β):(List.range l.length).map (fun k=>f (l.getD k d))=l.map f:=by
 apply List.ext_getElem (by simp);intro i h1 h2;have:i<l.length:=by simpa using h1
 simp[List.getD,List.getElem?_eq_getElem this]
open Go Tw Pv fZ
theorem a94 {s p:List Int}{ch d:Int}(hp:Ae s p=true)(hc:CB ch s.length)(hd:CB d (s.getD ch.toNat 0).toNat):Ae s (p.set ch.toNat d)=true:=by
 rw[KO]at hp ⊢;obtain⟨c1,c2⟩:=hc;obtain⟨d1,d2⟩:=hd;refine⟨by simp[hp.1],fun j hj=>?_⟩;rw[DV (by omega)];split
 ·rename_i e;subst e;omega
 exact hp.2 j hj
open Go Tw Pv fZ
abbrev acd (d:Dg)(r i:Int)(x:List (Nat×PE bM)):aV bM:=⟨[(1,xi r),(2,.loc 0 0),(5,xi i)]++x,[d.ps],[]⟩
def z164 (d:Dg)(r:Int)(N:Nat):Unit⊕Nat->Ex×aV bM
 |.inl _=>(.exit 0,acd d r N [(14,xl false)])
 |.inr k=>(.ret,⟨[(4,xi k)],[d.ps],[]⟩)
theorem aij {r:Int}(h:0<=r):decide (r>=0)=true:=by simpa using h
theorem aik {n:Nat}{kX:iO bM}(hO:Ok n kX)(d:Dg)(r:Int)(hl:d.order.length<=aO)(h:CB r d.nodes.length):Lp n 164 0 (acd d r 0 []) (z164 d r d.order.length (pz (a0G d r) d.order.length)).1 (z164 d r d.order.length (pz (a0G d r) d.order.length)).2:=
 rC (st:=fun i _=>acd d r i []) (fun _ _=>True) (by kernel_rfl) hl trivial (fun k s m hk _ ih=>round hX hO (by kernel_rfl) (.b (aij h.1) (.b (a2m hk) (.o (dB hk) (.o h (.ls (.ou nofun) (.nx (ih _ trivial)))))))) (fun s _=>round hX hO (by kernel_rfl) (.b (aij h.1) (.b (a5L d.order.length) (.ou nofun))))
theorem ail {n:Nat}{kX:iO bM}(hO:Ok n kX)(d:Dg)(r:Int)(h:r<0):Lp n 164 0 (acd d r 0 []) (.exit 0) (acd d r 0 [(14,xl false)]):=
 a2u (ps:=acd d r 0 []) (round hX hO (by kernel_rfl) (.b (show decide (r>=0)=false by simpa using h) .ex)) (by kernel_rfl) (by decide:1<=LL)
theorem ain:Gd a6a:=aii.add fun n hO p hp=>dS hX hO (by kernel_rfl) (.zh (fun h=>.w (ail hO p.1 p.2 (by simpa using h)) .rr) fun h=>.zh (fun h2=>.w (xC (aik hO p.1 p.2 (hp _ (.head _)) (hp (0<=p.2->CB p.2 p.1.nodes.length) (.tail _ (.head _)) (by simpa using h))) () h2) .rr) fun h2=>.w (Fa (aik hO p.1 p.2 (hp _ (.head _)) (hp (0<=p.2->CB p.2 p.1.nodes.length) (.tail _ (.head _)) (by simpa using h))) 0 h2) .rr)
theorem aio:Gd a6b:=ain.add fun n hO p hp=>dS hX hO (by kernel_rfl) (.ss .rr .rr)
abbrev agm (b:Br)(i:Int)(x:List (Nat×PE bM)):aV bM:=⟨[(1,.loc 0 0),(3,xi i)]++x,[b.ps],[]⟩
def z127 (b:Br):Unit⊕Nat->Ex×aV bM
 |.inl _=>(.exit 0,agm b (max 1 b.kids.length:Nat) [(8,xl false)])
 |.inr _=>(.ret,⟨[(2,xl false)],[b.ps],[]⟩)
theorem aip {n:Nat}{kX:iO bM}(hO:Ok n kX)(b:Br)(hl:b.kids.length<=aO):Lp n 127 0 (agm b 1 []) (z127 b (a5M (a6c b) 1 (max 1 b.kids.length))).1 (z127 b (a5M (a6c b) 1 (max 1 b.kids.length))).2:=
 aeM (st:=fun i _=>agm b i []) (fun _ _=>True) (by kernel_rfl) (by omega) (by unfold aO at *;omega) trivial (fun k s m h1 hk _ ih=>round hX hO (by kernel_rfl) (.b (a2m (show k<b.kids.length by omega)) (.o (dB (show k<b.kids.length by omega)) (.o (show CB 0 b.kids.length from⟨by omega,by omega⟩) (.ls (.ou nofun) (.nx (ih _ trivial))))))) (fun s _=>round hX hO (by kernel_rfl) (.b (show decide (((max 1 b.kids.length:Nat):Int)<(b.kids.length:Int))=false by simp only[decide_eq_false_iff_not];omega) (.ou nofun)))
theorem aiq:Gd a6d:=aio.add fun n hO p hp=>dS hX hO (by kernel_rfl) (.zh (fun h=>.w (xC (aip hO p (hp _ (.head _))) () h) .rr) fun h=>.w (Fa (aip hO p (hp _ (.head _))) 0 h) .rr)
abbrev a81 (l:List Int)(n:Int)(k:Nat):Bool:=l.getD k 0==n
abbrev agn (l:List Int)(m i:Int)(x:List (Nat×PE bM)):aV bM:=⟨[(0,xL 3 l),(1,xi m),(5,xi i)]++x,[],[]⟩
def z226 (l:List Int)(m:Int):Unit⊕Nat->Ex×aV bM
 |.inl _=>(.exit 0,agn l m l.length [(9,xl false)])
 |.inr _=>(.ret,⟨[(4,xl true)],[],[]⟩)
theorem air {n:Nat}{kX:iO bM}(hO:Ok n kX)(l:List Int)(m:Int)(hl:l.length<=aO):Lp n 226 0 (agn l m 0 []) (z226 l m (pz (a81 l m) l.length)).1 (z226 l m (pz (a81 l m) l.length)).2:=
 rC (st:=fun i _=>agn l m i []) (fun _ _=>True) (by kernel_rfl) hl trivial (fun k s m hk _ ih=>round hX hO (by kernel_rfl) (.b (a2m hk) (.o (dB hk) (.ls (.ou nofun) (.nx (ih _ trivial)))))) (fun s _=>round hX hO (by kernel_rfl) (.b (a5L l.length) (.ou nofun)))
theorem a88 {l:List Int}{m:Int}:G5 (pz (a81 l m) l.length)=!decide (m∈l):=by
 rw[Bool.eq_iff_iff,J8];simp only[Bool.not_eq_true',decide_eq_false_iff_not];constructor
 ·intro h hm;obtain⟨j,hj,e⟩:=List.mem_iff_getElem.1 hm;have:=h j hj;simp[a81,List.getD,List.getElem?_eq_getElem hj,e]at this
 intro h j hj;have e:l.getD j 0=l[j]:=by simp[List.getD,List.getElem?_eq_getElem hj]
 simp only[a81,beq_eq_false_iff_ne,ne_eq,e];intro e2;exact h (e2▸List.getElem_mem hj)
theorem ais:Gd a6e:=aiq.add fun n hO p hp=>dS hX hO (by kernel_rfl) (.z (c:=G5 (pz (a81 p.1 p.2) p.1.length)) (fun h=>.w (xC (air hO p.1 p.2 (hp _ (.head _))) () h) (.v false (by rw[a88]at h;simp at h;simp[h]))) fun h=>.w (Fa (air hO p.1 p.2 (hp _ (.head _))) 0 h) (.v true (by rw[a88]at h;simp at h;simp[h])))
theorem ait {n:Nat}{kX:iO bM}(hO:Ok n kX)(l:List Int)(m:Int)(hl:l.length<=aO):Lp n 182 0 (aal l m 0 []) (z182 l m (pz (aak l) l.length)).1 (z182 l m (pz (aak l) l.length)).2:=
 rC (st:=fun i _=>aal l m i []) (fun _ _=>True) (by kernel_rfl) hl trivial (fun k s m hk _ ih=>round hX hO (by kernel_rfl) (.b (a2m hk) (.o (dB hk) (.ls (.ou nofun) (.nx (ih _ trivial)))))) (fun s _=>round hX hO (by kernel_rfl) (.b (a5L l.length) (.ou nofun)))
theorem aiu:Gd a6f:=ais.add fun n hO p hp=>dS hX hO (by kernel_rfl) (.zh (fun h=>.w (xC (ait hO p.1 p.2 (hp _ (.head _))) () h) .rr) fun h=>.w (Fa (ait hO p.1 p.2 (hp _ (.head _))) 0 h) .rr)
abbrev acZ (d:Dg)(i k:Int)(b:Br)(x:List (Nat×PE bM)):aV bM:=⟨[(1,.loc 0 0),(4,xi i),(5,.loc 1 0),(6,xi k)]++x,[d.ps,b.ps],[]⟩
def afz (d:Dg)(i:Nat):Unit⊕Nat->Ex×aV bM
 |.inl _=>(.exit 4,acZ d i (CY d i).kids.length (CY d i) [(57,xl false)])
 |.inr _=>(.ret,⟨[(2,xl false)],[d.ps,(CY d i).ps],[]⟩)
theorem a95 {d:Dg}{r:Int}{i:Nat}(h:yV d r i=true)(h0:0<=r)(hi:i<=d.nodes.length):CB r d.nodes.length:=by
 unfold yV at h;rw[if_pos (by simpa using h0)]at h;have:r<(i:Int):=by simpa using h
 exact⟨h0,by omega⟩
theorem aiv {n:Nat}(hO:Ok n a6f){d:Dg}(h:DgL d){i:Nat}(hi:i<d.nodes.length)(hk:(CY d i).kids.length<=aO):Lp n 128 2 (acZ d i 0 (CY d i) []) (afz d i (pz (cLk d i) (CY d i).kids.length)).1 (afz d i (pz (cLk d i) (CY d i).kids.length)).2:=
 rC (st:=fun k _=>acZ d i k (CY d i) []) (fun _ _=>True) (by kernel_rfl) hk trivial (fun k s m hk _ ih=>by
  unfold gS cLk;cases e1:yV d ((CY d i).kids.getD k 0) i
  ·exact round hX hO (by kernel_rfl) (.b (a2m hk) (.o (dB hk) (.b (show (!(yV d ((CY d i).kids.getD k 0) i))=true by rw[e1];rfl) (.ou nofun))))
  ·exact round hX hO (by kernel_rfl) (.b (a2m hk) (.o (dB hk) (.b (show (!(yV d ((CY d i).kids.getD k 0) i))=false by rw[e1];rfl) (.o (dB hk) (.o h.order (.o (show 0<=(CY d i).kids.getD k 0->CB ((CY d i).kids.getD k 0) d.nodes.length from fun h0=>a95 e1 h0 (by omega)) (.o h.order (.o (show 0<=((i:Nat):Int)->CB i d.nodes.length from fun _=>dB hi) (.ls (.ou nofun) (.nx (ih _ trivial)))))))))))
  ) (fun s _=>round hX hO (by kernel_rfl) (.b (a5L (CY d i).kids.length) (.ou nofun)))
abbrev ad1 (d:Dg)(i:Int)(x:List (Nat×PE bM)):aV bM:=⟨[(1,.loc 0 0),(4,xi i)]++x,[d.ps],[]⟩
def afA (d:Dg):Unit⊕Nat->Ex×aV bM
 |.inl _=>(.exit 2,ad1 d d.nodes.length [(25,xl false)])
 |.inr k=>(.ret,⟨[(2,xl false)],[d.ps,(CY d k).ps],[]⟩)
theorem m12 {k:Nat}(h:k<=12):k<=aO:=by unfold aO;omega
theorem afB {n:Nat}(hO:Ok n a6f){d:Dg}(h:DgL d):Lp n 128 1 (ad1 d 0 []) (afA d (pz (cLn d) d.nodes.length)).1 (afA d (pz (cLn d) d.nodes.length)).2:=
 rC (st:=fun k _=>ad1 d k []) (fun _ _=>True) (by kernel_rfl) h.nodes trivial (fun k s m hk _ ih=>by
  unfold gS cLn;cases e1:yU (CY d k).var 0 (xw d.sizes)
  ·exact round hX hO (by kernel_rfl) (.b (a2m hk) (.o (dB hk) (.b (show (!(yU (CY d k).var 0 (xw d.sizes)))=true by rw[e1];rfl) (.ou nofun))))
  ·have hv:=Vg h.fine e1;cases e2:(((CY d k).kids.length:Int) != d.sizes.getD (CY d k).var.toNat 0)
   ·have hl:=aiv hO h hk (m12 (Vh h.fine hv e2));cases e3:G5 (pz (cLk d k) (CY d k).kids.length)
    ·exact round hX hO (by kernel_rfl) (.b (a2m hk) (.o (dB hk) (.b (show (!(yU (CY d k).var 0 (xw d.sizes)))=false by rw[e1];rfl) (.o hv (.b e2 (.w (Fa hl 0 e3) (.ou nofun)))))))
    ·exact round hX hO (by kernel_rfl) (.b (a2m hk) (.o (dB hk) (.b (show (!(yU (CY d k).var 0 (xw d.sizes)))=false by rw[e1];rfl) (.o hv (.b e2 (.w (xC hl () e3) (.nx (ih _ trivial))))))))
   ·exact round hX hO (by kernel_rfl) (.b (a2m hk) (.o (dB hk) (.b (show (!(yU (CY d k).var 0 (xw d.sizes)))=false by rw[e1];rfl) (.o hv (.b e2 (.ou nofun))))))
  ) (fun s _=>round hX hO (by kernel_rfl) (.b (a5L d.nodes.length) (.ou nofun)))
abbrev ad2 (d:Dg)(i:Int)(x:List (Nat×PE bM)):aV bM:=⟨[(1,.loc 0 0),(3,xi i)]++x,[d.ps],[]⟩
def afC (d:Dg):Unit⊕Nat->Ex×aV bM
 |.inl _=>(.exit 0,ad2 d d.ends.length [(11,xl false)])
 |.inr _=>(.ret,⟨[(2,xl false)],[d.ps],[]⟩)
theorem afD {n:Nat}(hO:Ok n a6f){d:Dg}(h:DgL d):Lp n 128 0 (ad2 d 0 []) (afC d (pz (cLe d) d.ends.length)).1 (afC d (pz (cLe d) d.ends.length)).2:=
 rC (st:=fun k _=>ad2 d k []) (fun _ _=>True) (by kernel_rfl) h.ends trivial (fun k s m hk _ ih=>round hX hO (by kernel_rfl) (.b (a2m hk) (.o (dB hk) (.ls (.ou nofun) (.nx (ih _ trivial)))))) (fun s _=>round hX hO (by kernel_rfl) (.b (a5L d.ends.length) (.ou nofun)))
theorem aiw:Gd a6g:=aiu.add fun n hO p hp=>dS hX hO (by kernel_rfl) (.zh (fun h=>.w (xC (afD hO (show DgL p from hp _ (.head _))) () h) (.zh (fun h2=>.w (xC (afB hO (show DgL p from hp _ (.head _))) () h2) .rr) fun h2=>.w (Fa (afB hO (show DgL p from hp _ (.head _))) 0 h2) .rr)) fun h=>.w (Fa (afD hO (show DgL p from hp _ (.head _))) 0 h) .rr)
theorem alq:Gd aao:=aiw.add fun n hO p hp=>dS hX hO (by kernel_rfl) (.o (hp _ (.head _)) (.sh (fun _=>.rr) fun h=>.sh (fun _=>.rr) fun h2=>.o (show DgL p from⟨hp _ (.head _),a2s h2,hp _ (.tail _ (.head _)),O5 h⟩) (.ss .rr .rr)))
open Go Tw Pv fZ
theorem a1j {l:List Int}{a:Int}(h:l.Nodup)(ha:a∉l):(l++[a]).Nodup:=by
 rw[List.nodup_append];exact⟨h,by simp,fun x hx y hy e=>by simp at hy;subst hy;subst e;exact ha hx⟩
theorem ad3 {d:Dg}:∀(F:Nat) (r s:Int) (x:List Int×List Int),r<s->s∉x.1->0<=s->(∀i,i<d.nodes.length->∀k,k<(CY d i).kids.length->(CY d i).kids.getD k 0<i)->(0<=r->CB r d.nodes.length)->s∉(Yd d F r x).1
 | 0,_,_,_,_,h,_,_,_=>h
 |F+1,r,s,x,hr,h,h0,hk,hn=>by
  unfold Yd;by_cases c:r<0
  ·rw[if_pos (by simpa using c)];split<;>exact h
  rw[if_neg (by simpa using c)];split
  ·exact h
  have hi:=hn (by omega);have SQ:∀k,k<(iG d r).kids.length->(iG d r).kids.getD k 0<r:=fun k BX=>by
   obtain⟨i1,i2⟩:=hi;have h9:(iG d r).kids.getD k 0<(r.toNat:Int):=hk r.toNat (by omega) k BX;omega
  have:=Ru (g:=fun k y=>Yd d F ((iG d r).kids.getD k 0) y) (m:=(iG d r).kids.length) (k:=0) (s:=x) (fun _ y=>s∉y.1) h (fun j y _ hj hy=>by
   have h4:=SQ j (by omega);exact ad3 F _ s y (by omega) hy h0 hk fun h5=>⟨h5,by have:=hi.2;omega⟩)
  simp only[List.mem_append,List.mem_singleton,not_or];exact⟨this,by omega⟩
theorem a4D {d:Dg}(h:SC d):∀(F:Nat) (r:Int) (x:List Int×List Int),a6h d x->ES d r d.nodes.length->a6h d (Yd d F r x)
 | 0,_,_,hx,_=>hx
 |F+1,r,x,hx,hr=>by
  unfold Yd;by_cases c:r<0
  ·rw[if_pos (by simpa using c)];split
   ·rename_i c2;have c2:BO r∉x.2:=(by simpa using c2);refine⟨hx.n1,hx.n2,a1j hx.e1 c2,fun a ha=>?_⟩;rw[List.mem_append,List.mem_singleton]at ha;rcases ha with ha|rfl
    ·exact hx.e2 a ha
    exact hr.2 c
   exact hx
  rw[if_neg (by simpa using c)];split
  ·exact hx
  rename_i c2;have c2:r∉x.1:=by simpa using c2
  have hi:CB r d.nodes.length:=⟨by omega,hr.1⟩;have aN:r.toNat<d.nodes.length:=by have:=hr.1;omega
  have h1:=Ru (g:=fun k y=>Yd d F ((iG d r).kids.getD k 0) y) (m:=(iG d r).kids.length) (k:=0) (s:=x) (fun _ y=>a6h d y∧r∉y.1) ⟨hx,c2⟩ (fun j y _ hj hy=>by
   have hk:ES d ((iG d r).kids.getD j 0) r.toNat:=h.kid r.toNat aN j (by simpa using hj);obtain⟨k1,k2⟩:=hk;have BX:ES d ((iG d r).kids.getD j 0) d.nodes.length:=⟨by omega,k2⟩;refine⟨a4D h F _ y hy.1 BX,ad3 F _ r y (by omega) hy.2 (by omega) (fun i hi k hk=>(h.kid i hi k hk).1) fun h5=>⟨h5,BX.1⟩⟩)
  obtain⟨h2,h3⟩:=h1;refine⟨a1j h2.n1 h3,fun a ha=>?_,h2.e1,h2.e2⟩;rw[List.mem_append,List.mem_singleton]at ha;rcases ha with ha|rfl
  ·exact h2.n2 a ha
  exact hi
abbrev wSr (d:Dg)(r:Int)(k:Int)(s:List Int×List Int)(x:List (Nat×PE bM)):aV bM:=⟨[(1,xi r),(2,xo 2),(3,xo 3),(4,.loc 0 0),(10,.loc 1 0),(11,xi k)]++x,[d.ps,(iG d r).ps],[.gone,.gone,ls s.1,ls s.2]⟩
abbrev aix (n:Nat)(d:Dg)(r:Int)(x y:List Int×List Int):Prop:=qC X0 Tryz.prog (ApN n) (.fn 181 [] []) [.agg d.ps,.int .i64 r,.own 0,.own 1] [ls x.1,ls x.2] (.bH [.own 2,.own 3]) [.gone,.gone,ls y.1,ls y.2]
theorem sSr {N:Nat}(hO:∀m,N<=m->Ok m aao){d:Dg}(h:SC d):∀(F:Nat) (r:Int) (x:List Int×List Int),r+1<F->a6h d x->ES d r d.nodes.length->1<=F->aix (N+F) d r x (Yd d F r x)
 | 0,r,x,_,_,_,h1=>by omega
 |F+1,r,x,hF,hx,hr,_=>by
  have hn:=hx.len.1;have he:=hx.len.2;have m1:=h.nodes;have m2:=h.ends;have hO1:=hO (N+F) (by omega);have mn:x.1.length<=aO:=by omega
  have me:x.2.length<=aO:=by omega
  unfold Yd;by_cases c:r<0
  ·have t0:decide (r<0)=true:=(by simpa using c);rw[if_pos t0];by_cases c2:BO r∈x.2
   ·have t1:(!(decide (BO r∈x.2)))=false:=(by simpa using c2);rw[if_neg (by rw[t1];simp)];exact qC.gs hX (a2n hX hO1 (first:=[]) (cap:=[]) (v:=.bH [.own 0,.own 1]) (H1:=[ls x.1,ls x.2]) (by kernel_rfl) (.b t0 (.o me (.b t1 .er)))) [.mv 0,.mv 1] rfl
   have t1:(!(decide (BO r∈x.2)))=true:=(by simpa using c2);rw[if_pos t1];have e1:=vN _ _ (a1j hx.e1 c2) (fun a ha=>by
    rw[List.mem_append,List.mem_singleton]at ha;rcases ha with ha|rfl
    ·exact hx.e2 a ha
    exact hr.2 c)
   have e2:x.2.length+[BO r].length<=aO:=by rw[<-List.length_append];omega
   exact qC.gs hX (a2n hX hO1 (first:=[]) (cap:=[]) (v:=.bH [.own 0,.own 3]) (H1:=[ls x.1,.gone,.list true true 3 ([BO r]:List Int),ls (x.2++[BO r])]) (by kernel_rfl) (.b t0 (.o me (.b t1 (.o e2 .er))))) [.mv 0,.gc [4,3]] rfl
  have t0:decide (r<0)=false:=by simpa using c
  rw[if_neg (by rw[t0];simp)];by_cases c2:r∈x.1
  ·have t1:decide (r∈x.1)=true:=(by simpa using c2);rw[if_pos t1];exact qC.gs hX (a2n hX hO1 (first:=[]) (cap:=[]) (v:=.bH [.own 0,.own 1]) (H1:=[ls x.1,ls x.2]) (by kernel_rfl) (.b t0 (.o mn (.b t1 .er)))) [.mv 0,.mv 1] rfl
  have t1:decide (r∈x.1)=false:=by simpa using c2
  rw[if_neg (by rw[t1];simp)];have hi:CB r d.nodes.length:=⟨by omega,hr.1⟩;obtain⟨i1,i2⟩:=id hi;have aN:r.toNat<d.nodes.length:=by omega
  have hl:LpB (N+F) 181 0 2 (wSr d r 0 x []) (.exit 0) (wSr d r (iG d r).kids.length (uo (fun k y=>Yd d F ((iG d r).kids.getD k 0) y) (iG d r).kids.length 0 x) [(40,xl false)]):=by
   refine a0j (σ:=List Int×List Int) (N:=(iG d r).kids.length) (g:=fun k y=>Yd d F ((iG d r).kids.getD k 0) y) (s0:=x) (st:=fun k y=>wSr d r k y []) (fin:=fun y=>wSr d r (iG d r).kids.length y [(40,xl false)]) (fun _ y=>a6h d y) (by kernel_rfl) (m12 (h.aap r.toNat aN)) hx (fun k y hk hy=>?_) (fun k y hk hy m e p g=>?_) (fun y _=>round hX hO1 (by kernel_rfl) (.b (a5L (iG d r).kids.length) .ex))
   ·have hk:ES d ((iG d r).kids.getD k 0) r.toNat:=h.kid r.toNat aN k hk;have k1:(iG d r).kids.getD k 0<(r.toNat:Int):=hk.1;exact a4D h F _ y hy ⟨by omega,hk.2⟩
   have BX:ES d ((iG d r).kids.getD k 0) r.toNat:=h.kid r.toNat aN k hk;have k1:=BX.1;have hs:=sSr hO h F ((iG d r).kids.getD k 0) y (by omega) hy ⟨by omega,BX.2⟩ (by omega);exact round hX hO1 (by kernel_rfl) (.b (a2m hk) (.o (dB hk) (.fr [2,3] hs (.goG [.gc [4,5]] g))))
  generalize hy:uo (fun k y=>Yd d F ((iG d r).kids.getD k 0) y) (iG d r).kids.length 0 x=y at hl;have sk:=a4D h (F+1) r x hx hr;unfold Yd at sk;rw[if_neg (by rw[t0];simp),if_neg (by rw[t1];simp),hy]at sk;have sl:(y.1++[r]).length<=d.nodes.length:=sk.len.1;have ml:y.1.length+[r].length<=aO:=by rw[<-List.length_append];omega
  exact qC.gs hX (a2n hX hO1 (first:=[]) (cap:=[]) (v:=.bH [.own 5,.own 3]) (H1:=[.gone,.gone,.gone,ls y.2,.list true true 3 ([r]:List Int),ls (y.1++[r])]) (by kernel_rfl) (.b t0 (.o mn (.b t1 (.o hi (.wG [.mv 0,.mv 1] hl (.o ml .er))))))) [.gc [5,3]] rfl
abbrev wSn (d:Dg)(r:Int)(k:Int)(s:List Int×List Int)(x:List (Nat×PE bM)):aV bM:=⟨[(1,xi r),(2,xo 0),(3,xo 1),(4,.loc 0 0),(10,.loc 1 0),(11,xi k)]++x,[d.ps,(iG d r).ps],[ls s.1,ls s.2]⟩
theorem sr0 {d:Dg}:a6h d ([],[]):=⟨List.nodup_nil,by simp,List.nodup_nil,by simp⟩
theorem aiz:Gd a6i:=alq.deep 6001 fun n hn hO p hp=>by
 obtain⟨d,r,_,_⟩:=p;have h:SC d:=hp _ (.head _);have hr:ES d r d.nodes.length:=hp _ (.tail _ (.head _));have hm:d.nodes.length<=6000:=hp _ (.tail _ (.tail _ (.head _)));obtain⟨N,rfl⟩:∃N,n=N+6001:=⟨n-6001,by omega⟩;have hO:∀m,N<=m->Ok m aao:=fun m hm=>hO m (by omega);have hO1:=hO (N+6001) (by omega);by_cases c:r<0
 ·have t0:decide (r<0)=true:=by simpa using c
  have t1:(!(decide (BO r∈([]:List Int))))=true:=by simp
  have e:Yd d 6002 r ([],[])=([],[BO r]):=by
   rw[Yd,if_pos t0,if_pos t1];rfl
  show Con X0 Tryz.prog _ _ _ ((V3 (a2 qw qw)).put ((Yd d 6002 r ([],[])).1,(Yd d 6002 r ([],[])).2)) [];rw[e];exact dS hX hO1 (by kernel_rfl) (.b t0 (.o le0 (.b t1 (.o le1 (.rn (.bH [.nil .slc,.bK 3 ([BO r]:List Int) false]) rfl)))))
 ·have t0:decide (r<0)=false:=by simpa using c
  have t1:decide (r∈([]:List Int))=false:=by simp
  have hi:CB r d.nodes.length:=⟨by omega,hr.1⟩;obtain⟨i1,i2⟩:=id hi;have aN:r.toNat<d.nodes.length:=by omega
  have hl:LpB (N+6001) 181 0 0 (wSn d r 0 ([],[]) []) (.exit 0) (wSn d r (iG d r).kids.length (uo (fun k y=>Yd d 6001 ((iG d r).kids.getD k 0) y) (iG d r).kids.length 0 ([],[])) [(40,xl false)]):=by
   refine a0j (σ:=List Int×List Int) (N:=(iG d r).kids.length) (g:=fun k y=>Yd d 6001 ((iG d r).kids.getD k 0) y) (s0:=(([],[]):List Int×List Int)) (st:=fun k y=>wSn d r k y []) (fin:=fun y=>wSn d r (iG d r).kids.length y [(40,xl false)]) (fun _ y=>a6h d y) (by kernel_rfl) (m12 (h.aap r.toNat aN)) sr0 (fun k y hk hy=>?_) (fun k y hk hy m e p g=>?_) (fun y _=>round hX hO1 (by kernel_rfl) (.b (a5L (iG d r).kids.length) .ex))
   ·have hk:ES d ((iG d r).kids.getD k 0) r.toNat:=h.kid r.toNat aN k hk;have k1:(iG d r).kids.getD k 0<(r.toNat:Int):=hk.1;exact a4D h 6001 _ y hy ⟨by omega,hk.2⟩
   ·have BX:ES d ((iG d r).kids.getD k 0) r.toNat:=h.kid r.toNat aN k hk;have k1:(iG d r).kids.getD k 0<(r.toNat:Int):=BX.1;have hs:=sSr hO h 6001 ((iG d r).kids.getD k 0) y (by omega) hy ⟨by omega,BX.2⟩ (by omega);exact round hX hO1 (by kernel_rfl) (.b (a2m hk) (.o (dB hk) (.fr [0,1] hs (.goG [.gc [2,3]] g))))
  have sk:=a4D h 6002 r ([],[]) sr0 hr;have e:Yd d 6002 r ([],[])=((uo (fun k y=>Yd d 6001 ((iG d r).kids.getD k 0) y) (iG d r).kids.length 0 ([],[])).1++[r],(uo (fun k y=>Yd d 6001 ((iG d r).kids.getD k 0) y) (iG d r).kids.length 0 ([],[])).2):=by
   rw[Yd,if_neg (by rw[t0];simp),if_neg (by rw[t1];simp)]
  show Con X0 Tryz.prog _ _ _ ((V3 (a2 qw qw)).put ((Yd d 6002 r ([],[])).1,(Yd d 6002 r ([],[])).2)) [];rw[e]at sk ⊢;generalize uo (fun k y=>Yd d 6001 ((iG d r).kids.getD k 0) y) (iG d r).kids.length 0 ([],[])=y at hl sk;have sl:(y.1++[r]).length<=d.nodes.length:=sk.len.1;have m1:=h.nodes;have ml:y.1.length+[r].length<=aO:=by rw[<-List.length_append];omega
  exact dS hX hO1 (by kernel_rfl) (.b t0 (.o le0 (.b t1 (.o hi (.wG [.Nr 2 3,.Nr 3 3] hl (.o ml .rr))))))
open Go Tw Pv fZ
abbrev wD (d:Dg)(x:List (Nat×PE bM)):aV bM:=⟨[(1,.loc 0 0)]++x,[d.ps],[]⟩
abbrev rD (d:Dg):Ex×aV bM:=(.ret,⟨[(2,xl false)],[d.ps],[]⟩)
def zD1 (d:Dg)(i:Nat):Unit⊕Nat->Ex×aV bM
 |.inl _=>(.exit 2,wD d [(3,xi i),(4,xi i),(18,xl false)])
 |.inr _=>rD d
theorem lD1 {n:Nat}{kX:iO bM}(hO:Ok n kX){d:Dg}(h:DgL d){i:Nat}(hi:i<d.ends.length):Lp n 137 1 (wD d [(3,xi i),(4,xi 0)]) (zD1 d i (pz (cD1 d i) i)).1 (zD1 d i (pz (cD1 d i) i)).2:=
 rC (st:=fun j _=>wD d [(3,xi i),(4,xi j)]) (fun _ _=>True) (by kernel_rfl) (by have:=h.ends;omega) trivial (fun j s m hj _ ih=>round hX hO (by kernel_rfl) (.b (a2m hj) (.o (dB (show j<d.ends.length by omega)) (.o (dB hi) (.q (.bool (cD1 d i j)) (G6 (.tmp 25) (.tmp 30) (d.ends.getD j V0) (d.ends.getD i V0)) (.ls (.ou nofun) (.nx (ih _ trivial)))))))) (fun s _=>round hX hO (by kernel_rfl) (.b (a5L i) (.ou nofun)))
def zD0 (d:Dg):Unit⊕Nat->Ex×aV bM
 |.inl _=>(.exit 0,wD d [(3,xi d.ends.length),(13,xl false)])
 |.inr _=>rD d
theorem lD0 {n:Nat}{kX:iO bM}(hO:Ok n kX){d:Dg}(h:DgL d):Lp n 137 0 (wD d [(3,xi 0)]) (zD0 d (pz (cD0 d) d.ends.length)).1 (zD0 d (pz (cD0 d) d.ends.length)).2:=
 rC (st:=fun i _=>wD d [(3,xi i)]) (fun _ _=>True) (by kernel_rfl) h.ends trivial (fun i s m hi _ ih=>by
  have hl:=lD1 hO h hi;unfold gS cD0;cases e:G5 (pz (cD1 d i) i)
  ·exact round hX hO (by kernel_rfl) (.b (a2m hi) (.w (Fa hl 0 e) (.ou nofun)))
  ·exact round hX hO (by kernel_rfl) (.b (a2m hi) (.w (xC hl () e) (.nx (ih _ trivial))))
  ) (fun s _=>round hX hO (by kernel_rfl) (.b (a5L d.ends.length) (.ou nofun)))
def zD3 (d:Dg)(i:Nat):Unit⊕Nat->Ex×aV bM
 |.inl _=>(.exit 6,wD d [(5,xi i),(6,xi i),(47,xl false)])
 |.inr _=>rD d
theorem lD3 {n:Nat}(hO:Ok n a6i){d:Dg}(h:SC d){i:Nat}(hi:i<d.nodes.length):Lp n 137 3 (wD d [(5,xi i),(6,xi 0)]) (zD3 d i (pz (cD3 d i) i)).1 (zD3 d i (pz (cD3 d i) i)).2:=
 rC (st:=fun j _=>wD d [(5,xi i),(6,xi j)]) (fun _ _=>True) (by kernel_rfl) (by have:=h.nodes;omega) trivial (fun j s m hj _ ih=>by
  have Ls:j<d.nodes.length:=by omega
  unfold gS cD3;cases e:((CY d j).var==(CY d i).var)
  ·exact round hX hO (by kernel_rfl) (.b (a2m hj) (.o (dB Ls) (.o (dB hi) (.b e (.nx (ih _ trivial))))))
  ·exact round hX hO (by kernel_rfl) (.b (a2m hj) (.o (dB Ls) (.o (dB hi) (.b e (.o (dB Ls) (.o (dB hi) (.o (m12 (h.aap j Ls)) (.ls (.ou nofun) (.nx (ih _ trivial))))))))))
  ) (fun s _=>round hX hO (by kernel_rfl) (.b (a5L i) (.ou nofun)))
def zD2 (d:Dg):Unit⊕Nat->Ex×aV bM
 |.inl _=>(.exit 4,wD d [(5,xi d.nodes.length),(36,xl false)])
 |.inr _=>rD d
theorem lD2 {n:Nat}(hO:Ok n a6i){d:Dg}(h:SC d):Lp n 137 2 (wD d [(5,xi 0)]) (zD2 d (pz (cD2 d) d.nodes.length)).1 (zD2 d (pz (cD2 d) d.nodes.length)).2:=
 rC (st:=fun i _=>wD d [(5,xi i)]) (fun _ _=>True) (by kernel_rfl) h.nodes trivial (fun i s m hi _ ih=>by
  have hl:=lD3 hO h hi;unfold gS cD2;cases e1:Vf (CY d i)
  ·cases e:G5 (pz (cD3 d i) i)
   ·exact round hX hO (by kernel_rfl) (.b (a2m hi) (.o (dB hi) (.o (m12 (h.aap i hi)) (.b e1 (.w (Fa hl 0 e) (.ou nofun))))))
   ·exact round hX hO (by kernel_rfl) (.b (a2m hi) (.o (dB hi) (.o (m12 (h.aap i hi)) (.b e1 (.w (xC hl () e) (.nx (ih _ trivial)))))))
  ·exact round hX hO (by kernel_rfl) (.b (a2m hi) (.o (dB hi) (.o (m12 (h.aap i hi)) (.b e1 (.ou nofun)))))
  ) (fun s _=>round hX hO (by kernel_rfl) (.b (a5L d.nodes.length) (.ou nofun)))
theorem abk {d:Dg}(h:SC d):(srN d d.root).length<=aO∧(srE d d.root).length<=aO:=by
 have hl:=(a4D h 6002 d.root ([],[]) sr0 h.root).len;exact⟨Nat.le_trans hl.1 h.nodes,Nat.le_trans hl.2 h.ends⟩
theorem aiA:Gd a6j:=aiz.add fun n hO p hp=>dS hX hO (by kernel_rfl) (.zh (fun h=>.w (xC (lD0 hO (show SC p from hp _ (.head _)).toDgL) () h) (.zh (fun h2=>.w (xC (lD2 hO (show SC p from hp _ (.head _))) () h2) (.o (hp _ (.head _)) (.o (show SC p from hp _ (.head _)).root (.o (hp _ (.tail _ (.head _))) (.o (abk (hp _ (.head _))).1 (.ss (.o (abk (hp _ (.head _))).2 .rr) .rr)))))) fun h2=>.w (Fa (lD2 hO (show SC p from hp _ (.head _))) 0 h2) .rr)) fun h=>.w (Fa (lD0 hO (show SC p from hp _ (.head _)).toDgL) 0 h) .rr)
theorem aiC:Gd a6l:=aiA.add fun n hO p hp=>dS hX hO (by kernel_rfl) (.o (hp _ (.head _)) (.o (hp _ (.tail _ (.head _))) (.sh (fun _=>.rr) fun h=>.o (wI (hp _ (.head _)) (hp _ (.tail _ (.head _))) h).1 (.o (wI (hp _ (.head _)) (hp _ (.tail _ (.head _))) h).2 (.ss .rr .rr)))))
open Go Tw Pv fZ
def gAt (d:Dg)(p:List Int)(r:Int):Int⊕Int:=if decide (r>=0)=true then .inl ((iG d r).kids.getD (p.getD (iG d r).var.toNat 0).toNat 0)else .inr r
theorem ad4 {d:Dg}{p:List Int}:∀(F:Nat) (r:Int),atF d p F r<0->itF (gAt d p) (F+1) r=some (atF d p F r)
 | 0,r,h=>by
  have h:r<0:=h;have e:gAt d p r=.inr r:=by unfold gAt;rw[if_neg (by simpa using h)]
  rw[itF,e];rfl
 |F+1,r,h=>by
  by_cases c:r<0
  ·have e:gAt d p r=.inr r:=by unfold gAt;rw[if_neg (by simpa using c)]
   rw[itF,e,atF,if_pos c]
  have e:gAt d p r=.inl ((iG d r).kids.getD (p.getD (iG d r).var.toNat 0).toNat 0):=by unfold gAt;rw[if_pos (by simp;omega)]
  rw[atF,if_neg c]at h;rw[itF,e,atF,if_neg c];exact ad4 F _ h
theorem a5h {d:Dg}(h:SC d){p:List Int}(hp:Ae d.sizes p=true):∀(F:Nat) (r:Int),r<F->ES d r d.nodes.length->ES d (atF d p F r) 0
 | 0,r,hr,hk=>⟨by show r<((0:Nat):Int);omega,hk.2⟩
 |F+1,r,hr,hk=>by
  unfold atF;split
  ·rename_i c;exact⟨by show r<((0:Nat):Int);omega,hk.2⟩
  rename_i c;have:=(Vk h hp (r:=r) ⟨by omega,hk.1⟩).2.2;obtain⟨a1,a2⟩:=this;have a3:r<(d.nodes.length:Int):=hk.1;exact a5h h hp F _ (by omega) ⟨by omega,a2⟩
abbrev wAt (d:Dg)(p:List Int)(r:Int)(x:List (Nat×PE bM)):aV bM:=⟨[(1,xL 3 p),(2,.loc 0 0),(4,.loc 1 0),(5,xi r)]++x,[d.ps,V0.ps],[]⟩
theorem lAt {n:Nat}{kX:iO bM}(hO:Ok n kX){d:Dg}(h:SC d)(hm:d.nodes.length<=6000){p:List Int}(hp:Ae d.sizes p=true):Lp n 85 0 (wAt d p d.root []) (.exit 0) (wAt d p (atR d p) [(9,xl false)]):=by
 have h0:d.root<(d.nodes.length:Int):=h.root.1;have ha:=a5h h hp 6001 d.root (by omega) h.root;have JJ:=ad4 6001 d.root ha.1;refine acY (st:=fun r=>wAt d p r []) (g:=gAt d p) (out:=fun r=>(.exit 0,wAt d p r [(9,xl false)])) (fun r=>ES d r d.nodes.length) JJ (by kernel_rfl) (by decide) h.root ?_ ?_
 ·intro r r1 hr e;unfold gAt at e;split at e
  ·rename_i c;have c:0<=r:=(by simpa using c);cases e;have:=(Vk h hp (r:=r) ⟨c,hr.1⟩).2.2;have a3:r<(d.nodes.length:Int):=hr.1;obtain⟨a1,a2⟩:=this;exact⟨by omega,a2⟩
  cases e
 intro r m r' hr ih;by_cases c:0<=r
 ·have hk:=Vk h hp (r:=r) ⟨c,hr.1⟩;have t1:decide (r>=0)=true:=by simpa using c
  have e:gAt d p r=.inl ((iG d r).kids.getD (p.getD (iG d r).var.toNat 0).toNat 0):=by unfold gAt;rw[if_pos t1]
  have g:=ih _ e;rw[e];have hr2:CB r d.nodes.length:=⟨c,hr.1⟩;exact round hX hO (by kernel_rfl) (.b t1 (.o hr2 (.o hr2 (.o hk.1 (.o hk.2.1 (.go g))))))
 have t1:decide (r>=0)=false:=by simpa using c
 have e:gAt d p r=.inr r:=by unfold gAt;rw[if_neg (by rw[t1];simp)]
 rw[e];dsimp only[a3H];exact round hX hO (by kernel_rfl) (.b t1 .ex)
theorem abl {d:Dg}(h:SC d)(hm:d.nodes.length<=6000){p:List Int}(hp:Ae d.sizes p=true):CB (BO (atR d p)) d.ends.length:=by
 have h0:d.root<(d.nodes.length:Int):=h.root.1;have ha:=a5h h hp 6001 d.root (by omega) h.root;exact ha.2 ha.1
theorem alr:Gd aaq:=aiC.add fun n hO p hp=>dS hX hO (by kernel_rfl) (.w (lAt hO (hp _ (.head _)) (hp _ (.tail _ (.head _))) (hp _ (.tail _ (.tail _ (.head _))))) (.o (abl (hp _ (.head _)) (hp _ (.tail _ (.head _))) (hp _ (.tail _ (.tail _ (.head _))))) .rr))
open Go Tw Pv fZ
theorem aeN {A:Nat->Prop}{m:List MB}{h:List HB}{l:List Int}{cs:List TV}(hr:aW X0 Tryz.prog A m h 3 l cs 0 1)(hc:cs.length=l.length):cs=l.map fun n=>TV.int .i64 n:=by
 apply List.ext_getElem (by simp[hc]);intro j h1 h2;have hj:j<l.length:=by omega
 have:=hr.2.2 j l[j] 0 (.int .i64 l[j]) cs[j] (List.getElem?_eq_getElem hj) rfl (by rw[List.getElem?_eq_some_iff];exact⟨by omega,by simp⟩);rw[this.aeE];simp
theorem a8a:∀l:List Int,KT (l.map fun n=>TV.int .i64 n)=some l
 |[]=>rfl
 |a::l=>by simp[KT,a8a l]
theorem ace {A:Nat->Prop}{m:List MB}{h:List HB}(l:List Int):aW X0 Tryz.prog A m h 3 l (l.map fun n=>TV.int .i64 n) 0 1:=by
 refine⟨fun j a _=>rfl,by simp only[List.length_map,Nat.mul_one,Nat.zero_add];exact Nat.le_refl _,fun j a i c v hj hi hv=>?_⟩;have Ls:=(List.getElem?_eq_some_iff.1 hj).1;cases i with
 |zero=>
  have hi:some (PV.int .i64 a)=some c:=hi;cases hi;have hj:(l:List Int)[j]? = some a:=hj;rw[Nat.zero_add,Nat.mul_one,Nat.add_zero,List.getElem?_map,hj]at hv;have hv:some (TV.int .i64 a)=some v:=hv;cases hv;exact .int _ _
 |succ i=>have hi:([]:List (PV bM))[i]? = some c:=hi;simp at hi
theorem abn:aZ Tryz.prog 3=some 1:=by kernel_rfl
theorem ad5 (n:Nat)(x:TV)(h:List HB):AZ Tryz.prog T LL (n+1) (.fn 104 [] []) [x] h=Va 104 (.fn 104 [] []) [x] h:=rfl
theorem aeO {f c:Nat}{h:List HB}{kk oM:BK}{cs:List TV}{l:List Int}{e:Bool}(hb:h[c]? = some (.cells kk cs))(hk:sH kk true=some oM)(Qu:cs=l.map fun n=>TV.int .i64 n)(h0:0<l.length)(h1:l.length<=2^20) :
  Va f (.fn f [] []) [.slc c 0 l.length l.length 1 e] h=some (.bH [],h.set c (.cells oM ((wH l).map fun n=>TV.int .i64 n)),[c]):=by
 have pG:cs.length=l.length:=by rw[Qu,List.length_map]
 have him:KT cs=some l:=by rw[Qu];exact a8a l
 generalize l.length=n at *;obtain⟨j,rfl⟩:∃j,n=j+1:=⟨n-1,by omega⟩;simp only[Va,V9,if_true,hb,hk,him,pG,h0,h1,and_self]
theorem aiD {n:Nat}{k ex:Bool}(l:List Int)(hl:l.length<=2^20):qC X0 Tryz.prog (ApN (n+1)) (.fn 104 [] []) [.own 0] [.list k ex 3 l] (.bH []) [.list k ex 3 (wH l)]:=by
 intro A m h tf nH hr hf hx;obtain⟨x,r,rfl,h1,h2⟩:=hx.inv;have:=h2.inv0;subst this;obtain⟨g1,g2⟩:=aeF hr (i:=0) (k:=k) (ex:=ex) (t:=3) (l:=l) rfl h1;have htf:=hf.acO;subst htf;show ∃w h1 ws m1,AZ Tryz.prog T LL (n+1) _ _ h=_∧_;rw[ad5];have alu:wH ([]:List Int)=[]:=by simp[wH]
 have hE:∀h0:(l:List Int)=[],wH l=l:=fun h0=>by rw[h0];exact alu
 rcases aga g2 with⟨h0,rfl⟩|⟨h0,b,off,sz,cs,rfl,p0,p1,p2,p3,p4⟩|⟨p1,c,sz,e,kk,cs,rfl,p2,p3,p4,p5,p6,p7,p8,p9⟩
 ·rw[hE h0];exact⟨.bH [],h,[],m,rfl,hr,.bH rfl (fun i x y hx=>by simp at hx),.refl,.refl,fun b hb=>by cases hb⟩
 ·rw[hE h0];exact⟨.bH [],h,[],m,rfl,hr,.bH rfl (fun i x y hx=>by simp at hx),.refl,.refl,fun b hb=>by cases hb⟩
 rw[abn]at p2;cases p2;have p8:cs.length=(l:List Int).length*1:=p8;have pG:cs.length=l.length:=by omega
 have Qu:=aeN p9 pG;have Oz:0<l.length:=by cases l with|nil=>exact absurd rfl p1|cons=>simp
 obtain⟨oM,qJ,a1J,hko⟩:=zY p5;have aN:=(List.getElem?_eq_some_iff.1 p4).1;have iZ:(MB.bK (TV.slc c 0 l.length l.length 1 e)).own=some c:=by simp only[MB.own];rw[if_neg (by omega)]
 have hsl:(wH l).length=l.length:=by unfold wH;rw[List.length_mergeSort]
 have dZ:wH l≠[]:=fun e0=>by rw[e0]at hsl;simp at hsl;omega
 obtain⟨q1,q2⟩:=hr.set (i:=0) (c:=c) (pb:=.list k ex 3 (wH l)) (hb:=.cells oM ((wH l).map fun n=>TV.int .i64 n)) g1 iZ
  (fun WU Gn=>⟨_,by simp only[aB];rw[List.getElem?_set_self aN],by
   simp only[aB,p4,Option.some.injEq]at Gn;subst Gn;rw[List.length_map,hsl,pG];exact Nat.le_refl _⟩)
  (fun hF=>by
   have r:=LR.some (X:=X0) (P:=Tryz.prog) (A:=AA A m) (m:=m) (k:=k) (ex:=ex) (e:=e) (t:=3) (b:=c) (kk:=oM) dZ abn (by decide) (by rw[List.getElem?_set_self aN]) a1J (fun e0=>hko (p6 e0)) p7 (by rw[List.length_map,Nat.mul_one];rfl) (ace (wH l));have alv:@List.length (X0.Γ 3) (wH l)=l.length:=hsl;rw[alv]at r;exact r)
 refine⟨.bH [],_,[c],m,?_,q1,.bH rfl (fun i x y hx=>by simp at hx),q2,.refl,fun d hd=>?_⟩
 ·exact aeO p4 qJ Qu Oz hl
 simp at hd;subst hd;exact aC g1 iZ
end Go.Proofs.YtjkgcifieggcpaaGreat
namespace Pv
open Go Tw
variable {X:iQ}{P:Program}
theorem Con.agp (hX:aX X P){call:ay}{f:FuncId}{xs vs:List (PV X.Γ)}{v v':PV X.Γ}{ext ext':List (PB X.Γ)}(hc:Con X P call f vs v ext)(hv:views [] ([]++xs++[])=some vs)(hs:mF X 0 ext=some ext')
  (e:shift 0 v=v') (he:(if sD v||ext.any (hasB X)then aK (qV.mZ ([]++xs++[])) []else [])=([]:List (PB X.Γ))):qC X P call (.fn f [] []) xs [] v' ext':=by
 subst e;intro A m h tf nH hr hf hx;have htf:=hf.acO;subst htf;obtain⟨w,h',m1,c1,c2,c3,c4,c5⟩:=XH hX hc hr hv hs (t1:=[]) (t3:=[]) .nil hx .nil;rw[he]at c2;exact⟨w,h',[],m1,c1,c2,c3,c4,c5,fun b hb=>by cases hb⟩
end Pv
namespace Go.Proofs.YtjkgcifieggcpaaGreat
open Go Tw Pv fZ
theorem acf (n:Nat)(h:List HB):QO Tryz.prog T (ApN n) LL 103 [.nil .slc] h=some (.nil .slc,h,[]):=by kernel_rfl
theorem acg (n b off cap:Nat)(ex:Bool)(h:List HB):QO Tryz.prog T (ApN n) LL 103 [.slc b off 0 cap 1 ex] h=some (.slc h.length 0 0 0 1 true,h++[.cells .own []],[]):=by kernel_rfl
theorem agq {n:Nat}:Con X0 Tryz.prog (ApN (n+1)) 103 [.bK 3 ([]:List Int) false] (.own 0) (lsI []):=by
 intro A h first args cap hup hv
 obtain⟨x,r,e,h1,h2⟩:=hv.inv;have:=h2.inv0;subst this;have hun:AZ Tryz.prog T LL (n+1) (.fn 103 first cap) args h=QO Tryz.prog T (ApN n) LL 103 [x] h:=by
  rw[<-e];show AZ Tryz.prog T LL (n+1) _ _ _=_;rw[AZ,if_neg (by decide),if_neg (by decide)]
 rcases acP h1 with rfl|⟨b,off,cap',sz,ex,cs,rfl,a1,a2,a3,a4,a5⟩
 ·exact⟨.nil .slc,h,[.bK (.nil .slc)],by rw[<-acf n h,<-hun],a8N hup .nil rfl,.own rfl rfl,⟨Nat.le_refl _,fun _ _ _=>rfl,fun b hb=>by simp[aJ,MB.own]at hb,fun b cs hc=>⟨cs,hc,Nat.le_refl _⟩⟩⟩
 rw[abn]at a3;cases a3;have hc:aB (h++[HB.cells .own []]) h.length=some []:=by unfold aB;rw[List.getElem?_append_right (Nat.le_refl _),Nat.sub_self];rfl
 refine⟨.slc h.length 0 0 0 1 true,h++[.cells .own []],[.bK (.slc h.length 0 0 0 1 true)],by rw[<-acg n b off cap' ex h,<-hun],a8N (fun b hb=>hup b (by simp at hb;omega)) (.emp ⟨hup _ (Nat.le_refl _),by simp[aJ,MB.own]⟩ hc (Nat.le_refl _) abn (by decide)) (by simp[MB.own]),.own rfl rfl,⟨by simp,fun b hb _=>by rw[List.getElem?_append_left hb],fun b hb=>by simp[aJ,MB.own]at hb,fun b cs hc=>⟨cs,?_,Nat.le_refl _⟩⟩⟩;rw[bZ (List.getElem?_append_left (bU hc)),hc]
theorem aiE:Gd a6n:=alr.ai2 0 fun n _ hO p hp=>by
 have hl:p.length<=aO:=hp _ (.head _);by_cases h:p=[]
 ·subst h;exact agq
 ·have h2:([]:List Int).length+p.length<=aO:=by simpa using hl
  exact Con.gs hX (ai3 hX (hO n (by omega)) (v:=.own 1) (H:=[.gone,.list true false 3 p]) (by kernel_rfl) (.o h (.b (rfl:false=false) (.o h2 .er)))) [.gc [1],.flag 0] rfl
abbrev aeP (m:Nat)(i:Int)(l:List Int)(x:List (Nat×PE bM)):aV bM:=⟨[(3,xo 0),(7,xi m),(8,xi i)]++x,[],[.list true true 3 l]⟩
theorem ad6 (m:Nat):uo (fun k (l:List Int)=>l.set k (k:Int)) m 0 (List.replicate m 0)=a0E m:=by
 have:=Ru (g:=fun k (l:List Int)=>l.set k (k:Int)) (m:=m) (k:=0) (s:=List.replicate m 0) (fun k l=>l.length=m∧∀j,j<k->l.getD j 0=(j:Int)) ⟨by simp,by simp⟩ (fun j l _ hj h=>⟨by simp[h.1],fun i hi=>by
  rw[fZ.DV (by omega)];split
  ·rename_i e;rw[e]
  exact h.2 i (by omega)⟩)
 rw[a5g (d:=0) (by rw[this.1,a09])];intro j hj;have Ls:j<m:=by have:=this.1;omega
 rw[this.2 j (by omega)];simp[a0E,List.getD,List.getElem?_map,List.getElem?_range,Ls]
theorem alx {n:Nat}{kX:iO bM}(hO:Ok n kX)(m:Nat)(hm:m<=aO):Lp n 106 0 (aeP m 0 (List.replicate m 0) []) (.exit 0) (aeP m m (a0E m) [(9,xl false)]):=by
 rw[<-ad6];exact a0j (σ:=List Int) (N:=m) (g:=fun k (l:List Int)=>l.set k (k:Int)) (s0:=List.replicate m 0) (st:=fun i (l:List Int)=>aeP m i l []) (fin:=fun (l:List Int)=>aeP m m l [(9,xl false)]) (fun _ (l:List Int)=>l.length=m) (by kernel_rfl) hm (by simp) (fun k l _ h=>by simp[h]) (fun k l hk hl j e p g=>round hX hO (by kernel_rfl) (.b (a2m hk) (.o (dB (show k<l.length by omega)) (.go g)))) (fun l _=>round hX hO (by kernel_rfl) (.b (a5L m) .ex))
theorem aiF:Gd a6o:=aiE.add fun n hO p hp=>by
 have h0:0<=p:=hp _ (.head _);have h1:p<=(aO:Int):=hp _ (.tail _ (.head _));obtain⟨m,rfl⟩:∃m:Nat,p=(m:Int):=⟨p.toNat,by omega⟩;exact dS hX hO (by kernel_rfl) (.o (rfl:(m:Int)=(m:Int)) (.o h0 (.o h1 (.w (alx hO m (by omega)) .rr))))
abbrev agr (a b:List Int)(i:Int)(x:List (Nat×PE bM)):aV bM:=⟨[(0,xL 3 a),(1,xL 3 b),(12,xi a.length),(13,xi i)]++x,[],[]⟩
def z105 (a b:List Int):Unit⊕Nat->Ex×aV bM
 |.inl _=>(.exit 0,agr a b a.length [(14,xl false)])
 |.inr _=>(.ret,⟨[(4,xl false)],[],[]⟩)
theorem aiG {n:Nat}{kX:iO bM}(hO:Ok n kX)(a b:List Int)(hl:a.length<=aO)(h:a.length=b.length):Lp n 105 0 (agr a b 0 []) (z105 a b (pz (a4A a b) a.length)).1 (z105 a b (pz (a4A a b) a.length)).2:=
 rC (st:=fun i _=>agr a b i []) (fun _ _=>True) (by kernel_rfl) hl trivial (fun k s m hk _ ih=>round hX hO (by kernel_rfl) (.b (a2m hk) (.o (dB hk) (.o (dB (h▸hk)) (.ls (.ou nofun) (.nx (ih _ trivial))))))) (fun s _=>round hX hO (by kernel_rfl) (.b (a5L a.length) (.ou nofun)))
theorem aiH:Gd a6p:=aiF.add fun n hO p hp=>dS hX hO (by kernel_rfl) (.s (fun h=>.v false (acW h).symm) fun h=>.z (c:=G5 (pz (a4A p.1 p.2) p.1.length)) (fun h2=>.w (xC (aiG hO p.1 p.2 (hp _ (.head _)) (a0y h)) () h2) (.v true (by rw[<-a3z (a0y h),h2]))) fun h2=>.w (Fa (aiG hO p.1 p.2 (hp _ (.head _)) (a0y h)) 0 h2) (.v false (by rw[<-a3z (a0y h),h2])))
theorem aiI:Gd a6q:=aiH.deep 3 fun n hn hO p hp=>by
 have h1:∀x,qC X0 Tryz.prog (ApN (n-3+1)) (.fn 139 [] [.ptr 0 0 1,.ptr 1 0 1]) [.int .i64 x] [.cells [.int .i64 p.1],.cells [.int .i64 p.2.1]] (tA.put (Rq x p.1 p.2.1)) [.cells [.int .i64 p.1],.cells [.int .i64 p.2.1]]:=fun x=>kN hX ok0 (first:=[]) (by kernel_rfl) (.ssh (fun _=>.sr) (fun _=>.sr));obtain⟨n,rfl⟩:∃k,n=k+3:=⟨n-3,by omega⟩;rw[show n+3-3+1=n+1 by omega]at h1;have h2:=ai8 (n:=n+2) (by omega) (g:=fun x=>Rq x p.1 p.2.1) h1 p.2.2 (hp _ (.head _));exact dS hX (hO _ (by omega)) (by kernel_rfl) (.k h2 (.v (!(xu (fun x=>Rq x p.1 p.2.1) p.2.2)) (by rw[a2w];rfl)))
def abo (s:List Int):Int:=uo (fun k n=>IntKind.i64.wrap (n*s.getD k 0)) s.length 0 1
theorem a9a:∀{s:List Int},BN s->dD s<=12^s.length
 |[],_=>by decide
 |a::t,h=>by
  have h1:=a9a h.tail;have h2:=qp h.tail;have h3:=h a (.head _);have h4:a*dD t<=12*dD t:=Int.mul_le_mul_of_nonneg_right h3.2 (by omega);show a*dD t<=12^(t.length+1);rw[Int.pow_succ];omega
theorem aiJ:∀{n:Nat},n<=6->(12:Int)^n<=2985984:=by decide
theorem ad7 {s:List Int}(h:BN s)(hl:s.length<=6):abo s=dD s:=by
 have:=Ru (g:=fun k n=>IntKind.i64.wrap (n*s.getD k 0)) (m:=s.length) (k:=0) (s:=1) (fun k n=>n=dD (s.take k)) (by simp[dD]) (fun j n _ hj e=>by
  have Ls:j<s.length:=by omega
  have e2:dD (s.take (j+1))=n*s.getD j 0:=by
   rw[List.take_succ_eq_append_getElem Ls,Hw,e];simp[dD,List.getD,List.getElem?_eq_getElem Ls]
  have h1:=a3I h (j+1);have h2:1<=dD (s.take (j+1)):=qp fun a ha=>h a (List.mem_of_mem_take ha);have h3:=a9a h;have h4:=aiJ hl;show IntKind.i64.wrap (n*s.getD j 0)=_;rw[e2]at h1 h2 ⊢;exact CX (by omega) (by omega))
 rw[abo,this];simp
abbrev w67 (a b:List Int)(p i:Int)(x:List (Nat×PE bM)):aV bM:=⟨[(0,xL 3 a),(1,xL 3 b),(5,xi p),(17,xL 3 a),(18,xi a.length),(19,xi i)]++x,[],[]⟩
theorem l67 {n:Nat}{kX:iO bM}(hO:Ok n kX)(a b:List Int)(hl:a.length<=aO):Lp n 67 0 (w67 a b 1 0 []) (.exit 1) (w67 a b (abo a) a.length [(20,xl false)]):=
 ab7 (st:=fun i n=>w67 a b n i []) (fin:=fun n=>w67 a b n a.length [(20,xl false)]) (fun _ _=>True) (by kernel_rfl) hl LLm trivial (fun _ _ _ _=>trivial) (fun k s hk _ n e p h=>round hX hO (by kernel_rfl) (.b (a2m hk) (.o (dB hk) (.go h)))) (fun s _=>round hX hO (by kernel_rfl) (.b (a5L a.length) .ex))
theorem ags {n:Nat}(hO:Ok n a6q)(l:List Int)(hl:l.length<=aO):qC X0 Tryz.prog (ApN n) (.fn 103 [] []) [.bK 3 l false] [] (.own 0) (lsI l):=
 Con.agp hX (hO 103 [.bK 3 l false] (.own 0) (lsI l) [l.length<=aO] (by kernel_rfl) (List.forall_mem_singleton.2 hl)) rfl rfl rfl rfl
theorem ad8 (n:Nat):(a0E n).Pairwise fun a b=>decide (a<=b)=true:=by
 unfold a0E;rw[List.pairwise_map];exact List.pairwise_lt_range.imp fun h=>by simp;omega
theorem ach {n:Nat}{o:List Int}:decide (wH o=a0E n)=EM n o:=by
 rw[Bool.eq_iff_iff,decide_eq_true_eq];have h2:=a7Y n;have hp:(wH o).Perm o:=List.mergeSort_perm _ _;constructor
 ·intro h;rw[h]at hp;unfold EM at h2 ⊢;rw[decide_eq_true_eq]at h2 ⊢;exact⟨by rw[<-hp.length_eq,h2.1],fun a ha=>h2.2.1 a (hp.mem_iff.2 ha),hp.nodup_iff.1 h2.2.2⟩
 intro h;unfold EM at h h2;rw[decide_eq_true_eq]at h h2;have e:o.Perm (a0E n):=(List.perm_ext_iff_of_nodup h.2.2 h2.2.2).2 fun a=>by
  have hm:∀x,0<=x∧x<(n:Int)->x∈a0E n:=fun x hx=>by
   unfold a0E;rw[List.mem_map];exact⟨x.toNat,by rw[List.mem_range];omega,by omega⟩
  constructor
  ·exact fun ha=>hm a (h.2.1 a ha)
  intro ha;by_cases hc:a∈o
  ·exact hc
  have:=List.Nodup.length_le_of_subset (l₁:=a::o) (l₂:=a0E n) (List.nodup_cons.2 ⟨hc,h.2.2⟩) (fun x hx=>by
   rcases List.mem_cons.1 hx with rfl|hx
   ·exact ha
   exact hm x (h.2.1 x hx))
  rw[a09]at this;simp at this;omega
 refine List.Perm.eq_of_pairwise (le:=fun a b=>decide (a<=b)=true) (fun a b _ _ h1 h2=>by simp at h1 h2;omega) ?_ (ad8 n) (hp.trans e);exact List.pairwise_mergeSort (fun a b c h1 h2=>by simp at h1 h2 ⊢;omega) (fun a b=>by simp;omega) o
def a9b (s o:List Int):Int:=if decide ((s.length:Int)>6)=true then 5 else if (!(EK s 1 12))=true then 3 else if decide (abo s>2000)=true then 5 else if (!(decide (wH o=a0E s.length)))=true then 4 else 0
theorem a9d (s o:List Int):a9b s o=jy s o:=by
 rw[NZ];unfold a9b;rw[ach];by_cases h1:6<s.length
 ·rw[if_pos (by simp;omega),if_pos h1]
 rw[if_neg (by simp;omega),if_neg h1];have hw:EK s 1 12=decide (BN s):=by
  unfold EK;rw[Bool.eq_iff_iff,Bool.not_eq_true',List.any_eq_false,decide_eq_true_eq];refine forall_congr' fun a=>forall_congr' fun _=>?_;unfold Rq;split
  ·rename_i h;simp at h ⊢;omega
  rename_i h;simp at h ⊢;omega
 rw[hw];by_cases h2:BN s
 ·rw[if_neg (by simp[h2]),if_pos h2,ad7 h2 (by omega)];simp only[decide_eq_true_eq,Int.not_lt,gt_iff_lt];split
  ·rfl
  cases EM s.length o<;>simp
 rw[if_pos (by simp[h2]),if_neg h2]
theorem aly:Gd aar:=aiI.deep 1 fun n hn hO p hp=>by
 obtain⟨n,rfl⟩:∃k,n=k+1:=⟨n-1,by omega⟩;have hO:=hO (n+1) (by omega);have h1:p.1.length<=aO:=hp _ (.head _);have h2:p.2.length<=2^20:=hp _ (.tail _ (.head _));have h3:p.2.length<=aO:=by unfold aO;omega
 have h4:(a0E p.1.length).length<=aO:=by rw[a09];exact h1
 have h5:(wH p.2).length<=aO:=by unfold wH;rw[List.length_mergeSort];exact h3
 show Con X0 Tryz.prog _ _ _ (iA.put (jy p.1 p.2)) _;rw[<-a9d];exact dS hX hO (by kernel_rfl) (.ss .rr (.o h1 (.ss .rr (.w (l67 hO p.1 p.2 h1) (.ss .rr (.fr [] (ags hO p.2 h3) (.fr [0] (aiD (n:=n) (k:=false) (ex:=false) p.2 h2) (.o (show (0:Int)<=(p.1.length:Int)by omega) (.o (show (p.1.length:Int)<=(aO:Int)by omega) (.o h5 (.ss .rr .rr)))))))))))
open Go Tw Pv fZ
theorem a9g {α:Type}(x:α):[x].length<=aO:=by unfold aO;simp
theorem aiK:Gd a6r:=aly.add fun n hO p hp=>dS hX hO (by kernel_rfl) (.ss (.ss .rr .rr) (.o (a9g p.n) .rr))
abbrev agt (l:List Int)(v:Int)(i:Int)(x:List (Nat×PE bM)):aV bM:=⟨[(0,xL 3 l),(1,xi v),(7,xi l.length),(8,xi i)]++x,[],[]⟩
def aiL (l:List Int)(v:Int):Unit⊕Nat->Ex×aV bM
 |.inl _=>(.exit 0,agt l v l.length [(9,xl false)])
 |.inr k=>(.ret,⟨[(4,xi k)],[],[]⟩)
theorem aiM {n:Nat}{kX:iO bM}(hO:Ok n kX)(l:List Int)(v:Int)(hl:l.length<=aO):Lp n 255 0 (agt l v 0 []) (aiL l v (pz (cIx l v) l.length)).1 (aiL l v (pz (cIx l v) l.length)).2:=
 rC (st:=fun i _=>agt l v i []) (fun _ _=>True) (by kernel_rfl) hl trivial (fun k s m hk _ ih=>round hX hO (by kernel_rfl) (.b (a2m hk) (.o (dB hk) (.ls (.ou nofun) (.nx (ih _ trivial)))))) (fun s _=>round hX hO (by kernel_rfl) (.b (a5L l.length) (.ou nofun)))
theorem aiN:Gd a6s:=aiK.add fun n hO p hp=>dS hX hO (by kernel_rfl) (.zh (fun h=>.w (xC (aiM hO p.1 p.2 (hp _ (.head _))) () h) .rr) fun h=>.w (Fa (aiM hO p.1 p.2 (hp _ (.head _))) 0 h) .rr)
theorem aiO:Gd a6t:=aiN.add fun n hO p hp=>dS hX hO (by kernel_rfl) (.o (hp _ (.head _)) .rr)
theorem aiP:Gd a6u:=aiO.add fun n hO p hp=>dS hX hO (by kernel_rfl) .rr
theorem aiQ:Gd a6v:=aiP.add fun n hO p hp=>dS hX hO (by kernel_rfl) (.sh (fun _=>.rr) fun h=>.sh (fun h2=>.o (hp (0<=p.2.1->p.2.1<p.2.2.1->CB p.2.1 p.1.d.nodes.length) (.tail _ (.head _)) (by simpa using h) (by simpa using h2)) (.o (hp _ (.head _)) .rr)) fun _=>.rr)
abbrev Hb (l:Lo)(i:Int)(b:Br):List (PB bM):=[.cells l.ps,.cells [.int .i64 i],.cells b.ps]
theorem alz {n f:Nat}{a c:List (PV bM)}{H:List (PB bM)}{g:Int->Bool}(l:List Int)(hf:∀x∈l,qC X0 Tryz.prog (ApN n) (.fn f a c) [.int .i64 x] H (.bool (g x)) H)(hl:l.length<=aO):qC X0 Tryz.prog (ApN (n+1)) (.fn 183 [] []) [.bK 3 l false,.fn f a c] H (iA.put (a0w g l)) H:=by
 have lp:LpB n 183 0 H.length (aa4 f a c H l 0 []) (z183 f a c H l (a0C (a0d g) l 0 ())).1 (z183 f a c H l (a0C (a0d g) l 0 ())).2:=
  a7R (st:=fun i _=>aa4 f a c H l i []) (0:Int) (fun _ _=>True) (by kernel_rfl) hl LLm trivial (fun k s n hk _ ih=>round hX ok0 (by kernel_rfl) (.b (a2m hk) (.o (dB hk) (.k (hf (l.getD k (0:Int)) (KP hk)) (.ls (.ou nofun) (.nx (ih _ trivial))))))) (fun s _=>round hX ok0 (by kernel_rfl) (.b (a5L l.length) (.ou nofun)))
 exact kN hX ok0 (first:=[]) (cap:=[]) (by kernel_rfl) (.szh (fun h=>.w (xC lp () h) .sr) (fun h=>.w (Fa lp (0,0,()) h) .sr))
theorem aiR {n f:Nat}{a c:List (PV bM)}{H:List (PB bM)}{g:Int->Bool}(l:List Int)(hf:∀x∈l,qC X0 Tryz.prog (ApN n) (.fn f a c) [.int .i64 x] H (.bool (g x)) H)(hl:l.length<=aO):qC X0 Tryz.prog (ApN (n+2)) (.fn 138 [] []) [.bK 3 l false,.fn f a c] H (tA.put (l.any g)) H:=by
 have h1:=alz l hf hl;have h2:=a2w g l;rw[<-h2];exact kN hX ok0 (first:=[]) (cap:=[]) (by kernel_rfl) (.k h1 .sr)
theorem a3R {α:Type}(l:List α)(g:α->Bool):(!(l.any fun x=>!(g x)))=l.all g:=by
 induction l with
 |nil=>rfl
 |cons a l ih=>simp only[List.any_cons,List.all_cons,Bool.not_or,Bool.not_not,ih]
abbrev pB:List (PV bM):=[.ptr 0 0 7,.ptr 1 0 1,.ptr 2 0 2]
theorem alA {n f:Nat}{l:Lo}{i:Int}{b:Br}{g:Int->Bool}(ks:List Int)(hf:∀x∈ks,qC X0 Tryz.prog (ApN n) (.fn f [] pB) [.int .i64 x] (Hb l i b) (tA.put (g x)) (Hb l i b))(hl:ks.length<=aO):qC X0 Tryz.prog (ApN (n+4)) (.fn 197 [] []) [.bK 3 ks false,.fn f [] pB] (Hb l i b) (tA.put (ks.all g)) (Hb l i b):=by
 have h1:∀x∈ks,qC X0 Tryz.prog (ApN (n+1)) (.fn 235 [] [.ptr 3 0 1]) [.int .i64 x] (Hb l i b++[.cells [.fn f [] pB]]) (tA.put (!(g x))) (Hb l i b++[.cells [.fn f [] pB]]):=fun x hx=>
  kN hX ok0 (first:=[]) (by kernel_rfl) (.fr [0,1,2] (hf x hx) .sr)
 have h2:=aiR ks h1 hl;rw[<-a3R ks g];exact qC.drop hX (kN hX ok0 (first:=[]) (cap:=[]) (H1:=Hb l i b++[.cells [.fn f [] pB]]) (by kernel_rfl) (.k h2 .sr)) rfl rfl
theorem abp {x a b:Int}:EK [x] a b=decide (a<=x∧x<=b):=by
 unfold EK Rq;simp only[List.any_cons,List.any_nil,Bool.or_false];by_cases h:x<a
 ·rw[if_pos (by simpa using h),Bool.not_true,eq_comm,decide_eq_false_iff_not];omega
 rw[if_neg (by simpa using h),Bool.eq_iff_iff,Bool.not_eq_true',decide_eq_false_iff_not,decide_eq_true_eq];omega
theorem ad9 {l:List Br}{k:Nat}(h:k<l.length):l.getD k SB∈l:=by simp[List.getD,List.getElem?_eq_getElem h]
theorem aiS {n:Nat}(hO:∀m,n<=m->Ok m a6v){l:Lo}{i:Int}(ho:l.o.length<=aO)(hf:nI l.s)(hi:CB i l.d.nodes.length):qC X0 Tryz.prog (ApN (n+6)) (.fn 198 [.agg l.ps] []) [.int .i64 i] [] (tA.put (a2v l i)) []:=by
 have h1:∀x∈(Vl l i).kids,qC X0 Tryz.prog (ApN (n+1)) (.fn 236 [] pB) [.int .i64 x] (Hb l i (Vl l i)) (tA.put (Jb l x i (CZ l.o (Vl l i).var))) (Hb l i (Vl l i)):=fun x _=>
  kN hX (hO n (Nat.le_refl _)) (first:=[]) (by kernel_rfl) (.o ho (.o ho (.o (show 0<=x->x<i->CB x l.d.nodes.length from fun h0 h1=>⟨h0,by have:=hi.1;have:=hi.2;omega⟩) .sr)))
 have hv:(!(EK [(Vl l i).var] 0 (xw l.s)))=false->CB (Vl l i).var l.s.length:=fun h=>by
  rw[abp,Bool.not_eq_false',decide_eq_true_eq,a5U hf.a9U]at h;exact⟨h.1,by omega⟩
 have hk:(!(EK [(Vl l i).var] 0 (xw l.s)))=false->(((Vl l i).kids.length:Int) != l.s.getD (Vl l i).var.toNat 0)=false->(Vl l i).kids.length<=aO:=fun h h2=>by
  have h3:=hv h;have h4:=hf.sz _ (KP (s:=l.s) (k:=(Vl l i).var.toNat) (by have:=h3.2;have:=h3.1;omega));have h2:((Vl l i).kids.length:Int)=l.s.getD (Vl l i).var.toNat 0:=by simpa using h2
  exact m12 (by omega)
 exact qC.drop hX (kN hX (hO (n+5) (by omega)) (first:=[.agg l.ps]) (cap:=[]) (H1:=Hb l i (Vl l i)++[.list true true 3 [(Vl l i).var]]) (by kernel_rfl) (.o hi (.o (a9g (Vl l i).var) (.ssh (fun _=>.sr) fun h5=>.o (hv h5) (.ssh (fun _=>.sr) fun h6=>.fr [0,1,2] (alA (Vl l i).kids h1 (hk h5 h6)) .sr))))) rfl rfl
abbrev aci (f:Nat)(a:List (PV bM)):List (PB bM):=[.cells [.fn f a []]]
theorem aiT {n:Nat}{l:Lo}{g:Int->Bool}(ks:List Int)(hf:∀x∈ks,qC X0 Tryz.prog (ApN n) (.fn 198 [.agg l.ps] []) [.int .i64 x] [] (tA.put (g x)) [])(hl:ks.length<=aO):qC X0 Tryz.prog (ApN (n+4)) (.fn 197 [] []) [.bK 3 ks false,.fn 198 [.agg l.ps] []] [] (tA.put (ks.all g)) []:=by
 have h1:∀x∈ks,qC X0 Tryz.prog (ApN (n+1)) (.fn 235 [] [.ptr 0 0 1]) [.int .i64 x] (aci 198 [.agg l.ps]) (tA.put (!(g x))) (aci 198 [.agg l.ps]):=fun x hx=>
  kN hX ok0 (first:=[]) (by kernel_rfl) (.fr [] (hf x hx) .sr)
 have h2:=aiR ks h1 hl;rw[<-a3R ks g];exact qC.drop hX (kN hX ok0 (first:=[]) (cap:=[]) (H1:=aci 198 [.agg l.ps]) (by kernel_rfl) (.k h2 .sr)) rfl rfl
theorem alB {n:Nat}(hO:Ok n a6v)(l:List V)(hl:l.length<=aO):qC X0 Tryz.prog (ApN (n+4)) (.fn 195 [] []) [.bK 79 l false,.fn 196 [] []] [] (tA.put (l.all Hz)) []:=by
 have h1:∀x:V,qC X0 Tryz.prog (ApN (n+1)) (.fn 234 [] [.ptr 0 0 1]) [.agg x.ps] (aci 196 []) (tA.put (!(Hz x))) (aci 196 []):=fun x=>
  kN hX hO (first:=[]) (by kernel_rfl) .sr
 have h2:=ald (n:=n+2) (by omega) (g:=fun x=>!(Hz x)) h1 l hl;rw[<-a3R l,<-ac6];exact qC.drop hX (kN hX ok0 (first:=[]) (cap:=[]) (H1:=aci 196 []) (by kernel_rfl) (.k h2 .sr)) rfl rfl
theorem alC {n:Nat}(hO:Ok n a6v)(m:Nat)(hm:m<=aO):qC X0 Tryz.prog (ApN n) (.fn 106 [] []) [.int .i64 m] [] (qw.put (a0E m)) []:=
 Con.agp hX (hO 106 [.int .i64 m] (qw.put (a0E m)) [] [0<=(m:Int),(m:Int)<=(aO:Int)] (by kernel_rfl) (by
  intro q hq;rcases List.mem_cons.1 hq with rfl|hq
  ·omega
  ·rw[List.mem_singleton.1 hq];omega)) rfl rfl rfl rfl
theorem abq {x:Int}{m:Nat}(h:x∈a0E m):CB x m:=by
 simp only[a0E,List.mem_map,List.mem_range]at h;obtain⟨k,hk,rfl⟩:=h;exact dB hk
theorem afE:Gd a6w:=aiQ.deep 11 fun n hn hO d hp=>by
 obtain⟨n,rfl⟩:∃k,n=k+10:=⟨n-10,by omega⟩;have h1:d.sizes.length<=aO:=hp _ (.head _);have h2:d.order.length<=2^20:=hp _ (.tail _ (.head _));have h3:d.ends.length<=aO:=hp _ (.tail _ (.tail _ (.head _)));have ho:d.order.length<=aO:=by unfold aO;omega
 have hO:∀m,n<=m->Ok m _:=fun m hm=>hO m (by omega);have hI:(jy d.sizes d.order != 0)=false->∀x∈a0E d.nodes.length,qC X0 Tryz.prog (ApN (n+6)) (.fn 198 [.agg (loD d).ps] []) [.int .i64 x] [] (tA.put (a2v (loD d) x)) []:=fun h x hx=>aiS hO (l:=loD d) ho (O5 h) (abq hx);have hR:0<=d.root->d.root<(d.nodes.length:Int)->CB d.root d.nodes.length:=fun a b=>⟨a,by omega⟩;have hL:decide ((d.nodes.length:Int)>6000)=false->(a0E d.nodes.length).length<=aO:=fun h=>by rw[a09];exact a2s h
 exact dS hX (hO (n+10) (by omega)) (by kernel_rfl) (.o h1 (.o h2 (.sh (fun _=>.rn (.bH [.agg [.nil .slc,.nil .slc,.nil .slc,.nil .slc,.nil .slc,.nil .slc,.int .i64 0],.int .i64 (jy d.sizes d.order)]) rfl) fun h=>.sh (fun _=>.rr) fun h4=>.fr [] (alB (n:=n+6) (hO (n+6) (by omega)) d.ends h3) (.ss .rr (.fr [] (alC (hO (n+10) (by omega)) d.nodes.length (a2s h4)) (.fr [] (aiT (l:=loD d) (n:=n+6) (a0E d.nodes.length) (hI h) (hL h4)) (.ss .rr (.o ho (.o hR (.ss .rr .rr))))))))))
open Go Tw Pv fZ
theorem a2M {n:Nat}{o:List Int}(h:EM n o=true){v:Int}(hv:CB v n):v∈o:=by
 unfold EM at h;rw[decide_eq_true_eq]at h;obtain⟨h0,h1⟩:=hv;by_cases hc:v∈o
 ·exact hc
 have:=List.Nodup.length_le_of_subset (l₁:=v::o) (l₂:=a0E n) (List.nodup_cons.2 ⟨hc,h.2.2⟩) (fun x hx=>by
  have:0<=x∧x<(n:Int):=by
   rcases List.mem_cons.1 hx with rfl|hx
   ·exact⟨h0,by omega⟩
   exact h.2.1 x hx
  unfold a0E;rw[List.mem_map];exact⟨x.toNat,by rw[List.mem_range];omega,by omega⟩)
 rw[a09]at this;simp at this;omega
theorem a0I {l:List Int}{k:Nat}(h:k<l.length):l.getD k 0=l[k]:=by simp[List.getD,List.getElem?_eq_getElem h]
theorem abr {l:List Int}{v:Int}(h:v∈l):G5 (pz (cIx l v) l.length)=false:=by
 cases e:G5 (pz (cIx l v) l.length)
 ·rfl
 obtain⟨j,hj,e2⟩:=List.mem_iff_getElem.1 h;have:=J8.1 e j hj;simp[cIx,List.getD,List.getElem?_eq_getElem hj,e2]at this
theorem ada {d:Dg}{r:Int}:a0G d r=cIx d.order (iG d r).var:=by
 funext k;exact BEq.comm
theorem a8t {d:Dg}{r:Int}(h0:0<=r)(h:(iG d r).var∈d.order):O4 d r=CZ d.order (iG d r).var:=by
 unfold O4 CZ;rw[if_neg (by rw[decide_eq_true_eq];omega),ada,abr h,if_neg (by decide),if_neg (by decide)]
theorem aiU {l:List Int}{v:Int}(h:v∈l):CZ l v<(l.length:Int):=by
 unfold CZ;rw[abr h,if_neg (by simp)];obtain⟨j,h1,_,_,h2⟩:=a5f (abr h);rw[h2];show (j:Int)<_;omega
theorem a5z {x a b:Int}:EK [x] a b=yU x a b:=by
 rw[abp,Bool.eq_iff_iff,Ja,decide_eq_true_eq]
theorem adb {v:V}(h:0<=v.f):Hz v=vOk v:=by
 rw[agl h];unfold Hz vIs;rw[a5z]
theorem agu {z:Int}(h:W64 z):IntKind.i64.wrap z=z:=by
 obtain⟨h0,h1⟩:=h;simp only[IntKind.wrap,IntKind.bits,IntKind.signed];rcases Int.lt_or_le z 0 with h|h
 ·have:z%(2^64:Int)=z+2^64:=by
   have:=Int.add_mul_emod_self_left z (2^64) 1;rw[Int.mul_one]at this;rw[<-this];exact Int.emod_eq_of_lt (by omega) (by omega)
  simp only[this];rw[if_pos (by simp;omega)];omega
 have:z%(2^64:Int)=z:=Int.emod_eq_of_lt h (by omega);simp only[this];rw[if_neg (by simp;omega)]
theorem a5m {x:Int}(h:W64 x)(h0:x<0):IntKind.i64.wrap (-1-x)=-1-x:=by
 have h1:=h.1;exact agu ⟨by omega,by omega⟩
theorem aeQ {d:Dg}{x:Int}(below:Int)(h:W64 x)(h0:x<0)(he:d.ends.length<=aO):yV d x below=decide (IntKind.i64.wrap (-1-x)<(d.ends.length:Int)):=by
 have he:d.ends.length<=2^60:=by unfold aO at he;omega
 unfold yV;rw[if_neg (by simp;omega),a5m h h0,Bool.eq_iff_iff,Ja,decide_eq_true_eq];by_cases h1:d.ends.length=0
 ·rw[h1,show IntKind.i64.wrap (((0:Nat):Int)-1)=-1 by decide];omega
 rw[CX (by omega) (by omega)];omega
theorem aiV {l:List Int}{v:Int}(h:v∈l):0<=CZ l v:=by
 unfold CZ;rw[abr h,if_neg (by simp)];omega
theorem agv {d:Dg}{x below aas:Int}(h0:0<=x)(hv:x<below->(iG d x).var∈d.order):Jb (loD d) x below aas=(yV d x below&&decide (aas<O4 d x)):=by
 unfold Jb yV;rw[if_neg (show ¬(decide (x<0)=true)by rw[decide_eq_true_eq];omega),if_pos (show decide (x>=0)=true by rw[decide_eq_true_eq];omega)];by_cases h1:x<below
 ·rw[if_pos (show decide (x<below)=true by rw[decide_eq_true_eq];exact h1),a8t h0 (hv h1),decide_eq_true h1,Bool.true_and]
 rw[if_neg (show ¬(decide (x<below)=true)by rw[decide_eq_true_eq];exact h1),decide_eq_false h1,Bool.false_and]
theorem agw {d:Dg}{x below aas:Int}(h:W64 x)(h0:x<0)(he:d.ends.length<=aO)(hr:aas<(d.order.length:Int)):Jb (loD d) x below aas=(yV d x below&&decide (aas<O4 d x)):=by
 rw[aeQ _ h h0 he];unfold Jb O4;rw[if_pos (by rw[decide_eq_true_eq];exact h0),if_pos (by rw[decide_eq_true_eq];exact h0),decide_eq_true hr,Bool.and_true]
theorem ade {d:Dg}{x below aas:Int}(h:W64 x)(he:d.ends.length<=aO)(hr:aas<(d.order.length:Int))(hv:0<=x->x<below->(iG d x).var∈d.order):Jb (loD d) x below aas=(yV d x below&&decide (aas<O4 d x)):=by
 by_cases h0:0<=x
 ·exact agv h0 (hv h0)
 exact agw h (by omega) he hr
theorem adf {d:Dg}(h:DgR d)(he:d.ends.length<=aO)(hv:∀r,CB r d.nodes.length->(iG d r).var∈d.order):Jb (loD d) d.root d.nodes.length (-1)=yV d d.root d.nodes.length:=by
 rw[ade h.root he (by omega) (fun a b=>hv _ ⟨a,by omega⟩)];cases e:yV d d.root d.nodes.length
 ·rfl
 rw[Bool.true_and,decide_eq_true_eq];by_cases h0:0<=d.root
 ·have:=a95 e h0 (Nat.le_refl _);rw[a8t h0 (hv _ this)];have:=aiV (hv _ this);omega
 unfold O4;rw[if_pos (by rw[decide_eq_true_eq];omega)];omega
theorem afF {d:Dg}(h:DgR d)(he:d.ends.length<=aO){i:Nat}(hi:i<d.nodes.length)(hf:nI d.sizes)(ho:EM d.sizes.length d.order=true)(hv:∀j,j<i->(CY d j).var∈d.order):a2v (loD d) i=!(cLn d i):=by
 have e0:Vl (loD d) i=CY d i:=rfl;unfold a2v cLn;rw[e0];show (if (!(EK [(CY d i).var] 0 (xw d.sizes)))=true then false else if (((CY d i).kids.length:Int) != d.sizes.getD (CY d i).var.toNat 0)=true then false else _)=_;rw[a5z];cases e1:yU (CY d i).var 0 (xw d.sizes)
 ·rfl
 have hvi:(CY d i).var∈d.order:=a2M ho (Vg hf e1);have alD:(iG d (i:Int)).var∈d.order:=hvi;simp only[Bool.not_true,Bool.false_eq_true,if_false];split
 ·rfl
 have DK:((CY d i).kids.all fun x=>Jb (loD d) x i (CZ (loD d).o (CY d i).var))=G5 (pz (cLk d i) (CY d i).kids.length):=by
  rw[Bool.eq_iff_iff,List.all_eq_true,J8];have hk:∀k,k<(CY d i).kids.length->(Jb (loD d) ((CY d i).kids.getD k 0) i (CZ d.order (CY d i).var)=true↔cLk d i k=false):=fun k hk=>by
   rw[ade (h.kid i hi k hk) he (aiU hvi) (fun a b=>hv _ (by omega)),Bool.and_eq_true,decide_eq_true_eq];unfold cLk;rw[show O4 d (i:Int)=CZ d.order (CY d i).var from a8t (by omega) alD];cases yV d ((CY d i).kids.getD k 0) i
   ·simp
   simp<;>omega
  constructor
  ·intro a k hkl;exact (hk k hkl).1 (a _ (KP hkl))
  intro a x hx;obtain⟨k,hkl,rfl⟩:=List.mem_iff_getElem.1 hx;have:=(hk k hkl).2 (a k hkl);rw[a0I hkl]at this;exact this
 rw[DK];cases G5 (pz (cLk d i) (CY d i).kids.length)<;>rfl
theorem agx {d:Dg}(h:DgR d)(he:d.ends.length<=aO)(hf:nI d.sizes)(ho:EM d.sizes.length d.order=true):(a0E d.nodes.length).all (a2v (loD d))=G5 (pz (cLn d) d.nodes.length):=by
 have aiW:∀i,cLn d i=false->(CY d i).var∈d.order:=fun i hc=>by
  unfold cLn at hc;split at hc
  ·cases hc
  rename_i e;exact a2M ho (Vg hf (by simpa using e))
 have key:∀i,i<=d.nodes.length->((∀j,j<i->a2v (loD d) j=true)↔∀j,j<i->cLn d j=false):=by
  intro i
  induction i with
  |zero=>intro _;exact⟨fun _ j hj=>absurd hj (by omega),fun _ j hj=>absurd hj (by omega)⟩
  |succ i ih=>
   intro hi;have ih:=ih (by omega);constructor
   ·intro a;have b:=ih.1 fun j hj=>a j (by omega);intro j hj;by_cases hji:j<i
    ·exact b j hji
    have:j=i:=(by omega);subst this;have:=a j (by omega);rw[afF h he (by omega) hf ho (fun k hk=>aiW k (b k hk))]at this;simpa using this
   intro b j hj;by_cases hji:j<i
   ·exact ih.2 (fun k hk=>b k (by omega)) j hji
   have:j=i:=(by omega);subst this;rw[afF h he (by omega) hf ho (fun k hk=>aiW k (b k (by omega))),b j (by omega)];rfl
 rw[Bool.eq_iff_iff,List.all_eq_true,J8,<-key _ (Nat.le_refl _)];constructor
 ·intro a j hj;exact a _ (by unfold a0E;rw[List.mem_map];exact⟨j,List.mem_range.2 hj,rfl⟩)
 intro a x hx;simp only[a0E,List.mem_map,List.mem_range]at hx;obtain⟨k,hk,rfl⟩:=hx;exact a k hk
theorem aeR {d:Dg}(h:∀v∈d.ends,0<=v.f):d.ends.all Hz=G5 (pz (cLe d) d.ends.length):=by
 rw[Bool.eq_iff_iff,List.all_eq_true,J8];have hg:∀k,(hk:k<d.ends.length)->d.ends.getD k V0=d.ends[k]:=fun k hk=>by simp[List.getD,List.getElem?_eq_getElem hk]
 constructor
 ·intro a k hk;unfold cLe;rw[hg k hk,<-adb (h _ (List.getElem_mem hk)),a _ (List.getElem_mem hk)];rfl
 intro a x hx;obtain⟨k,hk,rfl⟩:=List.mem_iff_getElem.1 hx;have:=a k hk;unfold cLe at this;rw[hg k hk,<-adb (h _ hx)]at this;simpa using this
theorem a8b {d:Dg}(h:DgR d)(he:d.ends.length<=aO):qx d=(if (jy d.sizes d.order != 0)=true then lo0 else loD d,iE d):=by
 unfold qx iE;split
 ·rfl
 rename_i h1;have MS:=O1.1 (show jy d.sizes d.order=0 by simpa using h1);split
 ·rfl
 unfold vM;rw[aeR h.fault,agx h he MS.1 MS.2];cases e1:G5 (pz (cLe d) d.ends.length)
 ·rfl
 cases e2:G5 (pz (cLn d) d.nodes.length)
 ·rfl
 have hv:∀r,CB r d.nodes.length->(iG d r).var∈d.order:=fun r hr=>by
  have:=J8.1 e2 r.toNat (by have:=hr.1;have:=hr.2;omega);unfold cLn at this;split at this
  ·cases this
  rename_i e;exact a2M MS.2 (Vg MS.1 (by simpa using e))
 rw[adf h he hv];simp only[Bool.not_true,Bool.false_eq_true,if_false,if_true];cases yV d d.root d.nodes.length<;>rfl
end Go.Proofs.YtjkgcifieggcpaaGreat
namespace Pv
open Go Tw
variable {X:iQ}{P:Program}{kt:TypeId}{α:Type}[DecidableEq α](C:G7 X P kt α)
theorem G7.found {l:List (α×PV X.Γ)}{x:α}{v:PV X.Γ}(hn:(l.map (·.1)).Nodup)(h:(x,v)∈l):a1D X P kt (C.es l) (C.tv x) v:=by
 obtain⟨j,hj,e⟩:=List.mem_iff_getElem.1 h;refine⟨C.v x,_,j,C.pv x,C.ht x,C.pk l,?_,?_⟩
 ·have hxj:(l.map (·.1))[j]? = some x:=by simp[List.getElem?_eq_getElem hj,e]
  have hu:∀(i:Nat) y,(l.map (·.1))[i]? = some y->decide (x=y)=(some i==some j):=fun i y hy=>by
   rw[Bool.eq_iff_iff];simp only[decide_eq_true_eq,beq_iff_eq,Option.some.injEq];constructor
   ·rintro rfl;have i1:=List.getElem?_eq_some_iff.1 hy;have i2:=List.getElem?_eq_some_iff.1 hxj;exact (List.getElem_inj hn (h₀:=i1.1) (h₁:=i2.1)).1 (i1.2.trans i2.2.symm)
   rintro rfl;rw[hxj]at hy;exact Option.some.inj hy
  refine C.find x _ (some j) ?_ hu;rw[List.findIdx?_eq_some_iff_getElem];refine⟨by simpa using hj,by simp[e],fun i hi=>?_⟩;have hil:i<(l.map (·.1)).length:=by simp;omega
  rw[hu i _ (List.getElem?_eq_getElem hil)];simp;omega
 simp[G7.es,List.getElem?_eq_getElem hj,e]
theorem G7.seat {l:List (α×PV X.Γ)}{x:α}{v:PV X.Γ}(hb:Instr.sameBits 10000 (C.v x) (C.v x)=true)(hn:(l.map (·.1)).Nodup)(h:(x,v)∈l):a4Y X P kt (C.es l) (C.tv x) (C.pv x) v:=by
 obtain⟨j,hj,e⟩:=List.mem_iff_getElem.1 h;refine⟨C.v x,_,j,C.tv x,C.v x,C.ht x,C.hc false x,C.pk l,?_,?_,?_,C.ht x,hb⟩
 ·have hxj:(l.map (·.1))[j]? = some x:=by simp[List.getElem?_eq_getElem hj,e]
  have hu:∀(i:Nat) y,(l.map (·.1))[i]? = some y->decide (x=y)=(some i==some j):=fun i y hy=>by
   rw[Bool.eq_iff_iff];simp only[decide_eq_true_eq,beq_iff_eq,Option.some.injEq];constructor
   ·rintro rfl;have i1:=List.getElem?_eq_some_iff.1 hy;have i2:=List.getElem?_eq_some_iff.1 hxj;exact (List.getElem_inj hn (h₀:=i1.1) (h₁:=i2.1)).1 (i1.2.trans i2.2.symm)
   rintro rfl;rw[hxj]at hy;exact Option.some.inj hy
  refine C.find x _ (some j) ?_ hu;rw[List.findIdx?_eq_some_iff_getElem];refine⟨by simpa using hj,by simp[e],fun i hi=>?_⟩;have hil:i<(l.map (·.1)).length:=by simp;omega
  rw[hu i _ (List.getElem?_eq_getElem hil)];simp;omega
 ·simp[G7.es,List.getElem?_eq_getElem hj,e]
 simp[List.getElem?_eq_getElem hj,e]
theorem abt {k:IntKind}(x:Int):∀(l:List Int) (i:Nat),Instr.findNow (.int k) (.int k x) (l.map fun y=>⟨.int k y,.bool false,0⟩) i=some ((l.findIdx? fun y=>decide (x=y)).map fun j=>(j+i,.bool false))
 |[],i=>rfl
 |y::l,i=>by
  simp only[List.map_cons,Instr.findNow,Instr.sameNow,if_true];rw[List.findIdx?_cons];by_cases h:x=y
  ·subst h;simp
  rw[show (x==y)=false by simpa using h,decide_eq_false h];simp only[Bool.false_eq_true,if_false];rw[abt x l (i+1)];cases l.findIdx? fun y=>decide (x=y)with
  |none=>rfl
  |some j=>simp;omega
theorem agy {k:IntKind}(hu:P.underlying kt=some (.int k))(x:Int)(l:List Int):au P (Instr.findKey kt (.int k x) (l.map fun y=>⟨.int k y,.bool false,0⟩))=some ((l.findIdx? fun y=>decide (x=y)).map fun i=>(i,.bool false)):=by
 unfold Instr.findKey;rw[aY,Vm hu,Option.bind_some,abt x l 0];cases l.findIdx? fun y=>decide (x=y)<;>rfl
theorem agz {k:IntKind}(hu:P.underlying kt=some (.int k)) :
  ∃kind,au P (underlying kt)=some kind∧((∀x y:Int,Instr.sameNow kind (.int k x) (.int k y)=some (decide (x=y)))∨∀x y:Int,Instr.sameNow kind (.int k x) (.int k y)=none∧au P (Op.equal kt (.int k x) (.int k y))=some (decide (x=y))):=
 ⟨_,Vm hu,.inl fun x y=>by simp only[Instr.sameNow,if_true];congr 1⟩
end Pv
namespace Go.Proofs.YtjkgcifieggcpaaGreat
open Go Tw Pv fZ
noncomputable def kV:G7 X0 Tryz.prog 79 V where
 pv x:=.agg x.ps
 tv x:=x.tv
 v x:=.agg #[.int .u8 x.f,.int .i64 x.n]
 hp _:=rfl
 ht _:=rfl
 hc em x:=by kernel_rfl
 hf x l:=Ye aaj (fun a b=>a5Y 9998 a b) x l
 hk:=Yf aaj fun a b=>a5Y 9998 a b
noncomputable def kI:G7 X0 Tryz.prog 3 Int where
 pv x:=.int .i64 x
 tv x:=.int .i64 x
 v x:=.int .i64 x
 hp _:=rfl
 ht _:=rfl
 hc em x:=by kernel_rfl
 hf x l:=agy aai x l
 hk:=agz aai
noncomputable abbrev a3k (E:List V):List (V×PV X0.Γ):=E.zipIdx.map fun e=>(e.1,.int .i64 (e.2:Nat))
abbrev mkC (a b:List Int)(e n:Nat)(r:Int):PB bM:=.cells [.bK 3 a false,.bK 3 b false,.own 0,.own 1,.own e,.own n,.int .i64 r,.map 2,.map 3]
abbrev lsV (l:List V):PB bM:=.list false false 79 l
abbrev lsB (l:List Br):PB bM:=.list false false 102 l
noncomputable abbrev MK (a b:List Int)(E:List V)(nd:List Br)(r:Int)(nm:List (PV bM×PV bM)):List (PB bM):=[.list false false 3 a,.list false false 3 b,.map (kV.es (a3k E)),.map nm,mkC a b 5 6 r,lsV E,lsB nd]
noncomputable abbrev MK' (a b:List Int)(E:List V)(nd:List Br)(r:Int)(nm:List (PV bM×PV bM)):List (PB bM):=[.list false false 3 a,.list false false 3 b,.map (kV.es (a3k E)),.map nm,mkC a b 7 8 r,.gone,.gone,lsV E,lsB nd]
theorem a8c (E:List V):(a3k E).map (·.1)=E:=by
 unfold a3k;rw[List.map_map];show E.zipIdx.map (·.1)=E;simp
theorem adg (E:List V)(v:V):a3k (E++[v])=a3k E++[(v,.int .i64 (E.length:Nat))]:=by
 unfold a3k;rw[List.zipIdx_append,List.map_append];simp
theorem adh {E:List V}{v:V}(h:v∈E):(v,(.int .i64 (E.idxOf v:Nat):PV X0.Γ))∈a3k E:=by
 unfold a3k;rw[List.mem_map];have hl:=List.idxOf_lt_length_iff.2 h;exact⟨(v,E.idxOf v),by rw[List.mem_zipIdx_iff_getElem?];simp[List.getElem?_eq_getElem hl],rfl⟩
theorem a8v {E:List V}{v:V}(h:E.Nodup):(Vp E v).Nodup:=by
 unfold Vp;split
 ·exact h
 rename_i hn;rw[List.nodup_append];exact⟨h,by simp,fun x hx y hy=>by rw[List.mem_singleton]at hy;subst hy;intro e;subst e;exact hn hx⟩
theorem alF {n:Nat}(hO:Ok n a6w){a b:List Int}{E:List V}{nd:List Br}{r:Int}{nm:List (PV bM×PV bM)}(v:V)(hE:E.Nodup)(hl:E.length+1<=aO):qC X0 Tryz.prog (ApN (n+1)) (.fn 203 [] []) [.ptr 4 0 9,.agg v.ps] (MK a b E nd r nm) (.int .i64 (IntKind.i64.wrap (-1-(E.idxOf v:Nat)))) (MK' a b (Vp E v) nd r nm):=by
 by_cases h:v∈E
 ·rw[show Vp E v=E from if_pos h];have hf:a1D X0 Tryz.prog 79 (kV.es (a3k E)) v.tv (.int .i64 (E.idxOf v:Nat)):=kV.found (by rw[a8c];exact hE) (adh h);exact qC.gs hX (a2n hX hO (first:=[]) (cap:=[]) (v:=.int .i64 (IntKind.i64.wrap (-1-(E.idxOf v:Nat)))) (H1:=MK a b E nd r nm) (by kernel_rfl) (.c (.int .i64 (E.idxOf v:Nat)) [] hf (.b (rfl:(!true)=false) .er))) [.mv 5,.mv 6] rfl
 rw[show Vp E v=E++[v]from if_neg h,List.idxOf_eq_length h];have hf:Eo X0 Tryz.prog 79 (kV.es (a3k E)) v.tv:=kV.fresh (by rw[a8c];exact h);have em:kV.es (a3k (E++[v]))=kV.es (a3k E)++[(.agg v.ps,.int .i64 (E.length:Nat))]:=by rw[adg];exact List.map_append ..
 show qC X0 Tryz.prog _ _ _ _ _ [_,_,.map (kV.es (a3k (E++[v]))),_,_,_,_,_,_];rw[em];exact qC.gs hX (a2n hX hO (first:=[]) (cap:=[]) (v:=.int .i64 (IntKind.i64.wrap (-1-(E.length:Nat)))) (H1:=[.list false false 3 a,.list false false 3 b,.map (kV.es (a3k E)++[(.agg v.ps,.int .i64 (E.length:Nat))]),.map nm,mkC a b 8 6 r,.gone,lsB nd,.list true true 79 [v],lsV (E++[v])]) (by kernel_rfl) (.a .calm (.o hf (.b (rfl:(!false)=true) (.a .calm (.o (kV.ck v) (.o hf (.o (show E.length+[v].length<=aO by simpa using hl) .er)))))))) [.mv 6,.gc [8,9]] rfl
end Go.Proofs.YtjkgcifieggcpaaGreat
namespace Tw
open Go
section
variable {P:Program}
theorem a3t {e:TypeId}(hg:au P (isAgg e)=some false){xs:Array Value}{i:Nat}{v:Value}(h:xs[i]? = some v):au P (part e xs i)=some v:=by
 unfold part;rw[aY,hg,Option.bind_some];simp only[Bool.false_eq_true,if_false,h];rfl
def acj (d:Nat)(e:TypeId)(c:Nat)(xs ys:Array Value):List Nat->Sem Bool
 |[]=>pure true
 |i::is=>do
  let a <-part e xs (i*c)
  let b <-part e ys (i*c)
  let r <-Op.equalIn d e a b
  if (!r)=true then pure false else acj d e c xs ys is
theorem a4n (d:Nat){t e:TypeId}{n c:Nat}(xs ys:Array Value)(hu:P.underlying t=some (.array n e))(hs:au P (sizeOf e)=some c) :
  au P (Op.equalIn (d+1) t (.agg xs) (.agg ys))=au P (acj d e c xs ys (List.range' 0 n)):=by
 have hu':au P (underlying t)=some (.array n e):=by
  simp only[underlying,aY];have:au P program=some P:=rfl;simp[this,hu,au];rfl
 simp only[Op.equalIn,aY,hu',Option.bind_some,hs];simp only[Std.Legacy.Range.forIn_eq_forIn_range',Std.Legacy.Range.size,Nat.sub_zero,Nat.add_one_sub_one,Nat.div_one];generalize List.range' 0 n=is;clear hu hu' hs
 induction is with
 |nil=>simp[acj,au,aY];rfl
 |cons j is ih=>
  simp only[List.forIn_cons,acj,aY]at ih ⊢;generalize au P (part e xs (j*c))=r1;cases r1 with
  |none=>simp
  |some a=>
   simp only[Option.bind_some];generalize au P (part e ys (j*c))=r2;cases r2 with
   |none=>simp
   |some b=>
    simp only[Option.bind_some];generalize au P (Op.equalIn d e a b)=r3;cases r3 with
    |none=>simp
    |some r=>
     cases r with
     |false=>simp only[Option.bind_some,Bool.not_false,if_true];rfl
     |true=>simp only[Option.bind_some,Bool.not_true,Bool.false_eq_true,if_false];exact ih
abbrev a3S (k:IntKind)(l:List Int):Array Value:=(l.map fun x=>Value.int k x).toArray
theorem a5C {k:IntKind}{l:List Int}{i:Nat}(h:i<l.length):(a3S k l)[i]? = some (.int k l[i]):=by
 simp[a3S,h]
theorem a4J {d:Nat}{e:TypeId}{k k':IntKind}(hu:P.underlying e=some (.int k'))(hg:au P (isAgg e)=some false)(l l':List Int)(hl:l.length=l'.length):∀(m i:Nat),i+m=l.length->au P (acj (d+1) e 1 (a3S k l) (a3S k l') (List.range' i m))=some (decide (l.drop i=l'.drop i))
 | 0,i,h=>by
  rw[List.drop_of_length_le (by omega),List.drop_of_length_le (by omega)];rfl
 |m+1,i,h=>by
  have h1:i<l.length:=by omega
  have h2:i<l'.length:=by omega
  rw[List.range'_succ];simp only[acj,Nat.mul_one];rw[aY,a3t hg (a5C h1),Option.bind_some,aY,a3t hg (a5C h2),Option.bind_some,aY,ng d e k k' _ _ hu,Option.bind_some];rw[List.drop_eq_getElem_cons h1,List.drop_eq_getElem_cons h2];by_cases hc:l[i]=l'[i]
  ·have:=a4J (d:=d) (k:=k) hu hg l l' hl m (i+1) (by omega);simp only[hc,beq_self_eq_true,Bool.not_true,Bool.false_eq_true,if_false,this,List.cons.injEq,true_and]
  have:(l[i]==l'[i])=false:=by simpa using hc
  simp only[this,Bool.not_false,if_true,List.cons.injEq,hc,false_and,decide_false];rfl
theorem a5a (d:Nat){t e:TypeId}{n:Nat}{k k':IntKind}(ht:P.underlying t=some (.array n e))(hs:au P (sizeOf e)=some 1)(hu:P.underlying e=some (.int k'))(hg:au P (isAgg e)=some false){l l':List Int}(hl:l.length=n)(hl':l'.length=n) :
  au P (Op.equalIn (d+2) t (.agg (a3S k l)) (.agg (a3S k l')))=some (decide (l=l')):=by
 rw[a4n (d+1) _ _ ht hs,a4J hu hg l l' (by omega) n 0 (by omega),List.drop_zero,List.drop_zero]
end
end Tw
namespace Go.Proofs.YtjkgcifieggcpaaGreat
open Go Tw Pv fZ
abbrev oI (k ex:Bool)(l:List Int):PB bM:=.list k ex 3 l
abbrev wOI (f:Nat)(a c:List (PV bM))(k ex:Bool)(R:List (PB bM))(l:List Int)(i:Int)(x:List (Nat×PE bM)):aV bM:=⟨[(0,.val (.own 0)),(1,.val (.fn f a c)),(7,xi l.length),(8,xi i)]++x,[],oI k ex l::R⟩
def zOI (f:Nat)(a c:List (PV bM))(k ex:Bool)(R:List (PB bM))(l:List Int):Unit⊕(Nat×Int×Unit)->Ex×aV bM
 |.inl _=>(.exit 0,wOI f a c k ex R l l.length [(9,xl false)])
 |.inr r=>(.ret,⟨[(4,xi r.1)],[],oI k ex l::R⟩)
theorem qoI {n f:Nat}{a c:List (PV bM)}{ko ex:Bool}{R:List (PB bM)}{g:Int->Bool}(l:List Int)(hf:∀x∈l,qC X0 Tryz.prog (ApN n) (.fn f a c) [.int .i64 x] (oI ko ex l::R) (.bool (g x)) (oI ko ex l::R))(hl:l.length<=aO):qC X0 Tryz.prog (ApN (n+1)) (.fn 183 [] []) [.own 0,.fn f a c] (oI ko ex l::R) (iA.put (a0w g l)) (oI ko ex l::R):=by
 have lp:LpB n 183 0 (R.length+1) (wOI f a c ko ex R l 0 []) (zOI f a c ko ex R l (a0C (a0d g) l 0 ())).1 (zOI f a c ko ex R l (a0C (a0d g) l 0 ())).2:=
  a7R (st:=fun i _=>wOI f a c ko ex R l i []) (0:Int) (fun _ _=>True) (by kernel_rfl) hl LLm trivial (fun k s n hk _ ih=>round hX ok0 (by kernel_rfl) (.b (a2m hk) (.o (dB hk) (.k (hf (l.getD k (0:Int)) (KP hk)) (.ls (.ou nofun) (.nx (ih _ trivial))))))) (fun s _=>round hX ok0 (by kernel_rfl) (.b (a5L l.length) (.ou nofun)))
 exact kN hX ok0 (first:=[]) (cap:=[]) (by kernel_rfl) (.szh (fun h=>.w (xC lp () h) .sr) (fun h=>.w (Fa lp (0,0,()) h) .sr))
theorem qoC {n f:Nat}{a c:List (PV bM)}{ko ex:Bool}{R:List (PB bM)}{g:Int->Bool}(l:List Int)(hf:∀x∈l,qC X0 Tryz.prog (ApN n) (.fn f a c) [.int .i64 x] (oI ko ex l::R) (.bool (g x)) (oI ko ex l::R))(hl:l.length<=aO):qC X0 Tryz.prog (ApN (n+2)) (.fn 138 [] []) [.own 0,.fn f a c] (oI ko ex l::R) (tA.put (l.any g)) (oI ko ex l::R):=by
 have h1:=qoI l hf hl;have h2:=a2w g l;rw[<-h2];exact kN hX ok0 (first:=[]) (cap:=[]) (by kernel_rfl) (.k h1 .sr)
abbrev Hk (k ex:Bool)(l:List Int):List (PB bM):=[oI k ex l,.cells [.own 0]]
theorem qoA {n f:Nat}{ko ex:Bool}{g:Int->Bool}(l:List Int)(hf:∀x∈l,qC X0 Tryz.prog (ApN n) (.fn f [] [.ptr 1 0 1]) [.int .i64 x] (Hk ko ex l) (tA.put (g x)) (Hk ko ex l))(hl:l.length<=aO):qC X0 Tryz.prog (ApN (n+4)) (.fn 197 [] []) [.own 0,.fn f [] [.ptr 1 0 1]] (Hk ko ex l) (tA.put (l.all g)) (Hk ko ex l):=by
 have h1:∀x∈l,qC X0 Tryz.prog (ApN (n+1)) (.fn 235 [] [.ptr 2 0 1]) [.int .i64 x] (Hk ko ex l++[.cells [.fn f [] [.ptr 1 0 1]]]) (tA.put (!(g x))) (Hk ko ex l++[.cells [.fn f [] [.ptr 1 0 1]]]):=fun x hx=>
  kN hX ok0 (first:=[]) (by kernel_rfl) (.fr [0,1] (hf x hx) .sr)
 have h2:=qoC (R:=[.cells [.own 0],.cells [.fn f [] [.ptr 1 0 1]]]) l h1 hl;rw[<-a3R l g];exact qC.drop hX (kN hX ok0 (first:=[]) (cap:=[]) (H1:=Hk ko ex l++[.cells [.fn f [] [.ptr 1 0 1]]]) (by kernel_rfl) (.k h2 .sr)) rfl rfl
theorem adi {n:Nat}{ko ex:Bool}(l:List Int)(hl:l.length<=aO):qC X0 Tryz.prog (ApN (n+5)) (.fn 197 [] []) [.own 0,.fn 238 [] [.ptr 1 0 1]] (Hk ko ex l) (tA.put (l.all fun x=>x==l.getD 0 0)) (Hk ko ex l):=
 qoA (n:=n+1) l (fun x hx=>kN hX ok0 (first:=[]) (by kernel_rfl) (.o (show CB 0 l.length from⟨by omega,by have:=List.length_pos_of_mem hx;omega⟩) .sr)) hl
theorem adk:∀l:List Int,l.length=12->∃a0 a1 a2 a3 a4 a5 a6 a7 a8 a9 a10 a11:Int,l=[a0,a1,a2,a3,a4,a5,a6,a7,a8,a9,a10,a11]
 |[a0,a1,a2,a3,a4,a5,a6,a7,a8,a9,a10,a11],_=>⟨a0,a1,a2,a3,a4,a5,a6,a7,a8,a9,a10,a11,rfl⟩
 |[],h=>by simp at h
 |[_],h=>by simp at h
 |[_,_],h=>by simp at h
 |[_,_,_],h=>by simp at h
 |[_,_,_,_],h=>by simp at h
 |[_,_,_,_,_],h=>by simp at h
 |[_,_,_,_,_,_],h=>by simp at h
 |[_,_,_,_,_,_,_],h=>by simp at h
 |[_,_,_,_,_,_,_,_],h=>by simp at h
 |[_,_,_,_,_,_,_,_,_],h=>by simp at h
 |[_,_,_,_,_,_,_,_,_,_],h=>by simp at h
 |[_,_,_,_,_,_,_,_,_,_,_],h=>by simp at h
 |_::_::_::_::_::_::_::_::_::_::_::_::_::_,h=>by simp at h
theorem a5E:∀l:List Int,jW (Γ:=bM) (l.map fun x=>PV.int .i64 x)=some (l.map fun x=>TV.int .i64 x)
 |[]=>rfl
 |a::l=>by simp only[List.map_cons,jW,mY,a5E l]
theorem a8d:∀l:List Int,TV.LD (l.map fun x=>TV.int .i64 x)=some (l.map fun x=>Value.int .i64 x)
 |[]=>rfl
 |a::l=>by simp only[List.map_cons,TV.LD,TV.toC,a8d l]
theorem agA : Tryz.prog.underlying 257 = some (.struct #[⟨"choice", 3, 0, false, "", "mist/node", 0⟩, ⟨"kids", 255, 1, false, "", "mist/node", 8⟩]) := by kernel_rfl
theorem afH (d:Nat)(a b:Ky):au Tryz.prog (Op.equalIn (d+3) 257 (.agg (a3S .i64 a.l)) (.agg (a3S .i64 b.l)))=some (decide (a=b)):=by
 obtain⟨a1,a2,ha⟩:=a;obtain⟨b1,b2,hb⟩:=b;rw[oC (d+2) 257 _ _ _ agA (by kernel_rfl)];have gI:au Tryz.prog (isAgg 3)=some false:=by kernel_rfl
 have gA:au Tryz.prog (isAgg 255)=some true:=by kernel_rfl
 have sA:au Tryz.prog (sizeOf 255)=some 12:=by kernel_rfl
 have sI:au Tryz.prog (sizeOf 3)=some 1:=by kernel_rfl
 have p0:∀x l,au Tryz.prog (part 3 (a3S .i64 (x::l)) 0)=some (.int .i64 x):=fun x l=>a3t gI (a5C (l:=x::l) (by simp));have p1:∀x l,l.length=12->au Tryz.prog (part 255 (a3S .i64 (x::l)) 1)=some (.agg (a3S .i64 l)):=fun x l h=>by
  obtain⟨a0,a1,a2,a3,a4,a5,a6,a7,a8,a9,a10,a11,rfl⟩:=adk l h
  kernel_rfl
 have q1 := iW (f := ⟨"choice", 3, 0, false, "", "mist/node", 0⟩) (fs := [⟨"kids", 255, 1, false, "", "mist/node", 8⟩]) (by decide) (p0 a1 a2) (p0 b1 b2) (ng (d + 1) _ .i64 _ a1 b1 aai);have q2 := iW (f := ⟨"kids", 255, 1, false, "", "mist/node", 8⟩) (fs := []) (by decide) (p1 a1 a2 ha) (p1 b1 b2 hb) (a5a d (k := .i64) (t := 255) (by kernel_rfl) sI aai gI ha hb);rw[q1,q2];rw[show au Tryz.prog (Op.eqFields (d+2) (a3S .i64 (a1::a2)) (a3S .i64 (b1::b2)) [])=some true from rfl];by_cases h1:a1=b1<;>by_cases h2:a2=b2<;>simp[h1,h2]
noncomputable def kK:G7 X0 Tryz.prog 257 Ky where
 pv x:=.agg (x.l.map fun i=>.int .i64 i)
 tv x:=.agg (x.l.map fun i=>.int .i64 i)
 v x:=.agg (a3S .i64 x.l)
 hp x:=congrArg (Option.map TV.agg) (a5E x.l)
 ht x:=congrArg (Option.map fun vs:List Value=>Value.agg vs.toArray) (a8d x.l)
 hc em x:=by
  obtain⟨c,l,h⟩:=x;obtain⟨a0,a1,a2,a3,a4,a5,a6,a7,a8,a9,a10,a11,rfl⟩:=adk l h
  kernel_rfl
 hf x l:=Ye agA (fun a b=>afH 9997 a b) x l
 hk:=Yf agA (fun a b=>afH 9997 a b)
open Go Tw Pv fZ
noncomputable abbrev a2h (nd:List Br):List (Ky×PV X0.Γ):=nd.zipIdx.map fun e=>(kyB e.1,.int .i64 (e.2:Nat))
theorem a8e (nd:List Br):(a2h nd).map (·.1)=nd.map kyB:=by
 unfold a2h;rw[List.map_map];show nd.zipIdx.map (kyB∘fun e=>e.1)=_;rw[<-List.map_map];simp
theorem adl (nd:List Br)(b:Br):a2h (nd++[b])=a2h nd++[(kyB b,.int .i64 (nd.length:Nat))]:=by
 unfold a2h;rw[List.zipIdx_append,List.map_append];simp
theorem adn {nd:List Br}{k:Ky}(h:k∈nd.map kyB):(k,(.int .i64 ((nd.map kyB).idxOf k:Nat):PV X0.Γ))∈a2h nd:=by
 have hl:=List.idxOf_lt_length_iff.2 h;have Sj:(nd.map kyB).idxOf k<nd.length:=by simpa using hl
 unfold a2h;rw[List.mem_map];refine⟨(nd[(nd.map kyB).idxOf k],(nd.map kyB).idxOf k),by rw[List.mem_zipIdx_iff_getElem?];simp[List.getElem?_eq_getElem Sj],?_⟩;have:=List.getElem_idxOf hl;rw[List.getElem_map]at this;show (kyB _,_)=_;rw[this]
noncomputable abbrev MN (a b:List Int)(E:List V)(nd:List Br)(r:Int):List (PB bM):=MK a b E nd r (kK.es (a2h nd))
noncomputable abbrev MNg (a b:List Int)(E:List V)(nd:List Br)(r:Int)(nm:List (PV bM×PV bM)):List (PB bM):=[.list false false 3 a,.list false false 3 b,.map (kV.es (a3k E)),.map nm,mkC a b 8 9 r,.gone,.gone,.gone,lsV E,lsB nd]
noncomputable abbrev MN' (a b:List Int)(E:List V)(nd:List Br)(r:Int):List (PB bM):=MNg a b E nd r (kK.es (a2h nd))
theorem agB {n:Nat}(hO:Ok (n+5) a6w){a b:List Int}{E:List V}{nd:List Br}{r:Int}(c:Int)(ks:List Int)(hk:1<=ks.length∧ks.length<=12)(hf:(ks.all fun x=>x==ks.getD 0 0)=true):qC X0 Tryz.prog (ApN (n+6)) (.fn 205 [] []) [.ptr 4 0 9,.int .i64 c,.own 7] (MN a b E nd r++[oI true true ks]) (.int .i64 (ks.getD 0 0)) (MN' a b E nd r):=by
 have h1:=a2n hX hO (first:=[]) (cap:=[]) (xs:=[.ptr 4 0 9,.int .i64 c,.own 7]) (H:=MN a b E nd r++[oI true true ks]) (v:=.int .i64 (ks.getD 0 0)) (H1:=MN a b E nd r++[oI true true ks,.cells [.own 7]]) (f:=205) (by kernel_rfl) (.fr [7,8] (adi (n:=n) (ko:=true) (ex:=true) ks (m12 hk.2)) (.b hf (.o (show CB 0 ks.length from⟨by omega,by omega⟩) .er)));exact qC.forget (qC.gs hX h1 [.mv 5,.mv 6,.gc [9,10]] rfl) 7
abbrev ado (c:Int)(ks:List Int):PB bM:=.cells ((Ky.l (a2y c ks)).map fun i=>.int .i64 i)
theorem agC {n:Nat}(hO:Ok (n+5) a6w){a b:List Int}{E:List V}{nd:List Br}{r:Int}(c:Int)(ks:List Int)(hk:1<=ks.length∧ks.length<=12)(hf:(ks.all fun x=>x==ks.getD 0 0)=false)(hN:(nd.map kyB).Nodup)(hm:a2y c ks∈nd.map kyB):qC X0 Tryz.prog (ApN (n+6)) (.fn 205 [] []) [.ptr 4 0 9,.int .i64 c,.own 7] (MN a b E nd r++[oI true true ks]) (.int .i64 ((nd.map kyB).idxOf (a2y c ks):Nat)) (MN' a b E nd r):=by
 have hF:a1D X0 Tryz.prog 257 (kK.es (a2h nd)) (kK.tv (a2y c ks)) (.int .i64 ((nd.map kyB).idxOf (a2y c ks):Nat)):=kK.found (by rw[a8e];exact hN) (adn hm);have h1:qC X0 Tryz.prog (ApN (n+6)) (.fn 205 [] []) [.ptr 4 0 9,.int .i64 c,.own 7] (MN a b E nd r++[oI true true ks]) (.int .i64 ((nd.map kyB).idxOf (a2y c ks):Nat)) (MN a b E nd r++[oI true true ks,.cells [.own 7],ado c ks]):=by
  generalize (nd.map kyB).idxOf (a2y c ks)=j at hF ⊢;generalize a2h nd=nm at hF ⊢;obtain⟨k1,k2⟩:=hk;rcases ks with _|⟨x0,_|⟨x1,_|⟨x2,_|⟨x3,_|⟨x4,_|⟨x5,_|⟨x6,_|⟨x7,_|⟨x8,_|⟨x9,_|⟨x10,_|⟨x11,_|⟨x12,_⟩⟩⟩⟩⟩⟩⟩⟩⟩⟩⟩⟩⟩<;>first|(exfalso;simp at k1;done)|(exfalso;simp at k2;omega)|(exact a2n hX hO (first:=[]) (cap:=[]) (by kernel_rfl) (.fr [7,8] (adi (n:=n) (ko:=true) (ex:=true) _ (m12 k2)) (.b hf (.c (.int .i64 (j:Nat)) [] hF (.b (rfl:(!true)=false) .er)))))
 exact qC.forget (qC.gs hX (qC.forget h1 9) [.mv 5,.mv 6,.gc [10,11]] rfl) 7
theorem agD {n:Nat}(hO:Ok (n+5) a6w){a b:List Int}{E:List V}{nd:List Br}{r:Int}(c:Int)(ks:List Int)(hk:1<=ks.length∧ks.length<=12)(hf:(ks.all fun x=>x==ks.getD 0 0)=false)(hm:a2y c ks∉nd.map kyB)(hl:nd.length+1<=aO):qC X0 Tryz.prog (ApN (n+6)) (.fn 205 [] []) [.ptr 4 0 9,.int .i64 c,.own 7] (MN a b E nd r++[oI true true ks]) (.int .i64 (nd.length:Nat)) (MN' a b E (nd++[⟨c,ks⟩]) r):=by
 have hF:Eo X0 Tryz.prog 257 (kK.es (a2h nd)) (kK.tv (a2y c ks)):=kK.fresh (by rw[a8e];exact hm);have hC:=kK.ck (a2y c ks);have hL:nd.length+([⟨c,ks⟩]:List Br).length<=aO:=by simpa using hl
 have em:kK.es (a2h (nd++[⟨c,ks⟩]))=kK.es (a2h nd)++[(kK.pv (a2y c ks),.int .i64 (nd.length:Nat))]:=by rw[adl];exact List.map_append ..
 show qC X0 Tryz.prog _ _ _ _ _ (MNg a b E (nd++[⟨c,ks⟩]) r (kK.es (a2h (nd++[⟨c,ks⟩]))));rw[em];have h1:qC X0 Tryz.prog (ApN (n+6)) (.fn 205 [] []) [.ptr 4 0 9,.int .i64 c,.own 7] (MN a b E nd r++[oI true true ks]) (.int .i64 (nd.length:Nat)) [.list false false 3 a,.list false false 3 b,.map (kV.es (a3k E)),.map (kK.es (a2h nd)++[(kK.pv (a2y c ks),.int .i64 (nd.length:Nat))]),mkC a b 5 11 r,lsV E,.gone,.gone,.cells [.own 7],ado c ks,.list true true 102 [⟨c,ks⟩],lsB (nd++[⟨c,ks⟩])]:=by
  generalize a2h nd=nm at hF ⊢;obtain⟨k1,k2⟩:=hk;rcases ks with _|⟨x0,_|⟨x1,_|⟨x2,_|⟨x3,_|⟨x4,_|⟨x5,_|⟨x6,_|⟨x7,_|⟨x8,_|⟨x9,_|⟨x10,_|⟨x11,_|⟨x12,_⟩⟩⟩⟩⟩⟩⟩⟩⟩⟩⟩⟩⟩<;>first|(exfalso;simp at k1;done)|(exfalso;simp at k2;omega)|(exact a2n hX hO (first:=[]) (cap:=[]) (by kernel_rfl) (.fr [7,8] (adi (n:=n) (ko:=true) (ex:=true) _ (m12 k2)) (.b hf (.q (.bool false) hF (.b (rfl:(!false)=true) (.q (.bool false) hC (.o hF (.o hL .er))))))))
 exact qC.gs hX (qC.forget (qC.forget h1 9) 10) [.mv 5,.gc [12,11]] rfl
theorem aj0 {n:Nat}(hO:Ok (n+5) a6w){a b:List Int}{E:List V}{nd:List Br}{r:Int}(c:Int)(ks:List Int)(hk:1<=ks.length∧ks.length<=12)(hN:(nd.map kyB).Nodup)(hl:nd.length+1<=aO):qC X0 Tryz.prog (ApN (n+6)) (.fn 205 [] []) [.ptr 4 0 9,.int .i64 c,.own 7] (MN a b E nd r++[oI true true ks]) (.int .i64 (Q8 nd c ks)) (MN' a b E (Yg nd c ks) r):=by
 unfold Q8 Yg;cases hf:ks.all fun x=>x==ks.getD 0 0
 ·rw[if_neg (by simp),if_neg (by simp)];by_cases hm:a2y c ks∈nd.map kyB
  ·rw[if_pos hm];exact agC hO c ks hk hf hN hm
  rw[if_neg hm,List.idxOf_eq_length hm,List.length_map];exact agD hO c ks hk hf hm hl
 rw[if_pos rfl,if_pos rfl];exact agB hO c ks hk hf
theorem a7M {nd:List Br}{c:Int}{ks:List Int}(h:(nd.map kyB).Nodup):((Yg nd c ks).map kyB).Nodup:=by
 unfold Yg;split
 ·exact h
 split
 ·exact h
 rename_i hn;rw[List.map_append,List.nodup_append];exact⟨h,by simp,fun x hx y hy=>by simp at hy;subst hy;intro e;subst e;exact hn hx⟩
open Go Tw Pv fZ
theorem alH {n:Nat}(hO:Ok n a6w)(a b:List Int)(ha:a.length<=aO)(hb:b.length<=aO):qC X0 Tryz.prog (ApN (n+1)) (.fn 201 [] []) [.agg [.bK 3 a false,.bK 3 b false]] [] (.ptr 4 0 9) (MN a b [] [] 0):=
 qC.gs hX (a2n hX hO (first:=[]) (cap:=[]) (v:=.ptr 4 0 9) (H1:=[.list false false 3 a,.list false false 3 b,.map [],.map [],.cells [.bK 3 a false,.bK 3 b false,.own 0,.own 1,.nil .slc,.nil .slc,.int .i64 0,.map 2,.map 3]]) (by kernel_rfl) (.o ha (.o hb .er))) [.a4X 4 4 79,.a4X 4 5 102] rfl
noncomputable abbrev a5c (k:List (Int×Int)):List (Int×PV X0.Γ):=k.map fun p=>(p.1,.int .i64 p.2)
abbrev pC:List (PV bM):=[.ptr 8 0 1,.ptr 7 0 7,.ptr 10 0 1,.ptr 11 0 1]
noncomputable abbrev afI (l:Lo)(k:List (Int×Int)):List (PB bM):=[.fF l.ps,.fF [.ptr 4 0 9],.map (kI.es (a5c k)),.fF [.map 9],.fF [.fn 202 [] pC]]
noncomputable abbrev HC (l:Lo)(x:Cs):List (PB bM):=MN l.s l.o x.e x.n 0++afI l x.k
noncomputable abbrev HC' (l:Lo)(x:Cs):List (PB bM):=[.list false false 3 l.s,.list false false 3 l.o,.map (kV.es (a3k x.e)),.map (kK.es (a2h x.n)),mkC l.s l.o 12 13 0,.gone,.gone]++afI l x.k++[lsV x.e,lsB x.n]
theorem a6x.aj1 {d:Dg}{x:Cs}(h:a6x d x):x.e.length<=d.ends.length:=List.Nodup.length_le_of_subset h.e1 h.e2
theorem a9h (nd:List Br)(c:Int)(ks:List Int):(Yg nd c ks).length<=nd.length+1:=by
 unfold Yg;split
 ·omega
 split
 ·omega
 simp
theorem abu {k:List (Int×Int)}{r:Int}(h:r∈k.map (·.1)):(r,knV k r)∈k:=by
 rw[List.mem_map]at h;obtain⟨p,hp,rfl⟩:=h;unfold knV;cases e:k.find? fun q=>q.1==p.1 with
 |none=>have:=List.find?_eq_none.1 e p hp;simp at this
 |some q=>
  have h1:=List.mem_of_find?_eq_some e;have h2:=List.find?_some e;simp at h2;rw[<-h2];exact h1
theorem adp {d:Dg}{r:Int}(h:CB (IntKind.i64.wrap (-1-r)) d.ends.length):a2z d r∈d.ends:=by
 have h1:(IntKind.i64.wrap (-1-r)).toNat<d.ends.length:=by have:=h.1;have:=h.2;omega
 unfold a2z;simp[List.getD,List.getElem?_eq_getElem h1]
theorem a3U {d:Dg}(P:Cs->Prop){F:Nat}{r:Int}{x:Cs}(h:P x)(hs:∀j y,j<(iG d r).kids.length->P y->P (Vr d F ((iG d r).kids.getD j 0) y).2) :
  (uo (fun j (y:List Int×Cs)=>(y.1.set j (Vr d F ((iG d r).kids.getD j 0) y.2).1,(Vr d F ((iG d r).kids.getD j 0) y.2).2)) (iG d r).kids.length 0 (List.replicate (iG d r).kids.length 0,x)).1.length=(iG d r).kids.length∧P (uo (fun j (y:List Int×Cs)=>(y.1.set j (Vr d F ((iG d r).kids.getD j 0) y.2).1,(Vr d F ((iG d r).kids.getD j 0) y.2).2)) (iG d r).kids.length 0 (List.replicate (iG d r).kids.length 0,x)).2:=
 Ru (g:=fun j (y:List Int×Cs)=>(y.1.set j (Vr d F ((iG d r).kids.getD j 0) y.2).1,(Vr d F ((iG d r).kids.getD j 0) y.2).2)) (m:=(iG d r).kids.length) (k:=0) (s:=(List.replicate (iG d r).kids.length 0,x)) (fun _ y=>y.1.length=(iG d r).kids.length∧P y.2) ⟨by simp,h⟩ (fun j y _ hj hy=>⟨by simp[hy.1],hs j y.2 (by omega) hy.2⟩)
theorem adq {d:Dg}:∀(F:Nat) (r s:Int) (x:Cs),r<s->s∉x.k.map (·.1)->0<=s->(∀i,i<d.nodes.length->∀k,k<(CY d i).kids.length->(CY d i).kids.getD k 0<i)->(0<=r->CB r d.nodes.length)->s∉(Vr d F r x).2.k.map (·.1)
 | 0,_,_,_,_,h,_,_,_=>h
 |F+1,r,s,x,hr,h,h0,hk,hn=>by
  unfold Vr;by_cases c:r<0
  ·rw[if_pos (by simpa using c)];exact h
  rw[if_neg (by simpa using c)];split
  ·exact h
  have hi:=hn (by omega);have SQ:∀k,k<(iG d r).kids.length->(iG d r).kids.getD k 0<r:=fun k BX=>by
   obtain⟨i1,i2⟩:=hi;have h9:(iG d r).kids.getD k 0<(r.toNat:Int):=hk r.toNat (by omega) k BX;omega
  have:=(a3U (d:=d) (fun y=>s∉y.k.map (·.1)) (F:=F) (r:=r) h (fun j y hj hy=>adq F _ s y (by have:=SQ j hj;omega) hy h0 hk fun h5=>⟨h5,by have:=hi.2;have:=SQ j hj;omega⟩)).2;simp only[List.map_append,List.mem_append,not_or];exact⟨this,by simp;omega⟩
theorem abv {d:Dg}(h:SC d):∀(F:Nat) (r:Int) (x:Cs),a6x d x->ES d r d.nodes.length->a6x d (Vr d F r x).2
 | 0,_,_,hx,_=>hx
 |F+1,r,x,hx,hr=>by
  unfold Vr;by_cases c:r<0
  ·rw[if_pos (by simpa using c)];refine⟨a8v hx.e1,fun v hv=>?_,hx.n1,hx.n2,hx.k1,hx.k2⟩;have hv:v∈Vp x.e (a2z d r):=hv;unfold Vp at hv;split at hv
   ·exact hx.e2 v hv
   rcases List.mem_append.1 hv with hv|hv
   ·exact hx.e2 v hv
   rw[List.mem_singleton.1 hv];exact adp (hr.2 c)
  rw[if_neg (by simpa using c)];split
  ·exact hx
  rename_i c2;have aN:r.toNat<d.nodes.length:=by have:=hr.1;omega
  have a7N:∀k,k<(iG d r).kids.length->(iG d r).kids.getD k 0<r:=fun k BX=>by
   have h9:=(h.kid r.toNat aN k BX).1;have h9:(iG d r).kids.getD k 0<(r.toNat:Int):=h9;omega
  have hb:=(a3U (d:=d) (fun y=>a6x d y∧r∉y.k.map (·.1)) (F:=F) (r:=r) ⟨hx,by simpa using c2⟩ (fun j y hj hy=>by
   have hrk:ES d ((iG d r).kids.getD j 0) d.nodes.length:=⟨by have:=a7N j hj;have:=hr.1;omega,(h.kid r.toNat aN j hj).2⟩;refine⟨abv h F _ y hy.1 hrk,adq F _ r y (a7N j hj) hy.2 (by omega) (fun i hi k hk=>(h.kid i hi k hk).1) (fun h5=>⟨h5,by have:=hrk.1;omega⟩)⟩)).2
  obtain⟨hb,vX⟩:=hb;refine⟨hb.e1,hb.e2,a7M hb.n1,?_,?_,?_⟩
  ·have:=a9h (uo (fun j (y:List Int×Cs)=>(y.1.set j (Vr d F ((iG d r).kids.getD j 0) y.2).1,(Vr d F ((iG d r).kids.getD j 0) y.2).2)) (iG d r).kids.length 0 (List.replicate (iG d r).kids.length 0,x)).2.n (iG d r).var (uo (fun j (y:List Int×Cs)=>(y.1.set j (Vr d F ((iG d r).kids.getD j 0) y.2).1,(Vr d F ((iG d r).kids.getD j 0) y.2).2)) (iG d r).kids.length 0 (List.replicate (iG d r).kids.length 0,x)).1;have:=hb.n2;simp only[List.length_append,List.length_singleton];omega
  ·simp only[List.map_append,List.map_cons,List.map_nil];exact a1j hb.k1 vX
  intro a ha;simp only[List.map_append,List.mem_append,List.map_cons,List.map_nil,List.mem_singleton]at ha;rcases ha with ha|rfl
  ·exact hb.k2 a ha
  exact⟨by omega,by omega⟩
open Go Tw Pv fZ
noncomputable abbrev hCl (l:Lo)(x:Cs)(ks:List Int):List (PB bM):=HC' l x++[oI true true ks]
noncomputable abbrev wCl (l:Lo)(r:Int)(i:Int)(y:List Int×Cs)(x:List (Nat×PE bM)):aV bM:=⟨[(0,xi r),(1,.val (.ptr 8 0 1)),(3,.val (.ptr 10 0 1)),(4,.val (.ptr 11 0 1)),(9,.loc 0 0),(10,xo 14),(43,xL 3 (iG l.d r).kids),(44,xi (iG l.d r).kids.length),(45,xi i)]++x,[(iG l.d r).ps],hCl l y.2 y.1⟩
theorem lCl {M:Nat}(hO:Ok M a6w){d:Dg}{F:Nat}{r:Int}(hk:(iG d r).kids.length<=12)(Q:Cs->Prop){x:Cs}(hx:Q x)(hq:∀j y,j<(iG d r).kids.length->Q y->Q (Vr d F ((iG d r).kids.getD j 0) y).2)(hs:∀j y,j<(iG d r).kids.length->Q y->qC X0 Tryz.prog (ApN M) (.fn 202 [] pC) [.int .i64 ((iG d r).kids.getD j 0)] (HC (loD d) y) (.int .i64 (Vr d F ((iG d r).kids.getD j 0) y).1) (HC' (loD d) (Vr d F ((iG d r).kids.getD j 0) y).2)) :
  LpB M 202 0 12 (wCl (loD d) r 0 (List.replicate (iG d r).kids.length 0,x) []) (.exit 0) (wCl (loD d) r (iG d r).kids.length (uo (fun j (y:List Int×Cs)=>(y.1.set j (Vr d F ((iG d r).kids.getD j 0) y.2).1,(Vr d F ((iG d r).kids.getD j 0) y.2).2)) (iG d r).kids.length 0 (List.replicate (iG d r).kids.length 0,x)) [(46,xl false)]):=by
 refine a0j (σ:=List Int×Cs) (N:=(iG d r).kids.length) (g:=fun j (y:List Int×Cs)=>(y.1.set j (Vr d F ((iG d r).kids.getD j 0) y.2).1,(Vr d F ((iG d r).kids.getD j 0) y.2).2)) (s0:=(List.replicate (iG d r).kids.length 0,x)) (st:=fun k y=>wCl (loD d) r k y []) (fin:=fun y=>wCl (loD d) r (iG d r).kids.length y [(46,xl false)]) (fun _ y=>y.1.length=(iG d r).kids.length∧Q y.2) (by kernel_rfl) (m12 hk) ⟨by simp,hx⟩ (fun j y hj hy=>⟨by simp[hy.1],hq j y.2 hj hy.2⟩) (fun j y hj hy m e p g=>?_) (fun y _=>round hX hO (by kernel_rfl) (.b (a5L (iG d r).kids.length) .ex));have h1:=hs j y.2 hj hy.2;have h2:CB j y.1.length:=dB (by rw[hy.1];exact hj);generalize Vr d F ((iG d r).kids.getD j 0) y.2=z at h1 g;obtain⟨v,z⟩:=z;exact round hX hO (by kernel_rfl) (.b (a2m hj) (.o (dB hj) (.fr [0,1,2,3,4,12,13,7,8,9,10,11] h1 (.o h2 (.goG [.gc [15,16,14]] g)))))
theorem a3A (k:List (Int×Int)):(a5c k).map (·.1)=k.map (·.1):=by
 unfold a5c;rw[List.map_map];rfl
theorem alI {n:Nat}(hO:Ok n a6w)(k:Int):qC X0 Tryz.prog (ApN n) (.fn 204 [] []) [.int .i64 k] [] (iA.put (IntKind.i64.wrap (-1-k))) []:=
 Con.agp hX (hO 204 [.int .i64 k] (iA.put (IntKind.i64.wrap (-1-k))) [] [] (by kernel_rfl) (fun q hq=>by cases hq)) rfl rfl rfl rfl
theorem sCl {N:Nat}(hO:∀m,N<=m->Ok m a6w){d:Dg}(h:SC d)(he:d.ends.length+1<=aO)(hn:d.nodes.length+1<=aO)(h1k:∀i,i<d.nodes.length->1<=(CY d i).kids.length):∀(F:Nat) (r:Int) (x:Cs),r+1<F->a6x d x->ES d r d.nodes.length->1<=F->qC X0 Tryz.prog (ApN (N+F+6)) (.fn 202 [] pC) [.int .i64 r] (HC (loD d) x) (.int .i64 (Vr d F r x).1) (HC' (loD d) (Vr d F r x).2)
 | 0,r,x,_,_,_,h1=>by omega
 |F+1,r,x,hF,hx,hr,_=>by
  rw[show N+(F+1)+6=N+F+6+1 by omega];have hO1:=hO (N+F+6) (by omega);have hO2:=hO (N+F+5) (by omega);unfold Vr;by_cases c:r<0
  ·have t0:decide (r<0)=true:=(by simpa using c);rw[if_pos t0];have hi:CB (IntKind.i64.wrap (-1-r)) d.ends.length:=hr.2 c;have hs:=alF hO2 (a:=d.sizes) (b:=d.order) (E:=x.e) (nd:=x.n) (r:=0) (nm:=kK.es (a2h x.n)) (a2z d r) hx.e1 (by have:=hx.aj1;omega);exact a2n hX hO1 (first:=[]) (by kernel_rfl) (.b t0 (.fr [] (alI hO1 r) (.o hi (.fr [0,1,2,3,4,5,6] hs .er))))
  have t0:decide (r<0)=false:=by simpa using c
  rw[if_neg (by rw[t0];simp)];have aN:r.toNat<d.nodes.length:=by have:=hr.1;omega
  by_cases c2:r∈x.k.map (·.1)
  ·rw[if_pos (by simpa using c2)];have hf:a1D X0 Tryz.prog 3 (kI.es (a5c x.k)) (kI.tv r) (.int .i64 (knV x.k r)):=kI.found (by rw[a3A];exact hx.k1) (List.mem_map.2 ⟨(r,knV x.k r),abu c2,rfl⟩);generalize knV x.k r=v at hf ⊢;exact qC.gs hX (a2n hX hO1 (first:=[]) (H1:=HC (loD d) x) (v:=.int .i64 v) (by kernel_rfl) (.b t0 (.c (.int .i64 v) [] hf (.b (rfl:true=true) .er)))) [.mv 5,.mv 6] rfl
  rw[if_neg (by simpa using c2)];have a7N:∀k,k<(iG d r).kids.length->(iG d r).kids.getD k 0<r:=fun k BX=>by
   have h9:=(h.kid r.toNat aN k BX).1;have h9:(iG d r).kids.getD k 0<(r.toNat:Int):=h9;omega
  have hrk:∀j,j<(iG d r).kids.length->ES d ((iG d r).kids.getD j 0) d.nodes.length:=fun j hj=>⟨by have:=a7N j hj;have:=hr.1;omega,(h.kid r.toNat aN j hj).2⟩;have hkl:(iG d r).kids.length<=12:=h.aap r.toNat aN;have hq:∀j y,j<(iG d r).kids.length->(a6x d y∧r∉y.k.map (·.1))->a6x d (Vr d F ((iG d r).kids.getD j 0) y).2∧r∉(Vr d F ((iG d r).kids.getD j 0) y).2.k.map (·.1):=fun j y hj hy=>
   ⟨abv h F _ y hy.1 (hrk j hj),adq F _ r y (a7N j hj) hy.2 (by omega) (fun i hi k hk=>(h.kid i hi k hk).1) (fun h5=>⟨h5,by have:=(hrk j hj).1;omega⟩)⟩
  have hl:=lCl hO1 (d:=d) (F:=F) (r:=r) hkl (fun y=>a6x d y∧r∉y.k.map (·.1)) (x:=x) ⟨hx,c2⟩ hq (fun j y hj hy=>sCl hO h he hn h1k F _ y (by have:=a7N j hj;omega) hy.1 (hrk j hj) (by omega));obtain⟨g1,g2,g3⟩:=a3U (d:=d) (fun y=>a6x d y∧r∉y.k.map (·.1)) (F:=F) (r:=r) (x:=x) ⟨hx,c2⟩ hq;generalize uo (fun j (y:List Int×Cs)=>(y.1.set j (Vr d F ((iG d r).kids.getD j 0) y.2).1,(Vr d F ((iG d r).kids.getD j 0) y.2).2)) (iG d r).kids.length 0 (List.replicate (iG d r).kids.length 0,x)=y at hl g1 g2 g3;obtain⟨ks,e,nd,kn⟩:=y;have g1:ks.length=(iG d r).kids.length:=g1;have DJ:1<=ks.length∧ks.length<=12:=by rw[g1];exact⟨h1k r.toNat aN,hkl⟩
  have hN:nd.length+1<=aO:=by have:=g2.aap;have:=g2.n2;simp at *;omega
  have hs:=aj0 (n:=N+F) hO2 (a:=d.sizes) (b:=d.order) (E:=e) (nd:=nd) (r:=0) (iG d r).var ks DJ g2.n1 hN;have f0:Eo X0 Tryz.prog 3 (kI.es (a5c x.k)) (kI.tv r):=kI.fresh (by rw[a3A];exact c2);have f1:Eo X0 Tryz.prog 3 (kI.es (a5c kn)) (kI.tv r):=kI.fresh (by rw[a3A];exact g3);have f2:=kI.ck r;show qC X0 Tryz.prog _ _ _ _ (.int .i64 (Q8 nd (iG d r).var ks)) (HC' (loD d) ⟨e,Yg nd (iG d r).var ks,kn++[(r,Q8 nd (iG d r).var ks)]⟩);generalize Q8 nd (iG d r).var ks=v at hs ⊢;generalize Yg nd (iG d r).var ks=nd' at hs ⊢;have em:kI.es (a5c (kn++[(r,v)]))=kI.es (a5c kn)++[(kI.pv r,.int .i64 v)]:=by
   show List.map _ (List.map _ (kn++[(r,v)]))=_;rw[List.map_append,List.map_append];rfl
  have f3:a1D X0 Tryz.prog 3 (kI.es (a5c kn)++[(kI.pv r,.int .i64 v)]) (kI.tv r) (.int .i64 v):=by
   rw[<-em];exact kI.found (by rw[a3A,List.map_append];exact a1j g2.k1 g3) (List.mem_map.2 ⟨(r,v),by simp,rfl⟩)
  have hi:CB r d.nodes.length:=⟨by omega,hr.1⟩;have hm:((iG d r).kids.length:Int)<=(aO:Int):=by have:=m12 hkl;omega
  show qC X0 Tryz.prog _ _ _ _ _ ([_,_,_,_,_,_,_]++[_,_,.map (kI.es (a5c (kn++[(r,v)]))),_,_]++[_,_]);rw[em];exact qC.gs hX (a2n hX hO1 (first:=[]) (v:=.int .i64 v) (H1:=[.list false false 3 d.sizes,.list false false 3 d.order,.map (kV.es (a3k e)),.map (kK.es (a2h nd')),mkC d.sizes d.order 15 16 0,.gone,.gone,.fF (loD d).ps,.fF [.ptr 4 0 9],.map (kI.es (a5c kn)++[(kI.pv r,.int .i64 v)]),.fF [.map 9],.fF [.fn 202 [] pC],.gone,.gone,.gone,lsV e,lsB nd']) (by kernel_rfl) (.b t0 (.q (.bool false) f0 (.b (rfl:false=false) (.o hi (.o (show ((iG d r).kids.length:Int)=((iG d r).kids.length:Int)from rfl) (.o (show (0:Int)<=((iG d r).kids.length:Int)by omega) (.o hm (.wG [.mv 5,.mv 6,.gc [13,14,12]] hl (.fr [0,1,2,3,4,12,13,14] hs (.q (.bool false) f2 (.o f1 (.c (.int .i64 v) [] f3 .er))))))))))))) [.gc [15,16]] rfl
open Go Tw Pv fZ
abbrev a5J (a b:List V)(k:Nat):Bool:=!(decide (a.getD k V0=b.getD k V0))
abbrev agE (a b:List V)(i:Int)(x:List (Nat×PE bM)):aV bM:=⟨[(0,xL 79 a),(1,xL 79 b),(12,xi a.length),(13,xi i)]++x,[],[]⟩
def z154 (a b:List V):Unit⊕Nat->Ex×aV bM
 |.inl _=>(.exit 0,agE a b a.length [(14,xl false)])
 |.inr _=>(.ret,⟨[(4,xl false)],[],[]⟩)
theorem aj2 {n:Nat}{kX:iO bM}(hO:Ok n kX)(a b:List V)(hl:a.length<=aO)(h:a.length=b.length):Lp n 154 0 (agE a b 0 []) (z154 a b (pz (a5J a b) a.length)).1 (z154 a b (pz (a5J a b) a.length)).2:=
 rC (st:=fun i _=>agE a b i []) (fun _ _=>True) (by kernel_rfl) hl trivial (fun k s m hk _ ih=>round hX hO (by kernel_rfl) (.b (a2m hk) (.o (dB hk) (.o (dB (h▸hk)) (.q (.bool (!(decide (a.getD k V0=b.getD k V0)))) (neV (.tmp 19) (.tmp 23) (a.getD k V0) (b.getD k V0)) (.ls (.ou nofun) (.nx (ih _ trivial)))))))) (fun s _=>round hX hO (by kernel_rfl) (.b (a5L a.length) (.ou nofun)))
theorem aeS {a b:List V}(h:a.length=b.length):a=b↔∀j,j<a.length->a.getD j V0=b.getD j V0:=by
 constructor
 ·rintro rfl j _;rfl
 intro h2;apply List.ext_getElem h;intro j h3 h4;have:=h2 j h3;simpa[List.getD,List.getElem?_eq_getElem h3,List.getElem?_eq_getElem h4]using this
theorem a5Z {a b:List V}(h:a.length=b.length):G5 (pz (a5J a b) a.length)=decide (a=b):=by
 rw[Bool.eq_iff_iff,J8,decide_eq_true_eq,aeS h];simp[a5J]
theorem aeT {α:Type}[DecidableEq α]{a b:List α}(h:((a.length:Int) != (b.length:Int))=true):decide (a=b)=false:=by
 rw[decide_eq_false_iff_not];rintro rfl;simp at h
theorem aj3:Gd a6y:=afE.add fun n hO p hp=>dS hX hO (by kernel_rfl) (.s (fun h=>.v false (aeT h).symm) fun h=>.z (c:=G5 (pz (a5J p.1 p.2) p.1.length)) (fun h2=>.w (xC (aj2 hO p.1 p.2 (hp _ (.head _)) (a0y h)) () h2) (.v true (by rw[<-a5Z (a0y h),h2]))) fun h2=>.w (Fa (aj2 hO p.1 p.2 (hp _ (.head _)) (a0y h)) 0 h2) (.v false (by rw[<-a5Z (a0y h),h2])))
theorem aj6:Gd a6z:=aj3.add fun n hO p hp=>dS hX hO (by kernel_rfl) (.ss (.o (hp _ (.head _)) .rr) .rr)
abbrev wEB (a b:List Br)(i:Int)(x:List (Nat×PE bM)):aV bM:=⟨[(1,xL 102 b),(2,.val (.fn 200 [] [])),(15,xL 102 a),(16,xi a.length),(17,xi i)]++x,[],[]⟩
def zEB (a b:List Br):Unit⊕Nat->Ex×aV bM
 |.inl _=>(.exit 0,wEB a b a.length [(18,xl false)])
 |.inr k=>(.ret,⟨[(6,xl false)],[(a.getD k SB).ps,(b.getD k SB).ps],[]⟩)
theorem lEB {n:Nat}(hO:Ok n a6z)(a b:List Br)(hl:a.length<=aO)(h:a.length=b.length)(hk:∀k,k<a.length->(a.getD k SB).kids.length<=aO):Lp n 155 0 (wEB a b 0 []) (zEB a b (pz (cEB a b) a.length)).1 (zEB a b (pz (cEB a b) a.length)).2:=
 rC (st:=fun i _=>wEB a b i []) (fun _ _=>True) (by kernel_rfl) hl trivial (fun k s m BX _ ih=>round hX hO (by kernel_rfl) (.b (a2m BX) (.o (dB BX) (.o (dB (h▸BX)) (.o (hk k BX) (.ls (.ou nofun) (.nx (ih _ trivial)))))))) (fun s _=>round hX hO (by kernel_rfl) (.b (a5L a.length) (.ou nofun)))
theorem aj7:Gd a6A:=aj6.add fun n hO p hp=>dS hX hO (by kernel_rfl) (.sh (fun _=>.rr) fun h=>.zh (fun h2=>.w (xC (lEB hO p.1 p.2.1 (hp _ (.head _)) (a0y h) (hp (∀k,k<p.1.length->(p.1.getD k SB).kids.length<=aO) (.tail _ (.head _)))) () h2) .rr) fun h2=>.w (Fa (lEB hO p.1 p.2.1 (hp _ (.head _)) (a0y h) (hp (∀k,k<p.1.length->(p.1.getD k SB).kids.length<=aO) (.tail _ (.head _)))) 0 h2) .rr)
theorem aj8:Gd a6B:=aj7.add fun n hO p hp=>dS hX hO (by kernel_rfl) (.o (hp _ (.head _)) (.ss (.o (hp _ (.tail _ (.head _))) (.ss (.o (hp _ (.tail _ (.tail _ (.head _)))) (.ss (.o (hp _ (.tail _ (.tail _ (.tail _ (.head _))))) (.o (hp (∀k,k<p.1.nodes.length->(p.1.nodes.getD k SB).kids.length<=aO) (.tail _ (.tail _ (.tail _ (.tail _ (.head _)))))) (.ss .rr .rr))) .rr)) .rr)) .rr))
theorem a9l {x y:Br}:Vt x y=true↔x=y:=by
 obtain⟨a,b⟩:=x;obtain⟨c,e⟩:=y;unfold Vt;simp only[Br.mk.injEq];by_cases h:a=c<;>simp[h]
theorem acn {a b:List Br}:Q9 a b=true↔a=b:=by
 unfold Q9;by_cases h:a.length=b.length
 ·rw[if_neg (by simp;omega)];have e:G5 (pz (cEB a b) a.length)=true↔a=b:=by
   rw[J8];constructor
   ·intro h1;apply List.ext_getElem h;intro j h3 h4;have:=h1 j h3;simp only[cEB,Bool.not_eq_false']at this;have:=a9l.1 this;simpa[List.getD,List.getElem?_eq_getElem h3,List.getElem?_eq_getElem h4]using this
   rintro rfl j _;simp only[cEB,Bool.not_eq_false'];exact a9l.2 rfl
  rw[<-e];cases G5 (pz (cEB a b) a.length)<;>simp
 rw[if_pos (by simp;omega)];constructor
 ·intro h1;cases h1
 rintro rfl;exact absurd rfl h
theorem abw {a b:Dg}:a0H a b=true↔a=b:=by
 obtain⟨a1,a2,a3,a4,a5⟩:=a;obtain⟨b1,b2,b3,b4,b5⟩:=b;unfold a0H;simp only[Dg.mk.injEq];by_cases h1:a1=b1
 ·by_cases h2:a2=b2
  ·by_cases h3:a3=b3
   ·have h4:=acn (a:=a4) (b:=b4);cases e:Q9 a4 b4
    ·rw[e]at h4;simp[h1,h2,h3];intro h5;exact absurd h5 (by simpa using h4)
    rw[e]at h4;simp at h4;simp[h1,h2,h3,h4]
   simp[h3]
  simp[h2]
 simp[h1]
open Go Tw Pv fZ
def KS (d:Dg)(s:List Int×List Int):Cs:=⟨s.2.map fun e=>d.ends.getD e.toNat V0,s.1.map fun o=>⟨(iG d o).var,(iG d o).kids.map (phi s)⟩,s.1.map fun o=>(o,phi s o)⟩
def a4o (d:Dg)(s:List Int×List Int):Prop:=∀o∈s.1,∀k∈(iG d o).kids,Cov s k
theorem a8w {s:List Int×List Int}{x:Int}(l:List Int)(h:Cov s x):phi (s.1,s.2++l) x=phi s x:=by
 unfold phi;split
 ·rename_i c;rw[List.idxOf_append,if_pos (h.1 c)]
 rfl
theorem a3W {s:List Int×List Int}{x:Int}(l:List Int)(h:Cov s x):phi (s.1++l,s.2) x=phi s x:=by
 unfold phi;split
 ·rfl
 rename_i c;rw[List.idxOf_append,if_pos (h.2 (by omega))]
theorem agF {d:Dg}{s:List Int×List Int}(hk:a4o d s)(hn:∀o∈s.1,0<=o)(e:Int):KS d (s.1,s.2++[e])=⟨(KS d s).e++[d.ends.getD e.toNat V0],(KS d s).n,(KS d s).k⟩:=by
 unfold KS;simp only[List.map_append,List.map_cons,List.map_nil,Cs.mk.injEq,true_and];constructor
 ·apply List.map_congr_left;intro o ho;congr 1;apply List.map_congr_left;intro k BX;exact a8w [e] (hk o ho k BX)
 apply List.map_congr_left;intro o ho;rw[a8w [e] ⟨fun c=>absurd (hn o ho) (by omega),fun _=>ho⟩]
theorem aeU {d:Dg}{s:List Int×List Int}(hk:a4o d s)(hn:∀o∈s.1,0<=o){r:Int}(h0:0<=r)(hr:r∉s.1)(hrk:∀k∈(iG d r).kids,Cov s k):KS d (s.1++[r],s.2)=⟨(KS d s).e,(KS d s).n++[⟨(iG d r).var,(iG d r).kids.map (phi s)⟩],(KS d s).k++[(r,(s.1.length:Int))]⟩:=by
 unfold KS;simp only[List.map_append,List.map_cons,List.map_nil,Cs.mk.injEq,true_and];refine⟨?_,?_⟩
 ·congr 1
  ·apply List.map_congr_left;intro o ho;congr 1;exact List.map_congr_left fun k BX=>a3W [r] (hk o ho k BX)
  congr 2;exact List.map_congr_left fun k BX=>a3W [r] (hrk k BX)
 congr 1
 ·apply List.map_congr_left;intro o ho;rw[a3W [r] ⟨fun c=>absurd (hn o ho) (by omega),fun _=>ho⟩]
 congr 2;unfold phi;rw[if_neg (by omega)];simp[List.idxOf_append,hr]
theorem aj9 {a b:Nat}(ha:a<=2^61)(hb:b<=2^61)(h:IntKind.i64.wrap (-1-(a:Int))=IntKind.i64.wrap (-1-(b:Int))):a=b:=by
 rw[CX (by omega) (by omega),CX (by omega) (by omega)]at h;omega
theorem abx {l:List Int}{a b:Int}(ha:a∈l)(hb:b∈l)(h:l.idxOf a=l.idxOf b):a=b:=by
 have h1:=List.getElem_idxOf (List.idxOf_lt_length_iff.2 ha);have h2:=List.getElem_idxOf (List.idxOf_lt_length_iff.2 hb);rw[<-h1,<-h2];congr 1
theorem adr {x y:Int}(hx:W64 x)(hy:W64 y)(cx:x<0)(cy:y<0)(h:BO x=BO y):x=y:=by
 unfold BO at h;rw[a5m hx cx,a5m hy cy]at h;omega
theorem aby {s:List Int×List Int}(hs:s.2.length<=2^61){x y:Int}(hx:Cov s x)(hy:Cov s y)(wx:W64 x)(wy:W64 y)(h:phi s x=phi s y):x=y:=by
 have lt:∀z,z∈s.2->s.2.idxOf z<=2^61:=fun z hz=>Nat.le_trans (Nat.le_of_lt (List.idxOf_lt_length_iff.2 hz)) hs;unfold phi at h;by_cases cx:x<0
 ·rw[if_pos cx]at h;by_cases cy:y<0
  ·rw[if_pos cy]at h;exact adr wx wy cx cy (abx (hx.1 cx) (hy.1 cy) (aj9 (lt _ (hx.1 cx)) (lt _ (hy.1 cy)) h))
  rw[if_neg cy]at h;have:=lt _ (hx.1 cx);rw[CX (by omega) (by omega)]at h;omega
 rw[if_neg cx]at h;by_cases cy:y<0
 ·rw[if_pos cy]at h;have:=lt _ (hy.1 cy);rw[CX (by omega) (by omega)]at h;omega
 rw[if_neg cy]at h;exact abx (hx.2 (by omega)) (hy.2 (by omega)) (by omega)
open Go Tw Pv fZ
theorem aeV {s t:List Int×List Int}{x:Int}(h:Cov s x)(he:Ext s t):phi t x=phi s x:=by
 have hc:=h;obtain⟨a,b,rfl⟩:=he;have h2:Cov (s.1,s.2++b) x:=⟨fun c=>List.mem_append_left _ (h.1 c),h.2⟩;rw[<-a8w b h,<-a3W a h2]
theorem a8f {α β:Type}{g1:Nat->α->α}{g2:Nat->β->β}(R:Nat->α->β->Prop):∀(m k:Nat) (a:α) (b:β),R k a b->(∀j a b,k<=j->j<k+m->R j a b->R (j+1) (g1 j a) (g2 j b))->R (k+m) (uo g1 m k a) (uo g2 m k b)
 | 0,_,_,_,h,_=>h
 |m+1,k,a,b,h,hs=>by
  have:=a8f R m (k+1) (g1 k a) (g2 k b) (hs k a b (Nat.le_refl _) (by omega) h) (fun j a b h1 h2=>hs j a b (by omega) (by omega));rw[show k+(m+1)=k+1+m by omega];exact this
theorem abz {α β:Type}[BEq α][LawfulBEq α][BEq β][LawfulBEq β]{f:α->β}{a:α}:∀{l:List α},(∀b∈l,f b=f a->b=a)->(l.map f).idxOf (f a)=l.idxOf a
 |[],_=>rfl
 |c::l,h=>by
  rw[List.map_cons,List.idxOf_cons,List.idxOf_cons,abz fun b hb=>h b (List.mem_cons_of_mem _ hb)];by_cases hc:c=a
  ·subst hc;simp
  have:¬(f c=f a):=fun e=>hc (h c (.head _) e);rw[show (c==a)=false by simpa using hc,show (f c==f a)=false by simpa using this]
structure DgD (d:Dg):Prop where
 ends:d.ends.Nodup
 nodes:∀i j,i<d.nodes.length->j<d.nodes.length->(CY d i).var=(CY d j).var->(CY d i).kids=(CY d j).kids->i=j
 flat:∀i,i<d.nodes.length->((CY d i).kids.all fun x=>x==(CY d i).kids.getD 0 0)=false
theorem a9m {d:Dg}(h:d.ends.Nodup){a b:Int}(ha:CB a d.ends.length)(hb:CB b d.ends.length)(e:d.ends.getD a.toNat V0=d.ends.getD b.toNat V0):a=b:=by
 have h1:a.toNat<d.ends.length:=by have:=ha.1;have:=ha.2;omega
 have h2:b.toNat<d.ends.length:=by have:=hb.1;have:=hb.2;omega
 simp only[List.getD,List.getElem?_eq_getElem h1,List.getElem?_eq_getElem h2,Option.getD_some]at e;have:=(List.getElem_inj h).1 e;have:=ha.1;have:=hb.1;omega
theorem agH {d:Dg}(hd:DgD d){s:List Int×List Int}(hs:a6h d s){r:Int}(hr:CB (BO r) d.ends.length):(KS d s).e.idxOf (a2z d r)=s.2.idxOf (BO r)∧(a2z d r∈(KS d s).e↔BO r∈s.2):=by
 have hi:∀b∈s.2,(fun e:Int=>d.ends.getD e.toNat V0) b=(fun e:Int=>d.ends.getD e.toNat V0) (BO r)->b=BO r:=fun b hb e=>a9m hd.ends (hs.e2 b hb) hr e;refine⟨abz (f:=fun e:Int=>d.ends.getD e.toNat V0) (a:=BO r) hi,?_⟩;constructor
 ·intro h;obtain⟨b,hb,e⟩:=List.mem_map.1 h;rw[<-hi b hb e];exact hb
 intro h;exact List.mem_map.2 ⟨BO r,h,rfl⟩
theorem agI {d:Dg}{s:List Int×List Int}{r:Int}(h:r∈s.1):knV (KS d s).k r=phi s r:=by
 have h1:r∈(KS d s).k.map (·.1):=by
  unfold KS;rw[List.map_map];exact List.mem_map.2 ⟨r,h,rfl⟩
 have h2:=abu h1;obtain⟨o,_,e⟩:=List.mem_map.1 h2;have e1:o=r:=congrArg Prod.fst e;have e2:phi s o=knV (KS d s).k r:=congrArg Prod.snd e;rw[<-e2,e1]
theorem aeW {a b:List Int}(h:a.length=b.length)(ha:a.length<=12)(e:a2x a=a2x b):a=b:=by
 unfold a2x at e;have:=congrArg (List.take a.length) e;rw[List.take_take,List.take_take,Nat.min_eq_left ha,List.take_append_of_le_length (Nat.le_refl _),List.take_append_of_le_length (by omega),List.take_length,h,List.take_length]at this;exact this
theorem map_inj {α β:Type}{f:α->β}:∀{a b:List α},(∀x∈a,∀y∈b,f x=f y->x=y)->a.map f=b.map f->a=b
 |[],[],_,_=>rfl
 |[],_::_,_,h=>by simp at h
 |_::_,[],_,h=>by simp at h
 |x::a,y::b,hi,h=>by
  simp only[List.map_cons,List.cons.injEq]at h;rw[hi x (.head _) y (.head _) h.1,map_inj (fun u hu v hv=>hi u (List.mem_cons_of_mem _ hu) v (List.mem_cons_of_mem _ hv)) h.2]
open Go Tw Pv fZ
structure Alk (d:Dg)(F:Nat)(r:Int)(s:List Int×List Int):Prop where
 eq:Vr d F r (KS d s)=(phi (Yd d F r s) r,KS d (Yd d F r s))
 kids:a4o d (Yd d F r s)
 cov:Cov (Yd d F r s) r
 ext:Ext s (Yd d F r s)
theorem afJ {d:Dg}(h:SC d)(hw:DgR d)(hd:DgD d)(he:d.ends.length<=2^61):∀(F:Nat) (r:Int) (s:List Int×List Int),r+1<F->a6h d s->a4o d s->ES d r d.nodes.length->1<=F->Alk d F r s
 | 0,r,s,_,_,_,_,h1=>by omega
 |F+1,r,s,hF,hs,hk,hr,_=>by
  have hn:∀o∈s.1,0<=o:=fun o ho=>(hs.n2 o ho).1;by_cases c:r<0
  ·have t0:decide (r<0)=true:=(by simpa using c);obtain⟨q1,q2⟩:=agH hd hs (hr.2 c);have e1:Vr d (F+1) r (KS d s)=(IntKind.i64.wrap (-1-((KS d s).e.idxOf (a2z d r):Nat)),⟨Vp (KS d s).e (a2z d r),(KS d s).n,(KS d s).k⟩):=by unfold Vr;rw[if_pos t0]
   by_cases c2:BO r∈s.2
   ·have e2:Yd d (F+1) r s=s:=by unfold Yd;rw[if_pos t0,if_neg (by simpa using c2)]
    refine⟨?_,by rw[e2];exact hk,by rw[e2];exact⟨fun _=>c2,fun h0=>by omega⟩,by rw[e2];exact .refl s⟩;rw[e1,e2,q1,show Vp (KS d s).e (a2z d r)=(KS d s).e from if_pos (q2.2 c2)];unfold phi;rw[if_pos c]
   have e2:Yd d (F+1) r s=(s.1,s.2++[BO r]):=by unfold Yd;rw[if_pos t0,if_pos (by simpa using c2)]
   have hc:Cov (s.1,s.2++[BO r]) r:=⟨fun _=>by simp,fun h0=>by omega⟩;have hx:Ext s (s.1,s.2++[BO r]):=⟨[],[BO r],by simp⟩;refine⟨?_,by rw[e2];exact fun o ho k BX=>(hk o ho k BX).ext hx,by rw[e2];exact hc,by rw[e2];exact hx⟩;rw[e1,e2,q1,agF hk hn,show Vp (KS d s).e (a2z d r)=(KS d s).e++[a2z d r]from if_neg (fun e=>c2 (q2.1 e))];unfold phi;rw[if_pos c];simp[List.idxOf_append,c2,List.idxOf_eq_length c2,a2z]
  have t0:¬(decide (r<0)=true):=by simpa using c
  have qJ:(KS d s).k.map (·.1)=s.1:=by unfold KS;rw[List.map_map];exact List.map_id _
  by_cases c2:r∈s.1
  ·have e2:Yd d (F+1) r s=s:=by unfold Yd;rw[if_neg t0,if_pos (by simpa using c2)]
   have e1:Vr d (F+1) r (KS d s)=(knV (KS d s).k r,KS d s):=by unfold Vr;rw[if_neg t0,if_pos (by rw[qJ];simpa using c2)]
   refine⟨?_,by rw[e2];exact hk,by rw[e2];exact⟨fun h0=>absurd h0 c,fun _=>c2⟩,by rw[e2];exact .refl s⟩;rw[e1,e2,agI c2]
  have aN:r.toNat<d.nodes.length:=by have:=hr.1;omega
  have a7N:∀k,k<(iG d r).kids.length->(iG d r).kids.getD k 0<r:=fun k BX=>by
   have h9:=(h.kid r.toNat aN k BX).1;have h9:(iG d r).kids.getD k 0<(r.toNat:Int):=h9;omega
  have hrk:∀j,j<(iG d r).kids.length->ES d ((iG d r).kids.getD j 0) d.nodes.length:=fun j hj=>⟨by have:=a7N j hj;have:=hr.1;omega,(h.kid r.toNat aN j hj).2⟩;have a9W:=a8f (g1:=fun j (y:List Int×Cs)=>(y.1.set j (Vr d F ((iG d r).kids.getD j 0) y.2).1,(Vr d F ((iG d r).kids.getD j 0) y.2).2)) (g2:=fun k y=>Yd d F ((iG d r).kids.getD k 0) y)
   (fun j (y:List Int×Cs) (t:List Int×List Int)=>y=(((iG d r).kids.take j).map (phi t)++List.replicate ((iG d r).kids.length-j) 0,KS d t)∧a6h d t∧a4o d t∧Ext s t∧r∉t.1∧∀i,i<j->Cov t ((iG d r).kids.getD i 0)) (iG d r).kids.length 0 (List.replicate (iG d r).kids.length 0,KS d s) s ⟨by simp,hs,hk,.refl s,c2,fun i hi=>by omega⟩ (fun j y t _ hj hy=>by
    obtain⟨rfl,y1,y2,y3,y4,y5⟩:=hy;have hj:j<(iG d r).kids.length:=(by omega);have ih:=afJ h hw hd he F _ t (by have:=a7N j hj;omega) y1 y2 (hrk j hj) (by omega);have hno:=ad3 F ((iG d r).kids.getD j 0) r t (a7N j hj) y4 (by omega) (fun i hi k hk=>(h.kid i hi k hk).1) (fun h5=>⟨h5,by have:=(hrk j hj).1;omega⟩);have Jr:=a4D h F ((iG d r).kids.getD j 0) t y1 (hrk j hj);obtain⟨i1,i2,i3,i4⟩:=ih;simp only[i1];generalize Yd d F ((iG d r).kids.getD j 0) t=u at i2 i3 i4 hno Jr ⊢;refine⟨?_,Jr,i2,y3.trans i4,hno,fun i hi=>?_⟩
    ·simp only[Prod.mk.injEq,and_true];have hl:(List.map (phi t) (List.take j (iG d r).kids)).length=j:=by rw[List.length_map,List.length_take];omega
     rw[show (iG d r).kids.length-j=((iG d r).kids.length-(j+1))+1 by omega,List.replicate_succ,List.set_append_right _ _ (by rw[hl];exact Nat.le_refl j)];rw[hl,Nat.sub_self,List.set_cons_zero,List.take_succ_eq_append_getElem hj,List.map_append,List.append_assoc];congr 1
     ·apply List.map_congr_left;intro x hx;obtain⟨i,hi,rfl⟩:=List.mem_iff_getElem.1 hx;have BJ:i<j:=by simp at hi;omega
      have:=y5 i BJ;rw[a0I (l:=(iG d r).kids) (show i<(iG d r).kids.length by omega)]at this;rw[List.getElem_take];exact (aeV this i4).symm
     ·rw[a0I hj];rfl
    ·by_cases BJ:i<j
     ·exact (y5 i BJ).ext i4
     ·rw[show i=j by omega];exact i3)
  have e1:Vr d (F+1) r (KS d s)=(Q8 (uo (fun j (y:List Int×Cs)=>(y.1.set j (Vr d F ((iG d r).kids.getD j 0) y.2).1,(Vr d F ((iG d r).kids.getD j 0) y.2).2)) (iG d r).kids.length 0 (List.replicate (iG d r).kids.length 0,KS d s)).2.n (iG d r).var (uo (fun j (y:List Int×Cs)=>(y.1.set j (Vr d F ((iG d r).kids.getD j 0) y.2).1,(Vr d F ((iG d r).kids.getD j 0) y.2).2)) (iG d r).kids.length 0 (List.replicate (iG d r).kids.length 0,KS d s)).1,⟨(uo (fun j (y:List Int×Cs)=>(y.1.set j (Vr d F ((iG d r).kids.getD j 0) y.2).1,(Vr d F ((iG d r).kids.getD j 0) y.2).2)) (iG d r).kids.length 0 (List.replicate (iG d r).kids.length 0,KS d s)).2.e,Yg (uo (fun j (y:List Int×Cs)=>(y.1.set j (Vr d F ((iG d r).kids.getD j 0) y.2).1,(Vr d F ((iG d r).kids.getD j 0) y.2).2)) (iG d r).kids.length 0 (List.replicate (iG d r).kids.length 0,KS d s)).2.n (iG d r).var (uo (fun j (y:List Int×Cs)=>(y.1.set j (Vr d F ((iG d r).kids.getD j 0) y.2).1,(Vr d F ((iG d r).kids.getD j 0) y.2).2)) (iG d r).kids.length 0 (List.replicate (iG d r).kids.length 0,KS d s)).1,(uo (fun j (y:List Int×Cs)=>(y.1.set j (Vr d F ((iG d r).kids.getD j 0) y.2).1,(Vr d F ((iG d r).kids.getD j 0) y.2).2)) (iG d r).kids.length 0 (List.replicate (iG d r).kids.length 0,KS d s)).2.k++[(r,Q8 (uo (fun j (y:List Int×Cs)=>(y.1.set j (Vr d F ((iG d r).kids.getD j 0) y.2).1,(Vr d F ((iG d r).kids.getD j 0) y.2).2)) (iG d r).kids.length 0 (List.replicate (iG d r).kids.length 0,KS d s)).2.n (iG d r).var (uo (fun j (y:List Int×Cs)=>(y.1.set j (Vr d F ((iG d r).kids.getD j 0) y.2).1,(Vr d F ((iG d r).kids.getD j 0) y.2).2)) (iG d r).kids.length 0 (List.replicate (iG d r).kids.length 0,KS d s)).1)]⟩):=by
   rw[Vr,if_neg t0,if_neg (by rw[qJ];simpa using c2)]
  have e2:Yd d (F+1) r s=((uo (fun k y=>Yd d F ((iG d r).kids.getD k 0) y) (iG d r).kids.length 0 s).1++[r],(uo (fun k y=>Yd d F ((iG d r).kids.getD k 0) y) (iG d r).kids.length 0 s).2):=by
   rw[Yd,if_neg t0,if_neg (by simpa using c2)]
  generalize uo (fun j (y:List Int×Cs)=>(y.1.set j (Vr d F ((iG d r).kids.getD j 0) y.2).1,(Vr d F ((iG d r).kids.getD j 0) y.2).2)) (iG d r).kids.length 0 (List.replicate (iG d r).kids.length 0,KS d s)=y at a9W e1;generalize uo (fun k y=>Yd d F ((iG d r).kids.getD k 0) y) (iG d r).kids.length 0 s=t at a9W e2;obtain⟨rfl,f2,f3,f4,f5,f6⟩:=a9W;rw[Nat.zero_add]at f6;simp only[Nat.zero_add,List.take_length,Nat.sub_self,List.replicate_zero,List.append_nil]at e1;have ads:∀k∈(iG d r).kids,Cov t k:=fun k BX=>by
   obtain⟨i,hi,rfl⟩:=List.mem_iff_getElem.1 BX;have:=f6 i hi
   rwa [a0I hi]at this
  have hW:∀o,0<=o->CB o d.nodes.length->∀k∈(iG d o).kids,W64 k:=fun o _ ho k BX=>by
   obtain⟨i,hi,rfl⟩:=List.mem_iff_getElem.1 BX;have:=hw.kid o.toNat (by have:=ho.1;have:=ho.2;omega) i hi
   rwa [a0I hi]at this
  have hrI:CB r d.nodes.length:=⟨by omega,hr.1⟩;have hel:t.2.length<=2^61:=Nat.le_trans f2.len.2 he;have afK:((iG d r).kids.map (phi t)).all (fun x=>x==((iG d r).kids.map (phi t)).getD 0 0)=false:=by
   cases e:((iG d r).kids.map (phi t)).all (fun x=>x==((iG d r).kids.map (phi t)).getD 0 0)
   ·rfl
   exfalso;have hf:=hd.flat r.toNat aN;rw[List.all_eq_false]at hf;obtain⟨x,hx,hx2⟩:=hf;have hx:x∈(iG d r).kids:=hx;have h0:0<(iG d r).kids.length:=List.length_pos_of_mem hx;rw[List.all_eq_true]at e;have:=e (phi t x) (List.mem_map.2 ⟨x,hx,rfl⟩);rw[a0I (by simpa using h0),List.getElem_map]at this;have WM:(iG d r).kids[0]∈(iG d r).kids:=List.getElem_mem h0;have:=aby hel (ads x hx) (ads _ WM) (hW r (by omega) hrI x hx) (hW r (by omega) hrI _ WM) (by simpa using this);apply hx2;have h9:(CY d r.toNat).kids.getD 0 0=(iG d r).kids[0]:=a0I h0;rw[h9,this];simp
  have aex:a2y (iG d r).var ((iG d r).kids.map (phi t))∉(KS d t).n.map kyB:=by
   intro hm;unfold KS at hm;rw[List.map_map]at hm;obtain⟨o,ho,e⟩:=List.mem_map.1 hm;have ho2:=f2.n2 o ho;have hol:o.toNat<d.nodes.length:=by have:=ho2.1;have:=ho2.2;omega
   have ev:(CY d o.toNat).var=(CY d r.toNat).var:=congrArg Prod.fst e;have ep:a2x ((iG d o).kids.map (phi t))=a2x ((iG d r).kids.map (phi t)):=congrArg (fun z:Ky=>z.2.val) e;have hlen:((CY d o.toNat).kids.length:Int)=((CY d r.toNat).kids.length:Int):=(by rw[h.ksz _ hol,h.ksz _ aN,ev]);have hlen:(iG d o).kids.length=(iG d r).kids.length:=by exact_mod_cast hlen
   have em:=aeW (by simpa using hlen) (by rw[List.length_map];exact h.aap _ hol) ep;have ek:=map_inj (fun x hx y hy e=>aby hel (f3 o ho x hx) (ads y hy) (hW o ho2.1 ho2 x hx) (hW r (by omega) hrI y hy) e) em;have:=hd.nodes _ _ hol aN ev ek;have:o=r:=by have:=ho2.1;omega
   exact f5 (this▸ho)
  have Si:(KS d t).n.length=t.1.length:=by unfold KS;simp
  have hR:Q8 (KS d t).n (iG d r).var ((iG d r).kids.map (phi t))=(t.1.length:Int):=by
   unfold Q8;rw[afK,if_neg (by simp),List.idxOf_eq_length aex,List.length_map,Si]
  have hS:Yg (KS d t).n (iG d r).var ((iG d r).kids.map (phi t))=(KS d t).n++[⟨(iG d r).var,(iG d r).kids.map (phi t)⟩]:=by
   unfold Yg;rw[afK,if_neg (by simp),if_neg aex]
  have hx:Ext t (t.1++[r],t.2):=⟨[r],[],by simp⟩;have hc:Cov (t.1++[r],t.2) r:=⟨fun h0=>absurd h0 c,fun _=>by simp⟩;refine⟨?_,?_,by rw[e2];exact hc,by rw[e2];exact f4.trans hx⟩
  ·rw[e1,e2,hR,hS,aeU f3 (fun o ho=>(f2.n2 o ho).1) (by omega) f5 ads];unfold phi;rw[if_neg c];simp[List.idxOf_append,f5]
  rw[e2];intro o ho k BX;rcases List.mem_append.1 ho with ho|ho
  ·exact (f3 o ho k BX).ext hx
  rw[List.mem_singleton.1 ho]at BX;exact (ads k BX).ext hx
open Go Tw Pv fZ
theorem a6S (b:Br):Vf b=b.kids.all fun x=>x==b.kids.getD 0 0:=by
 have e:G5 (a5M (a6c b) 1 (max 1 b.kids.length))=true↔∀k,1<=k->k<b.kids.length->b.kids.getD k 0=b.kids.getD 0 0:=by
  unfold a5M gS;rw[KN (r:=fun k=>k)];constructor
  ·intro h k h1 h2;simpa[a6c]using h k h1 (by omega)
  intro h k h1 h2;simpa[a6c]using h k h1 (by omega)
 have e2:(b.kids.all fun x=>x==b.kids.getD 0 0)=true↔∀k,1<=k->k<b.kids.length->b.kids.getD k 0=b.kids.getD 0 0:=by
  rw[List.all_eq_true];constructor
  ·intro h k _ h2;have:=h _ (KP h2);simpa using this
  intro h x hx;obtain⟨k,hk,rfl⟩:=List.mem_iff_getElem.1 hx;by_cases h0:k=0
  ·subst h0;rw[a0I hk];simp
  have:=h k (by omega) hk;rw[a0I hk]at this;rw[this];simp
 have:Vf b=true↔(b.kids.all fun x=>x==b.kids.getD 0 0)=true:=by
  rw[e2,<-e];unfold Vf;cases G5 (a5M (a6c b) 1 (max 1 b.kids.length))<;>simp
 rw[Bool.eq_iff_iff];exact this
theorem agJ {d:Dg}:G5 (pz (cD0 d) d.ends.length)=true↔d.ends.Nodup:=by
 rw[J8];have h1:∀i,cD0 d i=false↔∀j,j<i->d.ends.getD j V0≠d.ends.getD i V0:=fun i=>by
  have:G5 (pz (cD1 d i) i)=true↔∀j,j<i->d.ends.getD j V0≠d.ends.getD i V0:=by
   rw[J8];simp[cD1]
  rw[<-this];unfold cD0;cases G5 (pz (cD1 d i) i)<;>simp
 have hg:∀j,(hj:j<d.ends.length)->d.ends.getD j V0=d.ends[j]:=fun j hj=>by simp[List.getD,List.getElem?_eq_getElem hj]
 constructor
 ·intro h;rw[List.nodup_iff_pairwise_ne,List.pairwise_iff_getElem];intro i j hi hj BJ;have:=(h1 j).1 (h j hj) i BJ
  rwa [hg i hi,hg j hj]at this
 intro h i hi;rw[h1];intro j hj;rw[List.nodup_iff_pairwise_ne,List.pairwise_iff_getElem]at h;have:=h j i (by omega) hi hj
 rwa [hg i hi,hg j (by omega)]
theorem agK {d:Dg}:G5 (pz (cD2 d) d.nodes.length)=true↔(∀i j,i<d.nodes.length->j<d.nodes.length->(CY d i).var=(CY d j).var->(CY d i).kids=(CY d j).kids->i=j)∧∀i,i<d.nodes.length->((CY d i).kids.all fun x=>x==(CY d i).kids.getD 0 0)=false:=by
 rw[J8];have h1:∀i,cD2 d i=false↔Vf (CY d i)=false∧∀j,j<i->¬((CY d j).var=(CY d i).var∧(CY d j).kids=(CY d i).kids):=fun i=>by
  have h3:∀j,cD3 d i j=false↔¬((CY d j).var=(CY d i).var∧(CY d j).kids=(CY d i).kids):=fun j=>by
   unfold cD3;by_cases hv:(CY d j).var=(CY d i).var
   ·rw[if_pos (by rw[beq_iff_eq];exact hv),decide_eq_false_iff_not];exact⟨fun a b=>a b.2,fun a b=>a ⟨hv,b⟩⟩
   rw[if_neg (by rw[beq_iff_eq];exact hv)];exact⟨fun _ a=>hv a.1,fun _=>rfl⟩
  have:G5 (pz (cD3 d i) i)=true↔∀j,j<i->¬((CY d j).var=(CY d i).var∧(CY d j).kids=(CY d i).kids):=by
   rw[J8];exact forall_congr' fun j=>forall_congr' fun _=>h3 j
  rw[<-this];unfold cD2;cases Vf (CY d i)
  ·cases G5 (pz (cD3 d i) i)<;>simp
  simp
 constructor
 ·intro h;refine⟨fun i j hi hj hv hk=>?_,fun i hi=>by rw[<-a6S];exact ((h1 i).1 (h i hi)).1⟩;rcases Nat.lt_trichotomy i j with BJ|BJ|BJ
  ·exact absurd ⟨hv,hk⟩ (((h1 j).1 (h j hj)).2 i BJ)
  ·exact BJ
  exact absurd ⟨hv.symm,hk.symm⟩ (((h1 i).1 (h i hi)).2 j BJ)
 intro h i hi;rw[h1];refine⟨by rw[a6S];exact h.2 i hi,fun j hj hc=>?_⟩;have:=h.1 j i (by omega) hi hc.1 hc.2;omega
theorem aeX {d:Dg}:(G5 (pz (cD0 d) d.ends.length)=true∧G5 (pz (cD2 d) d.nodes.length)=true)↔DgD d:=by
 rw[agJ,agK];exact⟨fun h=>⟨h.1,h.2.1,h.2.2⟩,fun h=>⟨h.ends,h.nodes,h.flat⟩⟩
theorem a6T {l:List Int}{m:Nat}:EP l m=true↔l=a0E m:=by
 unfold EP;have e:G5 (pz (aak l) l.length)=true↔∀j,j<l.length->l.getD j 0=(j:Int):=by
  rw[J8];simp[aak]
 constructor
 ·intro h;split at h
  ·rename_i h1;have hl:(l.length:Int)=(m:Int):=(by simpa using h);have hl:l.length=m:=(by omega);rw[a5g (d:=0) (by rw[a09,hl])];intro j hj;rw[e.1 h1 j hj];have:j<m:=(by omega);simp[a0E,List.getD,this]
  cases h
 rintro rfl;rw[if_pos (e.2 fun j hj=>by rw[a09]at hj;simp[a0E,List.getD,hj]),a09];simp
theorem adt {d:Dg}:KU d=true↔DgD d∧srN d d.root=a0E d.nodes.length∧srE d d.root=a0E d.ends.length:=by
 rw[<-aeX,<-a6T,<-a6T];unfold KU;cases G5 (pz (cD0 d) d.ends.length)
 ·simp
 cases G5 (pz (cD2 d) d.nodes.length)
 ·simp
 cases EP (srN d d.root) (d.nodes.length:Int)<;>simp
open Go Tw Pv fZ
theorem aac {d:Dg}:a6x d cl0:=⟨List.nodup_nil,by simp,List.nodup_nil,by simp,List.nodup_nil,by simp⟩
abbrev adu (b:Br):Bool:=b.kids.all fun x=>x==b.kids.getD 0 0
theorem abA {d:Dg}:∀(F:Nat) (r:Int) (x:Cs),(∀b∈x.n,adu b=false)->∀b∈(Vr d F r x).2.n,adu b=false
 | 0,_,_,h=>h
 |F+1,r,x,h=>by
  unfold Vr;split
  ·exact h
  split
  ·exact h
  have hb:=(a3U (d:=d) (fun y=>∀b∈y.n,adu b=false) (F:=F) (r:=r) h (fun j y _ hy=>abA F _ y hy)).2;intro b hbm;simp only[Yg]at hbm;split at hbm
  ·exact hb b hbm
  rename_i hf;split at hbm
  ·exact hb b hbm
  rcases List.mem_append.1 hbm with hbm|hbm
  ·exact hb b hbm
  rw[List.mem_singleton.1 hbm];simpa using hf
theorem aco {d:Dg}(h:SC d)(e:Qa d=d):DgD d:=by
 have hc:=abv h 6002 d.root cl0 aac h.root;have hf:=abA (d:=d) 6002 d.root cl0 (by simp);have ee:(Vr d 6002 d.root cl0).2.e=d.ends:=congrArg Dg.ends e;have en:(Vr d 6002 d.root cl0).2.n=d.nodes:=congrArg Dg.nodes e;rw[en]at hf;have hg:∀j,(hj:j<d.nodes.length)->CY d j=d.nodes[j]:=fun j hj=>by simp[List.getD,List.getElem?_eq_getElem hj]
 refine⟨ee▸hc.e1,fun i j hi hj hv hk=>?_,fun i hi=>?_⟩
 ·have hn:(d.nodes.map kyB).Nodup:=en▸hc.n1;have:=(List.getElem_inj (i:=i) (j:=j) (h₀:=by simpa using hi) (h₁:=by simpa using hj) hn).1 (by
   rw[List.getElem_map,List.getElem_map,<-hg i hi,<-hg j hj];show a2y _ _=a2y _ _;rw[hv,hk])
  exact this
 have:=hf (CY d i) (by rw[hg i hi];exact List.getElem_mem hi);exact this
theorem a7b {d:Dg}{n m:Nat}{x:Int}(hm:m<=2^61)(hx:W64 x)(hc:Cov (a0E n,a0E m) x):phi (a0E n,a0E m) x=x:=by
 have hid:∀(n:Nat) (y:Int),y∈a0E n->(((a0E n).idxOf y:Nat):Int)=y:=fun n y hy=>by
  have hl:=List.idxOf_lt_length_iff.2 hy;have h1:=List.getElem_idxOf hl;rw[a09]at hl;simp only[a0E,List.getElem_map,List.getElem_range]at h1;exact h1
 unfold phi;by_cases c:x<0
 ·rw[if_pos c];have h1:=hid m _ (hc.1 c);have h2:BO x=-1-x:=a5m hx c;have h3:=abq (hc.1 c);have h4:=h3.2;rw[show ((((a0E n,a0E m):List Int×List Int).2.idxOf (BO x):Nat):Int)=BO x from h1,h2,CX (by omega) (by omega)];omega
 rw[if_neg c];exact hid n _ (hc.2 (by omega))
theorem a9n {α:Type}(l:List α)(f:Int->α)(h:∀j,(hj:j<l.length)->f j=l[j]):(a0E l.length).map f=l:=by
 apply List.ext_getElem (by simp[a0E]);intro j h1 h2;simp[a0E,h j h2]
theorem abC {d:Dg}{j:Nat}(hj:j<d.ends.length):d.ends.getD ((j:Nat):Int).toNat V0=d.ends[j]:=by simp[List.getD,List.getElem?_eq_getElem hj]
theorem abD {l:List Int}{m:Nat}(hl:l.length=m)(h:∀j,(hj:j<l.length)->l[j]=(j:Int)):l=a0E m:=by
 apply List.ext_getElem (by rw[a09,hl]);intro j h1 h2;rw[h j h1];simp[a0E]
theorem agL {d:Dg}(h:SC d)(hw:DgR d)(hd:DgD d)(he:d.ends.length<=2^61){t:List Int×List Int}(ht:a6h d t)(hk:a4o d t)(hc:Cov t d.root):((KS d t).e=d.ends∧(KS d t).n=d.nodes∧phi t d.root=d.root)↔(t.1=a0E d.nodes.length∧t.2=a0E d.ends.length):=by
 have hW:∀o,CB o d.nodes.length->∀k∈(iG d o).kids,W64 k:=fun o ho k BX=>by
  obtain⟨i,hi,rfl⟩:=List.mem_iff_getElem.1 BX;have:=hw.kid o.toNat (by have:=ho.1;have:=ho.2;omega) i hi
  rwa [a0I hi]at this
 have hg:∀j,(hj:j<d.nodes.length)->iG d (j:Nat)=d.nodes[j]:=fun j hj=>by simp[List.getD,List.getElem?_eq_getElem hj]
 constructor
 ·rintro⟨h1,h2,h3⟩;have l1:t.2.length=d.ends.length:=by have:=congrArg List.length h1;simpa[KS]using this
  have l2:t.1.length=d.nodes.length:=by have:=congrArg List.length h2;simpa[KS]using this
  have e2:t.2=a0E d.ends.length:=abD l1 fun j hj=>by
   have Ls:j<d.ends.length:=(by omega);have:(KS d t).e[j]'(by rw[h1];exact Ls)=d.ends[j]:=(by simp only[h1]);unfold KS at this;simp only[List.getElem_map]at this;rw[<-abC Ls]at this;exact a9m hd.ends (ht.e2 _ (List.getElem_mem hj)) (dB Ls) this
  have key:∀(N:Nat) (o:Int),o∈t.1->o.toNat<N->phi t o=o:=by
   intro N
   induction N with
   |zero=>intro o _ hN;omega
   |succ N ih=>
    intro o ho hN;have ho2:=ht.n2 o ho;have aN:=List.idxOf_lt_length_iff.2 ho;have Ls:t.1.idxOf o<d.nodes.length:=(by omega);have hel:=List.getElem_idxOf aN;have:(KS d t).n[t.1.idxOf o]'(by rw[h2];exact Ls)=d.nodes[t.1.idxOf o]:=(by simp only[h2]);unfold KS at this;simp only[List.getElem_map,hel]at this;have hkm:(iG d o).kids.map (phi t)=(iG d o).kids:=by
     conv=>rhs;rw[<-List.map_id (iG d o).kids]
     apply List.map_congr_left;intro k BX;show phi t k=k;have hcv:=hk o ho k BX;by_cases c:k<0
     ·have:=a7b (d:=d) (n:=0) (m:=d.ends.length) he (hW o ho2 k BX) ⟨fun c=>by have:=hcv.1 c;rwa [e2]at this,fun h0=>by omega⟩;unfold phi at this ⊢;rw[if_pos c]at this ⊢;rw[e2];exact this
     obtain⟨i,hi,rfl⟩:=List.mem_iff_getElem.1 BX;have alL:o.toNat<d.nodes.length:=by have:=ho2.1;have:=ho2.2;omega
     have h9:=(h.kid o.toNat alL i hi).1;have h9:(iG d o).kids.getD i 0<(o.toNat:Int):=h9;rw[a0I hi]at h9;exact ih _ (hcv.2 (by omega)) (by omega)
    rw[hkm]at this;have hv:(CY d (t.1.idxOf o)).var=(CY d o.toNat).var:=(by rw[show CY d (t.1.idxOf o)=d.nodes[t.1.idxOf o]from hg _ Ls,<-this]);have qJ:(CY d (t.1.idxOf o)).kids=(CY d o.toNat).kids:=(by rw[show CY d (t.1.idxOf o)=d.nodes[t.1.idxOf o]from hg _ Ls,<-this]);have h8:=hd.nodes _ _ Ls (by have:=ho2.1;have:=ho2.2;omega) hv qJ;unfold phi;rw[if_neg (by have:=ho2.1;omega),h8];have:=ho2.1;omega
  refine⟨abD l2 fun j hj=>?_,e2⟩;have hm:=List.getElem_mem hj;have:=key ((t.1[j]).toNat+1) _ hm (by omega);unfold phi at this;rw[if_neg (by have:=(ht.n2 _ hm).1;omega)]at this;rw[<-this];have:t.1.idxOf t.1[j]=j:=by
   have h5:=List.idxOf_lt_length_iff.2 hm;exact (List.getElem_inj (i:=t.1.idxOf t.1[j]) (j:=j) (h₀:=h5) (h₁:=hj) ht.n1).1 (List.getElem_idxOf h5)
  rw[this]
 rintro⟨h1,h2⟩;obtain⟨t1,t2⟩:=t;simp only at h1 h2;subst h1 h2;refine⟨?_,?_,a7b (d:=d) he hw.root hc⟩
 ·exact a9n d.ends (fun e=>d.ends.getD e.toNat V0) fun j hj=>abC hj
 refine a9n d.nodes _ fun j hj=>?_;have hkm:(iG d (j:Nat)).kids.map (phi (a0E d.nodes.length,a0E d.ends.length))=(iG d (j:Nat)).kids:=by
  conv=>rhs;rw[<-List.map_id (iG d (j:Nat)).kids]
  apply List.map_congr_left;intro k BX;exact a7b (d:=d) he (hW _ (dB hj) k BX) (hk _ (by show (j:Int)∈a0E _;unfold a0E;rw[List.mem_map];exact⟨j,List.mem_range.2 hj,rfl⟩) k BX)
 rw[hkm,hg j hj]
theorem acp {d:Dg}(h:SC d)(hw:DgR d)(he:d.ends.length<=2^61)(hn:d.nodes.length<=6000):Qa d=d↔KU d=true:=by
 have main:DgD d->(Qa d=d↔(srN d d.root=a0E d.nodes.length∧srE d d.root=a0E d.ends.length)):=fun hd=>by
  have hr:d.root+1<6002:=by have:=h.root.1;omega
  have ha:=afJ h hw hd he 6002 d.root ([],[]) hr sr0 (fun o ho=>by cases ho) h.root (by omega);have hs:=a4D h 6002 d.root ([],[]) sr0 h.root;have hi:=agL h hw hd he hs ha.kids ha.cov;have e0:KS d ([],[])=cl0:=rfl;have e1:=ha.eq;rw[e0]at e1;unfold srN srE;rw[<-hi];unfold Qa;rw[e1];obtain⟨d1,d2,d3,d4,d5⟩:=d;simp
 rw[adt];constructor
 ·intro e;have hd:=aco h e;exact⟨hd,(main hd).1 e⟩
 rintro⟨hd,h2⟩;exact (main hd).2 h2
open Go Tw Pv fZ
noncomputable abbrev HCw (l:Lo)(x:Cs):List (PB bM):=[.list false false 3 l.s,.list false false 3 l.o,.map (kV.es (a3k x.e)),.map (kK.es (a2h x.n)),mkC l.s l.o 12 13 0,.gone,.gone,.cells l.ps,.cells [.ptr 4 0 9],.map (kI.es (a5c x.k)),.cells [.map 9],.cells [.fn 202 [] pC],lsV x.e,lsB x.n]
theorem aja:Gd a6C:=aj8.ai4 6010 afE fun n hn hO hOl l hp=>by
 obtain⟨n,rfl⟩:∃k,n=k+6009:=⟨n-6009,by omega⟩;have h:ClP l:=hp _ (.head _);obtain⟨s,o,d⟩:=l;obtain⟨e1,e2,ht,he,hn6,hk,hsl,hol⟩:=h;obtain rfl:s=d.sizes:=e1;obtain rfl:o=d.order:=e2;have hO':∀m,n+1<=m->Ok m _:=fun m hm=>hOl m (by omega);have he:d.ends.length+1<=aO:=he;have hn6:d.nodes.length<=6000:=hn6;have hr:=ht.root.1;have hr:d.root<(d.nodes.length:Int):=hr;have pG:=sCl (N:=n+1) hO' ht he (by unfold aO;omega) hk 6002 d.root cl0 (by omega) aac ht.root (by omega);have dh:=alH (n:=n+6008) (hO' _ (by omega)) d.sizes d.order hsl hol;show Con _ _ _ _ _ (dA.put (Qa d)) _;unfold Qa;generalize Vr d 6002 d.root cl0=z at pG ⊢;obtain⟨v,e,nd,k⟩:=z;exact dS hX (hO (n+6009) (by omega)) (by kernel_rfl) (.fr [] dh (.frR (H2:=HCw (loD d) ⟨e,nd,k⟩) [1,2,3,4,5,6,7,0,8,9,10,11] [7,8,10,11] pG .rr))
open Go Tw Pv fZ
theorem abE {d:Dg}(h:SC d):∀(F:Nat) (r:Int) (x:Cs),(∀b∈x.n,b.kids.length<=12)->ES d r d.nodes.length->∀b∈(Vr d F r x).2.n,b.kids.length<=12
 | 0,_,_,hx,_=>hx
 |F+1,r,x,hx,hr=>by
  unfold Vr;by_cases c:r<0
  ·rw[if_pos (by simpa using c)];exact hx
  rw[if_neg (by simpa using c)];split
  ·exact hx
  have aN:r.toNat<d.nodes.length:=by have:=hr.1;omega
  have hb:=a3U (d:=d) (fun y=>∀b∈y.n,b.kids.length<=12) (F:=F) (r:=r) hx (fun j y hj hy=>abE h F _ y hy (by
   have h9:=h.kid r.toNat aN j hj;have h8:=h9.1;have h8:(iG d r).kids.getD j 0<(r.toNat:Int):=h8;exact⟨by have:=hr.1;omega,h9.2⟩))
  intro b hbm;simp only[Yg]at hbm;split at hbm
  ·exact hb.2 b hbm
  split at hbm
  ·exact hb.2 b hbm
  rcases List.mem_append.1 hbm with hbm|hbm
  ·exact hb.2 b hbm
  rw[List.mem_singleton.1 hbm];show List.length _<=12;rw[hb.1];exact h.aap r.toNat aN
theorem a7c {d:Dg}(h:DgR d)(he:d.ends.length+1<=aO)(hs:d.sizes.length<=aO)(ho:d.order.length<=aO)(h0:(qx d).2=0):(qx d).1=loD d∧ClP (loD d):=by
 rw[a8b h (by omega)]at h0 ⊢;have h0:iE d=0:=h0;have hc:=wI ho (show d.ends.length<=aO by omega) (by simp[h0]);have hf:(jy d.sizes d.order != 0)=false:=by
  cases e:jy d.sizes d.order != 0
  ·rfl
  unfold iE at h0;rw[if_pos e]at h0;simp[h0]at e
 refine⟨by rw[if_neg (by rw[hf];simp)],rfl,rfl,hc.1,he,hc.2,fun i hi=>?_,hs,ho⟩;have h1:=hc.1.ksz i hi;have h2:=hc.1.var i hi;have h3:=(O5 hf).sz _ (KP (s:=d.sizes) (k:=(CY d i).var.toNat) (by have:=h2.2;have:=h2.1;omega));have h1:((CY d i).kids.length:Int)=d.sizes.getD (CY d i).var.toNat 0:=h1;show 1<=(CY d i).kids.length;omega
theorem aam {d:Dg}(h:SC d)(hn:d.nodes.length<=6000):(Qa d).ends.length<=d.ends.length∧(Qa d).nodes.length<=6000∧∀b∈(Qa d).nodes,b.kids.length<=12:=by
 have hc:=abv h 6002 d.root cl0 aac h.root;refine⟨hc.aj1,?_,abE h 6002 d.root cl0 (by simp) h.root⟩;have h1:=hc.aap;have h2:=hc.n2;show (Vr d 6002 d.root cl0).2.n.length<=6000;omega
theorem acr {d:Dg}(h:DgR d)(hs:d.sizes.length<=aO)(ho:d.order.length<=2^20)(he:d.ends.length+1<=aO)(h0:((qx d).2==0)=true):ClP (qx d).1∧(Qa (qx d).1.d).sizes.length<=aO∧(Qa (qx d).1.d).order.length<=aO∧(Qa (qx d).1.d).ends.length<=aO∧(Qa (qx d).1.d).nodes.length<=aO∧∀k,k<(Qa (qx d).1.d).nodes.length->((Qa (qx d).1.d).nodes.getD k SB).kids.length<=aO:=by
 have ho:d.order.length<=aO:=by unfold aO;omega
 obtain⟨h1,h2⟩:=a7c h he hs ho (by simpa using h0);rw[h1];obtain⟨a,b,c⟩:=aam h2.t h2.n;refine⟨h2,hs,ho,?_,?_,fun k hk=>?_⟩
 ·have a:(Qa d).ends.length<=d.ends.length:=a;show (Qa d).ends.length<=aO;omega
 ·have b:(Qa d).nodes.length<=6000:=b;show (Qa d).nodes.length<=aO;unfold aO;omega
 exact m12 (c _ (ad9 hk))
theorem ajb:Gd a6D:=aja.add fun n hO p hp=>dS hX hO (by kernel_rfl) (.o (hp _ (.tail _ (.head _))) (.o (hp _ (.tail _ (.tail _ (.head _)))) (.o (by have h9:p.ends.length+1<=aO:=hp _ (.tail _ (.tail _ (.tail _ (.head _))));show p.ends.length<=aO;omega) (.sh (fun h=>have q:=acr (hp _ (.head _)) (hp _ (.tail _ (.head _))) (hp _ (.tail _ (.tail _ (.head _)))) (hp _ (.tail _ (.tail _ (.tail _ (.head _))))) h;.o q.1 (.o q.2.1 (.o q.2.2.1 (.o q.2.2.2.1 (.o q.2.2.2.2.1 (.o q.2.2.2.2.2 (.ss .rr .rr))))))) fun _=>.rr))))
theorem a7d {d:Dg}(h:DgR d)(hs:d.sizes.length<=aO)(ho:d.order.length<=aO)(he:d.ends.length+1<=aO):oH d=(if (jy d.sizes d.order != 0)=true then lo0 else loD d,a6k d):=by
 have h9:=a8b h (show d.ends.length<=aO by omega);unfold oH a6k;by_cases h0:(qx d).2=0
 ·obtain⟨h1,h2⟩:=a7c h he hs ho h0;have h3:=acp h2.t h (show d.ends.length<=2^61 by unfold aO at he;omega) h2.n;have h4:iE d=0:=by rw[h9]at h0;exact h0
  rw[if_pos (show ((qx d).2==0)=true by simpa using h0),h1,h4,if_neg (show ¬(((0:Int) != 0)=true)by simp)];rw[h9]at h1;show (if (!(a0H (Qa d) d))=true then (loD d,4)else qx d)=_;have h1:(if (jy d.sizes d.order != 0)=true then lo0 else loD d)=loD d:=h1;rw[h9,h1];by_cases h5:Qa d=d
  ·rw[if_neg (show ¬((!(a0H (Qa d) d))=true)by rw[abw.2 h5];simp),if_neg (show ¬((!(KU d))=true)by rw[h3.1 h5];simp),h4]
  have h6:a0H (Qa d) d=false:=by
   cases e:a0H (Qa d) d
   ·rfl
   exact absurd (abw.1 e) h5
  have h7:KU d=false:=by
   cases e:KU d
   ·rfl
   exact absurd (h3.2 e) h5
  rw[if_pos (show (!(a0H (Qa d) d))=true by rw[h6];rfl),if_pos (show (!(KU d))=true by rw[h7];rfl)]
 have h4:¬iE d=0:=by rw[h9]at h0;exact h0
 rw[if_neg (show ¬(((qx d).2==0)=true)by simpa using h0),h9,if_pos (show (iE d != 0)=true by simpa using h4)]
end Go.Proofs.YtjkgcifieggcpaaGreat
namespace fZ
def a3E:List Int->List Int->List Int->List (List Int)
 |f::fs,t::ts,x::p=>(a3E fs ts p).map (x::·)++(List.range (t-x).toNat).flatMap fun (k:Nat)=>(a3E fs ts fs).map ((x+1+(k:Int))::·)
 |_,_,_=>[[]]
theorem a3l:∀{f t p:List Int},LeB t p->LeB t f->a3E f t p=p::(match HY f t p with|some q=>a3E f t q|none=>[])
 |[],[],[],_,_=>rfl
 |f::fs,t::ts,x::p,h,hf=>by
  have ih:=a3l h.2 hf.2;simp only[a3E,HY];rw[ih];cases hn:HY fs ts p with
  |some q=>rfl
  |none=>
   by_cases e:x=t
   ·subst e;simp
   have hx:x<t:=by have:=h.1;omega
   obtain⟨m,hm⟩:∃m,(t-x).toNat=m+1:=⟨(t-x).toNat-1,by omega⟩;rw[if_neg e,hm,List.range_succ_eq_map];simp only[List.map_cons,List.map_nil,List.cons_append,List.nil_append,List.flatMap_cons,List.flatMap_map];have e1:∀k:Nat,x+1+((Nat.succ k:Nat):Int)=x+1+1+(k:Int):=fun k=>by rw[Nat.succ_eq_add_one];push_cast;omega
   show _=(x::p)::a3E (f::fs) (t::ts) ((x+1)::fs);simp only[a3E];rw[show (t-(x+1)).toNat=m by omega];simp only[e1];simp
 |[],_::_,_,_,hf=>hf.elim
 |_::_,[],_,_,hf=>hf.elim
 |[],[],_::_,h,_=>h.elim
 |_::_,_::_,[],h,_=>h.elim
theorem a7e:∀{f t p:List Int} (a b x:Int),t.length=f.length->p.length=f.length->HY (f++[a]) (t++[b]) (p++[x])=if x=b then (HY f t p).map (·++[a])else some (p++[x+1])
 |[],[],[],a,b,x,_,_=>by simp only[List.nil_append,HY];split<;>rfl
 |f::fs,t::ts,y::p,a,b,x,h1,h2=>by
  have ih:=a7e (f:=fs) (t:=ts) (p:=p) a b x (by simpa using h1) (by simpa using h2);simp only[List.cons_append,HY,ih];by_cases e:x=b
  ·rw[if_pos e,if_pos e];cases hn:HY fs ts p with
   |some q=>rfl
   |none=>simp only[Option.map_none];split<;>rfl
  rw[if_neg e,if_neg e]
 |[],_::_,_,_,_,_,h,_=>by simp at h
 |[],[],_::_,_,_,_,_,h=>by simp at h
 |_::_,[],_,_,_,_,h,_=>by simp at h
 |_::_,_::_,[],_,_,_,_,h=>by simp at h
def abG (f t p:List Int):Option (List Int):=if (car f t p.length p).1=0 then none else some ((car f t p.length p).2.set ((car f t p.length p).1-1) ((car f t p.length p).2.getD ((car f t p.length p).1-1) 0+1))
theorem a9o:∀(k:Nat) {f t p1 p2:List Int},t.length=f.length->p1.length=k->k<=f.length->(if (car f t k (p1++p2)).1=0 then none else some ((car f t k (p1++p2)).2.set ((car f t k (p1++p2)).1-1) ((car f t k (p1++p2)).2.getD ((car f t k (p1++p2)).1-1) 0+1)))=(HY (f.take k) (t.take k) p1).map (·++p2)
 | 0,f,t,p1,p2,h1,h2,h3=>by
  rw[List.eq_nil_of_length_eq_zero h2];simp[car,HY]
 |k+1,f,t,p1,p2,h1,h2,h3=>by
  obtain⟨q,x,rfl⟩:∃q x,p1=q++[x]:=by
   rcases List.eq_nil_or_concat p1 with rfl|⟨q,x,e⟩
   ·cases h2
   exact⟨q,x,by simpa using e⟩
  have hq:q.length=k:=by simpa using h2
  have hf:f.take (k+1)=f.take k++[f.getD k 0]:=by rw[List.take_add_one,List.getElem?_eq_getElem (by omega)];simp[List.getD,List.getElem?_eq_getElem (show k<f.length by omega)]
  have ht:t.take (k+1)=t.take k++[t.getD k 0]:=by rw[List.take_add_one,List.getElem?_eq_getElem (by omega)];simp[List.getD,List.getElem?_eq_getElem (show k<t.length by omega)]
  have hg:(q++[x]++p2).getD k 0=x:=by simp[List.getD,<-hq]
  have hs:∀y,(q++[x]++p2).set k y=q++(y::p2):=fun y=>by rw[List.append_assoc,<-hq,List.set_append_right _ _ (Nat.le_refl _)];simp
  rw[hf,ht,a7e _ _ _ (by simp;omega) (by simp;omega)];simp only[car,hg];by_cases e:x=t.getD k 0
  ·rw[if_pos e,if_pos e,hs,a9o k h1 hq (by omega),Option.map_map];congr 1
   funext r
   simp
  rw[if_neg e,if_neg e,if_neg (by omega)];simp only[Nat.add_sub_cancel,hg,hs,Option.map_some];simp
theorem a9p {f t p:List Int}(h1:t.length=f.length)(h2:p.length=f.length):abG f t p=HY f t p:=by
 have:=a9o f.length (f:=f) (t:=t) (p1:=p) (p2:=[]) h1 h2 (Nat.le_refl _);unfold abG;rw[h2];rw[List.append_nil]at this;rw[this,List.take_length,List.take_of_length_le (by omega)];cases hn:HY f t p with
 |none=>rfl
 |some q=>simp
theorem a7f:∀{s:List Int},BN s->a3E (s.map fun _=>0) (s.map (·-1)) (s.map fun _=>0)=(List.range (cnt s)).map fun (k:Nat)=>a2o s k
 |[],_=>rfl
 |a::s,h=>by
  have ih:=a7f h.tail;have ha:=h a (List.mem_cons_self ..);have hp:=qp h.tail;have hc:((cnt s:Nat):Int)=dD s:=by show ((dD s).toNat:Int)=_;omega
  obtain⟨m,hm⟩:∃m:Nat,a=m+1:=⟨(a-1).toNat,by omega⟩;subst hm;have alM:cnt ((m+1:Int)::s)=(m+1)*cnt s:=by
   show ((m+1:Int)*dD s).toNat=_;rw[<-hc];have:((m:Int)+1)*((cnt s:Nat):Int)=(((m+1)*cnt s:Nat):Int):=by push_cast;rfl
   rw[this,Int.toNat_natCast]
  have oU:∀k:Nat,k<m+1->(List.range (cnt s)).map (fun (j:Nat)=>a2o ((m+1:Int)::s) ((k*cnt s+j:Nat):Int))=((List.range (cnt s)).map fun (j:Nat)=>a2o s j).map ((k:Int)::·):=fun k hk=>by
   rw[List.map_map];apply List.map_congr_left;intro j hj;have hj:=List.mem_range.1 hj;simp only[a2o,Function.comp];have e1:(((k*cnt s+j:Nat):Int))=(k:Int)*dD s+j:=by rw[<-hc];push_cast;rfl
   have e2:((k:Int)*dD s+j)/dD s=k:=by
    rw[Int.add_comm,Int.add_mul_ediv_right _ _ (by omega),Int.ediv_eq_zero_of_lt (by omega) (by omega)];omega
   have e3:((k:Int)*dD s+j)%dD s=j:=by
    rw[Int.add_comm,Int.add_mul_emod_self_right,Int.emod_eq_of_lt (by omega) (by omega)]
   rw[e1,e2,Int.emod_eq_of_lt (by omega) (by omega),<-a5t _ h.tail,e3]
  have DK:∀n:Nat,n<=m+1->(List.range (n*cnt s)).map (fun (j:Nat)=>a2o ((m+1:Int)::s) j)=(List.range n).flatMap fun (k:Nat)=>((List.range (cnt s)).map fun (j:Nat)=>a2o s j).map ((k:Int)::·):=by
   intro n
   induction n with
   |zero=>intro _;simp
   |succ n ih2=>
    intro hn;rw[Nat.succ_mul,List.range_add,List.map_append,ih2 (by omega),List.range_succ,List.flatMap_append];rw[List.flatMap_cons,List.flatMap_nil,List.append_nil,<-oU n (by omega),List.map_map];rfl
  rw[alM,DK (m+1) (Nat.le_refl _),List.range_succ_eq_map];simp only[List.map_cons,a3E,ih,List.flatMap_cons,List.flatMap_map];rw[show ((m:Int)+1-1-0).toNat=m by omega];congr 1;congr 1
  funext k
  congr 1
  funext r
  congr 1;omega
end fZ
namespace Pv
open Go Tw
def a1S:Code->Option (Code×Code)
 |.seq a b=>match a1S a with
  |some r=>some r
  |none=>a1S b
 |.cond _ a b=>match a1S a with
  |some r=>some r
  |none=>a1S b
 |.block _ b=>a1S b
 |.loop b=>a1S b
 |.rangeFunc _ _ a b=>some (a,b)
 |_=>none
def a0b (P:Program)(f:Nat):Code:=
 match FP P f with
 |some t=>match a1S t.body with
  |some (a,_)=>a
  |none=>.skip
 |none=>.skip
def a0X (P:Program)(f:Nat):Code:=
 match FP P f with
 |some t=>match a1S t.body with
  |some (_,b)=>b
  |none=>.skip
 |none=>.skip
end Pv
namespace Go.Proofs.YtjkgcifieggcpaaGreat
open Go Tw Pv fZ
theorem ajc:Gd a6E:=ajb.add fun n hO p hp=>dS hX hO (by kernel_rfl) .rr
abbrev aeY (l:Lo)(p:List Int)(r:Int)(x:List (Nat×PE bM)):aV bM:=⟨[(1,xL 3 p),(2,.val (.fn 241 [] [])),(3,.loc 0 0),(7,xi r)]++x,[l.ps],[]⟩
theorem alN {n:Nat}(hO:Ok n a6E){l:Lo}(h:SC l.d)(hm:l.d.nodes.length<=6000){p:List Int}(hp:Ae l.d.sizes p=true):Lp n 240 0 (aeY l p l.d.root []) (.exit 0) (aeY l p (atR l.d p) [(12,xl false)]):=by
 have h0:l.d.root<(l.d.nodes.length:Int):=h.root.1;have ha:=a5h h hp 6001 l.d.root (by omega) h.root;have JJ:=ad4 6001 l.d.root ha.1;refine acY (st:=fun r=>aeY l p r []) (g:=gAt l.d p) (out:=fun r=>(.exit 0,aeY l p r [(12,xl false)])) (fun r=>ES l.d r l.d.nodes.length) JJ (by kernel_rfl) (by decide) h.root ?_ ?_
 ·intro r r1 hr e;unfold gAt at e;split at e
  ·rename_i c;have c:0<=r:=(by simpa using c);cases e;have:=(Vk h hp (r:=r) ⟨c,hr.1⟩).2.2;have a3:r<(l.d.nodes.length:Int):=hr.1;obtain⟨a1,a2⟩:=this;exact⟨by omega,a2⟩
  cases e
 intro r m r' hr ih;by_cases c:0<=r
 ·have hk:=Vk h hp (r:=r) ⟨c,hr.1⟩;have t1:decide (r>=0)=true:=by simpa using c
  have e:gAt l.d p r=.inl ((iG l.d r).kids.getD (p.getD (iG l.d r).var.toNat 0).toNat 0):=by unfold gAt;rw[if_pos t1]
  have g:=ih _ e;rw[e];have hr2:CB r l.d.nodes.length:=⟨c,hr.1⟩;exact round hX hO (by kernel_rfl) (.b t1 (.o hr2 (.o hr2 (.o hk.1 (.o hk.2.1 (.go g))))))
 have t1:decide (r>=0)=false:=by simpa using c
 have e:gAt l.d p r=.inr r:=by unfold gAt;rw[if_neg (by rw[t1];simp)]
 rw[e];dsimp only[a3H];exact round hX hO (by kernel_rfl) (.b t1 .ex)
theorem ajd:Gd a6F:=ajc.add fun n hO p hp=>dS hX hO (by kernel_rfl) (.w (alN hO (hp _ (.head _)) (hp _ (.tail _ (.head _))) (hp _ (.tail _ (.tail _ (.head _))))) .rr)
abbrev fPl (d:Dg):PV bM:=.fn 239 [.agg [.bK 3 d.sizes false,.bK 3 d.order false]] []
abbrev adv (d:Dg):List (Nat×PE bM):=[(1,.val (.ptr 0 0 7)),(2,.val (.ptr 1 0 1)),(7,.val (fPl d))]
noncomputable abbrev LRL (d:Dg)(rd:Bool)(gG:Option Code):PB bM:=.loop rd 206 (ntP Tryz.prog 206) (adv d) [8,9] (a0b Tryz.prog 206) (a0X Tryz.prog 206) gG
noncomputable abbrev ML (d:Dg)(rd:Bool)(acc:List V):List (PB bM):=[.cells (loD d).ps,.cells [.own 2],lsV acc,.mark,LRL d rd none]
noncomputable abbrev ML' (d:Dg)(p:List Int)(acc:List V):List (PB bM):=[.cells (loD d).ps,.cells [.own 6],.gone,.mark,LRL d true none,oI true true p,lsV acc]
theorem yL {n:Nat}(hO:Ok n a6F){d:Dg}(h:SC d)(hm:d.nodes.length<=6000){p:List Int}(hp:Ae d.sizes p=true)(k:Int)(acc:List V)(hl:acc.length+1<=aO):qC X0 Tryz.prog (ApN (n+1)) (.jk 4) [.int .i64 k,.own 5] (ML d true acc++[oI true true p]) (.bool true) (ML' d p (acc++[a6m d p])):=by
 have q1:iq X0 Tryz.prog T (ApN n) LL 206 true (ntP Tryz.prog 206) 6 (a0b Tryz.prog 206) ⟨a0u (adv d) [8,9] [.int .i64 k,.own 5],[],ML d true acc++[oI true true p]⟩ .norm ⟨[(1,.val (.ptr 0 0 7)),(2,.val (.ptr 1 0 1)),(4,.val (.own 5))],[],ML d true acc++[oI true true p]⟩:=a0B hX hO (by kernel_rfl) .xx;have he:CB (BO (atR d p)) d.ends.length:=abl h hm hp;have hL:acc.length+([a6m d p]:List V).length<=aO:=hl;have q2:iq X0 Tryz.prog T (ApN n) LL 206 true (ntP Tryz.prog 206) 6 (a0X Tryz.prog 206) ⟨[(1,.val (.ptr 0 0 7)),(2,.val (.ptr 1 0 1)),(4,.val (.own 5))],[],ML d false acc++[oI true true p]⟩ .norm ⟨[],[],[.cells (loD d).ps,.cells [.own 7],.gone,.mark,LRL d false none,oI true true p,.list true true 79 [a6m d p],lsV (acc++[a6m d p])]⟩:=a0B hX hO (by kernel_rfl) (.o h (.o hm (.o hp (.o he (.o hL .xx)))));exact qC.gs hX (a3y hX (l:=4) rfl rfl (by kernel_rfl) q1 rfl q2 rfl) [.gc [7]] rfl
noncomputable abbrev wPl (d:Dg)(num:Int)(p:List Int)(acc:List V)(x:List (Nat×PE bM)):aV bM:=⟨[(1,.val (.jk 4)),(2,.loc 0 0),(4,.val (.own 5)),(5,xi num)]++x,[[.bK 3 d.sizes false,.bK 3 d.order false]],ML' d p acc⟩
def a7g (s:List Int)(x:Int×List Int):(Int×List Int)⊕(Int×List Int):=if decide (x.1>=0)=true then (if (x.2.getD x.1.toNat 0==IntKind.i64.wrap (s.getD x.1.toNat 0-1))=true then .inl (IntKind.i64.wrap (x.1-1),x.2.set x.1.toNat 0)else .inr x)else .inr x
theorem aeZ {s:List Int}(hs:BN s){k:Nat}(hk:k<s.length):IntKind.i64.wrap (s.getD k 0-1)=(esI s).getD k 0:=by
 have h1:=hs _ (KP hk);rw[CX (by omega) (by omega)];simp[List.getD,List.getElem?_eq_getElem hk]
theorem a9r {s:List Int}{k:Nat}:(zsI s).getD k 0=0:=by
 simp only[List.getD,List.getElem?_map];cases s[k]?<;>rfl
theorem ajf {k:Nat}(hk:k<=6):IntKind.i64.wrap (((k+1:Nat):Int)-1-1)=(k:Int)-1:=by rw[CX (by omega) (by omega)];omega
theorem adw {s:List Int}(hs:BN s)(hl:s.length<=6):∀(k:Nat) (p:List Int),k<=s.length->itF (a7g s) (k+1) ((k:Int)-1,p)=some (((car (zsI s) (esI s) k p).1:Int)-1,(car (zsI s) (esI s) k p).2)
 | 0,p,_=>by
  simp only[itF,a7g,car];rw[if_neg (by simp)]
 |k+1,p,h=>by
  rw[itF];simp only[a7g,car];have hk:(((k+1:Nat):Int)-1).toNat=k:=by omega
  rw[if_pos (decide_eq_true (by omega)),hk,aeZ hs (by omega),ajf (by omega)];by_cases e:p.getD k 0=(esI s).getD k 0
  ·rw[if_pos (by simpa using e),if_pos e,a9r];exact adw hs hl k _ (by omega)
  rw[if_neg (by simpa using e),if_neg e]
theorem alO {n:Nat}(hO:Ok n a6F){d:Dg}(hf:nI d.sizes)(num:Int){p:List Int}(hp:p.length=d.sizes.length)(acc:List V):iq X0 Tryz.prog T (ApN n) LL 239 false (ntP Tryz.prog 239) 5 (.loop (a5K Tryz.prog 239 1)) (wPl d num p acc [(6,xi ((p.length:Int)-1))]) (.exit 2) (wPl d num (car (zsI d.sizes) (esI d.sizes) p.length p).2 acc [(6,xi (((car (zsI d.sizes) (esI d.sizes) p.length p).1:Int)-1)),(35,xl false)]):=by
 have JJ:=adw hf.sz hf.len p.length p (by omega);refine a3K (X:=X0) (P:=Tryz.prog) (T:=T) (st:=fun x=>wPl d num x.2 acc [(6,xi x.1)]) (g:=a7g d.sizes) (s:=((p.length:Int)-1,p)) (out:=fun x=>(.exit 2,wPl d num x.2 acc [(6,xi x.1),(35,xl false)])) (fun x=>x.2.length=d.sizes.length∧x.1<d.sizes.length) JJ (by kernel_rfl) (show p.length+1<=LL by have:=hf.len;have:=LLm;unfold aO at this;omega) ⟨hp,by show (p.length:Int)-1<_;omega⟩ ?_ ?_
 ·rintro⟨x,q⟩ ⟨y,r⟩ ⟨h1,h2⟩ e;unfold a7g at e;split at e
  ·rename_i c;split at e
   ·cases e;have c:x>=0:=(by simpa using c);have h2:x<(d.sizes.length:Int):=h2;have:=hf.len;refine⟨by simpa using h1,?_⟩;show IntKind.i64.wrap (x-1)<_;rw[CX (by omega) (by omega)];omega
   cases e
  cases e
 rintro⟨x,q⟩ m r' ⟨h1,h2⟩ ih;by_cases c:x>=0
 ·have t1:decide (x>=0)=true:=by simpa using c
  have i1:CB x q.length:=⟨c,by show x<_;rw[h1];exact h2⟩;have i2:CB x d.sizes.length:=⟨c,h2⟩;cases t2:q.getD x.toNat 0==IntKind.i64.wrap (d.sizes.getD x.toNat 0-1)
  ·have e:a7g d.sizes (x,q)=.inr (x,q):=by unfold a7g;rw[if_pos t1,if_neg (by simp only[];rw[t2];simp)]
   rw[e];dsimp only[a3H];exact round hX hO (by kernel_rfl) (.b t1 (.o i1 (.o i2 (.b t2 .ex))))
  have e:a7g d.sizes (x,q)=.inl (IntKind.i64.wrap (x-1),q.set x.toNat 0):=by unfold a7g;rw[if_pos t1,if_pos t2]
  have g:=ih _ e;rw[e];exact round hX hO (by kernel_rfl) (.b t1 (.o i1 (.o i2 (.b t2 (.o i1 (.go g))))))
 have t1:decide (x>=0)=false:=by simpa using c
 have e:a7g d.sizes (x,q)=.inr (x,q):=by unfold a7g;rw[if_neg (by simp only[];rw[t1];simp)]
 rw[e];dsimp only[a3H];exact round hX hO (by kernel_rfl) (.b t1 .ex)
structure Pf where
 num:Int
 last:Int
 p:List Int
 acc:List V
def gPl (d:Dg)(x:Int×List Int×List V):(Int×List Int×List V)⊕Pf:=if decide ((((cr d.sizes x.2.1).1:Nat):Int)-1<0)=true then .inr ⟨x.1,(((cr d.sizes x.2.1).1:Nat):Int)-1,(cr d.sizes x.2.1).2,x.2.2++[a6m d x.2.1]⟩
 else .inl (IntKind.i64.wrap (x.1+1),(cr d.sizes x.2.1).2.set ((((cr d.sizes x.2.1).1:Nat):Int)-1).toNat (IntKind.i64.wrap ((cr d.sizes x.2.1).2.getD ((((cr d.sizes x.2.1).1:Nat):Int)-1).toNat 0+1)),x.2.2++[a6m d x.2.1])
theorem a8x {f t:List Int}:∀(k:Nat) (p:List Int),(car f t k p).1<=k∧(car f t k p).2.length=p.length
 | 0,p=>⟨Nat.le_refl _,rfl⟩
 |k+1,p=>by
  simp only[car];split
  ·have:=a8x (f:=f) (t:=t) k (p.set k (f.getD k 0));exact⟨by omega,by simpa using this.2⟩
  exact⟨Nat.le_refl _,rfl⟩
theorem a8y {s:List Int}(hs:BN s):∀(k:Nat) (p:List Int),Ae s p=true->Ae s (car (zsI s) (esI s) k p).2=true
 | 0,p,h=>h
 |k+1,p,h=>by
  simp only[car];split
  ·rw[a9r];rcases Nat.lt_or_ge k s.length with hk|hk
   ·have h1:=hs _ (KP hk);exact a8y hs k _ (a94 (ch:=(k:Int)) h (dB hk) ⟨by omega,by rw[Int.toNat_natCast];omega⟩)
   have hp:=a0Y h;rw[List.set_eq_of_length_le (by omega)];exact a8y hs k _ h
  exact h
theorem a1k:∀{s p:List Int},Ae s p=true->LeB (esI s) p
 |[],[],_=>trivial
 |a::s,x::p,h=>by
  simp only[Ae,Bool.and_eq_true,decide_eq_true_eq]at h;exact⟨by show x<=a-1;omega,a1k h.2⟩
 |[],_::_,h=>by simp[Ae]at h
 |_::_,[],h=>by simp[Ae]at h
theorem a2b:∀{s:List Int},BN s->Ae s (zsI s)=true
 |[],_=>rfl
 |a::s,h=>by
  have:=h a (List.mem_cons_self ..);simp only[zsI,List.map_cons,Ae,Bool.and_eq_true,decide_eq_true_eq];exact⟨by omega,a2b h.tail⟩
theorem ady {d:Dg}(hf:nI d.sizes){p:List Int}(hp:Ae d.sizes p=true)(num:Int)(acc:List V):match HY (zsI d.sizes) (esI d.sizes) p with
  |none=>∃y:Pf,y.acc=acc++[a6m d p]∧gPl d (num,p,acc)=.inr y
  |some q=>Ae d.sizes q=true∧gPl d (num,p,acc)=.inl (IntKind.i64.wrap (num+1),q,acc++[a6m d p]):=by
 have hl:=a0Y hp;have hc:=a8x (f:=zsI d.sizes) (t:=esI d.sizes) p.length p;have hd:=a8y hf.sz p.length p hp;rw[<-a9p (by simp) (by simpa using hl)];unfold abG;by_cases c:(car (zsI d.sizes) (esI d.sizes) p.length p).1=0
 ·rw[if_pos c];refine⟨⟨num,(((cr d.sizes p).1:Nat):Int)-1,(cr d.sizes p).2,acc++[a6m d p]⟩,rfl,?_⟩;unfold gPl;rw[if_pos (decide_eq_true (by show (((car (zsI d.sizes) (esI d.sizes) p.length p).1:Nat):Int)-1<0;omega))]
 ·rw[if_neg c];have hk:(car (zsI d.sizes) (esI d.sizes) p.length p).1-1<d.sizes.length:=by omega
  have e1:((((car (zsI d.sizes) (esI d.sizes) p.length p).1:Nat):Int)-1).toNat=(car (zsI d.sizes) (esI d.sizes) p.length p).1-1:=by omega
  have hz:=hf.sz _ (KP hk);have hdg:=(KO.1 hd).2 _ hk;have e2:IntKind.i64.wrap ((car (zsI d.sizes) (esI d.sizes) p.length p).2.getD ((car (zsI d.sizes) (esI d.sizes) p.length p).1-1) 0+1)=(car (zsI d.sizes) (esI d.sizes) p.length p).2.getD ((car (zsI d.sizes) (esI d.sizes) p.length p).1-1) 0+1:=CX (by omega) (by omega);have hg:gPl d (num,p,acc)=.inl (IntKind.i64.wrap (num+1),(car (zsI d.sizes) (esI d.sizes) p.length p).2.set ((car (zsI d.sizes) (esI d.sizes) p.length p).1-1) ((car (zsI d.sizes) (esI d.sizes) p.length p).2.getD ((car (zsI d.sizes) (esI d.sizes) p.length p).1-1) 0+1),acc++[a6m d p]):=by
   unfold gPl;rw[if_neg (by rw[decide_eq_true_eq];show ¬((((car (zsI d.sizes) (esI d.sizes) p.length p).1:Nat):Int)-1<0);omega)];simp only[cr,e1,e2]
  refine⟨?_,hg⟩;have pG:(car (zsI d.sizes) (esI d.sizes) p.length p).2.length=d.sizes.length:=by rw[hc.2,hl]
  have hn:HY (zsI d.sizes) (esI d.sizes) p=some ((car (zsI d.sizes) (esI d.sizes) p.length p).2.set ((car (zsI d.sizes) (esI d.sizes) p.length p).1-1) ((car (zsI d.sizes) (esI d.sizes) p.length p).2.getD ((car (zsI d.sizes) (esI d.sizes) p.length p).1-1) 0+1)):=by
   rw[<-a9p (by simp) (by simpa using hl)];unfold abG;rw[if_neg c]
  have hle:=(a1k hp).next (a1k (a2b hf.sz)) hn;refine KO.2 ⟨by simpa using pG,fun j hj=>?_⟩;have hj1:=(KO.1 hd).2 j hj;have Ls:∀{t q:List Int},LeB t q->∀j,j<t.length->q.getD j 0<=t.getD j 0:=by
   intro t
   induction t with
   |nil=>intro q _ j h;simp at h
   |cons a t ih=>
    intro q h j hj;cases q with
    |nil=>exact h.elim
    |cons x q=>
     cases j with
     |zero=>exact h.1
     |succ j=>exact ih h.2 j (by simpa using hj)
  have h9:=Ls hle j (by simpa using hj);have h8:(esI d.sizes).getD j 0=d.sizes.getD j 0-1:=by simp[List.getD,List.getElem?_eq_getElem hj]
  refine⟨?_,by omega⟩;rw[DV (by omega)];split
  ·omega
  ·exact hj1.1
theorem afL {d:Dg}(hf:nI d.sizes):∀(m:Nat) (p:List Int) (num:Int) (acc:List V),Ae d.sizes p=true->(a3E (zsI d.sizes) (esI d.sizes) p).length<=m->∃y:Pf,y.acc=acc++(a3E (zsI d.sizes) (esI d.sizes) p).map (a6m d)∧itF (gPl d) m (num,p,acc)=some y
 | 0,p,num,acc,hp,hm=>by
  rw[a3l (a1k hp) (a1k (a2b hf.sz))]at hm;simp at hm
 |m+1,p,num,acc,hp,hm=>by
  have hb:=a3l (a1k hp) (a1k (a2b hf.sz));have hg:=ady hf hp num acc;cases hn:HY (zsI d.sizes) (esI d.sizes) p with
  |none=>
   rw[hn]at hb hg;obtain⟨y,h1,h2⟩:=hg;refine⟨y,by rw[hb,h1];rfl,by rw[itF,h2]⟩
  |some q=>
   rw[hn]at hb hg;obtain⟨h1,h2⟩:=hg;rw[hb]at hm ⊢;obtain⟨y,h3,h4⟩:=afL hf m q (IntKind.i64.wrap (num+1)) (acc++[a6m d p]) h1 (by simpa using hm);refine⟨y,by rw[h3];simp,by rw[itF,h2];exact h4⟩
noncomputable abbrev oPl (d:Dg)(y:Pf):Ex×aV bM:=(.ret,⟨[(1,.val (.jk 4)),(2,.loc 0 0),(4,.val (.own 5)),(5,xi y.num),(6,xi y.last),(42,xl true)],[[.bK 3 d.sizes false,.bK 3 d.order false]],ML' d y.p y.acc⟩)
theorem lPl {n:Nat}(hO:∀m,n<=m->Ok m a6F){d:Dg}(h:SC d)(hm:d.nodes.length<=6000)(y:Pf)(JJ:itF (gPl d) (cnt d.sizes) (0,zsI d.sizes,[])=some y)(hb:(a3E (zsI d.sizes) (esI d.sizes) (zsI d.sizes)).length<=cnt d.sizes):iq X0 Tryz.prog T (ApN (n+1)) LL 239 false (ntP Tryz.prog 239) 5 (.loop (a5K Tryz.prog 239 0)) (wPl d 0 (zsI d.sizes) [] []) (oPl d y).1 (oPl d y).2:=by
 have hf:=h.fine;refine a3K (X:=X0) (P:=Tryz.prog) (T:=T) (st:=fun x=>wPl d x.1 x.2.1 x.2.2 []) (g:=gPl d) (s:=(0,zsI d.sizes,[])) (out:=oPl d) (fun x=>Ae d.sizes x.2.1=true∧x.2.2.length+(a3E (zsI d.sizes) (esI d.sizes) x.2.1).length<=cnt d.sizes) JJ (by kernel_rfl) (show cnt d.sizes<=LL by have:=hf.a5y;have:=LLm;omega) ⟨a2b hf.sz,by simpa using hb⟩ ?_ ?_
 ·rintro⟨num,p,acc⟩ ⟨aol,q,aom⟩ ⟨h1,h2⟩ e;have h1:Ae d.sizes p=true:=h1;have h2:acc.length+(a3E (zsI d.sizes) (esI d.sizes) p).length<=cnt d.sizes:=h2;have hg:=ady hf h1 num acc;rw[a3l (a1k h1) (a1k (a2b hf.sz))]at h2;cases hn:HY (zsI d.sizes) (esI d.sizes) p with
  |none=>rw[hn]at hg;obtain⟨y,_,e2⟩:=hg;rw[e2]at e;cases e
  |some r=>
   rw[hn]at hg h2;obtain⟨g1,g2⟩:=hg;rw[g2]at e;cases e;exact⟨g1,by simp at h2 ⊢;omega⟩
 rintro⟨num,p,acc⟩ m r ⟨h1,h2⟩ ih;have h1:Ae d.sizes p=true:=h1;have h2:acc.length+(a3E (zsI d.sizes) (esI d.sizes) p).length<=cnt d.sizes:=h2;rw[a3l (a1k h1) (a1k (a2b hf.sz))]at h2;simp only[List.length_cons]at h2;have Sz:=hf.a5y;have hp:=a0Y h1;have hy:=yL (hO n (Nat.le_refl _)) h hm h1 num acc (by omega);have hl:=alO (hO (n+1) (by omega)) hf num hp (acc++[a6m d p]);rw[show (p.length:Int)-1=IntKind.i64.wrap ((p.length:Int)-1)by rw[CX (by omega) (by have:=hf.len;omega)]]at hl;have hc:=a8x (f:=zsI d.sizes) (t:=esI d.sizes) p.length p;have hgz:∀z:Nat×List Int,car (zsI d.sizes) (esI d.sizes) p.length p=z->gPl d (num,p,acc)=(if decide (((z.1:Nat):Int)-1<0)=true then .inr ⟨num,((z.1:Nat):Int)-1,z.2,acc++[a6m d p]⟩else .inl (IntKind.i64.wrap (num+1),z.2.set (((z.1:Nat):Int)-1).toNat (IntKind.i64.wrap (z.2.getD (((z.1:Nat):Int)-1).toNat 0+1)),acc++[a6m d p])):=by rintro _ rfl;rfl
 obtain⟨z,hz⟩:∃z,car (zsI d.sizes) (esI d.sizes) p.length p=z:=⟨_,rfl⟩;have hg:=hgz z hz;rw[hz]at hl hc;obtain⟨k,q⟩:=z;have hc:k<=p.length∧q.length=p.length:=hc;have hg:gPl d (num,p,acc)=(if decide ((k:Int)-1<0)=true then .inr ⟨num,(k:Int)-1,q,acc++[a6m d p]⟩else .inl (IntKind.i64.wrap (num+1),q.set ((k:Int)-1).toNat (IntKind.i64.wrap (q.getD ((k:Int)-1).toNat 0+1)),acc++[a6m d p])):=hg;cases t:decide (((k:Nat):Int)-1<0)
 ·have t':¬(((k:Nat):Int)-1<0):=by simpa using t
  rw[if_neg (by rw[t];simp)]at hg;have hi:CB ((k:Int)-1) q.length:=⟨by omega,by omega⟩;have g:=ih _ hg;rw[hg];exact round hX (hO (n+1) (by omega)) (by kernel_rfl) (.fr [0,1,6,3,4,5] hy (.b (rfl:(!true)=false) (.wG [.gc [5,7]] hl (.b t (.o hi (.o hi (.go g)))))))
 rw[if_pos t]at hg;rw[hg];exact round hX (hO (n+1) (by omega)) (by kernel_rfl) (.fr [0,1,6,3,4,5] hy (.b (rfl:(!true)=false) (.wG [.gc [5,7]] hl (.b t .re))))
theorem sPl {n:Nat}(hO:∀m,n<=m->Ok m a6F){d:Dg}(h:SC d)(hm:d.nodes.length<=6000):∃p,qC X0 Tryz.prog (ApN (n+2)) (fPl d) [.jk 4] (ML d true []) (.bH []) (ML' d p ((List.range (cnt d.sizes)).map fun (k:Nat)=>a6m d (a2o d.sizes k))):=by
 have hf:=h.fine;have DK:=a7f hf.sz;have hb:(a3E (zsI d.sizes) (esI d.sizes) (zsI d.sizes)).length=cnt d.sizes:=by rw[DK];simp
 obtain⟨y,h1,h2⟩:=afL hf (cnt d.sizes) (zsI d.sizes) 0 [] (a2b hf.sz) (by omega);have hl:=lPl hO h hm y h2 (by omega);rw[DK,List.map_map,List.nil_append]at h1;have h1:y.acc=(List.range (cnt d.sizes)).map fun (k:Nat)=>a6m d (a2o d.sizes k):=h1;rw[<-h1];refine⟨y.p,?_⟩;have e0:zsI d.sizes=List.replicate ((d.sizes.length:Nat):Int).toNat 0:=by rw[Int.toNat_natCast];exact List.map_const' ..
 rw[e0]at hl;have hs:(d.sizes.length:Int)<=(aO:Int):=by have:=hf.a9U;omega
 exact a2n hX (hO (n+1) (by omega)) (first:=[.agg [.bK 3 d.sizes false,.bK 3 d.order false]]) (cap:=[]) (by kernel_rfl) (.o (rfl:(d.sizes.length:Int)=(d.sizes.length:Int)) (.o (show (0:Int)<=(d.sizes.length:Int)by omega) (.o hs (.wG [.mv 2,.gc [5,6]] hl .er))))
theorem ajg:Gd a6G:=ajd.deep 3 fun n hn hO l hp=>by
 obtain⟨n,rfl⟩:∃k,n=k+2:=⟨n-2,by omega⟩;have h:LsP l:=hp _ (.head _);obtain⟨s,o,d⟩:=l;obtain⟨e1,e2,ht,hm⟩:=h;obtain rfl:s=d.sizes:=e1;obtain rfl:o=d.order:=e2;obtain⟨p,hs⟩:=sPl (n:=n) (fun m hm=>hO m (by omega)) ht hm;show Con _ _ _ _ _ (vsA.put (cellsD d)) _;unfold cellsD;generalize (List.range (cnt d.sizes)).map (fun (k:Nat)=>a6m d (a2o d.sizes k))=acc at hs ⊢;have hr:iq X0 Tryz.prog T (ApN (n+2)) LL 206 false (ntP Tryz.prog 206) 0 (.rangeFunc (.tmp 7) #[8,9] (a0b Tryz.prog 206) (a0X Tryz.prog 206)) ⟨adv d,[],[.cells (loD d).ps,.cells [.own 2],lsV []]⟩ .norm ⟨adv d,[],(ML' d p acc).set 4 (LRL d false (some .skip))⟩:=a5e hX (ps:=⟨adv d,[],[.cells (loD d).ps,.cells [.own 2],lsV []]⟩) rfl rfl hs rfl rfl;exact dS hX (hO (n+2) (by omega)) (by kernel_rfl) (.wG [.a4X 1 0 79] hr .rr)
theorem adz {d:Dg}(h:DgR d)(hs:d.sizes.length<=aO)(ho:d.order.length<=aO)(he:d.ends.length+1<=aO)(h0:((oH d).2 != 0)=false):LsP (oH d).1:=by
 rw[a7d h hs ho he]at h0 ⊢;have h0:a6k d=0:=by simpa using h0
 unfold a6k at h0;split at h0
 ·rename_i h1;simp[h0]at h1
 rename_i h1;have hc:=wI ho (show d.ends.length<=aO by omega) (by simpa using h1);have hf:(jy d.sizes d.order != 0)=false:=by
  cases e:jy d.sizes d.order != 0
  ·rfl
  unfold iE at h1;rw[if_pos e]at h1;exact absurd e h1
 refine⟨?_,?_,?_,?_⟩<;>simp only[hf]<;>first|rfl|exact hc.1|exact hc.2
theorem ajh:Gd a6H:=ajg.add fun n hO p hp=>dS hX hO (by kernel_rfl) (.o (hp _ (.head _)) (.o (hp _ (.tail _ (.head _))) (.o (hp _ (.tail _ (.tail _ (.head _)))) (.o (hp _ (.tail _ (.tail _ (.tail _ (.head _))))) (.sh (fun _=>.rn (.bH [.nil .slc,.int .i64 (oH p).2]) rfl) fun h=>.o (adz (hp _ (.head _)) (hp _ (.tail _ (.head _))) (by have h9:p.order.length<=2^20:=hp _ (.tail _ (.tail _ (.head _)));unfold aO;omega) (hp _ (.tail _ (.tail _ (.tail _ (.head _))))) h) .rr)))))
theorem adA {d:Dg}(h:DgR d)(hs:d.sizes.length<=aO)(ho:d.order.length<=aO)(he:d.ends.length+1<=aO):Yh d=if (a6k d != 0)=true then ([],a6k d)else (cellsD d,0):=by
 unfold Yh;rw[a7d h hs ho he];by_cases c:(a6k d != 0)=true
 ·rw[if_pos c,if_pos c]
 rw[if_neg c,if_neg c];have hf:(jy d.sizes d.order != 0)=false:=by
  cases e:jy d.sizes d.order != 0
  ·rfl
  exfalso;apply c;have:iE d=jy d.sizes d.order:=by unfold iE;rw[if_pos e]
  unfold a6k;rw[this,if_pos e];exact e
 rw[hf];rfl
end Go.Proofs.YtjkgcifieggcpaaGreat
