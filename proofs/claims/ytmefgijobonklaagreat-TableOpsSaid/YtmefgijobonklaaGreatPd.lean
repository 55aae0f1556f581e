/- Part 4 of a proof: The statement TableOps: any operation on any tables gives what the document says, or the error is (sizes and tables within the statement's bounds, at most 4 tables). -/
import Derived.Shelf.Spec.SlicesInsert
import Derived.Shelf.Spec.SlicesInsertGrow
import Derived.Shelf.Sort.Plain
import Derived.Shelf.Slices.In.SortNone
import Derived.Test.YtmefgijobonklaaGreatProg
import Derived.KernelRfl
import Derived.Test.YtmefgijobonklaaGreatPc
set_option linter.constructorNameAsVariable false
set_option linter.unusedVariables false
set_option linter.unusedSimpArgs false
set_option linter.unusedSectionVars false
namespace Pv
open Go Tw
def isValP {Γ : Nat → Type} : PE Γ → Bool
 | .val _ => true
 | _ => false
def pputAll {Γ : Nat → Type} (env : List (Nat × PE Γ)) : List Nat → List (PV Γ) → List (Nat × PE Γ)
 | p :: ps, v :: vs => pputAll ((p, .val v) :: env) ps vs
 | _, _ => env
section
variable {X : Cod} {P : Program} {T : Tab} {A W : Nat → Prop} {m m' : List MB} {h h' : List HB} {L f nt B : Nat}
theorem isVal_VR {env : List (Nat × PE X.Γ)} {env' : List (Nat × EV)} (he : EnvR X P A m h env env') (hv : (env.all fun p => isValP p.2) = true) : env'.all isVal = true := by
 induction he with
 | nil => rfl
 | cons h1 _ ih =>
  rename_i k v x r r' _
  simp only [List.all_cons, Bool.and_eq_true] at hv ⊢
  refine ⟨?_, ih hv.2⟩
  cases v with
  | val v => obtain ⟨y, rfl, _⟩ := per_val h1; rfl
  | _ => simp [isValP] at hv
theorem putAll_VR : ∀ {ps : List Nat} {vs : List (PV X.Γ)} {xs : List TV} {env : List (Nat × PE X.Γ)} {env' : List (Nat × EV)}, EnvR X P A m h env env' → VRs X P A m h vs xs → EnvR X P A m h (pputAll env ps vs) (putAll env' ps xs)
 | [], vs, xs, _, _, he, hv => by simpa [pputAll, putAll] using he
 | p :: ps, [], xs, _, _, he, hv => by rw [hv.inv0]; simpa [pputAll, putAll] using he
 | p :: ps, v :: vs, xs, _, _, he, hv => by
  obtain ⟨x, r, rfl, h1, h2⟩ := hv.inv
  simp only [pputAll, putAll]
  exact putAll_VR (EnvR.cons (v := .val v) (x := .val x) h1 he) h2
theorem rf_exec (hX : CodOk X P) {call : CallT} {g : Operand} {qs : Array Nat} {asg body : Code} {ps : PSt X.Γ} {f1 : FuncId} {a1 b1 : List (PV X.Γ)} {v : PV X.Γ} {H1 : List (PB X.Γ)} {rd : Bool} {f2 nt2 : Nat} {e2 : List (Nat × PE X.Γ)} {ps2 : List Nat} {a2 b2 : Code} {pend : Option Code} {e : Ex}
  (hg : pvO ps.env g = some (.fn f1 a1 b1)) (hall : (ps.env.all fun p => isValP p.2) = true)
  (hsim : Sim X P call (.fn f1 a1 b1) [.yld (ps.heap.length + 1)] (ps.heap ++ [.mark] ++ [.loop true f nt ps.env qs.toList asg body none]) v H1)
  (hl : H1[ps.heap.length + 1]? = some (.loop rd f2 nt2 e2 ps2 a2 b2 pend)) (hj : jumpT rd pend = some e) :
  ExecS X P T call L f false nt B (.rangeFunc g qs asg body) ps e { ps with heap := H1.set (ps.heap.length + 1) (.loop false f2 nt2 e2 ps2 a2 b2 (some .skip)) } := by
 intro A W fl m ts hS
 obtain ⟨tg, g1, g2⟩ := vO_VR hS.st.env hg
 have hm := hS.st.heap.len
 obtain ⟨p1, p2, p3⟩ := hS.st.heap.push (pb := .mark) (hb := .mark) (mb := .blk ts.heap.length) (.inl rfl) (by simp [BR])
 obtain ⟨q1, q2, q3⟩ := p1.push (pb := .loop true f nt ps.env qs.toList asg body none) (hb := .loop true f nt ts.env qs.toList asg body none) (mb := .blk (ts.heap.length + 1)) (.inl (by simp [MB.own])) (by
  refine ⟨ts.env, by simp, ?_⟩
  refine EnvR.step (m := m) (h := ts.heap) (A := A) ?_ ?_ hS.st.env
  ·have r2 : Fr (m ++ [MB.blk ts.heap.length]) (ts.heap ++ [HB.mark]) (m ++ [MB.blk ts.heap.length] ++ [MB.blk (ts.heap.length + 1)]) (ts.heap ++ [HB.mark] ++ [HB.loop true f nt ts.env qs.toList asg body none]) := by
    refine ⟨by simp, fun b hb _ => by rw [List.getElem?_append_left hb], fun b hb => ?_, fun b cs hc => ⟨cs, ?_, Nat.le_refl _⟩⟩
    ·rw [blks_app, List.mem_append, blks_one] at hb
     rcases hb with hb | hb
     ·exact .inl hb
     ·simp [MB.own] at hb; subst hb; exact .inr (by simp)
    ·rw [blkCells_same (List.getElem?_append_left (blkCells_lt hc)), hc]
   exact p2.trans r2
  ·exact p3.trans (up_app _))
 have hF := p2.trans q2
 have hU := p3.trans q3
 have hyl : VR X P (AA A (m ++ [MB.blk ts.heap.length] ++ [MB.blk (ts.heap.length + 1)])) (m ++ [MB.blk ts.heap.length] ++ [MB.blk (ts.heap.length + 1)]) (ts.heap ++ [HB.mark] ++ [HB.loop true f nt ts.env qs.toList asg body none]) (.yld (ps.heap.length + 1)) (.yld (ts.heap.length + 1)) := by
  refine .yld ?_
  rw [← hm, List.getElem?_append_right (by simp)]
  simp
 obtain ⟨w, h1, ws, m1, c1, c2, c3, c4, c5, c6⟩ := hsim A _ _ tg [.yld (ts.heap.length + 1)] q1 (g2.step hF hU) (.cons hyl .nil)
 have hm1 : m1[ps.heap.length + 1]? = some (.blk (ts.heap.length + 1)) := by
  rcases c5 (ps.heap.length + 1) (.blk (ts.heap.length + 1)) (by rw [← hm, List.getElem?_append_right (by simp)]; simp) with e | e
  ·exact e
  ·obtain ⟨mb, k1, k2⟩ := c2.at_ _ _ hl
   rw [e] at k1; cases k1
   exact k2.elim
 obtain ⟨mb, k1, k2⟩ := c2.at_ _ _ hl
 rw [hm1] at k1; cases k1
 obtain ⟨e2', k3, k4⟩ := k2
 obtain ⟨s1, s2⟩ := c2.set (i := ps.heap.length + 1) (c := ts.heap.length + 1) (pb := .loop false f2 nt2 e2 ps2 a2 b2 (some .skip)) (hb := .loop false f2 nt2 e2' ps2 a2 b2 (some .skip)) hm1 rfl (fun cs hc => by unfold blkCells at hc; rw [k3] at hc; cases hc) (fun hF => ⟨e2', by rw [List.getElem?_set_self (List.getElem?_eq_some_iff.1 k3).1], k4.step hF .refl⟩)
 have hF2 := hF.trans (c4.trans s2)
 have hU2 := hU.trans c5
 refine ⟨{ ts with heap := h1.set (ts.heap.length + 1) (.loop false f2 nt2 e2' ps2 a2 b2 (some .skip)), ws := addKs fl (ws.map .h) ts.ws }, m1, ?_, ⟨?_, fun b hb => ?_, fun b hb => ?_, ?_⟩, hF2, hU2.b⟩
 ·have hg' : ∃ a1' b1', tg = .fn f1 a1' b1' := by
   cases g2 with
   | gone hi _ _ => simp [idOf] at hi
   | fn _ _ _ _ => exact ⟨_, _, rfl⟩
  obtain ⟨a1', b1', rfl⟩ := hg'
  simp only [exec, g1, isVal_VR hS.st.env hall, Bool.not_false, Bool.and_self, if_true]
  rw [show ts.heap ++ [HB.mark, HB.loop true f nt ts.env qs.toList asg body none] = ts.heap ++ [HB.mark] ++ [HB.loop true f nt ts.env qs.toList asg body none] by simp, c1]
  simp only [k3, hj]
 ·have q := hS.st.step s1 hF2 hU2; exact ⟨q.heap, q.llen, q.loc, q.env⟩
 ·rcases hF2.new b hb with k | k
  ·exact hS.own b k
  ·exact .inr (Nat.le_trans hS.fl k)
 ·rcases addKs_mem hb with k | ⟨k, k'⟩
  ·exact hS.ws b k
  ·obtain ⟨b', hb', e⟩ := List.mem_map.1 k
   cases e
   rcases hF.new b (c6 b hb') with k2 | k2
   ·rcases hS.own b k2 with k3 | k3
    ·exact k3
    ·omega
   ·have := hS.fl; omega
 ·exact Nat.le_trans hS.fl hF2.len
theorem yld_sim (hX : CodOk X P) {n l : Nat} {xs : List (PV X.Γ)} {H : List (PB X.Γ)} {env : List (Nat × PE X.Γ)} {ps : List Nat} {asg body : Code} {pend : Option Code} {s1 s2 : PSt X.Γ} {e : Ex}
  {f' nt' : Nat} {env' : List (Nat × PE X.Γ)} {ps' : List Nat} {a' b' : Code} {pend' : Option Code} {f'' nt'' : Nat} {env'' : List (Nat × PE X.Γ)} {ps'' : List Nat} {a'' b'' : Code}
  (hl : H[l]? = some (.loop true f nt env ps asg body pend)) (hlen : xs.length = ps.length) (hps : (ps.all fun p => decide (p < nt)) = true)
  (h1 : ExecS X P T (apN P T L n) L f true nt H.length asg ⟨pputAll env ps xs, [], H⟩ .norm s1) (hl1 : s1.heap[l]? = some (.loop true f' nt' env' ps' a' b' pend'))
  (h2 : ExecS X P T (apN P T L n) L f true nt H.length body { s1 with heap := s1.heap.set l (.loop false f' nt' env' ps' a' b' none) } e s2)
  (hl2 : s2.heap[l]? = some (.loop false f'' nt'' env'' ps'' a'' b'' none)) :
  Sim X P (apN P T L (n + 1)) (.yld l) xs H (.bool (isNorm e)) (s2.heap.set l (.loop (isNorm e) f'' nt'' env'' ps'' a'' b'' (jumpOf e))) := by
 intro A m h tf txs hr hf hx
 have hlt : l < H.length := (List.getElem?_eq_some_iff.1 hl).1
 obtain ⟨mb, k1, k2⟩ := hr.at_ l _ hl
 cases mb with
 | lst _ => exact k2.elim
 | rblk _ => exact k2.elim
 | gone => exact k2.elim
 | blk c =>
 obtain ⟨te, k3, k4⟩ := k2
 have hcm : c ∈ blks m := own_mem k1 rfl
 cases hf with
 | gone hi hi2 _ => simp only [idOf, Option.some.injEq] at hi; subst hi; rw [k1] at hi2; cases hi2
 | yld hy =>
 rw [k1] at hy; cases hy
 have hS : SR X P A (fun b => b ∈ blks m) h.length m ⟨pputAll env ps xs, [], H⟩ ⟨putAll te ps txs, [], h, []⟩ :=
  ⟨⟨hr, rfl, fun k cs hk => by simp at hk, putAll_VR (env := env) (env' := te) k4 hx⟩, fun b hb => .inl hb, fun b hb => (by cases hb), Nat.le_refl _⟩
 obtain ⟨t1, m1, x1, x2, x3, x4⟩ := h1 A _ _ m _ hS
 have at1 : ∀ {M : List MB} {S : PSt X.Γ} {TS : St} {W : Nat → Prop} {rd : Bool} {f0 n0 : Nat} {ee : List (Nat × PE X.Γ)} {pp : List Nat} {aa bb : Code} {pe : Option Code}, SR X P A W h.length M S TS → UpB H.length m M → S.heap[l]? = some (.loop rd f0 n0 ee pp aa bb pe) → M[l]? = some (.blk c) ∧ ∃ te, TS.heap[c]? = some (.loop rd f0 n0 te pp aa bb pe) ∧ EnvR X P (AA A M) M TS.heap ee te := by
  intro M S TS W rd f0 n0 ee pp aa bb pe hS hU hh
  obtain ⟨mb, j1, j2⟩ := hS.st.heap.at_ l _ hh
  rcases hU l _ hlt k1 with e | e
  ·rw [e] at j1; cases j1
   obtain ⟨te, j3, j4⟩ := j2
   exact ⟨e, te, j3, j4⟩
  ·rw [e] at j1; cases j1; exact j2.elim
 have setL : ∀ {M : List MB} {S : PSt X.Γ} {TS : St} {W : Nat → Prop} {rd : Bool} {f0 n0 : Nat} {ee : List (Nat × PE X.Γ)} {pp : List Nat} {aa bb : Code} {pe : Option Code} (rd' : Bool) (pe' : Option Code), SR X P A W h.length M S TS → UpB H.length m M → S.heap[l]? = some (.loop rd f0 n0 ee pp aa bb pe) → ∃ te, TS.heap[c]? = some (.loop rd f0 n0 te pp aa bb pe) ∧ HR X P A M (S.heap.set l (.loop rd' f0 n0 ee pp aa bb pe')) (TS.heap.set c (.loop rd' f0 n0 te pp aa bb pe')) ∧ Fr M TS.heap M (TS.heap.set c (.loop rd' f0 n0 te pp aa bb pe')) := by
  intro M S TS W rd f0 n0 ee pp aa bb pe rd' pe' hS hU hh
  obtain ⟨j1, te, j3, j4⟩ := at1 hS hU hh
  obtain ⟨s1, s2⟩ := hS.st.heap.set (i := l) (c := c) (pb := .loop rd' f0 n0 ee pp aa bb pe') (hb := .loop rd' f0 n0 te pp aa bb pe') j1 rfl (fun cs hc => by unfold blkCells at hc; rw [j3] at hc; cases hc) (fun hF => ⟨te, by rw [List.getElem?_set_self (List.getElem?_eq_some_iff.1 j3).1], j4.step hF .refl⟩)
  exact ⟨te, j3, s1, s2⟩
 obtain ⟨te1, y1, y2, y3⟩ := setL false none x2 x4 hl1
 have hS1 : SR X P A (fun b => b ∈ blks m) h.length m1 { s1 with heap := s1.heap.set l (.loop false f' nt' env' ps' a' b' none) } { t1 with heap := t1.heap.set c (.loop false f' nt' te1 ps' a' b' none), ws := addW h.length c t1.ws } := by
  have q := x2.st.step y2 y3 .refl
  refine ⟨⟨q.heap, q.llen, q.loc, q.env⟩, x2.own, fun b hb => ?_, Nat.le_trans x2.fl y3.len⟩
  rcases addKs_mem (ks := [.h c]) hb with k | ⟨k, _⟩
  ·exact x2.ws b k
  ·simp at k; subst k; exact hcm
 obtain ⟨t2, m2, z1, z2, z3, z4⟩ := h2 A _ _ m1 _ hS1
 obtain ⟨te2, u1, u2, u3⟩ := setL (isNorm e) (jumpOf e) z2 (x4.trans z4) hl2
 have hF := (x3.trans y3).trans (z3.trans u3)
 refine ⟨.bool (isNorm e), t2.heap.set c (.loop (isNorm e) f'' nt'' te2 ps'' a'' b'' (jumpOf e)), addW h.length c t2.ws, m2, ?_, u2, .bool _, hF, fun i mb hi => (x4.trans z4) i mb ?_ hi, fun b hb => ?_⟩
 ·have hl' : txs.length = ps.length := by rw [← hx.1, hlen]
  simp only [apN, ap, roundT, k3, hl', hps, and_self, if_true, x1, y1, z1, u1]
 ·rw [← hr.len]; exact (List.getElem?_eq_some_iff.1 hi).1
 ·rcases addKs_mem (ks := [.h c]) hb with k | ⟨k, _⟩
  ·exact z2.ws b k
  ·simp at k; subst k; exact hcm
abbrev gB (B : Nat) : Nat → Option Nat := fun i => if i < B then some i else (posN [] i).map (· + B)
theorem renVs_id {g : Nat → Option Nat} : ∀ {a : List (PV X.Γ)}, (∀ (i : Nat) x, a[i]? = some x → renV g x = some x) → renV.renVs g a = some a
 | [], _ => rfl
 | c :: cs, h => by
  simp only [renV.renVs, h 0 c rfl, renVs_id (a := cs) fun i x hi => h (i + 1) x (by simpa using hi)]
theorem get_two {α β : Type} {a : List α} {b : List β} (hl : a.length = b.length) {i : Nat} {x : α} (hi : a[i]? = some x) : ∃ y, b[i]? = some y := by
 have : i < b.length := by rw [← hl]; exact (List.getElem?_eq_some_iff.1 hi).1
 exact ⟨b[i], List.getElem?_eq_getElem this⟩
theorem ren_id {v : PV X.Γ} {x : TV} (hv : VR X P A m h v x) {B : Nat} (hB : m.length ≤ B) : renV (gB B) v = some v := by
 have key : ∀ {b : Nat} {mb : MB}, m[b]? = some mb → gB B b = some b := fun e => by
  have := (List.getElem?_eq_some_iff.1 e).1
  simp only [gB]; rw [if_pos (by omega)]
 induction hv with
 | bool => rfl
 | lit => rfl
 | int => rfl
 | str => rfl
 | nil => rfl
 | ptr e => simp only [renV, key e, Option.map_some]
 | slc e => simp only [renV, key e, Option.map_some]
 | own e _ => simp only [renV, key e, Option.map_some]
 | win e _ _ => simp only [renV, key e, Option.map_some]
 | winN e => simp only [renV, key e, Option.map_some]
 | map e => simp only [renV, key e, Option.map_some]
 | yld e => simp only [renV, key e, Option.map_some]
 | row e _ _ => simp only [renV, key e, Option.map_some]
 | lstN => rfl
 | lst => rfl
 | el => rfl
 | fn h1 _ h3 _ i2 i4 =>
  simp only [renV]
  rw [renVs_id fun i x hi => let ⟨y, hy⟩ := get_two h1 hi; i2 i x y hi hy, renVs_id fun i x hi => let ⟨y, hy⟩ := get_two h3 hi; i4 i x y hi hy]
 | agg h1 _ i2 => simp only [renV]; rw [renVs_id fun i x hi => let ⟨y, hy⟩ := get_two h1 hi; i2 i x y hi hy]; rfl
 | tup h1 _ i2 => simp only [renV]; rw [renVs_id fun i x hi => let ⟨y, hy⟩ := get_two h1 hi; i2 i x y hi hy]; rfl
 | @gone v i x hi e _ =>
  have := key (b := i) (mb := (m[i]?).getD .gone) (by cases q : m[i]? with | none => rw [q] at e; cases e | some y => rfl)
  cases v <;> simp only [idOf, Option.some.injEq] at hi <;> first | (subst hi; simp only [renV, this, Option.map_some]) | cases hi
theorem rens_id {v : List (PV X.Γ)} {x : List TV} (hv : VRs X P A m h v x) {B : Nat} (hB : m.length ≤ B) : renV.renVs (gB B) v = some v :=
 renVs_id fun i a hi => let ⟨y, hy⟩ := get_two hv.1 hi; ren_id (hv.2 i a y hi hy) hB
theorem renEs_id {v : List (Nat × PE X.Γ)} {x : List (Nat × EV)} (hv : EnvR X P A m h v x) {B : Nat} (hB : m.length ≤ B) : renEs (gB B) v = some v := by
 induction hv with
 | nil => rfl
 | cons h1 _ ih =>
  rename_i k v x r r' _
  simp only [renEs, ih]
  cases v with
  | val v => obtain ⟨y, rfl, h2⟩ := per_val h1; simp only [renE, ren_id h2 hB, Option.map_some]
  | _ => rfl
theorem renB_id {b : PB X.Γ} {mb : MB} (hb : BR X P A m h b mb) {B : Nat} (hB : m.length ≤ B) : renB (gB B) b = some b := by
 cases b with
 | cells cs =>
  cases mb with
  | blk c => obtain ⟨_, _, h2⟩ := hb; simp only [renB, rens_id h2 hB, Option.map_some]
  | _ => exact hb.elim
 | rcells cs =>
  cases mb with
  | rblk c => obtain ⟨_, _, _, h2⟩ := hb; simp only [renB, rens_id h2 hB, Option.map_some]
  | _ => exact hb.elim
 | map es => rfl
 | loop =>
  cases mb with
  | blk c => obtain ⟨_, _, h2⟩ := hb; simp only [renB, renEs_id h2 hB, Option.map_some]
  | _ => exact hb.elim
 | _ => rfl
theorem renBs_id {B : Nat} : ∀ {H : List (PB X.Γ)}, (∀ (i : Nat) b, H[i]? = some b → renB (gB B) b = some b) → renBs (gB B) H = some H
 | [], _ => rfl
 | c :: cs, h => by
  simp only [renBs, h 0 c rfl, renBs_id (H := cs) fun i x hi => h (i + 1) x (by simpa using hi)]
theorem Sim.drop (hX : CodOk X P) {call : CallT} {fv : PV X.Γ} {xs : List (PV X.Γ)} {H H1 : List (PB X.Γ)} {v : PV X.Γ} (hs : Sim X P call fv xs H v H1) (h1 : H1.take H.length = H) (hv : renV (gB H.length) v = some v) : Sim X P call fv xs H v H := by
 intro A m h tf txs hr hf hx
 obtain ⟨w, h', ws, m1, c1, c2, c3, c4, c5, c6⟩ := hs A m h tf txs hr hf hx
 have hg : gsteps H.length [.gc []] (⟨[(0, .val v)], [], H1⟩ : PSt X.Γ) = some ⟨[(0, .val v)], [], H⟩ := by
  have hb : renBs (gB H.length) H = some H := renBs_id fun i b hi => let ⟨mb, _, h2⟩ := hr.at_ i b hi; renB_id h2 (Nat.le_of_eq hr.len)
  have hl : H.length ≤ H1.length := by have := congrArg List.length h1; simp at this; omega
  have e : renEs (gB H.length) [(0, PE.val v)] = some [(0, .val v)] := by simp only [renEs, renE, hv, Option.map_some]
  have hb' : renBs (fun i => if i < H.length then some i else (posN [] i).map (· + H.length)) H = some H := hb
  have e' : renEs (fun i => if i < H.length then some i else (posN [] i).map (· + H.length)) [(0, PE.val v)] = some [(0, .val v)] := e
  simp only [gsteps, gstep, List.all_nil, List.nodup_nil, decide_true, Bool.and_self, Bool.true_and, hl, if_true, e', renL, h1, hb', pickB, renBs, List.append_nil]
 obtain ⟨m2, q1, q2, q3⟩ := gsteps_ok hX hg A (fun _ => True) 0 m1 ⟨[(0, .val w)], [], h', []⟩ ⟨⟨c2, rfl, fun k cs hk => by simp at hk, .cons c3 .nil⟩, fun b _ => .inl trivial, fun b hb => (by cases hb), Nat.zero_le _⟩
 obtain ⟨w', e1, e2⟩ := look_some q1.st.env (t := 0) (v := .val v) rfl
 simp only [lookE, if_true, Option.some.injEq] at e1
 subst e1
 refine ⟨w, h', ws, m2, c1, q1.st.heap, e2, c4.trans q2, fun i mb hi => ?_, c6⟩
 have hlt : i < H.length := by rw [← hr.len]; exact (List.getElem?_eq_some_iff.1 hi).1
 rcases c5 i mb hi with g | g
 ·exact q3 i mb hlt g
 ·rcases q3 i _ hlt g with g | g <;> exact .inr g
end
end Pv
namespace Pv
open Go Tw
section
variable {X : Cod} {P : Program}
theorem Sim.frame (hX : CodOk X P) {call : CallT} {ks : List Nat} {H' Hp H H1 H1r : List (PB X.Γ)} {fv fv' v v' : PV X.Γ} {xs xs' : List (PV X.Γ)} (hs : Sim X P call fv xs H v H1)
  (hnd : ks.Nodup) (hp : pickB H' ks = some Hp) (hH : renBs (posN ks) Hp = some H) (hf : renV (posN ks) fv' = some fv) (hx : renV.renVs (posN ks) xs' = some xs)
  (hv : renV (bk ks H'.length) v = some v') (hH1 : renBs (bk ks H'.length) H1 = some H1r) (hro : noRo (H1.drop ks.length) = true) :
  Sim X P call fv' xs' H' v' (putAt ks H1r H' ++ H1r.drop ks.length) := fun A m' h tf txs hr hf' hx' => by
 obtain ⟨w, h1, ws, m1, c1, c2, c3, c4, c5, c6⟩ := frame_use hX hs.w hnd hp hH hf hx hv hH1 hro A m' h tf txs hr hf' hx'
 exact ⟨w, h1, ws, m1, c1, c2, c3, c4, c5, fun b hb => by obtain ⟨_, k, _, _, mb, h8, h9⟩ := c6 b hb; exact own_mem h8 h9⟩
end
end Pv
namespace Pv
open Go Tw
def itF {σ ρ : Type} (g : σ → σ ⊕ ρ) : Nat → σ → Option ρ
 | 0, _ => none
 | k + 1, s => match g s with
  | .inl s1 => itF g k s1
  | .inr r => some r
section
variable {X : Cod} {P : Program} {T : Tab} {L : Nat} {f nt B : Nat} {rnd : Bool} {call : CallT} {b : Code} {σ ρ : Type}
def contW (out : ρ → Ex × PSt X.Γ) (r : ρ) : σ ⊕ ρ → Ex × PSt X.Γ
 | .inl _ => out r
 | .inr r' => out r'
theorem whileR {st : σ → PSt X.Γ} {g : σ → σ ⊕ ρ} {out : ρ → Ex × PSt X.Γ} (Inv : σ → Prop) (hi : ∀ s s1, Inv s → g s = .inl s1 → Inv s1)
  (hs : ∀ s n r, Inv s → (∀ s1, g s = .inl s1 → RoundsH X P T call L f rnd nt B b n (st s1) (out r).1 (out r).2) → RoundsH X P T call L f rnd nt B b (n + 1) (st s) (contW out r (g s)).1 (contW out r (g s)).2) :
  ∀ {k : Nat} {s : σ} {r : ρ}, Inv s → itF g k s = some r → RoundsH X P T call L f rnd nt B b k (st s) (out r).1 (out r).2
 | 0, s, r, _, h => by cases h
 | k + 1, s, r, hv, h => by
  simp only [itF] at h
  have h1 := hs s k r hv fun s1 h1 => by
   rw [h1] at h
   exact whileR Inv hi hs (hi s s1 hv h1) h
  cases hg : g s with
  | inl s1 => rw [hg] at h1; exact h1
  | inr r' => rw [hg] at h1 h; simp only [Option.some.injEq] at h; subst h; exact h1
theorem whileE {st : σ → PSt X.Γ} {g : σ → σ ⊕ ρ} {out : ρ → Ex × PSt X.Γ} (Inv : σ → Prop) {k : Nat} {s : σ} {r : ρ} {w : PSt X.Γ} (hr : itF g k s = some r) (h0 : patHead X (T.headAt f (headId b)) w = st s) (hk : k ≤ L) (hv : Inv s) (hi : ∀ s s1, Inv s → g s = .inl s1 → Inv s1)
  (hs : ∀ s n r, Inv s → (∀ s1, g s = .inl s1 → RoundsH X P T call L f rnd nt B b n (st s1) (out r).1 (out r).2) → RoundsH X P T call L f rnd nt B b (n + 1) (st s) (contW out r (g s)).1 (contW out r (g s)).2) :
  ExecS X P T call L f rnd nt B (.loop b) w (out r).1 (out r).2 := loopH_of (whileR Inv hi hs hv hr) h0 hk
end
end Pv
namespace Pv
open Go Tw
section
variable {X : Cod} {P : Program} {T : Tab} {L : Nat}
def orcE {α : Type} (f : FuncId) (a : ArL X P α) (v : α → PV X.Γ) (ext : α → List (PB X.Γ)) (pre : α → List Prop) (orc : Orc X.Γ) : Orc X.Γ := fun g vs =>
 match Nat.beq g f with
 | true => match a.get vs with
  | some x => some (v x, ext x, pre x)
  | none => orc g vs
 | false => orc g vs
theorem Good.deepE {α : Type} {f : FuncId} {a : ArL X P α} {v : α → PV X.Γ} {ext : α → List (PB X.Γ)} {pre : α → List Prop} {orc : Orc X.Γ} (d : Nat) (hg : Good X P T L orc)
  (hf : ∀ n, d ≤ n → (∀ m, n - d ≤ m → OrcOk X P (apN P T L m) orc) → ∀ x, (∀ p ∈ pre x, p) → Con X P (apN P T L (n + 1)) f (a.put x) (v x) (ext x)) : Good X P T L (orcE f a v ext pre orc) := by
 obtain ⟨N, hN⟩ := hg
 refine ⟨N + d + 1, fun n hn => ?_⟩
 obtain ⟨k, rfl⟩ : ∃ k, n = k + 1 := ⟨n - 1, by omega⟩
 intro g vs v ext ps ho hp
 unfold orcE at ho
 split at ho
 ·rename_i e
  have e := Nat.eq_of_beq_eq_true e
  subst e
  split at ho
  ·rename_i x hx
   cases ho
   intro A h first args cap hup hv
   exact hf k (by omega) (fun m hm => hN m (by omega)) x hp A h first args cap hup (a.ok hx hv)
  ·exact hN (k + 1) (by omega) g vs v ext ps ho hp
 ·exact hN (k + 1) (by omega) g vs v ext ps ho hp
def IsE (v : PV X.Γ) (H : List (PB X.Γ)) : PV X.Γ × List (PB X.Γ) → Prop := fun y => y = (v, H)
theorem Fp.er {v : PV X.Γ} {H : List (PB X.Γ)} : Fp (IsE v H) (.n : PT X.Γ) (.ret (v, H)) := .r rfl
theorem fn_ex (hX : CodOk X P) {n f : Nat} {orc : Orc X.Γ} (hO : OrcOk X P (apN P T L n) orc) {vs : List (PV X.Γ)} {an : PT X.Γ} {v : PV X.Γ} {H : List (PB X.Γ)} {o : OT (PV X.Γ × List (PB X.Γ))}
  (hk : pfunK X P T orc (Sim X P (apN P T L n)) (LoopS X P T (apN P T L n) L f 0) L f vs [] an = o) (ht : Fp (IsE v H) an o) : Con X P (apN P T L (n + 1)) f vs v H := by
 obtain ⟨y, h1, h2⟩ := ht.ends
 cases h2
 rw [← hk] at h1
 exact con_fn hX (n := n + 1) (by omega) hO h1
end
end Pv
namespace Pv
open Go Tw
section
variable {X : Cod} {P : Program} {T : Tab} {L : Nat}
theorem sim_ex (hX : CodOk X P) {n f : Nat} {orc : Orc X.Γ} (hO : OrcOk X P (apN P T L n) orc) {first xs cap : List (PV X.Γ)} {H H1 : List (PB X.Γ)} {v : PV X.Γ} {an : PT X.Γ} {o : OT (PV X.Γ × List (PB X.Γ))}
  (hk : pfunK X P T orc (Sim X P (apN P T L n)) (LoopS X P T (apN P T L n) L f H.length) L f (first ++ xs ++ cap) H an = o) (ht : Fp (IsE v H1) an o) : Sim X P (apN P T L (n + 1)) (.fn f first cap) xs H v H1 := by
 obtain ⟨y, h1, h2⟩ := ht.ends
 cases h2
 rw [← hk] at h1
 exact sim_fn hX (n := n + 1) (by omega) hO h1
end
end Pv
namespace Pv
open Go Tw
theorem Good.deep2 {X : Cod} {P : Program} {T : Tab} {L : Nat} {α β : Type} {f : FuncId} {a : ArL X P α} {r : Ar X P β} {S : α → β} {pre : α → List Prop} {orc orc2 : Orc X.Γ} (d : Nat) (hg : Good X P T L orc) (hg2 : Good X P T L orc2)
  (hf : ∀ n, d ≤ n → (∀ m, n - d ≤ m → OrcOk X P (apN P T L m) orc) → (∀ m, n - d ≤ m → OrcOk X P (apN P T L m) orc2) → ∀ x, (∀ p ∈ pre x, p) → Con X P (apN P T L (n + 1)) f (a.put x) (r.put (S x)) []) : Good X P T L (orcF f a r S pre orc) := by
 obtain ⟨N2, hN2⟩ := hg2
 obtain ⟨M, hM⟩ := hg
 refine ⟨M + N2 + d + 1, fun n hn => ?_⟩
 obtain ⟨k, rfl⟩ : ∃ k, n = k + 1 := ⟨n - 1, by omega⟩
 intro g vs v ext ps ho hp
 unfold orcF at ho
 split at ho
 ·rename_i e
  have e := Nat.eq_of_beq_eq_true e
  subst e
  split at ho
  ·rename_i x hx
   cases ho
   intro A h first args cap hup hv
   exact hf k (by omega) (fun m hm => hM m (by omega)) (fun m hm => hN2 m (by omega)) x hp A h first args cap hup (a.ok hx hv)
  ·exact hM (k + 1) (by omega) g vs v ext ps ho hp
 ·exact hM (k + 1) (by omega) g vs v ext ps ho hp
end Pv
namespace Pv
open Go Tw
section
variable {X : Cod} {P : Program}
theorem Sim.gs (hX : CodOk X P) {call : CallT} {fv : PV X.Γ} {xs : List (PV X.Γ)} {H H1 H2 : List (PB X.Γ)} {v v' : PV X.Γ} (hs : Sim X P call fv xs H v H1) (gs : List G) (hg : gsteps H.length gs (⟨[(0, .val v)], [], H1⟩ : PSt X.Γ) = some ⟨[(0, .val v')], [], H2⟩) : Sim X P call fv xs H v' H2 := by
 intro A m h tf txs hr hf hx
 obtain ⟨w, h', ws, m1, c1, c2, c3, c4, c5, c6⟩ := hs A m h tf txs hr hf hx
 obtain ⟨m2, q1, q2, q3⟩ := gsteps_ok hX hg A (fun _ => True) 0 m1 ⟨[(0, .val w)], [], h', []⟩ ⟨⟨c2, rfl, fun k cs hk => by simp at hk, .cons c3 .nil⟩, fun b _ => .inl trivial, fun b hb => (by cases hb), Nat.zero_le _⟩
 obtain ⟨w', e1, e2⟩ := look_some q1.st.env (t := 0) (v := .val v') rfl
 simp only [lookE, if_true, Option.some.injEq] at e1
 subst e1
 refine ⟨w, h', ws, m2, c1, q1.st.heap, e2, c4.trans q2, fun i mb hi => ?_, c6⟩
 have hlt : i < H.length := by rw [← hr.len]; exact (List.getElem?_eq_some_iff.1 hi).1
 rcases c5 i mb hi with g | g
 ·exact q3 i mb hlt g
 ·rcases q3 i _ hlt g with g | g <;> exact .inr g
theorem Sim.cut (hX : CodOk X P) {call : CallT} {fv : PV X.Γ} {xs : List (PV X.Γ)} {H H1 H2 : List (PB X.Γ)} {v : PV X.Γ} (hs : Sim X P call fv xs H v H1) (h1 : H1.take H.length = H2) (hb : renBs (gB H.length) H2 = some H2) (hl : decide (H.length ≤ H1.length) = true) (hv : renV (gB H.length) v = some v) : Sim X P call fv xs H v H2 := by
 intro A m h tf txs hr hf hx
 obtain ⟨w, h', ws, m1, c1, c2, c3, c4, c5, c6⟩ := hs A m h tf txs hr hf hx
 have hl := of_decide_eq_true hl
 have hg : gsteps H.length [.gc []] (⟨[(0, .val v)], [], H1⟩ : PSt X.Γ) = some ⟨[(0, .val v)], [], H2⟩ := by
  have e : renEs (gB H.length) [(0, PE.val v)] = some [(0, .val v)] := by simp only [renEs, renE, hv, Option.map_some]
  have hb' : renBs (fun i => if i < H.length then some i else (posN [] i).map (· + H.length)) H2 = some H2 := hb
  have e' : renEs (fun i => if i < H.length then some i else (posN [] i).map (· + H.length)) [(0, PE.val v)] = some [(0, .val v)] := e
  simp only [gsteps, gstep, List.all_nil, List.nodup_nil, decide_true, Bool.and_self, Bool.true_and, hl, if_true, e', renL, h1, hb', pickB, renBs, List.append_nil]
 obtain ⟨m2, q1, q2, q3⟩ := gsteps_ok hX hg A (fun _ => True) 0 m1 ⟨[(0, .val w)], [], h', []⟩ ⟨⟨c2, rfl, fun k cs hk => by simp at hk, .cons c3 .nil⟩, fun b _ => .inl trivial, fun b hb => (by cases hb), Nat.zero_le _⟩
 obtain ⟨w', e1, e2⟩ := look_some q1.st.env (t := 0) (v := .val v) rfl
 simp only [lookE, if_true, Option.some.injEq] at e1
 subst e1
 refine ⟨w, h', ws, m2, c1, q1.st.heap, e2, c4.trans q2, fun i mb hi => ?_, c6⟩
 have hlt : i < H.length := by rw [← hr.len]; exact (List.getElem?_eq_some_iff.1 hi).1
 rcases c5 i mb hi with g | g
 ·exact q3 i mb hlt g
 ·rcases q3 i _ hlt g with g | g <;> exact .inr g
end
end Pv
namespace Pv
open Go Tw
section
variable {X : Cod} {P : Program} {T : Tab} {L f nt B : Nat} {rnd : Bool} {call : CallT} {orc : Orc X.Γ}
theorem exec_fp (hX : CodOk X P) (hO : OrcOk X P call orc) {c : Code} {ps ps1 : PSt X.Γ} {an : PT X.Γ} {e : Ex} {o : OT (Ex × PSt X.Γ)}
  (hk : pexecK X P T orc (Sim X P call) (ExecS X P T call L f rnd nt B) B L f rnd nt c ps an endE = o) (ht : Fp (fun y => y = (e, ps1)) an o) : ExecS X P T call L f rnd nt B c ps e ps1 := by
 obtain ⟨y, h1, rfl⟩ := ht.ends
 rw [← hk] at h1
 exact execS_of hX hO h1
theorem Fp.xx {y : Ex × PSt X.Γ} : Fp (fun z => z = y) (.n : PT X.Γ) (.ret y) := .r rfl
end
end Pv
namespace Pv
open Go Tw
theorem OrcOk.as {X : Cod} {P : Program} {call : CallT} {α β : Type} {f : FuncId} {a : ArL X P α} {r : Ar X P β} {S : α → β} {pre : α → List Prop} {orc : Orc X.Γ} (hO : OrcOk X P call orc)
  (h : ∀ x, (∀ p ∈ pre x, p) → Con X P call f (a.put x) (r.put (S x)) []) : OrcOk X P call (orcF f a r S pre orc) := by
 intro g vs v ext ps ho hp
 unfold orcF at ho
 split at ho
 ·rename_i e
  have e := Nat.eq_of_beq_eq_true e
  subst e
  split at ho
  ·rename_i x hx
   cases ho
   intro A hh first args cap hup hv
   exact h x hp A hh first args cap hup (a.ok hx hv)
  ·exact hO g vs v ext ps ho hp
 ·exact hO g vs v ext ps ho hp
end Pv
namespace Pv
open Go Tw
section
variable {X : Cod} {P : Program} {A : Nat → Prop} {m : List MB} {h : List HB}
theorem VR.int_inv {k : IntKind} {n : Int} {y : TV} (hy : VR X P A m h (.int k n) y) : y = .int k n := by
 cases hy with
 | int => rfl
 | gone hi _ _ => simp [idOf] at hi
theorem VR.fn_inv {f : FuncId} {y : TV} (hy : VR X P A m h (.fn f [] []) y) : y = .fn f [] [] := by
 cases hy with
 | gone hi _ _ => simp [idOf] at hi
 | fn p1 _ p3 _ => rw [List.eq_nil_of_length_eq_zero p1.symm, List.eq_nil_of_length_eq_zero p3.symm]
theorem lr_inv {k ex : Bool} {t : Nat} {l : List (X.Γ t)} {x : TV} (hl : LR X P A m h k ex t l x) : (l = [] ∧ x = .nil .slc) ∨ (l = [] ∧ ∃ b off sz cs, x = .slc b off 0 0 sz true ∧ A b ∧ blkCells h b = some cs ∧ off ≤ cs.length ∧ sizeT P t = some sz ∧ 0 < sz) ∨
  (l ≠ [] ∧ ∃ b sz e kk cs, x = .slc b 0 l.length l.length sz e ∧ sizeT P t = some sz ∧ 0 < sz ∧ h[b]? = some (.cells kk cs) ∧ kk ≠ .ro ∧ (k = true → kk = .own) ∧ (ex = true → e = true) ∧ cs.length = l.length * sz ∧ RowsR X P A m h t l cs 0 sz) := by
 cases hl with
 | nil => exact .inl ⟨rfl, rfl⟩
 | emp p0 p1 p2 p3 p4 => exact .inr (.inl ⟨rfl, _, _, _, _, rfl, p0, p1, p2, p3, p4⟩)
 | some p1 p2 p3 p4 p5 p6 p7 p8 p9 => exact .inr (.inr ⟨p1, _, _, _, _, _, rfl, p2, p3, p4, p5, p6, p7, p8, p9⟩)
theorem own_inv {H : List (PB X.Γ)} {i : Nat} {x : TV} {k ex : Bool} {t : Nat} {l : List (X.Γ t)} (hr : HR X P A m H h) (hi : H[i]? = some (.list k ex t l)) (hv : VR X P (AA A m) m h (.own i) x) : m[i]? = some (.lst x) ∧ LR X P (AA A m) m h k ex t l x := by
 obtain ⟨mb, g1, g2⟩ := hr.at_ i _ hi
 cases hv with
 | own e _ =>
  rw [g1] at e
  cases e
  exact ⟨g1, g2⟩
 | gone hi2 e _ =>
  simp only [idOf, Option.some.injEq] at hi2
  subst hi2
  rw [g1] at e
  cases e <;> exact g2.elim
end
end Pv
namespace Pv
open Go Tw
section
variable {X : Cod} {P : Program}
theorem Con.gs (hX : CodOk X P) {call : CallT} {f : FuncId} {vs : List (PV X.Γ)} {v v' : PV X.Γ} {ext ext' : List (PB X.Γ)} (hc : Con X P call f vs v ext) (gs : List G) (hg : gsteps 0 gs (⟨[(0, .val v)], [], ext⟩ : PSt X.Γ) = some ⟨[(0, .val v')], [], ext'⟩) : Con X P call f vs v' ext' := by
 intro A h first args cap hup hv
 obtain ⟨w, h', m', c1, c2, c3, c4⟩ := hc A h first args cap hup hv
 obtain ⟨m2, q1, q2, q3⟩ := gsteps_ok hX hg A (fun _ => True) 0 m' ⟨[(0, .val w)], [], h', []⟩ ⟨⟨c2, rfl, fun k cs hk => by simp at hk, .cons c3 .nil⟩, fun b _ => .inl trivial, fun b hb => (by cases hb), Nat.zero_le _⟩
 obtain ⟨w', e1, e2⟩ := look_some q1.st.env (t := 0) (v := .val v') rfl
 simp only [lookE, if_true, Option.some.injEq] at e1
 subst e1
 exact ⟨w, h', m2, c1, q1.st.heap, e2, c4.trans q2⟩
theorem lst_inv0 {A : Nat → Prop} {m : List MB} {h : List HB} {t : Nat} {fu : Bool} {x : TV} (hv : VR X P A m h (.lst t [] fu) x) : x = .nil .slc ∨ ∃ b off cap sz ex cs, x = .slc b off 0 cap sz ex ∧ A b ∧ blkCells h b = some cs ∧ sizeT P t = some sz ∧ 0 < sz ∧ off ≤ cs.length := by
 generalize hl : ([] : List (X.Γ t)) = l at hv
 cases hv with
 | lstN => exact .inl rfl
 | lst a c c2 s z o k f e r =>
  subst hl
  exact .inr ⟨_, _, _, _, _, _, rfl, a, c, s, z, by simpa using o⟩
 | gone hi _ _ => simp [idOf] at hi
theorem hr_empty {A : Nat → Prop} {h : List HB} {t : Nat} {x : TV} (hup : ∀ b, h.length ≤ b → A b) (hx : LR X P (AA A [.lst x]) [.lst x] h false false t [] x) (ho : (MB.lst x).own = none) : HR X P A [.lst x] [.list false false t []] h := by
 have hb : blks [MB.lst x] = [] := by simp [blks, ho]
 refine ⟨rfl, fun i b hi => ?_, by rw [hb]; exact List.nodup_nil, hup, fun b hb' => by rw [hb] at hb'; cases hb'⟩
 cases i with
 | zero => simp only [List.getElem?_cons_zero, Option.some.injEq] at hi; subst hi; exact ⟨.lst x, rfl, hx⟩
 | succ i => simp at hi
end
end Pv
namespace Go.Proofs.YtmefgijobonklaaGreat
open Go Tw
structure B where
 lo : Int
 hi : Int
 f : Int
 deriving DecidableEq
structure O where
 code : Int
 a : Int
 b : Int
 c : Int
 n : Int
 deriving DecidableEq
structure K where
 name : ByteArray
 lo : Int
 hi : Int
structure V where
 f : Int
 n : Int
 deriving DecidableEq
abbrev B0 : B := ⟨0, 0, 0⟩
abbrev O0 : O := ⟨0, 0, 0, 0, 0⟩
abbrev K0 : K := ⟨ByteArray.empty, 0, 0⟩
abbrev V0 : V := ⟨0, 0⟩
def F_indexI (g : Int → Bool) (i : Nat) (x : Int) (s : Unit) : (Unit) ⊕ (Nat × Int × (Unit)) :=
 if (g x) = true then .inr (i, x, s) else .inl ()
def S_IndexFuncI (g : Int → Bool) (l : List Int)  : Int :=
 if (isL (runL (F_indexI g) l 0 ())) = true then -1 else (((getR (0, 0, ()) (runL (F_indexI g) l 0 ())).1 : Int))
def S_ContainsFuncI (g : Int → Bool) (l : List Int)  : Bool :=
 decide ((S_IndexFuncI g l) ≥ 0)
theorem indexI (g : Int → Bool) : ∀ (l : List Int) (i : Nat), isL (runL (F_indexI g) l i ()) = !(l.any g)
 | [], i => rfl
 | x :: l, i => by
  simp only [runL, F_indexI, List.any_cons]
  cases g x with
  | true => rfl
  | false => simpa using indexI g l (i + 1)
theorem containsI (g : Int → Bool) (l : List Int) : S_ContainsFuncI g l = l.any g := by
 have := indexI g l 0
 unfold S_ContainsFuncI S_IndexFuncI
 rw [this]
 cases l.any g with
 | true => simp
 | false => simp
structure C where
 cs : List K
 os : List O
 rs : List Int
def S_within1 (x : Int) (lo : Int) (hi : Int) : Bool :=
 if (decide ((x) < (lo))) = true then true else decide ((x) > (hi))
def S_within (l : List Int) (lo : Int) (hi : Int) : Bool :=
 !(l.any ((fun x => S_within1 x lo hi)))
theorem wrap_small {z : Int} (h0 : -(2 ^ 62) ≤ z) (h1 : z < 2 ^ 62) : IntKind.i64.wrap z = z := by
 simp only [IntKind.wrap, IntKind.bits, IntKind.signed]
 rcases Int.lt_or_le z 0 with h | h
 ·have : z % (2 ^ 64 : Int) = z + 2 ^ 64 := by
   have := Int.add_mul_emod_self_left z (2 ^ 64) 1
   rw [Int.mul_one] at this
   rw [← this]
   exact Int.emod_eq_of_lt (by omega) (by omega)
  simp only [this]
  rw [if_pos (by simp; omega)]
  omega
 ·have : z % (2 ^ 64 : Int) = z := Int.emod_eq_of_lt h (by omega)
  simp only [this]
  rw [if_neg (by simp; omega)]
def S_rIn (k : Int) (least : Int) (most : Int) : Bool :=
 if (decide ((k) ≥ (least))) = true then decide ((k) ≤ (most)) else false
def S_rNumber (k : Int) : V :=
 (⟨0, k⟩ : V)
def S_rFaultV (f : Int) : V :=
 (⟨f, 0⟩ : V)
def S_rBool (is : Bool) : V :=
 if is = true then S_rNumber 1 else S_rNumber 0
def S_rMake (k : Int) : V :=
 if (decide ((k) < (-9999))) = true then S_rFaultV 2 else if (decide ((k) > 9999)) = true then S_rFaultV 2 else S_rNumber k
def S_rChoose (a : V) (b : V) (c : V) : V :=
 if (decide ((a.f) > 0)) = true then a else if ((a.n) == 0) = true then c else b
def S_rOp1 (code : Int) (a : V) : V :=
 if (decide ((a.f) > 0)) = true then a else if ((code) == 5) = true then S_rNumber (IntKind.i64.wrap (0 - (a.n))) else S_rBool ((a.n) == 0)
theorem mul_small {x y : Int} (hx0 : -20000 ≤ x) (hx1 : x ≤ 20000) (hy0 : 0 ≤ y) (hy1 : y ≤ 20000) : IntKind.i64.wrap (x * y) = x * y := by
 have h1 : x * y ≤ 20000 * y := Int.mul_le_mul_of_nonneg_right hx1 hy0
 have h2 : -20000 * y ≤ x * y := Int.mul_le_mul_of_nonneg_right hx0 hy0
 exact wrap_small (by omega) (by omega)
def S_quot (a b : Int) : Int := if b < 0 then (-a) / (-b) else a / b
def S_rOp2 (code : Int) (a : V) (b : V) : V :=
 if (decide ((a.f) > 0)) = true then a else if ((code) == 15) = true then if ((a.n) == 0) = true then a else if ((code) == 16) = true then if ((a.n) != 0) = true then S_rNumber 1 else b else b else if ((code) == 16) = true then if ((a.n) != 0) = true then S_rNumber 1 else b else if (decide ((b.f) > 0)) = true then b else if ((code) == 7) = true then S_rMake (IntKind.i64.wrap ((a.n) + (b.n))) else if ((code) == 8) = true then S_rMake (IntKind.i64.wrap ((a.n) - (b.n))) else if ((code) == 9) = true then S_rMake (IntKind.i64.wrap ((a.n) * (b.n))) else if ((code) == 12) = true then S_rBool ((a.n) == (b.n)) else if ((code) == 13) = true then S_rBool (decide ((a.n) < (b.n))) else if ((code) == 14) = true then S_rBool (decide ((a.n) ≤ (b.n))) else if ((b.n) == 0) = true then S_rFaultV 1 else if ((code) == 10) = true then S_rNumber (S_quot (a.n) (b.n)) else S_rNumber (IntKind.i64.wrap ((a.n) - (IntKind.i64.wrap ((b.n) * (S_quot (a.n) (b.n))))))
def F_indexV (g : V → Bool) (i : Nat) (x : V) (s : Unit) : (Unit) ⊕ (Nat × V × (Unit)) :=
 if (g x) = true then .inr (i, x, s) else .inl ()
def S_IndexFuncV (g : V → Bool) (l : List V)  : Int :=
 if (isL (runL (F_indexV g) l 0 ())) = true then -1 else (((getR (0, V0, ()) (runL (F_indexV g) l 0 ())).1 : Int))
def S_ContainsFuncV (g : V → Bool) (l : List V)  : Bool :=
 decide ((S_IndexFuncV g l) ≥ 0)
theorem indexV (g : V → Bool) : ∀ (l : List V) (i : Nat), isL (runL (F_indexV g) l i ()) = !(l.any g)
 | [], i => rfl
 | x :: l, i => by
  simp only [runL, F_indexV, List.any_cons]
  cases g x with
  | true => rfl
  | false => simpa using indexV g l (i + 1)
theorem containsV (g : V → Bool) (l : List V) : S_ContainsFuncV g l = l.any g := by
 have := indexV g l 0
 unfold S_ContainsFuncV S_IndexFuncV
 rw [this]
 cases l.any g with
 | true => simp
 | false => simp
theorem indexV_lt (g : V → Bool) : ∀ (l : List V) (i : Nat), isL (runL (F_indexV g) l i ()) = false → (getR (0, V0, ()) (runL (F_indexV g) l i ())).1 < i + l.length ∧ l[(getR (0, V0, ()) (runL (F_indexV g) l i ())).1 - i]? = l.find? g ∧ i ≤ (getR (0, V0, ()) (runL (F_indexV g) l i ())).1
 | [], i, h => by cases h
 | x :: l, i, h => by
  simp only [runL, F_indexV] at h ⊢
  by_cases hx : g x = true
  ·simp only [hx, if_true, getR, List.length_cons, List.find?_cons]
   refine ⟨by omega, by simp, by omega⟩
  ·simp only [Bool.not_eq_true] at hx
   simp only [hx, Bool.false_eq_true, if_false, List.length_cons, List.find?_cons] at h ⊢
   obtain ⟨h1, h2, h3⟩ := indexV_lt g l (i + 1) h
   refine ⟨by omega, ?_, by omega⟩
   rw [← h2, show (getR (0, V0, ()) (runL (F_indexV g) l (i + 1) ())).1 - i = ((getR (0, V0, ()) (runL (F_indexV g) l (i + 1) ())).1 - (i + 1)) + 1 by omega]
   simp
theorem IndexFuncV_lt (g : V → Bool) (l : List V) : S_IndexFuncV g l < l.length := by
 unfold S_IndexFuncV
 split
 ·omega
 ·rename_i h
  have := (indexV_lt g l 0 (by simpa using h)).1
  omega
def S_isNaN (x : Int) : Bool :=
 (x) != (x)
def S_Compare (x : Int) (y : Int) : Int :=
 if (decide ((x) < (y))) = true then -1 else if (decide ((x) > (y))) = true then 1 else 0
def S_vfault (f : Int) : V :=
 (⟨f, 0⟩ : V)
def S_within1V (x : Int) (lo : Int) (hi : Int) : Bool :=
 if (decide ((x) < (lo))) = true then true else decide ((x) > (hi))
def S_withinV (l : List Int) (lo : Int) (hi : Int) : Bool :=
 !(l.any ((fun x => S_within1V x lo hi)))
def S_isCell (v : V) : Bool :=
 if ((v.f) == 0) = true then S_withinV (([v.n] : List Int)) (-9999) 9999 else if (decide ((v.f) ≤ 4)) = true then (v.n) == 0 else false
def S_vMake (k : Int) : V :=
 if (!(S_withinV (([k] : List Int)) (-9999) 9999)) = true then S_vfault 2 else (⟨0, k⟩ : V)
def S_vtruth (is : Bool) : V :=
 if is = true then S_vMake 1 else S_vMake 0
def S_solo1 (a : Int) : V :=
 S_vMake (IntKind.i64.wrap (0 - (a)))
def S_solo2 (a : Int) : V :=
 S_vtruth ((a) == 0)
def S_first1 (v : V) : Bool :=
 (v.f) != 0
def S_are1 (v : V) : Bool :=
 !(S_isCell v)
def S_firstFault (l : List V)  : V × Bool :=
 if (decide ((S_IndexFuncV ((fun v => S_first1 v)) l) < 0)) = true then ((⟨0, 0⟩ : V), false) else ((l.getD (S_IndexFuncV ((fun v => S_first1 v)) l).toNat V0), true)
def S_areCells (l : List V)  : Bool :=
 !(l.any ((fun v => S_are1 v)))
def S_vChoose (a : V) (b : V) (c : V) : V × Int :=
 if (!(S_areCells (([a, b, c] : List V)))) = true then ((⟨0, 0⟩ : V), 2) else if ((a.f) != 0) = true then (a, 0) else if ((a.n) == 0) = true then (c, 0) else (b, 0)
def S_duo1 (a : Int) (b : Int) : V :=
 S_vMake (IntKind.i64.wrap ((a) + (b)))
def S_duo2 (a : Int) (b : Int) : V :=
 S_vMake (IntKind.i64.wrap ((a) - (b)))
def S_duo3 (a : Int) (b : Int) : V :=
 S_vMake (IntKind.i64.wrap ((a) * (b)))
def S_duo4 (a : Int) (b : Int) : Int :=
 a
def S_duo5 (a : Int) (b : Int) : Int :=
 b
def S_duo6 (a : Int) : Bool :=
 (a) == 0
def S_duo7 (a : Int) : Bool :=
 decide ((a) < 0)
def S_duo8 (a : Int) : Bool :=
 decide ((a) ≤ 0)
def S_vquotient (a : Int) (b : Int) : Int × Int :=
 if ((remI .i64 (a) (b)) != 0) = true then if ((decide ((remI .i64 (a) (b)) < 0)) != (decide ((b) < 0))) = true then (IntKind.i64.wrap ((quoI .i64 (a) (b)) - 1), IntKind.i64.wrap ((remI .i64 (a) (b)) + (b))) else (quoI .i64 (a) (b), remI .i64 (a) (b)) else (quoI .i64 (a) (b), remI .i64 (a) (b))
def S_divided1 (g : Int → Int → Int) (a : Int) (b : Int) : V :=
 if ((b) == 0) = true then S_vfault 1 else S_vMake (g ((S_vquotient a b).1) ((S_vquotient a b).2))
def S_compared1 (g : Int → Bool) (a : Int) (b : Int) : V :=
 S_vtruth (g (S_Compare a b))
def S_vOp1_5 (a : V) : V × Int :=
 if (!(S_isCell a)) = true then ((⟨0, 0⟩ : V), 2) else if ((S_firstFault (([a] : List V))).2) = true then ((S_firstFault (([a] : List V))).1, 0) else (S_solo1 a.n, 0)
def S_vOp1_6 (a : V) : V × Int :=
 if (!(S_isCell a)) = true then ((⟨0, 0⟩ : V), 2) else if ((S_firstFault (([a] : List V))).2) = true then ((S_firstFault (([a] : List V))).1, 0) else (S_solo2 a.n, 0)
def S_vOp2_7 (a : V) (b : V) : V × Int :=
 if (!(S_areCells (([a, b] : List V)))) = true then ((⟨0, 0⟩ : V), 2) else if ((S_firstFault (([a, b] : List V))).2) = true then ((S_firstFault (([a, b] : List V))).1, 0) else (S_duo1 a.n b.n, 0)
def S_vOp2_8 (a : V) (b : V) : V × Int :=
 if (!(S_areCells (([a, b] : List V)))) = true then ((⟨0, 0⟩ : V), 2) else if ((S_firstFault (([a, b] : List V))).2) = true then ((S_firstFault (([a, b] : List V))).1, 0) else (S_duo2 a.n b.n, 0)
def S_vOp2_9 (a : V) (b : V) : V × Int :=
 if (!(S_areCells (([a, b] : List V)))) = true then ((⟨0, 0⟩ : V), 2) else if ((S_firstFault (([a, b] : List V))).2) = true then ((S_firstFault (([a, b] : List V))).1, 0) else (S_duo3 a.n b.n, 0)
def S_vOp2_10 (a : V) (b : V) : V × Int :=
 if (!(S_areCells (([a, b] : List V)))) = true then ((⟨0, 0⟩ : V), 2) else if ((S_firstFault (([a, b] : List V))).2) = true then ((S_firstFault (([a, b] : List V))).1, 0) else (S_divided1 S_duo4 (a.n) (b.n), 0)
def S_vOp2_11 (a : V) (b : V) : V × Int :=
 if (!(S_areCells (([a, b] : List V)))) = true then ((⟨0, 0⟩ : V), 2) else if ((S_firstFault (([a, b] : List V))).2) = true then ((S_firstFault (([a, b] : List V))).1, 0) else (S_divided1 S_duo5 (a.n) (b.n), 0)
def S_vOp2_12 (a : V) (b : V) : V × Int :=
 if (!(S_areCells (([a, b] : List V)))) = true then ((⟨0, 0⟩ : V), 2) else if ((S_firstFault (([a, b] : List V))).2) = true then ((S_firstFault (([a, b] : List V))).1, 0) else (S_compared1 S_duo6 (a.n) (b.n), 0)
def S_vOp2_13 (a : V) (b : V) : V × Int :=
 if (!(S_areCells (([a, b] : List V)))) = true then ((⟨0, 0⟩ : V), 2) else if ((S_firstFault (([a, b] : List V))).2) = true then ((S_firstFault (([a, b] : List V))).1, 0) else (S_compared1 S_duo7 (a.n) (b.n), 0)
def S_vOp2_14 (a : V) (b : V) : V × Int :=
 if (!(S_areCells (([a, b] : List V)))) = true then ((⟨0, 0⟩ : V), 2) else if ((S_firstFault (([a, b] : List V))).2) = true then ((S_firstFault (([a, b] : List V))).1, 0) else (S_compared1 S_duo8 (a.n) (b.n), 0)
def S_vOp2_15 (a : V) (b : V) : V × Int :=
 ((S_vChoose a b (S_vMake 0)).1, (S_vChoose a b (S_vMake 0)).2)
def S_vOp2_16 (a : V) (b : V) : V × Int :=
 ((S_vChoose a (S_vMake 1) b).1, (S_vChoose a (S_vMake 1) b).2)
def S_vOp1 (code : Int) (a : V) : V := if code = 5 then (S_vOp1_5 a).1 else (S_vOp1_6 a).1
def S_vOp2 (code : Int) (a b : V) : V :=
 if code = 7 then (S_vOp2_7 a b).1 else if code = 8 then (S_vOp2_8 a b).1 else if code = 9 then (S_vOp2_9 a b).1 else if code = 10 then (S_vOp2_10 a b).1 else if code = 11 then (S_vOp2_11 a b).1 else if code = 12 then (S_vOp2_12 a b).1 else if code = 13 then (S_vOp2_13 a b).1 else if code = 14 then (S_vOp2_14 a b).1 else if code = 15 then (S_vOp2_15 a b).1 else (S_vOp2_16 a b).1
def S_vOp1T (code : Int) (a : V) : V × Int := if code = 5 then S_vOp1_5 a else S_vOp1_6 a
def S_vOp2T (code : Int) (a b : V) : V × Int := if code = 7 then S_vOp2_7 a b else if code = 8 then S_vOp2_8 a b else if code = 9 then S_vOp2_9 a b else if code = 10 then S_vOp2_10 a b else if code = 11 then S_vOp2_11 a b else if code = 12 then S_vOp2_12 a b else if code = 13 then S_vOp2_13 a b else if code = 14 then S_vOp2_14 a b else if code = 15 then S_vOp2_15 a b else S_vOp2_16 a b
theorem nine {p : Int} (h : 7 ≤ p ∧ p ≤ 16) : p = 7 ∨ p = 8 ∨ p = 9 ∨ p = 10 ∨ p = 11 ∨ p = 12 ∨ p = 13 ∨ p = 14 ∨ p = 15 ∨ p = 16 := by omega
abbrev szK (k : K) : Int := IntKind.i64.wrap (IntKind.i64.wrap (k.hi - k.lo) + 1)
structure Good (r : B) : Prop where
 num : -9999 ≤ r.lo ∧ r.lo ≤ r.hi ∧ r.hi ≤ 9999 ∨ r.lo = 1 ∧ r.hi = 0
 f0 : 0 ≤ r.f
 f1 : r.f ≤ 15
structure VGood (v : V) : Prop where
 f0 : 0 ≤ v.f
 f1 : v.f ≤ 4
 n : v.f = 0 → -9999 ≤ v.n ∧ v.n ≤ 9999
 z : v.f ≠ 0 → v.n = 0
theorem withinV1 (k : Int) : S_withinV [k] (-9999) 9999 = (decide (-9999 ≤ k) && decide (k ≤ 9999)) := by
 simp only [S_withinV, S_within1V, List.any_cons, List.any_nil, Bool.or_false]
 by_cases h : k < -9999
 ·simp [h]; omega
 ·by_cases h2 : k > 9999 <;> simp [h, h2] <;> omega
theorem isCell_good {v : V} (h : VGood v) : S_isCell v = true := by
 obtain ⟨f, n⟩ := v
 have h0 := h.f0; have h1 := h.f1; have h2 := h.n; have h3 := h.z
 simp only at h0 h1 h2 h3
 unfold S_isCell
 simp only [withinV1, beq_iff_eq]
 by_cases hf : f = 0
 ·subst hf; simp; exact h2 rfl
 ·simp [hf, h1, h3 hf]
theorem are2 {a b : V} (ha : VGood a) (hb : VGood b) : (!(S_areCells [a, b])) = false := by simp [S_areCells, S_are1, isCell_good ha, isCell_good hb]
theorem are3 {a b c : V} (ha : VGood a) (hb : VGood b) (hc : VGood c) : (!(S_areCells [a, b, c])) = false := by simp [S_areCells, S_are1, isCell_good ha, isCell_good hb, isCell_good hc]
theorem first1 (a : V) : S_firstFault [a] = if a.f ≠ 0 then (a, true) else (⟨0, 0⟩, false) := by
 by_cases h : a.f = 0
 ·simp [S_firstFault, S_IndexFuncV, runL, F_indexV, S_first1, isL, getR, h]
 ·simp [S_firstFault, S_IndexFuncV, runL, F_indexV, S_first1, isL, getR, h]
theorem first2 (a b : V) : S_firstFault [a, b] = if a.f ≠ 0 then (a, true) else if b.f ≠ 0 then (b, true) else (⟨0, 0⟩, false) := by
 by_cases h : a.f = 0
 ·by_cases h2 : b.f = 0
  ·simp [S_firstFault, S_IndexFuncV, runL, F_indexV, S_first1, isL, getR, h, h2]
  ·simp [S_firstFault, S_IndexFuncV, runL, F_indexV, S_first1, isL, getR, h, h2]
 ·simp [S_firstFault, S_IndexFuncV, runL, F_indexV, S_first1, isL, getR, h]
theorem make_eq (k : Int) : S_vMake k = S_rMake k := by
 unfold S_vMake S_rMake S_vfault S_rFaultV S_rNumber
 rw [withinV1]
 by_cases h : k < -9999
 ·rw [if_pos (by simp; omega), if_pos (by simpa using h)]
 ·rw [if_neg (c := decide (k < -9999) = true) (by simpa using h)]
  by_cases h2 : k > 9999
  ·rw [if_pos (by simp; omega), if_pos (by simpa using h2)]
  ·rw [if_neg (by simp; omega), if_neg (by simpa using h2)]
theorem make_good (k : Int) : VGood (S_rMake k) := by
 unfold S_rMake S_rFaultV S_rNumber
 split
 ·exact ⟨by decide, by decide, by simp, by simp⟩
 ·split
  ·exact ⟨by decide, by decide, by simp, by simp⟩
  ·rename_i h1 h2
   simp at h1 h2
   exact ⟨by simp, by simp, fun _ => by simp only; omega, by simp⟩
theorem vtruth_eq (b : Bool) : S_vtruth b = S_rBool b := by cases b <;> rfl
theorem bool_good (b : Bool) : VGood (S_rBool b) := by cases b <;> exact ⟨by decide, by decide, fun _ => by decide, by decide⟩
theorem quot_rest {a b : Int} (hb : b ≠ 0) : a.tmod b = 0 ∨ True → (S_quot a b = (if a.tmod b ≠ 0 ∧ (decide (a.tmod b < 0) != decide (b < 0)) = true then a.tdiv b - 1 else a.tdiv b)) ∧ a - b * S_quot a b = (if a.tmod b ≠ 0 ∧ (decide (a.tmod b < 0) != decide (b < 0)) = true then a.tmod b + b else a.tmod b) ∧ (a - b * S_quot a b).natAbs < b.natAbs := by
 intro _
 have hq := @Int.tdiv_eq_ediv a b
 have hr := @Int.tmod_eq_emod a b
 have hm := Int.mul_ediv_add_emod a b
 have h0 := Int.emod_nonneg a hb
 have h1 := Int.emod_lt a hb
 have hd : b ∣ a ↔ a % b = 0 := ⟨Int.emod_eq_zero_of_dvd, Int.dvd_of_emod_eq_zero⟩
 generalize a.tdiv b = T at *
 generalize a.tmod b = R at *
 generalize hE : a / b = e at *
 generalize hM : a % b = m at *
 unfold S_quot
 have cT : 0 ≤ a ∨ b ∣ a → T = e ∧ R = m := fun h => by rw [if_pos h] at hq hr; omega
 rcases Int.lt_or_gt_of_ne hb with hb0 | hb0
 ·rw [if_pos hb0]
  have hsg : b.sign = -1 := Int.sign_eq_neg_one_of_neg hb0
  have hna : (b.natAbs : Int) = -b := by omega
  have cF : ¬ (0 ≤ a ∨ b ∣ a) → T = e - 1 ∧ R = m + b := fun h => by rw [if_neg h] at hq hr; omega
  rw [hna] at h1
  by_cases hm0 : m = 0
  ·have u := (Int.ediv_emod_unique (a := -a) (b := -b) (r := 0) (q := e) (by omega)).2 ⟨by rw [Int.neg_mul]; omega, by omega, by omega⟩
   rw [u.1]
   obtain ⟨c1, c2⟩ := cT (.inr (hd.2 hm0))
   subst c1; subst c2
   rw [if_neg (by simp [hm0]), if_neg (by simp [hm0])]
   omega
  ·have hnd : ¬ b ∣ a := fun h => hm0 (hd.1 h)
   have e1 : b * (e - 1) = b * e - b := by rw [Int.mul_sub, Int.mul_one]
   have u := (Int.ediv_emod_unique (a := -a) (b := -b) (r := -b - m) (q := e - 1) (by omega)).2 ⟨by rw [Int.neg_mul, e1]; omega, by omega, by omega⟩
   rw [u.1, e1]
   by_cases ha : 0 ≤ a
   ·obtain ⟨c1, c2⟩ := cT (.inl ha)
    subst c1; subst c2
    have hc : (R ≠ 0 ∧ (decide (R < 0) != decide (b < 0)) = true) := ⟨hm0, by simp [hb0]; omega⟩
    rw [if_pos hc, if_pos hc]
    omega
   ·obtain ⟨c1, c2⟩ := cF (by simp [ha, hnd])
    have hc : ¬ (R ≠ 0 ∧ (decide (R < 0) != decide (b < 0)) = true) := fun h => by
     have := h.2; simp [hb0] at this; omega
    rw [if_neg hc, if_neg hc]
    omega
 ·rw [if_neg (by omega), hE]
  have hsg : b.sign = 1 := Int.sign_eq_one_of_pos hb0
  have hna : (b.natAbs : Int) = b := by omega
  have cF : ¬ (0 ≤ a ∨ b ∣ a) → T = e + 1 ∧ R = m - b := fun h => by rw [if_neg h] at hq hr; omega
  rw [hna] at h1
  by_cases hc0 : 0 ≤ a ∨ b ∣ a
  ·obtain ⟨c1, c2⟩ := cT hc0
   have hc : ¬ (R ≠ 0 ∧ (decide (R < 0) != decide (b < 0)) = true) := fun h => by
    have := h.2; simp at this; omega
   rw [if_neg hc, if_neg hc]
   omega
  ·obtain ⟨c1, c2⟩ := cF hc0
   have hm0 : m ≠ 0 := fun h => hc0 (.inr (hd.2 h))
   have hc : (R ≠ 0 ∧ (decide (R < 0) != decide (b < 0)) = true) := ⟨by omega, by simp; omega⟩
   rw [if_pos hc, if_pos hc]
   omega
theorem wr {z : Int} (h1 : -1000000000 ≤ z) (h2 : z ≤ 1000000000) : IntKind.i64.wrap z = z := wrap_small (by omega) (by omega)
theorem vquot_eq {a b : Int} (a0 : -9999 ≤ a) (a1 : a ≤ 9999) (b0 : -9999 ≤ b) (b1 : b ≤ 9999) (hb : b ≠ 0) : S_vquotient a b = (S_quot a b, a - b * S_quot a b) ∧ (-9999 ≤ S_quot a b ∧ S_quot a b ≤ 9999) ∧ (-9999 ≤ a - b * S_quot a b ∧ a - b * S_quot a b ≤ 9999) ∧ IntKind.i64.wrap (a - IntKind.i64.wrap (b * S_quot a b)) = a - b * S_quot a b := by
 obtain ⟨h1, h2, h3⟩ := quot_rest (a := a) hb (.inr trivial)
 have hna : (a.tdiv b).natAbs ≤ a.natAbs := by rw [Int.natAbs_tdiv]; exact Nat.div_le_self _ _
 have hq : quoI .i64 a b = a.tdiv b := wr (by omega) (by omega)
 have hp : (b * S_quot a b).natAbs = b.natAbs * (S_quot a b).natAbs := Int.natAbs_mul _ _
 have hQ : (S_quot a b).natAbs ≤ 9999 := by
  rcases Nat.lt_or_ge 9999 (S_quot a b).natAbs with h | h
  ·have := Nat.mul_le_mul_left b.natAbs (show 10000 ≤ (S_quot a b).natAbs from h)
   generalize b * S_quot a b = p at *
   generalize b.natAbs * (S_quot a b).natAbs = r at *
   omega
  ·exact h
 refine ⟨?_, by omega, by generalize b * S_quot a b = p at *; omega, ?_⟩
 ·unfold S_vquotient remI
  rw [hq]
  have hw1 : IntKind.i64.wrap (a.tdiv b - 1) = a.tdiv b - 1 := wr (by omega) (by omega)
  have hrb : (a.tmod b).natAbs ≤ 9999 := by rw [Int.natAbs_tmod]; exact Nat.le_trans (Nat.mod_le _ _) (by omega)
  have hw2 : IntKind.i64.wrap (a.tmod b + b) = a.tmod b + b := wr (by omega) (by omega)
  rw [h2, h1, hw1, hw2]
  by_cases c1 : a.tmod b = 0
  ·rw [if_neg (by simp [c1]), if_neg (by simp [c1]), if_neg (by simp [c1])]
  ·rw [if_pos (by simpa using c1)]
   by_cases c2 : (decide (a.tmod b < 0) != decide (b < 0)) = true
   ·rw [if_pos c2, if_pos ⟨c1, c2⟩, if_pos ⟨c1, c2⟩]
   ·rw [if_neg c2, if_neg (fun h => c2 h.2), if_neg (fun h => c2 h.2)]
 ·rw [wr (z := b * S_quot a b) (by generalize b * S_quot a b = p at *; omega) (by generalize b * S_quot a b = p at *; omega)]
  exact wr (by generalize b * S_quot a b = p at *; omega) (by generalize b * S_quot a b = p at *; omega)
theorem rMake_in {k : Int} (h1 : -9999 ≤ k) (h2 : k ≤ 9999) : S_rMake k = S_rNumber k := by
 unfold S_rMake
 rw [if_neg (by simp; omega), if_neg (by simp; omega)]
theorem op2_of {g : Int → Int → V} {a b : V} (ha : VGood a) (hb : VGood b) : (if (!(S_areCells [a, b])) = true then ((⟨0, 0⟩ : V), (2 : Int)) else if (S_firstFault [a, b]).2 = true then ((S_firstFault [a, b]).1, 0) else (g a.n b.n, 0)).1 = if a.f ≠ 0 then a else if b.f ≠ 0 then b else g a.n b.n := by
 rw [are2 ha hb, first2]
 by_cases h : a.f = 0
 ·by_cases h2 : b.f = 0 <;> simp [h, h2]
 ·simp [h]
theorem op1_of {g : Int → V} {a : V} (ha : VGood a) : (if (!(S_isCell a)) = true then ((⟨0, 0⟩ : V), (2 : Int)) else if (S_firstFault [a]).2 = true then ((S_firstFault [a]).1, 0) else (g a.n, 0)).1 = if a.f ≠ 0 then a else g a.n := by
 rw [isCell_good ha, first1]
 by_cases h : a.f = 0 <;> simp [h]
theorem fpos {a : V} (ha : VGood a) (h : a.f ≠ 0) : decide (a.f > 0) = true := by have := ha.f0; simp; omega
theorem num_good {k : Int} (h1 : -9999 ≤ k) (h2 : k ≤ 9999) : VGood (S_rNumber k) := ⟨by simp [S_rNumber], by simp [S_rNumber], fun _ => ⟨h1, h2⟩, fun h => by simp [S_rNumber] at h⟩
theorem div_eq {a b : V} (ha : VGood a) (hb : VGood b) (h : a.f = 0) (h2 : b.f = 0) : S_divided1 S_duo4 a.n b.n = (if (b.n == 0) = true then S_rFaultV 1 else S_rNumber (S_quot a.n b.n)) ∧ VGood (if (b.n == 0) = true then S_rFaultV 1 else S_rNumber (S_quot a.n b.n)) := by
 have a9 := ha.n h; have b9 := hb.n h2
 unfold S_divided1 S_duo4
 by_cases hz : b.n = 0
 ·rw [if_pos (by simpa using hz), if_pos (by simpa using hz)]; exact ⟨rfl, ⟨by decide, by decide, by decide, by decide⟩⟩
 ·obtain ⟨q1, q2, _, _⟩ := vquot_eq a9.1 a9.2 b9.1 b9.2 hz
  rw [if_neg (by simpa using hz), if_neg (by simpa using hz), q1, make_eq, rMake_in q2.1 q2.2]
  exact ⟨rfl, num_good q2.1 q2.2⟩
theorem mod_eq {a b : V} (ha : VGood a) (hb : VGood b) (h : a.f = 0) (h2 : b.f = 0) : S_divided1 S_duo5 a.n b.n = (if (b.n == 0) = true then S_rFaultV 1 else S_rNumber (IntKind.i64.wrap (a.n - IntKind.i64.wrap (b.n * S_quot a.n b.n)))) ∧ VGood (if (b.n == 0) = true then S_rFaultV 1 else S_rNumber (IntKind.i64.wrap (a.n - IntKind.i64.wrap (b.n * S_quot a.n b.n)))) := by
 have a9 := ha.n h; have b9 := hb.n h2
 unfold S_divided1 S_duo5
 by_cases hz : b.n = 0
 ·rw [if_pos (by simpa using hz), if_pos (by simpa using hz)]; exact ⟨rfl, ⟨by decide, by decide, by decide, by decide⟩⟩
 ·obtain ⟨q1, _, q3, q4⟩ := vquot_eq a9.1 a9.2 b9.1 b9.2 hz
  rw [if_neg (by simpa using hz), if_neg (by simpa using hz), q1, make_eq, q4, rMake_in q3.1 q3.2]
  exact ⟨rfl, num_good q3.1 q3.2⟩
theorem cmp_eq (a b : Int) : S_compared1 S_duo6 a b = S_rBool (a == b) ∧ S_compared1 S_duo7 a b = S_rBool (decide (a < b)) ∧ S_compared1 S_duo8 a b = S_rBool (decide (a ≤ b)) := by
 unfold S_compared1 S_duo6 S_duo7 S_duo8 S_Compare
 simp only [vtruth_eq]
 rcases Int.lt_trichotomy a b with h | h | h
 ·have : (a == b) = false := by simp; omega
  simp [h, this, Int.le_of_lt h]
 ·subst h; simp
 ·have h1 : ¬ a < b := by omega
  have h2 : (a == b) = false := by simp; omega
  have h3 : ¬ a ≤ b := by omega
  simp [h, h1, h2, h3]
theorem op2_eq {k : Int} (h7 : 7 ≤ k ∧ k ≤ 16) {a b : V} (ha : VGood a) (hb : VGood b) : S_vOp2 k a b = S_rOp2 k a b ∧ VGood (S_rOp2 k a b) := by
 have e15 : a.f = 0 → S_vOp2 15 a b = S_rOp2 15 a b ∧ VGood (S_rOp2 15 a b) := fun h => by
  rw [show S_vOp2 15 a b = (S_vOp2_15 a b).1 from rfl, show S_rOp2 15 a b = (if (a.n == 0) = true then a else b) by simp [S_rOp2, h]]
  unfold S_vOp2_15 S_vChoose; rw [are3 ha hb (make_eq 0 ▸ make_good 0)]
  by_cases hz : a.n = 0
  ·have : a = ⟨0, 0⟩ := by obtain ⟨f, n⟩ := a; simp only at h hz; rw [h, hz]
   subst this
   exact ⟨rfl, ha⟩
  ·simp [h, hz]; exact hb
 have e16 : a.f = 0 → S_vOp2 16 a b = S_rOp2 16 a b ∧ VGood (S_rOp2 16 a b) := fun h => by
  rw [show S_vOp2 16 a b = (S_vOp2_16 a b).1 from rfl, show S_rOp2 16 a b = (if (a.n != 0) = true then S_rNumber 1 else b) by simp [S_rOp2, h]]
  unfold S_vOp2_16 S_vChoose; rw [are3 ha (make_eq 1 ▸ make_good 1) hb]
  by_cases hz : a.n = 0
  ·simp [h, hz]; exact hb
  ·simp [h, hz]; exact ⟨rfl, num_good (by decide) (by decide)⟩
 by_cases h : a.f = 0
 ·by_cases h2 : b.f = 0
  ·have d := div_eq ha hb h h2
   have m := mod_eq ha hb h h2
   have c := cmp_eq a.n b.n
   rcases nine h7 with rfl | rfl | rfl | rfl | rfl | rfl | rfl | rfl | rfl | rfl
   ·rw [show S_vOp2 7 a b = (S_vOp2_7 a b).1 from rfl, show S_rOp2 7 a b = S_rMake (IntKind.i64.wrap (a.n + b.n)) by simp [S_rOp2, h, h2]]
    unfold S_vOp2_7; rw [op2_of (g := fun x y => S_duo1 x y) ha hb]; simp only [h, h2, ne_eq, not_true, if_false, S_duo1, make_eq]; exact ⟨trivial, make_good _⟩
   ·rw [show S_vOp2 8 a b = (S_vOp2_8 a b).1 from rfl, show S_rOp2 8 a b = S_rMake (IntKind.i64.wrap (a.n - b.n)) by simp [S_rOp2, h, h2]]
    unfold S_vOp2_8; rw [op2_of (g := fun x y => S_duo2 x y) ha hb]; simp only [h, h2, ne_eq, not_true, if_false, S_duo2, make_eq]; exact ⟨trivial, make_good _⟩
   ·rw [show S_vOp2 9 a b = (S_vOp2_9 a b).1 from rfl, show S_rOp2 9 a b = S_rMake (IntKind.i64.wrap (a.n * b.n)) by simp [S_rOp2, h, h2]]
    unfold S_vOp2_9; rw [op2_of (g := fun x y => S_duo3 x y) ha hb]; simp only [h, h2, ne_eq, not_true, if_false, S_duo3, make_eq]; exact ⟨trivial, make_good _⟩
   ·rw [show S_vOp2 10 a b = (S_vOp2_10 a b).1 from rfl, show S_rOp2 10 a b = (if (b.n == 0) = true then S_rFaultV 1 else S_rNumber (S_quot a.n b.n)) by simp [S_rOp2, h, h2]]
    unfold S_vOp2_10; rw [op2_of (g := fun x y => S_divided1 S_duo4 x y) ha hb]; simp only [h, h2, ne_eq, not_true, if_false]; exact d
   ·rw [show S_vOp2 11 a b = (S_vOp2_11 a b).1 from rfl, show S_rOp2 11 a b = (if (b.n == 0) = true then S_rFaultV 1 else S_rNumber (IntKind.i64.wrap (a.n - IntKind.i64.wrap (b.n * S_quot a.n b.n)))) by simp [S_rOp2, h, h2]]
    unfold S_vOp2_11; rw [op2_of (g := fun x y => S_divided1 S_duo5 x y) ha hb]; simp only [h, h2, ne_eq, not_true, if_false]; exact m
   ·rw [show S_vOp2 12 a b = (S_vOp2_12 a b).1 from rfl, show S_rOp2 12 a b = S_rBool (a.n == b.n) by simp [S_rOp2, h, h2]]
    unfold S_vOp2_12; rw [op2_of (g := fun x y => S_compared1 S_duo6 x y) ha hb]; simp only [h, h2, ne_eq, not_true, if_false]; exact ⟨c.1, bool_good _⟩
   ·rw [show S_vOp2 13 a b = (S_vOp2_13 a b).1 from rfl, show S_rOp2 13 a b = S_rBool (decide (a.n < b.n)) by simp [S_rOp2, h, h2]]
    unfold S_vOp2_13; rw [op2_of (g := fun x y => S_compared1 S_duo7 x y) ha hb]; simp only [h, h2, ne_eq, not_true, if_false]; exact ⟨c.2.1, bool_good _⟩
   ·rw [show S_vOp2 14 a b = (S_vOp2_14 a b).1 from rfl, show S_rOp2 14 a b = S_rBool (decide (a.n ≤ b.n)) by simp [S_rOp2, h, h2]]
    unfold S_vOp2_14; rw [op2_of (g := fun x y => S_compared1 S_duo8 x y) ha hb]; simp only [h, h2, ne_eq, not_true, if_false]; exact ⟨c.2.2, bool_good _⟩
   ·exact e15 h
   ·exact e16 h
  ·rcases nine h7 with rfl | rfl | rfl | rfl | rfl | rfl | rfl | rfl | rfl | rfl
   ·rw [show S_vOp2 7 a b = (S_vOp2_7 a b).1 from rfl, show S_rOp2 7 a b = b by simp [S_rOp2, h, fpos hb h2]]
    unfold S_vOp2_7; rw [op2_of (g := fun x y => S_duo1 x y) ha hb]; simp only [h, h2, ne_eq, not_true, not_false_eq_true, if_false, if_true]; exact ⟨trivial, hb⟩
   ·rw [show S_vOp2 8 a b = (S_vOp2_8 a b).1 from rfl, show S_rOp2 8 a b = b by simp [S_rOp2, h, fpos hb h2]]
    unfold S_vOp2_8; rw [op2_of (g := fun x y => S_duo2 x y) ha hb]; simp only [h, h2, ne_eq, not_true, not_false_eq_true, if_false, if_true]; exact ⟨trivial, hb⟩
   ·rw [show S_vOp2 9 a b = (S_vOp2_9 a b).1 from rfl, show S_rOp2 9 a b = b by simp [S_rOp2, h, fpos hb h2]]
    unfold S_vOp2_9; rw [op2_of (g := fun x y => S_duo3 x y) ha hb]; simp only [h, h2, ne_eq, not_true, not_false_eq_true, if_false, if_true]; exact ⟨trivial, hb⟩
   ·rw [show S_vOp2 10 a b = (S_vOp2_10 a b).1 from rfl, show S_rOp2 10 a b = b by simp [S_rOp2, h, fpos hb h2]]
    unfold S_vOp2_10; rw [op2_of (g := fun x y => S_divided1 S_duo4 x y) ha hb]; simp only [h, h2, ne_eq, not_true, not_false_eq_true, if_false, if_true]; exact ⟨trivial, hb⟩
   ·rw [show S_vOp2 11 a b = (S_vOp2_11 a b).1 from rfl, show S_rOp2 11 a b = b by simp [S_rOp2, h, fpos hb h2]]
    unfold S_vOp2_11; rw [op2_of (g := fun x y => S_divided1 S_duo5 x y) ha hb]; simp only [h, h2, ne_eq, not_true, not_false_eq_true, if_false, if_true]; exact ⟨trivial, hb⟩
   ·rw [show S_vOp2 12 a b = (S_vOp2_12 a b).1 from rfl, show S_rOp2 12 a b = b by simp [S_rOp2, h, fpos hb h2]]
    unfold S_vOp2_12; rw [op2_of (g := fun x y => S_compared1 S_duo6 x y) ha hb]; simp only [h, h2, ne_eq, not_true, not_false_eq_true, if_false, if_true]; exact ⟨trivial, hb⟩
   ·rw [show S_vOp2 13 a b = (S_vOp2_13 a b).1 from rfl, show S_rOp2 13 a b = b by simp [S_rOp2, h, fpos hb h2]]
    unfold S_vOp2_13; rw [op2_of (g := fun x y => S_compared1 S_duo7 x y) ha hb]; simp only [h, h2, ne_eq, not_true, not_false_eq_true, if_false, if_true]; exact ⟨trivial, hb⟩
   ·rw [show S_vOp2 14 a b = (S_vOp2_14 a b).1 from rfl, show S_rOp2 14 a b = b by simp [S_rOp2, h, fpos hb h2]]
    unfold S_vOp2_14; rw [op2_of (g := fun x y => S_compared1 S_duo8 x y) ha hb]; simp only [h, h2, ne_eq, not_true, not_false_eq_true, if_false, if_true]; exact ⟨trivial, hb⟩
   ·exact e15 h
   ·exact e16 h
 ·rcases nine h7 with rfl | rfl | rfl | rfl | rfl | rfl | rfl | rfl | rfl | rfl
  ·rw [show S_vOp2 7 a b = (S_vOp2_7 a b).1 from rfl, show S_rOp2 7 a b = a by simp [S_rOp2, fpos ha h]]
   unfold S_vOp2_7; rw [op2_of (g := fun x y => S_duo1 x y) ha hb]; simp only [h, ne_eq, not_true, not_false_eq_true, if_true]; exact ⟨trivial, ha⟩
  ·rw [show S_vOp2 8 a b = (S_vOp2_8 a b).1 from rfl, show S_rOp2 8 a b = a by simp [S_rOp2, fpos ha h]]
   unfold S_vOp2_8; rw [op2_of (g := fun x y => S_duo2 x y) ha hb]; simp only [h, ne_eq, not_true, not_false_eq_true, if_true]; exact ⟨trivial, ha⟩
  ·rw [show S_vOp2 9 a b = (S_vOp2_9 a b).1 from rfl, show S_rOp2 9 a b = a by simp [S_rOp2, fpos ha h]]
   unfold S_vOp2_9; rw [op2_of (g := fun x y => S_duo3 x y) ha hb]; simp only [h, ne_eq, not_true, not_false_eq_true, if_true]; exact ⟨trivial, ha⟩
  ·rw [show S_vOp2 10 a b = (S_vOp2_10 a b).1 from rfl, show S_rOp2 10 a b = a by simp [S_rOp2, fpos ha h]]
   unfold S_vOp2_10; rw [op2_of (g := fun x y => S_divided1 S_duo4 x y) ha hb]; simp only [h, ne_eq, not_true, not_false_eq_true, if_true]; exact ⟨trivial, ha⟩
  ·rw [show S_vOp2 11 a b = (S_vOp2_11 a b).1 from rfl, show S_rOp2 11 a b = a by simp [S_rOp2, fpos ha h]]
   unfold S_vOp2_11; rw [op2_of (g := fun x y => S_divided1 S_duo5 x y) ha hb]; simp only [h, ne_eq, not_true, not_false_eq_true, if_true]; exact ⟨trivial, ha⟩
  ·rw [show S_vOp2 12 a b = (S_vOp2_12 a b).1 from rfl, show S_rOp2 12 a b = a by simp [S_rOp2, fpos ha h]]
   unfold S_vOp2_12; rw [op2_of (g := fun x y => S_compared1 S_duo6 x y) ha hb]; simp only [h, ne_eq, not_true, not_false_eq_true, if_true]; exact ⟨trivial, ha⟩
  ·rw [show S_vOp2 13 a b = (S_vOp2_13 a b).1 from rfl, show S_rOp2 13 a b = a by simp [S_rOp2, fpos ha h]]
   unfold S_vOp2_13; rw [op2_of (g := fun x y => S_compared1 S_duo7 x y) ha hb]; simp only [h, ne_eq, not_true, not_false_eq_true, if_true]; exact ⟨trivial, ha⟩
  ·rw [show S_vOp2 14 a b = (S_vOp2_14 a b).1 from rfl, show S_rOp2 14 a b = a by simp [S_rOp2, fpos ha h]]
   unfold S_vOp2_14; rw [op2_of (g := fun x y => S_compared1 S_duo8 x y) ha hb]; simp only [h, ne_eq, not_true, not_false_eq_true, if_true]; exact ⟨trivial, ha⟩
  ·rw [show S_vOp2 15 a b = (S_vOp2_15 a b).1 from rfl, show S_rOp2 15 a b = a by simp [S_rOp2, fpos ha h]]
   unfold S_vOp2_15 S_vChoose; rw [are3 ha hb (make_eq 0 ▸ make_good 0)]; simp [h]; exact ha
  ·rw [show S_vOp2 16 a b = (S_vOp2_16 a b).1 from rfl, show S_rOp2 16 a b = a by simp [S_rOp2, fpos ha h]]
   unfold S_vOp2_16 S_vChoose; rw [are3 ha (make_eq 1 ▸ make_good 1) hb]; simp [h]; exact ha
theorem good_V0 : VGood V0 := ⟨by decide, by decide, fun _ => by decide, fun h => by simp at h⟩
theorem vgood_at {l : List V} (hl : ∀ v ∈ l, VGood v) (k : Nat) : VGood (l.getD k V0) := by
 rw [List.getD_eq_getElem?_getD]
 cases h : l[k]? with
 | none => exact good_V0
 | some v => exact hl v (List.mem_of_getElem? h)
theorem op1_eq {k : Int} (hk : k = 5 ∨ k = 6) {a : V} (ha : VGood a) : S_vOp1 k a = S_rOp1 k a ∧ VGood (S_rOp1 k a) := by
 by_cases h : a.f = 0
 ·have a9 := ha.n h
  have hw : IntKind.i64.wrap (0 - a.n) = 0 - a.n := wr (by omega) (by omega)
  rcases hk with rfl | rfl
  ·rw [show S_vOp1 5 a = (S_vOp1_5 a).1 from rfl, show S_rOp1 5 a = S_rNumber (IntKind.i64.wrap (0 - a.n)) by simp [S_rOp1, h]]
   unfold S_vOp1_5; rw [op1_of (g := fun x => S_solo1 x) ha]
   simp only [h, ne_eq, not_true, if_false, S_solo1, make_eq]
   rw [hw, rMake_in (by omega) (by omega)]
   exact ⟨rfl, num_good (by omega) (by omega)⟩
  ·rw [show S_vOp1 6 a = (S_vOp1_6 a).1 from rfl, show S_rOp1 6 a = S_rBool (a.n == 0) by simp [S_rOp1, h]]
   unfold S_vOp1_6; rw [op1_of (g := fun x => S_solo2 x) ha]
   simp only [h, ne_eq, not_true, if_false, S_solo2, vtruth_eq]
   exact ⟨trivial, bool_good _⟩
 ·rcases hk with rfl | rfl
  ·rw [show S_vOp1 5 a = (S_vOp1_5 a).1 from rfl, show S_rOp1 5 a = a by simp [S_rOp1, fpos ha h]]
   unfold S_vOp1_5; rw [op1_of (g := fun x => S_solo1 x) ha]
   simp only [h, ne_eq, not_false_eq_true, if_true]; exact ⟨trivial, ha⟩
  ·rw [show S_vOp1 6 a = (S_vOp1_6 a).1 from rfl, show S_rOp1 6 a = a by simp [S_rOp1, fpos ha h]]
   unfold S_vOp1_6; rw [op1_of (g := fun x => S_solo2 x) ha]
   simp only [h, ne_eq, not_false_eq_true, if_true]; exact ⟨trivial, ha⟩
theorem choose_rv {a b c : V} (ha : VGood a) (hb : VGood b) (hc : VGood c) : (S_vChoose a b c).1 = S_rChoose a b c ∧ VGood (S_rChoose a b c) := by
 unfold S_vChoose S_rChoose
 rw [are3 ha hb hc]
 by_cases h : a.f = 0
 ·by_cases hz : a.n = 0
  ·simp [h, hz]; exact hc
  ·simp [h, hz]; exact hb
 ·have := fpos ha h
  simp only [decide_eq_true_eq] at this
  simp [h, this]; exact ha
def szN (k : K) : Nat := (k.hi - k.lo + 1).toNat
structure KOk (k : K) : Prop where
 lo : -9999 ≤ k.lo
 le : k.lo ≤ k.hi
 hi : k.hi ≤ 9999
 sz : k.hi - k.lo + 1 ≤ 12
theorem KOk.n {k : K} (h : KOk k) : szK k = szN k ∧ 0 < szN k ∧ szN k ≤ 12 := by
 have := h.le; have := h.sz; have := h.lo; have := h.hi
 unfold szK szN
 rw [wr (z := k.hi - k.lo) (by omega) (by omega), wr (by omega) (by omega)]
 omega
end Go.Proofs.YtmefgijobonklaaGreat
namespace Pv
open Go Tw
def cntN {σ ρ : Type} (g : Nat → σ → σ ⊕ ρ) : Nat → Nat → σ → σ ⊕ ρ
 | 0, _, s => .inl s
 | m + 1, k, s => match g k s with
  | .inl s' => cntN g m (k + 1) s'
  | .inr r => .inr r
def foldN {σ : Type} (g : Nat → σ → σ) : Nat → Nat → σ → σ
 | 0, _, s => s
 | m + 1, k, s => foldN g m (k + 1) (g k s)
theorem cntN_fold {σ ρ : Type} {g : Nat → σ → σ} : ∀ (m k : Nat) (s : σ), cntN (ρ := ρ) (fun k s => .inl (g k s)) m k s = .inl (foldN g m k s)
 | 0, _, _ => rfl
 | m + 1, k, s => cntN_fold m (k + 1) (g k s)
theorem foldN_succ {σ : Type} {g : Nat → σ → σ} : ∀ (m k : Nat) (s : σ), foldN g (m + 1) k s = g (k + m) (foldN g m k s)
 | 0, _, _ => rfl
 | m + 1, k, s => by
  rw [foldN, foldN_succ m (k + 1), show k + 1 + m = k + (m + 1) by omega]; rfl
theorem foldN_inv {σ : Type} {g : Nat → σ → σ} (Q : Nat → σ → Prop) {m k : Nat} {s : σ} (h0 : Q k s) (hs : ∀ j s, k ≤ j → j < k + m → Q j s → Q (j + 1) (g j s)) : Q (k + m) (foldN g m k s) := by
 induction m with
 | zero => exact h0
 | succ m ih => rw [foldN_succ]; exact hs (k + m) _ (by omega) (by omega) (ih fun j s h1 h2 h3 => hs j s h1 (by omega) h3)
theorem cntN_isL {c : Nat → Bool} {ρ : Type} {r : Nat → ρ} : ∀ (m k : Nat), isL (cntN (σ := Unit) (fun k _ => if c k = true then .inr (r k) else .inl ()) m k ()) = true ↔ ∀ j, k ≤ j → j < k + m → c j = false
 | 0, k => by simp [cntN, isL]; omega
 | m + 1, k => by
  simp only [cntN]
  by_cases hc : c k = true
  ·simp only [hc, if_true, isL, Bool.false_eq_true, false_iff]
   intro h
   have := h k (Nat.le_refl _) (by omega)
   rw [hc] at this; cases this
  ·simp only [hc, Bool.false_eq_true, if_false]
   rw [cntN_isL m (k + 1)]
   constructor
   ·intro h j h1 h2
    rcases Nat.lt_or_ge k j with h3 | h3
    ·exact h j h3 (by omega)
    ·rw [show j = k by omega]; simpa using hc
   ·intro h j h1 h2
    exact h j (by omega) (by omega)
abbrev gS (c : Nat → Bool) (k : Nat) (_ : Unit) : Unit ⊕ Nat := if c k = true then .inr k else .inl ()
abbrev srch (c : Nat → Bool) (N : Nat) : Unit ⊕ Nat := cntN (gS c) N 0 ()
theorem srch_ok {c : Nat → Bool} {N : Nat} : isL (srch c N) = true ↔ ∀ j, j < N → c j = false := by
 unfold srch gS
 rw [cntN_isL (r := fun k => k)]
 exact ⟨fun h j hj => h j (by omega) (by omega), fun h j _ hj => h j (by omega)⟩
def downN {σ : Type} (g : Nat → σ → σ) : Nat → σ → σ
 | 0, s => s
 | k + 1, s => downN g k (g k s)
theorem downN_inv {σ : Type} {g : Nat → σ → σ} (Q : Nat → σ → Prop) : ∀ {k : Nat} {s : σ}, Q k s → (∀ j s, j < k → Q (j + 1) s → Q j (g j s)) → Q 0 (downN g k s)
 | 0, _, h, _ => h
 | k + 1, s, h, hs => downN_inv Q (k := k) (hs k s (by omega) h) fun j s h1 h2 => hs j s (by omega) h2
theorem all_getD {α : Type} {l : List α} {d : α} {p : α → Prop} : (∀ j, j < l.length → p (l.getD j d)) ↔ ∀ a ∈ l, p a := by
 constructor
 ·intro h a ha
  obtain ⟨j, hj, rfl⟩ := List.mem_iff_getElem.1 ha
  simpa [List.getD, List.getElem?_eq_getElem hj] using h j hj
 ·intro h j hj
  have : l.getD j d = l[j] := by simp [List.getD, List.getElem?_eq_getElem hj]
  rw [this]; exact h _ (List.getElem_mem hj)
theorem eq_getD {α : Type} {a b : List α} {d : α} (hl : a.length = b.length) : a = b ↔ ∀ j, j < a.length → a.getD j d = b.getD j d := by
 constructor
 ·rintro rfl j _; rfl
 ·intro h
  apply List.ext_getElem hl
  intro j h1 h2
  simpa [List.getD, List.getElem?_eq_getElem h1, List.getElem?_eq_getElem h2] using h j h1
section
variable {X : Cod} {P : Program} {T : Tab} {L : Nat} {f nt B : Nat} {rnd : Bool} {call : CallT} {b : Code} {σ ρ : Type}
def contN (out : σ ⊕ ρ → Ex × PSt X.Γ) (g : Nat → σ → σ ⊕ ρ) (m k : Nat) : σ ⊕ ρ → Ex × PSt X.Γ
 | .inl s => out (cntN g m k s)
 | .inr r => out (.inr r)
theorem eachN {N : Nat} {st : Int → σ → PSt X.Γ} {g : Nat → σ → σ ⊕ ρ} {out : σ ⊕ ρ → Ex × PSt X.Γ} {s0 : σ} {w : PSt X.Γ} (Inv : Nat → σ → Prop) (h0 : patHead X (T.headAt f (headId b)) w = st 0 s0) (hl : N ≤ most) (hL : most < L) (hi : Inv 0 s0)
  (hs : ∀ (k : Nat) (s : σ) (n : Nat), k < N → Inv k s → (∀ s1, Inv (k + 1) s1 → RoundsH X P T call L f rnd nt B b n (st (IntKind.i64.wrap (k + 1)) s1) (contN out g (N - (k + 1)) (k + 1) (.inl s1)).1 (contN out g (N - (k + 1)) (k + 1) (.inl s1)).2) →
   RoundsH X P T call L f rnd nt B b (n + 1) (st k s) (contN out g (N - (k + 1)) (k + 1) (g k s)).1 (contN out g (N - (k + 1)) (k + 1) (g k s)).2)
  (ho : ∀ s, Inv N s → RoundsH X P T call L f rnd nt B b 1 (st N s) (out (.inl s)).1 (out (.inl s)).2) :
  ExecS X P T call L f rnd nt B (.loop b) w (out (cntN g N 0 s0)).1 (out (cntN g N 0 s0)).2 := by
 have key : ∀ (m k : Nat) (s : σ), k + m = N → Inv k s → RoundsH X P T call L f rnd nt B b (m + 1) (st k s) (out (cntN g m k s)).1 (out (cntN g m k s)).2 := by
  intro m
  induction m with
  | zero =>
   intro k s hk hr
   have : k = N := by omega
   subst this
   exact ho s hr
  | succ m ih =>
   intro k s hk hr
   have hlt : k < N := by omega
   have h1 := hs k s (m + 1) hlt hr fun s1 h => by
    have := ih (k + 1) s1 (by omega) h
    rw [wrap_up (by omega), show N - (k + 1) = m by omega]
    exact this
   rw [show N - (k + 1) = m by omega] at h1
   simp only [cntN]
   cases hg : g k s with
   | inl s1 => rw [hg] at h1; exact h1
   | inr r => rw [hg] at h1; exact h1
 exact loopH_of (key N 0 s0 (by omega) hi) h0 (by omega)
theorem foldE {N : Nat} {st : Int → σ → PSt X.Γ} {g : Nat → σ → σ} {e : Ex} {fin : σ → PSt X.Γ} {s0 : σ} {w : PSt X.Γ} (Inv : Nat → σ → Prop) (h0 : patHead X (T.headAt f (headId b)) w = st 0 s0) (hl : N ≤ most) (hL : most < L) (hi : Inv 0 s0) (hv : ∀ k s, k < N → Inv k s → Inv (k + 1) (g k s))
  (hs : ∀ (k : Nat) (s : σ), k < N → Inv k s → ∀ n e1 p, RoundsH X P T call L f rnd nt B b n (st (IntKind.i64.wrap (k + 1)) (g k s)) e1 p → RoundsH X P T call L f rnd nt B b (n + 1) (st k s) e1 p)
  (ho : ∀ s, Inv N s → RoundsH X P T call L f rnd nt B b 1 (st N s) e (fin s)) : ExecS X P T call L f rnd nt B (.loop b) w e (fin (foldN g N 0 s0)) := by
 have := eachN (X := X) (P := P) (T := T) (call := call) (f := f) (rnd := rnd) (nt := nt) (B := B) (b := b) (ρ := Empty) (N := N) (st := st) (g := fun k s => .inl (g k s)) (out := fun x => (e, fin (getE x))) (s0 := s0) (w := w) Inv h0 hl hL hi
  (fun k s n hk hr h => hs k s hk hr n _ _ (h _ (hv k s hk hr))) ho
 rw [cntN_fold] at this
 exact this
theorem downE {N : Nat} {st : Int → σ → PSt X.Γ} {g : Nat → σ → σ} {e : Ex} {fin : σ → PSt X.Γ} {s0 : σ} {w : PSt X.Γ} (Inv : Nat → σ → Prop) (h0 : patHead X (T.headAt f (headId b)) w = st (IntKind.i64.wrap ((N : Int) - 1)) s0) (hl : N ≤ most) (hL : most < L) (hi : Inv N s0) (hv : ∀ k s, k < N → Inv (k + 1) s → Inv k (g k s))
  (hs : ∀ (k : Nat) (s : σ), k < N → Inv (k + 1) s → ∀ n e1 p, RoundsH X P T call L f rnd nt B b n (st (IntKind.i64.wrap (k - 1)) (g k s)) e1 p → RoundsH X P T call L f rnd nt B b (n + 1) (st k s) e1 p)
  (ho : ∀ s, Inv 0 s → RoundsH X P T call L f rnd nt B b 1 (st (-1) s) e (fin s)) : ExecS X P T call L f rnd nt B (.loop b) w e (fin (downN g N s0)) := by
 have wr : ∀ k : Nat, k ≤ most → IntKind.i64.wrap ((k : Int) - 1) = (k : Int) - 1 := by
  intro k hk
  cases k with
  | zero => rfl
  | succ k =>
   have := wrap_up (k := k) (by omega)
   rw [show ((k + 1 : Nat) : Int) - 1 = (k : Int) by omega]
   unfold most at hk
   simp only [IntKind.wrap, IntKind.bits, IntKind.signed]
   have : (k : Int) % (2 ^ 64 : Int) = (k : Int) := Int.emod_eq_of_lt (by omega) (by omega)
   simp only [this]
   rw [if_neg (by simp; omega)]
 have key : ∀ (k : Nat) (s : σ), k ≤ N → Inv k s → RoundsH X P T call L f rnd nt B b (k + 1) (st ((k : Int) - 1) s) e (fin (downN g k s)) := by
  intro k
  induction k with
  | zero => intro s _ hr; exact ho s hr
  | succ k ih =>
   intro s hk hr
   have h1 := ih (g k s) (by omega) (hv k s (by omega) hr)
   rw [← wr k (by omega)] at h1
   rw [show ((k + 1 : Nat) : Int) - 1 = (k : Int) by omega]
   exact hs k s (by omega) hr _ _ _ h1
 rw [wr N hl] at h0
 exact loopH_of (key N s0 (Nat.le_refl _) hi) h0 (by omega)
end
end Pv
namespace Mist
open Go Tw Pv
def prodI : List Int → Int
 | [] => 1
 | a :: t => a * prodI t
def nthI : List Int → Int → List Int
 | [], _ => []
 | a :: t, n => (n / prodI t) % a :: nthI t n
def numI : List Int → List Int → Int
 | a :: t, d :: p => d * prodI t + numI t p
 | _, _ => 0
def isPl : List Int → List Int → Bool
 | [], [] => true
 | a :: t, d :: p => decide (0 ≤ d ∧ d < a) && isPl t p
 | _, _ => false
def SzOk (s : List Int) : Prop := ∀ a ∈ s, 1 ≤ a ∧ a ≤ 12
instance (s : List Int) : Decidable (SzOk s) := inferInstanceAs (Decidable (∀ a ∈ s, 1 ≤ a ∧ a ≤ 12))
structure Fine (s : List Int) : Prop where
 len : s.length ≤ 6
 sz : SzOk s
 many : prodI s ≤ 2000
def isOrd (n : Nat) (o : List Int) : Bool := decide (o.length = n ∧ (∀ a ∈ o, 0 ≤ a ∧ a < n) ∧ o.Nodup)
theorem wrap_nn {z : Int} (h0 : -(2 ^ 62) ≤ z) (h1 : z < 2 ^ 62) : IntKind.i64.wrap z = z := by
 simp only [IntKind.wrap, IntKind.bits, IntKind.signed]
 rcases Int.lt_or_le z 0 with h | h
 ·have : z % (2 ^ 64 : Int) = z + 2 ^ 64 := by
   have := Int.add_mul_emod_self_left z (2 ^ 64) 1
   rw [Int.mul_one] at this
   rw [← this]
   exact Int.emod_eq_of_lt (by omega) (by omega)
  simp only [this]
  rw [if_pos (by simp; omega)]
  omega
 ·have : z % (2 ^ 64 : Int) = z := Int.emod_eq_of_lt h (by omega)
  simp only [this]
  rw [if_neg (by simp; omega)]
theorem SzOk.tail {a : Int} {t : List Int} (h : SzOk (a :: t)) : SzOk t := fun b hb => h b (List.mem_cons_of_mem _ hb)
theorem prodI_pos : ∀ {s : List Int}, SzOk s → 1 ≤ prodI s
 | [], _ => Int.le_refl _
 | a :: t, h => by
  have h1 := h a (List.mem_cons_self ..)
  have h2 := prodI_pos h.tail
  have := Int.mul_le_mul h1.1 h2 (by omega) (by omega)
  simpa [prodI] using this
theorem prodI_app : ∀ (s t : List Int), prodI (s ++ t) = prodI s * prodI t
 | [], t => by simp [prodI]
 | a :: s, t => by simp [prodI, prodI_app s t, Int.mul_assoc]
theorem prodI_take_le {s : List Int} (h : SzOk s) (k : Nat) : prodI (s.take k) ≤ prodI s := by
 have e : prodI s = prodI (s.take k) * prodI (s.drop k) := by rw [← prodI_app, List.take_append_drop]
 have h1 : 1 ≤ prodI (s.take k) := prodI_pos fun a ha => h a (List.mem_of_mem_take ha)
 have h2 : 1 ≤ prodI (s.drop k) := prodI_pos fun a ha => h a (List.mem_of_mem_drop ha)
 have := Int.mul_le_mul_of_nonneg_left h2 (show 0 ≤ prodI (s.take k) by omega)
 omega
theorem nthI_len : ∀ (s : List Int) (n : Int), (nthI s n).length = s.length
 | [], _ => rfl
 | _ :: t, n => by simp [nthI, nthI_len t n]
theorem nthI_getD : ∀ (s : List Int) (n : Int) (k : Nat), k < s.length → (nthI s n).getD k 0 = (n / prodI (s.drop (k + 1))) % s.getD k 0
 | [], _, k, h => by simp at h
 | a :: t, n, 0, _ => by simp [nthI]
 | a :: t, n, k + 1, h => by
  have := nthI_getD t n k (by simpa using h)
  simpa [nthI] using this
theorem isPl_len : ∀ {s p : List Int}, isPl s p = true → p.length = s.length
 | [], [], _ => rfl
 | a :: t, d :: p, h => by
  simp only [isPl, Bool.and_eq_true] at h
  simp [isPl_len h.2]
 | [], _ :: _, h => by cases h
 | _ :: _, [], h => by cases h
theorem isPl_iff : ∀ {s p : List Int}, isPl s p = true ↔ p.length = s.length ∧ ∀ j, j < s.length → 0 ≤ p.getD j 0 ∧ p.getD j 0 < s.getD j 0
 | [], [] => by simp [isPl]
 | a :: t, d :: p => by
  simp only [isPl, Bool.and_eq_true, decide_eq_true_eq, isPl_iff (s := t), List.length_cons]
  constructor
  ·rintro ⟨h1, h2, h3⟩
   refine ⟨by omega, fun j hj => ?_⟩
   cases j with
   | zero => simpa using h1
   | succ j => simpa using h3 j (by omega)
  ·rintro ⟨h1, h2⟩
   exact ⟨by simpa using h2 0 (by omega), by omega, fun j hj => by simpa using h2 (j + 1) (by omega)⟩
 | [], _ :: _ => by simp [isPl]
 | _ :: _, [] => by simp [isPl]
theorem numI_rng : ∀ {s p : List Int}, isPl s p = true → SzOk s → 0 ≤ numI s p ∧ numI s p < prodI s
 | [], [], _, _ => by simp [numI, prodI]
 | a :: t, d :: p, h, hs => by
  simp only [isPl, Bool.and_eq_true, decide_eq_true_eq] at h
  have ih := numI_rng h.2 hs.tail
  have hp := prodI_pos hs.tail
  simp only [numI, prodI]
  have h1 : 0 ≤ d * prodI t := Int.mul_nonneg h.1.1 (by omega)
  have h2 : (d + 1) * prodI t ≤ a * prodI t := Int.mul_le_mul_of_nonneg_right (by omega) (by omega)
  rw [Int.add_mul, Int.one_mul] at h2
  omega
theorem nthI_isPl : ∀ {s : List Int} (n : Int), SzOk s → isPl s (nthI s n) = true
 | [], _, _ => rfl
 | a :: t, n, hs => by
  simp only [nthI, isPl, Bool.and_eq_true, decide_eq_true_eq]
  have := hs a (List.mem_cons_self ..)
  exact ⟨⟨Int.emod_nonneg _ (by omega), Int.emod_lt_of_pos _ (by omega)⟩, nthI_isPl n hs.tail⟩
theorem nthI_mod : ∀ {s : List Int} (n : Int), SzOk s → nthI s (n % prodI s) = nthI s n
 | [], _, _ => rfl
 | a :: t, n, hs => by
  have hp := prodI_pos hs.tail
  have ha := hs a (List.mem_cons_self ..)
  simp only [nthI, prodI]
  have e1 : n % (a * prodI t) / prodI t % a = n / prodI t % a := by
   rw [Int.emod_def n, show n - a * prodI t * (n / (a * prodI t)) = n + (-(a * (n / (a * prodI t)))) * prodI t by rw [Int.neg_mul, Int.mul_right_comm]; rfl, Int.add_mul_ediv_right _ _ (by omega), show n / prodI t + -(a * (n / (a * prodI t))) = n / prodI t + a * (-(n / (a * prodI t))) by rw [Int.mul_neg], Int.add_mul_emod_self_left]
  have e2 : nthI t (n % (a * prodI t)) = nthI t n := by
   rw [← nthI_mod (n % (a * prodI t)) hs.tail, ← nthI_mod n hs.tail, Int.emod_emod_of_dvd n (Int.dvd_mul_left a (prodI t))]
  rw [e1, e2]
theorem num_nth : ∀ {s : List Int} {n : Int}, SzOk s → 0 ≤ n → n < prodI s → numI s (nthI s n) = n
 | [], n, _, h0, h1 => by simp [prodI] at h1; simp [nthI, numI]; omega
 | a :: t, n, hs, h0, h1 => by
  have hp := prodI_pos hs.tail
  have ha := hs a (List.mem_cons_self ..)
  simp only [nthI, numI]
  simp only [prodI] at h1
  have h2 : 0 ≤ n / prodI t := Int.ediv_nonneg h0 (by omega)
  have h3 : n / prodI t < a := Int.ediv_lt_of_lt_mul (by omega) h1
  rw [Int.emod_eq_of_lt h2 h3, ← nthI_mod n hs.tail, num_nth hs.tail (Int.emod_nonneg _ (by omega)) (Int.emod_lt_of_pos _ (by omega))]
  exact Int.ediv_mul_add_emod n (prodI t)
theorem nth_num : ∀ {s p : List Int}, isPl s p = true → SzOk s → nthI s (numI s p) = p
 | [], [], _, _ => rfl
 | a :: t, d :: p, h, hs => by
  simp only [isPl, Bool.and_eq_true, decide_eq_true_eq] at h
  have ih := nth_num h.2 hs.tail
  have hr := numI_rng h.2 hs.tail
  have hp := prodI_pos hs.tail
  simp only [nthI, numI]
  have e1 : (d * prodI t + numI t p) / prodI t = d := by
   rw [Int.add_comm, Int.add_mul_ediv_right _ _ (by omega), Int.ediv_eq_zero_of_lt hr.1 hr.2]; omega
  have e2 : nthI t (d * prodI t + numI t p) = nthI t (numI t p) := by
   rw [← nthI_mod _ hs.tail, Int.add_comm, Int.add_mul_emod_self_right, nthI_mod _ hs.tail]
  rw [e1, e2, ih, Int.emod_eq_of_lt h.1.1 h.1.2]
theorem getD_mem {s : List Int} {k : Nat} (h : k < s.length) : s.getD k 0 ∈ s := by
 have : s.getD k 0 = s[k] := by simp [List.getD, List.getElem?_eq_getElem h]
 rw [this]; exact List.getElem_mem h
theorem prodI_drop {s : List Int} {k : Nat} (h : k < s.length) : prodI (s.drop k) = s.getD k 0 * prodI (s.drop (k + 1)) := by
 rw [List.drop_eq_getElem_cons h]
 simp [prodI, List.getD, List.getElem?_eq_getElem h]
theorem getD_set {l : List Int} {i j : Nat} {a : Int} (h : i < l.length) : (l.set i a).getD j 0 = if i = j then a else l.getD j 0 := by
 simp only [List.getD_eq_getElem?_getD, List.getElem?_set]
 split <;> simp_all
def gNth (s : List Int) (k : Nat) (x : Int × List Int) : Int × List Int := (quoI .i64 x.1 (s.getD k 0), x.2.set k (remI .i64 x.1 (s.getD k 0)))
theorem quo_nn {a b : Int} (h0 : 0 ≤ a) (h1 : a < 2 ^ 62) (hb : 0 < b) : quoI .i64 a b = a / b := by
 have : a / b ≤ a := Int.ediv_le_self b h0
 have h2 : 0 ≤ a / b := Int.ediv_nonneg h0 (by omega)
 rw [quoI, Int.tdiv_eq_ediv_of_nonneg h0, wrap_nn (by omega) (by omega)]
theorem rem_nn {a b : Int} (h0 : 0 ≤ a) (h1 : a < 2 ^ 62) (hb : 0 < b) : remI .i64 a b = a % b := by
 have h2 : 0 ≤ a % b := Int.emod_nonneg _ (by omega)
 have h3 : a % b ≤ a := by
  have := Int.emod_def a b
  have h4 : 0 ≤ b * (a / b) := Int.mul_nonneg (by omega) (Int.ediv_nonneg h0 (by omega))
  omega
 rw [remI, Int.tmod_eq_emod_of_nonneg h0]
theorem nth_down {s : List Int} {n : Int} (hs : SzOk s) (h0 : 0 ≤ n) (h1 : n < 2 ^ 62) {o : List Int} (ho : o.length = s.length) : (downN (gNth s) s.length (n, o)).2 = nthI s n := by
 have := downN_inv (g := gNth s) (k := s.length) (s := (n, o)) (fun k x => x.1 = n / prodI (s.drop k) ∧ x.2.length = s.length ∧ ∀ j, k ≤ j → j < s.length → x.2.getD j 0 = (nthI s n).getD j 0)
  ⟨by simp [prodI], ho, fun j h1 h2 => by omega⟩ (fun k x hk hx => by
   obtain ⟨e1, e2, e3⟩ := hx
   have hp : 1 ≤ prodI (s.drop (k + 1)) := prodI_pos fun a ha => hs a (List.mem_of_mem_drop ha)
   have ha := hs _ (getD_mem hk)
   have hx0 : 0 ≤ x.1 := by rw [e1]; exact Int.ediv_nonneg h0 (by omega)
   have hx1 : x.1 ≤ n := by rw [e1]; exact Int.ediv_le_self _ h0
   simp only [gNth]
   rw [quo_nn hx0 (by omega) (by omega), rem_nn hx0 (by omega) (by omega)]
   refine ⟨?_, by simp [e2], fun j h2 h3 => ?_⟩
   ·rw [prodI_drop hk, Int.mul_comm, ← Int.ediv_ediv_of_nonneg (by omega), e1]
   ·rw [getD_set (by omega)]
    split
    ·rename_i e; subst e; rw [nthI_getD s n k hk, e1]
    ·exact e3 j (by omega) h3)
 obtain ⟨_, e2, e3⟩ := this
 rw [eq_getD (d := 0) (by rw [e2, nthI_len])]
 intro j hj
 exact e3 j (Nat.zero_le _) (by omega)
def prodC (s : List Int) : Int := foldN (fun k n => if IntKind.i64.wrap (n * s.getD k 0) < 3000 then IntKind.i64.wrap (n * s.getD k 0) else 3000) s.length 0 1
theorem prodC_eq {s : List Int} (hs : SzOk s) : prodC s = min 3000 (prodI s) := by
 have := foldN_inv (g := fun k n => if IntKind.i64.wrap (n * s.getD k 0) < 3000 then IntKind.i64.wrap (n * s.getD k 0) else 3000) (m := s.length) (k := 0) (s := (1 : Int)) (fun k n => n = min 3000 (prodI (s.take k))) (by simp [prodI]; decide) (fun j n h1 h2 h3 => by
  have hj : j < s.length := by omega
  have ha := hs _ (getD_mem hj)
  have hp : 1 ≤ prodI (s.take j) := prodI_pos fun a ha => hs a (List.mem_of_mem_take ha)
  have e : prodI (s.take (j + 1)) = prodI (s.take j) * s.getD j 0 := by
   rw [List.take_succ_eq_append_getElem hj, prodI_app]
   simp [prodI, List.getD, List.getElem?_eq_getElem hj]
  have hn0 : 1 ≤ n := by omega
  have hn1 : n ≤ 3000 := by omega
  have h4 : n * s.getD j 0 ≤ 3000 * 12 := Int.mul_le_mul hn1 ha.2 (by omega) (by omega)
  have h5 : 1 ≤ n * s.getD j 0 := by have := Int.mul_le_mul hn0 ha.1 (by omega) (by omega); omega
  rw [wrap_nn (by omega) (by omega), e]
  by_cases hc : prodI (s.take j) ≤ 3000
  ·have : n = prodI (s.take j) := by omega
   rw [this]; split <;> omega
  ·have : n = 3000 := by omega
   subst this
   have h6 : 3000 * s.getD j 0 ≤ prodI (s.take j) * s.getD j 0 := Int.mul_le_mul_of_nonneg_right (by omega) (by omega)
   have h7 : 3000 ≤ 3000 * s.getD j 0 := by omega
   split <;> omega)
 rw [Nat.zero_add, List.take_length] at this
 exact this
def numW (s p : List Int) : Int := foldN (fun k n => IntKind.i64.wrap (IntKind.i64.wrap (n * s.getD k 0) + p.getD k 0)) s.length 0 0
theorem numI_app : ∀ {s p : List Int} (s' p' : List Int), s.length = p.length → numI (s ++ s') (p ++ p') = numI s p * prodI s' + numI s' p'
 | [], [], _, _, _ => by simp [numI]
 | a :: s, d :: p, s', p', h => by
  simp only [List.cons_append, numI, numI_app s' p' (by simpa using h), prodI_app, Int.add_mul, Int.mul_assoc]; omega
theorem numW_eq {s p : List Int} (hp : isPl s p = true) (hs : SzOk s) (hm : prodI s ≤ 2000) : numW s p = numI s p := by
 have hl := isPl_len hp
 have := foldN_inv (g := fun k n => IntKind.i64.wrap (IntKind.i64.wrap (n * s.getD k 0) + p.getD k 0)) (m := s.length) (k := 0) (s := (0 : Int)) (fun k n => n = numI (s.take k) (p.take k)) (by simp [numI]) (fun j n h1 h2 h3 => by
  have hj : j < s.length := by omega
  have ha := hs _ (getD_mem hj)
  have hd := (isPl_iff.1 hp).2 j hj
  have e : numI (s.take (j + 1)) (p.take (j + 1)) = numI (s.take j) (p.take j) * s.getD j 0 + p.getD j 0 := by
   rw [List.take_succ_eq_append_getElem hj, List.take_succ_eq_append_getElem (show j < p.length by omega), numI_app _ _ (by simp; omega)]
   simp [numI, prodI, List.getD, List.getElem?_eq_getElem hj, List.getElem?_eq_getElem (show j < p.length by omega)]
  have hpl : isPl (s.take j) (p.take j) = true := isPl_iff.2 ⟨by simp [hl], fun i hi => by
   have hi' : i < j := by have := hi; simp at this; omega
   have := (isPl_iff.1 hp).2 i (by omega)
   simpa [List.getD_eq_getElem?_getD, List.getElem?_take, hi'] using this⟩
  have hr := numI_rng hpl fun a ha => hs a (List.mem_of_mem_take ha)
  have hle := prodI_take_le hs j
  rw [← h3] at hr e
  have h4 : n * s.getD j 0 ≤ 2000 * 12 := Int.mul_le_mul (by omega) ha.2 (by omega) (by omega)
  have h5 : 0 ≤ n * s.getD j 0 := Int.mul_nonneg hr.1 (by omega)
  rw [e, wrap_nn (z := n * _) (by omega) (by omega), wrap_nn (by omega) (by omega)])
 rw [Nat.zero_add, List.take_length, List.take_of_length_le (show p.length ≤ s.length by omega)] at this
 exact this
theorem Fine.many3 {s : List Int} (h : Fine s) : prodC s = prodI s := by rw [prodC_eq h.sz]; have := h.many; omega
abbrev cnt (s : List Int) : Nat := (prodI s).toNat
theorem Fine.cntI {s : List Int} (h : Fine s) : ((cnt s : Nat) : Int) = prodI s := by have := prodI_pos h.sz; show ((prodI s).toNat : Int) = _; omega
theorem Fine.cnt {s : List Int} (h : Fine s) : ((cnt s : Nat) : Int) = prodC s := by rw [h.many3, h.cntI]
theorem Fine.cnt_most {s : List Int} (h : Fine s) : Mist.cnt s ≤ most := by have := h.many; have := h.cntI; unfold most; omega
theorem Fine.lt {s : List Int} (h : Fine s) {k : Nat} (hk : k < Mist.cnt s) : decide ((k : Int) < prodC s) = true := by rw [← h.cnt]; exact lt_nat hk
theorem Fine.no {s : List Int} (h : Fine s) : decide (((Mist.cnt s : Nat) : Int) < prodC s) = false := by rw [← h.cnt]; exact lt_no _
theorem Fine.lenM {s : List Int} (h : Fine s) : s.length ≤ most := by have := h.len; unfold most; omega
theorem nn (k : Nat) : (0 : Int) ≤ (k : Int) := by omega
theorem nm {k : Nat} (h : k ≤ most) : (k : Int) < 2 ^ 62 := by unfold most at h; omega
theorem map_fold {α : Type} (f : Nat → α) (n : Nat) : foldN (fun k (s : List α) => s ++ [f k]) n 0 [] = (List.range n).map f := by
 have := foldN_inv (g := fun k (s : List α) => s ++ [f k]) (m := n) (k := 0) (s := []) (fun k s => s = (List.range k).map f) rfl (fun j s _ _ h => by rw [h, List.range_succ, List.map_append]; rfl)
 simpa using this
end Mist
namespace Tw
open Go Go.Proofs
theorem setCells_row (g : Nat) (t : TypeId) (fz : Nat × Nat) : ∀ (vs : List Value) (o : Nat) (cur : Array Value) (w : World), w.heap[g]? = some (.cells cur t fz) → o + vs.length ≤ cur.size →
  w.setCells g o vs = w.setRow g (cur.toList.take o ++ vs ++ cur.toList.drop (o + vs.length)).toArray
 | [], o, cur, w, hg, _ => by
  simp only [World.setCells, List.append_nil, List.length_nil, Nat.add_zero, List.take_append_drop, Array.toArray_toList]
  rw [setRow_self w g cur t fz hg]
 | v :: rest, o, cur, w, hg, hl => by
  simp only [List.length_cons] at hl
  rw [World.setCells, setCell_eq_setRow w g o cur t fz v hg,
   setCells_row g t fz rest (o + 1) (cur.setIfInBounds o v) (w.setRow g (cur.setIfInBounds o v)) (setRow_heap w g cur _ t _ hg) (by simp; omega), setRow_setRow]
  congr 2
  have e := list_seg_step cur.toList o v rest (by simp; omega)
  simpa [Array.toList_setIfInBounds, Nat.add_assoc] using e
section
variable {P : Program} {M : Mp} {D : Key → Prop} {w : World} {s : St}
theorem ins_ok (hV : Valid M D s.get w) {b : Nat} {k : BK} {cs new : List TV} {ls : List Pl} {p : Pl} (hm : M (.h b) = some (.cells ls)) (hd : D (.h b)) (hb : s.heap[b]? = some (.cells k cs))
  (hk : k ≠ .ro) (hp : p ∈ ls) (hext : p.ext = cs.length) (hn : ∀ c ∈ new, oneT c = true) (hlen : cs.length < new.length) {w' : World} (g : Nat) (arr : Array Value) (ty : TypeId)
  (hrow : w'.heap[g]? = some (.cells arr ty (0, 0))) (hfr : ∀ c, c < w.heap.size → c ≠ g → w'.heap[c]? = w.heap[c]?) (hg : (g = p.c ∧ arr.size = p.tot) ∨ g = w.heap.size)
  (hsz : w.heap.size ≤ w'.heap.size) (ho : w'.os = w.os) (hou : w'.output = w.output) (ht : w'.tape = w.tape) (hfit : new.length ≤ arr.size)
  (hrel : ∀ (i : Nat) (c : TV) (v : Value), new[i]? = some c → arr[i]? = some v → VR M.h c v) :
  ∃ M' q, Valid M' D (St.get { s with heap := s.heap.set b (.cells .last new) }) w' ∧ Ext M s.get w M' (St.get { s with heap := s.heap.set b (.cells .last new) }) w' [.h b] ∧
   (∃ ls', M' (.h b) = some (.cells ls') ∧ q ∈ ls') ∧ q.ext = new.length ∧ q.base = 0 ∧ q.c = g ∧ q.tot = arr.size := by
 have hgt : s.get (.h b) = some (.cells k cs) := by simp [St.get, hb]
 have hbl := (List.getElem?_eq_some_iff.1 hb).1
 obtain ⟨blk, h1, h2⟩ := hV.ok _ _ hm hd
 rw [hgt] at h1; cases h1
 obtain ⟨ho1, hpl, hmut, hgrow⟩ := h2
 have hwr : ∀ b0, s.get (.h b) = some b0 → wr b0 = true := fun b0 hb0 => by rw [hgt] at hb0; cases hb0; cases k <;> simp_all [wr]
 have hnd : (ls.map (·.c)).Nodup := by
  cases k with
  | ro => exact absurd rfl hk
  | own => obtain ⟨q, rfl, _⟩ := hmut rfl; simp
  | grow => exact (hgrow (.inl rfl)).1
  | last => exact (hgrow (.inr rfl)).1
 have hlt : ∀ q ∈ ls, q.c < w.heap.size := fun q hq => hV.inb _ _ hm q.c (List.mem_map.2 ⟨q, hq, rfl⟩)
 let p' : Pl := ⟨g, 0, new.length, arr.size⟩
 have hold : ∀ q ∈ ls, q.c ≠ g → PlOk (updM M (.h b) (.cells (p' :: ls.filter fun q => q.c ≠ g))).h w' .last new q := fun q hq hqg => by
  have hq1 := hpl q hq
  obtain ⟨arr', ty', fz', t1, t2, t3, t4⟩ := hq1.row
  have hx := hq1.ext
  exact ⟨⟨arr', ty', fz', (hfr q.c (hlt q hq) hqg).trans t1, t2, fun _ => t3 hk, fun hz => by have := hz rfl; omega⟩, hq1.fit, by omega, fun _ => hq1.base hk⟩
 let ls' : List Pl := p' :: ls.filter fun q => q.c ≠ g
 have hmem : ∀ q, q ∈ ls' ↔ q = p' ∨ (q ∈ ls ∧ q.c ≠ g) := fun q => by simp [ls']
 have hlc : LcLe (.cells ls) (.cells ls') := by
  intro q hq
  by_cases he : q.c = g
  ·rcases hg with ⟨e, e2⟩ | e
   ·have : q = p := nodup_pl hnd hp hq (by rw [he, e])
    subst this
    exact ⟨p', by simp [ls'], e, by simp [p', (hpl q hq).base hk], by simp [p']; omega, by simp [p', e2]⟩
   ·have := hlt q hq; omega
  ·exact ⟨q, (hmem q).2 (.inr ⟨hq, he⟩), rfl, rfl, Nat.le_refl _, rfl⟩
 have hcb : ∀ c ∈ cblocks (.cells ls'), c = g ∨ c ∈ cblocks (.cells ls) := by
  intro c hc
  simp only [cblocks, List.mem_map] at hc ⊢
  obtain ⟨q, hq, rfl⟩ := hc
  rcases (hmem q).1 hq with rfl | ⟨h1, _⟩
  ·exact .inl rfl
  ·exact .inr ⟨q, h1, rfl⟩
 have hframe : ∀ c, c < w.heap.size → c ∉ cblocks (.cells ls') → w'.heap[c]? = w.heap[c]? := fun c hc hnc => hfr c hc (fun e => hnc (by subst e; exact List.mem_map.2 ⟨p', by simp [ls'], rfl⟩))
 have hnew : ∀ c ∈ cblocks (.cells ls'), (∃ l0, M (.h b) = some l0 ∧ c ∈ cblocks l0) ∨ w.heap.size ≤ c := by
  intro c hc
  rcases hcb c hc with rfl | h
  ·rcases hg with ⟨e, _⟩ | e
   ·exact .inl ⟨_, hm, by rw [e]; exact List.mem_map.2 ⟨p, hp, rfl⟩⟩
   ·exact .inr (by omega)
  ·exact .inl ⟨_, hm, h⟩
 have hle' : Mle M (updM M (.h b) (.cells ls')) := updM_le fun l0 h0 => by rw [hm] at h0; cases h0; exact hlc
 have hone : ∀ q ∈ ls', q.ext = new.length → q = p' := by
  intro q hq e
  rcases (hmem q).1 hq with rfl | ⟨h1, _⟩
  ·rfl
  ·have := (hpl q h1).ext; omega
 have hok : okBlk (updM M (.h b) (.cells ls')).h w' (.cells .last new) (.cells ls') := by
  refine ⟨hn, fun q hq => ?_, by simp, fun _ => ⟨?_, fun q1 hq1 q2 hq2 e1 e2 => by rw [hone q1 hq1 e1, hone q2 hq2 e2]⟩⟩
  ·rcases (hmem q).1 hq with rfl | ⟨h1, h2⟩
   ·exact ⟨⟨arr, ty, (0, 0), hrow, rfl, fun _ => rfl, fun _ i c v _ a b => (hrel i c v a (by simpa [p'] using b)).mono hle'.h⟩, by simpa [p'] using hfit, Nat.le_refl _, fun _ => rfl⟩
   ·exact hold q h1 h2
  ·simp only [ls', List.map_cons, List.nodup_cons]
   refine ⟨fun hmem => ?_, hnd.sublist (List.Sublist.map _ List.filter_sublist)⟩
   obtain ⟨q, hq, he⟩ := List.mem_map.1 hmem
   have := (List.mem_filter.1 hq).2
   simp [p'] at he
   simp [he] at this
 refine ⟨updM M (.h b) (.cells ls'), p', ?_, ?_, ⟨ls', by simp [updM], by simp [ls']⟩, rfl, rfl, rfl, rfl⟩
 ·rw [get_set s b _ hbl]
  exact hV.upd (.h b) _ _ (fun j hj => .inl hj) (fun l0 h0 => by
   rw [hm] at h0; cases h0
   exact ⟨hd, hlc, hwr⟩) hframe hnew hsz hok
 ·rw [get_set s b _ hbl]
  exact Ext.upd (.h b) _ _ [.h b] (.inl ⟨by simp [hgt], rfl, by simp [hm], hwr⟩) hle' hframe hnew hsz ho hou ht
end
end Tw
namespace Tw
open Go Go.Proofs Go.Shelf
def insT (fI : Nat) : CallT
 | .fn f [] [], [d, .int .i64 0, .slc vb voff 1 vcap 1 vex], h =>
  if f = fI then
   match h[vb]? with
   | some (.cells kv vcs) => if kv = .ro ∨ (kv = .last ∧ voff + vcap ≠ vcs.length) then none else
    match sub vcs voff 1 with
    | some [v] => match d with
     | .nil .slc => some (.slc h.length 0 1 1 1 false, h ++ [.cells .own [v]], [])
     | .slc b 0 n n' 1 false => match h[b]? with
      | some (.cells k cs) => if k ≠ .ro ∧ n = n' ∧ cs.length = n ∧ 0 < n ∧ n ≤ 2 ^ 20 ∧ vb ≠ b then some (.slc b 0 (n + 1) (n + 1) 1 false, h.set b (.cells .last (v :: cs)), [b]) else none
      | _ => none
     | _ => none
    | _ => none
   | _ => none
  else none
 | _, _, _ => none
theorem grownCap_ge {w : World} {need old : Nat} {e : TypeId} : need ≤ grownCap w need old e := by simp [grownCap, Question.cut]
theorem grownCap_lt {w : World} {need old : Nat} {e : TypeId} (h : need < 2 ^ 63) : grownCap w need old e < 2 ^ 63 := by
 have := Nat.mod_lt (w.tape w.drawn (.appendCap need old e)) (show 0 < 2 ^ 63 - need by omega)
 simp only [grownCap, Question.cut]; omega
section
variable {P : Program} {ρ : Ren}
theorem slc_cells {M : Mp} {w : World} {h : List HB} (hV : Valid M allK (ctH h) w) {b off len cap : Nat} {ex : Bool} {y : Value} (hx : VR M.h (.slc b off len cap 1 ex) y) (h0 : 0 < len) {k : BK} {cs r : List TV} (hb : h[b]? = some (.cells k cs)) (hk : k ≠ .ro)
  (hl : k = .last → off + cap = cs.length) (hr : sub cs off len = some r) :
  ∃ ls p cap', M (.h b) = some (.cells ls) ∧ p ∈ ls ∧ y = .slice (some ⟨p.c, off, none⟩) len cap' ∧ len ≤ cap' ∧ cap ≤ cap' ∧ off + cap ≤ p.ext ∧ off + cap' ≤ p.tot ∧ cap' < 2 ^ 63 ∧ PlOk M.h w k cs p ∧ p.base = 0 ∧ (∀ c ∈ cs, oneT c = true) ∧
   ∃ xs : List Value, VRs M.h r xs ∧ ∀ (j : Nat) (v : Value), xs[j]? = some v → w.cell? ⟨p.c, off + j, none⟩ = some v := by
 cases hx with
 | slc hm hp hext hle hcap hex ha hk63 =>
  rename_i ls p a cap'
  obtain ⟨blk, h1, h2⟩ := hV.ok _ _ hm trivial
  have hg : ctH h (.h b) = some (.cells k cs) := by simp [St.get, hb]
  rw [hg] at h1; cases h1
  have hp := hp.resolve_left (by omega)
  have hpl := h2.2.1 p hp
  have hb0 := hpl.base hk
  rcases ha with ha | ⟨rfl, ha⟩
  ·omega
  obtain ⟨xs, g1, g2⟩ := hpl.slice hr (by omega) (fun e => by have := hl e; have := hpl.ext; omega)
  rw [hb0] at g2 ha ⊢
  simp only [Nat.zero_add, Nat.mul_one] at g2 ha hext ⊢
  exact ⟨ls, p, cap', hm, hp, rfl, by omega, hcap, hext, ha, hk63, hpl, hb0, h2.1, xs, g1, g2⟩
theorem one_VRs {N : Np} {us : List TV} {xs : List Value} (h : VRs N us xs) (ho : ∀ c ∈ us, oneT c = true) : ∀ v ∈ xs, v.oneCell' = true := by
 intro v hv
 obtain ⟨i, hi, rfl⟩ := List.mem_iff_getElem.1 hv
 have hi' : i < us.length := by rw [h.len]; exact hi
 exact one_of_VR (h.at_ i us[i] xs[i] (by simp [hi']) (by simp [hi])) (ho _ (List.getElem_mem hi'))
theorem insR {M : Mp} {w w' : World} {h : List HB} (hV : Valid M allK (ctH h) w) (hloc : ∀ k, M (.l k) = none) {b n : Nat} {k : BK} {cs : List TV} {v : TV} {ls : List Pl} {p : Pl} (hm : M (.h b) = some (.cells ls)) (hb : h[b]? = some (.cells k cs))
  (hk : k ≠ .ro) (hp : p ∈ ls) (hext : p.ext = cs.length) (hcl : cs.length = n) (hone : ∀ c ∈ v :: cs, oneT c = true) (g : Nat) (arr : Array Value) (ty : TypeId)
  (hrow : w'.heap[g]? = some (.cells arr ty (0, 0))) (hfr : ∀ c, c < w.heap.size → c ≠ g → w'.heap[c]? = w.heap[c]?) (hg : (g = p.c ∧ arr.size = p.tot) ∨ g = w.heap.size)
  (hsz : w.heap.size ≤ w'.heap.size) (ho : w'.os = w.os) (hou : w'.output = w.output) (ht : w'.tape = w.tape) {capF : Nat} (hcap : n + 1 ≤ capF) (hcap2 : capF ≤ arr.size) (hc63 : capF < 2 ^ 63)
  (hrel : ∀ (i : Nat) (c : TV) (x : Value), (v :: cs)[i]? = some c → arr[i]? = some x → VR M.h c x) :
  CallR M h w (.slc b 0 (n + 1) (n + 1) 1 false) (h.set b (.cells .last (v :: cs))) [b] (.slice (some ⟨g, 0, none⟩) (n + 1) capF) w' := by
 obtain ⟨M', q, h1, h2, ⟨ls', h3, h4⟩, h5, h6, h7, h8⟩ := ins_ok (s := ⟨[], [], h, []⟩) (D := allK) (new := v :: cs) hV hm trivial hb hk hp hext hone (by simp) g arr ty hrow hfr hg hsz ho hou ht (by simp; omega) hrel
 refine ⟨M', h1, fun k => ?_, h2, ?_⟩
 ·rw [h2.keepM (.l k) (.inr (by simp [St.get])) (by simp)]
  exact hloc k
 ·exact .slc (p := q) h3 (.inr h4) (by rw [h5]; simp; omega) (Nat.le_refl _) hcap (fun e => by cases e) (.inr ⟨by rw [h7, h6], by rw [h6, h8]; omega⟩) hc63
theorem insT_ok (L : Lays2.n21 P ρ) : CallOk P (insT (ρ.f 21)) := by
 intro fv args h v h' ws hc M w x xs hV hloc hx hxs
 unfold insT at hc
 split at hc
 case h_2 => cases hc
 rename_i f d vb voff vcap vex
 split at hc
 case isFalse => cases hc
 rename_i hf
 subst hf
 split at hc
 case h_2 => cases hc
 rename_i kv vcs hvb
 split at hc
 ·cases hc
 rename_i hkv
 simp only [not_or, not_and, Decidable.not_not] at hkv
 split at hc
 case h_2 => cases hc
 rename_i vx hsub
 cases hx with
 | @fn _ _ _ ys zs h1 h1a h3 h3a =>
 have : ys = [] := List.eq_nil_of_length_eq_zero h1.symm
 subst this
 have : zs = [] := List.eq_nil_of_length_eq_zero h3.symm
 subst this
 obtain ⟨dv, r1, rfl, hdv, hxs⟩ := hxs.inv_cons
 obtain ⟨iv, r2, rfl, hiv, hxs⟩ := hxs.inv_cons
 obtain ⟨sv, r3, rfl, hsv, hxs⟩ := hxs.inv_cons
 have := hxs.inv_nil
 subst this
 cases hiv
 obtain ⟨lsv, pv, vcap', m1, m2, rfl, m3, m4, m5, m6, m7, m8, m9, m10, vxs, m11, m12⟩ := slc_cells hV hsv (by omega) hvb hkv.1 hkv.2 hsub
 obtain ⟨xv, r4, rfl, hxv, e4⟩ := m11.inv_cons
 have := e4.inv_nil
 subst this
 have hsub1 := (sub_some hsub).2.1
 have hvone : oneT vx = true := m10 vx (List.mem_of_mem_drop (List.mem_of_mem_take (by rw [← hsub1]; exact List.mem_singleton.2 rfl)))
 have hv1 : ∀ u ∈ [xv], u.oneCell' = true := fun u hu => by
  simp at hu; subst hu
  exact one_of_VR hxv hvone
 obtain ⟨rowv, tyv, fzv, w1, w2, w3, _⟩ := m8.row
 have := w3 hkv.1
 subst this
 have enters : ∀ {R : Value → World → Prop}, Calls P (ρ.f 21) #[dv, .int .i64 0, .slice (some ⟨pv.c, voff, none⟩) 1 vcap'] w (RetR R) →
   ∃ d, (∀ w, (Deferred.ofValue (.func (.func (ρ.f 21)) [].toArray [].toArray) [dv, .int .i64 0, .slice (some ⟨pv.c, voff, none⟩) 1 vcap'].toArray).run P w = .ok d w) ∧ ((EntersR P d w R ∧ ∃ f a b, (TV.fn (ρ.f 21) [] []) = .fn f a b) ∨ (RoundsR P d w R ∧ ∃ l, (TV.fn (ρ.f 21) [] []) = .yld l)) := by
  intro R hcalls
  refine ⟨{ target := .fn (.func (ρ.f 21)) #[], args := #[dv, .int .i64 0, .slice (some ⟨pv.c, voff, none⟩) 1 vcap'] }, fun w => by simp [Deferred.ofValue], .inl ⟨⟨ρ.f 21, _, ?_, fun n => callsIn_wide.2 hcalls⟩, _, _, _, rfl⟩⟩
  have e1 := L.f21
  have e2 : ¬ (Body2.n21 ρ).name = "runtime.NumGoroutine" := by simp [Body2.n21]
  obtain ⟨c, e3⟩ : ∃ c, (Body2.n21 ρ).body = some c := ⟨_, rfl⟩
  simp [invoke, callFunc, program, Sem.run, e1, e2, e3]
 have hcells : ∀ (j : Nat) (u : Value), [xv][j]? = some u → w.cell? ⟨pv.c, voff + j, none⟩ = some u := m12
 split at hc
 ·-- nil
  simp only [Option.some.injEq, Prod.mk.injEq] at hc
  obtain ⟨rfl, rfl, rfl⟩ := hc
  cases hdv
  refine enters ?_
  refine (Any2.slices_Insert_int_end_grow L none 0 0 pv.c voff 1 vcap' [] [xv] w (by omega) (by omega) (by omega) (by omega) rfl rfl (fun _ => rfl) (fun a e => by cases e) hcells hv1).mono fun e w' ⟨he, hw⟩ => ?_
  subst he; subst hw
  have hgl := grownCap_lt (w := w) (need := 0 + 1) (old := 0) (e := ρ.t 3) (by omega)
  have hge := grownCap_ge (w := w) (need := 0 + 1) (old := 0) (e := ρ.t 3)
  obtain ⟨M', hp⟩ := fresh_ok (s := ⟨[], [], h, []⟩) (D := allK) (size := 1) (len := 1) (cs := [vx]) (pre := #[xv]) (rest := Builtin.zeroCells (Value.int .i64 0).cells (grownCap w (0 + 1) 0 (ρ.t 3) - (0 + 1))) (e := ρ.t 3) hV
   (by
    cases hq : M (.h h.length) with
    | none => rfl
    | some l => have := hV.has hq; simp [St.get] at this)
   (.cons hxv .nil) (fun c hc => by simp at hc; subst hc; exact hvone) (by simp) hge hgl (by simp [Builtin.zeroCells, Value.cells])
  refine ⟨M', ⟨fun k l hk _ => hp.val.ok k l hk (.inl trivial), fun k k' l l' b a1 a2 a3 _ => hp.val.own k k' l l' b a1 a2 a3 (.inl trivial), hp.val.inb⟩, fun k => ?_, hp.ext, ?_⟩
  ·rw [hp.ext.keepM (.l k) (.inr (by simp [St.get])) (by simp)]
   exact hloc k
  ·exact hp.er.inv_val
 ·-- a list that has grown
  rename_i b n n'
  split at hc
  case h_2 => cases hc
  rename_i k cs hb
  split at hc
  case isFalse => cases hc
  rename_i hcond
  obtain ⟨hk, rfl, hcl, hn0, hn20, hne⟩ := hcond
  simp only [Option.some.injEq, Prod.mk.injEq] at hc
  obtain ⟨rfl, rfl, rfl⟩ := hc
  have hsubn : sub cs 0 n = some cs := by
   unfold sub
   rw [if_pos (by omega)]
   simp [← hcl]
  obtain ⟨ls, p, cap', k1, k2, rfl, k3, k4, k5, k6, k7, k8, k9, k10, csv, k11, k12⟩ := slc_cells hV hdv hn0 hb hk (fun _ => by omega) hsubn
  have hpe : p.ext = cs.length := by have := k8.ext; omega
  obtain ⟨arr, ty, fz, z1, z2, z3, _⟩ := k8.row
  have := z3 hk
  subst this
  have hcsl : csv.length = n := by rw [← k11.len, hcl]
  have hcs1 : ∀ u ∈ csv, u.oneCell' = true := one_VRs k11 k10
  have hone : ∀ c ∈ vx :: cs, oneT c = true := fun c hc => by
   rcases List.mem_cons.1 hc with rfl | hc
   ·exact hvone
   ·exact k10 c hc
  have hgb : ctH h (.h b) = some (.cells k cs) := by simp [St.get, hb]
  have hapart : pv.c ≠ p.c := fun e => by
   have := hV.own (.h b) (.h vb) _ _ _ (by simp [Ne.symm hne]) k1 m1 trivial hgb (by cases k <;> simp_all [wr]) p.c (List.mem_map.2 ⟨p, k2, rfl⟩)
   exact this (List.mem_map.2 ⟨pv, m2, e⟩)
  have hrl : ∀ (i : Nat) (c : TV) (u : Value), (vx :: cs)[i]? = some c → (if i = 0 then some xv else csv[i - 1]?) = some u → VR M.h c u := fun i c u hc hu => by
   cases i with
   | zero => simp at hc hu; subst hc; subst hu; exact hxv
   | succ i => simp at hc hu; exact k11.at_ i c u hc hu
  refine enters ?_
  by_cases hroom : n + 1 ≤ cap'
  ·refine (Any2.slices_Insert_int_shift L p.c 0 n cap' 0 pv.c voff 1 vcap' csv [xv] w hn0 (by omega) hroom (by omega) hapart hcsl rfl (fun j u hj => k12 j u hj)
    (fun j hj => ?_) (fun j hj => ?_) hcells hcs1 hv1 tyv ty rowv.size arr.size (by simp [World.shape?, w1]) (by simp [World.shape?, z1]) (by omega) (by simp [World.frozen?, w1]) (by simp [World.frozen?, w1])).mono fun e w' ⟨he, hw⟩ => ?_
   ·simp only [World.cell?, z1]
    rw [if_neg (by simp), Array.getElem?_eq_getElem (by omega)]; rfl
   ·simp [World.frozen?, z1]
   ·subst he
    have s1 := setCells_row p.c ty (0, 0) (csv.drop 0) (0 + (0 + 1)) arr w.drew z1 (by simp; omega)
    rw [s1] at hw
    have z1' := setRow_get w.drew p.c ((arr.toList.take (0 + (0 + 1)) ++ csv.drop 0 ++ arr.toList.drop (0 + (0 + 1) + (csv.drop 0).length)).toArray) arr ty (0, 0) z1
    have hsz1 : ((arr.toList.take (0 + (0 + 1)) ++ csv.drop 0 ++ arr.toList.drop (0 + (0 + 1) + (csv.drop 0).length)).toArray).size = arr.size := by simp; omega
    rw [setCells_row p.c ty (0, 0) [xv] (0 + 0) _ _ z1' (by rw [hsz1]; simp; omega), setRow_setRow] at hw
    subst hw
    refine insR hV hloc k1 hb hk k2 hpe hcl hone p.c _ ty (setRow_get w.drew p.c _ arr ty (0, 0) z1) (fun c _ hcg => setRow_frame w.drew p.c _ c hcg) (.inl ⟨rfl, ?_⟩) (by simp [World.setRow]) rfl rfl rfl (capF := cap') hroom ?_ k7 fun i c u hc hu => hrl i c u hc ?_
    ·simp only [List.size_toArray, List.length_append, List.length_take, List.length_drop, Array.length_toList, hsz1]
     simp; omega
    ·simp only [List.size_toArray, List.length_append, List.length_take, List.length_drop, Array.length_toList, hsz1]
     simp; omega
    ·have hi : i < n + 1 := by have := (List.getElem?_eq_some_iff.1 hc).1; simpa [hcl] using this
     rw [arr_over i (by rw [hsz1]; simp; omega)] at hu
     rw [← hu]
     by_cases h0 : i = 0
     ·subst h0; simp
     ·rw [if_neg h0, if_neg (by omega), if_neg (by simp; omega), arr_over i (by simp; omega), if_neg (by omega), if_pos (by simp; omega)]
      simp
  ·have hgl := grownCap_lt (w := w) (need := n + 1) (old := cap') (e := ρ.t 3) (by omega)
   have hge := grownCap_ge (w := w) (need := n + 1) (old := cap') (e := ρ.t 3)
   refine (Any2.slices_Insert_int_grow L p.c 0 n cap' 0 pv.c voff 1 vcap' csv [xv] w hn0 (by omega) k3 (by omega) (by omega) hcsl rfl (fun j u hj => k12 j u hj) hcells hcs1 hv1).mono fun e w' ⟨he, hw⟩ => ?_
   subst he
   generalize hA : (Array.mk (List.take 0 csv) ++ Builtin.zeroCells (Value.int IntKind.i64 0).cells (n + 1 - 0) ++ Builtin.zeroCells (Value.int IntKind.i64 0).cells (grownCap w (n + 1) cap' (ρ.t 3) - (n + 1))) = A at hw
   have hAs : A.size = grownCap w (n + 1) cap' (ρ.t 3) := by rw [← hA]; simp [Builtin.zeroCells, Value.cells]; omega
   have y1 : ((w.alloc (.cells A (ρ.t 3))).drew).heap[w.heap.size]? = some (.cells A (ρ.t 3) (0, 0)) := heap_alloc_new w _
   rw [setCells_row w.heap.size (ρ.t 3) (0, 0) [xv] 0 A _ y1 (by simp; omega)] at hw
   have hsz1 : ((A.toList.take 0 ++ [xv] ++ A.toList.drop (0 + [xv].length)).toArray).size = A.size := by simp; omega
   have y2 := setRow_get (w.alloc (.cells A (ρ.t 3))).drew w.heap.size ((A.toList.take 0 ++ [xv] ++ A.toList.drop (0 + [xv].length)).toArray) A (ρ.t 3) (0, 0) y1
   have y3 : (((w.alloc (.cells A (ρ.t 3))).drew.setRow w.heap.size ((A.toList.take 0 ++ [xv] ++ A.toList.drop (0 + [xv].length)).toArray)).drew).heap[w.heap.size]? = some (.cells ((A.toList.take 0 ++ [xv] ++ A.toList.drop (0 + [xv].length)).toArray) (ρ.t 3) (0, 0)) := y2
   rw [setCells_row w.heap.size (ρ.t 3) (0, 0) (csv.drop 0) (0 + 1) _ _ y3 (by rw [hsz1]; simp; omega)] at hw
   subst hw
   refine insR hV hloc k1 hb hk k2 hpe hcl hone w.heap.size _ (ρ.t 3) (setRow_get _ w.heap.size _ _ (ρ.t 3) (0, 0) y3) (fun c hcs hcg => ?_) (.inr rfl) (by simp [World.setRow]) rfl rfl rfl (capF := grownCap w (n + 1) cap' (ρ.t 3)) hge ?_ hgl fun i c u hc hu => hrl i c u hc ?_
   ·rw [setRow_frame _ _ _ c hcg]
    show ((w.alloc (.cells A (ρ.t 3))).drew.setRow w.heap.size _).heap[c]? = _
    rw [setRow_frame _ _ _ c hcg]
    exact allocOld w _ c hcs
   ·simp only [List.size_toArray, List.length_append, List.length_take, List.length_drop, Array.length_toList, hsz1]
    simp; omega
   ·have hi : i < n + 1 := by have := (List.getElem?_eq_some_iff.1 hc).1; simpa [hcl] using this
    rw [arr_over i (by rw [hsz1]; simp; omega)] at hu
    rw [← hu]
    by_cases h0 : i = 0
    ·subst h0
     rw [if_pos rfl, if_pos (by omega), arr_over 0 (by simp; omega)]; simp
    ·rw [if_neg h0, if_neg (by omega), if_pos (by simp; omega)]; simp
 ·cases hc
end
end Tw
namespace Tw
open Go Go.Proofs Go.Shelf Go.Sort
theorem int_of {N : Np} {k : IntKind} {n : Int} {y : Value} (h : VR N (.int k n) y) : y = .int k n := by cases h; rfl
section
variable {P : Program} {M : Mp} {D : Key → Prop} {C : Ct} {w w' : World}
theorem put_ok (h : Valid M D C w) {k : Key} {ls : List Pl} {p : Pl} {cs cs' : List TV} {kk kk' : BK}
  (hk : M k = some (.cells ls)) (hd : D k) (hc : C k = some (.cells kk cs)) (hp : p ∈ ls) (hkk : (kk = .own ∧ kk' = .own) ∨ ((kk = .grow ∨ kk = .last) ∧ kk' = .last ∧ p.ext = cs.length))
  (hl : cs'.length = cs.length) (hn : ∀ c ∈ cs', oneT c = true) {arr' : Array Value} {ty' : TypeId} (hrow : w'.heap[p.c]? = some (.cells arr' ty' (0, 0))) (hs' : arr'.size = p.tot)
  (hfr : ∀ c, c < w.heap.size → c ≠ p.c → w'.heap[c]? = w.heap[c]?) (hsz : w.heap.size ≤ w'.heap.size) (ho : w'.os = w.os) (hou : w'.output = w.output) (ht : w'.tape = w.tape)
  (hrel : ∀ (i : Nat) (c : TV) (v : Value), cs'[i]? = some c → arr'[i]? = some v → VR M.h c v) :
  Valid M D (updC C k (.cells kk' cs')) w' ∧ Ext M C w M (updC C k (.cells kk' cs')) w' [k] := by
 obtain ⟨hb, he, h1, hpl, hnd, huq, arr, ty, hr, hs, hle, hv⟩ := h.wrB hk hd hc hp hkk
 have hne : kk ≠ .ro := by rcases hkk with ⟨e, _⟩ | ⟨e | e, _⟩ <;> rw [e] <;> simp
 have hwr : ∀ b0, C k = some b0 → wr b0 = true := fun b0 hb0 => by rw [hc] at hb0; cases hb0; cases kk <;> simp_all [wr]
 have hself : updM M k (.cells ls) = M := updM_self hk
 have hframe : ∀ c, c < w.heap.size → c ∉ cblocks (.cells ls) → w'.heap[c]? = w.heap[c]? := fun c hc0 hc => hfr c hc0 (fun e => hc (by rw [e]; exact List.mem_map.2 ⟨p, hp, rfl⟩))
 have hnew : ∀ c ∈ cblocks (.cells ls), (∃ l0, M k = some l0 ∧ c ∈ cblocks l0) ∨ w.heap.size ≤ c := fun c hc => .inl ⟨_, hk, hc⟩
 have hle' : Mle M (updM M k (.cells ls)) := by rw [hself]; exact .refl _
 have hlt : ∀ q ∈ ls, q.c < w.heap.size := fun q hq => h.inb _ _ hk q.c (List.mem_map.2 ⟨q, hq, rfl⟩)
 refine ⟨?_, ?_⟩
 ·have := h.upd (D' := D) (w' := w') k (.cells kk' cs') (.cells ls) (fun j hj => .inl hj) (fun l0 h0 => by
   rw [hk] at h0; cases h0
   exact ⟨hd, .refl _, hwr⟩) hframe hnew hsz (by
   rw [hself]
   refine ⟨hn, fun q hq => ?_, fun e => ?_, fun e => ⟨hnd, fun q1 hq1 q2 hq2 e1 e2 => by rw [huq q1 hq1 (by omega), huq q2 hq2 (by omega)]⟩⟩
   ·have hq0 := hpl q hq
    by_cases hqc : q.c = p.c
    ·have := nodup_pl hnd hp hq hqc
     subst this
     exact ⟨⟨arr', ty', (0, 0), hrow, hs', fun _ => rfl, fun _ i c v _ a b => hrel i c v a (by simpa [hb] using b)⟩, by omega, by omega, fun _ => hb⟩
    ·obtain ⟨arr2, ty2, fz2, t1, t2, t3, t4⟩ := hq0.row
     refine ⟨⟨arr2, ty2, fz2, (hfr q.c (hlt q hq) hqc).trans t1, t2, fun _ => t3 hne, fun hz i c v hi a b => ?_⟩, hq0.fit, by have := hq0.ext; omega, fun _ => hq0.base hne⟩
     exfalso
     apply hqc
     rcases hkk with ⟨e, _⟩ | ⟨_, e, _⟩
     ·obtain ⟨b', g1, g2⟩ := h.ok k _ hk hd
      rw [hc] at g1; cases g1
      obtain ⟨q', g3, _⟩ := g2.2.2.1 e
      rw [g3] at hq hp
      simp at hq hp
      rw [hq, hp]
     ·rw [huq q hq (by rw [hz e]; omega)]
   ·rcases hkk with ⟨e0, _⟩ | ⟨_, e1, _⟩
    ·obtain ⟨b', g1, g2⟩ := h.ok k _ hk hd
     rw [hc] at g1; cases g1
     obtain ⟨q', g3, g4⟩ := g2.2.2.1 e0
     exact ⟨q', g3, by omega⟩
    ·rw [e1] at e; cases e)
  rwa [hself] at this
 ·have := Ext.upd (M := M) (C := C) (w := w) (w' := w') k (.cells kk' cs') (.cells ls) [k] (.inl ⟨by simp [hc], rfl, by simp [hk], hwr⟩) hle' hframe hnew hsz ho hou ht
  rwa [hself] at this
end
def intsT : List TV → Option (List Int)
 | [] => some []
 | .int .i64 n :: r => (intsT r).map (n :: ·)
 | _ => none
theorem intsT_some : ∀ {cs : List TV} {zs : List Int}, intsT cs = some zs → cs = zs.map fun n => TV.int .i64 n
 | [], zs, h => by simp [intsT] at h; subst h; rfl
 | c :: r, zs, h => by
  unfold intsT at h
  split at h
  ·rename_i e; cases e
  ·rename_i n r' e
   cases e
   simp only [Option.map_eq_some_iff] at h
   obtain ⟨ys, h1, rfl⟩ := h
   rw [intsT_some h1]; rfl
  ·cases h
def sortI (l : List Int) : List Int := l.mergeSort fun x y => decide (x ≤ y)
def sortG (g : List Int → List Int) (fI : Nat) : CallT
 | .fn f [] [], [d], h =>
  if f = fI then
   match d with
   | .nil .slc => some (.tup [], h, [])
   | .slc _ _ 0 _ _ _ => some (.tup [], h, [])
   | .slc b 0 n n' 1 _ => match h[b]? with
    | some (.cells k cs) => match wrKind k true, intsT cs with
     | some k', some zs => if n = n' ∧ cs.length = n ∧ 0 < n ∧ n ≤ 2 ^ 20 then some (.tup [], h.set b (.cells k' ((g zs).map fun x => TV.int .i64 x)), [b]) else none
     | _, _ => none
    | _ => none
   | _ => none
  else none
 | _, _, _ => none
def sortT : Nat → CallT := sortG sortI
section
variable {P : Program} {ρ : Ren}
theorem sortT_ok (L : Lays.n189 P ρ) : CallOk P (sortT (ρ.f 189)) := by
 intro fv args h v h' ws hc M w x xs hV hloc hx hxs
 unfold sortT sortG at hc
 split at hc
 case h_2 => cases hc
 rename_i f d
 split at hc
 case isFalse => cases hc
 rename_i hf
 subst hf
 cases hx with
 | @fn _ _ _ ys zs h1 h1a h3 h3a =>
 have : ys = [] := List.eq_nil_of_length_eq_zero h1.symm
 subst this
 have : zs = [] := List.eq_nil_of_length_eq_zero h3.symm
 subst this
 obtain ⟨dv, r1, rfl, hdv, hxs⟩ := hxs.inv_cons
 have := hxs.inv_nil
 subst this
 have enters : ∀ {R : Value → World → Prop}, Calls P (ρ.f 189) #[dv] w (RetR R) →
   ∃ d, (∀ w, (Deferred.ofValue (.func (.func (ρ.f 189)) [].toArray [].toArray) [dv].toArray).run P w = .ok d w) ∧ ((EntersR P d w R ∧ ∃ f a b, (TV.fn (ρ.f 189) [] []) = .fn f a b) ∨ (RoundsR P d w R ∧ ∃ l, (TV.fn (ρ.f 189) [] []) = .yld l)) := by
  intro R hcalls
  refine ⟨{ target := .fn (.func (ρ.f 189)) #[], args := #[dv] }, fun w => by simp [Deferred.ofValue], .inl ⟨⟨ρ.f 189, _, ?_, fun n => callsIn_wide.2 hcalls⟩, _, _, _, rfl⟩⟩
  have e1 := L.f189
  have e2 : ¬ (Body.n189 ρ).name = "runtime.NumGoroutine" := by simp [Body.n189]
  obtain ⟨c, e3⟩ : ∃ c, (Body.n189 ρ).body = some c := ⟨_, rfl⟩
  simp [invoke, callFunc, program, Sem.run, e1, e2, e3]
 split at hc
 ·simp only [Option.some.injEq, Prod.mk.injEq] at hc
  obtain ⟨rfl, rfl, rfl⟩ := hc
  cases hdv
  refine enters ((Any.slices_Sort_int_none L none 0 w).mono fun e w' ⟨he, hw⟩ => ?_)
  subst he; subst hw
  exact ⟨M, hV, hloc, .refl _ _ _, .tup' .nil⟩
 ·simp only [Option.some.injEq, Prod.mk.injEq] at hc
  obtain ⟨rfl, rfl, rfl⟩ := hc
  cases hdv
  refine enters ((Any.slices_Sort_int_none L _ _ w).mono fun e w' ⟨he, hw⟩ => ?_)
  subst he; subst hw
  exact ⟨M, hV, hloc, .refl _ _ _, .tup' .nil⟩
 ·rename_i b n n' ex _
  split at hc
  case h_2 => cases hc
  rename_i k cs hb
  split at hc
  case h_2 => cases hc
  rename_i k' zs hk' hzs
  split at hc
  case isFalse => cases hc
  rename_i hcond
  obtain ⟨rfl, hcl, hn0, hn20⟩ := hcond
  simp only [Option.some.injEq, Prod.mk.injEq] at hc
  obtain ⟨rfl, rfl, rfl⟩ := hc
  have hcs := intsT_some hzs
  have hzl : zs.length = n := by rw [← hcl, hcs, List.length_map]
  have hk : k ≠ .ro := by rintro rfl; cases hk'
  have hsubn : sub cs 0 n = some cs := by
   unfold sub
   rw [if_pos (by omega)]
   simp [← hcl]
  obtain ⟨ls, p, cap', k1, k2, rfl, k3, k4, k5, k6, k7, k8, k9, k10, csv, k11, k12⟩ := slc_cells hV hdv hn0 hb hk (fun _ => by omega) hsubn
  have hpe : p.ext = cs.length := by have := k8.ext; omega
  obtain ⟨arr, ty, fz, z1, z2, z3, _⟩ := k8.row
  have := z3 hk
  subst this
  have hlt := (Array.getElem?_eq_some_iff.1 z1).1
  have hcv : csv = zs.map fun n => Value.int .i64 n := by
   apply List.ext_getElem?
   intro i
   by_cases hi : i < n
   ·have hi1 : i < cs.length := by omega
    have hi2 : i < csv.length := by rw [← k11.len]; exact hi1
    have := k11.at_ i cs[i] csv[i] (by simp [hi1]) (by simp [hi2])
    have hc1 : cs[i]? = (zs.map fun n => TV.int .i64 n)[i]? := by rw [← hcs]
    rw [List.getElem?_eq_getElem hi1, List.getElem?_map, List.getElem?_eq_getElem (by omega)] at hc1
    simp only [Option.map_some, Option.some.injEq] at hc1
    rw [hc1] at this
    rw [List.getElem?_eq_getElem hi2, List.getElem?_map, List.getElem?_eq_getElem (by omega)]
    rw [int_of this]; rfl
   ·rw [List.getElem?_eq_none (by rw [← k11.len]; omega), List.getElem?_eq_none (by rw [List.length_map]; omega)]
  have hH : Holds (Value.int .i64) w p.c 0 zs.toArray := fun j hj => by
   simp only [List.size_toArray] at hj
   refine ⟨?_, by simp [World.frozen?, z1]⟩
   refine k12 j _ ?_
   rw [hcv, List.getElem?_map, List.getElem?_eq_getElem hj]
   simp [hj]
  have hcalls := Any.slices_Sort_int L p.c 0 cap' zs w hH hlt (by omega)
  rw [hzl] at hcalls
  refine enters (hcalls.mono fun e w' ⟨he, N, os, hw⟩ => ?_)
  subst he
  have hsl : (sortI zs).length = n := by unfold sortI; rw [List.length_mergeSort, hzl]
  have hgb : ctH h (.h b) = some (.cells k cs) := by simp [St.get, hb]
  have hkk : (k = .own ∧ k' = .own) ∨ ((k = .grow ∨ k = .last) ∧ k' = .last ∧ p.ext = cs.length) := by
   rcases wrKind_some hk' with e | ⟨a, b, _⟩
   ·exact .inl e
   ·exact .inr ⟨a, b, hpe⟩
  have hrow : w'.heap[p.c]? = some (.cells (putCells (Value.int .i64) 0 (sortI zs).toArray arr) ty (0, 0)) := by
   rw [hw, heap_grow_old _ _ (by simp [putRow, mapBlock, Sort.ahead]; exact hlt)]
   simp only [putRow, mapBlock, Sort.ahead, Array.getElem?_modify, if_true, z1, Option.map_some, onCells]
   rfl
  have hfr : ∀ c, c < w.heap.size → c ≠ p.c → w'.heap[c]? = w.heap[c]? := fun c hc0 hne => by
   rw [hw, heap_grow_old _ _ (by simp [putRow, mapBlock, Sort.ahead]; exact hc0)]
   simp only [putRow, mapBlock, Sort.ahead, Array.getElem?_modify]
   rw [if_neg (fun e => hne e.symm)]
  obtain ⟨g1, g2⟩ := put_ok (w' := w') (cs' := (sortI zs).map fun x => TV.int .i64 x) hV k1 trivial hgb k2 hkk (by rw [List.length_map, hsl, hcl]) (fun c hc => by
   obtain ⟨y, _, rfl⟩ := List.mem_map.1 hc; rfl) hrow (by simp [putCells, z2]) hfr (by rw [hw]; simp [putRow, mapBlock, Sort.ahead]) (by rw [hw]; rfl) (by rw [hw]; rfl) (by rw [hw]; rfl) (fun i c u hc hu => by
   rw [List.getElem?_map] at hc
   simp only [Option.map_eq_some_iff] at hc
   obtain ⟨y, hy, rfl⟩ := hc
   have hi : i < (sortI zs).length := (List.getElem?_eq_some_iff.1 hy).1
   have hia : i < arr.size := by omega
   simp only [putCells, Array.getElem?_mapIdx, Array.getElem?_eq_getElem hia, Option.map_some, Option.some.injEq] at hu
   rw [if_pos ⟨Nat.zero_le _, by simp; omega⟩] at hu
   subst hu
   have : (sortI zs).toArray[i - 0]! = y := by
    have h9 := (List.getElem?_eq_some_iff.1 hy).2
    simp [hi, h9]
   rw [this]
   exact .int _ _)
  have hbl := (List.getElem?_eq_some_iff.1 hb).1
  have hset : ctH (h.set b (.cells k' ((sortI zs).map fun x => TV.int .i64 x))) = updC (ctH h) (.h b) (.cells k' ((sortI zs).map fun x => TV.int .i64 x)) := get_set ⟨[], [], h, []⟩ b _ hbl [] []
  exact ⟨M, by rw [hset]; exact g1, hloc, by rw [hset]; exact g2, .tup' .nil⟩
 ·cases hc
theorem CallOk.or {P : Program} {c1 c2 : CallT} (h1 : CallOk P c1) (h2 : CallOk P c2) : CallOk P (fun f xs h => (c1 f xs h).orElse fun _ => c2 f xs h) := by
 intro fv args h v h' ws hc
 cases he : c1 fv args h with
 | some r =>
  simp only [he, Option.orElse_some, Option.some.injEq] at hc
  subst hc
  exact h1 _ _ _ _ _ _ he
 | none =>
  simp only [he, Option.orElse_none] at hc
  exact h2 _ _ _ _ _ _ hc
end
end Tw
namespace Tw
open Go
def insI (x : Int) : List Int → List Int
 | [] => [x]
 | y :: l => match decide (x ≤ y) with
  | true => x :: y :: l
  | false => y :: insI x l
def insS : List Int → List Int
 | [] => []
 | x :: l => insI x (insS l)
theorem insI_perm (x : Int) : ∀ l, (insI x l).Perm (x :: l)
 | [] => .refl _
 | y :: l => by
  unfold insI
  split
  ·exact .refl _
  ·exact ((insI_perm x l).cons y).trans (.swap x y l)
theorem insS_perm : ∀ l, (insS l).Perm l
 | [] => .refl _
 | x :: l => (insI_perm x (insS l)).trans ((insS_perm l).cons x)
theorem insI_sorted (x : Int) : ∀ {l : List Int}, l.Pairwise (· ≤ ·) → (insI x l).Pairwise (· ≤ ·)
 | [], _ => by simp [insI]
 | y :: l, h => by
  unfold insI
  have h1 := List.pairwise_cons.1 h
  split
  ·rename_i e
   have e := of_decide_eq_true e
   exact List.pairwise_cons.2 ⟨fun a ha => by
    rcases List.mem_cons.1 ha with rfl | ha
    ·exact e
    ·exact Int.le_trans e (h1.1 a ha), h⟩
  ·rename_i e
   have e := of_decide_eq_false e
   exact List.pairwise_cons.2 ⟨fun a ha => by
    rcases List.mem_cons.1 ((insI_perm x l).mem_iff.1 ha) with rfl | ha
    ·omega
    ·exact h1.1 a ha, insI_sorted x h1.2⟩
theorem insS_sorted : ∀ l, (insS l).Pairwise (· ≤ ·)
 | [] => .nil
 | x :: l => insI_sorted x (insS_sorted l)
theorem insS_eq : insS = sortI := by
 funext l
 refine List.Perm.eq_of_pairwise (le := (· ≤ ·)) (fun a b _ _ h1 h2 => by omega) (insS_sorted l) ?_ ((insS_perm l).trans (List.mergeSort_perm l _).symm)
 have := List.pairwise_mergeSort (le := fun x y : Int => decide (x ≤ y)) (fun a b c h1 h2 => by simp at *; omega) (fun a b => by simp; omega) l
 exact this.imp fun h => by simpa using h
end Tw
namespace Tw
open Go
def closT (f : Nat) (b : Bool) : CallT := fun fv args h => match fv, args with
 | .fn g [] [], [] => if g = f then some (.bool b, h, []) else none
 | _, _ => none
def isT : Option (TV × List HB × List Nat) → Bool
 | some (.bool true, _, []) => true
 | _ => false
end Tw
namespace Go.Proofs.YtmefgijobonklaaGreat
open Go Tw Go.Shelf
def insRen : Ren := ⟨fun | 21 => 161 | 27 => 201 | 28 => 202 | 35 => 240 | 39 => 253 | n => n, fun n => n, fun n => n⟩
theorem insL : Lays2.n21 Tryz.prog insRen where
 mixed := by kernel_rfl
 f21 := by kernel_rfl
 f27 := by kernel_rfl
 f28 := by kernel_rfl
 f35 := by kernel_rfl
 f39 := by kernel_rfl
 t0 := Tryz.underlying0
 a0 := Tryz.isAgg0
 z0 := Tryz.sizeOf0
 v0 := Tryz.zeroValue0
 t3 := Tryz.underlying3
 a3 := Tryz.isAgg3
 z3 := Tryz.sizeOf3
 v3 := Tryz.zeroValue3
 t4 := Tryz.underlying4
 a4 := Tryz.isAgg4
 z4 := Tryz.sizeOf4
 v4 := Tryz.zeroValue4
 t22 := Tryz.underlying22
 a22 := Tryz.isAgg22
 z22 := Tryz.sizeOf22
 v22 := Tryz.zeroValue22
 i3 := by kernel_rfl
def sortRen : Ren := ⟨fun | 125 => 198 | 128 => 237 | 129 => 238 | 189 => 149 | 215 => 252 | 216 => 234 | 257 => 197 | 294 => 228 | 295 => 229 | 296 => 230 | 297 => 231 | 298 => 232 | 299 => 233 | 300 => 235 | 301 => 236 | 328 => 247 | 329 => 248 | 330 => 249 | 331 => 250 | 332 => 251 | 343 => 255 | n => n, fun | 0 => 0 | 3 => 3 | 4 => 4 | 5 => 5 | 9 => 9 | 28 => 22 | 46 => 238 | 51 => 258 | 53 => 260 | 131 => 200 | 182 => 251 | 183 => 252 | 218 => 262 | 222 => 266 | 228 => 268 | 229 => 130 | n => n, fun n => n⟩
theorem sortL : Lays.n189 Tryz.prog sortRen where
 mixed := by kernel_rfl
 f125 := by kernel_rfl
 f128 := by kernel_rfl
 f129 := by kernel_rfl
 f189 := by kernel_rfl
 f215 := by kernel_rfl
 f216 := by kernel_rfl
 f257 := by kernel_rfl
 f294 := by kernel_rfl
 f295 := by kernel_rfl
 f296 := by kernel_rfl
 f297 := by kernel_rfl
 f298 := by kernel_rfl
 f299 := by kernel_rfl
 f300 := by kernel_rfl
 f301 := by kernel_rfl
 f328 := by kernel_rfl
 f329 := by kernel_rfl
 f330 := by kernel_rfl
 f331 := by kernel_rfl
 f332 := by kernel_rfl
 f343 := by kernel_rfl
 t0 := Tryz.underlying0
 a0 := Tryz.isAgg0
 z0 := Tryz.sizeOf0
 v0 := Tryz.zeroValue0
 t3 := Tryz.underlying3
 a3 := Tryz.isAgg3
 z3 := Tryz.sizeOf3
 v3 := Tryz.zeroValue3
 t4 := Tryz.underlying4
 a4 := Tryz.isAgg4
 z4 := Tryz.sizeOf4
 v4 := Tryz.zeroValue4
 t5 := Tryz.underlying5
 a5 := Tryz.isAgg5
 z5 := Tryz.sizeOf5
 v5 := Tryz.zeroValue5
 t9 := Tryz.underlying9
 a9 := Tryz.isAgg9
 z9 := Tryz.sizeOf9
 v9 := Tryz.zeroValue9
 t28 := Tryz.underlying22
 a28 := Tryz.isAgg22
 z28 := Tryz.sizeOf22
 v28 := Tryz.zeroValue22
 t46 := Tryz.underlying238
 a46 := Tryz.isAgg238
 z46 := Tryz.sizeOf238
 v46 := Tryz.zeroValue238
 t51 := Tryz.underlying258
 a51 := Tryz.isAgg258
 z51 := Tryz.sizeOf258
 v51 := Tryz.zeroValue258
 t53 := Tryz.underlying260
 a53 := Tryz.isAgg260
 z53 := Tryz.sizeOf260
 v53 := Tryz.zeroValue260
 t131 := Tryz.underlying200
 a131 := Tryz.isAgg200
 z131 := Tryz.sizeOf200
 v131 := Tryz.zeroValue200
 t182 := Tryz.underlying251
 a182 := Tryz.isAgg251
 z182 := Tryz.sizeOf251
 v182 := Tryz.zeroValue251
 t183 := Tryz.underlying252
 a183 := Tryz.isAgg252
 z183 := Tryz.sizeOf252
 v183 := Tryz.zeroValue252
 t218 := Tryz.underlying262
 a218 := Tryz.isAgg262
 z218 := Tryz.sizeOf262
 v218 := Tryz.zeroValue262
 t222 := Tryz.underlying266
 a222 := Tryz.isAgg266
 z222 := Tryz.sizeOf266
 v222 := Tryz.zeroValue266
 t228 := Tryz.underlying268
 a228 := Tryz.isAgg268
 z228 := Tryz.sizeOf268
 v228 := Tryz.zeroValue268
 t229 := Tryz.underlying130
 a229 := Tryz.isAgg130
 z229 := Tryz.sizeOf130
 v229 := Tryz.zeroValue130
def ext0 : CallT := fun f xs h => (insT 161 f xs h).orElse fun _ => sortG insS 149 f xs h
theorem ext0_ok : CallOk Tryz.prog ext0 := by
 unfold ext0
 rw [insS_eq]
 exact CallOk.or (insT_ok insL) (sortT_ok sortL)
def extT : CallT := fun f xs h => (closT 16 true f xs h).orElse fun _ => (insT 161 f xs h).orElse fun _ => sortT 149 f xs h
def ext1 : CallT := fun f xs h => (closT 16 true f xs h).orElse fun _ => ext0 f xs h
theorem extT_ok (h : CallOk Tryz.prog (closT 16 true)) : CallOk Tryz.prog extT := CallOk.or h (CallOk.or (insT_ok insL) (sortT_ok sortL))
end Go.Proofs.YtmefgijobonklaaGreat
namespace Go.Proofs.YtmefgijobonklaaGreat
def T0 : Tw.Tab := {
 live := [(3, [(0, [0, 1]), (1, [0, 1, 15]), (2, [4]), (3, [0, 1, 5, 6]), (4, [0, 1, 5, 6, 7]), (5, [0, 1, 5, 6, 7, 40]), (6, [0, 1, 5, 6, 7]), (7, [0, 1, 5, 6, 7, 42]), (8, [4]), (9, [4])]),
  (4, [(0, [1]), (1, [1, 8]), (2, [2]), (3, [1, 3, 4]), (4, [1, 3, 4, 5]), (5, [1, 3, 4, 5, 26]), (6, [2]), (7, [2])]),
  (5, [(0, [0, 1, 2]), (1, [0, 1, 2, 19]), (2, [6]), (3, [0, 1, 2, 7]), (4, [0, 1, 2, 7, 24]), (5, [0, 1, 2, 7]), (6, [0, 1, 2, 7, 32]), (7, [6]), (8, [0, 1, 2, 8, 9]), (9, [0, 1, 2, 8, 9, 10]), (10, [0, 1, 2, 8, 9, 10, 58]), (11, [0, 1, 2, 8, 9, 10]), (12, [0, 1, 2, 8, 9, 10, 11]), (13, [0, 1, 2, 8, 9, 10, 11, 66]), (14, [0, 1, 2, 8, 9, 10, 11]), (15, [0, 1, 2, 8, 9, 10, 11]), (16, [0, 1, 2, 8, 9, 10, 76]), (17, [6]), (18, [6])]),
  (6, [(0, [1, 2, 3]), (1, [1, 2, 3, 12]), (2, [6]), (3, [1, 2, 3, 7, 8]), (4, [1, 2, 3, 7, 8, 9]), (5, [1, 2, 3, 7, 8, 9, 56]), (6, [1, 2, 3, 7, 8, 9]), (7, [1, 2, 3, 7, 8, 9, 58]), (8, [6]), (9, [6])]),
  (7, [(0, [2, 3]), (1, [2, 3, 13]), (2, [4]), (3, [2, 3, 5, 6]), (4, [2, 3, 5, 6, 7, 8]), (5, [2, 3, 5, 6, 7, 8, 9]), (6, [2, 3, 5, 6, 7, 8, 9, 42]), (7, [4]), (8, [3, 5, 6, 7, 8, 10]), (9, [3, 5, 6, 10, 75]), (10, [4]), (11, [3, 5, 6, 10, 78]), (12, [4]), (13, [4])]),
  (8, [(0, [2, 3]), (1, [2, 3, 37]), (2, [4]), (3, [2, 3, 5]), (4, [2, 3, 5, 43]), (5, [2, 3, 5]), (6, [2, 3, 5, 53]), (7, [4]), (8, [2, 3, 6, 7]), (9, [2, 3, 6, 7, 8]), (10, [2, 3, 6, 7, 8, 66]), (11, [2, 3, 6, 7, 8]), (12, [2, 3, 6, 7, 8, 72]), (13, [4]), (14, [6, 7, 9, 10]), (15, [6, 7, 9, 91]), (16, [4]), (17, [4])]),
  (9, [(0, [1]), (1, [1, 10]), (2, [2]), (3, [1, 3, 4]), (4, [1, 3, 4, 5]), (5, [1, 3, 4, 5, 21]), (6, [2]), (7, [1, 3, 4, 6]), (8, [1, 3, 6, 43]), (9, [2]), (10, [1, 3, 6, 7]), (11, [1, 3, 6, 7, 47]), (12, [1, 3, 6, 7]), (13, [1, 3, 6, 7, 62]), (14, [2]), (15, [2])]),
  (10, [(0, [1]), (1, [1, 21]), (2, [2]), (3, [1, 3, 4]), (4, [1, 3, 40]), (5, [2]), (6, [1, 3, 5, 6]), (7, [1, 3, 5, 6, 7]), (8, [1, 3, 5, 6, 7, 45]), (9, [1, 3, 5, 6, 7]), (10, [1, 3, 5, 6, 7, 8]), (11, [1, 3, 5, 6, 7, 8, 57]), (12, [2]), (13, [1, 3, 5, 6, 7, 8, 9]), (14, [1, 3, 5, 6, 7, 8, 9, 10]), (15, [1, 3, 5, 6, 7, 8, 9, 10, 62]), (16, [1, 3, 5, 6, 7, 8, 9, 10]), (17, [1, 3, 5, 6, 7, 8, 9, 10]), (18, [1, 3, 5, 6, 7, 8, 9]), (19, [1, 3, 5, 6, 7, 8, 9, 11]), (20, [1, 3, 5, 6, 7, 8, 9, 11, 12]), (21, [1, 3, 5, 6, 7, 8, 9, 11, 12, 84]), (22, [1, 3, 5, 6, 7, 8, 9, 11, 12]), (23, [1, 3, 5, 6, 7, 8, 9, 11, 12]), (24, [1, 3, 5, 6, 7, 8, 9, 11, 13, 14]), (25, [1, 3, 5, 6, 7, 8, 9, 11, 13, 14, 15, 16]), (26, [1, 3, 5, 6, 7, 8, 9, 11, 13, 14, 15, 16, 17, 18]), (27, [1, 3, 5, 6, 7, 11, 13, 163]), (28, [2]), (29, [1, 3, 5, 6, 7, 13, 165]), (30, [1, 3, 5, 6, 7]), (31, [2])]),
  (11, [(0, []), (1, [1, 2]), (2, [1, 2, 3, 4]), (3, [1, 2, 3, 4, 5, 6]), (4, [1, 2, 3, 4, 5, 6, 7, 8]), (5, [1, 2, 3, 4, 5, 6, 7, 8, 9, 10]), (6, [1, 2, 3, 4, 5, 6, 7, 8, 9, 10, 12]), (7, [7, 187]), (8, [0]), (9, [7, 13]), (10, [7, 13, 189]), (11, [7, 13]), (12, [7, 13, 14]), (13, [7, 13, 211]), (14, [0]), (15, [15]), (16, [15, 16]), (17, [15, 16, 17]), (18, [16, 17, 18]), (19, [2, 16, 17, 18]), (20, [2, 4, 16, 17, 18]), (21, [2, 4, 6, 16, 17, 18]), (22, [2, 4, 6, 8, 16, 17, 18]), (23, [2, 4, 6, 8, 10, 16, 17, 18]), (24, [2, 4, 6, 8, 10, 12, 16, 17, 18]), (25, [2, 4, 6, 8, 10, 12, 16, 17, 18, 20]), (26, [2, 4, 6, 8, 10, 12, 16, 17, 18, 20, 21]), (27, [2, 4, 6, 8, 10, 12, 16, 17, 18, 20, 21]), (28, [2, 4, 6, 8, 10, 12, 16, 17, 18, 20, 23]), (29, [0])]),
  (12, [(0, [1, 2]), (1, [1, 2, 17]), (2, [4]), (3, [1, 2, 5]), (4, [1, 2, 5, 6, 7]), (5, [1, 2, 5, 6, 7, 8, 9]), (6, [1, 2, 5, 6, 7, 8, 9, 54]), (7, [4]), (8, [1, 2, 5, 6, 7, 8, 9, 56]), (9, [4]), (10, [1, 2, 8, 9, 89]), (11, [4]), (12, [1, 2, 8, 9, 94]), (13, [4]), (14, [4])]),
  (13, [(0, [2, 3]), (1, [2, 3, 23]), (2, [4]), (3, [2, 3, 5, 6]), (4, [2, 3, 5, 6, 7, 8]), (5, [2, 3, 5, 7, 50]), (6, [4]), (7, [2, 3, 5, 7, 9, 10]), (8, [2, 3, 5, 7, 9, 10, 11, 12]), (9, [2, 3, 5, 7, 95]), (10, [4]), (11, [2, 3, 5, 7, 13]), (12, [2, 3, 5, 7, 13, 14]), (13, [2, 3, 5, 7, 13, 14, 108]), (14, [2, 3, 5, 7, 13, 14]), (15, [2, 3, 5, 7, 13, 14, 15, 16]), (16, [2, 3, 5, 7, 13, 14, 15, 16, 151]), (17, [4]), (18, [2, 3, 5, 7, 13, 14, 192]), (19, [4]), (20, [2, 3, 5, 7, 198]), (21, [4]), (22, [2, 3, 5, 7, 17, 18]), (23, [5, 7, 17, 18, 19, 20]), (24, [4])]),
  (14, [(0, [1, 2, 3]), (1, [1, 2, 3, 24]), (2, [6]), (3, [1, 2, 3, 7, 8]), (4, [1, 2, 3, 7, 8, 9, 10]), (5, [1, 2, 3, 7, 9, 59]), (6, [6]), (7, [2, 3, 7, 9, 11]), (8, [2, 3, 7, 9, 11, 12, 13]), (9, [2, 3, 7, 9, 11, 12, 13, 15]), (10, [2, 3, 7, 11, 12, 99]), (11, [6]), (12, [2, 3, 7, 11, 12, 16]), (13, [2, 3, 7, 11, 12, 16, 17]), (14, [2, 3, 7, 11, 12, 16, 17, 118]), (15, [2, 3, 7, 11, 12, 16, 17]), (16, [2, 3, 7, 11, 12, 16, 17]), (17, [3, 7, 12, 13]), (18, [3, 7, 13, 15, 18]), (19, [3, 7, 15, 18, 146]), (20, [6]), (21, [3, 7, 15, 18, 19]), (22, [3, 7, 15, 18, 19, 150]), (23, [3, 7, 15, 18, 19]), (24, [3, 7, 15, 18, 19, 20, 21]), (25, [3, 7, 15, 18, 19, 20, 168]), (26, [6]), (27, [3, 7, 15, 18, 19, 174]), (28, [6]), (29, [6])]),
  (15, [(0, [0]), (1, [2])]),
  (16, [(0, []), (1, [1, 2]), (2, [1, 2, 3, 4]), (3, [1, 2, 3, 4, 5, 6]), (4, [1, 2, 3, 4, 5, 6, 7, 8]), (5, [1, 2, 3, 4, 5, 6, 7, 8, 9, 10]), (6, [1, 2, 3, 4, 5, 6, 7, 8, 9, 10, 11, 12]), (7, [1, 2, 3, 4, 5, 6, 7, 8, 9, 10, 11, 12, 13, 14]), (8, [1, 2, 3, 4, 5, 6, 7, 8, 9, 10, 11, 12, 13, 14, 15, 16]), (9, [1, 2, 3, 4, 5, 6, 7, 8, 9, 10, 11, 12, 13, 14, 15, 16, 17, 18]), (10, [0])]),
  (17, [(0, [0, 1, 4]), (1, [1, 4, 6]), (2, [1, 4, 6, 7]), (3, [1, 4, 6, 7, 12]), (4, [4, 5]), (5, [1, 4, 6, 24]), (6, [4, 5]), (7, [4, 5])]),
  (18, [(0, [0]), (1, [2])]),
  (19, [(0, [0]), (1, [2])]),
  (20, [(0, [0]), (1, [2])]),
  (21, [(0, [0]), (1, [2])]),
  (22, [(0, [0]), (1, [0, 3]), (2, [0, 3, 7]), (3, [0, 3]), (4, [0, 3, 15]), (5, [2]), (6, [2])]),
  (23, [(0, [1]), (1, [2])]),
  (24, [(0, [2, 3]), (1, [2, 3, 14]), (2, [4]), (3, [2, 3, 5]), (4, [2, 3, 5, 19]), (5, [2, 3, 5]), (6, [2, 3, 5, 6, 7]), (7, [2, 3, 5, 52]), (8, [4]), (9, [4])]),
  (25, [(0, [0, 1, 4]), (1, [0, 1, 4, 5]), (2, [0, 1, 4, 5, 15]), (3, [4, 5]), (4, [4]), (5, [0, 1, 4, 5, 6]), (6, [0, 1, 4, 5, 6, 7]), (7, [0, 1, 4, 5, 6, 7, 33]), (8, [0, 1, 4, 5, 6, 7]), (9, [0, 1, 4, 5, 6, 7, 8]), (10, [0, 1, 4, 5, 6, 7, 8, 59]), (11, [0, 1, 4, 5, 6, 7, 8, 9]), (12, [0, 1, 4, 5, 6, 7, 8, 9, 80]), (13, [0, 1, 4, 5, 6, 7, 8, 9]), (14, [0, 1, 4, 5, 6, 7, 9, 10]), (15, [0, 1, 4, 5, 6, 7, 9, 10, 11]), (16, [0, 1, 4, 5, 6, 7, 9, 10, 11, 91]), (17, [0, 1, 4, 5, 6, 7, 9, 10, 11]), (18, [0, 1, 4, 5, 6, 7, 9, 10, 11, 12]), (19, [0, 1, 4, 5, 6, 7, 9, 10, 11]), (20, [4])]),
  (26, [(0, [1]), (1, [2])]),
  (27, [(0, [0, 3, 4]), (1, [4, 6, 7]), (2, [4, 6, 7, 16]), (3, [4, 5]), (4, [4, 5])]),
  (28, [(0, [1, 2]), (1, [1, 2, 3]), (2, [1, 2, 3, 4]), (3, [1, 2, 3, 4, 10]), (4, [1, 2, 3, 4]), (5, [1, 2, 3, 4, 5]), (6, [1, 2, 3, 4]), (7, [2])]),
  (29, [(0, [0, 3]), (1, [0, 3, 5]), (2, [0, 3, 5, 14]), (3, [4]), (4, [0, 3, 19]), (5, [4]), (6, [0, 3, 6]), (7, [0, 3, 6, 24]), (8, [0, 3, 6]), (9, [0, 3, 6, 34]), (10, [4]), (11, [0, 3, 7]), (12, [0, 3, 7, 8]), (13, [0, 3, 7, 8, 38]), (14, [0, 3, 7, 8]), (15, [0, 3, 7, 8, 9]), (16, [0, 3, 7, 8, 9, 50]), (17, [4]), (18, [0, 3, 7, 8]), (19, [56]), (20, [4]), (21, [4])]),
  (30, [(0, [0, 3]), (1, [0, 3, 5]), (2, [0, 3, 5, 6]), (3, [0, 3, 5, 6, 10]), (4, [0, 3, 5, 6]), (5, [0, 3, 5, 6]), (6, [4])]),
  (31, [(0, [1]), (1, [1, 7]), (2, [2]), (3, [1, 3]), (4, [1, 3, 12]), (5, [1, 3]), (6, [1, 3, 32]), (7, [2]), (8, [2])]),
  (32, [(0, [0, 1, 2, 6]), (1, [0, 1, 2, 6, 8]), (2, [0, 1, 2, 6, 8, 23]), (3, [6, 7]), (4, [0, 1, 2, 6, 9]), (5, [0, 1, 2, 6, 35]), (6, [6, 7]), (7, [0, 1, 6, 10, 11]), (8, [0, 1, 6, 10, 11, 44]), (9, [6, 7]), (10, [1, 6, 10, 12]), (11, [1, 6, 10, 12, 13]), (12, [1, 6, 10, 12, 13, 52, 53]), (13, [1, 6, 10, 12, 13, 52, 53, 54]), (14, [1, 6, 10, 12, 13, 14, 52, 53]), (15, [1, 6, 10, 12, 13, 14, 15, 52, 53]), (16, [1, 6, 10, 12, 13, 14, 15, 52, 53, 56, 57, 58]), (17, [1, 6, 10, 12, 13, 14, 15, 52, 53, 56, 57, 58, 59]), (18, [1, 6, 10, 12, 13, 14, 15, 16, 17, 52, 53, 56, 57, 58]), (19, [1, 6, 10, 12, 13, 14, 15, 52, 53, 56, 57, 58]), (20, [1, 6, 10, 12, 13, 14, 15, 52, 53, 56, 57, 58]), (21, [1, 6, 10, 12, 13, 15, 18, 19, 52, 53]), (22, [1, 6, 10, 12, 13, 15, 18, 52, 53, 78]), (23, [1, 6, 10, 12, 13, 15, 18, 52, 53]), (24, [1, 6, 10, 12, 13, 18, 52, 53]), (25, [1, 6, 10, 12, 13, 52, 53]), (26, [1, 6, 10, 12, 13, 52, 53]), (27, [6, 7])]),
  (33, [(0, [0]), (1, [0, 3]), (2, [0, 3, 4]), (3, [0, 3, 4, 8]), (4, [0, 3, 4]), (5, [0, 3, 4]), (6, [2])]),
  (34, [(0, [0]), (1, [0, 8]), (2, [2]), (3, [0, 14]), (4, [2]), (5, [16]), (6, [2]), (7, [2])]),
  (35, [(0, [0, 1, 2, 6]), (1, [0, 1, 2, 6, 7]), (2, [0, 1, 2, 6, 7, 8]), (3, [0, 1, 2, 6, 7, 8, 14]), (4, [0, 1, 2, 6, 7, 8]), (5, [0, 1, 2, 6, 7, 8, 9]), (6, [0, 1, 2, 6, 7, 8, 9, 10]), (7, [0, 1, 2, 6, 7, 8, 9, 10, 20]), (8, [0, 1, 2, 6, 7, 8, 9, 10]), (9, [0, 1, 2, 6, 7, 8, 9, 10]), (10, [0, 1, 2, 6, 7, 8]), (11, [6])]),
  (36, [(0, [0, 2, 3, 5, 8]), (1, [0, 2, 3, 8, 10, 11]), (2, [0, 2, 3, 8, 10, 11, 22]), (3, [8, 9]), (4, [0, 2, 3, 8, 10, 27]), (5, [8, 9]), (6, [2, 3, 8, 10, 12]), (7, [2, 3, 8, 10, 12, 53, 54]), (8, [2, 3, 8, 10, 12, 53, 54, 55]), (9, [2, 3, 8, 10, 12, 13, 53, 54]), (10, [2, 3, 8, 10, 12, 14, 53, 54]), (11, [2, 3, 8, 10, 12, 14, 53, 54]), (12, [2, 3, 8, 10, 12, 53, 54]), (13, [2, 3, 8, 10, 12, 53, 54]), (14, [8, 9])]),
  (37, [(0, [0, 2, 3, 5, 8]), (1, [0, 2, 3, 5, 8, 9]), (2, [0, 2, 3, 5, 8, 9, 10]), (3, [0, 2, 3, 5, 8, 9, 10, 15]), (4, [0, 2, 3, 5, 8, 9, 10]), (5, [0, 2, 3, 5, 8, 9, 10, 11]), (6, [0, 2, 3, 5, 8, 9, 10, 11]), (7, [0, 2, 3, 5, 8, 9, 10]), (8, [8])]),
  (38, [(0, [0, 4, 5]), (1, [5, 8, 9]), (2, [5, 8, 9, 17]), (3, [6, 7]), (4, [5, 8, 21]), (5, [6, 7]), (6, [6, 7])]),
  (39, [(0, [0, 3, 4]), (1, [4, 6, 7]), (2, [4, 6, 7, 19]), (3, [4, 5]), (4, [4, 6, 8]), (5, [4, 8, 26, 27, 28]), (6, [4, 8, 26, 27, 28, 29]), (7, [4, 8, 10, 26, 27, 28]), (8, [4, 8, 26, 27, 28]), (9, [4, 8, 10, 26, 27, 28, 44]), (10, [4, 8, 26, 27, 28]), (11, [4, 8, 10, 26, 27, 28, 56]), (12, [4, 8, 26, 27, 28]), (13, [4, 8, 26, 27, 28]), (14, [4, 5])]),
  (40, [(0, [0, 2]), (1, [0, 2, 3]), (2, [0, 2, 3, 4]), (3, [0, 2, 3, 4, 10]), (4, [0, 2, 3, 4]), (5, [0, 2, 3, 4, 5]), (6, [0, 2, 3, 4, 5, 19]), (7, [0, 2, 3, 4]), (8, [0, 2, 3, 4, 5, 32]), (9, [0, 2, 3, 4]), (10, [0, 2, 3, 4]), (11, [2])]),
  (41, [(0, [1]), (1, [1, 5]), (2, [2]), (3, [2])]),
  (42, [(0, [0, 3]), (1, [0, 3, 5]), (2, [0, 3, 5, 6]), (3, [0, 3, 5, 6, 10]), (4, [0, 3, 5, 6]), (5, [0, 3, 5, 6, 18]), (6, [0, 3, 5, 6]), (7, [4])]),
  (43, [(0, [2, 3]), (1, [2, 3, 6, 7]), (2, [2, 3, 6, 7, 17]), (3, [4, 5]), (4, [6, 7, 8]), (5, [6, 7, 8, 28]), (6, [4, 5]), (7, [6, 8, 33, 34, 35]), (8, [6, 8, 33, 34, 35, 36]), (9, [6, 8, 9, 10, 33, 34, 35]), (10, [6, 8, 9, 33, 34, 35, 45]), (11, [4, 5]), (12, [6, 8, 33, 34, 35]), (13, [4, 5])]),
  (44, [(0, [1, 2]), (1, [1, 2, 3]), (2, [1, 2, 3, 4]), (3, [1, 2, 3, 4, 21]), (4, [1, 2, 3, 4]), (5, [1, 2, 3, 4]), (6, [2])]),
  (45, [(0, [1]), (1, [1, 3]), (2, [1, 3, 7]), (3, [2]), (4, [11]), (5, [2]), (6, [2])]),
  (46, [(0, [2, 3]), (1, [2, 3, 6]), (2, [2, 3, 6, 12]), (3, [2, 3, 6]), (4, [2, 3, 6, 7]), (5, [2, 3, 6, 7, 25]), (6, [4, 5]), (7, [4, 5])]),
  (47, [(0, [0, 1]), (1, [0, 1, 10]), (2, [4]), (3, [0, 1, 5]), (4, [0, 1, 5, 14]), (5, [0, 1, 5]), (6, [0, 1, 5, 25]), (7, [4]), (8, [4])]),
  (48, [(0, [1]), (1, [1, 18]), (2, [2]), (3, [2])]),
  (49, [(0, [1]), (1, [1, 4]), (2, [1, 4, 24]), (3, [2, 3]), (4, [1, 28]), (5, [2, 3]), (6, [1, 5]), (7, [1, 5, 30, 31, 32]), (8, [1, 5, 30, 31, 32, 33]), (9, [1, 5, 7, 30, 31, 32]), (10, [1, 5, 30, 31, 32]), (11, [1, 5, 30, 31, 32]), (12, [1, 5, 8]), (13, [1, 5, 8, 49]), (14, [2, 3]), (15, [1, 5, 9]), (16, [1, 5, 9, 56, 57]), (17, [1, 5, 9, 56, 57, 58]), (18, [1, 5, 9, 10, 56, 57]), (19, [1, 5, 9, 11, 56, 57]), (20, [1, 5, 9, 11, 56, 57, 64, 65, 66]), (21, [1, 5, 9, 11, 56, 57, 64, 65, 66, 67]), (22, [1, 5, 9, 11, 12, 13, 56, 57, 64, 65, 66]), (23, [1, 5, 9, 11, 56, 57, 64, 65, 66]), (24, [1, 5, 9, 11, 56, 57, 64, 65, 66]), (25, [1, 5, 9, 14, 15, 56, 57]), (26, [1, 5, 9, 14, 15, 56, 57, 87]), (27, [2, 3]), (28, [1, 5, 9, 56, 57, 89, 90, 91]), (29, [1, 5, 9, 56, 57, 89, 90, 91, 92]), (30, [1, 5, 9, 16, 17, 56, 57, 89, 90, 91]), (31, [1, 5, 9, 56, 57, 89, 90, 91]), (32, [1, 5, 9, 56, 57, 89, 90, 91]), (33, [1, 5, 9, 56, 57]), (34, [5, 9, 18]), (35, [5, 18, 108, 109, 110]), (36, [5, 18, 108, 109, 110, 111]), (37, [5, 18, 20, 108, 109, 110]), (38, [5, 18, 108, 109, 110]), (39, [5, 18, 108, 109, 110]), (40, [2, 3])]),
  (50, [(0, [1, 2]), (1, [1, 2]), (2, [2])]),
  (51, [(0, [1]), (1, [1, 3]), (2, [1, 3, 7]), (3, [2]), (4, [1, 10]), (5, [2]), (6, [2])]),
  (52, [(0, [1]), (1, [1, 3]), (2, [1, 3, 4]), (3, [1, 3, 4, 5]), (4, [1, 3, 4, 5, 17]), (5, [1, 3, 4, 5]), (6, [1, 3, 4, 5, 6]), (7, [1, 3, 4, 5, 6, 7]), (8, [1, 3, 4, 5, 6, 7, 30]), (9, [1, 3, 4, 5, 6, 7]), (10, [1, 3, 4, 5, 6, 7]), (11, [2])]),
  (53, [(0, [1]), (1, [1, 3]), (2, [1, 3, 4]), (3, [1, 3, 4, 9]), (4, [1, 3, 4]), (5, [1, 3, 4]), (6, [2])]),
  (54, [(0, [1]), (1, [2])]),
  (55, [(0, [0, 3]), (1, [0, 3, 25]), (2, [4]), (3, [0, 3, 5]), (4, [0, 3, 5, 29]), (5, [0, 3, 5]), (6, [0, 3, 5, 62]), (7, [4]), (8, [4])]),
  (56, [(0, [0, 2, 4, 6]), (1, [2, 6, 8, 9]), (2, [2, 6, 8, 9, 17]), (3, [6, 7]), (4, [2, 6, 8, 22]), (5, [6, 7]), (6, [6, 7])]),
  (57, [(0, []), (1, [0])]),
  (58, [(0, [0]), (1, [0])]),
  (59, [(0, [0]), (1, [0])]),
  (60, [(0, [0]), (1, [0])]),
  (61, [(0, [0, 1, 2, 6]), (1, [0, 2, 6, 7]), (2, [6, 7]), (3, [6])]),
  (62, [(0, []), (1, [0])]),
  (63, [(0, [0, 1, 2, 3, 9, 10]), (1, [10])]),
  (64, [(0, [0, 3]), (1, [6]), (2, [4])]),
  (65, [(0, [0, 3]), (1, [6, 7]), (2, [6, 7, 16]), (3, [4, 5]), (4, [4, 5])]),
  (66, [(0, [0, 1]), (1, [0, 1, 10]), (2, [4]), (3, [0, 1, 5]), (4, [0, 1, 5, 14]), (5, [0, 1, 5]), (6, [0, 1, 5, 25]), (7, [4]), (8, [4])]),
  (67, [(0, [0, 1]), (1, [0, 1, 10]), (2, [4]), (3, [0, 1, 5]), (4, [0, 1, 5, 14]), (5, [0, 1, 5]), (6, [0, 1, 5, 27]), (7, [4]), (8, [4])]),
  (68, [(0, [1, 2, 4]), (1, [2, 4, 6]), (2, [4])]),
  (69, [(0, [0, 1]), (1, [0, 1, 5]), (2, [0, 1, 5, 6]), (3, [0, 1, 5, 6, 10]), (4, [0, 1, 5, 6]), (5, [0, 1, 5, 6, 7]), (6, [0, 1, 5, 6]), (7, [4])]),
  (70, [(0, [3, 4, 5, 6, 7]), (1, [3, 4, 5, 6, 7, 8]), (2, [3, 4, 5, 6, 7, 8, 19]), (3, [6, 7]), (4, [3, 4, 5, 6, 7, 9]), (5, [3, 4, 5, 6, 7, 9, 10, 11]), (6, [3, 4, 5, 6, 7, 9, 10, 11, 30]), (7, [10, 11, 12, 32]), (8, [10, 11, 12, 13]), (9, [11, 13]), (10, []), (11, [3, 4, 5, 6, 9, 10, 48]), (12, [6, 7]), (13, [3, 4, 5, 6, 9, 10, 14]), (14, [6, 9, 14]), (15, [6, 9]), (16, [6, 7])]),
  (71, [(0, [0, 1]), (1, [0, 1, 5]), (2, [0, 1, 5, 6]), (3, [0, 1, 5, 6, 14]), (4, [0, 1, 5, 6]), (5, [0, 1, 5, 6]), (6, [0, 1, 5, 6]), (7, [4])]),
  (72, [(0, [0]), (1, [0, 3]), (2, [0, 3, 6, 7]), (3, [0, 3, 6, 7, 8]), (4, [0, 3, 4, 6, 7]), (5, [0, 3, 6, 7]), (6, [0, 3, 6, 7]), (7, [2])]),
  (73, [(0, [0]), (1, [0, 3]), (2, [3, 6, 7, 8]), (3, [3, 6, 7, 8, 9]), (4, [3, 5, 6, 7, 8]), (5, [3, 6, 7, 8]), (6, [3, 6, 7, 8]), (7, [2])]),
  (74, [(0, [0, 3]), (1, [4])]),
  (75, [(0, [1]), (1, [2])]),
  (76, [(0, [1, 2]), (1, [2])]),
  (77, [(0, [0, 1]), (1, [0, 1, 8]), (2, [4]), (3, [0, 1, 5]), (4, [0, 1, 5, 12]), (5, [0, 1, 5]), (6, [0, 1, 5, 20]), (7, [4]), (8, [0, 1, 23]), (9, [4]), (10, [27]), (11, [4]), (12, [4])]),
  (78, [(0, [0]), (1, [0, 3]), (2, [0, 3, 4]), (3, [0, 3, 4, 8]), (4, [0, 3, 4]), (5, [0, 3, 4]), (6, [2])]),
  (79, [(0, [0, 1]), (1, [0, 1, 5]), (2, [0, 5, 6]), (3, [0, 5, 6, 11]), (4, [0, 5, 6]), (5, [0, 5, 6]), (6, [4])]),
  (80, [(0, [0, 1, 4, 5]), (1, [1, 4, 5, 6, 7]), (2, [1, 4, 5, 6, 7, 8]), (3, [1, 4, 5, 6, 7, 8, 23]), (4, [4, 5]), (5, [1, 4, 5, 6, 7, 9]), (6, [4, 5, 6, 7, 9, 25, 26, 27]), (7, [4, 5, 6, 7, 9, 25, 26, 27, 28]), (8, [4, 5, 6, 7, 9, 11, 25, 26, 27]), (9, [4, 5, 6, 7, 9, 11, 25, 26, 27, 34]), (10, [4, 5]), (11, [4, 5, 6, 7, 9, 11, 25, 26, 27, 39]), (12, [4, 5]), (13, [4, 5, 6, 7, 9, 11, 12, 25, 26, 27]), (14, [4, 5, 6, 7, 9, 11, 12, 13, 25, 26, 27]), (15, [4, 5, 6, 7, 9, 12, 13, 25, 26, 27, 49, 50, 51]), (16, [4, 5, 6, 7, 9, 12, 13, 25, 26, 27, 49, 50, 51, 52]), (17, [4, 5, 6, 7, 9, 12, 13, 15, 25, 26, 27, 49, 50, 51]), (18, [4, 5, 6, 7, 9, 12, 13, 15, 25, 26, 27, 49, 50, 51, 57]), (19, [12, 13, 15, 16]), (20, [12, 15, 16]), (21, []), (22, [4, 5, 6, 7, 9, 12, 13, 25, 26, 27, 49, 50, 51]), (23, [4, 5, 6, 7, 9, 12, 13, 25, 26, 27, 72]), (24, [4, 5]), (25, [4, 5, 6, 7, 9, 12, 25, 26, 27, 76]), (26, [4, 5]), (27, [4, 5, 6, 7, 9, 25, 26, 27]), (28, [4, 5, 6, 7, 9, 25, 26, 27]), (29, [4, 5])]),
  (81, [(0, [1, 2]), (1, [1, 2, 6, 7]), (2, [1, 2, 6, 7, 8]), (3, [1, 2, 6, 7, 8, 13]), (4, [1, 2, 6, 7, 8]), (5, [1, 2, 6, 7, 8, 22]), (6, [1, 2, 6, 7, 8]), (7, [4, 5])]),
  (82, [(0, [0]), (1, [0, 3]), (2, [2]), (3, [0, 10]), (4, [2]), (5, [17]), (6, [2]), (7, [2])]),
  (83, [(0, [0, 3, 4]), (1, [0, 3, 4, 5]), (2, [0, 3, 4, 5, 7]), (3, [4, 5]), (4, [0, 3, 4, 5, 7, 18]), (5, [4, 5]), (6, [0, 3, 4, 5, 27]), (7, [4, 5]), (8, [4])]),
  (84, [(0, [0, 1, 4]), (1, [0, 1, 4, 7]), (2, [4]), (3, [0, 1, 4, 15]), (4, [4]), (5, [4])]),
  (85, [(0, [0, 3, 4]), (1, [0, 3, 4, 5]), (2, [3, 4, 5, 12]), (3, [3, 5, 6, 14]), (4, [3, 5, 6, 7]), (5, []), (6, [4])]),
  (86, [(0, [0, 1, 4]), (1, [1, 4, 7, 8, 9]), (2, [1, 4, 7, 8, 9, 10]), (3, [1, 4, 5, 6, 7, 8, 9]), (4, [1, 4, 7, 8, 9]), (5, [1, 4, 7, 8, 9]), (6, [4])]),
  (87, [(0, [2, 3, 4]), (1, [3, 4, 8, 9, 10]), (2, [3, 4, 8, 9, 10, 11]), (3, [3, 4, 6, 8, 9, 10]), (4, [3, 4, 8, 9, 10, 16]), (5, [3, 4, 8, 9, 10]), (6, [3, 4, 8, 9, 10]), (7, [4])]),
  (88, [(0, [0, 1, 2]), (1, [6])]),
  (89, [(0, [1]), (1, [4, 5]), (2, [4, 5, 12]), (3, [2, 3]), (4, [2, 3])]),
  (90, [(0, [1]), (1, [1, 3]), (2, [1, 3, 10]), (3, [2]), (4, [1, 15]), (5, [2]), (6, [18]), (7, [2]), (8, [2])]),
  (91, [(0, [1]), (1, [1, 3]), (2, [1, 3, 13]), (3, [1, 3]), (4, [1, 3, 4]), (5, [1, 3, 4, 18]), (6, [1, 3, 4]), (7, [1, 3, 4, 31]), (8, [2]), (9, [1, 5]), (10, [1, 5, 36]), (11, [1, 5]), (12, [1, 5, 44]), (13, [2]), (14, [1, 5, 6]), (15, [1, 5, 6, 47]), (16, [1, 5, 6]), (17, [1, 5, 6, 77]), (18, [2]), (19, [1, 7, 8]), (20, [2])]),
  (92, [(0, [1, 2, 4]), (1, [1, 2, 4, 14]), (2, [4]), (3, [4])]),
  (93, [(0, [1]), (1, [1, 4]), (2, [1, 4]), (3, [1, 4]), (4, [2]), (5, [1, 17]), (6, [2]), (7, [1, 21]), (8, [2]), (9, [1, 32, 33]), (10, [1, 32, 33, 34]), (11, [1, 3, 32, 33]), (12, [1, 32, 33, 39]), (13, [2]), (14, [1, 32, 33]), (15, [2])]),
  (94, [(0, [0, 1]), (1, [4])]),
  (95, [(0, [1]), (1, [2])]),
  (96, [(0, [1, 2, 4]), (1, [2, 4, 5, 6]), (2, [2, 4, 5, 6, 16]), (3, [4, 5]), (4, [4, 6, 19, 20, 21]), (5, [4, 6, 19, 20, 21, 22]), (6, [4, 6, 8, 19, 20, 21]), (7, [4, 6, 19, 20, 21]), (8, [4, 6, 19, 20, 21]), (9, [4, 5])]),
  (97, [(0, [1]), (1, [1, 22]), (2, [2]), (3, [1, 3]), (4, [1, 3, 27]), (5, [1, 3]), (6, [1, 3, 4]), (7, [1, 3, 53]), (8, [2]), (9, [1, 5]), (10, [1, 5, 58]), (11, [1, 5]), (12, [1, 5, 71]), (13, [2]), (14, [1, 6]), (15, [1, 6, 76]), (16, [1, 6]), (17, [1, 6, 89]), (18, [2]), (19, [2])]),
  (98, [(0, [1]), (1, [1, 3]), (2, [1, 3, 8]), (3, [1, 3]), (4, [1, 3, 17]), (5, [2]), (6, [2])]),
  (99, [(0, [1, 2]), (1, [2, 5, 6]), (2, [2, 5, 6, 7]), (3, [2, 5, 6, 7, 16]), (4, [2, 5, 6, 7]), (5, [2, 5, 6, 7]), (6, [4])]),
  (100, [(0, [1, 2]), (1, [1, 2, 5]), (2, [1, 2, 5, 6]), (3, [1, 2, 5, 6, 10]), (4, [1, 2, 5, 6]), (5, [1, 2, 5, 6]), (6, [4])]),
  (101, [(0, [1]), (1, [1, 5]), (2, [2]), (3, [2])]),
  (102, [(0, [0, 1]), (1, [0, 1, 11]), (2, [4]), (3, [0, 12, 13, 14]), (4, [0, 12, 13, 14, 15]), (5, [0, 5, 6, 12, 13, 14]), (6, [0, 12, 13, 14, 28]), (7, [4]), (8, [0, 12, 13, 14]), (9, [4])]),
  (103, [(0, [1, 2, 3, 4, 8]), (1, [1, 2, 3, 4, 8, 21]), (2, [4, 8, 10]), (3, [4, 8, 10, 11]), (4, [4, 8, 10, 11, 33]), (5, [4, 8, 10, 11]), (6, [4, 8, 10, 11, 42]), (7, [8, 9]), (8, [4, 8]), (9, [8, 9]), (10, [1, 2, 3, 4, 8, 12]), (11, [1, 2, 3, 4, 8, 12, 13]), (12, [1, 2, 3, 4, 8, 12, 13, 70]), (13, [1, 2, 3, 4, 8, 12, 13]), (14, [1, 2, 3, 4, 8, 12, 13, 14]), (15, [1, 2, 3, 4, 8, 12, 13, 14]), (16, [1, 2, 3, 4, 8, 12, 13, 14]), (17, [1, 2, 3, 4, 8, 12, 13, 15]), (18, [1, 2, 3, 4, 8, 12, 13]), (19, [4, 8, 12, 96]), (20, [8, 9]), (21, [4, 8, 12, 16]), (22, [4, 8, 12, 16, 106]), (23, [4, 8, 12, 16]), (24, [4, 8, 12, 16, 128]), (25, [8, 9]), (26, [4, 8]), (27, [8, 9])]),
  (104, [(0, [0, 1]), (1, [0, 1, 9]), (2, [4]), (3, [0, 1, 13]), (4, [4]), (5, [0, 1, 5]), (6, [0, 1, 5, 17, 18, 19]), (7, [0, 1, 5, 17, 18, 19, 20]), (8, [0, 1, 5, 7, 17, 18, 19]), (9, [0, 1, 5, 17, 18, 19]), (10, [0, 1, 5, 17, 18, 19]), (11, [0, 1, 28]), (12, [4]), (13, [0, 8]), (14, [0, 8]), (15, [38]), (16, [4]), (17, [4])]),
  (105, [(0, [1]), (1, [2])]),
  (106, [(0, [1]), (1, [2])]),
  (107, [(0, [0, 3]), (1, [4])]),
  (108, [(0, [1]), (1, [1, 5]), (2, [2]), (3, [2])]),
  (109, [(0, [0, 1, 2, 3, 4, 5, 6, 7]), (1, [0, 1, 2, 3, 4, 5, 6, 7, 17]), (2, [10]), (3, [0, 1, 3, 5, 6, 7, 11]), (4, [0, 1, 3, 6, 7, 11, 12]), (5, [0, 1, 3, 6, 7, 11, 12, 34, 35]), (6, [0, 1, 3, 6, 7, 11, 12, 34, 35, 36]), (7, [0, 1, 3, 6, 7, 11, 12, 13, 34, 35]), (8, [0, 1, 3, 6, 7, 11, 12, 34, 35]), (9, [0, 1, 3, 6, 7, 11, 12, 34, 35]), (10, [10])]),
  (110, [(0, [0, 3]), (1, [0, 3, 5, 6]), (2, [0, 3, 5, 17]), (3, [0, 3, 5]), (4, [0, 3, 5]), (5, [5]), (6, [4])]),
  (111, [(0, [0, 1, 5]), (1, [0, 1, 5, 12]), (2, [6]), (3, [0, 1, 5, 7]), (4, [0, 1, 5, 7]), (5, [0, 1, 5, 7, 8, 9]), (6, [0, 1, 5, 7, 8, 32]), (7, [0, 1, 5, 7, 8]), (8, [0, 1, 5, 8]), (9, [8]), (10, [6])]),
  (112, [(0, [0, 1]), (1, [4])]),
  (113, [(0, [1, 2]), (1, [3])]),
  (114, [(0, [1]), (1, [5]), (2, [2]), (3, [2])]),
  (115, [(0, [0, 3]), (1, [0, 3, 14]), (2, [4]), (3, [0, 3, 5]), (4, [0, 3, 5, 6]), (5, [0, 5, 7]), (6, [0, 5, 7, 8]), (7, [0, 5, 7, 8, 31]), (8, [0, 5, 7, 8]), (9, [0, 5, 7, 8, 9]), (10, [0, 5, 7, 8, 9, 50]), (11, [0, 5, 7, 8, 9]), (12, [0, 5, 7, 8, 9, 58, 59, 60]), (13, [0, 5, 7, 8, 9, 58, 59, 60, 61]), (14, [0, 5, 7, 8, 9, 11, 58, 59, 60]), (15, [0, 5, 7, 8, 9, 11, 58, 59, 60]), (16, [0, 5, 7, 8, 9, 58, 59, 60]), (17, [0, 5, 7, 8, 9, 58, 59, 60]), (18, [4])]),
  (116, [(0, [0, 1]), (1, [0, 1, 11]), (2, [4]), (3, [0, 1, 5]), (4, [0, 1, 5, 15]), (5, [0, 1, 5]), (6, [0, 1, 5, 26]), (7, [4]), (8, [0, 1, 5, 6]), (9, [0, 1, 5, 6, 29]), (10, [0, 1, 5, 6]), (11, [0, 1, 5, 6, 40]), (12, [4]), (13, [4])]),
  (117, [(0, [0, 3]), (1, [3, 24]), (2, [4]), (3, [3, 26, 27, 28]), (4, [3, 26, 27, 28, 29]), (5, [3, 5, 6, 26, 27, 28]), (6, [3, 26, 27, 28, 39]), (7, [4]), (8, [3, 26, 27, 28]), (9, [4])]),
  (118, [(0, [0, 3]), (1, [4])]),
  (119, [(0, [2, 3]), (1, [4])]),
  (120, [(0, [0]), (1, [0, 7]), (2, [0]), (3, [0, 3]), (4, [0, 3, 4]), (5, [0, 3, 4, 15]), (6, [0, 3, 4]), (7, [0, 3, 4]), (8, [2])]),
  (121, [(0, [0]), (1, [0, 7]), (2, [0]), (3, [0, 3]), (4, [0, 3, 4]), (5, [0, 3, 4, 15]), (6, [0, 3, 4]), (7, [0, 3, 4]), (8, [2])]),
  (122, [(0, [1, 2]), (1, [1, 2, 5]), (2, [1, 2, 5, 9]), (3, [1, 2, 5]), (4, [1, 2, 5, 33]), (5, [4]), (6, [4])]),
  (123, [(0, [0, 3, 4]), (1, [3, 4, 6]), (2, [3, 4, 6, 17]), (3, [4, 5]), (4, [3, 4, 6, 7, 8]), (5, [3, 4, 6, 7, 25]), (6, [4, 5]), (7, [4, 5])]),
  (124, [(0, [0, 4, 5, 6]), (1, [0, 4, 5, 6, 11]), (2, [0, 4, 5, 6, 11, 12]), (3, [6, 7]), (4, [0, 4, 5, 6, 20]), (5, [6, 7]), (6, [4, 5, 6, 8]), (7, [4, 5, 6, 8, 38]), (8, [6, 7]), (9, [4, 5, 6, 8, 9, 10]), (10, [4, 5, 6, 8, 9, 47]), (11, [6, 7]), (12, [6, 7])]),
  (125, [(0, [3, 4, 5, 6]), (1, [3, 4, 5, 6, 8]), (2, [6, 7]), (3, [3, 4, 5, 6, 16]), (4, [6, 7]), (5, [4, 5, 6, 21]), (6, [6, 7]), (7, [6, 7])]),
  (126, [(0, [0, 3, 4]), (1, [0, 3, 4, 5]), (2, [4]), (3, [3, 4, 10]), (4, [4]), (5, [4])]),
  (127, [(0, [0, 4, 5, 6]), (1, [0, 4, 5, 6, 8]), (2, [6]), (3, [0, 4, 5, 6, 13]), (4, [6]), (5, [0, 4, 5, 6, 22]), (6, [6]), (7, [0, 4, 5, 6, 31]), (8, [6]), (9, [0, 4, 5, 6, 39]), (10, [6]), (11, [0, 4, 5, 6, 44]), (12, [0, 4, 5, 6, 44, 45]), (13, [6]), (14, [0, 4, 5, 6, 44, 53]), (15, [6]), (16, [0, 4, 5, 6, 44, 61]), (17, [6]), (18, [0, 4, 5, 6, 44, 69]), (19, [6]), (20, [0, 4, 5, 6, 44, 77]), (21, [6]), (22, [0, 4, 5, 6, 85]), (23, [6]), (24, [0, 4, 5, 6, 95]), (25, [6]), (26, [0, 4, 5, 6, 7]), (27, [4, 5, 6, 7, 103]), (28, [6]), (29, [6])]),
  (128, [(0, [3, 4, 5, 6]), (1, [3, 4, 5, 6, 7]), (2, [6]), (3, [4, 5, 6, 12]), (4, [6]), (5, [6])]),
  (129, [(0, [1]), (1, [2])]),
  (130, [(0, [1, 2]), (1, [1, 2, 3]), (2, [2, 3, 17]), (3, [2, 3]), (4, [2, 3])]),
  (131, [(0, [1, 2]), (1, [1, 2, 7]), (2, [1, 2, 4]), (3, []), (4, [2])]),
  (132, [(0, [1]), (1, [1, 3]), (2, [1, 3, 11]), (3, [1, 3]), (4, [1, 3, 20]), (5, [2]), (6, [1, 4]), (7, [1, 4, 25]), (8, [1, 4]), (9, [1, 4, 5]), (10, [1, 4, 5, 52]), (11, [2]), (12, [1, 4, 5, 6]), (13, [1, 4, 5, 6, 57]), (14, [1, 4, 5, 6]), (15, [1, 4, 5, 6, 81]), (16, [2]), (17, [2])]),
  (133, [(0, [1]), (1, [1, 3]), (2, [1, 3, 8]), (3, [1, 3]), (4, [1, 3, 20]), (5, [2]), (6, [2])]),
  (134, [(0, [1, 2, 3, 4]), (1, [1, 2, 3, 4, 13]), (2, [1, 2, 3, 18]), (3, [2, 3]), (4, [8, 9]), (5, [1, 2, 3, 4, 28]), (6, [8, 9]), (7, [1, 2, 3, 4, 10]), (8, [1, 2, 3, 4, 10, 11]), (9, [1, 2, 3, 4, 10, 11, 40]), (10, [1, 2, 3, 4, 10, 11]), (11, [1, 2, 3, 4, 10, 11]), (12, [8, 9])]),
  (135, [(0, [0, 1]), (1, [0, 1, 5]), (2, [0, 1, 5, 9]), (3, [0, 1, 5]), (4, [0, 1, 5, 17]), (5, [4]), (6, [4])]),
  (136, [(0, [1, 2, 4]), (1, [1, 2, 4, 5]), (2, [1, 2, 4, 5, 9]), (3, [1, 2, 4, 5]), (4, [4])]),
  (137, [(0, [0, 1]), (1, [4])]),
  (138, [(0, [1]), (1, [2])]),
  (139, [(0, [2, 3, 4]), (1, [6])]),
  (140, [(0, [1, 2]), (1, [1, 2, 5]), (2, [1, 5, 26]), (3, [4]), (4, [1, 6, 7]), (5, [4])]),
  (141, [(0, [0, 1]), (1, [0, 1, 7, 8]), (2, [0, 1, 7, 8, 9]), (3, [0, 1, 5, 7, 8]), (4, [0, 1, 5, 7, 8, 16]), (5, [4]), (6, [0, 1, 7, 8]), (7, [4])]),
  (142, [(0, [1, 2, 4]), (1, [1, 2, 4, 5]), (2, [1, 2, 4, 5, 10]), (3, [4, 5]), (4, [1, 2, 4, 14]), (5, [4, 5]), (6, [1, 2, 4, 18]), (7, [4, 5]), (8, [1, 4, 24, 25, 26]), (9, [1, 4, 24, 25, 26, 27]), (10, [1, 4, 7, 24, 25, 26]), (11, [1, 4, 24, 25, 26]), (12, [1, 4, 24, 25, 26]), (13, [4, 5])]),
  (143, [(0, [0, 1, 2]), (1, [6])]),
  (144, [(0, [1, 2, 3]), (1, [1, 3, 7, 8, 9]), (2, [1, 3, 7, 25]), (3, [6]), (4, [1, 7, 10]), (5, [1, 7, 10, 11]), (6, [1, 7, 10, 11, 34]), (7, [1, 7, 10, 11]), (8, [1, 7, 10, 11, 61]), (9, [6]), (10, [6])]),
  (145, [(0, [1, 2]), (1, [1, 2, 5]), (2, [1, 2, 5, 6]), (3, [1, 2, 5, 6, 12]), (4, [1, 2, 5, 6]), (5, [1, 2, 5, 6]), (6, [4])]),
  (146, [(0, [0, 1]), (1, [0, 1, 5]), (2, [0, 1, 5, 6]), (3, [0, 1, 5, 6, 10]), (4, [0, 1, 5, 6]), (5, [0, 1, 5, 6]), (6, [4])]),
  (147, [(0, [2, 3, 4]), (1, [6])]),
  (148, [(0, [0]), (1, [0, 4]), (2, [2]), (3, [2])]),
  (149, [(0, [0, 2]), (1, [])]),
  (150, [(0, [0, 1]), (1, [0, 1, 10]), (2, [4]), (3, [0, 1, 12, 13]), (4, [0, 1, 12, 13, 14]), (5, [0, 1, 5, 12, 13]), (6, [0, 1, 12, 13, 24]), (7, [4]), (8, [0, 1, 12, 13]), (9, [4])]),
  (151, [(0, [0]), (1, [0, 3]), (2, [3, 7, 8]), (3, [3, 7, 8, 9]), (4, [3, 4, 7, 8]), (5, [3, 7, 8]), (6, [3, 7, 8]), (7, [2])]),
  (152, [(0, [0, 1, 3]), (1, [0, 1, 3, 8]), (2, [0, 1, 3]), (3, [0, 1, 3, 18])]),
  (153, [(0, [1, 2]), (1, [3])]),
  (154, [(0, [0]), (1, [2])]),
  (155, [(0, [0, 3]), (1, [4])]),
  (156, [(0, [0, 1]), (1, [3])]),
  (157, [(0, [0, 1]), (1, [0, 1, 7, 8]), (2, [0, 1, 7, 8, 9]), (3, [0, 1, 5, 7, 8]), (4, [0, 1, 5, 7, 8, 16]), (5, [4]), (6, [0, 1, 7, 8]), (7, [4])]),
  (158, [(0, [1]), (1, [1, 5]), (2, [2]), (3, [2])]),
  (159, [(0, [0, 1, 2]), (1, [4])]),
  (160, [(0, [0, 1]), (1, [0, 1, 10]), (2, [4]), (3, [0, 1, 12, 13]), (4, [0, 1, 12, 13, 14]), (5, [0, 1, 5, 12, 13]), (6, [0, 1, 12, 13, 24]), (7, [4]), (8, [0, 1, 12, 13]), (9, [4])]),
  (161, [(0, [0, 1, 2]), (1, [0, 1, 2]), (2, [0, 1, 2, 7]), (3, [0, 1, 2, 7, 16]), (4, [6]), (5, [0, 1, 2, 7, 8]), (6, [0, 1, 2, 7, 8, 22]), (7, [6]), (8, [0, 1, 2, 7, 8, 31]), (9, [0, 1, 2, 7, 9]), (10, [0, 1, 7, 9]), (11, [9]), (12, [6]), (13, [0, 1, 2, 7, 8]), (14, [0, 1, 2, 7, 8, 68]), (15, [0, 1, 2]), (16, [0]), (17, [6]), (18, [0, 1, 7]), (19, [0]), (20, [6])]),
  (162, [(0, [0, 1]), (1, [4])]),
  (163, [(0, [1, 2]), (1, [3])]),
  (164, [(0, [0, 1, 2, 4]), (1, [0, 1, 2, 4, 14]), (2, [0, 1, 2, 4, 5]), (3, [0, 1, 2, 4, 5, 31]), (4, [0, 1, 2, 4, 5]), (5, [0, 1, 2, 4, 5]), (6, [0, 1, 2, 4, 5, 43]), (7, [0, 1, 2, 4])]),
  (165, [(0, [0]), (1, [3]), (2, [3, 4]), (3, [2]), (4, [6]), (5, [2]), (6, [2])]),
  (166, [(0, [0, 2]), (1, [0, 2, 4]), (2, [0, 2, 4, 8]), (3, [2, 3]), (4, [2, 3])]),
  (167, [(0, [0, 2]), (1, [0, 2, 6]), (2, [2]), (3, [2])]),
  (168, [(0, [0]), (1, [3]), (2, [3, 4]), (3, [2]), (4, [3, 6]), (5, [2]), (6, [3, 8]), (7, [2]), (8, [3, 10]), (9, [2]), (10, [3, 13]), (11, [2]), (12, [3, 16]), (13, [2]), (14, [3, 19]), (15, [2]), (16, [22]), (17, [2]), (18, [2])]),
  (169, [(0, [0]), (1, [2])]),
  (170, [(0, [0, 2]), (1, [2])]),
  (171, [(0, [0, 2]), (1, [2, 3]), (2, [2]), (3, [2])]),
  (172, [(0, [0, 2]), (1, [0, 2, 8]), (2, [2]), (3, [2])]),
  (173, [(0, [0, 2]), (1, [2])]),
  (174, [(0, [0, 1]), (1, [0, 1, 7]), (2, [0, 1]), (3, [0, 1, 5]), (4, [0, 1, 5, 17]), (5, [0, 1, 5]), (6, [0, 1, 5, 24]), (7, [0, 1, 5]), (8, [4])]),
  (175, [(0, [0, 1, 3]), (1, [0, 1, 3, 8]), (2, [0, 1, 3]), (3, [0, 1, 3, 18])]),
  (176, [(0, [1, 2]), (1, [1, 2, 4]), (2, [1, 2, 4, 11]), (3, [2, 3]), (4, [1, 2]), (5, [1, 2, 21]), (6, [2, 3]), (7, [1, 2, 27]), (8, [1, 2, 27]), (9, [2, 27]), (10, [2, 3]), (11, [2, 3])]),
  (177, [(0, [2, 3]), (1, [2, 3, 5]), (2, [4])]),
  (178, [(0, [1, 2]), (1, [1, 2, 3]), (2, [1, 2, 3, 4]), (3, [1, 2, 3, 4, 5]), (4, [1, 2, 3, 5]), (5, [2, 3]), (6, [2])]),
  (179, [(0, [1, 2]), (1, [1, 2, 4]), (2, [1, 2, 4, 5]), (3, [1, 2, 4, 5]), (4, [1, 2, 4, 5, 17]), (5, [1, 2, 4, 5, 6]), (6, [1, 2, 4, 5, 6, 35]), (7, [1, 2, 4, 5, 6]), (8, [1, 2, 4, 5, 6]), (9, [1, 2, 4, 5, 6, 42]), (10, [1, 2, 4, 5])]),
  (180, [(0, [1, 2, 3]), (1, [1, 2, 3, 7]), (2, [1, 2, 3, 7, 12]), (3, [1, 2, 3, 7]), (4, [1, 2, 3, 7]), (5, [6])]),
  (181, []),
  (182, [(0, [1, 2, 3]), (1, [1, 2, 3, 8]), (2, [6]), (3, [6])]),
  (183, [(0, [1, 2]), (1, [1, 2, 5]), (2, [1, 2, 5, 14]), (3, [1, 2, 5]), (4, [1, 2, 5, 28]), (5, [4]), (6, [4])]),
  (184, [(0, [0, 1]), (1, [0, 1, 5]), (2, [0, 1, 5, 9]), (3, [0, 1, 5]), (4, [0, 1, 5, 17]), (5, [4]), (6, [4])]),
  (185, [(0, [0, 1]), (1, [0, 1, 7, 8]), (2, [0, 1, 7, 8, 9]), (3, [0, 1, 5, 7, 8]), (4, [0, 1, 5, 7, 8, 16]), (5, [4]), (6, [0, 1, 7, 8]), (7, [4])]),
  (186, [(0, [0, 1]), (1, [4])]),
  (187, [(0, [0, 1, 2]), (1, [4])]),
  (188, [(0, [2, 3]), (1, [2, 3, 6]), (2, [2, 3, 6, 7]), (3, [4]), (4, [2, 3, 6, 13]), (5, [4]), (6, [2, 3, 6, 19]), (7, [4]), (8, [3, 29]), (9, [4]), (10, [4])]),
  (189, [(0, [1, 2]), (1, [2])]),
  (190, [(0, [0]), (1, [0, 3]), (2, [2]), (3, [0, 6]), (4, [2]), (5, [9]), (6, [2]), (7, [2])]),
  (191, [(0, [1]), (1, [2])]),
  (192, [(0, [1, 2]), (1, [4])]),
  (193, [(0, [1, 2, 3, 6]), (1, [1, 2, 3, 6, 8]), (2, [6]), (3, [1, 2, 3, 6, 8, 25]), (4, [6]), (5, [1, 2, 3, 6, 8, 30]), (6, [6]), (7, [1, 2, 3, 6, 8, 36]), (8, [6]), (9, [2, 3, 6, 8, 44]), (10, [2, 3, 6, 8, 44]), (11, [6]), (12, [2, 3, 6, 58]), (13, [6]), (14, [6])]),
  (194, [(0, [0, 1]), (1, [0, 1, 7]), (2, [4, 5, 6]), (3, [0, 1, 10]), (4, [4, 5, 6]), (5, [0, 1, 13]), (6, [4, 5, 6]), (7, [0, 18]), (8, [4, 5, 6]), (9, [0, 21]), (10, [4, 5, 6]), (11, [0, 28]), (12, [4, 5, 6]), (13, [35]), (14, [4, 5, 6]), (15, [4, 5, 6])]),
  (195, [(0, [1, 2, 3, 6]), (1, [1, 2, 3, 6, 7]), (2, [6]), (3, [1, 2, 3, 6, 14]), (4, [6]), (5, [1, 2, 3, 6, 22]), (6, [6]), (7, [1, 3, 6, 32]), (8, [6]), (9, [1, 3, 6, 52]), (10, [6]), (11, [6])]),
  (196, [(0, [0, 1, 2]), (1, [4])]),
  (197, [(0, [0, 1, 2, 3, 8]), (1, [0, 1, 2, 3, 8, 9]), (2, [0, 1, 2, 3, 8, 9, 10]), (3, [0, 1, 2, 3, 8, 9, 10, 23]), (4, []), (5, [0, 1, 2, 3, 8, 9, 10, 29]), (6, []), (7, [0, 1, 2, 3, 8, 9, 10, 35]), (8, [0, 1, 2, 3, 8, 9, 10]), (9, [0, 1, 2, 3, 8, 9, 10]), (10, [0, 1, 2, 3, 8, 9, 10, 11, 12]), (11, [0, 1, 2, 3, 8, 9, 10, 11, 12, 50]), (12, [0, 1, 2, 3, 8, 9, 10, 11]), (13, [0, 1, 2, 3, 8, 9, 10, 11]), (14, [0, 1, 2, 3, 8, 9, 10, 11, 12]), (15, [0, 1, 2, 3, 8, 9, 10, 11, 68]), (16, [0, 1, 2, 3, 8, 9, 10, 11, 72]), (17, [0, 1, 2, 3, 8, 9, 10, 11, 87]), (18, [0, 2, 3, 8, 9, 13]), (19, [0, 1, 2, 3, 8, 9]), (20, [0, 1, 2, 3, 10, 14, 15]), (21, [0, 1, 2, 3, 9, 10, 14]), (22, [0, 1, 2, 3, 9, 10, 14, 16, 17]), (23, [0, 1, 2, 3, 9, 14, 16, 17, 18]), (24, [0, 1, 2, 3, 9, 14, 16, 17, 18, 113]), (25, [0, 1, 2, 3, 8, 9, 14]), (26, [0, 2, 3, 8, 9, 14]), (27, [0, 1, 2, 3, 8, 9]), (28, [0, 1, 2, 3, 8, 9, 14]), (29, [0, 1, 3, 8, 9, 14]), (30, [0, 1, 2, 3, 8, 9])]),
  (198, [(0, [0]), (1, [2]), (2, [2])]),
  (199, [(0, [0, 1]), (1, [3])]),
  (200, [(0, [2, 3, 4]), (1, [6])]),
  (202, [(0, [])]),
  (203, [(0, [0, 1]), (1, [0, 1, 7, 8]), (2, [0, 1, 7, 8, 9]), (3, [0, 1, 5, 7, 8]), (4, [0, 1, 5, 7, 8, 16]), (5, [4]), (6, [0, 1, 7, 8]), (7, [4])]),
  (204, [(0, [0, 2]), (1, [2])]),
  (205, [(0, [0, 2]), (1, [2])]),
  (206, [(0, [0, 2]), (1, [2, 3]), (2, [2]), (3, [2])]),
  (207, [(0, [1]), (1, [2])]),
  (208, [(0, [0, 2]), (1, [2])]),
  (209, [(0, [0, 1, 4]), (1, [4])]),
  (210, [(0, [0, 1, 4]), (1, [4])]),
  (211, [(0, [0, 1, 4]), (1, [4])]),
  (212, [(0, [1]), (1, [2])]),
  (213, [(0, [0]), (1, [4])]),
  (214, [(0, [1]), (1, [4])]),
  (215, [(0, [1]), (1, [2])]),
  (216, [(0, [0]), (1, [2])]),
  (217, [(0, [0]), (1, [2])]),
  (218, [(0, [0]), (1, [2])]),
  (219, [(0, [1]), (1, [2])]),
  (220, [(0, [2, 3]), (1, [2, 3, 5]), (2, [2, 3, 5, 34]), (3, [4]), (4, [4])]),
  (221, [(0, [1, 2, 3, 4]), (1, [1, 2, 3, 4, 10]), (2, [8]), (3, [8])]),
  (222, [(0, [2, 3]), (1, [4])]),
  (223, [(0, [0, 1, 2]), (1, [0, 1, 2, 14]), (2, [6]), (3, [1, 2, 15, 16, 17]), (4, [1, 2, 15, 16, 17, 18]), (5, [1, 2, 7, 8, 15, 16, 17]), (6, [1, 2, 8, 9, 15, 16, 17]), (7, [1, 2, 15, 16, 17, 30]), (8, [6]), (9, [1, 2, 15, 16, 17]), (10, [6])]),
  (224, [(0, [0, 1, 2, 3, 4]), (1, [0, 1, 2, 3, 4, 14]), (2, [6]), (3, [0, 1, 2, 3, 4, 7, 8]), (4, [0, 1, 2, 3, 4, 7, 30]), (5, [6]), (6, [0, 1, 3, 4, 9]), (7, [0, 1, 3, 4, 9, 10]), (8, [0, 1, 3, 4, 9, 10, 43, 44, 45]), (9, [0, 1, 3, 4, 9, 10, 43, 44, 45, 46]), (10, [0, 1, 3, 4, 9, 10, 11, 12, 43, 44, 45]), (11, [0, 1, 3, 4, 9, 10, 43, 44, 45]), (12, [0, 1, 3, 4, 9, 10, 43, 44, 45]), (13, [0, 3]), (14, [6])]),
  (225, [(0, [0, 1]), (1, [0, 1, 7, 8]), (2, [0, 1, 7, 8, 9]), (3, [0, 1, 5, 7, 8]), (4, [0, 1, 5, 7, 8, 16]), (5, [4]), (6, [0, 1, 7, 8]), (7, [4])]),
  (226, [(0, [0, 1, 2]), (1, [0, 1, 2, 14]), (2, [6]), (3, [1, 2, 15, 16, 17]), (4, [1, 2, 15, 16, 17, 18]), (5, [1, 2, 7, 8, 15, 16, 17]), (6, [1, 2, 8, 9, 15, 16, 17]), (7, [1, 2, 15, 16, 17, 30]), (8, [6]), (9, [1, 2, 15, 16, 17]), (10, [6])]),
  (227, [(0, [1, 2]), (1, [4])]),
  (228, [(0, [0, 1, 2, 6]), (1, [0, 1, 2, 6, 12]), (2, [0, 1, 2, 6]), (3, [0, 1, 2, 6, 7]), (4, [0, 1, 2, 6, 7, 30]), (5, [0, 1, 2, 6, 7]), (6, [0, 1, 2, 6, 7])]),
  (229, [(0, [0, 1, 2, 6]), (1, [0, 1, 2, 6, 7]), (2, [0, 6, 7, 8]), (3, [0, 6, 7, 8, 9]), (4, [0, 6, 7, 8, 9, 19]), (5, [0, 6, 7, 8, 9]), (6, [0, 6, 7, 8, 9]), (7, [0, 6, 7, 10]), (8, [0, 6, 7, 10, 30]), (9, [0, 6, 7, 10]), (10, [0, 6, 7, 10]), (11, [0, 6, 7, 10])]),
  (230, [(0, [0, 1, 6]), (1, [0, 1, 6, 15]), (2, [0, 1, 6, 7]), (3, [0, 1, 6, 7, 8]), (4, [0, 1, 6, 7, 8, 9]), (5, [0, 1, 6, 7, 8, 9, 33]), (6, [0, 1, 6, 7, 8, 9]), (7, [0, 1, 6, 7, 8, 9, 10]), (8, [0, 1, 6, 7, 8, 9, 10, 43]), (9, [0, 1, 6, 7, 8, 9, 10]), (10, [0, 1, 6, 7, 8, 9])]),
  (231, [(0, [0, 1, 2]), (1, [0, 1, 8]), (2, [0, 1, 8, 9]), (3, [0, 1, 8, 9, 10]), (4, [0, 1, 8, 9, 10, 11]), (5, [0, 8, 9, 10, 11, 12]), (6, [0, 8, 9, 10, 11, 12, 32]), (7, [0, 9, 10, 11, 12, 34]), (8, [0, 9, 10, 11, 12]), (9, [0, 9, 10, 11, 12]), (10, [0, 9, 10, 11, 12]), (11, [9, 11]), (12, [11, 49]), (13, [6, 7]), (14, [11, 49, 51]), (15, [6, 7]), (16, [11, 54]), (17, [6, 7])]),
  (232, [(0, [0, 2, 6]), (1, [0, 6, 7]), (2, [0, 6, 7, 13]), (3, [0, 6, 7]), (4, [0, 6, 7]), (5, [0, 6, 7])]),
  (233, [(0, [0, 1, 2]), (1, [0, 1, 2, 7]), (2, [0, 1, 2, 7, 8]), (3, [0, 1, 2, 7, 8, 14]), (4, [0, 1, 2, 7, 8]), (5, [0, 1, 2, 7, 8, 32]), (6, [0, 1, 2, 7, 8]), (7, [0, 1, 2, 7, 8, 37]), (8, [6]), (9, [0, 1, 2, 7, 8, 41]), (10, [6]), (11, [0, 1, 2, 7, 8]), (12, [0, 1, 2, 7, 8, 61]), (13, [0, 1, 2, 7, 8, 9]), (14, [0, 1, 2, 7, 8, 9, 65]), (15, [0, 1, 2, 7, 8, 9]), (16, [0, 1, 2, 7, 8, 9, 78]), (17, [0, 1, 2, 7, 8, 9]), (18, [0, 1, 2, 7, 8, 98]), (19, [0, 1, 2, 7, 8, 10]), (20, [0, 1, 2, 7, 8, 10, 103]), (21, [0, 1, 2, 7, 8, 10]), (22, [0, 1, 2, 7, 8, 10, 116]), (23, [0, 1, 2, 7, 8, 10]), (24, [6])]),
  (234, [(0, [0, 1]), (1, [4])]),
  (235, [(0, [0, 1, 2, 3]), (1, [0, 1, 2]), (2, [0, 1, 9, 10]), (3, [0, 1, 9, 10, 43]), (4, [0, 1, 9, 10]), (5, [0, 1, 9, 10, 59]), (6, [0, 1, 9, 10]), (7, [0, 1, 9, 10, 64]), (8, [0, 1, 9, 10]), (9, [0, 1, 9, 10]), (10, [0, 1, 9, 10]), (11, [8])]),
  (236, [(0, [0, 1, 2, 3]), (1, [0, 1, 2]), (2, [0, 1, 10, 11]), (3, [0, 1, 10, 11, 43]), (4, [0, 1, 10, 11]), (5, [0, 1, 10, 11, 60]), (6, [0, 1, 10, 11]), (7, [0, 1, 10, 11, 65]), (8, [11]), (9, [8, 9]), (10, [0, 1, 10, 11]), (11, [0, 1, 10, 11]), (12, [0, 1, 10, 11]), (13, [0, 1, 10, 11, 112]), (14, [0, 1, 10, 11]), (15, [0, 1, 10, 11, 129]), (16, [0, 1, 10, 11]), (17, [0, 1, 10, 11, 134]), (18, [0, 1, 10, 11]), (19, [0, 1, 10, 11]), (20, [0, 1, 10, 11]), (21, [11]), (22, [8, 9])]),
  (237, [(0, [0, 2]), (1, [0, 2, 4]), (2, [0]), (3, [0, 2]), (4, [0, 2, 8]), (5, [0, 2]), (6, [0, 2]), (7, [2])]),
  (238, [(0, [0, 2]), (1, [0, 2, 4]), (2, [0]), (3, [0, 2]), (4, [0, 2, 8]), (5, [0, 2]), (6, [0, 2]), (7, [0, 2, 14]), (8, [0, 2]), (9, [0, 2]), (10, [2])]),
  (239, [(0, [0, 1, 2]), (1, [4])]),
  (240, [(0, [0, 1]), (1, [0]), (2, [])]),
  (241, [(0, [0, 1, 2, 5]), (1, [0, 1, 2, 5, 7]), (2, [5]), (3, [5])]),
  (242, [(0, [0, 1]), (1, [1, 4, 5]), (2, [1, 4, 5, 20]), (3, [4, 5]), (4, [4, 5])]),
  (243, [(0, [0, 1, 2, 5]), (1, [5])]),
  (244, [(0, [0, 1]), (1, [0, 1, 5]), (2, [0, 1, 5, 6]), (3, [0, 1, 6, 11]), (4, [12]), (5, [4]), (6, [4]), (7, [0, 1, 13]), (8, [4]), (9, [0, 1, 16]), (10, [4]), (11, [19]), (12, [4]), (13, [4])]),
  (245, [(0, [0, 1, 2, 3]), (1, [5])]),
  (246, [(0, [1, 2]), (1, [4])]),
  (247, [(0, [0, 2, 3, 8]), (1, [0, 2, 3, 8, 9]), (2, [0, 2, 3, 8, 9, 16]), (3, [0, 2, 3, 8, 9, 36]), (4, [0, 2, 3, 8, 9]), (5, [0, 2, 3, 8, 9, 52]), (6, [0, 2, 3, 9]), (7, [0, 2, 3, 8])]),
  (248, [(0, [0]), (1, [2])]),
  (249, [(0, [0]), (1, [0]), (2, [0]), (3, [0]), (4, [2])]),
  (250, [(0, [0, 1, 2]), (1, [6])]),
  (251, [(0, [0, 1, 2, 3, 4]), (1, [0, 1, 2, 3, 4]), (2, [0, 1, 2, 4]), (3, [2]), (4, [10])]),
  (252, [(0, [0]), (1, [2])]),
  (253, [(0, [0, 2, 3]), (1, [0, 2, 3, 9]), (2, [0, 2, 3]), (3, [0, 2, 3])]),
  (254, [(0, [0, 1]), (1, [0, 1, 7, 8]), (2, [0, 1, 7, 8, 9]), (3, [0, 1, 5, 7, 8]), (4, [0, 1, 5, 7, 8, 16]), (5, [4]), (6, [0, 1, 7, 8]), (7, [4])]),
  (255, [(0, [0, 1, 2, 3]), (1, [1, 2, 3, 18]), (2, [1, 2]), (3, [8, 9]), (4, [8, 9])])],
 head := [(43, [(8, [6, 8, 33, 34, 35])]),
  (5, [(4, [0, 1, 2, 7]), (13, [0, 1, 2, 8, 9, 10, 11])]),
  (8, [(4, [2, 3, 5])]),
  (9, [(11, [1, 3, 6, 7])]),
  (10, [(8, [1, 3, 5, 6, 7]), (15, [1, 3, 5, 6, 7, 8, 9, 10]), (21, [1, 3, 5, 6, 7, 8, 9, 11, 12])]),
  (11, [(10, [7, 13])]),
  (13, [(13, [2, 3, 5, 7, 13, 14])]),
  (14, [(14, [2, 3, 7, 11, 12, 16, 17]), (22, [3, 7, 15, 18, 19])]),
  (22, [(2, [0, 3])]),
  (24, [(4, [2, 3, 5])]),
  (25, [(7, [0, 1, 4, 5, 6, 7]), (12, [0, 1, 4, 5, 6, 7, 8, 9]), (16, [0, 1, 4, 5, 6, 7, 9, 10, 11])]),
  (28, [(3, [1, 2, 3, 4])]),
  (29, [(7, [0, 3, 6]), (13, [0, 3, 7, 8])]),
  (30, [(3, [0, 3, 5, 6])]),
  (31, [(4, [1, 3])]),
  (32, [(13, [1, 6, 10, 12, 13, 52, 53]), (17, [1, 6, 10, 12, 13, 14, 15, 52, 53, 56, 57, 58])]),
  (33, [(3, [0, 3, 4])]),
  (35, [(3, [0, 1, 2, 6, 7, 8]), (7, [0, 1, 2, 6, 7, 8, 9, 10])]),
  (36, [(8, [2, 3, 8, 10, 12, 53, 54])]),
  (37, [(3, [0, 2, 3, 5, 8, 9, 10])]),
  (39, [(6, [4, 8, 26, 27, 28])]),
  (40, [(3, [0, 2, 3, 4])]),
  (42, [(3, [0, 3, 5, 6])]),
  (44, [(3, [1, 2, 3, 4])]),
  (46, [(2, [2, 3, 6])]),
  (47, [(4, [0, 1, 5])]),
  (49, [(8, [1, 5, 30, 31, 32]), (17, [1, 5, 9, 56, 57]), (21, [1, 5, 9, 11, 56, 57, 64, 65, 66]), (29, [1, 5, 9, 56, 57, 89, 90, 91]), (36, [5, 18, 108, 109, 110])]),
  (52, [(4, [1, 3, 4, 5]), (8, [1, 3, 4, 5, 6, 7])]),
  (53, [(3, [1, 3, 4])]),
  (55, [(4, [0, 3, 5])]),
  (66, [(4, [0, 1, 5])]),
  (67, [(4, [0, 1, 5])]),
  (69, [(3, [0, 1, 5, 6])]),
  (71, [(3, [0, 1, 5, 6])]),
  (72, [(3, [0, 3, 6, 7])]),
  (73, [(3, [3, 6, 7, 8])]),
  (77, [(4, [0, 1, 5])]),
  (78, [(3, [0, 3, 4])]),
  (79, [(3, [0, 5, 6])]),
  (80, [(7, [4, 5, 6, 7, 9, 25, 26, 27]), (16, [4, 5, 6, 7, 9, 12, 13, 25, 26, 27, 49, 50, 51])]),
  (81, [(3, [1, 2, 6, 7, 8])]),
  (86, [(2, [1, 4, 7, 8, 9])]),
  (87, [(2, [3, 4, 8, 9, 10])]),
  (91, [(2, [1, 3]), (5, [1, 3, 4]), (10, [1, 5]), (15, [1, 5, 6])]),
  (93, [(10, [1, 32, 33])]),
  (96, [(5, [4, 6, 19, 20, 21])]),
  (97, [(4, [1, 3]), (10, [1, 5]), (15, [1, 6])]),
  (98, [(2, [1, 3])]),
  (99, [(3, [2, 5, 6, 7])]),
  (100, [(3, [1, 2, 5, 6])]),
  (102, [(4, [0, 12, 13, 14])]),
  (103, [(4, [4, 8, 10, 11]), (12, [1, 2, 3, 4, 8, 12, 13]), (22, [4, 8, 12, 16])]),
  (104, [(7, [0, 1, 5, 17, 18, 19])]),
  (109, [(6, [0, 1, 3, 6, 7, 11, 12, 34, 35])]),
  (115, [(7, [0, 5, 7, 8]), (10, [0, 5, 7, 8, 9]), (13, [0, 5, 7, 8, 9, 58, 59, 60])]),
  (116, [(4, [0, 1, 5]), (9, [0, 1, 5, 6])]),
  (117, [(4, [3, 26, 27, 28])]),
  (120, [(5, [0, 3, 4])]),
  (121, [(5, [0, 3, 4])]),
  (122, [(2, [1, 2, 5])]),
  (132, [(2, [1, 3]), (7, [1, 4]), (13, [1, 4, 5, 6])]),
  (133, [(2, [1, 3])]),
  (134, [(9, [1, 2, 3, 4, 10, 11])]),
  (135, [(2, [0, 1, 5])]),
  (136, [(2, [1, 2, 4, 5])]),
  (141, [(2, [0, 1, 7, 8])]),
  (142, [(9, [1, 4, 24, 25, 26])]),
  (144, [(6, [1, 7, 10, 11])]),
  (145, [(3, [1, 2, 5, 6])]),
  (146, [(3, [0, 1, 5, 6])]),
  (150, [(4, [0, 1, 12, 13])]),
  (151, [(3, [3, 7, 8])]),
  (152, [(1, [0, 1, 3])]),
  (157, [(2, [0, 1, 7, 8])]),
  (160, [(4, [0, 1, 12, 13])]),
  (164, [(1, [0, 1, 2, 4]), (3, [0, 1, 2, 4, 5])]),
  (174, [(4, [0, 1, 5]), (6, [0, 1, 5])]),
  (175, [(1, [0, 1, 3])]),
  (179, [(4, [1, 2, 4, 5]), (6, [1, 2, 4, 5, 6])]),
  (180, [(2, [1, 2, 3, 7])]),
  (183, [(2, [1, 2, 5])]),
  (184, [(2, [0, 1, 5])]),
  (185, [(2, [0, 1, 7, 8])]),
  (197, [(2, [0, 1, 2, 3, 8, 9])]),
  (203, [(2, [0, 1, 7, 8])]),
  (223, [(4, [1, 2, 15, 16, 17])]),
  (224, [(9, [0, 1, 3, 4, 9, 10, 43, 44, 45])]),
  (225, [(2, [0, 1, 7, 8])]),
  (226, [(4, [1, 2, 15, 16, 17])]),
  (228, [(1, [0, 1, 2, 6]), (4, [0, 1, 2, 6, 7])]),
  (229, [(4, [0, 6, 7, 8, 9]), (8, [0, 6, 7, 10])]),
  (230, [(5, [0, 1, 6, 7, 8, 9])]),
  (232, [(2, [0, 6, 7])]),
  (233, [(3, [0, 1, 2, 7, 8]), (5, [0, 1, 2, 7, 8]), (14, [0, 1, 2, 7, 8, 9]), (20, [0, 1, 2, 7, 8, 10])]),
  (235, [(3, [0, 1, 9, 10]), (5, [0, 1, 9, 10])]),
  (236, [(3, [0, 1, 10, 11]), (5, [0, 1, 10, 11]), (13, [0, 1, 10, 11]), (15, [0, 1, 10, 11])]),
  (247, [(1, [0, 2, 3, 8])]),
  (253, [(1, [0, 2, 3])]),
  (254, [(2, [0, 1, 7, 8])])],
 site := [(70, [3, 4, 5, 6, 9, 10, 11, 14]), (74, [3]), (80, [11, 12, 13, 15]), (85, [3, 5]), (105, [14]), (106, [1]), (107, [3]), (111, [5, 7]), (115, [3, 6]), (118, [3]), (119, [2, 3]), (129, [1]), (131, [1, 2]), (139, [3, 4]), (140, [6]), (147, [3, 4]), (155, [3]), (178, [1, 3, 4, 5]), (200, [3, 4]), (212, [1]), (215, [1]), (220, [2, 3, 5]), (230, [7]), (231, [9])],
 exts := [149, 161],
 ext := ext0 }
def T1 : Tw.Tab := { T0 with exts := [16, 149, 161], ext := ext1 }
def T : Tw.Tab := { T0 with exts := [16, 149, 161], ext := extT }
end Go.Proofs.YtmefgijobonklaaGreat
namespace Tw
open Go Go.ChangeShapes
section
variable {H : Type} {encH : TypeId × Value → H} {P : Program} {w : World}
def Rd (encH : TypeId × Value → H) (P : Program) (w : World) (t : TypeId) (d : DataW H) : Prop := ∃ cs, Reads encH P w t cs d
theorem rd_int {t : TypeId} {k : IntKind} {d : DataW H} (ht : P.underlying t = some (.int k)) (hd : Rd encH P w t d) : ∃ n, d = .lit (.int k n) ∧ (Lit.int k n).wf = true := by
 obtain ⟨cs, fuel, ps, hd⟩ := hd
 cases fuel with
 | zero => simp [DataW.trod] at hd
 | succ n =>
  unfold DataW.trod at hd
  rw [ht] at hd
  split at hd <;> simp_all
  obtain ⟨⟨_, h1⟩, rfl, _⟩ := hd
  exact ⟨_, rfl, h1⟩
theorem rd_struct {t : TypeId} {fs : Array Field} {d : DataW H} (ht : P.underlying t = some (.struct fs)) (hd : Rd encH P w t d) :
  ∃ ds, d = .agg ds ∧ ds.length = fs.size ∧ ∀ (i : Nat) f d', fs[i]? = some f → ds[i]? = some d' → Rd encH P w f.type d' := by
 obtain ⟨cs, fuel, ps, hd⟩ := hd
 obtain ⟨zs, n, _, hx, hcl, hzl, hat⟩ := DataW.trod_struct ht hd
 simp only [Prod.mk.injEq] at hx
 refine ⟨zs.map (·.1), hx.1, by simpa using hzl, fun i f d' e1 e2 => ?_⟩
 simp only [List.getElem?_map, Option.map_eq_some_iff] at e2
 obtain ⟨z, hz, rfl⟩ := e2
 exact ⟨_, n, z.2, by rw [hat i f e1, hz]⟩
theorem rd_slice {t e : TypeId} {d : DataW H} (ht : P.underlying t = some (.slice e)) (hd : Rd encH P w t d) :
  d = .nil ∨ ∃ xs ys, d = .slice xs ys ∧ ∀ y ∈ xs ++ ys, Rd encH P w e y := by
 obtain ⟨cs, fuel, ps, hd⟩ := hd
 rcases Deep.open_slice ht hd with ⟨rfl, hx⟩ | ⟨a, len, cap, m, n, Dt, Pl, rfl, _, hlc, _, hm, hx, hat⟩
 ·left; cases hx; rfl
 ·right
  simp only [if_true] at hm
  subst hm
  simp only [Prod.mk.injEq] at hx
  refine ⟨_, _, hx.1, fun y hy => ?_⟩
  have : ∃ i, i < m ∧ y = Dt i := by
   rcases List.mem_append.mp hy with hy | hy
   ·obtain ⟨i, hi, rfl⟩ := List.mem_map.mp hy
    exact ⟨i, by have := List.mem_range.mp hi; omega, rfl⟩
   ·obtain ⟨i, hi, rfl⟩ := List.mem_map.mp hy
    exact ⟨len + i, by have := List.mem_range.mp hi; omega, rfl⟩
  obtain ⟨i, hi, rfl⟩ := this
  obtain ⟨cs', _, e2⟩ := hat i hi
  exact ⟨cs', n, _, e2⟩
theorem encT_struct {t : TypeId} {fs : Array Field} {g : Nat} {ds : List (DataW H)} {h : List HB} (ht : P.underlying t = some (.struct fs)) :
  encT P (g + 1) t (.agg ds) h = match encF P (encT P g) 0 fs.toList ds h with
   | some (cs, h1) => if cs.length = P.cellsOf t then some (cs, h1) else none
   | none => none := by
 simp only [encT, ht] <;> rfl
end
end Tw
namespace Go.Proofs.YtmefgijobonklaaGreat
open Go Tw Pv
structure Rw where
 fr : List Int
 to : List Int
 cell : V
 deriving DecidableEq
structure Br where
 var : Int
 kids : List Int
 deriving DecidableEq
structure Dg where
 sizes : List Int
 order : List Int
 ends : List V
 nodes : List Br
 root : Int
 deriving DecidableEq
structure Ld where
 s : List Int
 cells : List V
 deriving DecidableEq
abbrev Rw0 : Rw := ⟨[], [], V0⟩
abbrev Br0 : Br := ⟨0, []⟩
abbrev Ld0 : Ld := ⟨[], []⟩
inductive Kd where
 | i64 | u8 | u16 | b | o | k | v | rw | br | tb | vs | ld | no
def Kd.T : Kd → Type
 | .i64 | .u8 | .u16 => Int
 | .b => B
 | .o => O
 | .k => K
 | .v => V
 | .rw => Rw
 | .br => Br
 | .tb => List Rw
 | .vs => List V
 | .ld => Ld
 | .no => Unit
def kd (t : Nat) : Kd := match t with
 | 3 => .i64
 | 5 => .u8
 | 62 => .b
 | 106 => .o
 | 149 => .k
 | 113 => .u16
 | 58 => .v
 | 95 => .rw
 | 73 => .br
 | 28 => .tb
 | 23 => .vs
 | 124 => .ld
 | _ => .no
def gam (t : Nat) : Type := (kd t).T
def Kd.z : (k : Kd) → k.T
 | .i64 | .u8 | .u16 => (0 : Int)
 | .b => B0
 | .o => O0
 | .k => K0
 | .v => V0
 | .rw => Rw0
 | .br => Br0
 | .tb => ([] : List Rw)
 | .vs => ([] : List V)
 | .ld => Ld0
 | .no => ()
abbrev lI (l : List Int) : PV gam := .lst 3 l false
abbrev lV (l : List V) : PV gam := .lst 58 l false
abbrev lRw (l : List Rw) : PV gam := .lst 95 l false
abbrev lBr (l : List Br) : PV gam := .lst 73 l false
def B.ps (b : B) : List (PV gam) := [.int .i64 b.lo, .int .i64 b.hi, .int .u8 b.f]
def O.ps (o : O) : List (PV gam) := [.int .u8 o.code, .int .i64 o.a, .int .i64 o.b, .int .i64 o.c, .int .i64 o.n]
def K.ps (c : K) : List (PV gam) := [.str c.name, .int .i64 c.lo, .int .i64 c.hi]
def V.ps (v : V) : List (PV gam) := [.int .u8 v.f, .int .i64 v.n]
def Rw.ps (r : Rw) : List (PV gam) := [lI r.fr, lI r.to, .int .u8 r.cell.f, .int .i64 r.cell.n]
def Br.ps (b : Br) : List (PV gam) := [.int .i64 b.var, lI b.kids]
def Ld.ps (x : Ld) : List (PV gam) := [lI x.s, lV x.cells]
def Dg.ps (d : Dg) : List (PV gam) := [lI d.sizes, lI d.order, lV d.ends, lBr d.nodes, .int .i64 d.root]
def B.un (l : List (PV gam)) : Option B := match l with
 | [.int .i64 a, .int .i64 b, .int .u8 c] => some ⟨a, b, c⟩
 | _ => none
def O.un (l : List (PV gam)) : Option O := match l with
 | [.int .u8 c, .int .i64 x, .int .i64 y, .int .i64 z, .int .i64 n] => some ⟨c, x, y, z, n⟩
 | _ => none
def K.un (l : List (PV gam)) : Option K := match l with
 | [.str c, .int .i64 x, .int .i64 y] => some ⟨c, x, y⟩
 | _ => none
def V.un (l : List (PV gam)) : Option V := match l with
 | [.int .u8 c, .int .i64 x] => some ⟨c, x⟩
 | _ => none
def I.un (k : IntKind) (l : List (PV gam)) : Option Int := match l with
 | [.int k' x] => if k' = k then some x else none
 | _ => none
def L.un (t : Nat) (v : PV gam) : Option (List (gam t)) := match v with
 | .lst t' l _ => castL t t' l
 | .nil .slc => some []
 | _ => none
def Rw.un (l : List (PV gam)) : Option Rw := match l with
 | [a, b, .int .u8 c, .int .i64 x] => match L.un 3 a, L.un 3 b with
  | some a, some b => some ⟨a, b, ⟨c, x⟩⟩
  | _, _ => none
 | _ => none
def Br.un (l : List (PV gam)) : Option Br := match l with
 | [.int .i64 x, a] => match L.un 3 a with
  | some a => some ⟨x, a⟩
  | none => none
 | _ => none
def Tb.un (l : List (PV gam)) : Option (List Rw) := match l with
 | [a] => L.un 95 a
 | _ => none
def Vs.un (l : List (PV gam)) : Option (List V) := match l with
 | [a] => L.un 58 a
 | _ => none
def Ld.un (l : List (PV gam)) : Option Ld := match l with
 | [a, b] => match L.un 3 a, L.un 58 b with
  | some a, some b => some ⟨a, b⟩
  | _, _ => none
 | _ => none
def Kd.enc : (k : Kd) → k.T → List (PV gam)
 | .i64 => fun n => [.int .i64 n]
 | .u8 => fun n => [.int .u8 n]
 | .u16 => fun n => [.int .u16 n]
 | .b => B.ps
 | .o => O.ps
 | .k => K.ps
 | .v => V.ps
 | .rw => Rw.ps
 | .br => Br.ps
 | .tb => fun l => [lRw l]
 | .vs => fun l => [lV l]
 | .ld => Ld.ps
 | .no => fun _ => []
def Kd.dec : (k : Kd) → List (PV gam) → Option k.T
 | .i64 => I.un .i64
 | .u8 => I.un .u8
 | .u16 => I.un .u16
 | .b => B.un
 | .o => O.un
 | .k => K.un
 | .v => V.un
 | .rw => Rw.un
 | .br => Br.un
 | .tb => Tb.un
 | .vs => Vs.un
 | .ld => Ld.un
 | .no => fun _ => none
noncomputable def X0 : Cod := ⟨gam, fun t => (kd t).z, fun t => (kd t).enc, fun t => (kd t).dec⟩
theorem B.un_ps {l : List (PV gam)} {b : B} (h : B.un l = some b) : B.ps b = l := by
 unfold B.un at h; split at h
 ·cases h; rfl
 ·cases h
theorem O.un_ps {l : List (PV gam)} {b : O} (h : O.un l = some b) : O.ps b = l := by
 unfold O.un at h; split at h
 ·cases h; rfl
 ·cases h
theorem K.un_ps {l : List (PV gam)} {b : K} (h : K.un l = some b) : K.ps b = l := by
 unfold K.un at h; split at h
 ·cases h; rfl
 ·cases h
theorem V.un_ps {l : List (PV gam)} {b : V} (h : V.un l = some b) : V.ps b = l := by
 unfold V.un at h; split at h
 ·cases h; rfl
 ·cases h
theorem I.un_ps {k : IntKind} {l : List (PV gam)} {b : Int} (h : I.un k l = some b) : [PV.int k b] = l := by
 unfold I.un at h; split at h
 ·split at h
  ·rename_i e; cases h; rw [e]
  ·cases h
 ·cases h
section
variable {A : Nat → Prop} {m : List MB} {h : List HB}
theorem L.un_ok {t : Nat} {v : PV gam} {l : List (gam t)} (hu : L.un t v = some l) {x : TV} (hv : VR X0 Tryz.prog A m h v x) : VR X0 Tryz.prog A m h (.lst t l false) x := (lstA (X := X0) (P := Tryz.prog) t).ok (a := l) (v := v) (by
 cases v with
 | nil k => cases k <;> first | exact hu | cases hu
 | lst t' l' f => exact hu
 | _ => cases hu) hv
theorem Rw.un_ok {l : List (PV gam)} {r : Rw} (hu : Rw.un l = some r) {xs : List TV} (hv : VRs X0 Tryz.prog A m h l xs) : VRs X0 Tryz.prog A m h r.ps xs := by
 unfold Rw.un at hu; split at hu
 ·split at hu
  ·rename_i e1 e2
   cases hu
   obtain ⟨x1, r1, rfl, h1, hv⟩ := hv.inv
   obtain ⟨x2, r2, rfl, h2, hv⟩ := hv.inv
   exact .cons (L.un_ok e1 h1) (.cons (L.un_ok e2 h2) hv)
  ·cases hu
 ·cases hu
theorem Br.un_ok {l : List (PV gam)} {r : Br} (hu : Br.un l = some r) {xs : List TV} (hv : VRs X0 Tryz.prog A m h l xs) : VRs X0 Tryz.prog A m h r.ps xs := by
 unfold Br.un at hu; split at hu
 ·split at hu
  ·rename_i e1
   cases hu
   obtain ⟨x1, r1, rfl, h1, hv⟩ := hv.inv
   obtain ⟨x2, r2, rfl, h2, hv⟩ := hv.inv
   exact .cons h1 (.cons (L.un_ok e1 h2) hv)
  ·cases hu
 ·cases hu
theorem Ld.un_ok {l : List (PV gam)} {r : Ld} (hu : Ld.un l = some r) {xs : List TV} (hv : VRs X0 Tryz.prog A m h l xs) : VRs X0 Tryz.prog A m h r.ps xs := by
 unfold Ld.un at hu; split at hu
 ·split at hu
  ·rename_i e1 e2
   cases hu
   obtain ⟨x1, r1, rfl, h1, hv⟩ := hv.inv
   obtain ⟨x2, r2, rfl, h2, hv⟩ := hv.inv
   exact .cons (L.un_ok e1 h1) (.cons (L.un_ok e2 h2) hv)
  ·cases hu
 ·cases hu
theorem Tb.un_ok {l : List (PV gam)} {r : List Rw} (hu : Tb.un l = some r) {xs : List TV} (hv : VRs X0 Tryz.prog A m h l xs) : VRs X0 Tryz.prog A m h [lRw r] xs := by
 rcases l with _ | ⟨a, _ | ⟨b, l⟩⟩
 ·cases hu
 ·obtain ⟨x1, r1, rfl, h1, hv⟩ := hv.inv
  exact .cons (L.un_ok hu h1) hv
 ·cases hu
theorem Vs.un_ok {l : List (PV gam)} {r : List V} (hu : Vs.un l = some r) {xs : List TV} (hv : VRs X0 Tryz.prog A m h l xs) : VRs X0 Tryz.prog A m h [lV r] xs := by
 rcases l with _ | ⟨a, _ | ⟨b, l⟩⟩
 ·cases hu
 ·obtain ⟨x1, r1, rfl, h1, hv⟩ := hv.inv
  exact .cons (L.un_ok hu h1) hv
 ·cases hu
theorem dec0_ok : ∀ (k : Kd) {l : List (PV gam)} {a : k.T}, k.dec l = some a → ∀ {xs : List TV}, VRs X0 Tryz.prog A m h l xs → VRs X0 Tryz.prog A m h (k.enc a) xs
 | .i64, _, _, e, _, hv => by rw [show Kd.enc .i64 _ = _ from I.un_ps e]; exact hv
 | .u8, _, _, e, _, hv => by rw [show Kd.enc .u8 _ = _ from I.un_ps e]; exact hv
 | .u16, _, _, e, _, hv => by rw [show Kd.enc .u16 _ = _ from I.un_ps e]; exact hv
 | .b, _, _, e, _, hv => by rw [show Kd.enc .b _ = _ from B.un_ps e]; exact hv
 | .o, _, _, e, _, hv => by rw [show Kd.enc .o _ = _ from O.un_ps e]; exact hv
 | .k, _, _, e, _, hv => by rw [show Kd.enc .k _ = _ from K.un_ps e]; exact hv
 | .v, _, _, e, _, hv => by rw [show Kd.enc .v _ = _ from V.un_ps e]; exact hv
 | .rw, _, _, e, _, hv => Rw.un_ok e hv
 | .br, _, _, e, _, hv => Br.un_ok e hv
 | .tb, _, _, e, _, hv => Tb.un_ok e hv
 | .vs, _, _, e, _, hv => Vs.un_ok e hv
 | .ld, _, _, e, _, hv => Ld.un_ok e hv
 | .no, _, _, e, _, _ => by cases e
end
theorem enc0_clos : ∀ (k : Kd) (a : k.T), clos.closs (k.enc a) = true := by
 intro k a
 cases k <;> rfl
theorem hX : CodOk X0 Tryz.prog := ⟨fun {t} vs a e {A m hh xs} hv => dec0_ok (kd t) e hv, fun t a => enc0_clos (kd t) a⟩
abbrev Arg (α : Type) := Ar X0 Tryz.prog α
abbrev Args (α : Type) := ArL X0 Tryz.prog α
noncomputable def iA : Arg Int := intA .i64
noncomputable def uA : Arg Int := intA .u8
noncomputable def hA : Arg Int := intA .u16
noncomputable def tA : Arg Bool := boolA
noncomputable def vA : Arg V := aggA hX 58
noncomputable def rwA : Arg Rw := aggA hX 95
noncomputable def tbA : Arg (List Rw) := aggA hX 28
noncomputable def ldA : Arg Ld := aggA hX 124
noncomputable def isA : Arg (List Int) := lstA 3
noncomputable def vsA : Arg (List V) := lstA 58
noncomputable def rwsA : Arg (List Rw) := lstA 95
noncomputable def tbsA : Arg (List (List Rw)) := lstA 28
noncomputable def ldsA : Arg (List Ld) := lstA 124
abbrev LL : Nat := 2 ^ 24
abbrev Gd (orc : Orc gam) : Prop := Pv.Good X0 Tryz.prog T LL orc
noncomputable abbrev ApN (n : Nat) : CallT := apN Tryz.prog T LL n
theorem LLm : most < LL := by decide
abbrev Lp (n f k : Nat) (s : PSt gam) (e : Ex) (s' : PSt gam) : Prop := ExecS X0 Tryz.prog T (ApN n) LL f false (ntP Tryz.prog f) 0 (.loop (bodyP Tryz.prog f k)) s e s'
abbrev Ok (n : Nat) (orc : Orc gam) : Prop := OrcOk X0 Tryz.prog (ApN n) orc
abbrev xi (n : Int) : PE gam := .val (.int .i64 n)
abbrev xu (n : Int) : PE gam := .val (.int .u8 n)
abbrev xt (b : Bool) : PE gam := .val (.bool b)
abbrev xl (b : Bool) : PE gam := .val (.lit b)
abbrev xv (v : V) : PE gam := .val (.agg v.ps)
abbrev xL (t : Nat) (l : List (gam t)) : PE gam := .val (.lst t l false)
abbrev xo (b : Nat) : PE gam := .val (.own b)
theorem le1 : 1 ≤ most := by decide
theorem le2 : 2 ≤ most := by decide
theorem le3 : 3 ≤ most := by decide
theorem le8 : 8 ≤ LL := by decide
theorem ok0 {n : Nat} : Ok n (orc0 (X := X0)) := fun f vs v ext ps h => by cases h
abbrev LpB (n f k B : Nat) (s : PSt gam) (e : Ex) (s' : PSt gam) : Prop := ExecS X0 Tryz.prog T (ApN n) LL f false (ntP Tryz.prog f) B (.loop (bodyP Tryz.prog f k)) s e s'
end Go.Proofs.YtmefgijobonklaaGreat
namespace Go.Proofs.YtmefgijobonklaaGreat
open Go Tw Pv
noncomputable def oc170 : Orc gam := orcF 170 (a1 iA) vA (fun p => S_rNumber p) np (orc0 (X := X0))
theorem gc170 : Gd oc170 := Good.nil.add fun n hO p hp => fn_is hX hO (by kernel_rfl) .rr
noncomputable def oc173 : Orc gam := orcF 173 (a1 uA) vA (fun p => S_rFaultV p) np oc170
theorem gc173 : Gd oc173 := gc170.add fun n hO p hp => fn_is hX hO (by kernel_rfl) .rr
noncomputable def oc171 : Orc gam := orcF 171 (a1 tA) vA (fun p => S_rBool p) np oc173
theorem gc171 : Gd oc171 := gc173.add fun n hO p hp => fn_is hX hO (by kernel_rfl) (.ss .rr .rr)
noncomputable def oc172 : Orc gam := orcF 172 (a1 iA) vA (fun p => S_rMake p) np oc171
theorem gc172 : Gd oc172 := gc171.add fun n hO p hp => fn_is hX hO (by kernel_rfl) (.ss .rr (.ss .rr .rr))
noncomputable def oc128 : Orc gam := orcF 128 (a3 vA vA vA) vA (fun p => S_rChoose p.1 p.2.1 p.2.2) np oc172
theorem gc128 : Gd oc128 := gc172.add fun n hO p hp => fn_is hX hO (by kernel_rfl) (.ss .rr (.ss .rr .rr))
noncomputable def oc126 : Orc gam := orcF 126 (a2 uA vA) vA (fun p => S_rOp1 p.1 p.2) np oc128
theorem gc126 : Gd oc126 := gc128.add fun n hO p hp => fn_is hX hO (by kernel_rfl) (.ss .rr (.ss .rr .rr))
abbrev Rh (n f k m : Nat) (s : PSt gam) (e : Ex) (p : PSt gam) : Prop := RoundsH X0 Tryz.prog T (ApN n) LL f false (ntP Tryz.prog f) 0 (bodyP Tryz.prog f k) m s e p
abbrev wQ (a b v : Int) (x : List (Nat × PE gam)) : PSt gam := ⟨[(0, xi a), (1, xi b), (5, xi v)] ++ x, [], []⟩
theorem q0 {n : Nat} (hO : Ok n oc126) (a b : Int) (hb0 : 0 < b) (hb1 : b ≤ 10000) (ha0 : 0 ≤ a) (ha1 : a ≤ 10000) : ∀ (d : Nat), (d : Int) ≤ a / b → Rh n 174 0 (d + 1) (wQ a b (a / b - d) []) (.exit 0) (wQ a b (a / b) [(17, xl false)]) := by
 have hq1 : a / b ≤ a := Int.ediv_le_self b ha0
 have hlt : a < (a / b + 1) * b := by have := Int.lt_ediv_add_one_mul_self a hb0; exact this
 have hle : a / b * b ≤ a := Int.ediv_mul_le a (by omega)
 intro d
 induction d with
 | zero =>
  intro hd
  rw [show a / b - ((0 : Nat) : Int) = a / b by omega]
  exact round hX hO (by kernel_rfl) (.b (show decide (IntKind.i64.wrap (IntKind.i64.wrap (a / b + 1) * b) ≤ a) = false by rw [wrap_small (z := a / b + 1) (by omega) (by omega), mul_small (by omega) (by omega) (by omega) (by omega)]; simp only [decide_eq_false_iff_not]; omega) .ex)
 | succ d ih =>
  intro hd
  have hdd : (d : Int) + 1 ≤ a / b := by omega
  have hm1 : (a / b - d) * b ≤ a := by
   have : (a / b - d) * b ≤ (a / b) * b := Int.mul_le_mul_of_nonneg_right (by omega) (by omega)
   omega
  have h := ih (by omega)
  rw [← show IntKind.i64.wrap (a / b - ((d + 1 : Nat) : Int) + 1) = a / b - d by rw [wrap_small (by omega) (by omega)]; omega] at h
  exact round hX hO (by kernel_rfl) (.b (show decide (IntKind.i64.wrap (IntKind.i64.wrap (a / b - ((d + 1 : Nat) : Int) + 1) * b) ≤ a) = true by
   rw [wrap_small (z := a / b - ((d + 1 : Nat) : Int) + 1) (by omega) (by omega), show a / b - ((d + 1 : Nat) : Int) + 1 = a / b - d by omega, mul_small (by omega) (by omega) (by omega) (by omega)]
   simp only [decide_eq_true_eq]; exact hm1) (.go h))
theorem q0n {n : Nat} (hO : Ok n oc126) (a b : Int) (hb0 : 0 < b) (hb1 : b ≤ 10000) (ha0 : a < 0) : Rh n 174 0 1 (wQ a b 0 []) (.exit 0) (wQ a b 0 [(17, xl false)]) :=
 round hX hO (by kernel_rfl) (.b (show decide (IntKind.i64.wrap (IntKind.i64.wrap (0 + 1) * b) ≤ a) = false by rw [wrap_small (z := 0 + 1) (by omega) (by omega), mul_small (by omega) (by omega) (by omega) (by omega)]; simp only [decide_eq_false_iff_not]; omega) .ex)
theorem q1 {n : Nat} (hO : Ok n oc126) (a b : Int) (hb0 : 0 < b) (hb1 : b ≤ 10000) (ha0 : -10000 ≤ a) (ha1 : a ≤ 10000) : ∀ (d : Nat), (d : Int) ≤ 10000 → Rh n 174 1 (d + 1) (wQ a b (a / b + d) []) (.exit 2) (wQ a b (a / b) [(24, xl false)]) := by
 have hq1 : a / b ≤ 10000 := by
  rcases Int.lt_or_le a 0 with h | h
  ·have := Int.ediv_neg_of_neg_of_pos h hb0; omega
  ·have := Int.ediv_le_self b h; omega
 have hlt : a < (a / b + 1) * b := by have := Int.lt_ediv_add_one_mul_self a hb0; exact this
 have hle : a / b * b ≤ a := Int.ediv_mul_le a (by omega)
 have hq0 : -10000 ≤ a / b := by
  have h1 : (-10000 : Int) * b ≤ a := by
   have : (-10000 : Int) * b ≤ (-10000) * 1 := by omega
   omega
  exact (Int.le_ediv_iff_mul_le hb0).mpr h1
 intro d
 induction d with
 | zero =>
  intro hd
  rw [show a / b + ((0 : Nat) : Int) = a / b by omega]
  exact round hX hO (by kernel_rfl) (.b (show decide (IntKind.i64.wrap (a / b * b) > a) = false by rw [mul_small (by omega) (by omega) (by omega) (by omega)]; simp only [decide_eq_false_iff_not]; omega) .ex)
 | succ d ih =>
  intro hd
  have hm1 : a < (a / b + (d + 1 : Nat)) * b := by
   have : (a / b + 1) * b ≤ (a / b + (d + 1 : Nat)) * b := Int.mul_le_mul_of_nonneg_right (by omega) (by omega)
   omega
  have h := ih (by omega)
  rw [← show IntKind.i64.wrap (a / b + ((d + 1 : Nat) : Int) - 1) = a / b + d by rw [wrap_small (by omega) (by omega)]; omega] at h
  exact round hX hO (by kernel_rfl) (.b (show decide (IntKind.i64.wrap ((a / b + ((d + 1 : Nat) : Int)) * b) > a) = true by
   rw [mul_small (by omega) (by omega) (by omega) (by omega)]
   simp only [decide_eq_true_eq]; exact hm1) (.go h))
theorem qq {n : Nat} (hO : Ok n oc126) (a b : Int) (hb0 : 0 < b) (hb1 : b ≤ 10000) (ha0 : -10000 ≤ a) (ha1 : a ≤ 10000) : ∃ v0, Lp n 174 0 (wQ a b 0 []) (.exit 0) (wQ a b v0 [(17, xl false)]) ∧ Lp n 174 1 (wQ a b v0 [(17, xl false)]) (.exit 2) (wQ a b (a / b) [(24, xl false)]) := by
 have lm : ∀ (d : Nat), (d : Int) ≤ 10000 → d + 1 ≤ LL := by
  intro d h
  have : 10001 ≤ LL := by decide
  omega
 rcases Int.lt_or_le a 0 with ha | ha
 ·have hneg := Int.ediv_neg_of_neg_of_pos ha hb0
  have hq0 : -10000 ≤ a / b := by
   have h1 : (-10000 : Int) * b ≤ a := by
    have : (-10000 : Int) * b ≤ (-10000) * 1 := by omega
    omega
   exact (Int.le_ediv_iff_mul_le hb0).mpr h1
  refine ⟨0, loopH_of (q0n hO a b hb0 hb1 ha) (by kernel_rfl) (by decide), ?_⟩
  have := q1 hO a b hb0 hb1 ha0 ha1 (-(a / b)).toNat (by omega)
  rw [show a / b + ((-(a / b)).toNat : Int) = 0 by omega] at this
  exact loopH_of this (by kernel_rfl) (lm _ (by omega))
 ·have hq1 : a / b ≤ a := Int.ediv_le_self b ha
  have hq0 : 0 ≤ a / b := Int.ediv_nonneg ha (by omega)
  refine ⟨a / b, ?_, ?_⟩
  ·have := q0 hO a b hb0 hb1 ha ha1 (a / b).toNat (by omega)
   rw [show a / b - ((a / b).toNat : Int) = 0 by omega] at this
   exact loopH_of this (by kernel_rfl) (lm _ (by omega))
  ·have := q1 hO a b hb0 hb1 ha0 ha1 0 (by omega)
   rw [show a / b + ((0 : Nat) : Int) = a / b by omega] at this
   exact loopH_of this (by kernel_rfl) (by decide)
abbrev inN (x : Int) : Prop := -10000 ≤ x ∧ x ≤ 10000
noncomputable def oc174 : Orc gam := orcF 174 (a2 iA iA) iA (fun p => S_quot p.1 p.2) (fun p => [p.2 ≠ 0, inN p.1, inN p.2]) oc126
theorem gc174 : Gd oc174 := gc126.add fun n hO p hp => by
 obtain ⟨a, b⟩ := p
 have h1 : b ≠ 0 := hp _ (.head _)
 have h2 : inN a := hp _ (.tail _ (.head _))
 have h3 : inN b := hp _ (.tail _ (.tail _ (.head _)))
 by_cases hs : b < 0
 ·obtain ⟨v0, e1, e2⟩ := qq hO (-a) (-b) (by omega) (by omega) (by omega) (by omega)
  rw [← show IntKind.i64.wrap (0 - a) = -a by rw [wrap_small (by omega) (by omega)]; omega, ← show IntKind.i64.wrap (0 - b) = -b by rw [wrap_small (by omega) (by omega)]; omega] at e1 e2
  refine fn_is hX hO (by kernel_rfl) (.b (show decide (b < 0) = true by simpa using hs) <| .w e1 <| .w e2 <| .v (IntKind.i64.wrap (0 - a) / IntKind.i64.wrap (0 - b)) ?_)
  simp only [S_quot]
  rw [if_pos hs, wrap_small (by omega) (by omega), wrap_small (by omega) (by omega), Int.zero_sub, Int.zero_sub]
 ·obtain ⟨v0, e1, e2⟩ := qq hO a b (by omega) (by omega) (by omega) (by omega)
  refine fn_is hX hO (by kernel_rfl) (.b (show decide (b < 0) = false by simpa using hs) <| .w e1 <| .w e2 <| .v (a / b) ?_)
  simp only [S_quot]
  rw [if_neg hs]
noncomputable def oc127 : Orc gam := orcF 127 (a3 uA vA vA) vA (fun p => S_rOp2 p.1 p.2.1 p.2.2) (fun p => [inN p.2.1.n, inN p.2.2.n]) oc174
theorem gc127 : Gd oc127 := gc174.add fun n hO p hp => fn_is hX hO (by kernel_rfl) (.sh (fun h0 => .rr) fun h0 => (.sh (fun h1 => (.sh (fun h2 => .rr) fun h2 => (.sh (fun h3 => (.sh (fun h4 => .rr) fun h4 => (.b h1 .rr))) fun h3 => (.b h1 .rr)))) fun h1 => (.sh (fun h2 => (.sh (fun h3 => .rr) fun h3 => (.b h1 (.b h2 .rr)))) fun h2 => (.b h1 (.b h2 (.sh (fun h3 => .rr) fun h3 => (.sh (fun h4 => .rr) fun h4 => (.sh (fun h5 => .rr) fun h5 => (.sh (fun h6 => .rr) fun h6 => (.sh (fun h7 => .rr) fun h7 => (.sh (fun h8 => .rr) fun h8 => (.sh (fun h9 => .rr) fun h9 => (.sh (fun h10 => .rr) fun h10 => (.o (show p.2.2.n ≠ 0 by simpa using h10) (.o (hp _ (.head _)) (.o (hp _ (.tail _ (.head _))) (.sh (fun h11 => .rr) fun h11 => .rr)))))))))))))))))
theorem getD_at {α : Type} {l : List α} {k : Nat} (h : k < l.length) (d : α) : l[k]? = some (l.getD k d) := by simp [List.getD, List.getElem?_eq_getElem h]
end Go.Proofs.YtmefgijobonklaaGreat
namespace Go.Proofs.YtmefgijobonklaaGreat
open Go Tw Pv
abbrev w225 (f : Nat) (a c : List (PV gam)) (H : List (PB gam)) (l : List Int) (i : Int) (x : List (Nat × PE gam)) : PSt gam := ⟨[(0, xL 3 l), (1, .val (.fn f a c)), (7, xi l.length), (8, xi i)] ++ x, [], H⟩
def z225 (f : Nat) (a c : List (PV gam)) (H : List (PB gam)) (l : List Int) : Unit ⊕ (Nat × Int × Unit) → Ex × PSt gam
 | .inl _ => (.exit 0, w225 f a c H l l.length [(9, xl false)])
 | .inr r => (.ret, ⟨[(4, xi r.1)], [], H⟩)
theorem s225 {n f : Nat} {a c : List (PV gam)} {H : List (PB gam)} {g : Int → Bool} (hf : ∀ x, Sim X0 Tryz.prog (ApN n) (.fn f a c) [.int .i64 x] H (.bool (g x)) H) (l : List Int) (hl : l.length ≤ most) : Sim X0 Tryz.prog (ApN (n + 1)) (.fn 225 [] []) [.lst 3 l false, .fn f a c] H (iA.put (S_IndexFuncI g l)) H := by
 have lp : LpB n 225 0 H.length (w225 f a c H l 0 []) (z225 f a c H l (runL (F_indexI g) l 0 ())).1 (z225 f a c H l (runL (F_indexI g) l 0 ())).2 :=
  eachE (st := fun i _ => w225 f a c H l i []) (0 : Int) (fun _ _ => True) (by kernel_rfl) hl LLm trivial (fun k s n hk _ ih => round hX ok0 (by kernel_rfl) (.b (lt_nat hk) (.o (inR_nat hk) (.k (hf (l.getD k (0 : Int))) (.ls (.ou nofun) (.nx (ih _ trivial))))))) (fun s _ => round hX ok0 (by kernel_rfl) (.b (lt_no l.length) (.ou nofun)))
 exact sim_is hX ok0 (first := []) (cap := []) (by kernel_rfl) (.szh (fun h => .w (exInl lp () h) .sr) (fun h => .w (exInr lp (0, 0, ()) h) .sr))
theorem s186 {n f : Nat} (hn : 0 < n) {a c : List (PV gam)} {H : List (PB gam)} {g : Int → Bool} (hf : ∀ x, Sim X0 Tryz.prog (ApN (n - 1)) (.fn f a c) [.int .i64 x] H (.bool (g x)) H) (l : List Int) (hl : l.length ≤ most) : Sim X0 Tryz.prog (ApN (n + 1)) (.fn 186 [] []) [.lst 3 l false, .fn f a c] H (tA.put (S_ContainsFuncI g l)) H := by
 have h1 := s225 hf l hl
 rw [show n - 1 + 1 = n by omega] at h1
 exact sim_is hX ok0 (first := []) (cap := []) (by kernel_rfl) (.k h1 .sr)
abbrev w157 (f : Nat) (a c : List (PV gam)) (H : List (PB gam)) (l : List V) (i : Int) (x : List (Nat × PE gam)) : PSt gam := ⟨[(0, xL 58 l), (1, .val (.fn f a c)), (7, xi l.length), (8, xi i)] ++ x, [], H⟩
def z157 (f : Nat) (a c : List (PV gam)) (H : List (PB gam)) (l : List V) : Unit ⊕ (Nat × V × Unit) → Ex × PSt gam
 | .inl _ => (.exit 0, w157 f a c H l l.length [(9, xl false)])
 | .inr r => (.ret, ⟨[(4, xi r.1)], [], H⟩)
theorem s157 {n f : Nat} {a c : List (PV gam)} {H : List (PB gam)} {g : V → Bool} (hf : ∀ x, Sim X0 Tryz.prog (ApN n) (.fn f a c) [.agg x.ps] H (.bool (g x)) H) (l : List V) (hl : l.length ≤ most) : Sim X0 Tryz.prog (ApN (n + 1)) (.fn 157 [] []) [.lst 58 l false, .fn f a c] H (iA.put (S_IndexFuncV g l)) H := by
 have lp : LpB n 157 0 H.length (w157 f a c H l 0 []) (z157 f a c H l (runL (F_indexV g) l 0 ())).1 (z157 f a c H l (runL (F_indexV g) l 0 ())).2 :=
  eachE (st := fun i _ => w157 f a c H l i []) V0 (fun _ _ => True) (by kernel_rfl) hl LLm trivial (fun k s n hk _ ih => round hX ok0 (by kernel_rfl) (.b (lt_nat hk) (.o (inR_nat hk) (.k (hf (l.getD k V0)) (.ls (.ou nofun) (.nx (ih _ trivial))))))) (fun s _ => round hX ok0 (by kernel_rfl) (.b (lt_no l.length) (.ou nofun)))
 exact sim_is hX ok0 (first := []) (cap := []) (by kernel_rfl) (.szh (fun h => .w (exInl lp () h) .sr) (fun h => .w (exInr lp (0, V0, ()) h) .sr))
theorem s112 {n f : Nat} (hn : 0 < n) {a c : List (PV gam)} {H : List (PB gam)} {g : V → Bool} (hf : ∀ x, Sim X0 Tryz.prog (ApN (n - 1)) (.fn f a c) [.agg x.ps] H (.bool (g x)) H) (l : List V) (hl : l.length ≤ most) : Sim X0 Tryz.prog (ApN (n + 1)) (.fn 112 [] []) [.lst 58 l false, .fn f a c] H (tA.put (S_ContainsFuncV g l)) H := by
 have h1 := s157 hf l hl
 rw [show n - 1 + 1 = n by omega] at h1
 exact sim_is hX ok0 (first := []) (cap := []) (by kernel_rfl) (.k h1 .sr)
end Go.Proofs.YtmefgijobonklaaGreat
namespace Go.Proofs.YtmefgijobonklaaGreat
open Go Tw Pv
noncomputable def oc252 : Orc gam := orcF 252 (a1 iA) tA (fun p => S_isNaN p) np oc127
theorem gc252 : Gd oc252 := gc127.add fun n hO p hp => fn_is hX hO (by kernel_rfl) .rr
noncomputable def oc208 : Orc gam := orcF 208 (a1 uA) vA (fun p => S_vfault p) np oc252
theorem gc208 : Gd oc208 := gc252.add fun n hO p hp => fn_is hX hO (by kernel_rfl) .rr
noncomputable def oc200 : Orc gam := orcF 200 (a3 iA iA isA) tA (fun p => S_withinV p.2.2 p.1 p.2.1) (fun p => [p.2.2.length ≤ most]) oc208
theorem gc200 : Gd oc200 := gc208.deep 3 fun n hn hO p hp => by
 have h1 : ∀ x, Sim X0 Tryz.prog (ApN (n - 3 + 1)) (.fn 239 [] [.ptr 0 0 1, .ptr 1 0 1]) [.int .i64 x] [.cells [.int .i64 p.1], .cells [.int .i64 p.2.1]] (tA.put (S_within1V x p.1 p.2.1)) [.cells [.int .i64 p.1], .cells [.int .i64 p.2.1]] := fun x => sim_is hX ok0 (first := []) (by kernel_rfl) (.ssh (fun _ => .sr) (fun _ => .sr))
 obtain ⟨n, rfl⟩ : ∃ k, n = k + 3 := ⟨n - 3, by omega⟩
 rw [show n + 3 - 3 + 1 = n + 1 by omega] at h1
 have h2 := s186 (n := n + 2) (by omega) (g := fun x => S_within1V x p.1 p.2.1) h1 p.2.2 (hp _ (.head _))
 exact fn_is hX (hO _ (by omega)) (by kernel_rfl) (.k h2 (.v (!(S_ContainsFuncI (fun x => S_within1V x p.1 p.2.1) p.2.2)) (by rw [containsI]; rfl)))
theorem nan (x : Int) : S_isNaN x = false := by simp [S_isNaN]
noncomputable def oc158 : Orc gam := orcF 158 (a1 vA) tA (fun p => S_isCell p) np oc200
theorem gc158 : Gd oc158 := gc200.add fun n hO p hp => fn_is hX hO (by kernel_rfl) (.ss (.o le1 .rr) (.ss .rr .rr))
noncomputable def oc167 : Orc gam := orcF 167 (a1 iA) vA (fun p => S_vMake p) np oc158
theorem gc167 : Gd oc167 := gc158.add fun n hO p hp => fn_is hX hO (by kernel_rfl) (.o le1 (.ss .rr .rr))
noncomputable def oc206 : Orc gam := orcF 206 (a1 tA) vA (fun p => S_vtruth p) np oc167
theorem gc206 : Gd oc206 := gc167.add fun n hO p hp => fn_is hX hO (by kernel_rfl) (.ss .rr .rr)
noncomputable def oc204 : Orc gam := orcF 204 (a1 iA) vA (fun p => S_solo1 p) np oc206
theorem gc204 : Gd oc204 := gc206.add fun n hO p hp => fn_is hX hO (by kernel_rfl) .rr
noncomputable def oc205 : Orc gam := orcF 205 (a1 iA) vA (fun p => S_solo2 p) np oc204
theorem gc205 : Gd oc205 := gc204.add fun n hO p hp => fn_is hX hO (by kernel_rfl) .rr
noncomputable def oc207 : Orc gam := orcF 207 (a1 vA) tA (fun p => S_first1 p) np oc205
theorem gc207 : Gd oc207 := gc205.add fun n hO p hp => fn_is hX hO (by kernel_rfl) .rr
noncomputable def oc219 : Orc gam := orcF 219 (a1 vA) tA (fun p => S_are1 p) np oc207
theorem gc219 : Gd oc219 := gc207.add fun n hO p hp => fn_is hX hO (by kernel_rfl) .rr
noncomputable def oc209 : Orc gam := orcF 209 (a2 iA iA) vA (fun p => S_duo1 p.1 p.2) np oc219
theorem gc209 : Gd oc209 := gc219.add fun n hO p hp => fn_is hX hO (by kernel_rfl) .rr
noncomputable def oc210 : Orc gam := orcF 210 (a2 iA iA) vA (fun p => S_duo2 p.1 p.2) np oc209
theorem gc210 : Gd oc210 := gc209.add fun n hO p hp => fn_is hX hO (by kernel_rfl) .rr
noncomputable def oc211 : Orc gam := orcF 211 (a2 iA iA) vA (fun p => S_duo3 p.1 p.2) np oc210
theorem gc211 : Gd oc211 := gc210.add fun n hO p hp => fn_is hX hO (by kernel_rfl) .rr
noncomputable def oc213 : Orc gam := orcF 213 (a2 iA iA) iA (fun p => S_duo4 p.1 p.2) np oc211
theorem gc213 : Gd oc213 := gc211.add fun n hO p hp => fn_is hX hO (by kernel_rfl) .rr
noncomputable def oc214 : Orc gam := orcF 214 (a2 iA iA) iA (fun p => S_duo5 p.1 p.2) np oc213
theorem gc214 : Gd oc214 := gc213.add fun n hO p hp => fn_is hX hO (by kernel_rfl) .rr
noncomputable def oc216 : Orc gam := orcF 216 (a1 iA) tA (fun p => S_duo6 p) np oc214
theorem gc216 : Gd oc216 := gc214.add fun n hO p hp => fn_is hX hO (by kernel_rfl) .rr
noncomputable def oc217 : Orc gam := orcF 217 (a1 iA) tA (fun p => S_duo7 p) np oc216
theorem gc217 : Gd oc217 := gc216.add fun n hO p hp => fn_is hX hO (by kernel_rfl) .rr
noncomputable def oc218 : Orc gam := orcF 218 (a1 iA) tA (fun p => S_duo8 p) np oc217
theorem gc218 : Gd oc218 := gc217.add fun n hO p hp => fn_is hX hO (by kernel_rfl) .rr
noncomputable def oc242 : Orc gam := orcF 242 (a2 iA iA) (tupA (a2 iA iA)) (fun p => S_vquotient p.1 p.2) (fun p => [p.2 ≠ 0]) oc218
theorem gc242 : Gd oc242 := gc218.add fun n hO p hp => fn_is hX hO (by kernel_rfl) (.o (hp _ (.head _)) (.o (hp _ (.head _)) (.ss (.ss .rr .rr) .rr)))
noncomputable def oc244 : Orc gam := orcF 244 (a2 iA iA) iA (fun p => S_Compare p.1 p.2) np oc242
theorem gc244 : Gd oc244 := gc242.add fun n hO p hp => fn_is hX hO (by kernel_rfl) (.b (nan p.1) (.b (nan p.2) (.ss .rr (.ss .rr .rr))))
theorem s207 {n : Nat} {orc : Orc gam} (hO : Ok n orc) (ho : ∀ x : V, orc 207 [.agg x.ps] = some (.bool (S_first1 x), [], [])) (H : List (PB gam)) (x : V) : Sim X0 Tryz.prog (ApN n) (.fn 207 [] []) [.agg x.ps] H (.bool (S_first1 x)) H :=
 sim_orc hX hO (first := []) (cap := []) (vs := [.agg x.ps]) (v := .bool (S_first1 x)) rfl (ho x) (fun p h => by cases h) rfl
theorem s219 {n : Nat} {orc : Orc gam} (hO : Ok n orc) (ho : ∀ x : V, orc 219 [.agg x.ps] = some (.bool (S_are1 x), [], [])) (H : List (PB gam)) (x : V) : Sim X0 Tryz.prog (ApN n) (.fn 219 [] []) [.agg x.ps] H (.bool (S_are1 x)) H :=
 sim_orc hX hO (first := []) (cap := []) (vs := [.agg x.ps]) (v := .bool (S_are1 x)) rfl (ho x) (fun p h => by cases h) rfl
noncomputable def oc166 : Orc gam := orcF 166 (a1 vsA) (tupA (a2 vA tA)) (fun p => S_firstFault p) (fun p => [p.length ≤ most]) oc244
theorem gc166 : Gd oc166 := gc244.deep 2 fun n hn hO p hp => by
 have hs := s157 (n := n - 1) (H := []) (g := fun v => S_first1 v) (s207 (hO (n - 1) (by omega)) (fun _ => rfl) []) p (hp _ (.head _))
 rw [show n - 1 + 1 = n by omega] at hs
 exact fn_is hX (hO n (by omega)) (by kernel_rfl) (.k hs (.sh (fun h => .rr) (fun h => .o (show inR (S_IndexFuncV (fun v => S_first1 v) p) p.length from ⟨by simpa using h, IndexFuncV_lt _ _⟩) .rr)))
noncomputable def oc169 : Orc gam := orcF 169 (a1 vsA) tA (fun p => S_areCells p) (fun p => [p.length ≤ most]) oc166
theorem gc169 : Gd oc169 := gc166.deep 3 fun n hn hO p hp => by
 have hs := s112 (n := n - 1) (by omega) (H := []) (g := fun v => S_are1 v) (s219 (hO (n - 2) (by omega)) (fun _ => rfl) []) p (hp _ (.head _))
 rw [show n - 1 + 1 = n by omega] at hs
 exact fn_is hX (hO n (by omega)) (by kernel_rfl) (.k hs (.v (!(S_ContainsFuncV (fun v => S_are1 v) p)) (by rw [containsV]; rfl)))
noncomputable def oc125 : Orc gam := orcF 125 (a3 vA vA vA) (tupA (a2 vA iA)) (fun p => S_vChoose p.1 p.2.1 p.2.2) np oc169
theorem gc125 : Gd oc125 := gc169.add fun n hO p hp => fn_is hX hO (by kernel_rfl) (.o le3 (.ss .rr (.ss .rr (.ss .rr .rr))))
noncomputable def fidA : Arg Nat where
 put f := .fn f [] []
 get v := match v with
  | .fn g [] [] => some g
  | _ => none
 ok := by
  intro v a hg A m h x hv
  split at hg
  ·cases hg; exact hv
  ·cases hg
noncomputable def oc165 : Orc gam := orcE 165 (a1 uA) (fun p => .fn (if p = 5 then 204 else 205) [] []) (fun _ => []) (fun p => [p = 5 ∨ p = 6]) oc125
theorem gc165 : Gd oc165 := gc125.deepE 0 fun n _ hO p hp => by
 rcases hp _ (.head _) with rfl | rfl
 ·exact fn_ex hX (hO n (by omega)) (by kernel_rfl) (.b (rfl : true = true) .er)
 ·exact fn_ex hX (hO n (by omega)) (by kernel_rfl) (.b (rfl : false = false) (.b (rfl : true = true) .er))
noncomputable def oc123 : Orc gam := orcF 123 (a2 uA vA) (tupA (a2 vA iA)) (fun p => S_vOp1T p.1 p.2) (fun p => [p.1 = 5 ∨ p.1 = 6]) oc165
theorem gc123 : Gd oc123 := gc165.add fun n hO p hp => by
 obtain ⟨k, a⟩ := p
 rcases (show k = 5 ∨ k = 6 from hp _ (.head _)) with rfl | rfl
 ·have : Con X0 Tryz.prog (ApN (n + 1)) 123 ((a2 uA vA).put (5, a)) ((tupA (a2 vA iA)).put (S_vOp1_5 a)) [] := fn_is hX hO (by kernel_rfl) (.o (.inl rfl : (5 : Int) = 5 ∨ (5 : Int) = 6) (.b (rfl : false = false) (.ss .rr (.o le1 (.ss .rr .rr)))))
  exact this
 ·have : Con X0 Tryz.prog (ApN (n + 1)) 123 ((a2 uA vA).put (6, a)) ((tupA (a2 vA iA)).put (S_vOp1_6 a)) [] := fn_is hX hO (by kernel_rfl) (.o (.inr rfl : (6 : Int) = 5 ∨ (6 : Int) = 6) (.b (rfl : false = false) (.ss .rr (.o le1 (.ss .rr .rr)))))
  exact this
noncomputable def oc212 : Orc gam := orcE 212 (a1 fidA) (fun _ => .fn 241 [] [.ptr 0 0 1]) (fun g => [.cells [.fn g [] []]]) np oc123
theorem gc212 : Gd oc212 := gc123.deepE 0 fun n _ hO p hp => fn_ex hX (hO n (by omega)) (by kernel_rfl) .er
noncomputable def oc215 : Orc gam := orcE 215 (a1 fidA) (fun _ => .fn 243 [] [.ptr 0 0 1]) (fun g => [.cells [.fn g [] []]]) np oc212
theorem gc215 : Gd oc215 := gc212.deepE 0 fun n _ hO p hp => fn_ex hX (hO n (by omega)) (by kernel_rfl) .er
def v168 (p : Int) : PV gam := if p = 7 then .fn 209 [] [] else if p = 8 then .fn 210 [] [] else if p = 9 then .fn 211 [] [] else if p = 10 then .fn 241 [] [.ptr 0 0 1] else if p = 11 then .fn 241 [] [.ptr 0 0 1] else .fn 243 [] [.ptr 0 0 1]
def e168 (p : Int) : List (PB gam) := if p = 10 then [.cells [.fn 213 [] []]] else if p = 11 then [.cells [.fn 214 [] []]] else if p = 12 then [.cells [.fn 216 [] []]] else if p = 13 then [.cells [.fn 217 [] []]] else if p = 14 then [.cells [.fn 218 [] []]] else []
noncomputable def oc168 : Orc gam := orcE 168 (a1 uA) v168 e168 (fun p => [7 ≤ p ∧ p ≤ 14]) oc215
theorem seven {p : Int} (h : 7 ≤ p ∧ p ≤ 14) : p = 7 ∨ p = 8 ∨ p = 9 ∨ p = 10 ∨ p = 11 ∨ p = 12 ∨ p = 13 ∨ p = 14 := by omega
theorem gc168 : Gd oc168 := gc215.deepE 0 fun n _ hO p hp => by
 rcases seven (hp _ (.head _)) with rfl | rfl | rfl | rfl | rfl | rfl | rfl | rfl
 ·exact fn_ex hX (hO n (by omega)) (by kernel_rfl) (.b (rfl : true = true) .er)
 ·exact fn_ex hX (hO n (by omega)) (by kernel_rfl) (.b (rfl : false = false) (.b (rfl : true = true) .er))
 ·exact fn_ex hX (hO n (by omega)) (by kernel_rfl) (.b (rfl : false = false) (.b (rfl : false = false) (.b (rfl : true = true) .er)))
 ·exact fn_ex hX (hO n (by omega)) (by kernel_rfl) (.b (rfl : false = false) (.b (rfl : false = false) (.b (rfl : false = false) (.b (rfl : true = true) .er))))
 ·exact fn_ex hX (hO n (by omega)) (by kernel_rfl) (.b (rfl : false = false) (.b (rfl : false = false) (.b (rfl : false = false) (.b (rfl : false = false) (.b (rfl : true = true) .er)))))
 ·exact fn_ex hX (hO n (by omega)) (by kernel_rfl) (.b (rfl : false = false) (.b (rfl : false = false) (.b (rfl : false = false) (.b (rfl : false = false) (.b (rfl : false = false) (.b (rfl : true = true) .er))))))
 ·exact fn_ex hX (hO n (by omega)) (by kernel_rfl) (.b (rfl : false = false) (.b (rfl : false = false) (.b (rfl : false = false) (.b (rfl : false = false) (.b (rfl : false = false) (.b (rfl : false = false) (.b (rfl : true = true) .er)))))))
 ·exact fn_ex hX (hO n (by omega)) (by kernel_rfl) (.b (rfl : false = false) (.b (rfl : false = false) (.b (rfl : false = false) (.b (rfl : false = false) (.b (rfl : false = false) (.b (rfl : false = false) (.b (rfl : false = false) (.b (rfl : true = true) .er))))))))
theorem s241_10 {n : Nat} (hO : Ok n oc168) (a b : V) (x y : Int) : Sim X0 Tryz.prog (ApN (n + 1)) (.fn 241 [] [.ptr 0 0 1]) [.int .i64 x, .int .i64 y] [.cells [.fn 213 [] []], .list true true 58 [a, b], .list true true 58 [a, b]] (vA.put (S_divided1 S_duo4 x y)) [.cells [.fn 213 [] []], .list true true 58 [a, b], .list true true 58 [a, b]] :=
 sim_is hX hO (first := []) (by kernel_rfl) (.ssh (fun _ => .sr) (fun h => .o (show y ≠ 0 by simpa using h) .sr))
theorem s241_11 {n : Nat} (hO : Ok n oc168) (a b : V) (x y : Int) : Sim X0 Tryz.prog (ApN (n + 1)) (.fn 241 [] [.ptr 0 0 1]) [.int .i64 x, .int .i64 y] [.cells [.fn 214 [] []], .list true true 58 [a, b], .list true true 58 [a, b]] (vA.put (S_divided1 S_duo5 x y)) [.cells [.fn 214 [] []], .list true true 58 [a, b], .list true true 58 [a, b]] :=
 sim_is hX hO (first := []) (by kernel_rfl) (.ssh (fun _ => .sr) (fun h => .o (show y ≠ 0 by simpa using h) .sr))
theorem s243_12 {n : Nat} (hO : Ok n oc168) (a b : V) (x y : Int) : Sim X0 Tryz.prog (ApN (n + 1)) (.fn 243 [] [.ptr 0 0 1]) [.int .i64 x, .int .i64 y] [.cells [.fn 216 [] []], .list true true 58 [a, b], .list true true 58 [a, b]] (vA.put (S_compared1 S_duo6 x y)) [.cells [.fn 216 [] []], .list true true 58 [a, b], .list true true 58 [a, b]] :=
 sim_is hX hO (first := []) (by kernel_rfl) .sr
theorem s243_13 {n : Nat} (hO : Ok n oc168) (a b : V) (x y : Int) : Sim X0 Tryz.prog (ApN (n + 1)) (.fn 243 [] [.ptr 0 0 1]) [.int .i64 x, .int .i64 y] [.cells [.fn 217 [] []], .list true true 58 [a, b], .list true true 58 [a, b]] (vA.put (S_compared1 S_duo7 x y)) [.cells [.fn 217 [] []], .list true true 58 [a, b], .list true true 58 [a, b]] :=
 sim_is hX hO (first := []) (by kernel_rfl) .sr
theorem s243_14 {n : Nat} (hO : Ok n oc168) (a b : V) (x y : Int) : Sim X0 Tryz.prog (ApN (n + 1)) (.fn 243 [] [.ptr 0 0 1]) [.int .i64 x, .int .i64 y] [.cells [.fn 218 [] []], .list true true 58 [a, b], .list true true 58 [a, b]] (vA.put (S_compared1 S_duo8 x y)) [.cells [.fn 218 [] []], .list true true 58 [a, b], .list true true 58 [a, b]] :=
 sim_is hX hO (first := []) (by kernel_rfl) .sr
noncomputable def oc124 : Orc gam := orcF 124 (a3 uA vA vA) (tupA (a2 vA iA)) (fun p => S_vOp2T p.1 p.2.1 p.2.2) (fun p => [7 ≤ p.1 ∧ p.1 ≤ 16]) oc168
theorem gc124 : Gd oc124 := gc168.deep 1 fun n hn hO p hp => by
 obtain ⟨n, rfl⟩ : ∃ k, n = k + 1 := ⟨n - 1, by omega⟩
 have hO0 := hO n (by omega)
 have hO := hO (n + 1) (by omega)
 obtain ⟨k, a, b⟩ := p
 rcases nine (show 7 ≤ k ∧ k ≤ 16 from hp _ (.head _)) with rfl | rfl | rfl | rfl | rfl | rfl | rfl | rfl | rfl | rfl
 ·have : Con X0 Tryz.prog (ApN (n + 1 + 1)) 124 ((a3 uA vA vA).put (7, a, b)) ((tupA (a2 vA iA)).put (S_vOp2_7 a b)) [] := fn_is hX hO (by kernel_rfl) (.b (rfl : false = false) (.b (rfl : false = false) (.o (by decide : (7 : Int) ≤ 7 ∧ (7 : Int) ≤ 14) (.b (rfl : false = false) (.o le2 (.ss .rr (.o le2 (.ss .rr .rr))))))))
  exact this
 ·have : Con X0 Tryz.prog (ApN (n + 1 + 1)) 124 ((a3 uA vA vA).put (8, a, b)) ((tupA (a2 vA iA)).put (S_vOp2_8 a b)) [] := fn_is hX hO (by kernel_rfl) (.b (rfl : false = false) (.b (rfl : false = false) (.o (by decide : (7 : Int) ≤ 8 ∧ (8 : Int) ≤ 14) (.b (rfl : false = false) (.o le2 (.ss .rr (.o le2 (.ss .rr .rr))))))))
  exact this
 ·have : Con X0 Tryz.prog (ApN (n + 1 + 1)) 124 ((a3 uA vA vA).put (9, a, b)) ((tupA (a2 vA iA)).put (S_vOp2_9 a b)) [] := fn_is hX hO (by kernel_rfl) (.b (rfl : false = false) (.b (rfl : false = false) (.o (by decide : (7 : Int) ≤ 9 ∧ (9 : Int) ≤ 14) (.b (rfl : false = false) (.o le2 (.ss .rr (.o le2 (.ss .rr .rr))))))))
  exact this
 ·have : Con X0 Tryz.prog (ApN (n + 1 + 1)) 124 ((a3 uA vA vA).put (10, a, b)) ((tupA (a2 vA iA)).put (S_vOp2_10 a b)) [] := fn_is hX hO (by kernel_rfl) (.b (rfl : false = false) (.b (rfl : false = false) (.o (by decide : (7 : Int) ≤ 10 ∧ (10 : Int) ≤ 14) (.b (rfl : false = false) (.o le2 (.ss .rr (.o le2 (.ss .rr (.k (s241_10 hO0 a b a.n b.n) .rr)))))))))
  exact this
 ·have : Con X0 Tryz.prog (ApN (n + 1 + 1)) 124 ((a3 uA vA vA).put (11, a, b)) ((tupA (a2 vA iA)).put (S_vOp2_11 a b)) [] := fn_is hX hO (by kernel_rfl) (.b (rfl : false = false) (.b (rfl : false = false) (.o (by decide : (7 : Int) ≤ 11 ∧ (11 : Int) ≤ 14) (.b (rfl : false = false) (.o le2 (.ss .rr (.o le2 (.ss .rr (.k (s241_11 hO0 a b a.n b.n) .rr)))))))))
  exact this
 ·have : Con X0 Tryz.prog (ApN (n + 1 + 1)) 124 ((a3 uA vA vA).put (12, a, b)) ((tupA (a2 vA iA)).put (S_vOp2_12 a b)) [] := fn_is hX hO (by kernel_rfl) (.b (rfl : false = false) (.b (rfl : false = false) (.o (by decide : (7 : Int) ≤ 12 ∧ (12 : Int) ≤ 14) (.b (rfl : false = false) (.o le2 (.ss .rr (.o le2 (.ss .rr (.k (s243_12 hO0 a b a.n b.n) .rr)))))))))
  exact this
 ·have : Con X0 Tryz.prog (ApN (n + 1 + 1)) 124 ((a3 uA vA vA).put (13, a, b)) ((tupA (a2 vA iA)).put (S_vOp2_13 a b)) [] := fn_is hX hO (by kernel_rfl) (.b (rfl : false = false) (.b (rfl : false = false) (.o (by decide : (7 : Int) ≤ 13 ∧ (13 : Int) ≤ 14) (.b (rfl : false = false) (.o le2 (.ss .rr (.o le2 (.ss .rr (.k (s243_13 hO0 a b a.n b.n) .rr)))))))))
  exact this
 ·have : Con X0 Tryz.prog (ApN (n + 1 + 1)) 124 ((a3 uA vA vA).put (14, a, b)) ((tupA (a2 vA iA)).put (S_vOp2_14 a b)) [] := fn_is hX hO (by kernel_rfl) (.b (rfl : false = false) (.b (rfl : false = false) (.o (by decide : (7 : Int) ≤ 14 ∧ (14 : Int) ≤ 14) (.b (rfl : false = false) (.o le2 (.ss .rr (.o le2 (.ss .rr (.k (s243_14 hO0 a b a.n b.n) .rr)))))))))
  exact this
 ·have : Con X0 Tryz.prog (ApN (n + 1 + 1)) 124 ((a3 uA vA vA).put (15, a, b)) ((tupA (a2 vA iA)).put (S_vOp2_15 a b)) [] := fn_is hX hO (by kernel_rfl) (.b (rfl : true = true) .rr)
  exact this
 ·have : Con X0 Tryz.prog (ApN (n + 1 + 1)) 124 ((a3 uA vA vA).put (16, a, b)) ((tupA (a2 vA iA)).put (S_vOp2_16 a b)) [] := fn_is hX hO (by kernel_rfl) (.b (rfl : false = false) (.b (rfl : true = true) .rr))
  exact this
end Go.Proofs.YtmefgijobonklaaGreat
namespace Go.Proofs.YtmefgijobonklaaGreat
open Go Tw Pv Mist
noncomputable def oc88 : Orc gam := orcF 88 (a3 iA iA iA) tA (fun p => S_rIn p.1 p.2.1 p.2.2) np oc124
theorem gc88 : Gd oc88 := gc124.add fun n hO p hp => fn_is hX hO (by kernel_rfl) (.ss .rr .rr)
abbrev cSame (a b : List Int) (k : Nat) : Bool := a.getD k 0 != b.getD k 0
abbrev w47 (a b : List Int) (i : Int) (x : List (Nat × PE gam)) : PSt gam := ⟨[(0, xL 3 a), (1, xL 3 b), (5, xi i)] ++ x, [], []⟩
def z47 (a b : List Int) : Unit ⊕ Nat → Ex × PSt gam
 | .inl _ => (.exit 0, w47 a b a.length [(14, xl false)])
 | .inr _ => (.ret, ⟨[(4, xl false)], [], []⟩)
theorem l47 {n : Nat} {orc : Orc gam} (hO : Ok n orc) (a b : List Int) (hl : a.length ≤ most) (h : a.length = b.length) : Lp n 47 0 (w47 a b 0 []) (z47 a b (srch (cSame a b) a.length)).1 (z47 a b (srch (cSame a b) a.length)).2 :=
 eachN (st := fun i _ => w47 a b i []) (fun _ _ => True) (by kernel_rfl) hl LLm trivial (fun k s n hk _ ih => round hX hO (by kernel_rfl) (.b (lt_nat hk) (.o (inR_nat hk) (.o (inR_nat (h ▸ hk)) (.ls (.ou nofun) (.nx (ih _ trivial))))))) (fun s _ => round hX hO (by kernel_rfl) (.b (lt_no a.length) (.ou nofun)))
theorem cSame_iff {a b : List Int} (h : a.length = b.length) : isL (srch (cSame a b) a.length) = decide (a = b) := by
 rw [Bool.eq_iff_iff, srch_ok, decide_eq_true_eq, eq_getD (d := 0) h]
 simp [cSame]
theorem len_ne {a b : List Int} (h : ((a.length : Int) != (b.length : Int)) = true) : decide (a = b) = false := by
 rw [decide_eq_false_iff_not]; rintro rfl; simp at h
theorem len_eq {α β : Type} {a : List α} {b : List β} (h : ((a.length : Int) != (b.length : Int)) = false) : a.length = b.length := by simp at h; omega
noncomputable def oc47 : Orc gam := orcF 47 (a2 isA isA) tA (fun p => decide (p.1 = p.2)) (fun p => [p.1.length ≤ most]) oc88
theorem gc47 : Gd oc47 := gc88.add fun n hO p hp => fn_is hX hO (by kernel_rfl) (.s (fun h => .v false (len_ne h).symm) fun h => .z (c := isL (srch (cSame p.1 p.2) p.1.length)) (fun h2 => .w (exInl (l47 hO p.1 p.2 (hp _ (.head _)) (len_eq h)) () h2) (.v true (by rw [← cSame_iff (len_eq h), h2]))) fun h2 => .w (exInr (l47 hO p.1 p.2 (hp _ (.head _)) (len_eq h)) 0 h2) (.v false (by rw [← cSame_iff (len_eq h), h2])))
abbrev w79 (a : List Int) (n i : Int) (x : List (Nat × PE gam)) : PSt gam := ⟨[(0, xL 3 a), (5, xi n), (6, xi i)] ++ x, [], []⟩
theorem l79 {n : Nat} {orc : Orc gam} (hO : Ok n orc) (a : List Int) (hl : a.length ≤ most) : Lp n 79 0 (w79 a 1 0 []) (.exit 0) (w79 a (prodC a) a.length [(11, xl false)]) :=
 foldE (st := fun i n => w79 a n i []) (fin := fun n => w79 a n a.length [(11, xl false)]) (fun _ _ => True) (by kernel_rfl) hl LLm trivial (fun _ _ _ _ => trivial) (fun k s hk _ n e p h => round hX hO (by kernel_rfl) (.b (lt_nat hk) (.o (inR_nat hk) (.go h)))) (fun s _ => round hX hO (by kernel_rfl) (.b (lt_no a.length) .ex))
noncomputable def oc79 : Orc gam := orcF 79 (a2 isA iA) iA (fun p => prodC p.1) (fun p => [p.1.length ≤ most, p.2 = 0]) oc47
theorem gc79 : Gd oc79 := gc47.add fun n hO p hp => by
 obtain ⟨a, k⟩ := p
 have h0 : k = 0 := hp _ (.tail _ (.head _))
 subst h0
 exact fn_is hX hO (by kernel_rfl) (.w (l79 hO a (hp _ (.head _))) .rr)
noncomputable def oc21 : Orc gam := orcF 21 (a1 isA) iA (fun p => prodC p) (fun p => [p.length ≤ most]) oc79
theorem gc21 : Gd oc21 := gc79.add fun n hO p hp => fn_is hX hO (by kernel_rfl) (.o (hp _ (.head _)) (.o (rfl : (0 : Int) = 0) .rr))
abbrev cOrdJ (b : List Int) (k j : Nat) : Bool := b.getD j 0 == b.getD k 0
abbrev w116 (a b : List Int) (i : Int) (x : List (Nat × PE gam)) : PSt gam := ⟨[(0, xL 3 a), (1, xL 3 b), (5, xi i)] ++ x, [], []⟩
def z116b (a b : List Int) (k : Int) (i : Int) : Unit ⊕ Nat → Ex × PSt gam
 | .inl _ => (.exit 2, w116 a b k [(6, xi i), (29, xl false)])
 | .inr _ => (.ret, ⟨[(4, xl false)], [], []⟩)
theorem l116b {n : Nat} {orc : Orc gam} (hO : Ok n orc) (a b : List Int) (k : Nat) (hl : k ≤ most) (h : k < b.length) : Lp n 116 1 (w116 a b k [(6, xi 0)]) (z116b a b k k (srch (cOrdJ b k) k)).1 (z116b a b k k (srch (cOrdJ b k) k)).2 :=
 eachN (st := fun i _ => w116 a b k [(6, xi i)]) (fun _ _ => True) (by kernel_rfl) hl LLm trivial (fun j s n hk _ ih => round hX hO (by kernel_rfl) (.b (lt_nat hk) (.o (inR_nat (show j < b.length by omega)) (.o (inR_nat h) (.ls (.ou nofun) (.nx (ih _ trivial))))))) (fun s _ => round hX hO (by kernel_rfl) (.b (lt_no k) (.ou nofun)))
abbrev cOrd (m : Int) (b : List Int) (k : Nat) : Bool := if (!(S_rIn (b.getD k 0) 0 m)) = true then true else if isL (srch (cOrdJ b k) k) = true then false else true
def z116 (a b : List Int) : Unit ⊕ Nat → Ex × PSt gam
 | .inl _ => (.exit 0, w116 a b b.length [(15, xl false)])
 | .inr _ => (.ret, ⟨[(4, xl false)], [], []⟩)
abbrev xw (s : List Int) : Int := IntKind.i64.wrap ((s.length : Int) - 1)
theorem l116 {n : Nat} (hO : Ok n oc21) (a b : List Int) (hl : b.length ≤ most) : Lp n 116 0 (w116 a b 0 []) (z116 a b (srch (cOrd (xw a) b) b.length)).1 (z116 a b (srch (cOrd (xw a) b) b.length)).2 :=
 eachN (st := fun i _ => w116 a b i []) (fun _ _ => True) (by kernel_rfl) hl LLm trivial (fun k s n hk _ ih => by
  unfold gS cOrd
  cases h1 : (!(S_rIn (b.getD k 0) 0 (xw a)))
  ·cases h2 : isL (srch (cOrdJ b k) k)
   ·exact round hX hO (by kernel_rfl) (.b (lt_nat hk) (.o (inR_nat hk) (.b h1 (.w (exInr (l116b hO a b k (by omega) hk) 0 h2) (.ou nofun)))))
   ·exact round hX hO (by kernel_rfl) (.b (lt_nat hk) (.o (inR_nat hk) (.b h1 (.w (exInl (l116b hO a b k (by omega) hk) () h2) (.nx (ih _ trivial))))))
  ·exact round hX hO (by kernel_rfl) (.b (lt_nat hk) (.o (inR_nat hk) (.b h1 (.ou nofun))))
  ) (fun s _ => round hX hO (by kernel_rfl) (.b (lt_no b.length) (.ou nofun)))
theorem xw_eq {s : List Int} (h : s.length ≤ most) : xw s = (s.length : Int) - 1 := by unfold xw; unfold most at h; exact wrap_nn (by omega) (by omega)
theorem rIn_iff {k lo hi : Int} : S_rIn k lo hi = true ↔ lo ≤ k ∧ k ≤ hi := by
 unfold S_rIn; split
 ·rename_i h; simp at h ⊢; omega
 ·rename_i h; simp at h ⊢; omega
theorem cOrd_iff {a b : List Int} (ha : a.length ≤ most) (h : b.length = a.length) : isL (srch (cOrd (xw a) b) b.length) = isOrd a.length b := by
 rw [Bool.eq_iff_iff, srch_ok, isOrd, decide_eq_true_eq]
 have e1 : (∀ j, j < b.length → cOrd (xw a) b j = false) ↔ (∀ j, j < b.length → (0 ≤ b.getD j 0 ∧ b.getD j 0 < a.length) ∧ ∀ i, i < j → b.getD i 0 ≠ b.getD j 0) := by
  refine forall_congr' fun j => forall_congr' fun hj => ?_
  unfold cOrd
  rw [xw_eq ha]
  cases h1 : S_rIn (b.getD j 0) 0 ((a.length : Int) - 1)
  ·simp only [Bool.not_false, if_true, Bool.true_eq_false, false_iff]
   intro h2
   have : S_rIn (b.getD j 0) 0 ((a.length : Int) - 1) = true := by
    rw [rIn_iff]; omega
   rw [h1] at this; cases this
  ·have h3 : 0 ≤ b.getD j 0 ∧ b.getD j 0 < a.length := by
    rw [rIn_iff] at h1; omega
   simp only [Bool.not_true, Bool.false_eq_true, if_false, h3, and_self, true_and]
   cases h2 : isL (srch (cOrdJ b j) j)
   ·simp only [Bool.false_eq_true, if_false, Bool.true_eq_false, false_iff]
    intro h4
    have : isL (srch (cOrdJ b j) j) = true := srch_ok.2 fun i hi => by simpa [cOrdJ] using h4 i hi
    rw [h2] at this; cases this
   ·simp only [if_true, true_iff]
    intro i hi
    have := srch_ok.1 h2 i hi
    simpa [cOrdJ] using this
 rw [e1]
 constructor
 ·intro hq
  refine ⟨h, (all_getD (d := 0)).1 fun j hj => (hq j hj).1, ?_⟩
  rw [List.nodup_iff_pairwise_ne, List.pairwise_iff_getElem]
  intro i j hi hj hij
  have := (hq j hj).2 i hij
  simpa [List.getD, List.getElem?_eq_getElem hi, List.getElem?_eq_getElem hj] using this
 ·rintro ⟨_, h2, h3⟩ j hj
  refine ⟨(all_getD (d := 0)).2 h2 j hj, fun i hi => ?_⟩
  rw [List.nodup_iff_pairwise_ne, List.pairwise_iff_getElem] at h3
  have := h3 i j (by omega) hj hi
  simpa [List.getD, List.getElem?_eq_getElem (show i < b.length by omega), List.getElem?_eq_getElem hj] using this
theorem ord_len {a b : List Int} (h : ((b.length : Int) != (a.length : Int)) = true) : isOrd a.length b = false := by
 unfold isOrd; rw [decide_eq_false_iff_not]; rintro ⟨h1, _⟩; rw [h1] at h; simp at h
noncomputable def oc116 : Orc gam := orcF 116 (a2 isA isA) tA (fun p => isOrd p.1.length p.2) (fun p => [p.1.length ≤ most, p.2.length ≤ most]) oc21
theorem gc116 : Gd oc116 := gc21.add fun n hO p hp => fn_is hX hO (by kernel_rfl) (.s (fun h => .v false (ord_len h).symm) fun h => .z (c := isL (srch (cOrd (xw p.1) p.2) p.2.length)) (fun h2 => .w (exInl (l116 hO p.1 p.2 (hp _ (.tail _ (.head _)))) () h2) (.v true (by rw [← cOrd_iff (hp _ (.head _)) (len_eq h), h2]))) fun h2 => .w (exInr (l116 hO p.1 p.2 (hp _ (.tail _ (.head _)))) 0 h2) (.v false (by rw [← cOrd_iff (hp _ (.head _)) (len_eq h), h2])))
abbrev cSz (a : List Int) (k : Nat) : Bool := !(S_rIn (a.getD k 0) 1 12)
theorem cSz_iff {a : List Int} : isL (srch (cSz a) a.length) = decide (SzOk a) := by
 rw [Bool.eq_iff_iff, srch_ok, decide_eq_true_eq, SzOk, ← all_getD (d := 0)]
 refine forall_congr' fun j => forall_congr' fun hj => ?_
 simp only [cSz, Bool.not_eq_false', rIn_iff]
abbrev w77 (a b : List Int) (i : Int) (x : List (Nat × PE gam)) : PSt gam := ⟨[(0, xL 3 a), (1, xL 3 b), (5, xi i)] ++ x, [], []⟩
def z77 (a b : List Int) : Unit ⊕ Nat → Ex × PSt gam
 | .inl _ => (.exit 0, w77 a b a.length [(12, xl false)])
 | .inr _ => (.ret, ⟨[(4, xi 3)], [], []⟩)
theorem l77 {n : Nat} (hO : Ok n oc116) (a b : List Int) (hl : a.length ≤ most) : Lp n 77 0 (w77 a b 0 []) (z77 a b (srch (cSz a) a.length)).1 (z77 a b (srch (cSz a) a.length)).2 :=
 eachN (st := fun i _ => w77 a b i []) (fun _ _ => True) (by kernel_rfl) hl LLm trivial (fun k s n hk _ ih => round hX hO (by kernel_rfl) (.b (lt_nat hk) (.o (inR_nat hk) (.ls (.ou nofun) (.nx (ih _ trivial)))))) (fun s _ => round hX hO (by kernel_rfl) (.b (lt_no a.length) (.ou nofun)))
def S_frame (s o : List Int) : Int := if decide ((s.length : Int) > 6) = true then 5 else if isL (srch (cSz s) s.length) = true then (if decide (prodC s > 2000) = true then 5 else if (!(isOrd s.length o)) = true then 4 else 0) else 3
theorem len6 {s : List Int} (h : decide ((s.length : Int) > 6) = false) : s.length ≤ 6 := by simp at h; omega
theorem most6 {k : Nat} (h : k ≤ 6) : k ≤ most := by unfold most; omega
noncomputable def oc77 : Orc gam := orcF 77 (a2 isA isA) iA (fun p => S_frame p.1 p.2) (fun p => [p.2.length ≤ most]) oc116
theorem gc77 : Gd oc77 := gc116.add fun n hO p hp => fn_is hX hO (by kernel_rfl) (.sh (fun _ => .rr) fun h => .zh (fun h2 => .w (exInl (l77 hO p.1 p.2 (most6 (len6 h))) () h2) (.o (most6 (len6 h)) (.o (rfl : (0 : Int) = 0) (.ss .rr (.o (most6 (len6 h)) (.o (hp _ (.head _)) (.ss .rr .rr))))))) fun h2 => .w (exInr (l77 hO p.1 p.2 (most6 (len6 h))) 0 h2) .rr)
theorem S_frame_eq (s o : List Int) : S_frame s o = if 6 < s.length then 5 else if SzOk s then (if 2000 < prodI s then 5 else if isOrd s.length o = true then 0 else 4) else 3 := by
 unfold S_frame
 rw [cSz_iff]
 by_cases h1 : 6 < s.length
 ·rw [if_pos h1, if_pos (by simp; omega)]
 ·rw [if_neg h1, if_neg (by simp; omega)]
  by_cases h2 : SzOk s
  ·rw [if_pos (by simpa using h2), if_pos h2, prodC_eq h2]
   by_cases h3 : 2000 < prodI s
   ·rw [if_pos h3, if_pos (by simp; omega)]
   ·rw [if_neg h3, if_neg (by simp; omega)]
    cases isOrd s.length o <;> simp
  ·rw [if_neg (by simpa using h2), if_neg h2]
theorem S_frame_ok {s o : List Int} : S_frame s o = 0 ↔ Fine s ∧ isOrd s.length o = true := by
 rw [S_frame_eq]
 constructor
 ·intro h
  split at h
  ·cases h
  split at h
  ·split at h
   ·cases h
   split at h
   ·exact ⟨⟨by omega, by assumption, by omega⟩, by assumption⟩
   ·cases h
  ·cases h
 ·rintro ⟨⟨h1, h2, h3⟩, h4⟩
  rw [if_neg (by omega), if_pos h2, if_neg (by omega), if_pos h4]
abbrev w71 (a : List Int) (i : Int) (s : Int × List Int) (x : List (Nat × PE gam)) : PSt gam := ⟨[(0, xL 3 a), (1, xi s.1), (5, xo 0), (6, xi i)] ++ x, [], [.list true true 3 s.2]⟩
theorem szk {a : List Int} (hs : SzOk a) {k : Nat} (hk : k < a.length) : a.getD k 0 ≠ 0 := by have := hs _ (getD_mem hk); omega
theorem ge_nat (k : Nat) : decide ((k : Int) ≥ 0) = true := by simp
theorem l71 {n : Nat} {orc : Orc gam} (hO : Ok n orc) (a : List Int) (m : Int) (hl : a.length ≤ most) (hs : SzOk a) : Lp n 71 0 (w71 a (IntKind.i64.wrap ((a.length : Int) - 1)) (m, List.replicate a.length 0) []) (.exit 0) (w71 a (-1) (downN (gNth a) a.length (m, List.replicate a.length 0)) [(14, xl false)]) :=
 downE (st := fun i s => w71 a i s []) (fin := fun s => w71 a (-1) s [(14, xl false)]) (fun _ s => s.2.length = a.length) (by kernel_rfl) hl LLm (by simp) (fun k s _ h => by simp [gNth, h]) (fun k s hk hi n e p h => round hX hO (by kernel_rfl) (.b (ge_nat k) (.o (inR_nat hk) (.o (szk hs hk) (.o (inR_nat (show k < s.2.length by omega)) (.o (inR_nat hk) (.o (szk hs hk) (.go h)))))))) (fun s _ => round hX hO (by kernel_rfl) (.b (rfl : decide ((-1 : Int) ≥ 0) = false) .ex))
theorem mk1 {α : Type} (l : List α) : (l.length : Int) = (l.length : Int) := rfl
theorem mk2 {α : Type} (l : List α) : (0 : Int) ≤ (l.length : Int) := by omega
theorem mk3 {α : Type} {l : List α} (h : l.length ≤ most) : (l.length : Int) ≤ (most : Int) := by omega
noncomputable def oc71 : Orc gam := orcF 71 (a2 isA iA) isA (fun p => nthI p.1 p.2) (fun p => [p.1.length ≤ most, SzOk p.1, 0 ≤ p.2, p.2 < 2 ^ 62]) oc77
theorem gc71 : Gd oc71 := gc77.add fun n hO p hp => fn_is hX hO (by kernel_rfl) (.o (mk1 p.1) (.o (mk2 p.1) (.o (mk3 (hp _ (.head _))) (.w (l71 hO p.1 p.2 (hp _ (.head _)) (hp _ (.tail _ (.head _)))) (.v (downN (gNth p.1) p.1.length (p.2, List.replicate p.1.length 0)).2 (nth_down (hp _ (.tail _ (.head _))) (hp _ (.tail _ (.tail _ (.head _)))) (hp _ (.tail _ (.tail _ (.tail _ (.head _))))) List.length_replicate))))))
theorem pl_len {a b : List Int} (h : ((b.length : Int) != (a.length : Int)) = true) : isPl a b = false := by
 cases h2 : isPl a b
 ·rfl
 ·rw [isPl_len h2] at h; simp at h
def vOk (v : V) : Bool := if (v.f == 0) = true then S_rIn v.n (-9999) 9999 else if (decide (v.f ≤ 4)) = true then v.n == 0 else false
def vIs (v : V) : Bool := if (decide (v.f > 0)) = true then (if (decide (v.f ≤ 4)) = true then v.n == 0 else false) else S_rIn v.n (-9999) 9999
noncomputable def oc101 : Orc gam := orcF 101 (a1 vA) tA (fun p => vIs p) np oc71
theorem gc101 : Gd oc101 := gc71.add fun n hO p hp => fn_is hX hO (by kernel_rfl) (.ss (.ss .rr .rr) (.ss .rr .rr))
end Go.Proofs.YtmefgijobonklaaGreat
namespace Go.Proofs.YtmefgijobonklaaGreat
open Go Tw Pv Mist
def iotaI (n : Nat) : List Int := (List.range n).map fun (k : Nat) => (k : Int)
theorem iotaI_fold (n : Nat) : foldN (fun k (s : List Int) => s ++ [(k : Int)]) n 0 [] = iotaI n := by
 have := foldN_inv (g := fun k (s : List Int) => s ++ [(k : Int)]) (m := n) (k := 0) (s := []) (fun k s => s = iotaI k) rfl (fun j s _ _ h => by rw [h, iotaI, iotaI, List.range_succ, List.map_append]; rfl)
 simpa using this
theorem iotaI_len (n : Nat) : (iotaI n).length = n := by simp [iotaI]
theorem iotaI_ord (n : Nat) : isOrd n (iotaI n) = true := by
 unfold isOrd; rw [decide_eq_true_eq]
 refine ⟨iotaI_len n, fun a ha => ?_, ?_⟩
 ·simp only [iotaI, List.mem_map, List.mem_range] at ha; obtain ⟨k, h1, rfl⟩ := ha; omega
 ·unfold iotaI
  exact List.Pairwise.map _ (fun a b h => by omega) List.nodup_range
abbrev w78 (a : List Int) (i : Int) (s : List Int) (x : List (Nat × PE gam)) : PSt gam := ⟨[(0, xL 3 a), (3, xo 0), (4, xi i)] ++ x, [], [.list false false 3 s]⟩
theorem l78 {n : Nat} {orc : Orc gam} (hO : Ok n orc) (a : List Int) (hl : a.length ≤ most) : Lp n 78 0 (w78 a 0 [] []) (.exit 0) (w78 a a.length (iotaI a.length) [(8, xl false)]) := by
 rw [← iotaI_fold]
 exact foldE (s0 := ([] : List Int)) (g := fun k s => s ++ [(k : Int)]) (st := fun i s => w78 a i s []) (fin := fun s => w78 a a.length s [(8, xl false)]) (fun k s => s.length = k) (by kernel_rfl) hl LLm rfl (fun k s _ h => by simp [h]) (fun k s hk hi n e p h => round hX hO (by kernel_rfl) (.b (lt_nat hk) (.o (show s.length + 1 ≤ most by omega) (.goG [.gc [2]] h)))) (fun s _ => round hX hO (by kernel_rfl) (.b (lt_no a.length) .ex))
noncomputable def oc78 : Orc gam := orcF 78 (a1 isA) isA (fun p => iotaI p.length) (fun p => [p.length ≤ most]) oc101
theorem gc78 : Gd oc78 := gc101.add fun n hO p hp => fn_is hX hO (by kernel_rfl) (.wG [.nilE 3 3] (l78 hO p (hp _ (.head _))) .rr)
def S_sizes (s : List Int) : Int := if 6 < s.length then 5 else if SzOk s then (if 2000 < prodI s then 5 else 0) else 3
theorem frame_iota (s : List Int) : S_frame s (iotaI s.length) = S_sizes s := by
 rw [S_frame_eq, S_sizes, iotaI_ord]; rfl
theorem S_sizes_ok {s : List Int} : S_sizes s = 0 ↔ Fine s := by
 rw [← frame_iota, S_frame_ok, iotaI_ord]; simp
noncomputable def oc20 : Orc gam := orcF 20 (a1 isA) iA (fun p => S_sizes p) (fun p => [p.length ≤ most]) oc78
theorem gc20 : Gd oc20 := gc78.add fun n hO p hp => fn_is hX hO (by kernel_rfl) (.o (hp _ (.head _)) (.o (show (iotaI p.length).length ≤ most by rw [iotaI_len]; exact hp _ (.head _)) (.v _ (frame_iota p))))
abbrev cRow (s : List Int) (r : Rw) (k : Nat) : Bool := if decide (r.fr.getD k 0 < 0) = true then true else if decide (r.fr.getD k 0 > r.to.getD k 0) = true then true else decide (r.to.getD k 0 ≥ s.getD k 0)
abbrev w55 (a : List Int) (r : Rw) (i : Int) (x : List (Nat × PE gam)) : PSt gam := ⟨[(0, xL 3 a), (3, .loc 0 0), (5, xi i)] ++ x, [r.ps], []⟩
def z55 (a : List Int) (r : Rw) : Unit ⊕ Nat → Ex × PSt gam
 | .inl _ => (.exit 0, w55 a r a.length [(29, xl false)])
 | .inr _ => (.ret, ⟨[(4, xl false)], [r.ps], []⟩)
theorem l55 {n : Nat} {orc : Orc gam} (hO : Ok n orc) (a : List Int) (r : Rw) (hl : a.length ≤ most) (hf : r.fr.length = a.length) (ht : r.to.length = a.length) : Lp n 55 0 (w55 a r 0 []) (z55 a r (srch (cRow a r) a.length)).1 (z55 a r (srch (cRow a r) a.length)).2 :=
 eachN (st := fun i _ => w55 a r i []) (fun _ _ => True) (by kernel_rfl) hl LLm trivial (fun k s n hk _ ih => by
  have h1 : inR k r.fr.length := inR_nat (by omega)
  have h2 : inR k r.to.length := inR_nat (by omega)
  unfold gS cRow
  cases e1 : decide (r.fr.getD k 0 < 0)
  ·cases e2 : decide (r.fr.getD k 0 > r.to.getD k 0)
   ·exact round hX hO (by kernel_rfl) (.b (lt_nat hk) (.o h1 (.b e1 (.o h1 (.o h2 (.b e2 (.o h2 (.o (inR_nat hk) (.ls (.ou nofun) (.nx (ih _ trivial)))))))))))
   ·exact round hX hO (by kernel_rfl) (.b (lt_nat hk) (.o h1 (.b e1 (.o h1 (.o h2 (.b e2 (.ou nofun)))))))
  ·exact round hX hO (by kernel_rfl) (.b (lt_nat hk) (.o h1 (.b e1 (.ou nofun))))
  ) (fun s _ => round hX hO (by kernel_rfl) (.b (lt_no a.length) (.ou nofun)))
def S_isRow21 (s : List Int) (r : Rw) : Bool := if ((r.fr.length : Int) != (s.length : Int)) = true then false else if ((r.to.length : Int) != (s.length : Int)) = true then false else if (!(vIs r.cell)) = true then false else if isL (srch (cRow s r) s.length) = true then true else false
noncomputable def oc55 : Orc gam := orcF 55 (a2 isA rwA) tA (fun p => S_isRow21 p.1 p.2) (fun p => [p.1.length ≤ most]) oc20
theorem gc55 : Gd oc55 := gc20.add fun n hO p hp => fn_is hX hO (by kernel_rfl) (.sh (fun _ => .rr) fun h1 => .sh (fun _ => .rr) fun h2 => .ss .rr (.zh (fun h => .w (exInl (l55 hO p.1 p.2 (hp _ (.head _)) (len_eq h1) (len_eq h2)) () h) .rr) fun h => .w (exInr (l55 hO p.1 p.2 (hp _ (.head _)) (len_eq h1) (len_eq h2)) 0 h) .rr))
abbrev cHas (r : Rw) (p : List Int) (k : Nat) : Bool := if decide (p.getD k 0 < r.fr.getD k 0) = true then true else decide (p.getD k 0 > r.to.getD k 0)
abbrev w122 (r : Rw) (p : List Int) (i : Int) (x : List (Nat × PE gam)) : PSt gam := ⟨[(1, xL 3 p), (2, .loc 0 0), (5, xi i)] ++ x, [r.ps], []⟩
def z122 (r : Rw) (p : List Int) : Unit ⊕ Nat → Ex × PSt gam
 | .inl _ => (.exit 0, w122 r p p.length [(9, xl false)])
 | .inr _ => (.ret, ⟨[(4, xl false)], [r.ps], []⟩)
theorem l122 {n : Nat} {orc : Orc gam} (hO : Ok n orc) (r : Rw) (p : List Int) (hl : p.length ≤ most) (hf : r.fr.length = p.length) (ht : r.to.length = p.length) : Lp n 122 0 (w122 r p 0 []) (z122 r p (srch (cHas r p) p.length)).1 (z122 r p (srch (cHas r p) p.length)).2 :=
 eachN (st := fun i _ => w122 r p i []) (fun _ _ => True) (by kernel_rfl) hl LLm trivial (fun k s n hk _ ih => by
  have h1 : inR k r.fr.length := inR_nat (by omega)
  have h2 : inR k r.to.length := inR_nat (by omega)
  unfold gS cHas
  cases e1 : decide (p.getD k 0 < r.fr.getD k 0)
  ·exact round hX hO (by kernel_rfl) (.b (lt_nat hk) (.o (inR_nat hk) (.o h1 (.b e1 (.o (inR_nat hk) (.o h2 (.ls (.ou nofun) (.nx (ih _ trivial)))))))))
  ·exact round hX hO (by kernel_rfl) (.b (lt_nat hk) (.o (inR_nat hk) (.o h1 (.b e1 (.ou nofun)))))
  ) (fun s _ => round hX hO (by kernel_rfl) (.b (lt_no p.length) (.ou nofun)))
def hasR (r : Rw) (p : List Int) : Bool := isL (srch (cHas r p) p.length)
noncomputable def oc122 : Orc gam := orcF 122 (a2 rwA isA) tA (fun p => hasR p.1 p.2) (fun p => [p.2.length ≤ most, p.1.fr.length = p.2.length, p.1.to.length = p.2.length]) oc55
theorem gc122 : Gd oc122 := gc55.add fun n hO p hp => fn_is hX hO (by kernel_rfl) (.z (c := isL (srch (cHas p.1 p.2) p.2.length)) (fun h => .w (exInl (l122 hO p.1 p.2 (hp _ (.head _)) (hp _ (.tail _ (.head _))) (hp _ (.tail _ (.tail _ (.head _))))) () h) (.v true (by rw [hasR, h]))) fun h => .w (exInr (l122 hO p.1 p.2 (hp _ (.head _)) (hp _ (.tail _ (.head _))) (hp _ (.tail _ (.tail _ (.head _))))) 0 h) (.v false (by rw [hasR, h])))
def gOwn (t : List Rw) (p : List Int) (k : Nat) (x : Int × Int) : Int × Int := if hasR (t.getD k Rw0) p = true then (IntKind.i64.wrap (x.1 + 1), (k : Int)) else x
def S_Owners (t : List Rw) (p : List Int) : Int × Int := foldN (gOwn t p) t.length 0 (0, -1)
def RowsL (t : List Rw) (n : Nat) : Prop := ∀ r ∈ t, r.fr.length = n ∧ r.to.length = n
abbrev w81 (t : List Rw) (p : List Int) (i : Int) (s : Int × Int) (x : List (Nat × PE gam)) : PSt gam := ⟨[(1, xL 3 p), (2, .loc 0 0), (6, xi s.1), (7, xi s.2), (8, xi i)] ++ x, [[lRw t]], []⟩
theorem rowL_at {t : List Rw} {n : Nat} (h : RowsL t n) {k : Nat} (hk : k < t.length) : (t.getD k Rw0).fr.length = n ∧ (t.getD k Rw0).to.length = n := all_getD.2 h k hk
theorem l81 {n : Nat} (hO : Ok n oc122) (t : List Rw) (p : List Int) (hl : t.length ≤ most) (hp : p.length ≤ most) (hr : RowsL t p.length) : Lp n 81 0 (w81 t p 0 (0, -1) []) (.exit 0) (w81 t p t.length (S_Owners t p) [(13, xl false)]) :=
 foldE (g := gOwn t p) (s0 := ((0, -1) : Int × Int)) (st := fun i s => w81 t p i s []) (fin := fun s => w81 t p t.length s [(13, xl false)]) (fun _ _ => True) (by kernel_rfl) hl LLm trivial (fun _ _ _ _ => trivial) (fun k s hk _ n e q h => by
  have h1 := rowL_at hr hk
  unfold gOwn at h
  cases h2 : hasR (t.getD k Rw0) p
  ·rw [h2, if_neg (by simp)] at h; exact round hX hO (by kernel_rfl) (.b (lt_nat hk) (.o (inR_nat hk) (.o hp (.o h1.1 (.o h1.2 (.b h2 (.go h)))))))
  ·rw [h2, if_pos rfl] at h; exact round hX hO (by kernel_rfl) (.b (lt_nat hk) (.o (inR_nat hk) (.o hp (.o h1.1 (.o h1.2 (.b h2 (.go h)))))))
  ) (fun s _ => round hX hO (by kernel_rfl) (.b (lt_no t.length) .ex))
noncomputable def oc81 : Orc gam := orcF 81 (a2 tbA isA) (tupA (a2 iA iA)) (fun p => S_Owners p.1 p.2) (fun p => [p.1.length ≤ most, p.2.length ≤ most, RowsL p.1 p.2.length]) oc122
theorem gc81 : Gd oc81 := gc122.add fun n hO p hp => fn_is hX hO (by kernel_rfl) (.w (l81 hO p.1 p.2 (hp _ (.head _)) (hp _ (.tail _ (.head _))) (hp _ (.tail _ (.tail _ (.head _))))) .rr)
def S_At (t : List Rw) (p : List Int) : V := (t.getD (S_Owners t p).2.toNat Rw0).cell
noncomputable def oc68 : Orc gam := orcF 68 (a2 tbA isA) vA (fun p => S_At p.1 p.2) (fun p => [p.1.length ≤ most, p.2.length ≤ most, RowsL p.1 p.2.length, inR (S_Owners p.1 p.2).2 p.1.length]) oc81
theorem gc68 : Gd oc68 := gc81.add fun n hO p hp => fn_is hX hO (by kernel_rfl) (.o (hp _ (.head _)) (.o (hp _ (.tail _ (.head _))) (.o (hp _ (.tail _ (.tail _ (.head _)))) (.o (hp _ (.tail _ (.tail _ (.tail _ (.head _))))) .rr))))
structure Laid (s : List Int) (t : List Rw) : Prop where
 fine : Fine s
 len : t.length ≤ 4000
 rows : RowsL t s.length
 own : ∀ p, isPl s p = true → inR (S_Owners t p).2 t.length
abbrev atN (s : List Int) (t : List Rw) (n : Nat) : V := S_At t (nthI s n)
def S_List (s : List Int) (t : List Rw) : List V := (List.range (Mist.cnt s)).map (atN s t)
abbrev cRows (s : List Int) (t : List Rw) (k : Nat) : Bool := !(S_isRow21 s (t.getD k Rw0))
abbrev w29a (s : List Int) (t : List Rw) (i : Int) (x : List (Nat × PE gam)) : PSt gam := ⟨[(0, xL 3 s), (3, .loc 0 0), (6, xi i)] ++ x, [[lRw t]], []⟩
def z29a (s : List Int) (t : List Rw) : Unit ⊕ Nat → Ex × PSt gam
 | .inl _ => (.exit 0, w29a s t t.length [(24, xl false)])
 | .inr _ => (.ret, ⟨[(4, xi 4)], [[lRw t]], []⟩)
theorem l29a {n : Nat} (hO : Ok n oc68) (s : List Int) (t : List Rw) (hl : t.length ≤ most) (hs : s.length ≤ most) : Lp n 29 0 (w29a s t 0 []) (z29a s t (srch (cRows s t) t.length)).1 (z29a s t (srch (cRows s t) t.length)).2 :=
 eachN (st := fun i _ => w29a s t i []) (fun _ _ => True) (by kernel_rfl) hl LLm trivial (fun k _ n hk _ ih => round hX hO (by kernel_rfl) (.b (lt_nat hk) (.o (inR_nat hk) (.o hs (.ls (.ou nofun) (.nx (ih _ trivial))))))) (fun _ _ => round hX hO (by kernel_rfl) (.b (lt_no t.length) (.ou nofun)))
def gNone (s : List Int) (t : List Rw) (k : Nat) (x : Bool) : Bool ⊕ Unit := if decide ((S_Owners t (nthI s k)).1 > 1) = true then .inr () else if x = true then .inl true else .inl ((S_Owners t (nthI s k)).1 == 0)
abbrev w29b (s : List Int) (t : List Rw) (i : Int) (b : Bool) (x : List (Nat × PE gam)) : PSt gam := ⟨[(0, xL 3 s), (3, .loc 0 0), (7, xt b), (8, xi i)] ++ x, [[lRw t]], []⟩
def z29b (s : List Int) (t : List Rw) : Bool ⊕ Unit → Ex × PSt gam
 | .inl b => (.exit 2, w29b s t (Mist.cnt s) b [(38, xl false)])
 | .inr _ => (.ret, ⟨[(4, xi 6)], [[lRw t]], []⟩)
theorem l29b {n : Nat} (hO : Ok n oc68) {s : List Int} {t : List Rw} (hl : t.length ≤ most) (hf : Fine s) (hr : RowsL t s.length) : Lp n 29 1 (w29b s t 0 false []) (z29b s t (cntN (gNone s t) (Mist.cnt s) 0 false)).1 (z29b s t (cntN (gNone s t) (Mist.cnt s) 0 false)).2 :=
 eachN (st := fun i b => w29b s t i b []) (fun _ _ => True) (by kernel_rfl) hf.cnt_most LLm trivial (fun k b n hk _ ih => by
  have h1 : (nthI s k).length ≤ most := by rw [nthI_len]; exact hf.lenM
  have h2 : RowsL t (nthI s k).length := by rw [nthI_len]; exact hr
  unfold gNone
  cases e1 : decide ((S_Owners t (nthI s k)).1 > 1)
  ·cases b
   ·exact round hX hO (by kernel_rfl) (.o hf.lenM (.b (hf.lt hk) (.o hf.lenM (.o hf.sz (.o (nn k) (.o (nm (show k ≤ most by have := hf.cnt_most; omega)) (.o hl (.o h1 (.o h2 (.b e1 (.b (rfl : false = false) (.nx (ih _ trivial)))))))))))))
   ·exact round hX hO (by kernel_rfl) (.o hf.lenM (.b (hf.lt hk) (.o hf.lenM (.o hf.sz (.o (nn k) (.o (nm (show k ≤ most by have := hf.cnt_most; omega)) (.o hl (.o h1 (.o h2 (.b e1 (.b (rfl : true = true) (.nxG [.lit] (ih _ trivial)))))))))))))
  ·exact round hX hO (by kernel_rfl) (.o hf.lenM (.b (hf.lt hk) (.o hf.lenM (.o hf.sz (.o (nn k) (.o (nm (show k ≤ most by have := hf.cnt_most; omega)) (.o hl (.o h1 (.o h2 (.b e1 (.ou nofun)))))))))))
  ) (fun b _ => round hX hO (by kernel_rfl) (.o hf.lenM (.b hf.no (.ou nofun))))
def S_rTab (s : List Int) (t : List Rw) : Int := if (S_sizes s != 0) = true then S_sizes s else if decide ((t.length : Int) > 4000) = true then 5 else if isL (srch (cRows s t) t.length) = true then (if isL (cntN (gNone s t) (Mist.cnt s) 0 false) = true then (if getL false (cntN (gNone s t) (Mist.cnt s) 0 false) = true then 7 else 0) else 6) else 4
theorem most4 {k : Nat} (h : decide ((k : Int) > 4000) = false) : k ≤ most := by simp at h; unfold most; omega
theorem fine_of {s : List Int} (h : (S_sizes s != 0) = false) : Fine s := S_sizes_ok.1 (by simpa using h)
theorem isRow_len {s : List Int} {r : Rw} (h : S_isRow21 s r = true) : r.fr.length = s.length ∧ r.to.length = s.length := by
 unfold S_isRow21 at h
 split at h
 ·cases h
 split at h
 ·cases h
 rename_i h1 h2
 exact ⟨len_eq (by simpa using h1), len_eq (by simpa using h2)⟩
theorem rowsL_of {s : List Int} {t : List Rw} (h : isL (srch (cRows s t) t.length) = true) : RowsL t s.length := by
 refine (all_getD (d := Rw0) (p := fun r => r.fr.length = s.length ∧ r.to.length = s.length)).1 fun j hj => isRow_len ?_
 simpa [cRows] using srch_ok.1 h j hj
noncomputable def oc29 : Orc gam := orcF 29 (a2 isA tbA) iA (fun p => S_rTab p.1 p.2) (fun p => [p.1.length ≤ most]) oc68
theorem gc29 : Gd oc29 := gc68.add fun n hO p hp => fn_is hX hO (by kernel_rfl) (.o (hp _ (.head _)) (.sh (fun _ => .rr) fun h1 => .sh (fun _ => .rr) fun h2 => .zh (fun h3 => .w (exInl (l29a hO p.1 p.2 (most4 h2) (hp _ (.head _))) () h3) (.zh (fun h4 => .wG [.lit] (exInl (l29b hO (most4 h2) (fine_of h1) (rowsL_of h3)) false h4) (.ss .rr .rr)) fun h4 => .wG [.lit] (exInr (l29b hO (most4 h2) (fine_of h1) (rowsL_of h3)) () h4) .rr)) fun h3 => .w (exInr (l29a hO p.1 p.2 (most4 h2) (hp _ (.head _))) 0 h3) .rr))
def S_Tables (c : Int) : Int := if (c == 5) = true then 1 else if (c == 6) = true then 1 else if decide (c ≥ 7) = true then (if decide (c ≤ 16) = true then 2 else if (c == 17) = true then 3 else 0) else if (c == 17) = true then 3 else 0
noncomputable def oc34 : Orc gam := orcF 34 (a1 uA) iA (fun p => S_Tables p) np oc29
theorem gc34 : Gd oc34 := gc29.add fun n hO p hp => fn_is hX hO (by kernel_rfl) (.ss .rr (.ss .rr (.ss (.ss .rr (.ss .rr .rr)) (.ss .rr .rr))))
end Go.Proofs.YtmefgijobonklaaGreat
namespace Go.Proofs.YtmefgijobonklaaGreat
open Go Tw Pv Mist
abbrev V.tv (v : V) : TV := .agg [.int .u8 v.f, .int .i64 v.n]
abbrev B.tv (b : B) : TV := .agg [.int .i64 b.lo, .int .i64 b.hi, .int .u8 b.f]
theorem uInt : Tryz.prog.underlying 3 = some (.int .i64) := by kernel_rfl
theorem uU8 : Tryz.prog.underlying 5 = some (.int .u8) := by kernel_rfl
theorem uVal : Tryz.prog.underlying 58 = some (.struct #[⟨"Fault", 5, 0, false, "", "", 0⟩, ⟨"N", 3, 1, false, "", "", 8⟩]) := by kernel_rfl
theorem prVal (d : Nat) (a b : V) : pureRun Tryz.prog (Op.equalIn (d + 2) 58 (.agg #[.int .u8 a.f, .int .i64 a.n]) (.agg #[.int .u8 b.f, .int .i64 b.n])) = some (decide (a = b)) := by
 rw [pr_equalIn_struct (d + 1) 58 _ _ _ uVal (by kernel_rfl)]
 have p0 : ∀ x y : Value, pureRun Tryz.prog (part 5 #[x, y] 0) = some x := by intro x y; kernel_rfl
 have p1 : ∀ x y : Value, pureRun Tryz.prog (part 3 #[x, y] 1) = some y := by intro x y; kernel_rfl
 have n1 : ("Fault" : String) ≠ "_" := by decide
 have n2 : ("N" : String) ≠ "_" := by decide
 have q1 := pr_eqFields_cons (f := ⟨"Fault", 5, 0, false, "", "", 0⟩) (fs := [⟨"N", 3, 1, false, "", "", 8⟩]) n1 (p0 (.int .u8 a.f) (.int .i64 a.n)) (p0 (.int .u8 b.f) (.int .i64 b.n)) (pr_equalIn_int d _ _ _ _ _ uU8)
 have q2 := pr_eqFields_cons (f := ⟨"N", 3, 1, false, "", "", 8⟩) (fs := []) n2 (p1 (.int .u8 a.f) (.int .i64 a.n)) (p1 (.int .u8 b.f) (.int .i64 b.n)) (pr_equalIn_int d _ _ _ _ _ uInt)
 rw [q1, q2]
 rw [show pureRun Tryz.prog (Op.eqFields (d + 1) #[.int .u8 a.f, .int .i64 a.n] #[.int .u8 b.f, .int .i64 b.n] []) = some true from rfl]
 rcases a with ⟨a1, a2⟩
 rcases b with ⟨b1, b2⟩
 by_cases h1 : a1 = b1 <;> by_cases h2 : a2 = b2 <;> simp [h1, h2]
theorem neV (x y : Operand) (a b : V) : binT Tryz.prog .neq 58 x y (V.tv a) (V.tv b) = some (.bool (!decide (a = b))) := (binT_eql_agg rfl rfl (by kernel_rfl) (by decide) (prVal 9998 a b)).2
end Go.Proofs.YtmefgijobonklaaGreat
namespace Go.Proofs.YtmefgijobonklaaGreat
open Go Tw Pv Mist
abbrev cAl (a b : List V) (k : Nat) : Bool := !decide (a.getD k V0 = b.getD k V0)
abbrev w66 (a b : List V) (i : Int) (x : List (Nat × PE gam)) : PSt gam := ⟨[(0, xL 58 a), (1, xL 58 b), (5, xi i)] ++ x, [], []⟩
def z66 (a b : List V) : Unit ⊕ Nat → Ex × PSt gam
 | .inl _ => (.exit 0, w66 a b a.length [(14, xl false)])
 | .inr _ => (.ret, ⟨[(4, xl false)], [], []⟩)
theorem l66 {n : Nat} {orc : Orc gam} (hO : Ok n orc) (a b : List V) (hl : a.length ≤ most) (h : a.length = b.length) : Lp n 66 0 (w66 a b 0 []) (z66 a b (srch (cAl a b) a.length)).1 (z66 a b (srch (cAl a b) a.length)).2 :=
 eachN (st := fun i _ => w66 a b i []) (fun _ _ => True) (by kernel_rfl) hl LLm trivial (fun k s n hk _ ih => round hX hO (by kernel_rfl) (.b (lt_nat hk) (.o (inR_nat hk) (.o (inR_nat (h ▸ hk)) (.q (.bool (cAl a b k)) (neV (.tmp 20) (.tmp 24) (a.getD k V0) (b.getD k V0)) (.ls (.ou nofun) (.nx (ih _ trivial)))))))) (fun s _ => round hX hO (by kernel_rfl) (.b (lt_no a.length) (.ou nofun)))
theorem cAl_iff {a b : List V} (h : a.length = b.length) : isL (srch (cAl a b) a.length) = decide (a = b) := by
 rw [Bool.eq_iff_iff, srch_ok, decide_eq_true_eq, eq_getD (d := V0) h]
 simp [cAl]
theorem len_neV {a b : List V} (h : ((a.length : Int) != (b.length : Int)) = true) : decide (a = b) = false := by
 rw [decide_eq_false_iff_not]; rintro rfl; simp at h
noncomputable def oc66 : Orc gam := orcF 66 (a2 vsA vsA) tA (fun p => decide (p.1 = p.2)) (fun p => [p.1.length ≤ most]) oc34
theorem gc66 : Gd oc66 := gc34.add fun n hO p hp => fn_is hX hO (by kernel_rfl) (.s (fun h => .v false (len_neV h).symm) fun h => .z (c := isL (srch (cAl p.1 p.2) p.1.length)) (fun h2 => .w (exInl (l66 hO p.1 p.2 (hp _ (.head _)) (len_eq h)) () h2) (.v true (by rw [← cAl_iff (len_eq h), h2]))) fun h2 => .w (exInr (l66 hO p.1 p.2 (hp _ (.head _)) (len_eq h)) 0 h2) (.v false (by rw [← cAl_iff (len_eq h), h2])))
def S_Result (c : Int) (l : List V) : V := if ((l.length : Int) == 1) = true then S_rOp1 c (l.getD 0 V0) else if ((l.length : Int) == 2) = true then S_rOp2 c (l.getD 0 V0) (l.getD 1 V0) else S_rChoose (l.getD 0 V0) (l.getD 1 V0) (l.getD 2 V0)
noncomputable def oc84 : Orc gam := orcF 84 (a2 uA vsA) vA (fun p => S_Result p.1 p.2) (fun p => [1 ≤ p.2.length ∧ p.2.length ≤ 3, ∀ v ∈ p.2, inN v.n]) oc66
theorem gc84 : Gd oc84 := gc66.add fun n hO p hp => fn_is hX hO (by kernel_rfl) (.sh (fun h1 => .o (show inR 0 p.2.length by have := (show 1 ≤ p.2.length ∧ p.2.length ≤ 3 from hp _ (.head _)); exact ⟨by omega, by omega⟩) .rr) fun h1 => .sh (fun h2 => .o (show inR 0 p.2.length by have := (show 1 ≤ p.2.length ∧ p.2.length ≤ 3 from hp _ (.head _)); exact ⟨by omega, by omega⟩) (.o (show inR 1 p.2.length by simp at h2; exact ⟨by omega, by omega⟩) (.o (show inN (p.2.getD 0 V0).n by simp at h2; exact (all_getD (d := V0) (p := fun v => inN v.n)).2 (hp _ (.tail _ (.head _))) 0 (by omega)) (.o (show inN (p.2.getD 1 V0).n by simp at h2; exact (all_getD (d := V0) (p := fun v => inN v.n)).2 (hp _ (.tail _ (.head _))) 1 (by omega)) .rr)))) fun h2 => .o (show inR 0 p.2.length by have := (show 1 ≤ p.2.length ∧ p.2.length ≤ 3 from hp _ (.head _)); exact ⟨by omega, by omega⟩) (.o (show inR 1 p.2.length by have := (show 1 ≤ p.2.length ∧ p.2.length ≤ 3 from hp _ (.head _)); simp at h1 h2; exact ⟨by omega, by omega⟩) (.o (show inR 2 p.2.length by have := (show 1 ≤ p.2.length ∧ p.2.length ≤ 3 from hp _ (.head _)); simp at h1 h2; exact ⟨by omega, by omega⟩) .rr)))
abbrev cEq (a b : List Rw) (k : Nat) : Bool := if (!(decide ((a.getD k Rw0).fr = (b.getD k Rw0).fr))) = true then true else if (!(decide ((a.getD k Rw0).to = (b.getD k Rw0).to))) = true then true else !(decide ((a.getD k Rw0).cell = (b.getD k Rw0).cell))
abbrev w24 (a b : List Rw) (i : Int) (x : List (Nat × PE gam)) : PSt gam := ⟨[(2, .loc 0 0), (3, .loc 1 0), (5, xi i)] ++ x, [[lRw a], [lRw b]], []⟩
def z24 (a b : List Rw) : Unit ⊕ Nat → Ex × PSt gam
 | .inl _ => (.exit 0, w24 a b a.length [(19, xl false)])
 | .inr k => (.ret, ⟨[(4, xl false)], [[lRw a], [lRw b], (a.getD k Rw0).ps, (b.getD k Rw0).ps], []⟩)
theorem l24 {n : Nat} (hO : Ok n oc84) (a b : List Rw) (hl : a.length ≤ most) (h : a.length = b.length) (hf : ∀ r ∈ a, r.fr.length ≤ most ∧ r.to.length ≤ most) : Lp n 24 0 (w24 a b 0 []) (z24 a b (srch (cEq a b) a.length)).1 (z24 a b (srch (cEq a b) a.length)).2 :=
 eachN (st := fun i _ => w24 a b i []) (fun _ _ => True) (by kernel_rfl) hl LLm trivial (fun k s n hk _ ih => by
  have h1 := (all_getD (d := Rw0) (p := fun r => r.fr.length ≤ most ∧ r.to.length ≤ most)).2 hf k hk
  have h2 : inR k b.length := inR_nat (by omega)
  unfold gS cEq
  cases e1 : !(decide ((a.getD k Rw0).fr = (b.getD k Rw0).fr))
  ·cases e2 : !(decide ((a.getD k Rw0).to = (b.getD k Rw0).to))
   ·exact round hX hO (by kernel_rfl) (.b (lt_nat hk) (.o (inR_nat hk) (.o h2 (.o h1.1 (.b e1 (.o h1.2 (.b e2 (.q (.bool (!(decide ((a.getD k Rw0).cell = (b.getD k Rw0).cell)))) (neV (.tmp 48) (.tmp 50) (a.getD k Rw0).cell (b.getD k Rw0).cell) (.ls (.ou nofun) (.nx (ih _ trivial)))))))))))
   ·exact round hX hO (by kernel_rfl) (.b (lt_nat hk) (.o (inR_nat hk) (.o h2 (.o h1.1 (.b e1 (.o h1.2 (.b e2 (.ou nofun))))))))
  ·exact round hX hO (by kernel_rfl) (.b (lt_nat hk) (.o (inR_nat hk) (.o h2 (.o h1.1 (.b e1 (.ou nofun))))))
  ) (fun s _ => round hX hO (by kernel_rfl) (.b (lt_no a.length) (.ou nofun)))
theorem cEq_iff {a b : List Rw} (h : a.length = b.length) : isL (srch (cEq a b) a.length) = decide (a = b) := by
 rw [Bool.eq_iff_iff, srch_ok, decide_eq_true_eq, eq_getD (d := Rw0) h]
 refine forall_congr' fun j => forall_congr' fun hj => ?_
 unfold cEq
 generalize a.getD j Rw0 = x; generalize b.getD j Rw0 = y
 rcases x with ⟨x1, x2, x3⟩; rcases y with ⟨y1, y2, y3⟩
 by_cases h1 : x1 = y1 <;> by_cases h2 : x2 = y2 <;> by_cases h3 : x3 = y3 <;> simp [h1, h2, h3]
theorem len_neR {a b : List Rw} (h : ((a.length : Int) != (b.length : Int)) = true) : decide (a = b) = false := by
 rw [decide_eq_false_iff_not]; rintro rfl; simp at h
noncomputable def oc24 : Orc gam := orcF 24 (a2 tbA tbA) tA (fun p => decide (p.1 = p.2)) (fun p => [p.1.length ≤ most, ∀ r ∈ p.1, r.fr.length ≤ most ∧ r.to.length ≤ most]) oc84
theorem gc24 : Gd oc24 := gc84.add fun n hO p hp => fn_is hX hO (by kernel_rfl) (.s (fun h => .v false (len_neR h).symm) fun h => .z (c := isL (srch (cEq p.1 p.2) p.1.length)) (fun h2 => .w (exInl (l24 hO p.1 p.2 (hp _ (.head _)) (len_eq h) (hp _ (.tail _ (.head _)))) () h2) (.v true (by rw [← cEq_iff (len_eq h), h2]))) fun h2 => .w (exInr (l24 hO p.1 p.2 (hp _ (.head _)) (len_eq h) (hp _ (.tail _ (.head _)))) 0 h2) (.v false (by rw [← cEq_iff (len_eq h), h2])))
end Go.Proofs.YtmefgijobonklaaGreat
namespace Go.Proofs.YtmefgijobonklaaGreat
open Go Tw Pv Mist
def blk (l : List V) (w j : Nat) : List V := (l.take ((j + 1) * w)).drop (j * w)
def rEnd (l : List V) (w n : Nat) (p : List V) : Nat → Nat → Nat
 | 0, t => t
 | m + 1, t => if t + 1 < n ∧ p = blk l w (t + 1) then rEnd l w n p m (t + 1) else t
abbrev rTo (l : List V) (w n j : Nat) : Nat := rEnd l w n (blk l w j) n j
def rowC (a b : Nat) (r : Rw) : Rw := ⟨(a : Int) :: r.fr, (b : Int) :: r.to, r.cell⟩
def dOf : List Int → List V → List Rw
 | [], l => [⟨[], [], l.getD 0 V0⟩]
 | a :: s, l => foldN (fun j acc => if 0 < j ∧ blk l (l.length / a.toNat) j = blk l (l.length / a.toNat) (j - 1) then acc else acc ++ (dOf s (blk l (l.length / a.toNat) j)).map (rowC j (rTo l (l.length / a.toNat) a.toNat j))) a.toNat 0 []
def gOf (s : List Int) (l : List V) (w n j : Nat) (acc : List Rw) : List Rw := if 0 < j ∧ blk l w j = blk l w (j - 1) then acc else acc ++ (dOf s (blk l w j)).map (rowC j (rTo l w n j))
theorem dOf_cons (a : Int) (s : List Int) (l : List V) : dOf (a :: s) l = foldN (gOf s l (l.length / a.toNat) a.toNat) a.toNat 0 [] := rfl
theorem blk_len {l : List V} {w n j : Nat} (hl : l.length = n * w) (hj : j < n) : (blk l w j).length = w := by
 unfold blk
 have h1 : (j + 1) * w ≤ n * w := Nat.mul_le_mul_right w hj
 rw [List.length_drop, List.length_take, Nat.min_eq_left (by omega), Nat.add_mul]; omega
theorem rEnd_ge {l : List V} {w n : Nat} {p : List V} : ∀ {m t : Nat}, t ≤ rEnd l w n p m t
 | 0, t => Nat.le_refl _
 | m + 1, t => by
  unfold rEnd; split
  ·have := rEnd_ge (l := l) (w := w) (n := n) (p := p) (m := m) (t := t + 1); omega
  ·exact Nat.le_refl _
theorem rEnd_lt {l : List V} {w n : Nat} {p : List V} : ∀ {m t : Nat}, t < n → rEnd l w n p m t < n
 | 0, t, h => h
 | m + 1, t, h => by
  unfold rEnd; split
  ·rename_i h1; exact rEnd_lt h1.1
  ·exact h
theorem rEnd_eq {l : List V} {w n : Nat} {p : List V} : ∀ {m t i : Nat}, t < i → i ≤ rEnd l w n p m t → blk l w i = p
 | 0, t, i, h1, h2 => by simp [rEnd] at h2; omega
 | m + 1, t, i, h1, h2 => by
  unfold rEnd at h2; split at h2
  ·rename_i h3
   rcases Nat.lt_or_ge (t + 1) i with h4 | h4
   ·exact rEnd_eq h4 h2
   ·rw [show i = t + 1 by omega]; exact h3.2.symm
  ·omega
theorem rEnd_end {l : List V} {w n : Nat} {p : List V} : ∀ {m t : Nat}, n ≤ m + t → ¬(rEnd l w n p m t + 1 < n ∧ p = blk l w (rEnd l w n p m t + 1))
 | 0, t, h => by simp [rEnd]; omega
 | m + 1, t, h => by
  unfold rEnd; split
  ·exact rEnd_end (by omega)
  ·assumption
structure OfOk (s : List Int) (l : List V) : Prop where
 fine : Fine s
 len : (l.length : Int) = prodI s
theorem OfOk.w {a : Int} {s : List Int} {l : List V} (h : OfOk (a :: s) l) : l.length = a.toNat * (l.length / a.toNat) ∧ ((l.length / a.toNat : Nat) : Int) = prodI s ∧ 1 ≤ a ∧ a ≤ 12 := by
 have ha := h.fine.sz a (List.mem_cons_self ..)
 have hl := h.len
 have hp := prodI_pos h.fine.sz.tail
 simp only [prodI] at hl
 have e : l.length = a.toNat * (prodI s).toNat := by
  have : ((a.toNat * (prodI s).toNat : Nat) : Int) = a * prodI s := by
   rw [Int.natCast_mul, Int.toNat_of_nonneg (by omega), Int.toNat_of_nonneg (by omega)]
  omega
 have e2 : l.length / a.toNat = (prodI s).toNat := by rw [e, Nat.mul_div_cancel_left _ (by omega)]
 rw [e2]
 exact ⟨e, by omega, ha⟩
theorem OfOk.blk {a : Int} {s : List Int} {l : List V} (h : OfOk (a :: s) l) {j : Nat} (hj : j < a.toNat) : OfOk s (blk l (l.length / a.toNat) j) := by
 obtain ⟨h1, h2, h3⟩ := h.w
 refine ⟨⟨?_, h.fine.sz.tail, ?_⟩, ?_⟩
 ·have := h.fine.len; simp at this; omega
 ·have := h.fine.many
  have hp := prodI_pos h.fine.sz.tail
  simp only [prodI] at this
  have : 1 * prodI s ≤ a * prodI s := Int.mul_le_mul_of_nonneg_right h3.1 (by omega)
  omega
 ·rw [blk_len h1 hj]; exact h2
theorem dOf_rows : ∀ (s : List Int) (l : List V), ∀ r ∈ dOf s l, r.fr.length = s.length ∧ r.to.length = s.length
 | [], l, r, hr => by simp only [dOf, List.mem_singleton] at hr; subst hr; exact ⟨rfl, rfl⟩
 | a :: s, l, r, hr => by
  rw [dOf_cons] at hr
  have := foldN_inv (g := gOf s l (l.length / a.toNat) a.toNat) (m := a.toNat) (k := 0) (s := []) (fun _ acc => ∀ r ∈ acc, r.fr.length = (a :: s).length ∧ r.to.length = (a :: s).length) (by simp) (fun j acc _ _ h r hr => by
   unfold gOf at hr
   split at hr
   ·exact h r hr
   ·rw [List.mem_append] at hr
    rcases hr with hr | hr
    ·exact h r hr
    ·obtain ⟨q, hq, rfl⟩ := List.mem_map.1 hr
     have := dOf_rows s _ q hq
     simp [rowC, this.1, this.2])
  exact this r hr
theorem dOf_len : ∀ {s : List Int} {l : List V}, OfOk s l → (dOf s l).length ≤ l.length
 | [], l, h => by have := h.len; simp [prodI] at this; simp [dOf]; omega
 | a :: s, l, h => by
  obtain ⟨h1, h2, h3⟩ := h.w
  rw [dOf_cons]
  have := foldN_inv (g := gOf s l (l.length / a.toNat) a.toNat) (m := a.toNat) (k := 0) (s := []) (fun k acc => acc.length ≤ k * (l.length / a.toNat)) (by simp) (fun j acc _ hj hq => by
   unfold gOf
   split
   ·rw [Nat.add_mul]; omega
   ·have h4 := dOf_len (h.blk (j := j) (by omega))
    rw [blk_len h1 (by omega)] at h4
    rw [List.length_append, List.length_map, Nat.add_mul]; omega)
  rw [Nat.zero_add, ← h1] at this
  exact this
def runsF (s : List Int) (l : List V) (w n : Nat) : Nat → Nat → List Rw → List Rw
 | 0, _, acc => acc
 | m + 1, j, acc => if j < n then runsF s l w n m (rTo l w n j + 1) (acc ++ (dOf s (blk l w j)).map (rowC j (rTo l w n j))) else acc
theorem foldN_split {σ : Type} {g : Nat → σ → σ} : ∀ (a b k : Nat) (s : σ), foldN g (a + b) k s = foldN g b (k + a) (foldN g a k s)
 | 0, b, k, s => by simp [foldN]
 | a + 1, b, k, s => by
  rw [show a + 1 + b = (a + b) + 1 by omega, foldN, foldN_split a b (k + 1), foldN, show k + 1 + a = k + (a + 1) by omega]
theorem runs_eq {s : List Int} {l : List V} {w n : Nat} : ∀ (m j : Nat) (acc : List Rw), n ≤ m + j → j ≤ n → (j = 0 ∨ j = n ∨ blk l w j ≠ blk l w (j - 1)) → runsF s l w n m j acc = foldN (gOf s l w n) (n - j) j acc
 | 0, j, acc, h1, h2, h3 => by rw [show n - j = 0 by omega]; rfl
 | m + 1, j, acc, h1, h2, h3 => by
  unfold runsF
  by_cases hj : j < n
  ·rw [if_pos hj]
   have e1 : rTo l w n j < n := rEnd_lt hj
   have e2 : j ≤ rTo l w n j := rEnd_ge
   have e3 := rEnd_end (l := l) (w := w) (n := n) (p := blk l w j) (m := n) (t := j) (by omega)
   rw [runs_eq m (rTo l w n j + 1) _ (by omega) (by omega) (by
    right
    rcases Nat.lt_or_ge (rTo l w n j + 1) n with h4 | h4
    ·right
     intro h5
     apply e3
     refine ⟨h4, ?_⟩
     rw [h5, Nat.add_sub_cancel]
     rcases Nat.lt_or_ge j (rTo l w n j) with h6 | h6
     ·exact (rEnd_eq h6 (Nat.le_refl _)).symm
     ·rw [show rTo l w n j = j by omega]
    ·left; omega)]
   rw [show n - j = (1 + (rTo l w n j - j)) + (n - (rTo l w n j + 1)) by omega, foldN_split, foldN_split]
   have e4 : foldN (gOf s l w n) 1 j acc = acc ++ (dOf s (blk l w j)).map (rowC j (rTo l w n j)) := by
    simp only [foldN, gOf]
    rw [if_neg]
    rintro ⟨h6, h7⟩
    rcases h3 with h3 | h3 | h3
    ·omega
    ·omega
    ·exact h3 h7
   rw [e4]
   have e5 : ∀ (d : Nat) (acc : List Rw), d ≤ rTo l w n j - j → foldN (gOf s l w n) d (j + 1) acc = acc := by
    intro d
    induction d with
    | zero => intro acc _; rfl
    | succ d ih =>
     intro acc hd
     rw [foldN_succ, ih acc (by omega)]
     unfold gOf
     rw [if_pos]
     refine ⟨by omega, ?_⟩
     rw [rEnd_eq (l := l) (w := w) (n := n) (p := blk l w j) (m := n) (t := j) (i := j + 1 + d) (by omega) (show j + 1 + d ≤ rTo l w n j by omega)]
     rcases Nat.eq_zero_or_pos d with h6 | h6
     ·subst h6; simp
     ·rw [rEnd_eq (l := l) (w := w) (n := n) (p := blk l w j) (m := n) (t := j) (i := j + 1 + d - 1) (by omega) (show j + 1 + d - 1 ≤ rTo l w n j by omega)]
   rw [e5 _ _ (Nat.le_refl _), show j + (1 + (rTo l w n j - j)) = rTo l w n j + 1 by omega]
  ·rw [if_neg hj, show n - j = 0 by omega]; rfl
end Go.Proofs.YtmefgijobonklaaGreat
namespace Go.Proofs.YtmefgijobonklaaGreat
open Go Tw Pv Mist
abbrev RhB (n f k B m : Nat) (s : PSt gam) (e : Ex) (p : PSt gam) : Prop := RoundsH X0 Tryz.prog T (ApN n) LL f false (ntP Tryz.prog f) B (bodyP Tryz.prog f k) m s e p
noncomputable abbrev hdP (f k : Nat) (w : PSt gam) : PSt gam := patHead X0 (T.headAt f (headId (bodyP Tryz.prog f k))) w
section
variable {n f k B N : Nat} {σ ρ : Type}
theorem foldL {st : Int → σ → PSt gam} {g : Nat → σ → σ} {e : Ex} {fin : σ → PSt gam} {s0 : σ} {w : PSt gam} (Inv : Nat → σ → Prop) (h0 : hdP f k w = st 0 s0) (hl : N ≤ most) (hi : Inv 0 s0) (hv : ∀ j s, j < N → Inv j s → Inv (j + 1) (g j s))
  (hs : ∀ (j : Nat) (s : σ), j < N → Inv j s → ∀ m e1 p, RhB n f k B m (st (IntKind.i64.wrap (j + 1)) (g j s)) e1 p → RhB n f k B (m + 1) (st j s) e1 p)
  (ho : ∀ s, Inv N s → RhB n f k B 1 (st N s) e (fin s)) : LpB n f k B w e (fin (foldN g N 0 s0)) := foldE Inv h0 hl LLm hi hv hs ho
theorem searchL {st : Int → σ → PSt gam} {g : Nat → σ → σ ⊕ ρ} {out : σ ⊕ ρ → Ex × PSt gam} {s0 : σ} {w : PSt gam} (Inv : Nat → σ → Prop) (h0 : hdP f k w = st 0 s0) (hl : N ≤ most) (hi : Inv 0 s0)
  (hs : ∀ (j : Nat) (s : σ) (m : Nat), j < N → Inv j s → (∀ s1, Inv (j + 1) s1 → RhB n f k B m (st (IntKind.i64.wrap (j + 1)) s1) (contN (X := X0) out g (N - (j + 1)) (j + 1) (.inl s1)).1 (contN (X := X0) out g (N - (j + 1)) (j + 1) (.inl s1)).2) →
   RhB n f k B (m + 1) (st j s) (contN (X := X0) out g (N - (j + 1)) (j + 1) (g j s)).1 (contN (X := X0) out g (N - (j + 1)) (j + 1) (g j s)).2)
  (ho : ∀ s, Inv N s → RhB n f k B 1 (st N s) (out (.inl s)).1 (out (.inl s)).2) : LpB n f k B w (out (cntN g N 0 s0)).1 (out (cntN g N 0 s0)).2 := eachN Inv h0 hl LLm hi hs ho
theorem whileL {st : σ → PSt gam} {g : σ → σ ⊕ ρ} {out : ρ → Ex × PSt gam} (Inv : σ → Prop) {m : Nat} {s : σ} {r : ρ} {w : PSt gam} (hr : itF g m s = some r) (h0 : hdP f k w = st s) (hk : m ≤ LL) (hv : Inv s) (hi : ∀ s s1, Inv s → g s = .inl s1 → Inv s1)
  (hs : ∀ s m r, Inv s → (∀ s1, g s = .inl s1 → RhB n f k B m (st s1) (out r).1 (out r).2) → RhB n f k B (m + 1) (st s) (contW (X := X0) out r (g s)).1 (contW (X := X0) out r (g s)).2) : LpB n f k B w (out r).1 (out r).2 := whileE Inv hr h0 hk hv hi hs
end
end Go.Proofs.YtmefgijobonklaaGreat
