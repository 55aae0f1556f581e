/- Part 6 of a proof: the contracts of the functions that the statements on reaches (mistlaw13) call, and the laws of their rules. -/
import Derived.Test.YtfhiejgoemcelaaGreatRows
import Derived.ProofKit
import Derived.Test.YtfhiejgoemcelaaGreatPe
set_option linter.constructorNameAsVariable false
set_option linter.unusedVariables false
set_option linter.unusedSimpArgs false
set_option linter.unusedSectionVars false
namespace Go.Proofs.YtfhiejgoemcelaaGreat
open Go Tw Pv
theorem nthR_rng : ∀ (rs : List K) (_ : ∀ k ∈ rs, KOk k) (n j : Nat), j < rs.length → (rs.reverse.getD j K0).lo ≤ (nthR rs n).getD j 0 ∧ (nthR rs n).getD j 0 ≤ (rs.reverse.getD j K0).hi
 | [], _, _, _, h => by simp at h
 | k :: rs, hk, n, j, h => by
  have ih := nthR_rng rs (fun k h => hk k (List.mem_cons_of_mem _ h)) (n / szN k) j
  have h0 := hk k (List.mem_cons_self ..)
  have hm : n % szN k < szN k := Nat.mod_lt _ h0.n.2.1
  have hl := nthR_len rs (n / szN k)
  simp only [nthR, List.reverse_cons, List.getD_eq_getElem?_getD] at ih ⊢
  by_cases hj : j < rs.length
  ·rw [List.getElem?_append_left (by rw [List.length_reverse]; exact hj), List.getElem?_append_left (by omega)]
   exact ih hj
  ·have : j = rs.length := by simp at h; omega
   rw [List.getElem?_append_right (by rw [List.length_reverse]; omega), List.getElem?_append_right (by omega)]
   rw [List.length_reverse, hl, this, Nat.sub_self]
   have := h0.le
   simp only [List.getElem?_cons_zero, Option.getD_some]
   unfold szN at hm ⊢
   omega
structure Rdy (c : C) : Prop where
 ok : ((S_check c) != 0) = false
 thin : S_Thin c = true
 cs : c.cs.length ≤ 8
 os : c.os.length ≤ 60
 rs : c.rs.length ≤ 60
 many : S_rMany c = (prodR c.cs.reverse : Nat)
 pos : 0 < prodR c.cs.reverse
 few : prodR c.cs.reverse ≤ 200
theorem ready_rdy {c : C} (h : S_ready c = true) : Rdy c := by
 unfold S_ready at h
 split at h
 ·rename_i ht
  obtain ⟨l1, l2, l3, l4⟩ := thin_small ht
  have h0 : ((S_check c) != 0) = false := by rw [check_eq] at h; simpa using h
  have hk := core_k h0
  have hm := l4 (by rw [check_eq]; exact h0)
  have h1 : S_rMany c = ((min 2001 (foldP c.cs 1) : Nat) : Int) := rMany_eq c.cs hk 0 1 1 rfl
  have hP : foldP c.cs 1 = prodR c.cs.reverse := by rw [← foldP_rev, List.reverse_reverse]
  have hM : S_rMany c = (prodR c.cs.reverse : Nat) := by rw [h1, hP]; rw [h1, hP] at hm; omega
  exact ⟨h0, ht, l1, l2, l3, hM, prod_pos _ fun k h => hk k (List.mem_reverse.1 h), by omega⟩
 ·cases h
section
variable {c : C}
theorem Rdy.cc (h : Rdy c) : Cc c := ⟨(core_ok h.ok).2, (core_ok h.ok).1⟩
theorem Rdy.world (h : Rdy c) {n : Nat} (hn : n ≤ 1000000) : Cw c (nthW c n) := by
 have hk := core_k h.ok
 rw [nthW_eq c hk n hn]
 have hk' : ∀ k ∈ c.cs.reverse, KOk k := fun k h => hk k (List.mem_reverse.1 h)
 refine ⟨h.cc.rule, h.cc.ch, by rw [nthR_len, List.length_reverse], nthR_in _ hk' n, fun j hj => ?_⟩
 have := nthR_rng c.cs.reverse hk' n j (by rw [List.length_reverse]; exact hj)
 rwa [List.reverse_reverse] at this
theorem Rdy.of (h : Rdy c) : S_Of c = (S_rOf c (-1) B0, 0) ∧ ∀ b ∈ S_rOf c (-1) B0, Good b := by
 have := of_eq h.ok B0
 refine ⟨?_, this.2⟩
 unfold S_Of
 rw [if_neg (by rw [h.ok]; simp), this.1]
theorem Rdy.all (h : Rdy c) {n : Nat} (hn : n ≤ 1000000) : S_All c (nthW c n) = (S_rAll c (nthW c n), 0) := by
 have hw := h.world hn
 rw [All_ok h.ok hw.len (fun i x k hx hk => by
  have hi : i < c.cs.length := (List.getElem?_eq_some_iff.1 hk).1
  have := hw.w i hi
  rwa [List.getD_eq_getElem?_getD, List.getD_eq_getElem?_getD, hx, hk] at this)]
 have := (allR_eq (c := c) hw.inn c.os 0 [] (fun j o h => by have := hw.rule j o h; rw [hw.len]; simpa using this) (by simp)).1
 exact congrArg (·, 0) this
theorem Rdy.wnum (h : Rdy c) {k : Int} (k0 : 0 ≤ k) (k1 : k < 65536) : ∃ n : Nat, S_wnum c k = n ∧ n < prodR c.cs.reverse := by
 have h1 := h.pos
 have h2 := h.few
 refine ⟨k.toNat % prodR c.cs.reverse, ?_, Nat.mod_lt _ h1⟩
 unfold S_wnum remI
 rw [wr (z := k) (by omega) (by omega), h.many]
 obtain ⟨m, rfl⟩ : ∃ m : Nat, k = m := ⟨k.toNat, by omega⟩
 rw [← Int.ofNat_tmod]
 have : m % prodR c.cs.reverse < prodR c.cs.reverse := Nat.mod_lt _ h1
 first | rfl | (rw [wr (by omega) (by omega)]; rfl)
end
end Go.Proofs.YtfhiejgoemcelaaGreat
namespace Go.Proofs.YtfhiejgoemcelaaGreat
open Go Tw Pv
def F_lall (v : List V) (i : Nat) (x : B) (_ : Unit) : Unit ⊕ (Nat × B × Unit) := if (!(S_lhas x (v.getD (((i : Nat) : Int)).toNat V0))) = true then .inr (i, x, ()) else .inl ()
def S_lall (l : List B) (v : List V) : Bool := if (isL (runL (F_lall v) l 0 ())) = true then ((l.length : Nat) : Int) == ((v.length : Nat) : Int) else false
abbrev w43 (l : List B) (v : List V) (i : Int) (x : List (Nat × PE gam)) : PSt gam := ⟨[(0, xL 38 l), (1, xL 78 v), (5, xi i)] ++ x, [], []⟩
def z43 (l : List B) (v : List V) : Unit ⊕ (Nat × B × Unit) → Ex × PSt gam
 | .inl _ => (.exit 0, w43 l v l.length [(15, xl false)])
 | .inr _ => (.ret, ⟨[(4, xl false)], [], []⟩)
theorem l43 {n : Nat} (hO : Ok n oc41) (l : List B) (v : List V) (hl : l.length ≤ most) (hb : l.length = v.length) : Lp n 43 0 (w43 l v 0 []) (z43 l v (runL (F_lall v) l 0 ())).1 (z43 l v (runL (F_lall v) l 0 ())).2 :=
 eachE (st := fun i _ => w43 l v i []) B0 (fun _ _ => True) (by kernel_rfl) hl LLm trivial (fun k s n hk _ ih => round hX hO (by kernel_rfl) (.b (lt_nat hk) (.b (lt_nat (show k < v.length by rw [← hb]; exact hk)) (.o (inR_nat hk) (.o (show inR k v.length by rw [← hb]; exact inR_nat hk) (.ls (.ou nofun) (.nx (ih _ trivial)))))))) (fun s _ => round hX hO (by kernel_rfl) (.b (lt_no l.length) (.ou nofun)))
noncomputable def oc43 : Orc gam := orcF 43 (a2 bsA vsA) tA (fun p => S_lall p.1 p.2) (fun p => [p.1.length ≤ most, p.1.length = p.2.length]) oc41
theorem gc43 : Gd oc43 := gc41.add fun n hO p hp => fn_is hX hO (by kernel_rfl) (.zh (fun h => .w (exInl (l43 hO p.1 p.2 (hp _ (.head _)) (hp _ (.tail _ (.head _)))) () h) .rr) (fun h => .w (exInr (l43 hO p.1 p.2 (hp _ (.head _)) (hp _ (.tail _ (.head _)))) (0, B0, ()) h) .rr))
def F_lin (b : List B) (i : Nat) (x : B) (_ : Unit) : Unit ⊕ (Nat × B × Unit) := if (!(S_rInside x (b.getD (((i : Nat) : Int)).toNat B0))) = true then .inr (i, x, ()) else .inl ()
def S_linside (a b : List B) : Bool := if (((a.length : Nat) : Int) != ((b.length : Nat) : Int)) = true then false else if (isL (runL (F_lin b) a 0 ())) = true then true else false
abbrev w46 (la lb : List B) (i : Int) (x : List (Nat × PE gam)) : PSt gam := ⟨[(0, xL 38 la), (1, xL 38 lb), (5, xi i)] ++ x, [], []⟩
def z46 (la lb : List B) : Unit ⊕ (Nat × B × Unit) → Ex × PSt gam
 | .inl _ => (.exit 0, w46 la lb la.length [(14, xl false)])
 | .inr _ => (.ret, ⟨[(4, xl false)], [], []⟩)
theorem l46 {n : Nat} (hO : Ok n oc43) (la lb : List B) (hl : la.length ≤ most) (hb : la.length = lb.length) : Lp n 46 0 (w46 la lb 0 []) (z46 la lb (runL (F_lin lb) la 0 ())).1 (z46 la lb (runL (F_lin lb) la 0 ())).2 :=
 eachE (st := fun i _ => w46 la lb i []) B0 (fun _ _ => True) (by kernel_rfl) hl LLm trivial (fun k s n hk _ ih => round hX hO (by kernel_rfl) (.b (lt_nat hk) (.o (inR_nat hk) (.o (show inR k lb.length by rw [← hb]; exact inR_nat hk) (.ls (.ou nofun) (.nx (ih _ trivial))))))) (fun s _ => round hX hO (by kernel_rfl) (.b (lt_no la.length) (.ou nofun)))
noncomputable def oc46 : Orc gam := orcF 46 (a2 bsA bsA) tA (fun p => S_linside p.1 p.2) (fun p => [p.1.length ≤ most]) oc43
theorem gc46 : Gd oc46 := gc43.add fun n hO p hp => fn_is hX hO (by kernel_rfl) (.sh (fun _ => .rr) fun h0 => .zh (fun h => .w (exInl (l46 hO p.1 p.2 (hp _ (.head _)) (by have := h0; simp at this; omega)) () h) .rr) (fun h => .w (exInr (l46 hO p.1 p.2 (hp _ (.head _)) (by have := h0; simp at this; omega)) (0, B0, ()) h) .rr))
def gClo (c : C) (l acc : List B) (i : Nat) (o : O) : List B := [S_rHull (l.getD i B0) (S_rRule c acc o)]
def S_closed (c : C) (l : List B) : List B := bld (gClo c l) c.os 0 []
abbrev w44 (c : C) (l : List B) (i : Int) (acc : List B) (x : List (Nat × PE gam)) : PSt gam := ⟨[(1, xL 38 l), (2, .loc 0 0), (5, .val (.own 0)), (6, xi i)] ++ x, [xC c], [.list false false 38 acc]⟩
theorem l44 {n : Nat} (hO : Ok n oc46) (c : C) (l : List B) (hlo : c.os.length ≤ most) (hl : l.length = c.os.length) (hok : ∀ (i : Nat) (o : O), c.os[i]? = some o → RuleOk o i c.cs.length) : Lp n 44 0 (w44 c l 0 [] []) (.exit 0) (w44 c l c.os.length (S_closed c l) [(11, xl false)]) := by
 refine eachB O0 (l := c.os) (s0 := ([] : List B)) (g := gClo c l) (st := fun i a => w44 c l i a []) (fin := fun a => w44 c l c.os.length a [(11, xl false)]) (fun k a => a.length = k) (by kernel_rfl) hlo LLm rfl (fun k s h hi => by simp [gClo, hi]) (fun k s h hi n e p hr => ?_) (fun s _ => round hX hO (by kernel_rfl) (.b (lt_no c.os.length) .ex))
 have hm : s.length + 1 ≤ most := by rw [hi]; omega
 have hk : RuleOk (c.os.getD k O0) s.length c.cs.length := by rw [hi]; exact hok k _ (getD_at h _)
 exact round hX hO (by kernel_rfl) (.b (lt_nat h) <| .o (show inR k l.length by rw [hl]; exact inR_nat h) <| .o (inR_nat h) <| .o hk <| .o hm <| .goG [.gc [2]] hr)
noncomputable def oc44 : Orc gam := orcF 44 (a2 cA bsA) bsA (fun p => S_closed p.1 p.2) (fun p => [p.1.os.length ≤ most, p.2.length = p.1.os.length, ∀ (i : Nat) (o : O), p.1.os[i]? = some o → RuleOk o i p.1.cs.length]) oc46
theorem gc44 : Gd oc44 := gc46.add fun n hO p hp => fn_is hX hO (by kernel_rfl) (.wG [.nilE 5 38] (l44 hO p.1 p.2 (hp _ (.head _)) (hp _ (.tail _ (.head _))) (hp _ (.tail _ (.tail _ (.head _))))) .rr)
end Go.Proofs.YtfhiejgoemcelaaGreat
namespace Go.Proofs.YtfhiejgoemcelaaGreat
open Go Tw Pv
noncomputable def oc25e : Orc gam := orcE (X := X0) (P := Tryz.prog) 25 (a1 bsA) (fun _ => .own 1) (fun p => [.gone, .list true false 38 p]) (fun p => [p.length ≤ most]) oc44
theorem gc25e : Gd oc25e := gc44.deepE 0 fun n _ hO p hp => by
 have hO := hO n (by omega)
 exact fn_ex hX hO (by kernel_rfl) (.o (show ([] : List B).length + p.length ≤ most by simpa using hp _ (.head _)) .er)
def wIx (l : List B) (w : Int) : Int := remI .i64 (IntKind.i64.wrap w) (l.length : Nat)
def wOne (l : List B) (w : Int) : List B := l.set (wIx l w).toNat ⟨(l.getD (wIx l w).toNat B0).lo, (l.getD (wIx l w).toNat B0).hi, orI .u8 (l.getD (wIx l w).toNat B0).f (IntKind.u8.wrap (remI .i64 (quoI .i64 (IntKind.i64.wrap w) 64) 16))⟩
def wLo (b : B) (w : Int) : Int := maxI (-9999) (IntKind.i64.wrap (b.lo - remI .i64 (quoI .i64 (IntKind.i64.wrap w) 1024) 4))
def wHi (b : B) (w : Int) : Int := minI 9999 (IntKind.i64.wrap (b.hi + remI .i64 (quoI .i64 (IntKind.i64.wrap w) 4096) 4))
def wTwo (l : List B) (i : Nat) (w : Int) : List B := l.set i ⟨wLo (l.getD i B0) w, (l.getD i B0).hi, (l.getD i B0).f⟩
def wThree (l : List B) (l2 : List B) (i : Nat) (w : Int) : List B := l2.set i ⟨(l2.getD i B0).lo, wHi (l.getD i B0) w, (l2.getD i B0).f⟩
def wStep (l : List B) (w : Int) : List B :=
 if (decide (((wOne l w).getD (wIx l w).toNat B0).lo ≤ ((wOne l w).getD (wIx l w).toNat B0).hi)) = true then wThree (wOne l w) (wTwo (wOne l w) (wIx l w).toNat w) (wIx l w).toNat w else wOne l w
def S_widened (l : List B) (ws : List Int) : List B := if (l.length : Nat) = 0 then [] else (ws.take 8).foldl wStep l
theorem wOne_len (l : List B) (w : Int) : (wOne l w).length = l.length := by simp [wOne]
theorem wStep_len (l : List B) (w : Int) : (wStep l w).length = l.length := by
 unfold wStep
 split
 ·simp [wThree, wTwo, wOne_len]
 ·exact wOne_len l w
theorem wFold_len : ∀ (ws : List Int) (l : List B), (ws.foldl wStep l).length = l.length
 | [], _ => rfl
 | w :: ws, l => by rw [List.foldl_cons, wFold_len ws, wStep_len]
theorem wIx_in {l : List B} {w : Int} (h0 : 0 ≤ w) (h1 : w < 65536) (hl : 0 < l.length) (hm : l.length ≤ most) : inR (wIx l w) l.length := by
 unfold wIx remI
 rw [wrap_small (z := w) (by omega) (by omega)]
 have h2 := Int.tmod_nonneg (l.length : Int) h0
 have h3 := Int.tmod_lt_of_pos w (b := (l.length : Int)) (by omega)
 have : (l.length : Int) ≤ most := by omega
 unfold most at this
 first | exact ⟨h2, h3⟩ | (rw [wrap_small (by omega) (by omega)]; exact ⟨h2, h3⟩)
abbrev w45 (ws : List Int) (i : Int) (l : List B) (x : List (Nat × PE gam)) : PSt gam := ⟨[(1, xL 63 ws), (5, .val (.own 1)), (6, xi i)] ++ x, [], [.gone, .list true false 38 l]⟩
theorem tk_at {α : Type} (l : List α) (d : α) {i j : Nat} (h : j < i) : (l.take i).getD j d = l.getD j d := by
 rw [List.getD_eq_getElem?_getD, List.getElem?_take, if_pos h, ← List.getD_eq_getElem?_getD]
theorem l45 {n : Nat} (hO : Ok n oc25e) (ws : List Int) (l : List B) (hl : 0 < l.length) (hm : l.length ≤ most) (hw : ∀ w ∈ ws, 0 ≤ w ∧ w < 65536) : Lp n 45 0 (w45 ws 0 l []) (.exit 0) (w45 ws (ws.take 8).length ((ws.take 8).foldl wStep l) [(23, xl false)]) := by
 have htl : (ws.take 8).length = min 8 ws.length := List.length_take ..
 refine eachF (X := X0) (P := Tryz.prog) (T := T) (call := ApN n) (L := LL) (f := 45) (rnd := false) (nt := ntP Tryz.prog 45) (B := 0) (b := bodyP Tryz.prog 45 0) (0 : Int) (l := ws.take 8) (s0 := l) (st := fun i s => w45 ws i s []) (g := wStep) (fin := fun s => w45 ws (ws.take 8).length s [(23, xl false)]) (by kernel_rfl) (Nat.le_trans (by omega : (ws.take 8).length ≤ 8) (by decide)) LLm (fun k s hk hs n e p h => ?_) (fun s hs => ?_)
 ·subst hs
  have hk8 : k < 8 := by omega
  have hk2 : k < ws.length := by omega
  have e1 : (ws.take 8).getD k 0 = ws.getD k 0 := tk_at ws 0 hk8
  rw [e1] at h
  have hwk := hw (ws.getD k 0) (by rw [List.getD_eq_getElem?_getD, List.getElem?_eq_getElem hk2]; exact List.getElem_mem hk2)
  generalize hS : ((ws.take 8).take k).foldl wStep l = S at h ⊢
  have hSl : S.length = l.length := by rw [← hS, wFold_len]
  have b1 : decide ((k : Int) < 8) = true := by simp; omega
  have b2 : decide (((S.length : Nat) : Int) > 0) = true := by simp; omega
  have b3 : ((S.length : Nat) : Int) ≠ 0 := by omega
  have b4 := wIx_in (l := S) hwk.1 hwk.2 (by omega) (by omega)
  cases hd : decide (((wOne S (ws.getD k 0)).getD (wIx S (ws.getD k 0)).toNat B0).lo ≤ ((wOne S (ws.getD k 0)).getD (wIx S (ws.getD k 0)).toNat B0).hi)
  ·rw [show wStep S (ws.getD k 0) = wOne S (ws.getD k 0) by unfold wStep; rw [hd]; rfl] at h
   exact round hX hO (by kernel_rfl) (.b (lt_nat hk2) <| .b b1 <| .b b2 <| .o (inR_nat hk2) <| .o b3 <| .o b4 <| .o (by decide : (64 : Int) ≠ 0) <| .o (by decide : (16 : Int) ≠ 0) <| .b hd <| .go h)
  ·rw [show wStep S (ws.getD k 0) = wThree (wOne S (ws.getD k 0)) (wTwo (wOne S (ws.getD k 0)) (wIx S (ws.getD k 0)).toNat (ws.getD k 0)) (wIx S (ws.getD k 0)).toNat (ws.getD k 0) by unfold wStep; rw [hd]; rfl] at h
   exact round hX hO (by kernel_rfl) (.b (lt_nat hk2) <| .b b1 <| .b b2 <| .o (inR_nat hk2) <| .o b3 <| .o b4 <| .o (by decide : (64 : Int) ≠ 0) <| .o (by decide : (16 : Int) ≠ 0) <| .b hd <| .o (by decide : (1024 : Int) ≠ 0) <| .o (by decide : (4 : Int) ≠ 0) <| .o (by decide : (4096 : Int) ≠ 0) <| .o (by decide : (4 : Int) ≠ 0) <| .go h)
 ·by_cases h8 : ws.length < 8
  ·rw [show (ws.take 8).length = ws.length by omega]
   exact round hX hO (by kernel_rfl) (.b (lt_no ws.length) .ex)
  ·rw [show (ws.take 8).length = 8 by omega]
   by_cases h9 : ws.length = 8
   ·exact round hX hO (by kernel_rfl) (.b (show decide (((8 : Nat) : Int) < (ws.length : Int)) = false by simp; omega) .ex)
   ·exact round hX hO (by kernel_rfl) (.b (show decide (((8 : Nat) : Int) < (ws.length : Int)) = true by simp; omega) (.b (rfl : false = false) .ex))
theorem l45n {n : Nat} (hO : Ok n oc25e) (ws : List Int) : Lp n 45 0 (w45 ws 0 [] []) (.exit 0) (w45 ws 0 [] [(23, xl false)]) := by
 refine loopH_of (n := 1) (ps := w45 ws 0 [] []) ?_ (by kernel_rfl) (by decide)
 cases h1 : decide ((0 : Int) < (ws.length : Int))
 ·exact round hX hO (by kernel_rfl) (.b h1 .ex)
 ·exact round hX hO (by kernel_rfl) (.b h1 (.b (rfl : true = true) (.b (rfl : false = false) .ex)))
noncomputable def oc45 : Orc gam := orcF 45 (a2 bsA hsA) bsA (fun p => S_widened p.1 p.2) (fun p => [p.1.length ≤ most, ∀ w ∈ p.2, 0 ≤ w ∧ w < 65536]) oc25e
theorem gc45 : Gd oc45 := gc25e.add fun n hO p hp => by
 by_cases h0 : p.1.length = 0
 ·have e : p.1 = [] := List.eq_nil_of_length_eq_zero h0
  obtain ⟨l, ws⟩ := p
  simp only at e; subst e
  exact fn_is hX hO (by kernel_rfl) (.o (hp _ (.head _)) (.w (l45n hO ws) .rr))
 ·have e : S_widened p.1 p.2 = (p.2.take 8).foldl wStep p.1 := by unfold S_widened; rw [if_neg h0]
  rw [e]
  exact fn_is hX hO (by kernel_rfl) (.o (hp _ (.head _)) (.w (l45 hO p.2 p.1 (by omega) (hp _ (.head _)) (hp _ (.tail _ (.head _)))) .rr))
end Go.Proofs.YtfhiejgoemcelaaGreat
namespace Go.Proofs.YtfhiejgoemcelaaGreat
open Go Tw Pv
theorem lhas_mem {r : B} {v : V} (hv : VGood v) : S_lhas r v = true ↔ Mem r v := by
 unfold S_lhas
 by_cases h : v.f = 0
 ·rw [if_pos (by simpa using h)]
  constructor
  ·intro g
   split at g
   ·rename_i g1; simp at g g1; exact ⟨fun _ => ⟨g1, g⟩, fun k => absurd h k⟩
   ·cases g
  ·intro g; have := g.n h; rw [if_pos (by simpa using this.1)]; simpa using this.2
 ·have h4 := hv.f1
  have h0 := hv.f0
  rw [if_neg (by simpa using h), if_pos (by simpa using h4)]
  rw [and_bit (by omega) h4]
  exact ⟨fun g => ⟨fun k => absurd k h, fun _ => g⟩, fun g => g.f h⟩
theorem lall_mem {l : List B} {vs : List V} (hv : ∀ v ∈ vs, VGood v) (hl : l.length = vs.length) : S_lall l vs = true ↔ ∀ i, i < l.length → Mem (l.getD i B0) (vs.getD i V0) := by
 unfold S_lall
 have key : isL (runL (F_lall vs) l 0 ()) = true ↔ ∀ i, i < l.length → Mem (l.getD i B0) (vs.getD i V0) := by
  rw [isL_all]
  constructor
  ·intro h i hi
   have := h i _ (getD_at hi B0)
   unfold F_lall at this
   rw [Nat.zero_add, Int.toNat_natCast] at this
   cases hm : S_lhas (l.getD i B0) (vs.getD i V0) with
   | true => exact (lhas_mem (vgood_at hv i)).1 hm
   | false => rw [hm] at this; cases this
  ·intro h i x hx
   have hi : i < l.length := (List.getElem?_eq_some_iff.1 hx).1
   have := (lhas_mem (vgood_at hv i)).2 (h i hi)
   have ex : l.getD i B0 = x := by rw [List.getD_eq_getElem?_getD, hx]; rfl
   unfold F_lall
   rw [Nat.zero_add, Int.toNat_natCast, ← ex, this]; rfl
 by_cases h : isL (runL (F_lall vs) l 0 ()) = true
 ·rw [if_pos h, hl]; simp only [beq_self_eq_true, true_iff]; rw [← hl]; exact key.1 h
 ·rw [if_neg h]; exact ⟨fun g => (by cases g), fun g => absurd (key.2 g) h⟩
theorem linside_le {a b : List B} (ha : ∀ x ∈ a, Good x) (hl : a.length = b.length) : S_linside a b = true ↔ ∀ i, i < a.length → Le (a.getD i B0) (b.getD i B0) := by
 unfold S_linside
 have key : isL (runL (F_lin b) a 0 ()) = true ↔ ∀ i, i < a.length → Le (a.getD i B0) (b.getD i B0) := by
  rw [isL_all]
  constructor
  ·intro h i hi
   have := h i _ (getD_at hi B0)
   unfold F_lin at this
   rw [Nat.zero_add, Int.toNat_natCast] at this
   cases hm : S_rInside (a.getD i B0) (b.getD i B0) with
   | true => exact (inside_le (good_getD ha i)).1 hm
   | false => rw [hm] at this; cases this
  ·intro h i x hx
   have hi : i < a.length := (List.getElem?_eq_some_iff.1 hx).1
   have := (inside_le (good_getD ha i)).2 (h i hi)
   have ex : a.getD i B0 = x := by rw [List.getD_eq_getElem?_getD, hx]; rfl
   unfold F_lin
   rw [Nat.zero_add, Int.toNat_natCast, ← ex, this]; rfl
 rw [if_neg (by rw [hl]; simp)]
 by_cases h : isL (runL (F_lin b) a 0 ()) = true
 ·rw [if_pos h]; exact ⟨fun _ => key.1 h, fun _ => rfl⟩
 ·rw [if_neg h]; exact ⟨fun g => (by cases g), fun g => absurd (key.2 g) h⟩
theorem mem_at {α : Type} {l : List α} {i : Nat} (h : i < l.length) (d : α) : l.getD i d ∈ l := by
 rw [List.getD_eq_getElem?_getD, List.getElem?_eq_getElem h]; exact List.getElem_mem h
theorem good_valid {r : B} (h : Good r) : S_rValid r = true := by
 have h1 := h.num
 have h2 := h.f1
 obtain ⟨a, b, f⟩ := r
 simp only at h1 h2
 unfold S_rValid
 rw [if_neg (by simp; omega)]
 rcases h1 with h1 | ⟨rfl, rfl⟩
 ·simp only [beq_iff_eq, decide_eq_true_eq]
  by_cases c1 : a = 1
  ·rw [if_pos c1]
   by_cases c2 : b = 0
   ·rw [if_pos c2]
   ·rw [if_neg c2, if_pos h1.1, if_pos h1.2.1]; simpa using h1.2.2
  ·rw [if_neg c1, if_pos h1.1, if_pos h1.2.1]; simpa using h1.2.2
 ·rfl
theorem prove_proof {c : C} (h : Rdy c) {l : List B} (hw : ∀ b ∈ l, 0 ≤ b.f ∧ b.f ≤ 255) : S_Prove c l = true ↔ Proof c l := by
 unfold S_Prove S_Weak
 rw [if_neg (by rw [h.ok]; simp)]
 by_cases hl : l.length = c.os.length
 ·rw [if_neg (by rw [hl]; simp), all_eq hw]
  by_cases ha : isL (runL F_rAre l 0 ()) = true
  ·rw [if_neg (by rw [ha]; simp)]
   have hg : ∀ b ∈ l, Good b := fun b hb => valid_good (hw b hb).1 (are_valid ha b hb)
   rw [weak_run h.ok hg (by omega)]
   have key : isL (runL (F_rWeak c l) c.os 0 ()) = true ↔ ∀ (i : Nat) (o : O), c.os[i]? = some o → Le (S_rRule c l o) (l.getD i B0) := by
    rw [isL_all]
    have e : ∀ i o, c.os[i]? = some o → (isL (F_rWeak c l (0 + i) o ()) = true ↔ Le (S_rRule c l o) (l.getD i B0)) := fun i o ho => by
     have hi : i < c.os.length := (List.getElem?_eq_some_iff.1 ho).1
     have gr := rule_good h.cc hg ho (by omega)
     rw [← inside_le gr]
     unfold F_rWeak
     rw [Nat.zero_add, Int.toNat_natCast]
     cases S_rInside (S_rRule c l o) (l.getD i B0) <;> simp [isL]
    exact ⟨fun g i o ho => (e i o ho).1 (g i o ho), fun g i o ho => (e i o ho).2 (g i o ho)⟩
   by_cases hk : isL (runL (F_rWeak c l) c.os 0 ()) = true
   ·rw [if_pos hk]; exact ⟨fun _ => ⟨hl, hg, key.1 hk⟩, fun _ => rfl⟩
   ·rw [if_neg hk]; exact ⟨fun g => (by cases g), fun g => absurd (key.2 g.2.2) hk⟩
  ·rw [if_pos (by simpa using ha)]
   refine ⟨fun g => (by cases g), fun g => absurd ?_ ha⟩
   rw [isL_all]
   intro i x hx
   unfold F_rAre
   rw [good_valid (g.2.1 x (List.mem_of_getElem? hx))]; rfl
 ·rw [if_pos (by simpa using fun h => hl (by omega))]
  exact ⟨fun g => (by cases g), fun g => absurd g.1 hl⟩
theorem good_255 {l : List B} (h : ∀ b ∈ l, Good b) : ∀ b ∈ l, 0 ≤ b.f ∧ b.f ≤ 255 := fun b hb => ⟨(h b hb).f0, by have := (h b hb).f1; omega⟩
theorem closed_len (c : C) (l : List B) : (S_closed c l).length = c.os.length :=
 (bld_ln (fun acc (i : Nat) o => S_rHull (l.getD i B0) (S_rRule c acc o)) c.os 0 []).trans (by simp)
theorem closed_at {c : C} (hc : Cc c) {l : List B} {i : Nat} {o : O} (ho : c.os[i]? = some o) : (S_closed c l).getD i B0 = S_rHull (l.getD i B0) (S_rRule c (S_closed c l) o) := by
 have h := bld_at (fun acc (i : Nat) o => S_rHull (l.getD i B0) (S_rRule c acc o)) B0 ho
 refine Eq.trans h ?_
 have e : S_rRule c ((S_closed c l).take i) o = S_rRule c (S_closed c l) o := rule_loc (hc.rule i o ho).1 fun j hj => take_at _ _ hj
 show S_rHull (l.getD i B0) (S_rRule c ((S_closed c l).take i) o) = _
 rw [e]
theorem closed_proof {c : C} (hc : Cc c) {l : List B} (hl : ∀ b ∈ l, Good b) : Proof c (S_closed c l) := by
 have hg : ∀ i, i < c.os.length → Good ((S_closed c l).getD i B0) := by
  intro i
  induction i using Nat.strongRecOn with
  | ind i ih =>
   intro hi
   have ho := getD_at hi O0
   have hk := hc.rule i _ ho
   rw [closed_at hc ho]
   refine good_hull (good_getD hl i) ?_
   have e : S_rRule c (S_closed c l) (c.os.getD i O0) = S_rRule c ((S_closed c l).take i) (c.os.getD i O0) := rule_loc hk.1 fun j hj => (take_at _ _ hj).symm
   rw [e]
   have hln := closed_len c l
   have htl : ((S_closed c l).take i).length = i := by rw [List.length_take]; omega
   refine (rule_eq (by rw [htl]; exact hk.1) (fun b hb => ?_) hc.ch hk.2).2
   obtain ⟨j, hj⟩ := List.getElem?_of_mem hb
   have hji : j < i := by have := (List.getElem?_eq_some_iff.1 hj).1; omega
   have := ih j hji (by omega)
   rw [← take_at _ _ hji, List.getD_eq_getElem?_getD, hj] at this
   exact this
 refine ⟨closed_len c l, fun b hb => ?_, fun i o ho => ?_⟩
 ·obtain ⟨j, hj⟩ := List.getElem?_of_mem hb
  have hjl := (List.getElem?_eq_some_iff.1 hj).1
  have := hg j (by rw [← closed_len c l]; exact hjl)
  rw [List.getD_eq_getElem?_getD, hj] at this
  exact this
 ·rw [closed_at hc ho]; exact le_hull2
theorem wide_good {r : B} (h : Good r) (hn : r.lo ≤ r.hi) {w : Int} (w0 : 0 ≤ w) (w1 : w < 65536) : Good ⟨wLo r w, wHi r w, r.f⟩ ∧ Le r ⟨wLo r w, wHi r w, r.f⟩ := by
 have hs := h.sm hn
 obtain ⟨h1, h2, h3⟩ := hs
 have e0 : IntKind.i64.wrap w = w := wr (by omega) (by omega)
 have q : ∀ d : Int, 0 < d → d < 65536 → 0 ≤ remI .i64 (quoI .i64 w d) 4 ∧ remI .i64 (quoI .i64 w d) 4 ≤ 3 := fun d d0 d1 => by
  have a1 : 0 ≤ w.tdiv d := Int.tdiv_nonneg w0 (by omega)
  have a2 : w.tdiv d ≤ w := by
   have := Int.natAbs_tdiv w d
   have h4 : w.natAbs.div d.natAbs ≤ w.natAbs := Nat.div_le_self _ _
   omega
  have e1 : quoI .i64 w d = w.tdiv d := wr (by omega) (by omega)
  rw [e1]
  have a3 := Int.tmod_nonneg (4 : Int) a1
  have a4 := Int.tmod_lt_of_pos (w.tdiv d) (b := 4) (by decide)
  unfold remI
  first | exact ⟨a3, by omega⟩ | (rw [wr (by omega) (by omega)]; omega)
 have q1 := q 1024 (by decide) (by decide)
 have q2 := q 4096 (by decide) (by decide)
 have lo : -9999 ≤ wLo r w ∧ wLo r w ≤ r.lo := by
  unfold wLo
  rw [e0, wr (z := r.lo - _) (by omega) (by omega)]
  unfold maxI; split <;> omega
 have hi : r.hi ≤ wHi r w ∧ wHi r w ≤ 9999 := by
  unfold wHi
  rw [e0, wr (z := r.hi + _) (by omega) (by omega)]
  unfold minI; split <;> omega
 exact ⟨⟨.inl ⟨lo.1, by simp only; omega, hi.2⟩, h.f0, h.f1⟩, ⟨fun _ => ⟨lo.2, hi.1⟩, fun _ _ _ g => g⟩⟩
theorem or_good {r : B} (h : Good r) {w : Int} (w0 : 0 ≤ w) (w1 : w < 65536) : Good ⟨r.lo, r.hi, orI .u8 r.f (IntKind.u8.wrap (remI .i64 (quoI .i64 (IntKind.i64.wrap w) 64) 16))⟩ ∧ Le r ⟨r.lo, r.hi, orI .u8 r.f (IntKind.u8.wrap (remI .i64 (quoI .i64 (IntKind.i64.wrap w) 64) 16))⟩ := by
 have e0 : IntKind.i64.wrap w = w := wr (by omega) (by omega)
 have a1 : 0 ≤ w.tdiv 64 := Int.tdiv_nonneg w0 (by omega)
 have a2 : w.tdiv 64 ≤ w := by
  have := Int.natAbs_tdiv w 64
  have h4 : w.natAbs.div (64 : Int).natAbs ≤ w.natAbs := Nat.div_le_self _ _
  omega
 have e1 : quoI .i64 w 64 = w.tdiv 64 := wr (by omega) (by omega)
 have a3 := Int.tmod_nonneg (16 : Int) a1
 have a4 := Int.tmod_lt_of_pos (w.tdiv 64) (b := 16) (by decide)
 have e2 : remI .i64 (w.tdiv 64) 16 = (w.tdiv 64).tmod 16 := by
  unfold remI
  first | rfl | exact wr (by omega) (by omega)
 rw [e0, e1, e2, wrap_u8 a3 (by omega)]
 have g := or8_15 h.f0 h.f1 a3 (by omega : (w.tdiv 64).tmod 16 ≤ 15)
 exact ⟨⟨h.num, g.1, g.2⟩, ⟨fun _ => ⟨Int.le_refl _, Int.le_refl _⟩, fun _ _ _ k => fb_or.2 (.inl k)⟩⟩
theorem set_at {l : List B} {i j : Nat} {x : B} : (l.set i x).getD j B0 = if i = j ∧ j < l.length then x else l.getD j B0 := by
 rw [List.getD_eq_getElem?_getD, List.getElem?_set]
 by_cases h : i = j
 ·subst h
  rw [if_pos rfl]
  by_cases h2 : i < l.length
  ·rw [if_pos h2, if_pos ⟨rfl, h2⟩]; rfl
  ·rw [if_neg h2, if_neg (fun g => h2 g.2), List.getD_eq_getElem?_getD, List.getElem?_eq_none (by omega)]
 ·rw [if_neg h, if_neg (fun g => h g.1), List.getD_eq_getElem?_getD]
def Wdr (l l' : List B) : Prop := l'.length = l.length ∧ ∀ j, j < l.length → Good (l'.getD j B0) ∧ Le (l.getD j B0) (l'.getD j B0)
theorem Wdr.trans {a b c : List B} (h : Wdr a b) (g : Wdr b c) : Wdr a c := ⟨g.1.trans h.1, fun j hj => ⟨(g.2 j (by rw [h.1]; exact hj)).1, (h.2 j hj).2.trans (g.2 j (by rw [h.1]; exact hj)).2⟩⟩
theorem wd_set {l : List B} (hl : ∀ j, j < l.length → Good (l.getD j B0)) {i : Nat} {x : B} (hx : Good x) (hle : Le (l.getD i B0) x) : Wdr l (l.set i x) := by
 refine ⟨by simp, fun j hj => ?_⟩
 rw [set_at]
 split
 ·rename_i h; rw [← h.1]; exact ⟨hx, hle⟩
 ·exact ⟨hl j hj, Le.refl _⟩
theorem wd_step {l : List B} (hl : ∀ j, j < l.length → Good (l.getD j B0)) {w : Int} (w0 : 0 ≤ w) (w1 : w < 65536) (h0 : 0 < l.length) (hm : l.length ≤ most) : Wdr l (wStep l w) := by
 have hi := wIx_in w0 w1 h0 hm
 have hin : (wIx l w).toNat < l.length := by have := hi.1; have := hi.2; omega
 obtain ⟨o1, o2⟩ := or_good (hl _ hin) w0 w1
 have h1 : Wdr l (wOne l w) := wd_set hl o1 o2
 unfold wStep
 split
 ·rename_i hd
  simp only [decide_eq_true_eq] at hd
  refine h1.trans ?_
  have hg1 : ∀ j, j < (wOne l w).length → Good ((wOne l w).getD j B0) := fun j hj => (h1.2 j (by rw [← h1.1]; exact hj)).1
  have hin1 : (wIx l w).toNat < (wOne l w).length := by rw [wOne_len]; exact hin
  obtain ⟨q1, q2⟩ := wide_good (hg1 _ hin1) hd w0 w1
  have e : wThree (wOne l w) (wTwo (wOne l w) (wIx l w).toNat w) (wIx l w).toNat w = (wOne l w).set (wIx l w).toNat ⟨wLo ((wOne l w).getD (wIx l w).toNat B0) w, wHi ((wOne l w).getD (wIx l w).toNat B0) w, ((wOne l w).getD (wIx l w).toNat B0).f⟩ := by
   unfold wThree wTwo
   rw [set_at, if_pos ⟨rfl, hin1⟩, List.set_set]
  rw [e]
  exact wd_set hg1 q1 q2
 ·exact h1
theorem wd_fold : ∀ (ws : List Int) (l : List B), (∀ j, j < l.length → Good (l.getD j B0)) → (∀ w ∈ ws, 0 ≤ w ∧ w < 65536) → 0 < l.length → l.length ≤ most → Wdr l (ws.foldl wStep l)
 | [], l, hl, _, _, _ => ⟨rfl, fun j hj => ⟨hl j hj, Le.refl _⟩⟩
 | w :: ws, l, hl, hw, h0, hm => by
  have hw0 := hw w (List.mem_cons_self ..)
  have h1 := wd_step hl hw0.1 hw0.2 h0 hm
  exact h1.trans (wd_fold ws _ (fun j hj => (h1.2 j (by rw [← h1.1]; exact hj)).1) (fun w h => hw w (List.mem_cons_of_mem _ h)) (by rw [h1.1]; exact h0) (by rw [h1.1]; exact hm))
theorem widened_wd {l : List B} {ws : List Int} (hl : ∀ b ∈ l, Good b) (hm : l.length ≤ most) (hw : ∀ w ∈ ws, 0 ≤ w ∧ w < 65536) : Wdr l (S_widened l ws) := by
 unfold S_widened
 split
 ·rename_i h; exact ⟨by simp [h], fun j hj => by omega⟩
 ·exact wd_fold _ l (fun j _ => good_getD hl j) (fun w h => hw w (List.mem_of_mem_take h)) (by omega) hm
theorem Wdr.good {l l' : List B} (h : Wdr l l') : ∀ b ∈ l', Good b := fun b hb => by
 obtain ⟨j, hj⟩ := List.getElem?_of_mem hb
 have hjl := (List.getElem?_eq_some_iff.1 hj).1
 have := (h.2 j (by rw [← h.1]; exact hjl)).1
 rw [List.getD_eq_getElem?_getD, hj] at this
 exact this
end Go.Proofs.YtfhiejgoemcelaaGreat
namespace Tw
open Go Go.ChangeShapes
section
variable {H : Type} {encH : TypeId × Value → H} {P : Program} {w : World}
def Rd (encH : TypeId × Value → H) (P : Program) (w : World) (t : TypeId) (d : DataW H) : Prop := ∃ cs, Reads encH P w t cs d
def Flat {α : Type} (encH : TypeId × Value → H) (P : Program) (w : World) (g : Nat) (t : TypeId) (enc : α → List TV) (Q : α → Prop) : Prop :=
 ∀ d, Rd encH P w t d → ∃ a : α, Q a ∧ ∀ h, encT P g t d h = some (enc a, h)
theorem rd_int {t : TypeId} {k : IntKind} {d : DataW H} (ht : P.underlying t = some (.int k)) (hd : Rd encH P w t d) : ∃ n, d = .lit (.int k n) ∧ (Lit.int k n).wf = true := by
 obtain ⟨cs, fuel, ps, hd⟩ := hd
 cases fuel with
 | zero => simp [DataW.trod] at hd
 | succ n =>
  unfold DataW.trod at hd
  rw [ht] at hd
  split at hd <;> simp_all
  obtain ⟨⟨_, h1⟩, rfl, _⟩ := hd
  exact ⟨_, rfl, h1⟩
theorem rd_str {t : TypeId} {d : DataW H} (ht : P.underlying t = some .string) (hd : Rd encH P w t d) : ∃ bs, d = .lit (.string bs) := by
 obtain ⟨cs, fuel, ps, hd⟩ := hd
 cases fuel with
 | zero => simp [DataW.trod] at hd
 | succ n =>
  unfold DataW.trod at hd
  rw [ht] at hd
  split at hd <;> simp_all
  exact ⟨_, hd.2.1.symm⟩
theorem rd_struct {t : TypeId} {fs : Array Field} {d : DataW H} (ht : P.underlying t = some (.struct fs)) (hd : Rd encH P w t d) :
  ∃ ds, d = .agg ds ∧ ds.length = fs.size ∧ ∀ (i : Nat) f d', fs[i]? = some f → ds[i]? = some d' → Rd encH P w f.type d' := by
 obtain ⟨cs, fuel, ps, hd⟩ := hd
 obtain ⟨zs, n, _, hx, hcl, hzl, hat⟩ := DataW.trod_struct ht hd
 simp only [Prod.mk.injEq] at hx
 refine ⟨zs.map (·.1), hx.1, by simpa using hzl, fun i f d' e1 e2 => ?_⟩
 simp only [List.getElem?_map, Option.map_eq_some_iff] at e2
 obtain ⟨z, hz, rfl⟩ := e2
 exact ⟨_, n, z.2, by rw [hat i f e1, hz]⟩
theorem rd_slice {t e : TypeId} {d : DataW H} (ht : P.underlying t = some (.slice e)) (hd : Rd encH P w t d) :
  d = .nil ∨ ∃ xs ys, d = .slice xs ys ∧ ∀ y ∈ xs ++ ys, Rd encH P w e y := by
 obtain ⟨cs, fuel, ps, hd⟩ := hd
 rcases Deep.open_slice ht hd with ⟨rfl, hx⟩ | ⟨a, len, cap, m, n, Dt, Pl, rfl, _, hlc, _, hm, hx, hat⟩
 ·left; cases hx; rfl
 ·right
  simp only [if_true] at hm
  subst hm
  simp only [Prod.mk.injEq] at hx
  refine ⟨_, _, hx.1, fun y hy => ?_⟩
  have : ∃ i, i < m ∧ y = Dt i := by
   rcases List.mem_append.mp hy with hy | hy
   ·obtain ⟨i, hi, rfl⟩ := List.mem_map.mp hy
    exact ⟨i, by have := List.mem_range.mp hi; omega, rfl⟩
   ·obtain ⟨i, hi, rfl⟩ := List.mem_map.mp hy
    exact ⟨len + i, by have := List.mem_range.mp hi; omega, rfl⟩
  obtain ⟨i, hi, rfl⟩ := this
  obtain ⟨cs', _, e2⟩ := hat i hi
  exact ⟨cs', n, _, e2⟩
theorem encT_struct {t : TypeId} {fs : Array Field} {g : Nat} {ds : List (DataW H)} {h : List HB} (ht : P.underlying t = some (.struct fs)) :
  encT P (g + 1) t (.agg ds) h = match encF P (encT P g) 0 fs.toList ds h with
   | some (cs, h1) => if cs.length = P.cellsOf t then some (cs, h1) else none
   | none => none := by
 simp only [encT, ht] <;> rfl
theorem flat_int {t : TypeId} {k : IntKind} {g : Nat} (ht : P.underlying t = some (.int k)) : Flat encH P w (g + 1) t (fun n : Int => [TV.int k n]) (fun n => (Lit.int k n).wf = true) := by
 intro d hd
 obtain ⟨n, rfl, hw⟩ := rd_int ht hd
 exact ⟨n, hw, fun h => by simp [encT, ht]⟩
theorem encL_flat {α : Type} {enc : α → List TV} {Q : α → Prop} {g sz : Nat} {e : TypeId} (hf : Flat encH P w g e enc Q) (hlen : ∀ a, (enc a).length = sz) : ∀ (ds : List (DataW H)), (∀ y ∈ ds, Rd encH P w e y) →
  ∃ l : List α, l.length = ds.length ∧ (∀ a ∈ l, Q a) ∧ ∀ h, encL (encT P g e) sz ds h = some ((l.map enc).flatten, h)
 | [], _ => ⟨[], rfl, by simp, fun h => rfl⟩
 | d :: ds, hd => by
  obtain ⟨a, qa, ha⟩ := hf d (hd d List.mem_cons_self)
  obtain ⟨l, h1, h2, h3⟩ := encL_flat hf hlen ds fun y hy => hd y (List.mem_cons_of_mem _ hy)
  refine ⟨a :: l, by simp [h1], ?_, fun h => ?_⟩
  ·intro x hx
   rcases List.mem_cons.mp hx with rfl | hx
   ·exact qa
   ·exact h2 x hx
  ·simp only [encL, ha h, hlen a, if_true, h3 h, List.map_cons, List.flatten_cons]
theorem flatten_len {α : Type} {enc : α → List TV} {sz : Nat} (hlen : ∀ a, (enc a).length = sz) : ∀ l : List α, (l.map enc).flatten.length = l.length * sz
 | [] => by simp
 | a :: l => by simp only [List.map_cons, List.flatten_cons, List.length_append, List.length_cons, Nat.add_mul, Nat.one_mul, flatten_len hlen l, hlen]; omega
end
end Tw
namespace Go.Proofs.YtfhiejgoemcelaaGreat
open Go Tw
theorem Tryz.cells62 : Tryz.prog.cellsOf 62 = 3 := by kernel_rfl
theorem Tryz.cells60 : Tryz.prog.cellsOf 60 = 5 := by kernel_rfl
theorem Tryz.cells38 : Tryz.prog.cellsOf 38 = 3 := by kernel_rfl
theorem Tryz.cells26 : Tryz.prog.cellsOf 26 = 3 := by kernel_rfl
theorem Tryz.cells22 : Tryz.prog.cellsOf 22 = 1 := by kernel_rfl
theorem Tryz.cells23 : Tryz.prog.cellsOf 23 = 1 := by kernel_rfl
theorem Tryz.cells24 : Tryz.prog.cellsOf 24 = 1 := by kernel_rfl
theorem Tryz.cells3 : Tryz.prog.cellsOf 3 = 1 := by kernel_rfl
theorem Tryz.cells9 : Tryz.prog.cellsOf 9 = 1 := by kernel_rfl
theorem Tryz.cells5 : Tryz.prog.cellsOf 5 = 1 := by kernel_rfl
section
variable {H : Type} {encH : TypeId × Value → H} {w : World}
def Wf64 (n : Int) : Prop := (Lit.int .i64 n).wf = true
def Wf8 (n : Int) : Prop := (Lit.int .u8 n).wf = true
theorem flat_i64 {g : Nat} : Flat encH Tryz.prog w (g + 1) 3 I.tvs Wf64 := flat_int Tryz.underlying3
structure BWf (b : B) : Prop where
 lo : Wf64 b.lo
 hi : Wf64 b.hi
 f : Wf8 b.f
structure OWf (o : O) : Prop where
 code : Wf8 o.code
 a : Wf64 o.a
 b : Wf64 o.b
 c : Wf64 o.c
 n : Wf64 o.n
structure KWf (k : K) : Prop where
 lo : Wf64 k.lo
 hi : Wf64 k.hi
theorem three {α : Type} {l : List α} (h : l.length = 3) : ∃ a b c, l = [a, b, c] := by
 match l, h with
 | [a, b, c], _ => exact ⟨a, b, c, rfl⟩
theorem five {α : Type} {l : List α} (h : l.length = 5) : ∃ a b c d e, l = [a, b, c, d, e] := by
 match l, h with
 | [a, b, c, d, e], _ => exact ⟨a, b, c, d, e, rfl⟩
theorem flat_B {g : Nat} : Flat encH Tryz.prog w (g + 2) 38 B.tvs BWf := by
 intro d hd
 obtain ⟨ds, rfl, hl, hat⟩ := rd_struct Tryz.underlying38 hd
 obtain ⟨a, b, c, rfl⟩ := three hl
 obtain ⟨x, rfl, wx⟩ := rd_int Tryz.underlying3 (hat 0 _ a rfl rfl)
 obtain ⟨y, rfl, wy⟩ := rd_int Tryz.underlying3 (hat 1 _ b rfl rfl)
 obtain ⟨z, rfl, wz⟩ := rd_int Tryz.underlying5 (hat 2 _ c rfl rfl)
 exact ⟨⟨x, y, z⟩, ⟨wx, wy, wz⟩, fun h => by simp [encT, encF, Tryz.underlying38, Tryz.underlying3, Tryz.underlying5, Tryz.cells38, Tryz.cells3, Tryz.cells5]⟩
theorem flat_O {g : Nat} : Flat encH Tryz.prog w (g + 2) 60 O.tvs OWf := by
 intro d hd
 obtain ⟨ds, rfl, hl, hat⟩ := rd_struct Tryz.underlying60 hd
 obtain ⟨a, b, c, e, f, rfl⟩ := five hl
 obtain ⟨x, rfl, wx⟩ := rd_int Tryz.underlying5 (hat 0 _ a rfl rfl)
 obtain ⟨y, rfl, wy⟩ := rd_int Tryz.underlying3 (hat 1 _ b rfl rfl)
 obtain ⟨z, rfl, wz⟩ := rd_int Tryz.underlying3 (hat 2 _ c rfl rfl)
 obtain ⟨u, rfl, wu⟩ := rd_int Tryz.underlying3 (hat 3 _ e rfl rfl)
 obtain ⟨v, rfl, wv⟩ := rd_int Tryz.underlying3 (hat 4 _ f rfl rfl)
 exact ⟨⟨x, y, z, u, v⟩, ⟨wx, wy, wz, wu, wv⟩, fun h => by simp [encT, encF, Tryz.underlying60, Tryz.underlying3, Tryz.underlying5, Tryz.cells60, Tryz.cells3, Tryz.cells5]⟩
theorem flat_K {g : Nat} : Flat encH Tryz.prog w (g + 2) 62 K.tvs KWf := by
 intro d hd
 obtain ⟨ds, rfl, hl, hat⟩ := rd_struct Tryz.underlying62 hd
 obtain ⟨a, b, c, rfl⟩ := three hl
 obtain ⟨x, rfl⟩ := rd_str Tryz.underlying9 (hat 0 _ a rfl rfl)
 obtain ⟨y, rfl, wy⟩ := rd_int Tryz.underlying3 (hat 1 _ b rfl rfl)
 obtain ⟨z, rfl, wz⟩ := rd_int Tryz.underlying3 (hat 2 _ c rfl rfl)
 exact ⟨⟨⟨x.toArray⟩, y, z⟩, ⟨wy, wz⟩, fun h => by simp [encT, encF, Tryz.underlying62, Tryz.underlying3, Tryz.underlying9, Tryz.cells62, Tryz.cells3, Tryz.cells9]⟩
structure CWf (c : C) : Prop where
 cs : ∀ k ∈ c.cs, KWf k
 os : ∀ o ∈ c.os, OWf o
 rs : ∀ r ∈ c.rs, Wf64 r
end
end Go.Proofs.YtfhiejgoemcelaaGreat
namespace Go.Proofs.YtfhiejgoemcelaaGreat
open Go Tw Go.ChangeShapes Go.WideShapes Go.ChangeAt Go.RowKit
theorem Tryz.own : ownKnob Tryz.prog.godebug = none := by kernel_rfl
theorem Tryz.laidOut : laidOutB Tryz.prog = true := by kernel_rfl
theorem Tryz.mixed : Tryz.prog.follows .mixedOrders = true := by kernel_rfl
theorem trodAll_1 {H : Type} {enc : TypeId × Value → H} {P : Program} {w : World} {t : TypeId} {vs : List Value} {ds : List (DataW H)} {ps : List MemPlace} (h : DataW.TrodAll enc P w 0 (fun _ => true) true [t] vs ds ps) : ∃ d, ds = [d] ∧ Rd enc P w t d := by
 obtain ⟨v, vs', d, ds', p, q, rfl, rfl, rfl, ⟨fuel, hd⟩, hrest⟩ := trodAll_cons h
 obtain ⟨rfl, rfl, rfl⟩ := trodAll_nil hrest
 exact ⟨d, rfl, _, fuel, p, hd⟩
theorem agg26 : isAggT Tryz.prog 26 = some true := by kernel_rfl
end Go.Proofs.YtfhiejgoemcelaaGreat
namespace Go.Proofs.YtfhiejgoemcelaaGreat
open Go Tw Go.ChangeShapes Go.WideShapes Go.ChangeAt Go.RowKit
theorem trodAll_2 {H : Type} {enc : TypeId × Value → H} {P : Program} {w : World} {t u : TypeId} {vs : List Value} {ds : List (DataW H)} {ps : List MemPlace} (h : DataW.TrodAll enc P w 0 (fun _ => true) true [t, u] vs ds ps) : ∃ d e, ds = [d, e] ∧ Rd enc P w t d ∧ Rd enc P w u e := by
 obtain ⟨v, vs', d, ds', p, q, rfl, rfl, rfl, ⟨fuel, hd⟩, hrest⟩ := trodAll_cons h
 obtain ⟨e, rfl, he⟩ := trodAll_1 hrest
 exact ⟨d, e, rfl, ⟨_, fuel, p, hd⟩, he⟩
theorem agg29 : isAggT Tryz.prog 29 = some false := by kernel_rfl
theorem agg49 : isAggT Tryz.prog 49 = some true := by kernel_rfl
theorem wf8 {n : Int} (h : Wf8 n) : 0 ≤ n ∧ n ≤ 255 := by
 simp only [Wf8, Lit.wf, Bool.and_eq_true, decide_eq_true_eq] at h
 exact h
section
variable {H : Type} {encH : TypeId × Value → H} {w : World}
theorem rd_i64 {d : DataW H} {g : Nat} (hd : Rd encH Tryz.prog w 3 d) : ∃ n : Int, ∀ h, encT Tryz.prog (g + 1) 3 d h = some ([.int .i64 n], h) := by
 obtain ⟨n, rfl, _⟩ := rd_int Tryz.underlying3 hd
 exact ⟨n, fun h => by simp [encT, Tryz.underlying3]⟩
theorem Tryz.cells49 : Tryz.prog.cellsOf 49 = 7 := by kernel_rfl
end
end Go.Proofs.YtfhiejgoemcelaaGreat
namespace Go.Proofs.YtfhiejgoemcelaaGreat
open Go Tw Pv
abbrev AT : Nat → Prop := fun _ => True
def LV (t : Nat) (h : List HB) (x : TV) (l : List (gam t)) : Prop := ∀ e, Pv.VR X0 Tryz.prog AT [] (h ++ e) (.lst t l false) x
theorem LV.app {t : Nat} {h : List HB} {x : TV} {l : List (gam t)} (hl : LV t h x l) (e : List HB) : LV t (h ++ e) x l := fun e2 => by rw [List.append_assoc]; exact hl _
theorem lst_of {e a n cap sz : Nat} {l : List (gam e)} {h : List HB} {cs : List TV} (hn : l.length = n) (hb : blkCells h a = some cs) (hz : sizeT Tryz.prog e = some sz) (h0 : 0 < sz) (hc : 0 + n * sz ≤ cs.length) (hcap : n ≤ cap)
  (he : ∀ (j : Nat) (x : gam e), l[j]? = some x → (X0.enc e x).length = sz) (hv : ∀ (j : Nat) (x : gam e) (i : Nat) (c : PV gam) (v : TV), l[j]? = some x → (X0.enc e x)[i]? = some c → cs[0 + j * sz + i]? = some v → Pv.VR X0 Tryz.prog AT [] h c v) : Pv.VR X0 Tryz.prog AT [] h (.lst e l false) (.slc a 0 n cap sz true) := by
 subst hn
 exact Pv.VR.lst (X := X0) (P := Tryz.prog) (A := AT) (m := []) (t := e) (l := l) (fu := false) (off := 0) (cap := cap) (ex := true) trivial hb hz h0 hc hcap (by simp) he hv
theorem vk (a : K) (h : List HB) : Pv.VRs X0 Tryz.prog AT [] h (K.ps a) (K.tvs a) := .cons (.str _) (.cons (.int _ _) (.cons (.int _ _) .nil))
theorem vo (a : O) (h : List HB) : Pv.VRs X0 Tryz.prog AT [] h (O.ps a) (O.tvs a) := .cons (.int _ _) (.cons (.int _ _) (.cons (.int _ _) (.cons (.int _ _) (.cons (.int _ _) .nil))))
theorem vb (a : B) (h : List HB) : Pv.VRs X0 Tryz.prog AT [] h (B.ps a) (B.tvs a) := .cons (.int _ _) (.cons (.int _ _) (.cons (.int _ _) .nil))
theorem vi (a : Int) (h : List HB) : Pv.VRs X0 Tryz.prog AT [] h [.int .i64 a] (I.tvs a) := .cons (.int _ _) .nil
theorem vh (a : Int) (h : List HB) : Pv.VRs X0 Tryz.prog AT [] h [.int .u16 a] (H.tvs a) := .cons (.int _ _) .nil
section
variable {H : Type} {encH : TypeId × Value → H} {w : World}
theorem rd_listV {t e : TypeId} {enc : gam e → List TV} {Q : gam e → Prop} {g sz : Nat} {d : DataW H} (ht : Tryz.prog.underlying t = some (.slice e)) (hsz : Tryz.prog.cellsOf e = sz) (hz : sizeT Tryz.prog e = some sz) (h0 : 0 < sz) (hf : Flat encH Tryz.prog w g e enc Q) (hlen : ∀ a, (enc a).length = sz)
  (henc : ∀ (a : gam e) (h : List HB), Pv.VRs X0 Tryz.prog AT [] h (X0.enc e a) (enc a)) (hd : Rd encH Tryz.prog w t d) :
  ∃ l : List (gam e), (∀ a ∈ l, Q a) ∧ ∀ h, ∃ x ext, encT Tryz.prog (g + 1) t d h = some ([x], h ++ ext) ∧ LV e (h ++ ext) x l := by
 rcases rd_slice ht hd with rfl | ⟨xs, ys, rfl, hy⟩
 ·exact ⟨[], by simp, fun h => ⟨.nil .slc, [], by simp [encT, ht], fun _ => .lstN⟩⟩
 ·obtain ⟨l, h1, h2, h3⟩ := encL_flat hf hlen (xs ++ ys) hy
  have hl : xs.length ≤ l.length := by rw [h1, List.length_append]; omega
  refine ⟨l.take xs.length, fun a ha => h2 a (List.mem_of_mem_take ha), fun h => ⟨.slc h.length 0 xs.length (xs.length + ys.length) sz true, [.cells .ro (l.map enc).flatten], ?_, fun e2 => ?_⟩⟩
  ·have hne : ¬ sz = 0 := by omega
   simp only [encT, ht, hsz, h3 h, hne, if_false]
  ·have hln : (l.take xs.length).length = xs.length := by rw [List.length_take, Nat.min_eq_left hl]
   have hb : blkCells (h ++ [.cells .ro (l.map enc).flatten] ++ e2) h.length = some (l.map enc).flatten := by
    unfold blkCells
    rw [List.append_assoc, List.getElem?_append_right (Nat.le_refl _), Nat.sub_self]; rfl
   have hall : ∀ r ∈ l.map enc, r.length = sz := fun r hr => by obtain ⟨a, _, rfl⟩ := List.mem_map.mp hr; exact hlen a
   refine lst_of hln hb hz h0 ?_ (by omega) (fun j a hj => by rw [(henc a []).1]; exact hlen a) (fun j a i c v hj hi hv => ?_)
   ·rw [flatten_len hlen]; have := Nat.mul_le_mul_right sz hl; omega
   ·have hj2 : l[j]? = some a := by
     rw [List.getElem?_take] at hj
     split at hj
     ·exact hj
     ·cases hj
    obtain ⟨f1, _⟩ := flat_get hall (j := j) (r := enc a) (by rw [List.getElem?_map, hj2]; rfl)
    have hi2 : i < sz := by rw [← hlen a, ← (henc a []).1]; exact (List.getElem?_eq_some_iff.1 hi).1
    have := sub_get f1 hi2
    rw [Nat.zero_add, this] at hv
    exact (henc a _).2 i c v hi hv
theorem rd_coreV {d : DataW H} {g : Nat} (hd : Rd encH Tryz.prog w 26 d) : ∃ c : C, CWf c ∧ ∀ h, ∃ xc xo xr ext, encT Tryz.prog (g + 4) 26 d h = some ([xc, xo, xr], h ++ ext) ∧ ∀ e, Pv.VRs X0 Tryz.prog AT [] (h ++ ext ++ e) (xC c) [xc, xo, xr] := by
 obtain ⟨ds, rfl, hl, hat⟩ := rd_struct Tryz.underlying26 hd
 obtain ⟨a, b, c, rfl⟩ := three hl
 obtain ⟨lc, qc, hc⟩ := rd_listV (e := 62) (enc := K.tvs) (g := g + 2) Tryz.underlying22 Tryz.cells62 z62 (by decide) flat_K (fun _ => rfl) vk (hat 0 _ a rfl rfl)
 obtain ⟨lo, qo, ho⟩ := rd_listV (e := 60) (enc := O.tvs) (g := g + 2) Tryz.underlying23 Tryz.cells60 z60 (by decide) flat_O (fun _ => rfl) vo (hat 1 _ b rfl rfl)
 obtain ⟨lr, qr, hr⟩ := rd_listV (e := 3) (enc := I.tvs) (g := g + 2) Tryz.underlying24 Tryz.cells3 z3 (by decide) flat_i64 (fun _ => rfl) vi (hat 2 _ c rfl rfl)
 refine ⟨⟨lc, lo, lr⟩, ⟨qc, qo, qr⟩, fun h => ?_⟩
 obtain ⟨xc, e1, h1, s1⟩ := hc h
 obtain ⟨xo, e2, h2, s2⟩ := ho (h ++ e1)
 obtain ⟨xr, e3, h3, s3⟩ := hr (h ++ e1 ++ e2)
 refine ⟨xc, xo, xr, e1 ++ e2 ++ e3, ?_, fun e => .cons ?_ (.cons ?_ (.cons ?_ .nil))⟩
 ·simp only [List.append_assoc] at h1 h2 h3 ⊢
  rw [encT_struct Tryz.underlying26]
  simp [encF, Tryz.cells26, Tryz.cells22, Tryz.cells23, Tryz.cells24, h1, h2, h3]
 ·have := s1 (e2 ++ e3 ++ e)
  simp only [List.append_assoc] at this ⊢
  exact this
 ·have := s2 (e3 ++ e)
  simp only [List.append_assoc] at this ⊢
  exact this
 ·have := s3 e
  simp only [List.append_assoc] at this ⊢
  exact this
end
theorem run_of {n f : Nat} {vs : List (PV gam)} {xs : List TV} {h : List HB} (hc : Con X0 Tryz.prog (ApN (n + 1)) f vs (PV.bool true) []) (hv : Pv.VRs X0 Tryz.prog AT [] h vs xs) : ∃ h', apN Tryz.prog T LL (n + 1) (TV.fn f [] []) xs h = some (TV.bool true, h', []) := by
 obtain ⟨x, h', m', c1, _, c3, _⟩ := hc AT h [] xs [] (fun _ _ => trivial) (by simpa using hv)
 have : x = TV.bool true := by
  cases c3 with
  | bool => rfl
  | gone hi _ _ => simp [idOf] at hi
 subst this
 exact ⟨h', c1⟩
end Go.Proofs.YtfhiejgoemcelaaGreat
namespace Go.Proofs.YtfhiejgoemcelaaGreat
open Go Tw Pv Go.ChangeShapes Go.WideShapes Go.ChangeAt Go.RowKit
theorem trodAll_3 {H : Type} {enc : TypeId × Value → H} {P : Program} {w : World} {t u s : TypeId} {vs : List Value} {ds : List (DataW H)} {ps : List MemPlace} (h : DataW.TrodAll enc P w 0 (fun _ => true) true [t, u, s] vs ds ps) : ∃ d e f, ds = [d, e, f] ∧ Rd enc P w t d ∧ Rd enc P w u e ∧ Rd enc P w s f := by
 obtain ⟨v, vs', d, ds', p, q, rfl, rfl, rfl, ⟨fuel, hd⟩, hrest⟩ := trodAll_cons h
 obtain ⟨e, f, rfl, he, hf⟩ := trodAll_2 hrest
 exact ⟨d, e, f, rfl, ⟨_, fuel, p, hd⟩, he, hf⟩
section
variable {H : Type} {P : Program} {g : Nat} {t : TypeId} {ts : List TypeId} {d : DataW H} {ds : List (DataW H)} {h h1 h2 : List HB} {xs : List TV}
theorem encA_a {cs : List TV} (ha : isAggT P t = some true) (he : encT P g t d h = some (cs, h1)) (hr : encA P g ts ds h1 = some (xs, h2)) : encA P g (t :: ts) (d :: ds) h = some (.agg cs :: xs, h2) := by
 simp only [encA, he, ha, hr]
theorem encA_o {x : TV} (ha : isAggT P t = some false) (he : encT P g t d h = some ([x], h1)) (hr : encA P g ts ds h1 = some (xs, h2)) : encA P g (t :: ts) (d :: ds) h = some (x :: xs, h2) := by
 simp only [encA, he, ha, hr]
theorem encA_0 : encA (H := H) P g [] [] h = some ([], h) := rfl
end
theorem agg5 : isAggT Tryz.prog 5 = some false := by kernel_rfl
theorem agg63 : isAggT Tryz.prog 63 = some false := by kernel_rfl
theorem agg64 : isAggT Tryz.prog 64 = some false := by kernel_rfl
theorem Tryz.cells63 : Tryz.prog.cellsOf 63 = 1 := by kernel_rfl
theorem wf16 {n : Int} (h : (Lit.int .u16 n).wf = true) : 0 ≤ n ∧ n < 65536 := by
 simp only [Lit.wf, Bool.and_eq_true, decide_eq_true_eq] at h
 have h1 := h.1
 have h2 := h.2
 have e1 : IntKind.u16.min = 0 := by decide
 have e2 : IntKind.u16.max = 65535 := by decide
 omega
section
variable {H : Type} {encH : TypeId × Value → H} {w : World}
theorem rd_u8 {d : DataW H} {g : Nat} (hd : Rd encH Tryz.prog w 5 d) : ∃ n : Int, (0 ≤ n ∧ n < 256) ∧ ∀ h, encT Tryz.prog (g + 1) 5 d h = some ([.int .u8 n], h) := by
 obtain ⟨n, rfl, hn⟩ := rd_int Tryz.underlying5 hd
 exact ⟨n, by have := wf8 hn; omega, fun h => by simp [encT, Tryz.underlying5]⟩
theorem rd_u16 {d : DataW H} {g : Nat} (hd : Rd encH Tryz.prog w 63 d) : ∃ n : Int, (0 ≤ n ∧ n < 65536) ∧ ∀ h, encT Tryz.prog (g + 1) 63 d h = some ([.int .u16 n], h) := by
 obtain ⟨n, rfl, hn⟩ := rd_int Tryz.underlying63 hd
 exact ⟨n, wf16 hn, fun h => by simp [encT, Tryz.underlying63]⟩
theorem rd_hs {d : DataW H} {g : Nat} (hd : Rd encH Tryz.prog w 64 d) : ∃ l : List Int, (∀ a ∈ l, 0 ≤ a ∧ a < 65536) ∧ ∀ h, ∃ x ext, encT Tryz.prog (g + 2) 64 d h = some ([x], h ++ ext) ∧ LV 63 (h ++ ext) x l := by
 obtain ⟨l, q, hl⟩ := rd_listV (e := 63) (enc := fun a : Int => [TV.int .u16 a]) (g := g + 1) Tryz.underlying64 Tryz.cells63 z63 (by decide) (flat_int Tryz.underlying63) (fun _ => rfl) vh hd
 exact ⟨l, fun a ha => wf16 (q a ha), hl⟩
theorem rd_bs {d : DataW H} {g : Nat} (hd : Rd encH Tryz.prog w 29 d) : ∃ l : List B, (∀ b ∈ l, 0 ≤ b.f ∧ b.f ≤ 255) ∧ ∀ h, ∃ x ext, encT Tryz.prog (g + 3) 29 d h = some ([x], h ++ ext) ∧ LV 38 (h ++ ext) x l := by
 obtain ⟨l, q, hl⟩ := rd_listV (e := 38) (enc := B.tvs) (g := g + 2) Tryz.underlying29 Tryz.cells38 z38 (by decide) flat_B (fun _ => rfl) vb hd
 exact ⟨l, fun b hb => wf8 (q b hb).f, hl⟩
theorem rd_askedV {d : DataW H} {g : Nat} (hd : Rd encH Tryz.prog w 49 d) : ∃ (c : C) (op : Int) (kn : B), (0 ≤ kn.f ∧ kn.f ≤ 255) ∧ ∀ h, ∃ xs ext, encT Tryz.prog (g + 5) 49 d h = some (xs, h ++ ext) ∧ ∀ e, Pv.VRs X0 Tryz.prog AT [] (h ++ ext ++ e) [.lst 62 c.cs false, .lst 60 c.os false, .lst 3 c.rs false, .int .i64 op, .int .i64 kn.lo, .int .i64 kn.hi, .int .u8 kn.f] xs := by
 obtain ⟨ds, rfl, hl, hat⟩ := rd_struct Tryz.underlying49 hd
 obtain ⟨a, b, e, rfl⟩ := three hl
 obtain ⟨c, _, hc⟩ := rd_coreV (g := g) (hat 0 _ a rfl rfl)
 obtain ⟨op, ho⟩ := rd_i64 (g := g + 3) (hat 1 _ b rfl rfl)
 obtain ⟨kn, hw, hk⟩ := flat_B (g := g + 2) e (hat 2 _ e rfl rfl)
 refine ⟨c, op, kn, wf8 hw.f, fun h => ?_⟩
 obtain ⟨xc, xo, xr, ext, he, hv⟩ := hc h
 refine ⟨[xc, xo, xr, .int .i64 op, .int .i64 kn.lo, .int .i64 kn.hi, .int .u8 kn.f], ext, ?_, fun e => ?_⟩
 ·rw [encT_struct Tryz.underlying49]
  simp [encF, Tryz.cells49, Tryz.cells26, Tryz.cells3, Tryz.cells38, he, ho, hk]
 ·obtain ⟨y, r, e1, h1, h2⟩ := (hv e).inv
  cases e1
  obtain ⟨y, r, e1, h3, h4⟩ := h2.inv
  cases e1
  obtain ⟨y, r, e1, h5, h6⟩ := h4.inv
  cases e1
  exact .cons h1 (.cons h3 (.cons h5 (.cons (.int _ _) (.cons (.int _ _) (.cons (.int _ _) (.cons (.int _ _) .nil))))))
end
end Go.Proofs.YtfhiejgoemcelaaGreat
namespace Go.Proofs.YtfhiejgoemcelaaGreat
open Go Tw
theorem pow_facts : ∀ k : Fin 15, IntKind.i64.wrap (0 - ((2 ^ k.val : Nat) : Int)) = -((2 ^ k.val : Nat) : Int) ∧ IntKind.i64.wrap (((k.val : Nat) : Int) + 1) = ((k.val + 1 : Nat) : Int) ∧ IntKind.i64.wrap (((2 ^ k.val : Nat) : Int) * 2) = ((2 ^ (k.val + 1) : Nat) : Int) ∧
  shlI .i64 (-1 : Int) (IntKind.u64.wrap (IntKind.i64.wrap (((k.val + 1 : Nat) : Int) - 1))) = -((2 ^ k.val : Nat) : Int) ∧ IntKind.i64.wrap ((shlI .i64 (1 : Int) (IntKind.u64.wrap (IntKind.i64.wrap (((k.val + 1 : Nat) : Int) - 1)))) - 1) = ((2 ^ k.val : Nat) : Int) - 1 ∧ IntKind.i64.wrap (((k.val + 1 : Nat) : Int) + 1) = ((k.val + 2 : Nat) : Int) := by decide +kernel
theorem fits_at {r : B} (hle : r.lo ≤ r.hi) {k : Nat} (hk : k < 15) : S_rFits r ((k + 1 : Nat) : Int) = decide (-((2 ^ k : Nat) : Int) ≤ r.lo ∧ r.hi < ((2 ^ k : Nat) : Int)) := by
 obtain ⟨_, _, _, h4, h5, _⟩ := pow_facts ⟨k, hk⟩
 simp only at h4 h5
 unfold S_rFits
 rw [h4, h5, if_neg (by simpa using hle), if_pos (by first | (simp; done) | (simp; omega))]
 split
 ·rename_i h; simp only [decide_eq_true_eq, ge_iff_le] at h
  have : (r.hi ≤ ((2 ^ k : Nat) : Int) - 1) ↔ (-((2 ^ k : Nat) : Int) ≤ r.lo ∧ r.hi < ((2 ^ k : Nat) : Int)) := by omega
  simp only [this]
 ·rename_i h; simp only [decide_eq_true_eq, ge_iff_le] at h
  symm; simp only [decide_eq_false_iff_not]; omega
theorem width_step {r : B} (hle : r.lo ≤ r.hi) (h0 : -9999 ≤ r.lo) (h1 : r.hi ≤ 9999) : ∀ (d k : Nat), k + d = 14 → ∃ v : Nat, k ≤ v ∧ v ≤ 14 ∧ widthF (50 + d) r k ((2 ^ k : Nat) : Int) = some (true, (v : Int), ((2 ^ v : Nat) : Int)) ∧ bitsF (49 + d) r ((k + 1 : Nat) : Int) = some ((v + 1 : Nat) : Int)
 | d, k, hd => by
  have hk : k < 15 := by omega
  obtain ⟨f1, f2, f3, _, _, f6⟩ := pow_facts ⟨k, hk⟩
  simp only at f1 f2 f3 f6
  by_cases hc : -((2 ^ k : Nat) : Int) ≤ r.lo ∧ r.hi < ((2 ^ k : Nat) : Int)
  ·refine ⟨k, Nat.le_refl _, by omega, ?_, ?_⟩
   ·rw [show 50 + d = (49 + d) + 1 by omega]
    simp only [widthF, hle, f1, hc.1, hc.2, decide_true, if_true]
   ·rw [show 49 + d = (48 + d) + 1 by omega]
    simp only [bitsF, fits_at hle hk, hc, and_self, decide_true, Bool.not_true, Bool.false_eq_true, if_false]
  ·cases d with
   | zero =>
    exfalso; apply hc
    have : k = 14 := by omega
    subst this
    constructor
    ·show -((16384 : Nat) : Int) ≤ r.lo; omega
    ·show r.hi < ((16384 : Nat) : Int); omega
   | succ d =>
    obtain ⟨v, a1, a2, a3, a4⟩ := width_step hle h0 h1 d (k + 1) (by omega)
    refine ⟨v, by omega, a2, ?_, ?_⟩
    ·rw [show 50 + (d + 1) = (50 + d) + 1 by omega]
     simp only [widthF, hle, f1, f2, f3, decide_true, if_true]
     rw [← a3]
     split
     ·rename_i h; simp only [decide_eq_true_eq] at h
      rw [if_neg (by simp only [decide_eq_true_eq]; omega)]
     ·rfl
    ·rw [show 49 + (d + 1) = (49 + d) + 1 by omega]
     simp only [bitsF, fits_at hle hk, hc, decide_false, Bool.not_false, if_true, f6]
     exact a4
theorem width_bits {r : B} (hg : Good r) : (widthF 64 r 0 1).isSome = true ∧ bitsF 64 r 0 = some (S_width r) := by
 by_cases hle : r.lo ≤ r.hi
 ·have hn := good_num hg hle
  obtain ⟨v, _, hv, a3, a4⟩ := width_step hle hn.1 hn.2.2 14 0 rfl
  have a3' : widthF 64 r 0 1 = some (true, (v : Int), ((2 ^ v : Nat) : Int)) := a3
  have f2 := (pow_facts ⟨v, by omega⟩).2.1
  simp only at f2
  refine ⟨by rw [a3']; rfl, ?_⟩
  have : S_width r = ((v + 1 : Nat) : Int) := by unfold S_width; rw [a3']; exact f2
  rw [this, ← a4]
  have : S_rFits r 0 = false := by unfold S_rFits; rw [if_neg (by simpa using hle), if_neg (by decide)]
  show bitsF (63 + 1) r 0 = _
  simp only [bitsF, this, Bool.not_false, if_true]
  rfl
 ·have h1 : widthF 64 r 0 1 = some (false, 0, 1) := by
   show widthF (63 + 1) r 0 1 = _
   simp only [widthF, hle, decide_false, Bool.false_eq_true, if_false]
  refine ⟨by rw [h1]; rfl, ?_⟩
  have h2 : S_width r = 0 := by unfold S_width; rw [h1]
  rw [h2]
  show bitsF (63 + 1) r 0 = _
  have : S_rFits r 0 = true := by unfold S_rFits; rw [if_pos (by simpa using hle)]
  simp only [bitsF, this, Bool.not_true, Bool.false_eq_true, if_false]
end Go.Proofs.YtfhiejgoemcelaaGreat
