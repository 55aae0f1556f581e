/- The statement mistlaw13.ReachGrows: if the range of a choice is wider, no reach has fewer numbers or faults; without conditions. -/
import Derived.Test.YtfhiejgoemcelaaGreatPf
set_option linter.constructorNameAsVariable false
set_option linter.unusedVariables false
set_option linter.unusedSimpArgs false
set_option linter.unusedSectionVars false
namespace Go.Proofs.YtfhiejgoemcelaaGreat
open Go Tw Pv
theorem of_grows {c c' : C} (hc : Cc c) (hc' : Cc c') (ho : c'.os = c.os) {kn : B} (hl : ∀ b ∈ S_rOf c (-1) kn, Good b) (hl' : ∀ b ∈ S_rOf c' (-1) kn, Good b) (hcc : ∀ j, j < c.cs.length → (c'.cs.getD j K0).lo ≤ (c.cs.getD j K0).lo ∧ (c.cs.getD j K0).hi ≤ (c'.cs.getD j K0).hi) : ∀ i, i < c.os.length → Le ((S_rOf c (-1) kn).getD i B0) ((S_rOf c' (-1) kn).getD i B0) :=
 le_all hc hl hl' hcc fun i o h0 h => by
  rw [of_at1 hc h0, of_at1 hc' (by rw [ho]; exact h0)]
  exact h
end Go.Proofs.YtfhiejgoemcelaaGreat
namespace Go.Proofs.YtfhiejgoemcelaaGreat
open Go Tw Pv
theorem take_f {r : B} {v : V} (hr : Can r) (hv : VGood v) : Le r (S_rTake r v) ∧ Mem (S_rTake r v) v ∧ ∀ R, Le r R → Mem R v → Le (S_rTake r v) R := by
 unfold S_rTake
 by_cases h : v.f = 0
 ·rw [if_neg (by simp [h])]
  have hp : Can (⟨v.n, v.n, 0⟩ : B) := .pt
  refine ⟨le_hull1, ⟨fun _ => ?_, fun g => absurd h g⟩, fun R h1 h2 => hull_le h1 ⟨fun _ => h2.n h, fun f _ _ g => absurd g fb_0⟩⟩
  have := (le_hull2 (a := r) (b := (⟨v.n, v.n, 0⟩ : B))).n (Int.le_refl _)
  exact this
 ·rw [if_pos (by simpa using h)]
  have f0 := hv.f0
  have hb : ∀ f, 1 ≤ f → f ≤ 4 → (FB (S_rFault v.f) f ↔ f = v.f) := fun f f1 f2 => fb_bit (by omega) hv.f1 f1 f2
  refine ⟨⟨fun g => ⟨Int.le_refl _, Int.le_refl _⟩, fun f _ _ g => fb_or.2 (.inl g)⟩, ⟨fun g => absurd g h, fun _ => fb_or.2 (.inr ((hb v.f (by omega) hv.f1).2 rfl))⟩, fun R h1 h2 => ⟨h1.n, fun f f1 f2 g => ?_⟩⟩
  rcases fb_or.1 g with g | g
  ·exact h1.f f f1 f2 g
  ·rw [(hb f f1 f2).1 g]; exact h2.f h
theorem take_can {r : B} {v : V} (hr : Can r) : Can (S_rTake r v) := by
 unfold S_rTake
 split
 ·exact hr
 ·exact hr.with _
theorem gTk_at : ∀ (vs : List V) (k : Nat) (s : List B) (j : Nat), (getE (runL gTk vs k s)).getD j B0 = if k ≤ j ∧ j < k + vs.length ∧ j < s.length then S_rTake (s.getD j B0) (vs.getD (j - k) V0) else s.getD j B0
 | [], k, s, j => by rw [if_neg (by simp; omega)]; rfl
 | v :: vs, k, s, j => by
  simp only [runL, gTk]
  rw [gTk_at vs (k + 1) _ j]
  simp only [List.length_set, List.length_cons, List.getD_eq_getElem?_getD, List.getElem?_set]
  by_cases hjk : k = j
  ·subst hjk
   rw [if_neg (by omega), if_pos rfl]
   by_cases hs : k < s.length
   ·rw [if_pos hs, if_pos (by omega), Nat.sub_self]; rfl
   ·rw [if_neg hs, if_neg (by omega), List.getElem?_eq_none (by omega)]
  ·rw [if_neg hjk]
   by_cases h : k + 1 ≤ j ∧ j < k + 1 + vs.length ∧ j < s.length
   ·rw [if_pos h, if_pos (by omega)]
    rw [show j - k = (j - (k + 1)) + 1 by omega]; rfl
   ·rw [if_neg h, if_neg (by omega)]
theorem takeAll_at (s : List B) (vs : List V) {j : Nat} (h1 : j < vs.length) (h2 : j < s.length) : (takeAll s vs).getD j B0 = S_rTake (s.getD j B0) (vs.getD j V0) := by
 unfold takeAll
 rw [gTk_at, if_pos (by omega), Nat.sub_zero]
def tightF (c : C) (n : Nat) : List B := (List.range n).foldl (fun s (m : Nat) => takeAll s (S_rAll c (nthW c (m : Int)))) (List.replicate c.os.length S_rNone)
theorem tight_F (c : C) (n : Nat) : S_rTightN c n = tightF c n := by
 unfold S_rTightN tightF
 rw [run30n]
 have e0 := run30 c.os.length 0
 simp only [List.replicate_zero, List.nil_append, Nat.zero_add] at e0
 rw [e0]
 simp only [Nat.zero_add]
theorem tightF_succ (c : C) (n : Nat) : tightF c (n + 1) = takeAll (tightF c n) (S_rAll c (nthW c (n : Int))) := by
 unfold tightF
 rw [List.range_succ, List.foldl_append]; rfl
theorem tightF_len (c : C) (n : Nat) : (tightF c n).length = c.os.length := by rw [← tight_F]; exact rTightN_len c n
theorem tightF_ok {c : C} (h : Rdy c) : ∀ n, n ≤ 1000000 → ∀ j, j < c.os.length → Can ((tightF c n).getD j B0) ∧ (∀ m, m < n → Mem ((tightF c n).getD j B0) ((S_rAll c (nthW c (m : Int))).getD j V0)) ∧ ∀ R, (∀ m, m < n → Mem R ((S_rAll c (nthW c (m : Int))).getD j V0)) → Le ((tightF c n).getD j B0) R := by
 intro n
 induction n with
 | zero =>
  intro _ j hj
  have e : (tightF c 0).getD j B0 = ⟨1, 0, 0⟩ := by
   unfold tightF
   simp only [List.range_zero, List.foldl_nil]
   rw [List.getD_eq_getElem?_getD, List.getElem?_replicate, if_pos hj]; rfl
  rw [e]
  exact ⟨.none, fun m hm => absurd hm (by omega), fun R _ => none_le fun g _ _ h => absurd h fb_0⟩
 | succ n ih =>
  intro hn j hj
  obtain ⟨i1, i2, i3⟩ := ih (by omega) j hj
  have hw := h.world (n := n) (by omega)
  have hv : VGood ((S_rAll c (nthW c (n : Int))).getD j V0) := vgood_at (vgood_all hw) j
  obtain ⟨t1, t2, t3⟩ := take_f i1 hv
  rw [tightF_succ, takeAll_at _ _ (by rw [rAll_len]; exact hj) (by rw [tightF_len]; exact hj)]
  refine ⟨take_can i1, fun m hm => ?_, fun R hR => t3 R (i3 R fun m hm => hR m (by omega)) (hR n (by omega))⟩
  by_cases hmn : m = n
  ·subst hmn; exact t2
  ·exact t1.mem (vgood_at (vgood_all (h.world (n := m) (by omega))) j) (i2 m (by omega))
theorem Rdy.tight {c : C} (h : Rdy c) : S_Tight c = (tightF c (prodR c.cs.reverse), 0) := by
 have := (tight_eq h.ok (by rw [h.many]; have := h.few; omega)).1
 rw [this, h.many, Int.toNat_natCast, tight_F]
theorem nthR_wide : ∀ (rs rs' : List K) (_ : ∀ k ∈ rs', KOk k) (w : List Int), rs.length = rs'.length → w.length = rs.length → (∀ j, j < rs.length → (rs'.reverse.getD j K0).lo ≤ w.getD j 0 ∧ w.getD j 0 ≤ (rs'.reverse.getD j K0).hi) → ∃ n, n < prodR rs' ∧ nthR rs' n = w
 | [], rs', _, w, h1, h2, _ => by
  have : rs' = [] := by cases rs' with | nil => rfl | cons _ _ => simp at h1
  subst this
  have : w = [] := by cases w with | nil => rfl | cons _ _ => simp at h2
  subst this
  exact ⟨0, by simp [prodR], rfl⟩
 | k :: rs, [], _, w, h1, _, _ => by simp at h1
 | k :: rs, k' :: rs', hk, w, h1, h2, hw => by
  simp only [List.length_cons] at h1 h2
  have h0 := hk k' (List.mem_cons_self ..)
  have hz := h0.n.2.1
  obtain ⟨n, hn, e⟩ := nthR_wide rs rs' (fun k h => hk k (List.mem_cons_of_mem _ h)) (w.take rs.length) (by omega) (by rw [List.length_take]; omega) (fun j hj => by
   have := hw j (by simp; omega)
   rw [take_at _ _ hj]
   simp only [List.reverse_cons, List.getD_eq_getElem?_getD] at this ⊢
   rw [List.getElem?_append_left (by rw [List.length_reverse]; omega)] at this
   exact this)
  have hl := hw rs.length (by simp)
  simp only [List.reverse_cons, List.getD_eq_getElem?_getD] at hl
  rw [List.getElem?_append_right (by rw [List.length_reverse]; omega), List.length_reverse, show rs.length - rs'.length = 0 by omega] at hl
  simp only [List.getElem?_cons_zero, Option.getD_some] at hl
  generalize hx : (w[rs.length]?).getD 0 = x at hl
  have hr : (x - k'.lo).toNat < szN k' := by unfold szN; omega
  refine ⟨n * szN k' + (x - k'.lo).toNat, ?_, ?_⟩
  ·simp only [prodR]
   have := Nat.mul_le_mul_right (szN k') (show n + 1 ≤ prodR rs' from hn)
   rw [Nat.add_mul, Nat.one_mul] at this
   omega
  ·simp only [nthR]
   rw [show (n * szN k' + (x - k'.lo).toNat) / szN k' = n by rw [Nat.add_comm, Nat.add_mul_div_right _ _ hz, Nat.div_eq_of_lt hr, Nat.zero_add], show (n * szN k' + (x - k'.lo).toNat) % szN k' = (x - k'.lo).toNat by rw [Nat.add_comm, Nat.add_mul_mod_self_right, Nat.mod_eq_of_lt hr], e]
   have hw2 : w = w.take rs.length ++ [x] := by
    have : w.drop rs.length = [x] := by
     rw [List.drop_eq_getElem_cons (by omega), List.drop_eq_nil_of_le (by omega), ← hx, List.getElem?_eq_getElem (by omega)]; rfl
    rw [← this, List.take_append_drop]
   rw [show k'.lo + (((x - k'.lo).toNat : Nat) : Int) = x by omega]
   exact hw2.symm
end Go.Proofs.YtfhiejgoemcelaaGreat
namespace Go.Proofs.YtfhiejgoemcelaaGreat
open Go Tw Pv
section
variable {c : C}
theorem Rdy.csm (h : Rdy c) : c.cs.length ≤ most := sm60 (Nat.le_trans h.cs (by decide))
theorem Rdy.osm (h : Rdy c) : c.os.length ≤ most := sm60 h.os
theorem Rdy.rsm (h : Rdy c) : c.rs.length ≤ most := sm60 h.rs
theorem Rdy.ofl (h : Rdy c) : (S_Of c).1.length = c.os.length := by rw [h.of.1]; exact rOf_ln
theorem Rdy.ofm (h : Rdy c) : (S_Of c).1.length ≤ most := by rw [h.ofl]; exact h.osm
theorem Rdy.cells (h : Rdy c) {n : Nat} (hn : n ≤ 1000000) : S_cells c (nthW c (n : Int)) = (S_rAll c (nthW c (n : Int)), true) := by
 unfold S_cells
 simp [h.all hn, rAll_len]
theorem Rdy.goodOf (h : Rdy c) : ∀ b ∈ (S_Of c).1, Good b := by rw [h.of.1]; exact h.of.2
theorem Rdy.memOf (h : Rdy c) {n : Nat} (hn : n ≤ 1000000) : ∀ i, i < c.os.length → Mem ((S_Of c).1.getD i B0) ((S_rAll c (nthW c (n : Int))).getD i V0) := by
 rw [h.of.1]
 exact mem_of (h.world hn) h.of.2 fun i hi => by omega
theorem Rdy.rule (h : Rdy c) : ∀ (i : Nat) (o : O), c.os[i]? = some o → RuleOk o i c.cs.length := fun i o ho => (h.cc.rule i o ho).1
end
end Go.Proofs.YtfhiejgoemcelaaGreat
namespace Go.Proofs.YtfhiejgoemcelaaGreat
open Go Tw Pv
theorem tightF_f {c : C} (h : Rdy c) : ∀ n, n ≤ 1000000 → ∀ b ∈ tightF c n, 0 ≤ b.f ∧ b.f ≤ 15 := by
 intro n
 induction n with
 | zero =>
  intro _ b hb
  unfold tightF at hb
  simp only [List.range_zero, List.foldl_nil] at hb
  rw [List.eq_of_mem_replicate hb]; exact ⟨by decide, by decide⟩
 | succ n ih =>
  intro hn b hb
  obtain ⟨j, hj⟩ := List.getElem?_of_mem hb
  have hjl := (List.getElem?_eq_some_iff.1 hj).1
  rw [tightF_len] at hjl
  rw [tightF_succ] at hj
  have e := takeAll_at (tightF c n) (S_rAll c (nthW c (n : Int))) (j := j) (by rw [rAll_len]; exact hjl) (by rw [tightF_len]; exact hjl)
  rw [List.getD_eq_getElem?_getD, hj, Option.getD_some] at e
  have i1 := ih (by omega) ((tightF c n).getD j B0) (mem_at (by rw [tightF_len]; exact hjl) B0)
  have hv : VGood ((S_rAll c (nthW c (n : Int))).getD j V0) := vgood_at (vgood_all (h.world (n := n) (by omega))) j
  rw [e]
  unfold S_rTake
  split
  ·rename_i hf
   have hf : ((S_rAll c (nthW c (n : Int))).getD j V0).f ≠ 0 := by simpa using hf
   have f0 := hv.f0
   have f1 := hv.f1
   have hb := bit_r (f := ((S_rAll c (nthW c (n : Int))).getD j V0).f) (by omega) f1
   exact or8_15 i1.1 i1.2 hb.1 hb.2
  ·unfold S_rWith
   rw [hull_f]
   exact or8_15 i1.1 i1.2 (Int.le_refl 0) (show (0 : Int) ≤ 15 by decide)
theorem Rdy.goodT {c : C} (R : Rdy c) : ∀ b ∈ (S_Tight c).1, Good b := fun b hb => by
 have hT := R.tight
 have hok := tightF_ok R (prodR c.cs.reverse) (by have := R.few; omega)
 obtain ⟨j, hj⟩ := List.getElem?_of_mem hb
 rw [hT] at hj
 have hjl : j < c.os.length := by rw [← tightF_len c (prodR c.cs.reverse)]; exact (List.getElem?_eq_some_iff.1 hj).1
 have hm := (hok j hjl).2.2 _ fun m hm => R.memOf (n := m) (by have := R.few; omega) j hjl
 have hc := (hok j hjl).1
 rw [List.getD_eq_getElem?_getD, hj] at hm hc
 simp only [Option.getD_some] at hm hc
 have hg := good_getD R.goodOf j
 have f15 := tightF_f R (prodR c.cs.reverse) (by have := R.few; omega) b (List.mem_of_getElem? hj)
 refine ⟨?_, f15.1, f15.2⟩
 rcases hc with h | h
 ·have h1 := hm.n h
  have := hg.num
  exact .inl (by omega)
 ·exact .inr h
end Go.Proofs.YtfhiejgoemcelaaGreat
namespace Go.Proofs.YtfhiejgoemcelaaGreat
open Go Tw Pv
theorem rem_in {x : Int} {n : Nat} (h0 : 0 ≤ x) (hn : 0 < n) (hm : n ≤ 60) : ∃ q : Nat, remI .i64 x (n : Nat) = q ∧ q < n := by
 have a1 := Int.tmod_nonneg (n : Int) h0
 have a2 := Int.tmod_lt_of_pos x (b := (n : Int)) (by omega)
 refine ⟨(x.tmod n).toNat, ?_, by omega⟩
 unfold remI
 omega
end Go.Proofs.YtfhiejgoemcelaaGreat
namespace Pv
open Go Tw
theorem sim_orcL {X : Cod} {P : Program} (hX : CodOk X P) {call : CallT} {orc : Orc X.Γ} (hO : OrcOk X P call orc) {f : FuncId} {first xs cap vs : List (PV X.Γ)} {v : PV X.Γ} {ps : List Prop} {H : List (PB X.Γ)} (hv : views H (first ++ xs ++ cap) = some vs) (ho : orc f vs = some (v, [], ps)) (hp : ∀ p ∈ ps, p) (hl : hasL v = true) :
  Sim X P call (.fn f first cap) xs H (shift H.length v) (goneAll (owns.ownss (first ++ xs ++ cap)) H) := by
 intro A m h tf txs hr hf hx
 cases hf with
 | gone hi _ _ => simp [idOf] at hi
 | fn p1 p2 p3 p4 =>
  obtain ⟨w, h1, m1, e1, e2, e3, e4, e5⟩ := con_use hX (hO f vs v [] ps ho hp) hr hv (ext' := []) rfl ⟨p1, p2⟩ hx ⟨p3, p4⟩
  simp only [hl, List.any_nil, Bool.true_or, if_true, List.append_nil] at e2
  exact ⟨w, h1, [], m1, e1, e2, e3, e4, e5, fun b hb => by cases hb⟩
end Pv
namespace Go.Proofs.YtfhiejgoemcelaaGreat
open Go Tw Pv
noncomputable def oc20e : Orc gam := orcE (X := X0) (P := Tryz.prog) 20 (a1 cA) (fun _ => .agg [.own 1, .own 3, .own 5]) (fun p => [.gone, .list true false 62 p.cs, .gone, .list true false 60 p.os, .gone, .list true false 3 p.rs]) (fun p => [p.cs.length ≤ most, p.os.length ≤ most, p.rs.length ≤ most]) oc46
theorem gc20e : Gd oc20e := gc46.deepE 0 fun n _ hO p hp => by
 have hO := hO n (by omega)
 exact fn_ex hX hO (by kernel_rfl) (.o (show ([] : List K).length + p.cs.length ≤ most by simpa using hp _ (.head _)) <| .o (show ([] : List O).length + p.os.length ≤ most by simpa using hp _ (.tail _ (.head _))) <| .o (show ([] : List Int).length + p.rs.length ≤ most by simpa using hp _ (.tail _ (.tail _ (.head _)))) .er)
theorem s20 {n : Nat} (hO : Ok n oc46) (c : C) (h1 : c.cs.length ≤ most) (h2 : c.os.length ≤ most) (h3 : c.rs.length ≤ most) : Sim X0 Tryz.prog (ApN (n + 1)) (.fn 20 [] []) [.agg [.own 0, .own 1, .own 2]] [.list true false 62 c.cs, .list true false 60 c.os, .list true false 3 c.rs] (.agg [.own 4, .own 6, .own 8]) [.list true false 62 c.cs, .list true false 60 c.os, .list true false 3 c.rs, .gone, .list true false 62 c.cs, .gone, .list true false 60 c.os, .gone, .list true false 3 c.rs] :=
 sim_ex hX hO (first := []) (cap := []) (by kernel_rfl) (.o (show ([] : List K).length + c.cs.length ≤ most by simpa using h1) <| .o (show ([] : List O).length + c.os.length ≤ most by simpa using h2) <| .o (show ([] : List Int).length + c.rs.length ≤ most by simpa using h3) .er)
theorem s20c {n : Nat} (hO : Ok n oc46) (c : C) (h1 : c.cs.length ≤ most) (h2 : c.os.length ≤ most) (h3 : c.rs.length ≤ most) : Sim X0 Tryz.prog (ApN (n + 1)) (.fn 20 [] []) [.agg [.lst 62 c.cs false, .lst 60 c.os false, .lst 3 c.rs false]] [] (.agg [.own 1, .own 3, .own 5]) [.gone, .list true false 62 c.cs, .gone, .list true false 60 c.os, .gone, .list true false 3 c.rs] :=
 sim_ex hX hO (first := []) (cap := []) (by kernel_rfl) (.o (show ([] : List K).length + c.cs.length ≤ most by simpa using h1) <| .o (show ([] : List O).length + c.os.length ≤ most by simpa using h2) <| .o (show ([] : List Int).length + c.rs.length ≤ most by simpa using h3) .er)
abbrev H3c (c : C) : List (PB gam) := [.list true false 62 c.cs, .list true false 60 c.os, .list true false 3 c.rs]
theorem s19c {n : Nat} (hO : Ok n oc46) (c : C) : Sim X0 Tryz.prog (ApN n) (.fn 19 [] []) [.agg [.own 0, .own 1, .own 2]] (H3c c) (.tup [.lst 38 (S_Of c).1 false, .int .i64 (S_Of c).2]) [.gone, .gone, .gone] :=
 sim_orcL hX hO (H := H3c c) (first := []) (cap := []) (xs := [.agg [.own 0, .own 1, .own 2]]) (vs := (a1 cA).put c) (v := (tupA (a2 bsA iA)).put (S_Of c)) (ps := []) rfl rfl (by simp) rfl
theorem s29c {n : Nat} (hO : Ok n oc46) (c : C) : Sim X0 Tryz.prog (ApN n) (.fn 29 [] []) [.agg [.own 0, .own 1, .own 2]] (H3c c) (.tup [.lst 38 (S_Tight c).1 false, .int .i64 (S_Tight c).2]) [.gone, .gone, .gone] :=
 sim_orcL hX hO (H := H3c c) (first := []) (cap := []) (xs := [.agg [.own 0, .own 1, .own 2]]) (vs := (a1 cA).put c) (v := (tupA (a2 bsA iA)).put (S_Tight c)) (ps := []) rfl rfl (by simp) rfl
def gIx (c : C) (w : Int) : Int := remI .i64 (IntKind.i64.wrap w) (c.cs.length : Nat)
def gOne (c : C) (w y : Int) : List K := c.cs.set (gIx c w).toNat ⟨(c.cs.getD (gIx c w).toNat K0).name, IntKind.i64.wrap ((c.cs.getD (gIx c w).toNat K0).lo - remI .i64 (IntKind.i64.wrap y) 2), (c.cs.getD (gIx c w).toNat K0).hi⟩
def gTwo (c : C) (w y : Int) : List K := (gOne c w y).set (gIx c w).toNat ⟨((gOne c w y).getD (gIx c w).toNat K0).name, ((gOne c w y).getD (gIx c w).toNat K0).lo, IntKind.i64.wrap ((c.cs.getD (gIx c w).toNat K0).hi + remI .i64 (quoI .i64 (IntKind.i64.wrap y) 2) 2)⟩
def gC (c : C) (w y : Int) : C := ⟨gTwo c w y, c.os, c.rs⟩
theorem setK_at {l : List K} {i j : Nat} {x : K} : (l.set i x).getD j K0 = if i = j ∧ j < l.length then x else l.getD j K0 := by
 rw [List.getD_eq_getElem?_getD, List.getElem?_set]
 by_cases h : i = j
 ·subst h
  rw [if_pos rfl]
  by_cases h2 : i < l.length
  ·rw [if_pos h2, if_pos ⟨rfl, h2⟩]; rfl
  ·rw [if_neg h2, if_neg (fun g => h2 g.2), List.getD_eq_getElem?_getD, List.getElem?_eq_none (by omega)]
 ·rw [if_neg h, if_neg (fun g => h g.1), List.getD_eq_getElem?_getD]
theorem gTwo_len (c : C) (w y : Int) : (gTwo c w y).length = c.cs.length := by simp [gTwo, gOne]
theorem rem2 {z : Int} (h0 : 0 ≤ z) : 0 ≤ remI .i64 z 2 ∧ remI .i64 z 2 ≤ 1 := by
 have a3 := Int.tmod_nonneg (2 : Int) h0
 have a4 := Int.tmod_lt_of_pos z (b := 2) (by decide)
 unfold remI
 omega
theorem gTwo_wide {c : C} (hk : ∀ k ∈ c.cs, KOk k) {w y : Int} (hi : inR (gIx c w) c.cs.length) (y0 : 0 ≤ y) (y1 : y < 256) : ∀ j, j < c.cs.length → ((gTwo c w y).getD j K0).lo ≤ (c.cs.getD j K0).lo ∧ (c.cs.getD j K0).hi ≤ ((gTwo c w y).getD j K0).hi := by
 intro j hj
 have hin : (gIx c w).toNat < c.cs.length := by have := hi.1; have := hi.2; omega
 have hl1 : (gOne c w y).length = c.cs.length := by simp [gOne]
 unfold gTwo
 rw [setK_at]
 by_cases h : (gIx c w).toNat = j
 ·rw [if_pos ⟨h, by rw [hl1]; exact hj⟩]
  have k := hk _ (mem_at hj K0)
  have k1 := k.lo
  have k2 := k.hi
  have k3 := k.le
  have e1 : IntKind.i64.wrap y = y := wr (by omega) (by omega)
  have e2 : quoI .i64 y 2 = y.tdiv 2 := by
   have a1 : 0 ≤ y.tdiv 2 := Int.tdiv_nonneg y0 (by omega)
   have := Int.natAbs_tdiv y 2
   have h4 : y.natAbs.div (2 : Int).natAbs ≤ y.natAbs := Nat.div_le_self _ _
   exact wr (by omega) (by omega)
  have r1 := rem2 y0
  have r2 := rem2 (z := y.tdiv 2) (Int.tdiv_nonneg y0 (by omega))
  rw [e1, e2, h]
  simp only
  rw [wr (z := (c.cs.getD j K0).hi + _) (by omega) (by omega)]
  refine ⟨?_, by omega⟩
  unfold gOne
  rw [setK_at, if_pos ⟨h, hj⟩, e1, h]
  simp only
  rw [wr (by omega) (by omega)]; omega
 ·rw [if_neg (fun g => h g.1)]
  unfold gOne
  rw [setK_at, if_neg (fun g => h g.1)]
  exact ⟨Int.le_refl _, Int.le_refl _⟩
theorem rAll_os {c c' : C} (h : c'.os = c.os) (w : List Int) : S_rAll c' w = S_rAll c w := by unfold S_rAll; rw [h]
theorem tight_grows {c c' : C} (R : Rdy c) (R' : Rdy c') (ho : c'.os = c.os) (hl : c'.cs.length = c.cs.length) (hc : ∀ j, j < c.cs.length → (c'.cs.getD j K0).lo ≤ (c.cs.getD j K0).lo ∧ (c.cs.getD j K0).hi ≤ (c'.cs.getD j K0).hi) : ∀ i, i < c.os.length → Le ((tightF c (prodR c.cs.reverse)).getD i B0) ((tightF c' (prodR c'.cs.reverse)).getD i B0) := by
 intro i hi
 have t1 := tightF_ok R (prodR c.cs.reverse) (by have := R.few; omega) i hi
 have t2 := tightF_ok R' (prodR c'.cs.reverse) (by have := R'.few; omega) i (by rw [ho]; exact hi)
 refine t1.2.2 _ fun m hm => ?_
 have hm3 : m ≤ 1000000 := by have := R.few; omega
 have hw := R.world hm3
 have hk' : ∀ k ∈ c'.cs.reverse, KOk k := fun k h => core_k R'.ok k (List.mem_reverse.1 h)
 obtain ⟨m', h1, h2⟩ := nthR_wide c.cs.reverse c'.cs.reverse hk' (nthW c (m : Int)) (by simp [hl]) (by rw [hw.len, List.length_reverse]) (fun j hj => by
  rw [List.length_reverse] at hj
  rw [List.reverse_reverse]
  have := hw.w j hj
  have := hc j hj
  omega)
 have := t2.2.1 m' h1
 rw [nthW_eq c' (core_k R'.ok) m' (by have := R'.few; omega), h2, rAll_os ho] at this
 exact this
noncomputable def oc13 : Orc gam := orcF 13 (a3 cA uA uA) tA (fun _ => true) (fun p => [0 ≤ p.2.1 ∧ p.2.1 < 256, 0 ≤ p.2.2 ∧ p.2.2 < 256]) oc20e
set_option maxRecDepth 10000 in
theorem gc13 : Gd oc13 := gc20e.deep2 1 gc46 fun n hn hO hO2 p hp => by
 obtain ⟨n, rfl⟩ : ∃ k, n = k + 1 := ⟨n - 1, by omega⟩
 have hO := hO (n + 1) (by omega)
 have hO3 := hO2 (n + 1) (by omega)
 have hO2 := hO2 n (by omega)
 obtain ⟨c, w, y⟩ := p
 have hw : 0 ≤ w ∧ w < 256 := hp _ (.head _)
 have hy : 0 ≤ y ∧ y < 256 := hp _ (.tail _ (.head _))
 cases hr : S_ready c with
 | false => exact fn_is hX hO (by kernel_rfl) (.b (show (!S_ready c) = true by rw [hr]; rfl) .rr)
 | true =>
  have b0 : (!S_ready c) = false := by rw [hr]; rfl
  have R := ready_rdy hr
  cases e0 : (((c.cs.length : Nat) : Int) == 0) with
  | true => exact fn_is hX hO (by kernel_rfl) (.b b0 (.b e0 .rr))
  | false =>
   have hne : c.cs.length ≠ 0 := by simp at e0; simpa using e0
   have nne : ((c.cs.length : Nat) : Int) ≠ 0 := by omega
   have hwr : IntKind.i64.wrap w = w := wr (by omega) (by omega)
   obtain ⟨q, hq, hql⟩ := rem_in (x := IntKind.i64.wrap w) (n := c.cs.length) (by rw [hwr]; exact hw.1) (by omega) (Nat.le_trans R.cs (by decide))
   have iK : inR (gIx c w) c.cs.length := by unfold gIx; rw [hq]; exact inR_nat hql
   have t2 : (2 : Int) ≠ 0 := by decide
   cases hx : S_ready (gC c w y) with
   | false => exact fn_is hX hO (by kernel_rfl) (.b b0 <| .b e0 <| .o R.csm <| .o R.osm <| .o R.rsm <| .o nne <| .o iK <| .o t2 <| .o t2 <| .o t2 <| .b (show (!S_ready (gC c w y)) = true by rw [hx]; rfl) .rr)
   | true =>
    have bx : (!S_ready (gC c w y)) = false := by rw [hx]; rfl
    have R' := ready_rdy hx
    have hc := gTwo_wide (c := c) (core_k R.ok) (w := w) (y := y) iK hy.1 hy.2
    have o1 : ((S_Of c).2 == 0) = true := by rw [R.of.1]; rfl
    have o2 : ((S_Of (gC c w y)).2 == 0) = true := by rw [R'.of.1]; rfl
    have o3 : S_linside (S_Of c).1 (S_Of (gC c w y)).1 = true := (linside_le R.goodOf (by rw [R.ofl, R'.ofl]; rfl)).2 fun i hi => by
     rw [R.of.1, R'.of.1]
     exact of_grows R.cc R'.cc rfl R.of.2 R'.of.2 hc i (by rw [← R.ofl]; exact hi)
    have o4 : ((S_Tight c).2 == 0) = true := by rw [R.tight]; rfl
    have o5 : ((S_Tight (gC c w y)).2 == 0) = true := by rw [R'.tight]; rfl
    have o6 : (S_Tight c).1.length = c.os.length := by rw [R.tight]; exact tightF_len c _
    have o7 : (S_Tight (gC c w y)).1.length = c.os.length := by rw [R'.tight]; exact tightF_len (gC c w y) _
    have o8 : S_linside (S_Tight c).1 (S_Tight (gC c w y)).1 = true := (linside_le R.goodT (by rw [o6, o7])).2 fun i hi => by
     rw [o6] at hi
     rw [R.tight, R'.tight]
     exact tight_grows R R' rfl (gTwo_len c w y) hc i hi
    exact fn_is hX hO (by kernel_rfl) (.b b0 <| .b e0 <| .o R.csm <| .o R.osm <| .o R.rsm <| .o nne <| .o iK <| .o t2 <| .o t2 <| .o t2 <| .b bx <|
     .fr [] (s20c hO2 c R.csm R.osm R.rsm) <| .fr [7, 9, 11] (s19c hO3 c) <| .fr [1, 3, 5] (s20 hO2 (gC c w y) R'.csm R'.osm R'.rsm) <| .fr [13, 15, 17] (s19c hO3 (gC c w y)) <|
     .fr [] (s20c hO2 c R.csm R.osm R.rsm) <| .fr [19, 21, 23] (s29c hO3 c) <| .fr [1, 3, 5] (s20 hO2 (gC c w y) R'.csm R'.osm R'.rsm) <| .fr [25, 27, 29] (s29c hO3 (gC c w y)) <|
     .b o1 <| .b o2 <| .o R.ofm <| .b o3 <| .b o4 <| .b o5 <| .o (show (S_Tight c).1.length ≤ most by rw [o6]; exact R.osm) <| .b o8 .rr)
end Go.Proofs.YtfhiejgoemcelaaGreat
namespace Go.Proofs.YtfhiejgoemcelaaGreat
open Go Tw Pv Go.ChangeShapes Go.WideShapes Go.ChangeAt Go.RowKit
theorem Tryz.tys13 : Tryz.f13.params.toList = [26, 5, 5] := by kernel_rfl
set_option maxRecDepth 100000 in
theorem ReachGrows_lifted (os : Os) (started : os.Started) (H : Type) (enc : TypeId × Value → H) :
  ReturnsInHanded {} Tryz.checked os 13 .any (Rows.reachGrowsSpec.pre6 enc Tryz.prog Tryz.f13 Rows.reachGrowsRow.domain false) (Rows.reachGrowsSpec.post enc Tryz.prog Tryz.f13 false true false false) := by
 refine returnsInHanded_of_change (C := Tryz.checked) Tryz.own started (by kernel_rfl) Tryz.func13
  (ChangeSpec.witness6 (enc := enc) (C := Tryz.checked) false ⟨#[], #[.agg #[.slice none 0 0, .slice none 0 0, .slice none 0 0], .int .u8 0, .int .u8 0], []⟩ 8 (by kernel_rfl) (by kernel_rfl) (by kernel_rfl) (by kernel_rfl)) ?_
 intro W base args ds gs before hval0 hW hcnd _
 have hval : ∀ (j : Nat) t v, Tryz.f13.params[j]? = some t → args[j]? = some v → Value.okWide Tryz.prog W .any base t v := hval0
 have hW' := hW
 obtain ⟨p, q, hTA0, hV, rfl, hfz, hnd⟩ := hW
 have hTA : DataW.TrodAll enc Tryz.prog W 0 (fun _ => true) true Tryz.f13.params.toList args.toList ds p := hTA0
 obtain ⟨rfl, rfl⟩ := trodVars_none hV
 rw [Tryz.tys13] at hTA
 obtain ⟨d0, d1, d2, rfl, r0, r1, r2⟩ := trodAll_3 hTA
 obtain ⟨c, _, hc⟩ := rd_coreV (g := 2) r0
 obtain ⟨xc, xo, xr, ext0, e0, v0⟩ := hc []
 simp only [List.nil_append] at e0 v0
 obtain ⟨k1, hk1, e1⟩ := rd_u8 (g := 5) r1
 obtain ⟨k2, hk2, e2⟩ := rd_u8 (g := 5) r2
 have w0 := v0 ([])
 rw [List.append_nil] at w0
 obtain ⟨N, hN⟩ := gc13
 have hcon := hN (N + 1) (by omega) 13 ((a3 cA uA uA).put (c, k1, k2)) (tA.put true) [] [0 ≤ k1 ∧ k1 < 256, 0 ≤ k2 ∧ k2 < 256] rfl (by
  intro p hp
  simp only [List.mem_cons, List.not_mem_nil, or_false] at hp
  rcases hp with rfl | rfl
  ·exact hk1
  ·exact hk2)
 obtain ⟨h', hr⟩ := run_of (xs := [.agg [xc, xo, xr], .int .u8 k1, .int .u8 k2]) (h := ext0) hcon (.cons (.agg w0.1 w0.2) (.cons (.int _ _) (.cons (.int _ _) .nil)))
 exact law_callsN (P := Tryz.prog) (T := T) (L := LL) (n := N) (g := 6) Tryz.mixed Tryz.laidOut rfl rfl (by kernel_rfl) Tryz.underlying4 (by kernel_rfl) hW' hval
  (by rw [Tryz.tys13]; exact (encA_a agg26 e0 (encA_o agg5 (e1 _) (encA_o agg5 (e2 _) encA_0)))) hr
theorem ReachGrows_holds : Rows.ReachGrowsSaid :=
 OpenClaim.holds_of_wide 13 Tryz.f13 rfl rfl rfl rfl rfl rfl rfl ⟨rfl, rfl, rfl, rfl, rfl⟩ rfl rfl rfl rfl rfl (by kernel_rfl) Tryz.func13 (by kernel_rfl)
  (of_decide_eq_true (by kernel_rfl)) (by unfold Func.isWrapper; first | (rw [if_pos (by decide +kernel)]; kernel_rfl) | (rw [if_neg (by decide +kernel)]; exact ⟨rfl, rfl⟩))
  (fun os started H enc _ => ReachGrows_lifted os started H enc)
end Go.Proofs.YtfhiejgoemcelaaGreat
