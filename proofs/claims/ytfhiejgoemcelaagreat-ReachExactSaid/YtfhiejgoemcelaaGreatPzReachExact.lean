/- The statement mistlaw13.ReachExact: the exact reaches are inside of those by the rules; their ends and faults are reached in some world; without conditions. -/
import Derived.Test.YtfhiejgoemcelaaGreatPf
set_option linter.constructorNameAsVariable false
set_option linter.unusedVariables false
set_option linter.unusedSimpArgs false
set_option linter.unusedSectionVars false
namespace Go.Proofs.YtfhiejgoemcelaaGreat
open Go Tw Pv
theorem take_f {r : B} {v : V} (hr : Can r) (hv : VGood v) : Le r (S_rTake r v) ∧ Mem (S_rTake r v) v ∧ ∀ R, Le r R → Mem R v → Le (S_rTake r v) R := by
 unfold S_rTake
 by_cases h : v.f = 0
 ·rw [if_neg (by simp [h])]
  have hp : Can (⟨v.n, v.n, 0⟩ : B) := .pt
  refine ⟨le_hull1, ⟨fun _ => ?_, fun g => absurd h g⟩, fun R h1 h2 => hull_le h1 ⟨fun _ => h2.n h, fun f _ _ g => absurd g fb_0⟩⟩
  have := (le_hull2 (a := r) (b := (⟨v.n, v.n, 0⟩ : B))).n (Int.le_refl _)
  exact this
 ·rw [if_pos (by simpa using h)]
  have f0 := hv.f0
  have hb : ∀ f, 1 ≤ f → f ≤ 4 → (FB (S_rFault v.f) f ↔ f = v.f) := fun f f1 f2 => fb_bit (by omega) hv.f1 f1 f2
  refine ⟨⟨fun g => ⟨Int.le_refl _, Int.le_refl _⟩, fun f _ _ g => fb_or.2 (.inl g)⟩, ⟨fun g => absurd g h, fun _ => fb_or.2 (.inr ((hb v.f (by omega) hv.f1).2 rfl))⟩, fun R h1 h2 => ⟨h1.n, fun f f1 f2 g => ?_⟩⟩
  rcases fb_or.1 g with g | g
  ·exact h1.f f f1 f2 g
  ·rw [(hb f f1 f2).1 g]; exact h2.f h
theorem take_can {r : B} {v : V} (hr : Can r) : Can (S_rTake r v) := by
 unfold S_rTake
 split
 ·exact hr
 ·exact hr.with _
theorem gTk_at : ∀ (vs : List V) (k : Nat) (s : List B) (j : Nat), (getE (runL gTk vs k s)).getD j B0 = if k ≤ j ∧ j < k + vs.length ∧ j < s.length then S_rTake (s.getD j B0) (vs.getD (j - k) V0) else s.getD j B0
 | [], k, s, j => by rw [if_neg (by simp; omega)]; rfl
 | v :: vs, k, s, j => by
  simp only [runL, gTk]
  rw [gTk_at vs (k + 1) _ j]
  simp only [List.length_set, List.length_cons, List.getD_eq_getElem?_getD, List.getElem?_set]
  by_cases hjk : k = j
  ·subst hjk
   rw [if_neg (by omega), if_pos rfl]
   by_cases hs : k < s.length
   ·rw [if_pos hs, if_pos (by omega), Nat.sub_self]; rfl
   ·rw [if_neg hs, if_neg (by omega), List.getElem?_eq_none (by omega)]
  ·rw [if_neg hjk]
   by_cases h : k + 1 ≤ j ∧ j < k + 1 + vs.length ∧ j < s.length
   ·rw [if_pos h, if_pos (by omega)]
    rw [show j - k = (j - (k + 1)) + 1 by omega]; rfl
   ·rw [if_neg h, if_neg (by omega)]
theorem takeAll_at (s : List B) (vs : List V) {j : Nat} (h1 : j < vs.length) (h2 : j < s.length) : (takeAll s vs).getD j B0 = S_rTake (s.getD j B0) (vs.getD j V0) := by
 unfold takeAll
 rw [gTk_at, if_pos (by omega), Nat.sub_zero]
def tightF (c : C) (n : Nat) : List B := (List.range n).foldl (fun s (m : Nat) => takeAll s (S_rAll c (nthW c (m : Int)))) (List.replicate c.os.length S_rNone)
theorem tight_F (c : C) (n : Nat) : S_rTightN c n = tightF c n := by
 unfold S_rTightN tightF
 rw [run30n]
 have e0 := run30 c.os.length 0
 simp only [List.replicate_zero, List.nil_append, Nat.zero_add] at e0
 rw [e0]
 simp only [Nat.zero_add]
theorem tightF_succ (c : C) (n : Nat) : tightF c (n + 1) = takeAll (tightF c n) (S_rAll c (nthW c (n : Int))) := by
 unfold tightF
 rw [List.range_succ, List.foldl_append]; rfl
theorem tightF_len (c : C) (n : Nat) : (tightF c n).length = c.os.length := by rw [← tight_F]; exact rTightN_len c n
theorem tightF_ok {c : C} (h : Rdy c) : ∀ n, n ≤ 1000000 → ∀ j, j < c.os.length → Can ((tightF c n).getD j B0) ∧ (∀ m, m < n → Mem ((tightF c n).getD j B0) ((S_rAll c (nthW c (m : Int))).getD j V0)) ∧ ∀ R, (∀ m, m < n → Mem R ((S_rAll c (nthW c (m : Int))).getD j V0)) → Le ((tightF c n).getD j B0) R := by
 intro n
 induction n with
 | zero =>
  intro _ j hj
  have e : (tightF c 0).getD j B0 = ⟨1, 0, 0⟩ := by
   unfold tightF
   simp only [List.range_zero, List.foldl_nil]
   rw [List.getD_eq_getElem?_getD, List.getElem?_replicate, if_pos hj]; rfl
  rw [e]
  exact ⟨.none, fun m hm => absurd hm (by omega), fun R _ => none_le fun g _ _ h => absurd h fb_0⟩
 | succ n ih =>
  intro hn j hj
  obtain ⟨i1, i2, i3⟩ := ih (by omega) j hj
  have hw := h.world (n := n) (by omega)
  have hv : VGood ((S_rAll c (nthW c (n : Int))).getD j V0) := vgood_at (vgood_all hw) j
  obtain ⟨t1, t2, t3⟩ := take_f i1 hv
  rw [tightF_succ, takeAll_at _ _ (by rw [rAll_len]; exact hj) (by rw [tightF_len]; exact hj)]
  refine ⟨take_can i1, fun m hm => ?_, fun R hR => t3 R (i3 R fun m hm => hR m (by omega)) (hR n (by omega))⟩
  by_cases hmn : m = n
  ·subst hmn; exact t2
  ·exact t1.mem (vgood_at (vgood_all (h.world (n := m) (by omega))) j) (i2 m (by omega))
theorem Rdy.tight {c : C} (h : Rdy c) : S_Tight c = (tightF c (prodR c.cs.reverse), 0) := by
 have := (tight_eq h.ok (by rw [h.many]; have := h.few; omega)).1
 rw [this, h.many, Int.toNat_natCast, tight_F]
end Go.Proofs.YtfhiejgoemcelaaGreat
namespace Go.Proofs.YtfhiejgoemcelaaGreat
open Go Tw Pv
section
variable {c : C}
theorem Rdy.csm (h : Rdy c) : c.cs.length ≤ most := sm60 (Nat.le_trans h.cs (by decide))
theorem Rdy.osm (h : Rdy c) : c.os.length ≤ most := sm60 h.os
theorem Rdy.rsm (h : Rdy c) : c.rs.length ≤ most := sm60 h.rs
theorem Rdy.szk (h : Rdy c) : ∀ k ∈ c.cs, szK k ≠ 0 := fun k hk => by rw [(core_k h.ok k hk).n.1]; have := (core_k h.ok k hk).n.2.1; omega
theorem Rdy.ofl (h : Rdy c) : (S_Of c).1.length = c.os.length := by rw [h.of.1]; exact rOf_ln
theorem Rdy.of0 (h : Rdy c) : ((S_Of c).2 != 0) = false := by rw [h.of.1]; rfl
theorem Rdy.cells (h : Rdy c) {n : Nat} (hn : n ≤ 1000000) : S_cells c (nthW c (n : Int)) = (S_rAll c (nthW c (n : Int)), true) := by
 unfold S_cells
 simp [h.all hn, rAll_len]
theorem Rdy.goodOf (h : Rdy c) : ∀ b ∈ (S_Of c).1, Good b := by rw [h.of.1]; exact h.of.2
theorem Rdy.memOf (h : Rdy c) {n : Nat} (hn : n ≤ 1000000) : ∀ i, i < c.os.length → Mem ((S_Of c).1.getD i B0) ((S_rAll c (nthW c (n : Int))).getD i V0) := by
 rw [h.of.1]
 exact mem_of (h.world hn) h.of.2 fun i hi => by omega
theorem Rdy.wlen (h : Rdy c) {n : Nat} (hn : n ≤ 1000000) : (nthW c (n : Int)).length ≤ most := by rw [(h.world hn).len]; exact h.csm
theorem Rdy.rule (h : Rdy c) : ∀ (i : Nat) (o : O), c.os[i]? = some o → RuleOk o i c.cs.length := fun i o ho => (h.cc.rule i o ho).1
end
end Go.Proofs.YtfhiejgoemcelaaGreat
namespace Go.Proofs.YtfhiejgoemcelaaGreat
open Go Tw Pv
theorem tightF_f {c : C} (h : Rdy c) : ∀ n, n ≤ 1000000 → ∀ b ∈ tightF c n, 0 ≤ b.f ∧ b.f ≤ 15 := by
 intro n
 induction n with
 | zero =>
  intro _ b hb
  unfold tightF at hb
  simp only [List.range_zero, List.foldl_nil] at hb
  rw [List.eq_of_mem_replicate hb]; exact ⟨by decide, by decide⟩
 | succ n ih =>
  intro hn b hb
  obtain ⟨j, hj⟩ := List.getElem?_of_mem hb
  have hjl := (List.getElem?_eq_some_iff.1 hj).1
  rw [tightF_len] at hjl
  rw [tightF_succ] at hj
  have e := takeAll_at (tightF c n) (S_rAll c (nthW c (n : Int))) (j := j) (by rw [rAll_len]; exact hjl) (by rw [tightF_len]; exact hjl)
  rw [List.getD_eq_getElem?_getD, hj, Option.getD_some] at e
  have i1 := ih (by omega) ((tightF c n).getD j B0) (mem_at (by rw [tightF_len]; exact hjl) B0)
  have hv : VGood ((S_rAll c (nthW c (n : Int))).getD j V0) := vgood_at (vgood_all (h.world (n := n) (by omega))) j
  rw [e]
  unfold S_rTake
  split
  ·rename_i hf
   have hf : ((S_rAll c (nthW c (n : Int))).getD j V0).f ≠ 0 := by simpa using hf
   have f0 := hv.f0
   have f1 := hv.f1
   have hb := bit_r (f := ((S_rAll c (nthW c (n : Int))).getD j V0).f) (by omega) f1
   exact or8_15 i1.1 i1.2 hb.1 hb.2
  ·unfold S_rWith
   rw [hull_f]
   exact or8_15 i1.1 i1.2 (Int.le_refl 0) (show (0 : Int) ≤ 15 by decide)
theorem Rdy.goodT {c : C} (R : Rdy c) : ∀ b ∈ (S_Tight c).1, Good b := fun b hb => by
 have hT := R.tight
 have hok := tightF_ok R (prodR c.cs.reverse) (by have := R.few; omega)
 obtain ⟨j, hj⟩ := List.getElem?_of_mem hb
 rw [hT] at hj
 have hjl : j < c.os.length := by rw [← tightF_len c (prodR c.cs.reverse)]; exact (List.getElem?_eq_some_iff.1 hj).1
 have hm := (hok j hjl).2.2 _ fun m hm => R.memOf (n := m) (by have := R.few; omega) j hjl
 have hc := (hok j hjl).1
 rw [List.getD_eq_getElem?_getD, hj] at hm hc
 simp only [Option.getD_some] at hm hc
 have hg := good_getD R.goodOf j
 have f15 := tightF_f R (prodR c.cs.reverse) (by have := R.few; omega) b (List.mem_of_getElem? hj)
 refine ⟨?_, f15.1, f15.2⟩
 rcases hc with h | h
 ·have h1 := hm.n h
  have := hg.num
  exact .inl (by omega)
 ·exact .inr h
abbrev w11a (c : C) (t : List B) (i : Int) (s : List B) (x : List (Nat × PE gam)) : PSt gam := ⟨[(1, .loc 0 0), (5, xL 38 t), (7, .val (.own 0)), (8, xi i)] ++ x, [xC c], [.list true true 38 s]⟩
def z11a (c : C) (t : List B) (n : Nat) (r : List B ⊕ Empty) : Ex × PSt gam := (.exit 0, w11a c t n (getE r) [(55, xl false)])
theorem l11a {m : Nat} (hO : Ok m oc46) (c : C) (t : List B) (n : Nat) (hn : n ≤ most) (s : List B) (hs : s.length = n) : Lp m 11 0 (w11a c t 0 s []) (z11a c t n (runL g30 (List.replicate n ()) 0 s)).1 (z11a c t n (runL g30 (List.replicate n ()) 0 s)).2 := by
 have hl : (List.replicate n ()).length = n := List.length_replicate ..
 have := eachE (X := X0) (P := Tryz.prog) (T := T) (call := ApN m) (L := LL) (f := 11) (rnd := false) (nt := ntP Tryz.prog 11) (B := 0) (b := bodyP Tryz.prog 11 0) (l := List.replicate n ()) (st := fun i s => w11a c t i s []) (g := g30) (out := z11a c t n) (s0 := s) (w := w11a c t 0 s []) () (fun _ s => s.length = n) (by kernel_rfl) (by rw [hl]; exact hn) LLm hs
  (fun k s j hk hi ih => round hX hO (by kernel_rfl) (.b (show decide ((k : Int) < (s.length : Int)) = true by rw [hi]; rw [hl] at hk; simp; exact hk) (.o (show inR k s.length by rw [hi]; rw [hl] at hk; exact inR_nat hk) (.goG [] (ih (s.set k S_rNone) (by rw [List.length_set]; exact hi))))))
  (fun s hi => by
   rw [hl]
   exact round hX hO (by kernel_rfl) (.b (show decide ((n : Int) < (s.length : Int)) = false by rw [hi]; simp) .ex))
 exact this
abbrev w11k (c : C) (t : List B) (n : Int) (vs : List V) (i : Int) (s : List B) (x : List (Nat × PE gam)) : PSt gam := ⟨[(1, .loc 0 0), (5, xL 38 t), (7, .val (.own 0)), (9, xi n), (10, xL 78 vs), (12, xi i)] ++ x, [xC c], [.list true true 38 s]⟩
def z11k (c : C) (t : List B) (n : Int) (vs : List V) (r : List B ⊕ Empty) : Ex × PSt gam := (.exit 4, w11k c t n vs vs.length (getE r) [(87, xl false)])
theorem l11k {m : Nat} (hO : Ok m oc46) (c : C) (t : List B) (n : Int) (vs : List V) (hv : vs.length ≤ most) (s : List B) (hs : s.length = vs.length) : Lp m 11 2 (w11k c t n vs 0 s []) (z11k c t n vs (runL gTk vs 0 s)).1 (z11k c t n vs (runL gTk vs 0 s)).2 :=
 eachE (st := fun i s => w11k c t n vs i s []) V0 (fun _ s => s.length = vs.length) (by kernel_rfl) hv LLm hs
  (fun k s j hk hi ih => round hX hO (by kernel_rfl) (.b (lt_nat hk) (.o (show inR k s.length by rw [hi]; exact inR_nat hk) (.o (inR_nat hk) (.o (show inR k s.length by rw [hi]; exact inR_nat hk) (.goG [] (ih (s.set k (S_rTake (s.getD k B0) (vs.getD k V0))) (by rw [List.length_set]; exact hi))))))))
  (fun s hi => round hX hO (by kernel_rfl) (.b (lt_no vs.length) .ex))
abbrev w11n (c : C) (t : List B) (i : Int) (s : List B) (x : List (Nat × PE gam)) : PSt gam := ⟨[(1, .loc 0 0), (5, xL 38 t), (7, .val (.own 0)), (9, xi i)] ++ x, [xC c], [.list true true 38 s]⟩
def z11n (c : C) (t : List B) (n : Nat) (r : List B ⊕ Empty) : Ex × PSt gam := (.exit 2, w11n c t n (getE r) [(65, xl false)])
theorem l11n {m : Nat} (hO : Ok m oc46) {c : C} (R : Rdy c) (t : List B) (ht : t = tightF c (prodR c.cs.reverse)) (n : Nat) (hn : n = prodR c.cs.reverse) (s : List B) (hs : s.length = c.os.length) : Lp m 11 1 (w11n c t 0 s []) (z11n c t n (runL (g30n c) (List.replicate n ()) 0 s)).1 (z11n c t n (runL (g30n c) (List.replicate n ()) 0 s)).2 := by
 have hl : (List.replicate n ()).length = n := List.length_replicate ..
 have hM : S_rMany c = n := by rw [R.many, hn]
 have h200 : n ≤ 200 := by rw [hn]; exact R.few
 have htl : t.length = c.os.length := by rw [ht]; exact tightF_len c _
 have := eachE (X := X0) (P := Tryz.prog) (T := T) (call := ApN m) (L := LL) (f := 11) (rnd := false) (nt := ntP Tryz.prog 11) (B := 0) (b := bodyP Tryz.prog 11 1) (l := List.replicate n ()) (st := fun i s => w11n c t i s []) (g := g30n c) (out := z11n c t n) (s0 := s) (w := w11n c t 0 s []) () (fun _ s => s.length = c.os.length) (by kernel_rfl) (by rw [hl]; exact Nat.le_trans h200 (by decide)) LLm hs
  (fun k s j hk hi ih => by
   rw [hl] at hk
   have hk6 : k ≤ 1000000 := by omega
   have hcl := R.cells hk6
   have hvs : (S_cells c (nthW c (k : Int))).1 = S_rAll c (nthW c (k : Int)) := by rw [hcl]
   have hr := rAll_len c (nthW c k)
   have hrv : (S_cells c (nthW c (k : Int))).1.length = c.os.length := by rw [hvs, hr]
   have h2 := l11k hO c t k (S_cells c (nthW c (k : Int))).1 (by rw [hrv]; exact R.osm) s (by rw [hrv, hi])
   have h3 := ih (takeAll s (S_rAll c (nthW c k))) (by unfold takeAll; rw [gTk_len]; exact hi)
   rw [show w11n c t (IntKind.i64.wrap ((k : Int) + 1)) (takeAll s (S_rAll c (nthW c (k : Int)))) [] = w11n c t (IntKind.i64.wrap ((k : Int) + 1)) (takeAll s (S_cells c (nthW c (k : Int))).1) [] by rw [hvs]] at h3
   have b1 : (!(S_cells c (nthW c (k : Int))).2) = false := by rw [hcl]; rfl
   have b2 : (!S_lall t (S_cells c (nthW c (k : Int))).1) = false := by
    rw [hvs, (lall_mem (vgood_all (R.world hk6)) (by rw [htl, hr])).2 fun i h => by rw [ht]; exact (tightF_ok R _ (by have := R.few; omega) i (by rw [← htl]; exact h)).2.1 k (by omega)]; rfl
   exact round hX hO (by kernel_rfl) (.o R.csm <| .b (show decide ((k : Int) < S_rMany c) = true by rw [hM]; exact lt_nat hk) <| .o R.csm <| .o R.szk <| .o R.csm <| .o R.osm <| .o R.rsm <| .o (R.wlen hk6) <| .b b1 <| .o (show t.length ≤ most by rw [htl]; exact R.osm) <| .o (show t.length = (S_cells c (nthW c (k : Int))).1.length by rw [htl, hrv]) <| .b b2 <| .w h2 <| .goG [] h3))
  (fun s hi => by
   rw [hl]
   exact round hX hO (by kernel_rfl) (.o R.csm (.b (show decide ((n : Int) < S_rMany c) = false by rw [hM]; exact lt_no n) .ex)))
 exact this
noncomputable def oc11 : Orc gam := orcF 11 (a1 cA) tA (fun _ => true) np oc46
theorem gc11 : Gd oc11 := gc46.add fun n hO c hp => by
 cases hr : S_ready c with
 | false => exact fn_is hX hO (by kernel_rfl) (.b (show (!S_ready c) = true by rw [hr]; rfl) .rr)
 | true =>
  have R := ready_rdy hr
  have hT := R.tight
  have hTl : (S_Tight c).1.length = c.os.length := by rw [hT]; exact tightF_len c _
  have hTm : (S_Tight c).1.length ≤ most := by rw [hTl]; exact R.osm
  have hok := tightF_ok R (prodR c.cs.reverse) (by have := R.few; omega)
  have b0 : (!S_ready c) = false := by rw [hr]; rfl
  have b1 : ((S_Tight c).2 != 0) = false := by rw [hT]; rfl
  have b2 : ((((S_Tight c).1.length : Nat) : Int) != ((c.os.length : Nat) : Int)) = false := by rw [hTl]; simp
  have hgT := R.goodT
  have b3 : (!S_linside (S_Tight c).1 (S_Of c).1) = false := by
   rw [(linside_le hgT (by rw [hTl, R.ofl])).2 fun i hi => by
    rw [hTl] at hi
    rw [hT]
    exact (hok i hi).2.2 _ fun m hm => R.memOf (n := m) (by have := R.few; omega) i hi]; rfl
  have q1 := l11a hO c (S_Tight c).1 (S_Tight c).1.length hTm (List.replicate (S_Tight c).1.length B0) (by simp)
  have q2 := l11n hO R (S_Tight c).1 (by rw [hT]) (prodR c.cs.reverse) rfl (getE (runL g30 (List.replicate (S_Tight c).1.length ()) 0 (List.replicate (S_Tight c).1.length B0))) (by rw [g30_len]; simp [hTl])
  have b4 : S_same (S_Tight c).1 (getE (runL (g30n c) (List.replicate (prodR c.cs.reverse) ()) 0 (getE (runL g30 (List.replicate (S_Tight c).1.length ()) 0 (List.replicate (S_Tight c).1.length B0))))) = true := by
   have e : getE (runL (g30n c) (List.replicate (prodR c.cs.reverse) ()) 0 (getE (runL g30 (List.replicate (S_Tight c).1.length ()) 0 (List.replicate (S_Tight c).1.length B0)))) = S_rTightN c (prodR c.cs.reverse) := by rw [hTl]; rfl
   rw [e, tight_F, hT]; exact same_refl _
  exact fn_is hX hO (by kernel_rfl) (.b b0 <| .o R.csm <| .o R.osm <| .o R.rsm <| .o R.csm <| .o R.osm <| .o R.rsm <| .b R.of0 <| .b b1 <| .b b2 <| .o hTm <| .b b3 <|
   .o (rfl : (((S_Tight c).1.length : Nat) : Int) = (((S_Tight c).1.length : Nat) : Int)) <| .o (Int.natCast_nonneg (S_Tight c).1.length) <| .o (show (((S_Tight c).1.length : Nat) : Int) ≤ (most : Int) by omega) <| .w q1 <| .w q2 <| .o hTm <| .b b4 .rr)
end Go.Proofs.YtfhiejgoemcelaaGreat
namespace Go.Proofs.YtfhiejgoemcelaaGreat
open Go Tw Pv Go.ChangeShapes Go.WideShapes Go.ChangeAt Go.RowKit
theorem Tryz.tys11 : Tryz.f11.params.toList = [26] := by kernel_rfl
set_option maxRecDepth 100000 in
theorem ReachExact_lifted (os : Os) (started : os.Started) (H : Type) (enc : TypeId × Value → H) :
  ReturnsInHanded {} Tryz.checked os 11 .any (Rows.reachExactSpec.pre6 enc Tryz.prog Tryz.f11 Rows.reachExactRow.domain false) (Rows.reachExactSpec.post enc Tryz.prog Tryz.f11 false true false false) := by
 refine returnsInHanded_of_change (C := Tryz.checked) Tryz.own started (by kernel_rfl) Tryz.func11
  (ChangeSpec.witness6 (enc := enc) (C := Tryz.checked) false ⟨#[], #[.agg #[.slice none 0 0, .slice none 0 0, .slice none 0 0]], []⟩ 8 (by kernel_rfl) (by kernel_rfl) (by kernel_rfl) (by kernel_rfl)) ?_
 intro W base args ds gs before hval0 hW hcnd _
 have hval : ∀ (j : Nat) t v, Tryz.f11.params[j]? = some t → args[j]? = some v → Value.okWide Tryz.prog W .any base t v := hval0
 have hW' := hW
 obtain ⟨p, q, hTA0, hV, rfl, hfz, hnd⟩ := hW
 have hTA : DataW.TrodAll enc Tryz.prog W 0 (fun _ => true) true Tryz.f11.params.toList args.toList ds p := hTA0
 obtain ⟨rfl, rfl⟩ := trodVars_none hV
 rw [Tryz.tys11] at hTA
 obtain ⟨d0, rfl, r0⟩ := trodAll_1 hTA
 obtain ⟨c, _, hc⟩ := rd_coreV (g := 2) r0
 obtain ⟨xc, xo, xr, ext0, e0, v0⟩ := hc []
 simp only [List.nil_append] at e0 v0
 have w0 := v0 ([])
 rw [List.append_nil] at w0
 obtain ⟨N, hN⟩ := gc11
 have hcon := hN (N + 1) (by omega) 11 ((a1 cA).put c) (tA.put true) [] [] rfl (by simp)
 obtain ⟨h', hr⟩ := run_of (xs := [.agg [xc, xo, xr]]) (h := ext0) hcon (.cons (.agg w0.1 w0.2) .nil)
 exact law_callsN (P := Tryz.prog) (T := T) (L := LL) (n := N) (g := 6) Tryz.mixed Tryz.laidOut rfl rfl (by kernel_rfl) Tryz.underlying4 (by kernel_rfl) hW' hval
  (by rw [Tryz.tys11]; exact (encA_a agg26 e0 encA_0)) hr
theorem ReachExact_holds : Rows.ReachExactSaid :=
 OpenClaim.holds_of_wide 11 Tryz.f11 rfl rfl rfl rfl rfl rfl rfl ⟨rfl, rfl, rfl, rfl, rfl⟩ rfl rfl rfl rfl rfl (by kernel_rfl) Tryz.func11 (by kernel_rfl)
  (of_decide_eq_true (by kernel_rfl)) (by unfold Func.isWrapper; first | (rw [if_pos (by decide +kernel)]; kernel_rfl) | (rw [if_neg (by decide +kernel)]; exact ⟨rfl, rfl⟩))
  (fun os started H enc _ => ReachExact_lifted os started H enc)
end Go.Proofs.YtfhiejgoemcelaaGreat
