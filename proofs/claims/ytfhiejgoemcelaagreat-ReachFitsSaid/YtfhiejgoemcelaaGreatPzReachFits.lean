/- The statement mistlaw13.ReachFits: all numbers of a cell in any world fit into its bits; with one bit less one end of the reach does not; without conditions. -/
import Derived.Test.YtfhiejgoemcelaaGreatPf
set_option linter.constructorNameAsVariable false
set_option linter.unusedVariables false
set_option linter.unusedSimpArgs false
set_option linter.unusedSectionVars false
namespace Go.Proofs.YtfhiejgoemcelaaGreat
open Go Tw Pv
section
variable {c : C}
theorem Rdy.csm (h : Rdy c) : c.cs.length ≤ most := sm60 (Nat.le_trans h.cs (by decide))
theorem Rdy.osm (h : Rdy c) : c.os.length ≤ most := sm60 h.os
theorem Rdy.rsm (h : Rdy c) : c.rs.length ≤ most := sm60 h.rs
theorem Rdy.mne (h : Rdy c) : S_rMany c ≠ 0 := by rw [h.many]; have := h.pos; omega
theorem Rdy.szk (h : Rdy c) : ∀ k ∈ c.cs, szK k ≠ 0 := fun k hk => by rw [(core_k h.ok k hk).n.1]; have := (core_k h.ok k hk).n.2.1; omega
theorem Rdy.ofl (h : Rdy c) : (S_Of c).1.length = c.os.length := by rw [h.of.1]; exact rOf_ln
theorem Rdy.ofm (h : Rdy c) : (S_Of c).1.length ≤ most := by rw [h.ofl]; exact h.osm
theorem Rdy.of0 (h : Rdy c) : ((S_Of c).2 != 0) = false := by rw [h.of.1]; rfl
theorem Rdy.cells (h : Rdy c) {n : Nat} (hn : n ≤ 1000000) : S_cells c (nthW c (n : Int)) = (S_rAll c (nthW c (n : Int)), true) := by
 unfold S_cells
 simp [h.all hn, rAll_len]
theorem Rdy.goodOf (h : Rdy c) : ∀ b ∈ (S_Of c).1, Good b := by rw [h.of.1]; exact h.of.2
theorem Rdy.memOf (h : Rdy c) {n : Nat} (hn : n ≤ 1000000) : ∀ i, i < c.os.length → Mem ((S_Of c).1.getD i B0) ((S_rAll c (nthW c (n : Int))).getD i V0) := by
 rw [h.of.1]
 exact mem_of (h.world hn) h.of.2 fun i hi => by omega
theorem Rdy.wlen (h : Rdy c) {n : Nat} (hn : n ≤ 1000000) : (nthW c (n : Int)).length ≤ most := by rw [(h.world hn).len]; exact h.csm
theorem Rdy.rule (h : Rdy c) : ∀ (i : Nat) (o : O), c.os[i]? = some o → RuleOk o i c.cs.length := fun i o ho => (h.cc.rule i o ho).1
end
end Go.Proofs.YtfhiejgoemcelaaGreat
namespace Go.Proofs.YtfhiejgoemcelaaGreat
open Go Tw Pv
theorem bits_spec : ∀ (fu : Nat) (r : B) (k v : Int), 0 ≤ k → k + fu ≤ 1000 → bitsF fu r k = some v → k ≤ v ∧ S_rFits r v = true ∧ ∀ m, k ≤ m → m < v → S_rFits r m = false
 | 0, r, k, v, _, _, h => by cases h
 | fu + 1, r, k, v, h0, h1, h => by
  simp only [bitsF] at h
  cases hf : S_rFits r k with
  | true =>
   rw [hf] at h
   simp only [Bool.not_true, Bool.false_eq_true, if_false, Option.some.injEq] at h
   subst h
   exact ⟨Int.le_refl _, hf, fun m _ _ => by omega⟩
  | false =>
   rw [hf] at h
   simp only [Bool.not_false, if_true] at h
   rw [wr (z := k + 1) (by omega) (by omega)] at h
   obtain ⟨i1, i2, i3⟩ := bits_spec fu r (k + 1) v (by omega) (by omega) h
   refine ⟨by omega, i2, fun m m0 m1 => ?_⟩
   by_cases e : m = k
   ·rw [e]; exact hf
   ·exact i3 m (by omega) m1
theorem fits_15 {r : B} (h : Good r) : S_rFits r 15 = true := by
 unfold S_rFits
 have e1 : shlI .i64 (-1 : Int) (IntKind.u64.wrap (IntKind.i64.wrap ((15 : Int) - 1))) = -16384 := by decide
 have e2 : IntKind.i64.wrap ((shlI .i64 (1 : Int) (IntKind.u64.wrap (IntKind.i64.wrap ((15 : Int) - 1)))) - 1) = 16383 := by decide
 rw [e1, e2]
 by_cases hn : r.lo ≤ r.hi
 ·obtain ⟨h1, _, h3⟩ := h.sm hn
  rw [if_neg (by simpa using hn), if_pos (by decide), if_pos (by simp; omega)]
  simp; omega
 ·rw [if_pos (by simpa using hn)]
theorem width_facts {r : B} (h : Good r) : 0 ≤ S_width r ∧ S_width r ≤ 15 ∧ S_rFits r (S_width r) = true ∧ (0 < S_width r → S_rFits r (IntKind.i64.wrap (S_width r - 1)) = false) := by
 obtain ⟨i1, i2, i3⟩ := bits_spec 64 r 0 _ (by decide) (by decide) (width_bits h).2
 have hle : S_width r ≤ 15 := by
  rcases ilt (15 - S_width r) with h1 | h1
  ·have := i3 15 (by decide) (by omega)
   rw [fits_15 h] at this; cases this
  ·omega
 exact ⟨i1, hle, i2, fun h0 => by rw [wr (by omega) (by omega)]; exact i3 _ (by omega) (by omega)⟩
theorem fits_pt {r : B} {x w : Int} (h : S_rFits r w = true) (h1 : r.lo ≤ x) (h2 : x ≤ r.hi) : S_rFits ⟨x, x, 0⟩ w = true := by
 unfold S_rFits at h ⊢
 rw [if_neg (by simp; omega)] at h
 rw [if_neg (by simp)]
 split at h
 ·rename_i g
  rw [if_pos g]
  split at h
  ·rename_i g2
   simp only [decide_eq_true_eq, ge_iff_le] at g2 h
   rw [if_pos (by simp only [decide_eq_true_eq, ge_iff_le]; omega)]
   simp only [decide_eq_true_eq]; omega
  ·cases h
 ·cases h
theorem Rdy.widths {c : C} (h : Rdy c) : S_Widths c = ((S_Of c).1.map S_width, 0) := by
 unfold S_Widths
 rw [if_neg (by rw [h.of0]; simp)]
theorem width_at {l : List B} {k : Nat} (hk : k < l.length) : (l.map S_width).getD k 0 = S_width (l.getD k B0) := by
 rw [List.getD_eq_getElem?_getD, List.getElem?_map, List.getElem?_eq_getElem hk, List.getD_eq_getElem?_getD, List.getElem?_eq_getElem hk]; rfl
abbrev w16 (W : List Int) (l : List B) (v : List V) (i : Int) (x : List (Nat × PE gam)) : PSt gam := ⟨[(5, xL 3 W), (7, xL 38 l), (9, xL 78 v), (11, xi i)] ++ x, [], []⟩
structure Fit (W : List Int) (l : List B) (v : List V) : Prop where
 l1 : l.length = W.length
 l2 : v.length = W.length
 a : ∀ k, k < W.length → 0 ≤ W.getD k 0 ∧ W.getD k 0 ≤ 15 ∧ S_rFits (l.getD k B0) (W.getD k 0) = true ∧ (0 < W.getD k 0 → S_rFits (l.getD k B0) (IntKind.i64.wrap (W.getD k 0 - 1)) = false) ∧ ((v.getD k V0).f = 0 → S_rFits ⟨(v.getD k V0).n, (v.getD k V0).n, 0⟩ (W.getD k 0) = true)
set_option maxRecDepth 10000 in
theorem l16 {n : Nat} (hO : Ok n oc46) (c : C) (W : List Int) (l : List B) (v : List V) (hm : W.length ≤ most) (h : Fit W l v) : Lp n 16 0 ⟨[(5, xL 3 W), (7, xL 38 l), (9, xL 78 v), (11, xi 0)], [xC c], []⟩ (.exit 0) (w16 W l v W.length [(63, xl false)]) := by
 refine eachF (X := X0) (P := Tryz.prog) (T := T) (call := ApN n) (L := LL) (f := 16) (rnd := false) (nt := ntP Tryz.prog 16) (B := 0) (b := bodyP Tryz.prog 16 0) (σ := Unit) (0 : Int) (l := W) (s0 := ()) (st := fun i _ => w16 W l v i []) (g := fun _ _ => ()) (fin := fun _ => w16 W l v W.length [(63, xl false)]) (by kernel_rfl) hm LLm (fun k s hk hs n e p hr => ?_) (fun s hs => round hX hO (by kernel_rfl) (.b (lt_no W.length) .ex))
 obtain ⟨a1, a2, a3, a4, a5⟩ := h.a k hk
 have iW : inR k W.length := inR_nat hk
 have iL : inR k l.length := by rw [h.l1]; exact iW
 have iV : inR k v.length := by rw [h.l2]; exact iW
 have b1 : decide (W.getD k 0 < 0) = false := decide_eq_false (by omega)
 have b2 : decide (W.getD k 0 > 15) = false := decide_eq_false (by omega)
 have b3 : (!S_rFits (l.getD k B0) (W.getD k 0)) = false := by rw [a3]; rfl
 cases c1 : decide (W.getD k 0 > 0) with
 | true =>
  have b4 := a4 (by simpa using c1)
  cases c2 : ((v.getD k V0).f == 0) with
  | true =>
   have b5 : (!S_rFits ⟨(v.getD k V0).n, (v.getD k V0).n, 0⟩ (W.getD k 0)) = false := by rw [a5 (by simpa using c2)]; rfl
   exact round hX hO (by kernel_rfl) (.b (lt_nat hk) <| .o iW <| .b b1 <| .o iW <| .b b2 <| .o iL <| .o iW <| .b b3 <| .o iW <| .b c1 <| .o iL <| .o iW <| .b b4 <| .o iV <| .b c2 <| .o iV <| .o iV <| .o iW <| .b b5 <| .go hr)
  | false =>
   exact round hX hO (by kernel_rfl) (.b (lt_nat hk) <| .o iW <| .b b1 <| .o iW <| .b b2 <| .o iL <| .o iW <| .b b3 <| .o iW <| .b c1 <| .o iL <| .o iW <| .b b4 <| .o iV <| .b c2 <| .go hr)
 | false =>
  cases c2 : ((v.getD k V0).f == 0) with
  | true =>
   have b5 : (!S_rFits ⟨(v.getD k V0).n, (v.getD k V0).n, 0⟩ (W.getD k 0)) = false := by rw [a5 (by simpa using c2)]; rfl
   exact round hX hO (by kernel_rfl) (.b (lt_nat hk) <| .o iW <| .b b1 <| .o iW <| .b b2 <| .o iL <| .o iW <| .b b3 <| .o iW <| .b c1 <| .o iV <| .b c2 <| .o iV <| .o iV <| .o iW <| .b b5 <| .go hr)
  | false =>
   exact round hX hO (by kernel_rfl) (.b (lt_nat hk) <| .o iW <| .b b1 <| .o iW <| .b b2 <| .o iL <| .o iW <| .b b3 <| .o iW <| .b c1 <| .o iV <| .b c2 <| .go hr)
noncomputable def oc16 : Orc gam := orcF 16 (a2 cA hA) tA (fun _ => true) (fun p => [0 ≤ p.2 ∧ p.2 < 65536]) oc46
theorem gc16 : Gd oc16 := gc46.add fun n hO p hp => by
 obtain ⟨c, k⟩ := p
 have hk : 0 ≤ k ∧ k < 65536 := hp _ (.head _)
 cases hr : S_ready c with
 | false => exact fn_is hX hO (by kernel_rfl) (.b (show (!S_ready c) = true by rw [hr]; rfl) .rr)
 | true =>
  have R := ready_rdy hr
  obtain ⟨m, hm, hm2⟩ := R.wnum hk.1 hk.2
  have hm3 : m ≤ 1000000 := by have := R.few; omega
  have hcl : S_cells c (nthW c (S_wnum c k)) = (S_rAll c (nthW c (m : Int)), true) := by rw [hm]; exact R.cells hm3
  have hvg := vgood_all (R.world hm3)
  have hWl : (S_Widths c).1.length = c.os.length := by rw [R.widths]; simp [R.ofl]
  have hVl : (S_cells c (nthW c (S_wnum c k))).1.length = c.os.length := by rw [hcl, rAll_len]
  have hF : Fit (S_Widths c).1 (S_Of c).1 (S_cells c (nthW c (S_wnum c k))).1 := by
   refine ⟨by rw [hWl, R.ofl], by rw [hWl, hVl], fun i hi => ?_⟩
   rw [hWl] at hi
   have hil : i < (S_Of c).1.length := by rw [R.ofl]; exact hi
   obtain ⟨f1, f2, f3, f4⟩ := width_facts (good_getD R.goodOf i)
   rw [R.widths, hcl]
   simp only
   rw [width_at hil]
   have mm := R.memOf hm3 i hi
   exact ⟨f1, f2, f3, f4, fun h0 => fits_pt f3 (mm.n h0).1 (mm.n h0).2⟩
  exact fn_is hX hO (by kernel_rfl) (.b (show (!S_ready c) = false by rw [hr]; rfl) <| .o R.csm <| .o R.osm <| .o R.rsm <| .o R.ofm <| .o (fun r h => (width_bits (R.goodOf r h)).1) <|
   .o R.csm <| .o R.osm <| .o R.rsm <| .o R.csm <| .o R.mne <| .o R.szk <| .o R.csm <| .o R.osm <| .o R.rsm <| .o (show (nthW c (S_wnum c k)).length ≤ most by rw [hm]; exact R.wlen hm3) <|
   .b (show ((S_Widths c).2 != 0) = false by rw [R.widths]; rfl) <| .b R.of0 <| .b (show (!(S_cells c (nthW c (S_wnum c k))).2) = false by rw [hcl]; rfl) <|
   .b (show ((((S_Widths c).1.length : Nat) : Int) != (((S_cells c (nthW c (S_wnum c k))).1.length : Nat) : Int)) = false by rw [hWl, hVl]; simp) <|
   .b (show ((((S_Of c).1.length : Nat) : Int) != (((S_cells c (nthW c (S_wnum c k))).1.length : Nat) : Int)) = false by rw [R.ofl, hVl]; simp) <|
   .w (l16 hO c _ _ _ (by rw [hWl]; exact R.osm) hF) .rr)
end Go.Proofs.YtfhiejgoemcelaaGreat
namespace Go.Proofs.YtfhiejgoemcelaaGreat
open Go Tw Pv Go.ChangeShapes Go.WideShapes Go.ChangeAt Go.RowKit
theorem Tryz.tys16 : Tryz.f16.params.toList = [26, 63] := by kernel_rfl
set_option maxRecDepth 100000 in
theorem ReachFits_lifted (os : Os) (started : os.Started) (H : Type) (enc : TypeId × Value → H) :
  ReturnsInHanded {} Tryz.checked os 16 .any (Rows.reachFitsSpec.pre6 enc Tryz.prog Tryz.f16 Rows.reachFitsRow.domain false) (Rows.reachFitsSpec.post enc Tryz.prog Tryz.f16 false true false false) := by
 refine returnsInHanded_of_change (C := Tryz.checked) Tryz.own started (by kernel_rfl) Tryz.func16
  (ChangeSpec.witness6 (enc := enc) (C := Tryz.checked) false ⟨#[], #[.agg #[.slice none 0 0, .slice none 0 0, .slice none 0 0], .int .u16 0], []⟩ 8 (by kernel_rfl) (by kernel_rfl) (by kernel_rfl) (by kernel_rfl)) ?_
 intro W base args ds gs before hval0 hW hcnd _
 have hval : ∀ (j : Nat) t v, Tryz.f16.params[j]? = some t → args[j]? = some v → Value.okWide Tryz.prog W .any base t v := hval0
 have hW' := hW
 obtain ⟨p, q, hTA0, hV, rfl, hfz, hnd⟩ := hW
 have hTA : DataW.TrodAll enc Tryz.prog W 0 (fun _ => true) true Tryz.f16.params.toList args.toList ds p := hTA0
 obtain ⟨rfl, rfl⟩ := trodVars_none hV
 rw [Tryz.tys16] at hTA
 obtain ⟨d0, d1, rfl, r0, r1⟩ := trodAll_2 hTA
 obtain ⟨c, _, hc⟩ := rd_coreV (g := 2) r0
 obtain ⟨xc, xo, xr, ext0, e0, v0⟩ := hc []
 simp only [List.nil_append] at e0 v0
 obtain ⟨k1, hk1, e1⟩ := rd_u16 (g := 5) r1
 have w0 := v0 ([])
 rw [List.append_nil] at w0
 obtain ⟨N, hN⟩ := gc16
 have hcon := hN (N + 1) (by omega) 16 ((a2 cA hA).put (c, k1)) (tA.put true) [] [0 ≤ k1 ∧ k1 < 65536] rfl (by
  intro p hp
  simp only [List.mem_cons, List.not_mem_nil, or_false] at hp
  subst hp
  exact hk1)
 obtain ⟨h', hr⟩ := run_of (xs := [.agg [xc, xo, xr], .int .u16 k1]) (h := ext0) hcon (.cons (.agg w0.1 w0.2) (.cons (.int _ _) .nil))
 exact law_callsN (P := Tryz.prog) (T := T) (L := LL) (n := N) (g := 6) Tryz.mixed Tryz.laidOut rfl rfl (by kernel_rfl) Tryz.underlying4 (by kernel_rfl) hW' hval
  (by rw [Tryz.tys16]; exact (encA_a agg26 e0 (encA_o agg63 (e1 _) encA_0))) hr
theorem ReachFits_holds : Rows.ReachFitsSaid :=
 OpenClaim.holds_of_wide 16 Tryz.f16 rfl rfl rfl rfl rfl rfl rfl ⟨rfl, rfl, rfl, rfl, rfl⟩ rfl rfl rfl rfl rfl (by kernel_rfl) Tryz.func16 (by kernel_rfl)
  (of_decide_eq_true (by kernel_rfl)) (by unfold Func.isWrapper; first | (rw [if_pos (by decide +kernel)]; kernel_rfl) | (rw [if_neg (by decide +kernel)]; exact ⟨rfl, rfl⟩))
  (fun os started H enc _ => ReachFits_lifted os started H enc)
end Go.Proofs.YtfhiejgoemcelaaGreat
