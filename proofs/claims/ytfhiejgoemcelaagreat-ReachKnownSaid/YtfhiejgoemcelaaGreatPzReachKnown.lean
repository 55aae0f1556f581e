/- The statement mistlaw13.ReachKnown: what Clip returns holds in all worlds in which the given reach does, and is inside of what the rules make; without conditions. -/
import Derived.Test.YtfhiejgoemcelaaGreatPf
set_option linter.constructorNameAsVariable false
set_option linter.unusedVariables false
set_option linter.unusedSimpArgs false
set_option linter.unusedSectionVars false
namespace Go.Proofs.YtfhiejgoemcelaaGreat
open Go Tw Pv
section
variable {c : C}
theorem Rdy.csm (h : Rdy c) : c.cs.length ≤ most := sm60 (Nat.le_trans h.cs (by decide))
theorem Rdy.osm (h : Rdy c) : c.os.length ≤ most := sm60 h.os
theorem Rdy.rsm (h : Rdy c) : c.rs.length ≤ most := sm60 h.rs
theorem Rdy.mne (h : Rdy c) : S_rMany c ≠ 0 := by rw [h.many]; have := h.pos; omega
theorem Rdy.szk (h : Rdy c) : ∀ k ∈ c.cs, szK k ≠ 0 := fun k hk => by rw [(core_k h.ok k hk).n.1]; have := (core_k h.ok k hk).n.2.1; omega
theorem Rdy.ofl (h : Rdy c) : (S_Of c).1.length = c.os.length := by rw [h.of.1]; exact rOf_ln
theorem Rdy.of0 (h : Rdy c) : ((S_Of c).2 != 0) = false := by rw [h.of.1]; rfl
theorem Rdy.cells (h : Rdy c) {n : Nat} (hn : n ≤ 1000000) : S_cells c (nthW c (n : Int)) = (S_rAll c (nthW c (n : Int)), true) := by
 unfold S_cells
 simp [h.all hn, rAll_len]
theorem Rdy.wlen (h : Rdy c) {n : Nat} (hn : n ≤ 1000000) : (nthW c (n : Int)).length ≤ most := by rw [(h.world hn).len]; exact h.csm
theorem Rdy.rule (h : Rdy c) : ∀ (i : Nat) (o : O), c.os[i]? = some o → RuleOk o i c.cs.length := fun i o ho => (h.cc.rule i o ho).1
end
end Go.Proofs.YtfhiejgoemcelaaGreat
namespace Go.Proofs.YtfhiejgoemcelaaGreat
open Go Tw Pv
noncomputable def qA : Arg (C × Int × B) := isoA (aggL (conA ksA (conA osA (conA isA (conA iA (conA iA (conA iA (oneA uA)))))))) (fun p => (⟨p.1, p.2.1, p.2.2.1⟩, p.2.2.2.1, ⟨p.2.2.2.2.1, p.2.2.2.2.2.1, p.2.2.2.2.2.2⟩)) (fun q => (q.1.cs, q.1.os, q.1.rs, q.2.1, q.2.2.lo, q.2.2.hi, q.2.2.f)) fun _ => rfl
theorem clip_full {c : C} (R : Rdy c) {q : Nat} {kn : B} (hq : q < c.os.length) (hn : Good kn) : S_Clip c q kn = if S_rEmpty ((S_rOf c q kn).getD q B0) = true then ([], 12) else (S_rOf c q kn, 0) := by
 obtain ⟨e1, _, e3⟩ := clip_eq R.ok hn (op := (q : Int)) (by omega) (by omega)
 unfold S_Clip
 rw [if_neg (by rw [R.ok]; simp), if_neg (by simp), if_neg (by simp; omega), if_neg (by rw [valid_eq hn.f0 (by have := hn.f1; omega), good_valid hn]; simp), e1, e3, Int.toNat_natCast]
 cases S_rEmpty ((S_rOf c q kn).getD q B0) <;> rfl
theorem empty_mem {r : B} {v : V} (hv : VGood v) (h : S_rEmpty r = true) : ¬ Mem r v := by
 intro m
 unfold S_rEmpty at h
 split at h
 ·rename_i g
  simp at g h
  by_cases hf : v.f = 0
  ·have := m.n hf; omega
  ·have := m.f hf; rw [h] at this; exact fb_0 this
 ·cases h
theorem rem_in {x : Int} {n : Nat} (h0 : 0 ≤ x) (hn : 0 < n) (hm : n ≤ 60) : ∃ q : Nat, remI .i64 x (n : Nat) = q ∧ q < n := by
 have a1 := Int.tmod_nonneg (n : Int) h0
 have a2 := Int.tmod_lt_of_pos x (b := (n : Int)) (by omega)
 refine ⟨(x.tmod n).toNat, ?_, by omega⟩
 unfold remI
 omega
noncomputable def oc14 : Orc gam := orcF 14 (a2 qA hA) tA (fun _ => true) (fun p => [0 ≤ p.2 ∧ p.2 < 65536, 0 ≤ p.1.2.2.f ∧ p.1.2.2.f ≤ 255]) oc46
theorem gc14 : Gd oc14 := gc46.add fun n hO p hp => by
 obtain ⟨⟨c, op, kn⟩, k⟩ := p
 have hk : 0 ≤ k ∧ k < 65536 := hp _ (.head _)
 have hf : 0 ≤ kn.f ∧ kn.f ≤ 255 := hp _ (.tail _ (.head _))
 cases hr : S_ready c with
 | false => exact fn_is hX hO (by kernel_rfl) (.b (show (!S_ready c) = true by rw [hr]; rfl) .rr)
 | true =>
  have b0 : (!S_ready c) = false := by rw [hr]; rfl
  have R := ready_rdy hr
  cases e0 : (((c.os.length : Nat) : Int) == 0) with
  | true => exact fn_is hX hO (by kernel_rfl) (.b b0 (.b e0 .rr))
  | false =>
   cases o0 : decide (op < 0) with
   | true => exact fn_is hX hO (by kernel_rfl) (.b b0 (.b e0 (.b o0 .rr)))
   | false =>
    cases va : S_rValid kn with
    | false =>
     have va' : (!S_rValid kn) = true := by rw [va]; rfl
     exact fn_is hX hO (by kernel_rfl) (.b b0 (.b e0 (.b o0 (.b va' .rr))))
    | true =>
     have va' : (!S_rValid kn) = false := by rw [va]; rfl
     have hn := valid_good hf.1 va
     have hne : c.os.length ≠ 0 := by simp at e0; simpa using e0
     obtain ⟨q, hq, hql⟩ := rem_in (x := op) (n := c.os.length) (by simp at o0; omega) (by omega) R.os
     obtain ⟨m, hm, hm2⟩ := R.wnum hk.1 hk.2
     have hm3 : m ≤ 1000000 := by have := R.few; omega
     have hcl : S_cells c (nthW c (S_wnum c k)) = (S_rAll c (nthW c (m : Int)), true) := by rw [hm]; exact R.cells hm3
     have hvg := vgood_all (R.world hm3)
     have hVl : (S_cells c (nthW c (S_wnum c k))).1.length = c.os.length := by rw [hcl, rAll_len]
     have hlen : ((((S_Of c).1.length : Nat) : Int) != ((c.os.length : Nat) : Int)) = false := by rw [R.ofl]; simp
     have hgC : ∀ b ∈ S_rOf c q kn, Good b := (clip_eq R.ok hn (op := (q : Int)) (by omega) (by omega)).2.1
     have iV : inR (remI .i64 op (c.os.length : Nat)) (S_cells c (nthW c (S_wnum c k))).1.length := by rw [hVl, hq]; exact inR_nat hql
     have iL : inR (remI .i64 op (c.os.length : Nat)) (S_Of c).1.length := by rw [R.ofl, hq]; exact inR_nat hql
     have hcf := clip_full R hql hn
     have hle : ∀ i, i < c.os.length → Le ((S_rOf c q kn).getD i B0) ((S_rOf c (-1) B0).getD i B0) := clip_le R.cc hgC R.of.2
     have isb : (!(S_cells c (nthW c (S_wnum c k))).2) = false := by rw [hcl]; rfl
     have wl : (nthW c (S_wnum c k)).length ≤ most := by rw [hm]; exact R.wlen hm3
     have nne : ((c.os.length : Nat) : Int) ≠ 0 := by omega
     have hmem : Mem kn ((S_rAll c (nthW c (m : Int))).getD q V0) → ∀ i, i < c.os.length → Mem ((S_rOf c q kn).getD i B0) ((S_rAll c (nthW c (m : Int))).getD i V0) := fun g => mem_of (R.world hm3) hgC fun i hi _ => by
      have : i = q := by omega
      rw [this]; exact g
     cases hem : S_rEmpty ((S_rOf c q kn).getD q B0) with
     | true =>
      have hC : S_Clip c (remI .i64 op (c.os.length : Nat)) kn = ([], 12) := by rw [hq, hcf, hem]; rfl
      have d1 : ((S_Clip c (remI .i64 op (c.os.length : Nat)) kn).2 != 0) = true := by rw [hC]; rfl
      have d2 : ((S_Clip c (remI .i64 op (c.os.length : Nat)) kn).2 == 12) = true := by rw [hC]; rfl
      have d3 : (!S_lhas kn ((S_cells c (nthW c (S_wnum c k))).1.getD (remI .i64 op (c.os.length : Nat)).toNat V0)) = true := by
       rw [hcl, hq, Int.toNat_natCast]
       cases hh : S_lhas kn ((S_rAll c (nthW c (m : Int))).getD q V0) with
       | false => rfl
       | true => exact absurd (hmem ((lhas_mem (vgood_at hvg q)).1 hh) q hql) (empty_mem (vgood_at hvg q) hem)
      exact fn_is hX hO (by kernel_rfl) (.b b0 <| .b e0 <| .b o0 <| .b va' <| .o nne <| .o R.csm <| .o R.osm <| .o R.rsm <| .o R.csm <| .o R.mne <| .o R.szk <| .o R.csm <| .o R.osm <| .o R.rsm <| .o wl <| .o R.csm <| .o R.osm <| .o R.rsm <|
       .b R.of0 <| .b isb <| .b hlen <| .b d1 <| .b d2 <| .o iV <| .b d3 .rr)
     | false =>
      have hC : S_Clip c (remI .i64 op (c.os.length : Nat)) kn = (S_rOf c q kn, 0) := by rw [hq, hcf, hem]; rfl
      have d1 : ((S_Clip c (remI .i64 op (c.os.length : Nat)) kn).2 != 0) = false := by rw [hC]; rfl
      have lC : (S_Clip c (remI .i64 op (c.os.length : Nat)) kn).1.length = c.os.length := by rw [hC]; exact rOf_ln
      have mC : (S_Clip c (remI .i64 op (c.os.length : Nat)) kn).1.length ≤ most := by rw [lC]; exact R.osm
      have d2 : (!S_linside (S_Clip c (remI .i64 op (c.os.length : Nat)) kn).1 (S_Of c).1) = false := by
       rw [hC, R.of.1, (linside_le hgC (by rw [rOf_ln, rOf_ln])).2 fun i hi => hle i (by rw [← rOf_ln (c := c) (op := q) (kn := kn)]; exact hi)]; rfl
      have lV : (S_Clip c (remI .i64 op (c.os.length : Nat)) kn).1.length = (S_cells c (nthW c (S_wnum c k))).1.length := by rw [lC, hVl]
      have d4 : S_lhas kn ((S_cells c (nthW c (S_wnum c k))).1.getD (remI .i64 op (c.os.length : Nat)).toNat V0) = true → (!S_lall (S_Clip c (remI .i64 op (c.os.length : Nat)) kn).1 (S_cells c (nthW c (S_wnum c k))).1) = false := fun hh => by
       rw [hcl, hq, Int.toNat_natCast] at hh
       rw [hC, hcl, (lall_mem hvg (by rw [rOf_ln, rAll_len])).2 fun i hi => hmem ((lhas_mem (vgood_at hvg q)).1 hh) i (by rw [← rOf_ln (c := c) (op := q) (kn := kn)]; exact hi)]; rfl
      have d5 : S_rInside ((S_Of c).1.getD (remI .i64 op (c.os.length : Nat)).toNat B0) kn = true → S_same (S_Clip c (remI .i64 op (c.os.length : Nat)) kn).1 (S_Of c).1 = true := fun hh => by
       rw [R.of.1, hq, Int.toNat_natCast] at hh
       rw [hC, R.of.1, clip_same R.cc hn hgC R.of.2 fun i hi => by
        have : i = q := by omega
        rw [this]; exact (inside_le (good_getD R.of.2 q)).1 hh]
       exact same_refl _
      cases hh : S_lhas kn ((S_cells c (nthW c (S_wnum c k))).1.getD (remI .i64 op (c.os.length : Nat)).toNat V0) with
      | true =>
       have d4 := d4 hh
       cases hi : S_rInside ((S_Of c).1.getD (remI .i64 op (c.os.length : Nat)).toNat B0) kn with
       | true =>
        have d6 : (!S_rInside ((S_Of c).1.getD (remI .i64 op (c.os.length : Nat)).toNat B0) kn) = false := by rw [hi]; rfl
        exact fn_is hX hO (by kernel_rfl) (.b b0 <| .b e0 <| .b o0 <| .b va' <| .o nne <| .o R.csm <| .o R.osm <| .o R.rsm <| .o R.csm <| .o R.mne <| .o R.szk <| .o R.csm <| .o R.osm <| .o R.rsm <| .o wl <| .o R.csm <| .o R.osm <| .o R.rsm <|
         .b R.of0 <| .b isb <| .b hlen <| .b d1 <| .o mC <| .b d2 <| .o iV <| .b hh <| .o mC <| .o lV <| .b d4 <| .o iL <| .b d6 <| .o mC <| .b (d5 hi) .rr)
       | false =>
        have d6 : (!S_rInside ((S_Of c).1.getD (remI .i64 op (c.os.length : Nat)).toNat B0) kn) = true := by rw [hi]; rfl
        exact fn_is hX hO (by kernel_rfl) (.b b0 <| .b e0 <| .b o0 <| .b va' <| .o nne <| .o R.csm <| .o R.osm <| .o R.rsm <| .o R.csm <| .o R.mne <| .o R.szk <| .o R.csm <| .o R.osm <| .o R.rsm <| .o wl <| .o R.csm <| .o R.osm <| .o R.rsm <|
         .b R.of0 <| .b isb <| .b hlen <| .b d1 <| .o mC <| .b d2 <| .o iV <| .b hh <| .o mC <| .o lV <| .b d4 <| .o iL <| .b d6 .rr)
      | false =>
       cases hi : S_rInside ((S_Of c).1.getD (remI .i64 op (c.os.length : Nat)).toNat B0) kn with
       | true =>
        have d6 : (!S_rInside ((S_Of c).1.getD (remI .i64 op (c.os.length : Nat)).toNat B0) kn) = false := by rw [hi]; rfl
        exact fn_is hX hO (by kernel_rfl) (.b b0 <| .b e0 <| .b o0 <| .b va' <| .o nne <| .o R.csm <| .o R.osm <| .o R.rsm <| .o R.csm <| .o R.mne <| .o R.szk <| .o R.csm <| .o R.osm <| .o R.rsm <| .o wl <| .o R.csm <| .o R.osm <| .o R.rsm <|
         .b R.of0 <| .b isb <| .b hlen <| .b d1 <| .o mC <| .b d2 <| .o iV <| .b hh <| .o iL <| .b d6 <| .o mC <| .b (d5 hi) .rr)
       | false =>
        have d6 : (!S_rInside ((S_Of c).1.getD (remI .i64 op (c.os.length : Nat)).toNat B0) kn) = true := by rw [hi]; rfl
        exact fn_is hX hO (by kernel_rfl) (.b b0 <| .b e0 <| .b o0 <| .b va' <| .o nne <| .o R.csm <| .o R.osm <| .o R.rsm <| .o R.csm <| .o R.mne <| .o R.szk <| .o R.csm <| .o R.osm <| .o R.rsm <| .o wl <| .o R.csm <| .o R.osm <| .o R.rsm <|
         .b R.of0 <| .b isb <| .b hlen <| .b d1 <| .o mC <| .b d2 <| .o iV <| .b hh <| .o iL <| .b d6 .rr)
end Go.Proofs.YtfhiejgoemcelaaGreat
namespace Go.Proofs.YtfhiejgoemcelaaGreat
open Go Tw Pv Go.ChangeShapes Go.WideShapes Go.ChangeAt Go.RowKit
theorem Tryz.tys14 : Tryz.f14.params.toList = [49, 63] := by kernel_rfl
set_option maxRecDepth 100000 in
theorem ReachKnown_lifted (os : Os) (started : os.Started) (H : Type) (enc : TypeId × Value → H) :
  ReturnsInHanded {} Tryz.checked os 14 .any (Rows.reachKnownSpec.pre6 enc Tryz.prog Tryz.f14 Rows.reachKnownRow.domain false) (Rows.reachKnownSpec.post enc Tryz.prog Tryz.f14 false true false false) := by
 refine returnsInHanded_of_change (C := Tryz.checked) Tryz.own started (by kernel_rfl) Tryz.func14
  (ChangeSpec.witness6 (enc := enc) (C := Tryz.checked) false ⟨#[], #[.agg #[.slice none 0 0, .slice none 0 0, .slice none 0 0, .int .i64 0, .int .i64 0, .int .i64 0, .int .u8 0], .int .u16 0], []⟩ 8 (by kernel_rfl) (by kernel_rfl) (by kernel_rfl) (by kernel_rfl)) ?_
 intro W base args ds gs before hval0 hW hcnd _
 have hval : ∀ (j : Nat) t v, Tryz.f14.params[j]? = some t → args[j]? = some v → Value.okWide Tryz.prog W .any base t v := hval0
 have hW' := hW
 obtain ⟨p, q, hTA0, hV, rfl, hfz, hnd⟩ := hW
 have hTA : DataW.TrodAll enc Tryz.prog W 0 (fun _ => true) true Tryz.f14.params.toList args.toList ds p := hTA0
 obtain ⟨rfl, rfl⟩ := trodVars_none hV
 rw [Tryz.tys14] at hTA
 obtain ⟨d0, d1, rfl, r0, r1⟩ := trodAll_2 hTA
 obtain ⟨c, op, kn, hkn, hc⟩ := rd_askedV (g := 1) r0
 obtain ⟨xs, ext0, e0, v0⟩ := hc []
 simp only [List.nil_append] at e0 v0
 obtain ⟨k1, hk1, e1⟩ := rd_u16 (g := 5) r1
 have w0 := v0 ([])
 rw [List.append_nil] at w0
 obtain ⟨N, hN⟩ := gc14
 have hcon := hN (N + 1) (by omega) 14 ((a2 qA hA).put ((c, op, kn), k1)) (tA.put true) [] [0 ≤ k1 ∧ k1 < 65536, 0 ≤ kn.f ∧ kn.f ≤ 255] rfl (by
  intro p hp
  simp only [List.mem_cons, List.not_mem_nil, or_false] at hp
  rcases hp with rfl | rfl
  ·exact hk1
  ·exact hkn)
 obtain ⟨h', hr⟩ := run_of (xs := [.agg xs, .int .u16 k1]) (h := ext0) hcon (.cons (.agg w0.1 w0.2) (.cons (.int _ _) .nil))
 exact law_callsN (P := Tryz.prog) (T := T) (L := LL) (n := N) (g := 6) Tryz.mixed Tryz.laidOut rfl rfl (by kernel_rfl) Tryz.underlying4 (by kernel_rfl) hW' hval
  (by rw [Tryz.tys14]; exact (encA_a agg49 e0 (encA_o agg63 (e1 _) encA_0))) hr
theorem ReachKnown_holds : Rows.ReachKnownSaid :=
 OpenClaim.holds_of_wide 14 Tryz.f14 rfl rfl rfl rfl rfl rfl rfl ⟨rfl, rfl, rfl, rfl, rfl⟩ rfl rfl rfl rfl rfl (by kernel_rfl) Tryz.func14 (by kernel_rfl)
  (of_decide_eq_true (by kernel_rfl)) (by unfold Func.isWrapper; first | (rw [if_pos (by decide +kernel)]; kernel_rfl) | (rw [if_neg (by decide +kernel)]; exact ⟨rfl, rfl⟩))
  (fun os started H enc _ => ReachKnown_lifted os started H enc)
end Go.Proofs.YtfhiejgoemcelaaGreat
