/- The statement mistlaw13.ReachLeast: the reaches by the rules are a proof, and are inside of any proof; without conditions. -/
import Derived.Test.YtfhiejgoemcelaaGreatPf
set_option linter.constructorNameAsVariable false
set_option linter.unusedVariables false
set_option linter.unusedSimpArgs false
set_option linter.unusedSectionVars false
namespace Go.Proofs.YtfhiejgoemcelaaGreat
open Go Tw Pv
section
variable {c : C}
theorem Rdy.csm (h : Rdy c) : c.cs.length ≤ most := sm60 (Nat.le_trans h.cs (by decide))
theorem Rdy.osm (h : Rdy c) : c.os.length ≤ most := sm60 h.os
theorem Rdy.rsm (h : Rdy c) : c.rs.length ≤ most := sm60 h.rs
theorem Rdy.ofl (h : Rdy c) : (S_Of c).1.length = c.os.length := by rw [h.of.1]; exact rOf_ln
theorem Rdy.ofm (h : Rdy c) : (S_Of c).1.length ≤ most := by rw [h.ofl]; exact h.osm
theorem Rdy.of0 (h : Rdy c) : ((S_Of c).2 != 0) = false := by rw [h.of.1]; rfl
theorem Rdy.cells (h : Rdy c) {n : Nat} (hn : n ≤ 1000000) : S_cells c (nthW c (n : Int)) = (S_rAll c (nthW c (n : Int)), true) := by
 unfold S_cells
 simp [h.all hn, rAll_len]
theorem Rdy.goodOf (h : Rdy c) : ∀ b ∈ (S_Of c).1, Good b := by rw [h.of.1]; exact h.of.2
theorem Rdy.rule (h : Rdy c) : ∀ (i : Nat) (o : O), c.os[i]? = some o → RuleOk o i c.cs.length := fun i o ho => (h.cc.rule i o ho).1
end
theorem le62 {k : Nat} (h : decide ((k : Int) > 62) = false) : k ≤ most := by unfold most; simp at h; omega
theorem least_in {c : C} (R : Rdy c) {l : List B} (hp : Proof c l) : S_linside (S_Of c).1 l = true :=
 (linside_le R.goodOf (by rw [R.ofl, hp.1])).2 fun i hi => by rw [R.of.1]; exact of_least R.cc R.of.2 hp i (by rw [← R.ofl]; exact hi)
noncomputable def oc12 : Orc gam := orcF 12 (a3 cA hsA bsA) tA (fun _ => true) (fun p => [∀ w ∈ p.2.1, 0 ≤ w ∧ w < 65536, ∀ b ∈ p.2.2, 0 ≤ b.f ∧ b.f ≤ 255]) oc45
theorem gc12 : Gd oc12 := gc45.add fun n hO p hp => by
 obtain ⟨c, ws, ot⟩ := p
 have hw : ∀ w ∈ ws, 0 ≤ w ∧ w < 65536 := hp _ (.head _)
 have hot : ∀ b ∈ ot, 0 ≤ b.f ∧ b.f ≤ 255 := hp _ (.tail _ (.head _))
 cases hr : S_ready c with
 | false => exact fn_is hX hO (by kernel_rfl) (.b (show (!S_ready c) = true by rw [hr]; rfl) .rr)
 | true =>
  have b0 : (!S_ready c) = false := by rw [hr]; rfl
  cases h62 : decide (((ot.length : Nat) : Int) > 62) with
  | true => exact fn_is hX hO (by kernel_rfl) (.b b0 (.b h62 .rr))
  | false =>
   have R := ready_rdy hr
   have h62' := le62 h62
   have hW := widened_wd R.goodOf R.ofm hw
   have hXl : (S_widened (S_Of c).1 ws).length ≤ most := by rw [hW.1]; exact R.ofm
   have hPr : S_Prove c (S_Of c).1 = true := (prove_proof R (good_255 R.goodOf)).2 (by rw [R.of.1]; exact of_proof R.cc R.of.2)
   have b1 : (!S_Prove c (S_Of c).1) = false := by rw [hPr]; rfl
   have bl : ((((S_Of c).1.length : Nat) : Int) != ((c.os.length : Nat) : Int)) = false := by rw [R.ofl]; simp
   have hx : S_Prove c (S_widened (S_Of c).1 ws) = true → (!S_linside (S_Of c).1 (S_widened (S_Of c).1 ws)) = false := fun h => by
    rw [least_in R ((prove_proof R (good_255 hW.good)).1 h)]; rfl
   have ho : S_Prove c ot = true → S_linside (S_Of c).1 ot = true := fun h => least_in R ((prove_proof R hot).1 h)
   cases px : S_Prove c (S_widened (S_Of c).1 ws) with
   | true =>
    have hx := hx px
    cases po : S_Prove c ot with
    | true =>
     have bo : (!S_Prove c ot) = false := by rw [po]; rfl
     exact fn_is hX hO (by kernel_rfl) (.b b0 <| .b h62 <| .o R.csm <| .o R.osm <| .o R.rsm <| .b R.of0 <| .b bl <| .o R.csm <| .o R.osm <| .o R.rsm <| .o R.ofm <| .o R.ofm <| .b b1 <|
      .o R.ofm <| .o hw <| .o R.csm <| .o R.osm <| .o R.rsm <| .o hXl <| .o hXl <| .b px <| .o R.ofm <| .b hx <|
      .o R.csm <| .o R.osm <| .o R.rsm <| .o h62' <| .o h62' <| .b bo <| .o R.ofm <| .b (ho po) .rr)
    | false =>
     have bo : (!S_Prove c ot) = true := by rw [po]; rfl
     exact fn_is hX hO (by kernel_rfl) (.b b0 <| .b h62 <| .o R.csm <| .o R.osm <| .o R.rsm <| .b R.of0 <| .b bl <| .o R.csm <| .o R.osm <| .o R.rsm <| .o R.ofm <| .o R.ofm <| .b b1 <|
      .o R.ofm <| .o hw <| .o R.csm <| .o R.osm <| .o R.rsm <| .o hXl <| .o hXl <| .b px <| .o R.ofm <| .b hx <|
      .o R.csm <| .o R.osm <| .o R.rsm <| .o h62' <| .o h62' <| .b bo .rr)
   | false =>
    cases po : S_Prove c ot with
    | true =>
     have bo : (!S_Prove c ot) = false := by rw [po]; rfl
     exact fn_is hX hO (by kernel_rfl) (.b b0 <| .b h62 <| .o R.csm <| .o R.osm <| .o R.rsm <| .b R.of0 <| .b bl <| .o R.csm <| .o R.osm <| .o R.rsm <| .o R.ofm <| .o R.ofm <| .b b1 <|
      .o R.ofm <| .o hw <| .o R.csm <| .o R.osm <| .o R.rsm <| .o hXl <| .o hXl <| .b px <|
      .o R.csm <| .o R.osm <| .o R.rsm <| .o h62' <| .o h62' <| .b bo <| .o R.ofm <| .b (ho po) .rr)
    | false =>
     have bo : (!S_Prove c ot) = true := by rw [po]; rfl
     exact fn_is hX hO (by kernel_rfl) (.b b0 <| .b h62 <| .o R.csm <| .o R.osm <| .o R.rsm <| .b R.of0 <| .b bl <| .o R.csm <| .o R.osm <| .o R.rsm <| .o R.ofm <| .o R.ofm <| .b b1 <|
      .o R.ofm <| .o hw <| .o R.csm <| .o R.osm <| .o R.rsm <| .o hXl <| .o hXl <| .b px <|
      .o R.csm <| .o R.osm <| .o R.rsm <| .o h62' <| .o h62' <| .b bo .rr)
end Go.Proofs.YtfhiejgoemcelaaGreat
namespace Go.Proofs.YtfhiejgoemcelaaGreat
open Go Tw Pv Go.ChangeShapes Go.WideShapes Go.ChangeAt Go.RowKit
theorem Tryz.tys12 : Tryz.f12.params.toList = [26, 64, 29] := by kernel_rfl
set_option maxRecDepth 100000 in
theorem ReachLeast_lifted (os : Os) (started : os.Started) (H : Type) (enc : TypeId × Value → H) :
  ReturnsInHanded {} Tryz.checked os 12 .any (Rows.reachLeastSpec.pre6 enc Tryz.prog Tryz.f12 Rows.reachLeastRow.domain false) (Rows.reachLeastSpec.post enc Tryz.prog Tryz.f12 false true false false) := by
 refine returnsInHanded_of_change (C := Tryz.checked) Tryz.own started (by kernel_rfl) Tryz.func12
  (ChangeSpec.witness6 (enc := enc) (C := Tryz.checked) false ⟨#[], #[.agg #[.slice none 0 0, .slice none 0 0, .slice none 0 0], .slice none 0 0, .slice none 0 0], []⟩ 8 (by kernel_rfl) (by kernel_rfl) (by kernel_rfl) (by kernel_rfl)) ?_
 intro W base args ds gs before hval0 hW hcnd _
 have hval : ∀ (j : Nat) t v, Tryz.f12.params[j]? = some t → args[j]? = some v → Value.okWide Tryz.prog W .any base t v := hval0
 have hW' := hW
 obtain ⟨p, q, hTA0, hV, rfl, hfz, hnd⟩ := hW
 have hTA : DataW.TrodAll enc Tryz.prog W 0 (fun _ => true) true Tryz.f12.params.toList args.toList ds p := hTA0
 obtain ⟨rfl, rfl⟩ := trodVars_none hV
 rw [Tryz.tys12] at hTA
 obtain ⟨d0, d1, d2, rfl, r0, r1, r2⟩ := trodAll_3 hTA
 obtain ⟨c, _, hc⟩ := rd_coreV (g := 2) r0
 obtain ⟨xc, xo, xr, ext0, e0, v0⟩ := hc []
 simp only [List.nil_append] at e0 v0
 obtain ⟨l1, hl1, hc1⟩ := rd_hs (g := 4) r1
 obtain ⟨x1, ext1, e1, v1⟩ := hc1 (ext0)
 obtain ⟨l2, hl2, hc2⟩ := rd_bs (g := 3) r2
 obtain ⟨x2, ext2, e2, v2⟩ := hc2 (ext0 ++ ext1)
 have w0 := v0 (ext1 ++ ext2)
 have w1 := v1 (ext2)
 have w2 := v2 ([])
 rw [List.append_nil] at w2
 simp only [List.append_assoc] at w0 w1 w2 ⊢
 obtain ⟨N, hN⟩ := gc12
 have hcon := hN (N + 1) (by omega) 12 ((a3 cA hsA bsA).put (c, l1, l2)) (tA.put true) [] [∀ w ∈ l1, 0 ≤ w ∧ w < 65536, ∀ b ∈ l2, 0 ≤ b.f ∧ b.f ≤ 255] rfl (by
  intro p hp
  simp only [List.mem_cons, List.not_mem_nil, or_false] at hp
  rcases hp with rfl | rfl
  ·exact hl1
  ·exact hl2)
 obtain ⟨h', hr⟩ := run_of (xs := [.agg [xc, xo, xr], x1, x2]) (h := ext0 ++ (ext1 ++ ext2)) hcon (.cons (.agg w0.1 w0.2) (.cons w1 (.cons w2 .nil)))
 exact law_callsN (P := Tryz.prog) (T := T) (L := LL) (n := N) (g := 6) Tryz.mixed Tryz.laidOut rfl rfl (by kernel_rfl) Tryz.underlying4 (by kernel_rfl) hW' hval
  (by rw [Tryz.tys12]; exact (by
   have h := (encA_a agg26 e0 (encA_o agg64 e1 (encA_o agg29 e2 encA_0)))
   simp only [List.append_assoc] at h
   exact h)) hr
theorem ReachLeast_holds : Rows.ReachLeastSaid :=
 OpenClaim.holds_of_wide 12 Tryz.f12 rfl rfl rfl rfl rfl rfl rfl ⟨rfl, rfl, rfl, rfl, rfl⟩ rfl rfl rfl rfl rfl (by kernel_rfl) Tryz.func12 (by kernel_rfl)
  (of_decide_eq_true (by kernel_rfl)) (by unfold Func.isWrapper; first | (rw [if_pos (by decide +kernel)]; kernel_rfl) | (rw [if_neg (by decide +kernel)]; exact ⟨rfl, rfl⟩))
  (fun os started H enc _ => ReachLeast_lifted os started H enc)
end Go.Proofs.YtfhiejgoemcelaaGreat
