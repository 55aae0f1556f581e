/- The statement mistlaw13.ReachSound: in each world the cell of each operation is in its reach, and in the one that any proof lists for it; without conditions. -/
import Derived.Test.YtfhiejgoemcelaaGreatPf
set_option linter.constructorNameAsVariable false
set_option linter.unusedVariables false
set_option linter.unusedSimpArgs false
set_option linter.unusedSectionVars false
namespace Go.Proofs.YtfhiejgoemcelaaGreat
open Go Tw Pv
section
variable {c : C}
theorem Rdy.csm (h : Rdy c) : c.cs.length ≤ most := sm60 (Nat.le_trans h.cs (by decide))
theorem Rdy.osm (h : Rdy c) : c.os.length ≤ most := sm60 h.os
theorem Rdy.rsm (h : Rdy c) : c.rs.length ≤ most := sm60 h.rs
theorem Rdy.mne (h : Rdy c) : S_rMany c ≠ 0 := by rw [h.many]; have := h.pos; omega
theorem Rdy.szk (h : Rdy c) : ∀ k ∈ c.cs, szK k ≠ 0 := fun k hk => by rw [(core_k h.ok k hk).n.1]; have := (core_k h.ok k hk).n.2.1; omega
theorem Rdy.ofl (h : Rdy c) : (S_Of c).1.length = c.os.length := by rw [h.of.1]; exact rOf_ln
theorem Rdy.ofm (h : Rdy c) : (S_Of c).1.length ≤ most := by rw [h.ofl]; exact h.osm
theorem Rdy.of0 (h : Rdy c) : ((S_Of c).2 != 0) = false := by rw [h.of.1]; rfl
theorem Rdy.cells (h : Rdy c) {n : Nat} (hn : n ≤ 1000000) : S_cells c (nthW c (n : Int)) = (S_rAll c (nthW c (n : Int)), true) := by
 unfold S_cells
 simp [h.all hn, rAll_len]
theorem Rdy.goodOf (h : Rdy c) : ∀ b ∈ (S_Of c).1, Good b := by rw [h.of.1]; exact h.of.2
theorem Rdy.memOf (h : Rdy c) {n : Nat} (hn : n ≤ 1000000) : ∀ i, i < c.os.length → Mem ((S_Of c).1.getD i B0) ((S_rAll c (nthW c (n : Int))).getD i V0) := by
 rw [h.of.1]
 exact mem_of (h.world hn) h.of.2 fun i hi => by omega
theorem Rdy.wlen (h : Rdy c) {n : Nat} (hn : n ≤ 1000000) : (nthW c (n : Int)).length ≤ most := by rw [(h.world hn).len]; exact h.csm
theorem Rdy.rule (h : Rdy c) : ∀ (i : Nat) (o : O), c.os[i]? = some o → RuleOk o i c.cs.length := fun i o ho => (h.cc.rule i o ho).1
end
noncomputable def oc10 : Orc gam := orcF 10 (a3 cA hA hsA) tA (fun _ => true) (fun p => [0 ≤ p.2.1 ∧ p.2.1 < 65536, ∀ w ∈ p.2.2, 0 ≤ w ∧ w < 65536]) oc45
theorem gc10 : Gd oc10 := gc45.add fun n hO p hp => by
 obtain ⟨c, k, ws⟩ := p
 have hk : 0 ≤ k ∧ k < 65536 := hp _ (.head _)
 have hw : ∀ w ∈ ws, 0 ≤ w ∧ w < 65536 := hp _ (.tail _ (.head _))
 cases hr : S_ready c with
 | false => exact fn_is hX hO (by kernel_rfl) (.b (show (!S_ready c) = true by rw [hr]; rfl) .rr)
 | true =>
  have R := ready_rdy hr
  obtain ⟨m, hm, hm2⟩ := R.wnum hk.1 hk.2
  have hm3 : m ≤ 1000000 := by have := R.few; omega
  have hcl : S_cells c (nthW c (S_wnum c k)) = (S_rAll c (nthW c (m : Int)), true) := by rw [hm]; exact R.cells hm3
  have hvg := vgood_all (R.world hm3)
  have hW := widened_wd R.goodOf R.ofm hw
  have hP : Proof c (S_closed c (S_widened (S_Of c).1 ws)) := closed_proof R.cc hW.good
  have hl1 : (S_Of c).1.length = (S_cells c (nthW c (S_wnum c k))).1.length := by rw [hcl, R.ofl, rAll_len]
  have hb1 : (!S_lall (S_Of c).1 (S_cells c (nthW c (S_wnum c k))).1) = false := by
   rw [hcl, (lall_mem hvg (by rw [R.ofl, rAll_len])).2 fun i hi => R.memOf hm3 i (by rw [← R.ofl]; exact hi)]; rfl
  have hl2 : (S_closed c (S_widened (S_Of c).1 ws)).length = (S_cells c (nthW c (S_wnum c k))).1.length := by rw [hcl, closed_len, rAll_len]
  have hm4 : (S_closed c (S_widened (S_Of c).1 ws)).length ≤ most := by rw [closed_len]; exact R.osm
  have hb2 : S_Prove c (S_closed c (S_widened (S_Of c).1 ws)) = true := (prove_proof R (good_255 hP.2.1)).2 hP
  have hb3 : S_lall (S_closed c (S_widened (S_Of c).1 ws)) (S_cells c (nthW c (S_wnum c k))).1 = true := by
   rw [hcl]; exact (lall_mem hvg (by rw [closed_len, rAll_len])).2 fun i hi => mem_proof (R.world hm3) hP i (by rw [← closed_len]; exact hi)
  exact fn_is hX hO (by kernel_rfl) (.b (show (!S_ready c) = false by rw [hr]; rfl) <| .o R.csm <| .o R.osm <| .o R.rsm <|
   .o R.csm <| .o R.mne <| .o R.szk <| .o R.csm <| .o R.osm <| .o R.rsm <| .o (show (nthW c (S_wnum c k)).length ≤ most by rw [hm]; exact R.wlen hm3) <|
   .b R.of0 <| .b (show (!(S_cells c (nthW c (S_wnum c k))).2) = false by rw [hcl]; rfl) <| .o R.ofm <| .o hl1 <| .b hb1 <|
   .o R.ofm <| .o hw <| .o R.osm <| .o (show (S_widened (S_Of c).1 ws).length = c.os.length by rw [hW.1, R.ofl]) <| .o R.rule <|
   .o R.csm <| .o R.osm <| .o R.rsm <| .o hm4 <| .o hm4 <| .b hb2 <| .o hm4 <| .o hl2 <| .b hb3 <| .rr)
end Go.Proofs.YtfhiejgoemcelaaGreat
namespace Go.Proofs.YtfhiejgoemcelaaGreat
open Go Tw Pv Go.ChangeShapes Go.WideShapes Go.ChangeAt Go.RowKit
theorem Tryz.tys10 : Tryz.f10.params.toList = [26, 63, 64] := by kernel_rfl
set_option maxRecDepth 100000 in
theorem ReachSound_lifted (os : Os) (started : os.Started) (H : Type) (enc : TypeId × Value → H) :
  ReturnsInHanded {} Tryz.checked os 10 .any (Rows.reachSoundSpec.pre6 enc Tryz.prog Tryz.f10 Rows.reachSoundRow.domain false) (Rows.reachSoundSpec.post enc Tryz.prog Tryz.f10 false true false false) := by
 refine returnsInHanded_of_change (C := Tryz.checked) Tryz.own started (by kernel_rfl) Tryz.func10
  (ChangeSpec.witness6 (enc := enc) (C := Tryz.checked) false ⟨#[], #[.agg #[.slice none 0 0, .slice none 0 0, .slice none 0 0], .int .u16 0, .slice none 0 0], []⟩ 8 (by kernel_rfl) (by kernel_rfl) (by kernel_rfl) (by kernel_rfl)) ?_
 intro W base args ds gs before hval0 hW hcnd _
 have hval : ∀ (j : Nat) t v, Tryz.f10.params[j]? = some t → args[j]? = some v → Value.okWide Tryz.prog W .any base t v := hval0
 have hW' := hW
 obtain ⟨p, q, hTA0, hV, rfl, hfz, hnd⟩ := hW
 have hTA : DataW.TrodAll enc Tryz.prog W 0 (fun _ => true) true Tryz.f10.params.toList args.toList ds p := hTA0
 obtain ⟨rfl, rfl⟩ := trodVars_none hV
 rw [Tryz.tys10] at hTA
 obtain ⟨d0, d1, d2, rfl, r0, r1, r2⟩ := trodAll_3 hTA
 obtain ⟨c, _, hc⟩ := rd_coreV (g := 2) r0
 obtain ⟨xc, xo, xr, ext0, e0, v0⟩ := hc []
 simp only [List.nil_append] at e0 v0
 obtain ⟨k1, hk1, e1⟩ := rd_u16 (g := 5) r1
 obtain ⟨l2, hl2, hc2⟩ := rd_hs (g := 4) r2
 obtain ⟨x2, ext2, e2, v2⟩ := hc2 (ext0)
 have w0 := v0 (ext2)
 have w2 := v2 ([])
 rw [List.append_nil] at w2
 obtain ⟨N, hN⟩ := gc10
 have hcon := hN (N + 1) (by omega) 10 ((a3 cA hA hsA).put (c, k1, l2)) (tA.put true) [] [0 ≤ k1 ∧ k1 < 65536, ∀ w ∈ l2, 0 ≤ w ∧ w < 65536] rfl (by
  intro p hp
  simp only [List.mem_cons, List.not_mem_nil, or_false] at hp
  rcases hp with rfl | rfl
  ·exact hk1
  ·exact hl2)
 obtain ⟨h', hr⟩ := run_of (xs := [.agg [xc, xo, xr], .int .u16 k1, x2]) (h := ext0 ++ ext2) hcon (.cons (.agg w0.1 w0.2) (.cons (.int _ _) (.cons w2 .nil)))
 exact law_callsN (P := Tryz.prog) (T := T) (L := LL) (n := N) (g := 6) Tryz.mixed Tryz.laidOut rfl rfl (by kernel_rfl) Tryz.underlying4 (by kernel_rfl) hW' hval
  (by rw [Tryz.tys10]; exact (encA_a agg26 e0 (encA_o agg63 (e1 _) (encA_o agg64 e2 encA_0)))) hr
theorem ReachSound_holds : Rows.ReachSoundSaid :=
 OpenClaim.holds_of_wide 10 Tryz.f10 rfl rfl rfl rfl rfl rfl rfl ⟨rfl, rfl, rfl, rfl, rfl⟩ rfl rfl rfl rfl rfl (by kernel_rfl) Tryz.func10 (by kernel_rfl)
  (of_decide_eq_true (by kernel_rfl)) (by unfold Func.isWrapper; first | (rw [if_pos (by decide +kernel)]; kernel_rfl) | (rw [if_neg (by decide +kernel)]; exact ⟨rfl, rfl⟩))
  (fun os started H enc _ => ReachSound_lifted os started H enc)
end Go.Proofs.YtfhiejgoemcelaaGreat
