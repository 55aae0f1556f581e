/- The statement mistlaw13.ReachSafe: no cell is in any world a fault that Never returns; operations without faults of their own keep what their operands never are; without conditions. -/
import Derived.Test.YtfhiejgoemcelaaGreatPf
set_option linter.constructorNameAsVariable false
set_option linter.unusedVariables false
set_option linter.unusedSimpArgs false
set_option linter.unusedSectionVars false
namespace Go.Proofs.YtfhiejgoemcelaaGreat
open Go Tw Pv
section
variable {c : C}
theorem Rdy.csm (h : Rdy c) : c.cs.length ≤ most := sm60 (Nat.le_trans h.cs (by decide))
theorem Rdy.osm (h : Rdy c) : c.os.length ≤ most := sm60 h.os
theorem Rdy.rsm (h : Rdy c) : c.rs.length ≤ most := sm60 h.rs
theorem Rdy.mne (h : Rdy c) : S_rMany c ≠ 0 := by rw [h.many]; have := h.pos; omega
theorem Rdy.szk (h : Rdy c) : ∀ k ∈ c.cs, szK k ≠ 0 := fun k hk => by rw [(core_k h.ok k hk).n.1]; have := (core_k h.ok k hk).n.2.1; omega
theorem Rdy.ofl (h : Rdy c) : (S_Of c).1.length = c.os.length := by rw [h.of.1]; exact rOf_ln
theorem Rdy.of0 (h : Rdy c) : ((S_Of c).2 != 0) = false := by rw [h.of.1]; rfl
theorem Rdy.cells (h : Rdy c) {n : Nat} (hn : n ≤ 1000000) : S_cells c (nthW c (n : Int)) = (S_rAll c (nthW c (n : Int)), true) := by
 unfold S_cells
 simp [h.all hn, rAll_len]
theorem Rdy.memOf (h : Rdy c) {n : Nat} (hn : n ≤ 1000000) : ∀ i, i < c.os.length → Mem ((S_Of c).1.getD i B0) ((S_rAll c (nthW c (n : Int))).getD i V0) := by
 rw [h.of.1]
 exact mem_of (h.world hn) h.of.2 fun i hi => by omega
theorem Rdy.wlen (h : Rdy c) {n : Nat} (hn : n ≤ 1000000) : (nthW c (n : Int)).length ≤ most := by rw [(h.world hn).len]; exact h.csm
theorem Rdy.rule (h : Rdy c) : ∀ (i : Nat) (o : O), c.os[i]? = some o → RuleOk o i c.cs.length := fun i o ho => (h.cc.rule i o ho).1
end
end Go.Proofs.YtfhiejgoemcelaaGreat
namespace Go.Proofs.YtfhiejgoemcelaaGreat
open Go Tw Pv
theorem rem_in {x : Int} {n : Nat} (h0 : 0 ≤ x) (hn : 0 < n) (hm : n ≤ 60) : ∃ q : Nat, remI .i64 x (n : Nat) = q ∧ q < n := by
 have a1 := Int.tmod_nonneg (n : Int) h0
 have a2 := Int.tmod_lt_of_pos x (b := (n : Int)) (by omega)
 refine ⟨(x.tmod n).toNat, ?_, by omega⟩
 unfold remI
 omega
end Go.Proofs.YtfhiejgoemcelaaGreat
namespace Go.Proofs.YtfhiejgoemcelaaGreat
open Go Tw Pv
theorem fb_andn {x y f : Int} (f1 : 1 ≤ f) (f2 : f ≤ 4) : FB (andnI .u8 x y) f ↔ FB x f ∧ ¬ FB y f := by
 unfold FB
 rw [andn8_bv, bv_nat, BitVec.getLsbD_and, BitVec.getLsbD_not, decide_eq_true (show (f - 1).toNat < 8 by omega)]
 simp
theorem fb_15 {f : Int} (f1 : 1 ≤ f) (f2 : f ≤ 4) : FB 15 f := by
 unfold FB
 rcases four f1 f2 with rfl | rfl | rfl | rfl <;> decide
theorem andn_15 (y : Int) : 0 ≤ andnI .u8 15 y ∧ andnI .u8 15 y ≤ 15 := by
 rw [andn8_bv, BitVec.toNat_and]
 have h : (bv 15).toNat &&& (~~~bv y).toNat ≤ (bv 15).toNat := Nat.and_le_left
 have e : (bv 15).toNat = 15 := by decide
 omega
theorem pick_f {a p q : B} {f : Int} (h : FB (pickM a p q).f f) : FB a.f f ∨ FB p.f f ∨ FB q.f f := by
 unfold pickM at h
 split at h
 ·split at h
  ·rcases hull_f'.1 h with h | h
   ·rcases hull_f'.1 h with h | h
    ·exact .inl h
    ·exact .inr (.inl h)
   ·exact .inr (.inr h)
  ·rcases hull_f'.1 h with h | h
   ·exact .inl h
   ·exact .inr (.inl h)
 ·split at h
  ·rcases hull_f'.1 h with h | h
   ·exact .inl h
   ·exact .inr (.inr h)
  ·exact .inl h
theorem rule_f {c : C} {l : List B} {o : O} {f : Int} (hc : o.code = 5 ∨ o.code = 6 ∨ 12 ≤ o.code ∧ o.code ≤ 17) (f1 : 1 ≤ f) (f2 : f ≤ 4) (h : FB (S_rRule c l o).f f) : FB (La l o).f f ∨ (12 ≤ o.code ∧ FB (Lb l o).f f) ∨ (o.code = 17 ∧ FB (Lc l o).f f) := by
 have h5 : 5 ≤ o.code := by omega
 by_cases hn : (La l o).lo ≤ (La l o).hi
 ·have hk : o.code = 5 ∨ o.code = 6 ∨ (12 ≤ o.code ∧ o.code ≤ 14) ∨ o.code = 15 ∨ o.code = 16 ∨ o.code = 17 := by omega
  rcases hk with k | k | k | k | k | k
  ·rw [rr_5 k hn] at h; exact .inl h
  ·rw [rr_6 k hn] at h
   rcases pick_f h with h | h | h
   ·exact .inl h
   ·exact absurd h fb_0
   ·exact absurd h fb_0
  ·rw [rr_p (by omega) k.2 hn] at h
   by_cases hb : (Lb l o).lo ≤ (Lb l o).hi
   ·rcases ((pair_some hb).2.2 f f1 f2).1 h with h | h | h
    ·have z : (pairM o.code (La l o) (Lb l o)).f = 0 := by
      have : o.code = 12 ∨ o.code = 13 ∨ o.code = 14 := by omega
      rcases this with e | e | e <;> rw [e]
      ·show (S_eq (La l o) (Lb l o)).f = 0
       rw [eq_truth]; exact truth_f _ _
      ·exact truth_f _ _
      ·exact truth_f _ _
     rw [z] at h; exact absurd h fb_0
    ·omega
    ·exact h.imp id fun h => .inl ⟨k.1, h⟩
   ·rw [pair_none hb] at h
    exact (fb_or.1 h).imp id fun h => .inl ⟨k.1, h⟩
  ·rw [rr_15 k hn] at h
   rcases pick_f h with h | h | h
   ·exact .inl h
   ·exact .inr (.inl ⟨by omega, h⟩)
   ·exact absurd h fb_0
  ·rw [rr_16 k hn] at h
   rcases pick_f h with h | h | h
   ·exact .inl h
   ·exact absurd h fb_0
   ·exact .inr (.inl ⟨by omega, h⟩)
  ·rw [rr_17 k hn] at h
   rcases pick_f h with h | h | h
   ·exact .inl h
   ·exact .inr (.inl ⟨by omega, h⟩)
   ·exact .inr (.inr ⟨k, h⟩)
 ·rw [rr_n h5 hn] at h; exact .inl h
abbrev nv (c : C) (x : Int) : Int × Int := S_Never (S_Of c).2 (S_Of c).1 x
theorem Rdy.never {c : C} (R : Rdy c) {x : Int} (h0 : 0 ≤ x) (h1 : x < c.os.length) : nv c x = (andnI .u8 15 ((S_rOf c (-1) B0).getD x.toNat B0).f, 0) := by
 unfold nv S_Never
 rw [if_neg (by rw [R.of0]; simp), if_neg (by simp; omega), if_neg (by simp [R.ofl]; omega), R.of.1]
def gNv (c : C) (s : Int) (x : Int) : Int := andI .u8 s (nv c x).1
theorem gNv_f {c : C} {f : Int} : ∀ (xs : List Int) (s : Int), FB (xs.foldl (gNv c) s) f → FB s f ∧ ∀ x ∈ xs, FB (nv c x).1 f
 | [], s, h => ⟨h, by simp⟩
 | x :: xs, s, h => by
  obtain ⟨h1, h2⟩ := gNv_f xs _ h
  obtain ⟨h3, h4⟩ := fb_and.1 h1
  refine ⟨h3, fun y hy => ?_⟩
  rcases List.mem_cons.1 hy with rfl | hy
  ·exact h4
  ·exact h2 y hy
theorem gNv_15 {c : C} : ∀ (xs : List Int) (s : Int), 0 ≤ s → s ≤ 15 → 0 ≤ xs.foldl (gNv c) s ∧ xs.foldl (gNv c) s ≤ 15
 | [], s, h0, h1 => ⟨h0, h1⟩
 | x :: xs, s, h0, h1 => by
  have := and8_15 (y := (nv c x).1) h0 h1
  exact gNv_15 xs _ this.1 this.2
abbrev w15 (c : C) (j : Nat) (H : List (PB gam)) (m : Int) (xs : List Int) (r : Int) (i : Int) (x : List (Nat × PE gam)) : PSt gam := ⟨[(3, .loc 0 0), (9, xu m), (14, xu r), (15, .val (.own j)), (16, xi i)] ++ x, [xC c], H ++ [.list false false 3 xs]⟩
theorem l15 {n : Nat} (hO : Ok n oc46) (c : C) (R : Rdy c) (o : O) (m : Int) (xs : List Int) (hm : xs.length ≤ most) (hx : ∀ x ∈ xs, 0 ≤ x ∧ x < c.os.length) : Lp n 15 0 ⟨[(3, .loc 0 0), (9, xu m), (14, xu 15), (15, .val (.own 0)), (16, xi 0)], [xC c, o.ps], [] ++ [.list false false 3 xs]⟩ (.exit 0) (w15 c 0 [] m xs (xs.foldl (gNv c) 15) xs.length [(122, xl false)]) := by
 refine eachF (X := X0) (P := Tryz.prog) (T := T) (call := ApN n) (L := LL) (f := 15) (rnd := false) (nt := ntP Tryz.prog 15) (B := 0) (b := bodyP Tryz.prog 15 0) (0 : Int) (l := xs) (s0 := (15 : Int)) (st := fun i s => w15 c 0 [] m xs s i []) (g := gNv c) (fin := fun s => w15 c 0 [] m xs s xs.length [(122, xl false)]) (by kernel_rfl) hm LLm (fun k s hk hs n e p hr => ?_) (fun s hs => round hX hO (by kernel_rfl) (.b (lt_no xs.length) .ex))
 have hxk := hx _ (mem_at hk 0)
 have b1 : ((nv c (xs.getD k 0)).2 != 0) = false := by rw [R.never hxk.1 hxk.2]; rfl
 exact round hX hO (by kernel_rfl) (.b (lt_nat hk) <| .o R.csm <| .o R.osm <| .o R.rsm <| .o (inR_nat hk) <| .b b1 <| .goG [.gc [0]] hr)
def opnds (o : O) : List Int := if (decide (o.code ≥ 12)) = true then (if (o.code == 17) = true then [o.a, o.b, o.c] else [o.a, o.b]) else (if (o.code == 17) = true then [o.a, o.c] else [o.a])
theorem safe_0 {c : C} (R : Rdy c) {i : Nat} {o : O} (ho : c.os[i]? = some o) (h1 : decide (o.code < 5) = false) (h2 : decide (o.code ≥ 7) = true → decide (o.code ≤ 11) = false) :
  (∀ x ∈ opnds o, 0 ≤ x ∧ x < c.os.length) ∧ (andnI .u8 ((opnds o).foldl (gNv c) 15) (nv c (i : Int)).1 == 0) = true := by
 have hi : i < c.os.length := (List.getElem?_eq_some_iff.1 ho).1
 have hk := (R.cc.rule i o ho).1
 simp only [decide_eq_false_iff_not, decide_eq_true_eq] at h1 h2
 have k2 := hk.hi
 have hc : o.code = 5 ∨ o.code = 6 ∨ 12 ≤ o.code ∧ o.code ≤ 17 := by omega
 have ha := hk.a (by omega)
 have hb : 12 ≤ o.code → 0 ≤ o.b ∧ o.b < i := fun h => hk.b (by omega)
 have hcc : o.code = 17 → 0 ≤ o.c ∧ o.c < i := fun h => hk.c h
 have hin : ∀ x, x ∈ opnds o ↔ x = o.a ∨ (12 ≤ o.code ∧ x = o.b) ∨ (o.code = 17 ∧ x = o.c) := fun x => by
  unfold opnds
  by_cases c1 : o.code ≥ 12
  ·rw [if_pos (by simpa using c1)]
   by_cases c2 : o.code = 17
   ·rw [if_pos (by simpa using c2)]; simp [c1, c2]
   ·rw [if_neg (by simpa using c2)]; simp [c2]; omega
  ·rw [if_neg (by simpa using c1), if_neg (by simp; omega)]; simp; omega
 have hrng : ∀ x ∈ opnds o, 0 ≤ x ∧ x < c.os.length := fun x hx => by
  rcases (hin x).1 hx with h | h | h
  ·omega
  ·have := hb h.1; omega
  ·have := hcc h.1; omega
 refine ⟨hrng, ?_⟩
 have r15 := gNv_15 (c := c) (opnds o) 15 (by decide) (by decide)
 simp only [beq_iff_eq]
 rw [andn_0 r15.1 r15.2]
 intro f f1 f2 hf
 obtain ⟨_, hall⟩ := gNv_f (opnds o) 15 hf
 rw [R.never (by omega) (by omega), Int.toNat_natCast, fb_andn f1 f2]
 refine ⟨fb_15 f1 f2, fun g => ?_⟩
 rw [of_at1 R.cc ho] at g
 have no : ∀ x, x ∈ opnds o → ¬ FB ((S_rOf c (-1) B0).getD x.toNat B0).f f := fun x hx => by
  have h := hall x hx
  rw [R.never (hrng x hx).1 (hrng x hx).2, fb_andn f1 f2] at h
  exact h.2
 rcases rule_f hc f1 f2 g with h | h | h
 ·exact no o.a ((hin _).2 (.inl rfl)) h
 ·exact no o.b ((hin _).2 (.inr (.inl ⟨h.1, rfl⟩))) h.2
 ·exact no o.c ((hin _).2 (.inr (.inr ⟨h.1, rfl⟩))) h.2
noncomputable def oc15 : Orc gam := orcF 15 (a3 cA uA hA) tA (fun _ => true) (fun p => [0 ≤ p.2.1 ∧ p.2.1 < 256, 0 ≤ p.2.2 ∧ p.2.2 < 65536]) oc46
set_option maxRecDepth 10000 in
theorem gc15 : Gd oc15 := gc46.add fun n hO p hp => by
 obtain ⟨c, at_, k⟩ := p
 have hat : 0 ≤ at_ ∧ at_ < 256 := hp _ (.head _)
 have hk : 0 ≤ k ∧ k < 65536 := hp _ (.tail _ (.head _))
 cases hr : S_ready c with
 | false => exact fn_is hX hO (by kernel_rfl) (.b (show (!S_ready c) = true by rw [hr]; rfl) .rr)
 | true =>
  have b0 : (!S_ready c) = false := by rw [hr]; rfl
  have R := ready_rdy hr
  cases e0 : (((c.os.length : Nat) : Int) == 0) with
  | true => exact fn_is hX hO (by kernel_rfl) (.b b0 (.b e0 .rr))
  | false =>
   have hne : c.os.length ≠ 0 := by simp at e0; simpa using e0
   have nne : ((c.os.length : Nat) : Int) ≠ 0 := by omega
   have hwr : IntKind.i64.wrap at_ = at_ := wr (by omega) (by omega)
   obtain ⟨q, hq, hql⟩ := rem_in (x := IntKind.i64.wrap at_) (n := c.os.length) (by rw [hwr]; exact hat.1) (by omega) R.os
   obtain ⟨m, hm, hm2⟩ := R.wnum hk.1 hk.2
   have hm3 : m ≤ 1000000 := by have := R.few; omega
   have hcl : S_cells c (nthW c (S_wnum c k)) = (S_rAll c (nthW c (m : Int)), true) := by rw [hm]; exact R.cells hm3
   have hvg := vgood_all (R.world hm3)
   have hVl : (S_cells c (nthW c (S_wnum c k))).1.length = c.os.length := by rw [hcl, rAll_len]
   have isb : (!(S_cells c (nthW c (S_wnum c k))).2) = false := by rw [hcl]; rfl
   have wl : (nthW c (S_wnum c k)).length ≤ most := by rw [hm]; exact R.wlen hm3
   have iO : inR (remI .i64 (IntKind.i64.wrap at_) (c.os.length : Nat)) c.os.length := by rw [hq]; exact inR_nat hql
   have iV : inR (remI .i64 (IntKind.i64.wrap at_) (c.os.length : Nat)) (S_cells c (nthW c (S_wnum c k))).1.length := by rw [hVl]; exact iO
   have hnv := R.never (x := (q : Int)) (by omega) (by omega)
   have n2 : ((nv c (remI .i64 (IntKind.i64.wrap at_) (c.os.length : Nat))).2 != 0) = false := by rw [hq, hnv]; rfl
   have n15 : decide ((nv c (remI .i64 (IntKind.i64.wrap at_) (c.os.length : Nat))).1 > 15) = false := by rw [hq, hnv]; have := andn_15 ((S_rOf c (-1) B0).getD (q : Int).toNat B0).f; exact decide_eq_false (by omega)
   have ho := getD_at hql O0
   have b5 : (((S_cells c (nthW c (S_wnum c k))).1.getD (remI .i64 (IntKind.i64.wrap at_) (c.os.length : Nat)).toNat V0).f != 0) = true → (andI .u8 (nv c (remI .i64 (IntKind.i64.wrap at_) (c.os.length : Nat))).1 (S_bit ((S_cells c (nthW c (S_wnum c k))).1.getD (remI .i64 (IntKind.i64.wrap at_) (c.os.length : Nat)).toNat V0).f) != 0) = false := fun hf => by
    rw [hcl, hq, Int.toNat_natCast] at hf ⊢
    have vg := vgood_at hvg q
    have f0 := vg.f0
    have hf : ((S_rAll c (nthW c (m : Int))).getD q V0).f ≠ 0 := by simpa using hf
    have mm := R.memOf hm3 q hql
    rw [R.of.1] at mm
    rw [hnv, Int.toNat_natCast]
    cases hx : (andI .u8 (andnI .u8 15 ((S_rOf c (-1) B0).getD q B0).f, (0 : Int)).1 (S_bit ((S_rAll c (nthW c (m : Int))).getD q V0).f) != 0) with
    | false => rfl
    | true =>
     have h1 := (and_bit (by omega) vg.f1).1 hx
     rw [fb_andn (by omega) vg.f1] at h1
     exact absurd (mm.f hf) h1.2
   have hs := safe_0 R ho
   have eo : c.os.getD (remI .i64 (IntKind.i64.wrap at_) (c.os.length : Nat)).toNat O0 = c.os.getD q O0 := by rw [hq, Int.toNat_natCast]
   rw [← eo, ← hq] at hs
   have m1 : ∀ a : Int, [a].length ≤ most := fun _ => by show 1 ≤ most; unfold most; decide
   have m2 : ∀ a b : Int, [a, b].length ≤ most := fun _ _ => by show 2 ≤ most; unfold most; decide
   have m3 : ∀ a b d : Int, [a, b, d].length ≤ most := fun _ _ _ => by show 3 ≤ most; unfold most; decide
   cases c2 : (((S_cells c (nthW c (S_wnum c k))).1.getD (remI .i64 (IntKind.i64.wrap at_) (c.os.length : Nat)).toNat V0).f != 0) with
   | true =>
    cases k5 : decide ((c.os.getD (remI .i64 (IntKind.i64.wrap at_) (c.os.length : Nat)).toNat O0).code < 5) with
    | true =>
     exact fn_is hX hO (by kernel_rfl) (.b b0 <| .b e0 <| .o nne <| .o iO <| .o R.csm <| .o R.osm <| .o R.rsm <| .o R.csm <| .o R.mne <| .o R.szk <| .o R.csm <| .o R.osm <| .o R.rsm <| .o wl <| .b n2 <| .b isb <| .b n15 <| .o iV <| .b c2 <| .o iV <| .o (u8_nn (((S_cells c (nthW c (S_wnum c k))).1.getD (remI .i64 (IntKind.i64.wrap at_) (c.os.length : Nat)).toNat V0).f - 1)) <| .b (b5 c2) <| .b k5 .rr)
    | false =>
     cases k7 : decide ((c.os.getD (remI .i64 (IntKind.i64.wrap at_) (c.os.length : Nat)).toNat O0).code ≥ 7) with
     | true =>
      cases k11 : decide ((c.os.getD (remI .i64 (IntKind.i64.wrap at_) (c.os.length : Nat)).toNat O0).code ≤ 11) with
      | true =>
       exact fn_is hX hO (by kernel_rfl) (.b b0 <| .b e0 <| .o nne <| .o iO <| .o R.csm <| .o R.osm <| .o R.rsm <| .o R.csm <| .o R.mne <| .o R.szk <| .o R.csm <| .o R.osm <| .o R.rsm <| .o wl <| .b n2 <| .b isb <| .b n15 <| .o iV <| .b c2 <| .o iV <| .o (u8_nn (((S_cells c (nthW c (S_wnum c k))).1.getD (remI .i64 (IntKind.i64.wrap at_) (c.os.length : Nat)).toNat V0).f - 1)) <| .b (b5 c2) <| .b k5 <| .b k7 <| .b k11 .rr)
      | false =>
       have k12 : decide ((c.os.getD (remI .i64 (IntKind.i64.wrap at_) (c.os.length : Nat)).toNat O0).code ≥ 12) = true := by simp only [decide_eq_true_eq, decide_eq_false_iff_not] at k7 k11 ⊢; omega
       cases k17 : ((c.os.getD (remI .i64 (IntKind.i64.wrap at_) (c.os.length : Nat)).toNat O0).code == 17) with
       | true =>
        have hs := hs k5 fun _ => k11
        have eop : opnds (c.os.getD (remI .i64 (IntKind.i64.wrap at_) (c.os.length : Nat)).toNat O0) = [(c.os.getD (remI .i64 (IntKind.i64.wrap at_) (c.os.length : Nat)).toNat O0).a, (c.os.getD (remI .i64 (IntKind.i64.wrap at_) (c.os.length : Nat)).toNat O0).b, (c.os.getD (remI .i64 (IntKind.i64.wrap at_) (c.os.length : Nat)).toNat O0).c] := by unfold opnds; rw [k12, k17]; rfl
        rw [eop] at hs
        exact fn_is hX hO (by kernel_rfl) (.b b0 <| .b e0 <| .o nne <| .o iO <| .o R.csm <| .o R.osm <| .o R.rsm <| .o R.csm <| .o R.mne <| .o R.szk <| .o R.csm <| .o R.osm <| .o R.rsm <| .o wl <| .b n2 <| .b isb <| .b n15 <| .o iV <| .b c2 <| .o iV <| .o (u8_nn (((S_cells c (nthW c (S_wnum c k))).1.getD (remI .i64 (IntKind.i64.wrap at_) (c.os.length : Nat)).toNat V0).f - 1)) <| .b (b5 c2) <| .b k5 <| .b k7 <| .b k11 <| .b k12 <| .o (m2 (c.os.getD (remI .i64 (IntKind.i64.wrap at_) (c.os.length : Nat)).toNat O0).a (c.os.getD (remI .i64 (IntKind.i64.wrap at_) (c.os.length : Nat)).toNat O0).b) <| .b k17 <| .o (m3 (c.os.getD (remI .i64 (IntKind.i64.wrap at_) (c.os.length : Nat)).toNat O0).a (c.os.getD (remI .i64 (IntKind.i64.wrap at_) (c.os.length : Nat)).toNat O0).b (c.os.getD (remI .i64 (IntKind.i64.wrap at_) (c.os.length : Nat)).toNat O0).c) <| .wG [.flag 4, .gc [4]] (l15 hO c R (c.os.getD (remI .i64 (IntKind.i64.wrap at_) (c.os.length : Nat)).toNat O0) (nv c (remI .i64 (IntKind.i64.wrap at_) (c.os.length : Nat))).1 _ (m3 _ _ _) hs.1) <| .b hs.2 .rr)
       | false =>
        have hs := hs k5 fun _ => k11
        have eop : opnds (c.os.getD (remI .i64 (IntKind.i64.wrap at_) (c.os.length : Nat)).toNat O0) = [(c.os.getD (remI .i64 (IntKind.i64.wrap at_) (c.os.length : Nat)).toNat O0).a, (c.os.getD (remI .i64 (IntKind.i64.wrap at_) (c.os.length : Nat)).toNat O0).b] := by unfold opnds; rw [k12, k17]; rfl
        rw [eop] at hs
        exact fn_is hX hO (by kernel_rfl) (.b b0 <| .b e0 <| .o nne <| .o iO <| .o R.csm <| .o R.osm <| .o R.rsm <| .o R.csm <| .o R.mne <| .o R.szk <| .o R.csm <| .o R.osm <| .o R.rsm <| .o wl <| .b n2 <| .b isb <| .b n15 <| .o iV <| .b c2 <| .o iV <| .o (u8_nn (((S_cells c (nthW c (S_wnum c k))).1.getD (remI .i64 (IntKind.i64.wrap at_) (c.os.length : Nat)).toNat V0).f - 1)) <| .b (b5 c2) <| .b k5 <| .b k7 <| .b k11 <| .b k12 <| .o (m2 (c.os.getD (remI .i64 (IntKind.i64.wrap at_) (c.os.length : Nat)).toNat O0).a (c.os.getD (remI .i64 (IntKind.i64.wrap at_) (c.os.length : Nat)).toNat O0).b) <| .b k17 <| .wG [.flag 2, .gc [2]] (l15 hO c R (c.os.getD (remI .i64 (IntKind.i64.wrap at_) (c.os.length : Nat)).toNat O0) (nv c (remI .i64 (IntKind.i64.wrap at_) (c.os.length : Nat))).1 _ (m2 _ _) hs.1) <| .b hs.2 .rr)
     | false =>
      have k12 : decide ((c.os.getD (remI .i64 (IntKind.i64.wrap at_) (c.os.length : Nat)).toNat O0).code ≥ 12) = false := by simp only [decide_eq_true_eq, decide_eq_false_iff_not] at k7 ⊢; omega
      have k17 : ((c.os.getD (remI .i64 (IntKind.i64.wrap at_) (c.os.length : Nat)).toNat O0).code == 17) = false := by simp only [decide_eq_false_iff_not] at k7; simp only [beq_eq_false_iff_ne, ne_eq]; omega
      have hs := hs k5 fun h => (by rw [k7] at h; cases h)
      have eop : opnds (c.os.getD (remI .i64 (IntKind.i64.wrap at_) (c.os.length : Nat)).toNat O0) = [(c.os.getD (remI .i64 (IntKind.i64.wrap at_) (c.os.length : Nat)).toNat O0).a] := by unfold opnds; rw [k12, k17]; rfl
      rw [eop] at hs
      exact fn_is hX hO (by kernel_rfl) (.b b0 <| .b e0 <| .o nne <| .o iO <| .o R.csm <| .o R.osm <| .o R.rsm <| .o R.csm <| .o R.mne <| .o R.szk <| .o R.csm <| .o R.osm <| .o R.rsm <| .o wl <| .b n2 <| .b isb <| .b n15 <| .o iV <| .b c2 <| .o iV <| .o (u8_nn (((S_cells c (nthW c (S_wnum c k))).1.getD (remI .i64 (IntKind.i64.wrap at_) (c.os.length : Nat)).toNat V0).f - 1)) <| .b (b5 c2) <| .b k5 <| .b k7 <| .b k12 <| .b k17 <| .wG [.flag 0, .gc [0]] (l15 hO c R (c.os.getD (remI .i64 (IntKind.i64.wrap at_) (c.os.length : Nat)).toNat O0) (nv c (remI .i64 (IntKind.i64.wrap at_) (c.os.length : Nat))).1 _ (m1 _) hs.1) <| .b hs.2 .rr)
   | false =>
    cases k5 : decide ((c.os.getD (remI .i64 (IntKind.i64.wrap at_) (c.os.length : Nat)).toNat O0).code < 5) with
    | true =>
     exact fn_is hX hO (by kernel_rfl) (.b b0 <| .b e0 <| .o nne <| .o iO <| .o R.csm <| .o R.osm <| .o R.rsm <| .o R.csm <| .o R.mne <| .o R.szk <| .o R.csm <| .o R.osm <| .o R.rsm <| .o wl <| .b n2 <| .b isb <| .b n15 <| .o iV <| .b c2 <| .b k5 .rr)
    | false =>
     cases k7 : decide ((c.os.getD (remI .i64 (IntKind.i64.wrap at_) (c.os.length : Nat)).toNat O0).code ≥ 7) with
     | true =>
      cases k11 : decide ((c.os.getD (remI .i64 (IntKind.i64.wrap at_) (c.os.length : Nat)).toNat O0).code ≤ 11) with
      | true =>
       exact fn_is hX hO (by kernel_rfl) (.b b0 <| .b e0 <| .o nne <| .o iO <| .o R.csm <| .o R.osm <| .o R.rsm <| .o R.csm <| .o R.mne <| .o R.szk <| .o R.csm <| .o R.osm <| .o R.rsm <| .o wl <| .b n2 <| .b isb <| .b n15 <| .o iV <| .b c2 <| .b k5 <| .b k7 <| .b k11 .rr)
      | false =>
       have k12 : decide ((c.os.getD (remI .i64 (IntKind.i64.wrap at_) (c.os.length : Nat)).toNat O0).code ≥ 12) = true := by simp only [decide_eq_true_eq, decide_eq_false_iff_not] at k7 k11 ⊢; omega
       cases k17 : ((c.os.getD (remI .i64 (IntKind.i64.wrap at_) (c.os.length : Nat)).toNat O0).code == 17) with
       | true =>
        have hs := hs k5 fun _ => k11
        have eop : opnds (c.os.getD (remI .i64 (IntKind.i64.wrap at_) (c.os.length : Nat)).toNat O0) = [(c.os.getD (remI .i64 (IntKind.i64.wrap at_) (c.os.length : Nat)).toNat O0).a, (c.os.getD (remI .i64 (IntKind.i64.wrap at_) (c.os.length : Nat)).toNat O0).b, (c.os.getD (remI .i64 (IntKind.i64.wrap at_) (c.os.length : Nat)).toNat O0).c] := by unfold opnds; rw [k12, k17]; rfl
        rw [eop] at hs
        exact fn_is hX hO (by kernel_rfl) (.b b0 <| .b e0 <| .o nne <| .o iO <| .o R.csm <| .o R.osm <| .o R.rsm <| .o R.csm <| .o R.mne <| .o R.szk <| .o R.csm <| .o R.osm <| .o R.rsm <| .o wl <| .b n2 <| .b isb <| .b n15 <| .o iV <| .b c2 <| .b k5 <| .b k7 <| .b k11 <| .b k12 <| .o (m2 (c.os.getD (remI .i64 (IntKind.i64.wrap at_) (c.os.length : Nat)).toNat O0).a (c.os.getD (remI .i64 (IntKind.i64.wrap at_) (c.os.length : Nat)).toNat O0).b) <| .b k17 <| .o (m3 (c.os.getD (remI .i64 (IntKind.i64.wrap at_) (c.os.length : Nat)).toNat O0).a (c.os.getD (remI .i64 (IntKind.i64.wrap at_) (c.os.length : Nat)).toNat O0).b (c.os.getD (remI .i64 (IntKind.i64.wrap at_) (c.os.length : Nat)).toNat O0).c) <| .wG [.flag 4, .gc [4]] (l15 hO c R (c.os.getD (remI .i64 (IntKind.i64.wrap at_) (c.os.length : Nat)).toNat O0) (nv c (remI .i64 (IntKind.i64.wrap at_) (c.os.length : Nat))).1 _ (m3 _ _ _) hs.1) <| .b hs.2 .rr)
       | false =>
        have hs := hs k5 fun _ => k11
        have eop : opnds (c.os.getD (remI .i64 (IntKind.i64.wrap at_) (c.os.length : Nat)).toNat O0) = [(c.os.getD (remI .i64 (IntKind.i64.wrap at_) (c.os.length : Nat)).toNat O0).a, (c.os.getD (remI .i64 (IntKind.i64.wrap at_) (c.os.length : Nat)).toNat O0).b] := by unfold opnds; rw [k12, k17]; rfl
        rw [eop] at hs
        exact fn_is hX hO (by kernel_rfl) (.b b0 <| .b e0 <| .o nne <| .o iO <| .o R.csm <| .o R.osm <| .o R.rsm <| .o R.csm <| .o R.mne <| .o R.szk <| .o R.csm <| .o R.osm <| .o R.rsm <| .o wl <| .b n2 <| .b isb <| .b n15 <| .o iV <| .b c2 <| .b k5 <| .b k7 <| .b k11 <| .b k12 <| .o (m2 (c.os.getD (remI .i64 (IntKind.i64.wrap at_) (c.os.length : Nat)).toNat O0).a (c.os.getD (remI .i64 (IntKind.i64.wrap at_) (c.os.length : Nat)).toNat O0).b) <| .b k17 <| .wG [.flag 2, .gc [2]] (l15 hO c R (c.os.getD (remI .i64 (IntKind.i64.wrap at_) (c.os.length : Nat)).toNat O0) (nv c (remI .i64 (IntKind.i64.wrap at_) (c.os.length : Nat))).1 _ (m2 _ _) hs.1) <| .b hs.2 .rr)
     | false =>
      have k12 : decide ((c.os.getD (remI .i64 (IntKind.i64.wrap at_) (c.os.length : Nat)).toNat O0).code ≥ 12) = false := by simp only [decide_eq_true_eq, decide_eq_false_iff_not] at k7 ⊢; omega
      have k17 : ((c.os.getD (remI .i64 (IntKind.i64.wrap at_) (c.os.length : Nat)).toNat O0).code == 17) = false := by simp only [decide_eq_false_iff_not] at k7; simp only [beq_eq_false_iff_ne, ne_eq]; omega
      have hs := hs k5 fun h => (by rw [k7] at h; cases h)
      have eop : opnds (c.os.getD (remI .i64 (IntKind.i64.wrap at_) (c.os.length : Nat)).toNat O0) = [(c.os.getD (remI .i64 (IntKind.i64.wrap at_) (c.os.length : Nat)).toNat O0).a] := by unfold opnds; rw [k12, k17]; rfl
      rw [eop] at hs
      exact fn_is hX hO (by kernel_rfl) (.b b0 <| .b e0 <| .o nne <| .o iO <| .o R.csm <| .o R.osm <| .o R.rsm <| .o R.csm <| .o R.mne <| .o R.szk <| .o R.csm <| .o R.osm <| .o R.rsm <| .o wl <| .b n2 <| .b isb <| .b n15 <| .o iV <| .b c2 <| .b k5 <| .b k7 <| .b k12 <| .b k17 <| .wG [.flag 0, .gc [0]] (l15 hO c R (c.os.getD (remI .i64 (IntKind.i64.wrap at_) (c.os.length : Nat)).toNat O0) (nv c (remI .i64 (IntKind.i64.wrap at_) (c.os.length : Nat))).1 _ (m1 _) hs.1) <| .b hs.2 .rr)
end Go.Proofs.YtfhiejgoemcelaaGreat
namespace Go.Proofs.YtfhiejgoemcelaaGreat
open Go Tw Pv Go.ChangeShapes Go.WideShapes Go.ChangeAt Go.RowKit
theorem Tryz.tys15 : Tryz.f15.params.toList = [26, 5, 63] := by kernel_rfl
set_option maxRecDepth 100000 in
theorem ReachSafe_lifted (os : Os) (started : os.Started) (H : Type) (enc : TypeId × Value → H) :
  ReturnsInHanded {} Tryz.checked os 15 .any (Rows.reachSafeSpec.pre6 enc Tryz.prog Tryz.f15 Rows.reachSafeRow.domain false) (Rows.reachSafeSpec.post enc Tryz.prog Tryz.f15 false true false false) := by
 refine returnsInHanded_of_change (C := Tryz.checked) Tryz.own started (by kernel_rfl) Tryz.func15
  (ChangeSpec.witness6 (enc := enc) (C := Tryz.checked) false ⟨#[], #[.agg #[.slice none 0 0, .slice none 0 0, .slice none 0 0], .int .u8 0, .int .u16 0], []⟩ 8 (by kernel_rfl) (by kernel_rfl) (by kernel_rfl) (by kernel_rfl)) ?_
 intro W base args ds gs before hval0 hW hcnd _
 have hval : ∀ (j : Nat) t v, Tryz.f15.params[j]? = some t → args[j]? = some v → Value.okWide Tryz.prog W .any base t v := hval0
 have hW' := hW
 obtain ⟨p, q, hTA0, hV, rfl, hfz, hnd⟩ := hW
 have hTA : DataW.TrodAll enc Tryz.prog W 0 (fun _ => true) true Tryz.f15.params.toList args.toList ds p := hTA0
 obtain ⟨rfl, rfl⟩ := trodVars_none hV
 rw [Tryz.tys15] at hTA
 obtain ⟨d0, d1, d2, rfl, r0, r1, r2⟩ := trodAll_3 hTA
 obtain ⟨c, _, hc⟩ := rd_coreV (g := 2) r0
 obtain ⟨xc, xo, xr, ext0, e0, v0⟩ := hc []
 simp only [List.nil_append] at e0 v0
 obtain ⟨k1, hk1, e1⟩ := rd_u8 (g := 5) r1
 obtain ⟨k2, hk2, e2⟩ := rd_u16 (g := 5) r2
 have w0 := v0 ([])
 rw [List.append_nil] at w0
 obtain ⟨N, hN⟩ := gc15
 have hcon := hN (N + 1) (by omega) 15 ((a3 cA uA hA).put (c, k1, k2)) (tA.put true) [] [0 ≤ k1 ∧ k1 < 256, 0 ≤ k2 ∧ k2 < 65536] rfl (by
  intro p hp
  simp only [List.mem_cons, List.not_mem_nil, or_false] at hp
  rcases hp with rfl | rfl
  ·exact hk1
  ·exact hk2)
 obtain ⟨h', hr⟩ := run_of (xs := [.agg [xc, xo, xr], .int .u8 k1, .int .u16 k2]) (h := ext0) hcon (.cons (.agg w0.1 w0.2) (.cons (.int _ _) (.cons (.int _ _) .nil)))
 exact law_callsN (P := Tryz.prog) (T := T) (L := LL) (n := N) (g := 6) Tryz.mixed Tryz.laidOut rfl rfl (by kernel_rfl) Tryz.underlying4 (by kernel_rfl) hW' hval
  (by rw [Tryz.tys15]; exact (encA_a agg26 e0 (encA_o agg5 (e1 _) (encA_o agg63 (e2 _) encA_0)))) hr
theorem ReachSafe_holds : Rows.ReachSafeSaid :=
 OpenClaim.holds_of_wide 15 Tryz.f15 rfl rfl rfl rfl rfl rfl rfl ⟨rfl, rfl, rfl, rfl, rfl⟩ rfl rfl rfl rfl rfl (by kernel_rfl) Tryz.func15 (by kernel_rfl)
  (of_decide_eq_true (by kernel_rfl)) (by unfold Func.isWrapper; first | (rw [if_pos (by decide +kernel)]; kernel_rfl) | (rw [if_neg (by decide +kernel)]; exact ⟨rfl, rfl⟩))
  (fun os started H enc _ => ReachSafe_lifted os started H enc)
end Go.Proofs.YtfhiejgoemcelaaGreat
