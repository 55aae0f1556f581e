/- For every input, the function of the statement ReachWidths hands back true: the bits of the reaches are those of the reference, or the error is. -/
import Derived.Deep.Slices
import Derived.ChangeArms
import Derived.Carry
import Derived.Test.YtfhiejgoemcelaaGreatRows
import Derived.ProofKit
import Derived.Test.YtfhiejgoemcelaaGreatPe
set_option linter.unusedVariables false
set_option linter.unusedSimpArgs false
set_option linter.unusedSectionVars false
namespace Go.Proofs.YtfhiejgoemcelaaGreat
open Go Tw
theorem within1_eq (x lo hi : Int) : (!S_within1 x lo hi) = S_rIn x lo hi := by
  unfold S_within1 S_rIn
  by_cases h1 : x < lo <;> by_cases h2 : x > hi <;> simp [h1, h2] <;> omega
theorem within_eq (l : List Int) (lo hi : Int) : S_within l lo hi = l.all (fun x => S_rIn x lo hi) := by
  unfold S_within
  induction l with
  | nil => rfl
  | cons a l ih => simp only [List.any_cons, List.all_cons, Bool.not_or, ih, within1_eq]
theorem rIn_0 (x : Int) : S_rIn x 0 0 = (x == 0) := by
  unfold S_rIn
  rw [Bool.eq_iff_iff]
  by_cases h1 : x ≥ 0
  · simp only [h1, decide_true, if_true, decide_eq_true_eq, beq_iff_eq]; omega
  · simp only [h1, decide_false, Bool.false_eq_true, if_false, beq_iff_eq, false_iff]; omega
theorem number_eq (c : C) (o : O) (h1 : 1 ≤ o.code) (h2 : o.code ≤ 17) : S_isNumber c o = S_rIn o.n (S_rOperands o.code c.cs.length).2.1 (S_rOperands o.code c.cs.length).2.2 := by
  have : o.code = 1 ∨ o.code = 2 ∨ o.code = 3 ∨ o.code = 4 ∨ o.code = 5 ∨ o.code = 6 ∨ (7 ≤ o.code ∧ o.code ≤ 16) ∨ o.code = 17 := by omega
  unfold S_isNumber S_rOperands
  rcases this with h | h | h | h | h | h | h | h
  · simp [h, within_eq]
  · simp [h, within_eq]
  · simp [h, within_eq]
  · simp [h, within_eq]
  · simp [h, rIn_0]
  · simp [h, rIn_0]
  · have e1 : ¬ o.code = 1 := by omega
    have e2 : ¬ o.code = 2 := by omega
    have e3 : ¬ o.code = 3 := by omega
    have e4 : ¬ o.code = 4 := by omega
    have e5 : ¬ o.code = 5 := by omega
    have e6 : ¬ o.code = 6 := by omega
    simp [e1, e2, e3, e4, e5, e6, h.1, h.2, rIn_0]
  · simp [h, rIn_0]
def opnd (num m : Int) (j : Nat) (x : Int) : Bool := if (j : Int) < m then S_rIn x 0 (IntKind.i64.wrap (num - 1)) else x == 0
theorem step_opnd {num m x : Int} {j : Nat} : isL (F_rIsOp num m j x ()) = opnd num m j x := by
  unfold F_rIsOp opnd
  by_cases h : (j : Int) < m
  · have n : ¬ ((j : Int) ≥ m) := by omega
    cases h2 : S_rIn x 0 (IntKind.i64.wrap (num - 1)) <;> simp [h, n, isL]
  · have n : ((j : Int) ≥ m) := by omega
    by_cases h2 : x = 0 <;> simp [h, n, h2, isL, bne]
theorem isL_cons {α ρ : Type} {F : Nat → α → Unit → Unit ⊕ ρ} (a : α) (l : List α) (i : Nat) : isL (runL F (a :: l) i ()) = (isL (F i a ()) && isL (runL F l (i + 1) ())) := by
  simp only [runL]
  cases F i a () with
  | inl s => simp [isL]
  | inr r => simp [isL]
theorem rIsOp_eq (o : O) (i nc : Int) : S_rIsOp o i nc = (S_rIn o.n (S_rOperands o.code nc).2.1 (S_rOperands o.code nc).2.2 && (opnd i (S_rOperands o.code nc).1 0 o.a && (opnd i (S_rOperands o.code nc).1 1 o.b && opnd i (S_rOperands o.code nc).1 2 o.c))) := by
  unfold S_rIsOp
  have e : isL (runL (F_rIsOp i ((S_rOperands o.code nc).1)) (([o.a, o.b, o.c] : List Int)) 0 ()) = (opnd i (S_rOperands o.code nc).1 0 o.a && (opnd i (S_rOperands o.code nc).1 1 o.b && opnd i (S_rOperands o.code nc).1 2 o.c)) := by
    rw [isL_cons, isL_cons, isL_cons, step_opnd, step_opnd, step_opnd]
    simp [runL, isL]
  rw [e]
  cases S_rIn o.n (S_rOperands o.code nc).2.1 (S_rOperands o.code nc).2.2
  · simp
  · cases (opnd i (S_rOperands o.code nc).1 0 o.a && (opnd i (S_rOperands o.code nc).1 1 o.b && opnd i (S_rOperands o.code nc).1 2 o.c))
    · simp
    · simp
theorem operands_many (code nc : Int) (h1 : 1 ≤ code) (h2 : code ≤ 17) : (S_rOperands code nc).1 = S_arity code := by
  have : code = 1 ∨ code = 2 ∨ code = 3 ∨ code = 4 ∨ code = 5 ∨ code = 6 ∨ (7 ≤ code ∧ code ≤ 16) ∨ code = 17 := by omega
  unfold S_rOperands S_arity
  rcases this with h | h | h | h | h | h | h | h
  · simp [h]
  · simp [h]
  · simp [h]
  · simp [h]
  · simp [h]
  · simp [h]
  · have e1 : ¬ code = 1 := by omega
    have e2 : ¬ code = 2 := by omega
    have e3 : ¬ code = 3 := by omega
    have e4 : ¬ code = 4 := by omega
    have e5 : ¬ code = 5 := by omega
    have e6 : ¬ code = 6 := by omega
    have e7 : ¬ code ≤ 4 := by omega
    have e8 : ¬ code ≤ 6 := by omega
    simp [e1, e2, e3, e4, e5, e6, e7, e8, h.1, h.2]
  · simp [h]
theorem isOp_eq (c : C) (i : Int) (o : O) : S_isOp c i o = S_rIsOp o i c.cs.length := by
  rw [rIsOp_eq]
  unfold S_isOp
  by_cases h1 : o.code < 1
  · have : S_rOperands o.code c.cs.length = (-1, 0, -1) := by
      unfold S_rOperands
      have e1 : ¬ o.code = 1 := by omega
      have e2 : ¬ o.code = 2 := by omega
      have e3 : ¬ o.code = 3 := by omega
      have e4 : ¬ o.code = 4 := by omega
      have e5 : ¬ o.code = 5 := by omega
      have e6 : ¬ o.code = 6 := by omega
      have e7 : ¬ 7 ≤ o.code := by omega
      have e8 : ¬ o.code = 17 := by omega
      simp [e1, e2, e3, e4, e5, e6, e7, e8]
    rw [this]
    have : S_rIn o.n 0 (-1) = false := by
      unfold S_rIn; by_cases h : o.n ≥ 0 <;> simp [h] <;> omega
    simp [h1, this]
  · by_cases h2 : o.code > 17
    · have : S_rOperands o.code c.cs.length = (-1, 0, -1) := by
        unfold S_rOperands
        have e1 : ¬ o.code = 1 := by omega
        have e2 : ¬ o.code = 2 := by omega
        have e3 : ¬ o.code = 3 := by omega
        have e4 : ¬ o.code = 4 := by omega
        have e5 : ¬ o.code = 5 := by omega
        have e6 : ¬ o.code = 6 := by omega
        have e7 : 7 ≤ o.code := by omega
        have e8 : ¬ o.code = 17 := by omega
        have e9 : ¬ o.code ≤ 16 := by omega
        simp [e1, e2, e3, e4, e5, e6, e7, e8, e9]
      rw [this]
      have : S_rIn o.n 0 (-1) = false := by
        unfold S_rIn; by_cases h : o.n ≥ 0 <;> simp [h] <;> omega
      simp [h1, h2, this]
    · rw [if_neg (by simpa using h1), if_neg (by simpa using h2)]
      unfold S_isOpA
      rw [number_eq c o (by omega) (by omega), operands_many o.code _ (by omega) (by omega)]
      cases S_rIn o.n (S_rOperands o.code c.cs.length).2.1 (S_rOperands o.code c.cs.length).2.2
      · simp
      · simp only [within_eq, Bool.not_true, Bool.false_eq_true, if_false, Bool.true_and]
        rcases arity_cases o.code (by omega) (by omega) with ⟨_, h⟩ | ⟨_, _, h⟩ | ⟨_, _, h⟩ | ⟨_, h⟩ <;> rw [h]
        · simp [opnd, rIn_0, Bool.and_assoc]
        · simp only [show (1 : Int).toNat = 1 from rfl, List.take, List.drop, List.all_cons, List.all_nil, opnd, rIn_0]
          cases S_rIn o.a 0 (IntKind.i64.wrap (i - 1)) <;> simp
        · simp only [show (2 : Int).toNat = 2 from rfl, List.take, List.drop, List.all_cons, List.all_nil, opnd, rIn_0]
          cases S_rIn o.a 0 (IntKind.i64.wrap (i - 1)) <;> cases S_rIn o.b 0 (IntKind.i64.wrap (i - 1)) <;> simp
        · simp only [show (3 : Int).toNat = 3 from rfl, List.take, List.drop, List.all_cons, List.all_nil, opnd]
          cases S_rIn o.a 0 (IntKind.i64.wrap (i - 1)) <;> cases S_rIn o.b 0 (IntKind.i64.wrap (i - 1)) <;> simp
theorem noChoice_eq (i : Nat) (x : K) : S_isNoChoice x = !isL (F_rCheckK i x ()) := by
  unfold S_isNoChoice F_rCheckK
  simp only [within_eq, List.all_cons, List.all_nil, Bool.and_true]
  by_cases h1 : -9999 ≤ x.lo ∧ x.lo ≤ x.hi
  · have a1 : S_rIn x.lo (-9999) x.hi = true := by unfold S_rIn; simp [h1.1, h1.2]
    by_cases h2 : x.hi ≤ 9999
    · have w1 : IntKind.i64.wrap (x.hi - x.lo) = x.hi - x.lo := wrap_small (by omega) (by omega)
      have w2 : IntKind.i64.wrap (x.hi - x.lo + 1) = x.hi - x.lo + 1 := wrap_small (by omega) (by omega)
      have a2 : S_rIn x.lo (-9999) 9999 = true := by unfold S_rIn; simp [h1.1]; omega
      have a3 : S_rIn x.hi (-9999) 9999 = true := by unfold S_rIn; simp [h2]; omega
      have n : ¬ x.hi > 9999 := by omega
      rw [w1, w2]
      simp only [a1, a2, a3, n, Bool.and_self, Bool.not_true, Bool.false_eq_true, if_false, decide_false]
      by_cases h3 : x.hi - x.lo ≥ 12
      · have : S_rIn (x.hi - x.lo + 1) 1 12 = false := by unfold S_rIn; simp; omega
        simp [h3, this, isL]
      · have : S_rIn (x.hi - x.lo + 1) 1 12 = true := by
          unfold S_rIn; rw [if_pos (by simp; omega)]; simp; omega
        simp [h3, this, isL]
    · have a3 : S_rIn x.hi (-9999) 9999 = false := by unfold S_rIn; simp [h2]
      have n : x.hi > 9999 := by omega
      simp [a1, a3, n, isL]
  · have a1 : S_rIn x.lo (-9999) x.hi = false := by
      unfold S_rIn
      by_cases h : x.lo ≥ -9999
      · simp [h]; omega
      · simp [h]
    have e : isL (if (!S_rIn x.lo (-9999) x.hi) = true then Sum.inr (0, i, x, ()) else if decide (x.hi > 9999) = true then Sum.inr (1, i, x, ()) else if decide (IntKind.i64.wrap (x.hi - x.lo) ≥ 12) = true then Sum.inr (2, i, x, ()) else (.inl () : Unit ⊕ (Nat × Nat × K × Unit))) = false := by simp [a1, isL]
    rw [e]
    by_cases hA : S_rIn x.lo (-9999) 9999 = true ∧ S_rIn x.hi (-9999) 9999 = true
    · have b1 : -9999 ≤ x.lo ∧ x.lo ≤ 9999 := by
        have := hA.1; unfold S_rIn at this; split at this
        · rename_i h; simp at h this; omega
        · cases this
      have b2 : -9999 ≤ x.hi ∧ x.hi ≤ 9999 := by
        have := hA.2; unfold S_rIn at this; split at this
        · rename_i h; simp at h this; omega
        · cases this
      have w1 : IntKind.i64.wrap (x.hi - x.lo) = x.hi - x.lo := wrap_small (by omega) (by omega)
      have w2 : IntKind.i64.wrap (x.hi - x.lo + 1) = x.hi - x.lo + 1 := wrap_small (by omega) (by omega)
      have : S_rIn (x.hi - x.lo + 1) 1 12 = false := by
        unfold S_rIn; rw [if_neg (by simp; omega)]
      rw [w1, w2]
      simp [hA.1, hA.2, this]
    · have : (S_rIn x.lo (-9999) 9999 && S_rIn x.hi (-9999) 9999) = false := by
        cases ha : S_rIn x.lo (-9999) 9999 <;> cases hb : S_rIn x.hi (-9999) 9999 <;> simp_all
      simp [this]
theorem any_isL {α ρ : Type} {F : Nat → α → Unit → Unit ⊕ ρ} {g : α → Bool} (h : ∀ i x, g x = !isL (F i x ())) : ∀ (l : List α) (i : Nat), l.any g = !isL (runL F l i ())
  | [], _ => by simp [runL, isL]
  | a :: l, i => by rw [isL_cons, List.any_cons, any_isL h l (i + 1), h i a, Bool.not_and]
theorem isL_cong {α ρ ρ' : Type} {F : Nat → α → Unit → Unit ⊕ ρ} {G : Nat → α → Unit → Unit ⊕ ρ'} (h : ∀ i x, isL (F i x ()) = isL (G i x ())) : ∀ (l : List α) (i : Nat), isL (runL F l i ()) = isL (runL G l i ())
  | [], _ => rfl
  | a :: l, i => by rw [isL_cons, isL_cons, isL_cong h l (i + 1), h i a]
theorem roots_eq (c : C) : ∀ (l : List Int) (i : Nat), S_within l 0 (IntKind.i64.wrap (((c.os.length : Nat) : Int) - 1)) = isL (runL (F_rCheckR c) l i ())
  | [], i => by simp [within_eq, runL, isL]
  | a :: l, i => by
    have := roots_eq c l (i + 1)
    rw [isL_cons, ← this, within_eq, within_eq, List.all_cons]
    congr 1
    unfold F_rCheckR
    cases S_rIn a 0 (IntKind.i64.wrap (((c.os.length : Nat) : Int) - 1)) <;> simp [isL]
theorem check11_eq (c : C) : S_rCheck11 c = S_Check c := by
  unfold S_rCheck11 S_Check
  by_cases h1 : ((c.cs.length : Nat) : Int) > 6
  · simp [h1]
  · by_cases h2 : ((c.os.length : Nat) : Int) > 3000
    · simp [h1, h2]
    · by_cases h3 : ((c.rs.length : Nat) : Int) > 3000
      · simp [h1, h2, h3]
      · simp only [h1, h2, h3, decide_false, Bool.false_eq_true, if_false]
        rw [any_isL (F := F_rCheckK) noChoice_eq c.cs 0, roots_eq c c.rs 0]
        have e : isL (runL (F_Check c) c.os 0 ()) = isL (runL (F_rCheckO c) c.os 0 ()) := by
          apply isL_cong
          intro i x
          unfold F_Check F_rCheckO
          rw [isOp_eq]
        rw [e]
        cases isL (runL F_rCheckK c.cs 0 ())
        · simp
        · cases isL (runL (F_rCheckO c) c.os 0 ()) <;> cases isL (runL (F_rCheckR c) c.rs 0 ()) <;> rfl
theorem check_eq (c : C) : S_rCheck c = S_check c := by
  unfold S_rCheck S_check
  rw [check11_eq, any_isL (F := F_rCheckP) (g := fun o => S_check1 o) (fun i x => by
    unfold S_check1 F_rCheckP
    cases (x.code == 4) <;> rfl) c.os 0]
  cases isL (runL F_rCheckP c.os 0 ()) <;> simp
theorem core_ok {c : C} (h : ((S_check c) != 0) = false) : (∀ k ∈ c.cs, KGood k) ∧ ∀ (i : Nat) (o : O), c.os[i]? = some o → RuleOk o i c.cs.length ∧ OGood o c.cs.length := by
  have hk := check_ok h
  refine ⟨fun k hk' => ?_, fun i o ho => ⟨(hk.2.1 i o ho).1, ?_⟩⟩
  · have := Check_cs hk.1 k hk'
    exact ⟨this.1, this.2.1, this.2.2.1⟩
  · have hi : i < 4000 := by
      have : i < c.os.length := by
        rcases Nat.lt_or_ge i c.os.length with h | h
        · exact h
        · rw [List.getElem?_eq_none h] at ho; cases ho
      have := hk.2.2.2.1
      omega
    have h2 := (isOp_ok hi (by have := hk.2.2.1; omega) (hk.2.1 i o ho).2).2.2.1
    have hr := (hk.2.1 i o ho).1
    refine ⟨fun e => ?_, fun e => ?_, fun e => hr.ch e⟩
    · unfold S_isNumber at h2
      rw [if_pos (by simpa using e), within_eq] at h2
      simp only [List.all_cons, List.all_nil, Bool.and_true, S_rIn] at h2
      split at h2
      · rename_i h; simp at h h2; omega
      · cases h2
    · unfold S_isNumber at h2
      rw [if_neg (by simp [e]), if_pos (by simpa using e), within_eq] at h2
      simp only [List.all_cons, List.all_nil, Bool.and_true, S_rIn] at h2
      split at h2
      · rename_i h; simp at h h2; omega
      · cases h2
theorem reach_bld {c : C} {kn : B} (hc : ∀ k ∈ c.cs, KGood k) : ∀ (os : List O) (l : List B), (∀ (i : Nat) (o : O), os[i]? = some o → RuleOk o (l.length + i) c.cs.length ∧ OGood o c.cs.length) → (∀ b ∈ l, Good b) →
    (reachS (fun (_ : Unit) _ b => ((), b)) c.cs os () l).2 = bld (gOf c (-1) kn) os l.length l ∧ ∀ b ∈ bld (gOf c (-1) kn) os l.length l, Good b
  | [], l, _, hl => ⟨rfl, hl⟩
  | o :: os, l, ho, hl => by
    have h0 := ho 0 o rfl
    have hr := rule_eq (c := c) (l := l) h0.1 hl hc h0.2
    have hg : gOf c (-1) kn l l.length o = [S_rRule c l o] := by
      unfold gOf
      rw [if_neg (by simp)]
    have ih := reach_bld (kn := kn) hc os (l ++ [S_rRule c l o]) (fun i o' ho' => by
      have := ho (i + 1) o' (by simpa using ho')
      rw [List.length_append, List.length_singleton, show l.length + 1 + i = l.length + (i + 1) by omega]
      exact this) (fun b hb => by
        rcases List.mem_append.mp hb with hb | hb
        · exact hl b hb
        · simp only [List.mem_singleton] at hb; subst hb; exact hr.2)
    simp only [reachS, bld, hg, hr.1]
    rw [List.length_append, List.length_singleton] at ih
    exact ih
theorem of_eq {c : C} (h : ((S_check c) != 0) = false) (kn : B) : reachL c.cs c.os = S_rOf c (-1) kn ∧ ∀ b ∈ S_rOf c (-1) kn, Good b := by
  have hk := core_ok h
  have := reach_bld (kn := kn) hk.1 c.os [] (fun i o ho => by simpa using hk.2 i o ho) (by simp)
  exact this
end Go.Proofs.YtfhiejgoemcelaaGreat
namespace Go.Proofs.YtfhiejgoemcelaaGreat
open Go Tw
theorem thin_len {c : C} (h : S_Thin c = true) : c.cs.length ≤ 8 ∧ c.os.length ≤ 60 ∧ c.rs.length ≤ 60 := by
  unfold S_Thin at h
  split at h
  · cases h
  · split at h
    · cases h
    · split at h
      · cases h
      · rename_i h1 h2 h3
        simp only [decide_eq_true_eq, Int.not_lt, gt_iff_lt] at h1 h2 h3
        omega
end Go.Proofs.YtfhiejgoemcelaaGreat
namespace Go.Proofs.YtfhiejgoemcelaaGreat
open Go Tw
theorem rOf_len {c : C} (hk : ((S_check c) != 0) = false) (kn : B) : (S_rOf c (-1) kn).length = c.os.length := by
  rw [← (of_eq hk kn).1, reachL, reachS_len]; simp
theorem Of_ok {c : C} (hk : ((S_check c) != 0) = false) : S_Of c = (S_rOf c (-1) ⟨0, 0, 0⟩, 0) := by
  simp only [S_Of, hk, Bool.false_eq_true, if_false]; rw [(of_eq hk ⟨0, 0, 0⟩).1]
theorem Of_bad {c : C} (hk : ((S_check c) != 0) = true) : S_Of c = ([], S_check c) := by simp only [S_Of, hk, if_true]
end Go.Proofs.YtfhiejgoemcelaaGreat
namespace Go.Proofs.YtfhiejgoemcelaaGreat
open Go Tw
abbrev W_RWid (lw : List Int) (lr : List B) (vw : TV) (vr : TV) (i : Int) (h : List HB) : St := ⟨[(3, .val (vw)), (6, .val (vr)), (7, .val (.int .i64 (i)))], [], h, []⟩
theorem r_RWid_1 {L n m fl : Nat} (hn : 6 ≤ n) (hL : 30000 ≤ L) (lw : List Int) (lr : List B) (vw : TV) (vr : TV) (i : Int) (h : List HB) (bits : Int) (hsw : SV h vw 1 I.tvs lw) (hsr : SV h vr 3 B.tvs lr) (i0 : 0 ≤ i) (i1 : i < lw.length) (i2 : i < lr.length)  (h0 : (decide ((i) < ((lw.length : Nat) : Int))) = true) (h1 : (((lw.getD i.toNat 0)) != (bits)) = false) (hbits : AP L (n - 1) (.fn 36 [] []) [B.tv (((lr.getD i.toNat B0)))] h = some (.int .i64 (bits), h, [])) : rounds Tryz.prog T (AP L (n - 1)) L 8 0 fl (m + 1) (W_RWid lw lr vw vr i h) = rounds Tryz.prog T (AP L (n - 1)) L 8 0 fl m (W_RWid lw lr vw vr (IntKind.i64.wrap ((i) + 1)) h) :=
  round_on (s1 := ⟨[(3, .val (vw)), (6, .val (vr)), (7, .val (.int .i64 (IntKind.i64.wrap ((i) + 1))))], [], h, []⟩) (by kernel_rfl) (.k (hsw.len u24) <| .b h0 <| .p (hsw.ix u24 z3 (by first | omega | (simp only [decide_eq_false_iff_not, decide_eq_true_eq] at *; omega) | (simp only [beq_eq_false_iff_ne, ne_eq] at *; omega)) (by first | omega | (simp only [decide_eq_false_iff_not, decide_eq_true_eq] at *; omega) | (simp only [beq_eq_false_iff_ne, ne_eq] at *; omega)) : indexAddrT Tryz.prog 24 (.val vw) (.int .i64 (i)) = some (.val (.ptr (eb vw) (eo vw i) (eo vw i + 1)))) <| .l (hsw.fld0 (by first | omega | (simp only [decide_eq_false_iff_not, decide_eq_true_eq] at *; omega) | (simp only [beq_eq_false_iff_ne, ne_eq] at *; omega)) (by first | omega | (simp only [decide_eq_false_iff_not, decide_eq_true_eq] at *; omega) | (simp only [beq_eq_false_iff_ne, ne_eq] at *; omega)) _ (by decide) rfl : rdAt false 1 h (eb vw) (eo vw i) (eo vw i + 1) = some (.int .i64 ((lw.getD i.toNat 0)))) <| .p (hsr.ix u29 z38 (by first | omega | (simp only [decide_eq_false_iff_not, decide_eq_true_eq] at *; omega) | (simp only [beq_eq_false_iff_ne, ne_eq] at *; omega)) (by first | omega | (simp only [decide_eq_false_iff_not, decide_eq_true_eq] at *; omega) | (simp only [beq_eq_false_iff_ne, ne_eq] at *; omega)) : indexAddrT Tryz.prog 29 (.val vr) (.int .i64 (i)) = some (.val (.ptr (eb vr) (eo vr i) (eo vr i + 3)))) <| .l (hsr.agg (by first | omega | (simp only [decide_eq_false_iff_not, decide_eq_true_eq] at *; omega) | (simp only [beq_eq_false_iff_ne, ne_eq] at *; omega)) (by first | omega | (simp only [decide_eq_false_iff_not, decide_eq_true_eq] at *; omega) | (simp only [beq_eq_false_iff_ne, ne_eq] at *; omega)) _ rfl : rdAt true 3 h (eb vr) (eo vr i) (eo vr i + 3) = some (B.tv (((lr.getD i.toNat B0))))) <| .c hbits <| .b h1 <| .n) (rounds_congr (by kernel_rfl))
abbrev X_RWid_2 (lw : List Int) (lr : List B) (vw : TV) (vr : TV) (i : Int) (h : List HB)  : St := ⟨[(3, .val (vw)), (6, .val (vr)), (7, .val (.int .i64 (i))), (48, .val (.bool (decide ((i) < ((lw.length : Nat) : Int)))))], [], h, []⟩
theorem r_RWid_2 {L n m fl : Nat} (hn : 6 ≤ n) (hL : 30000 ≤ L) (lw : List Int) (lr : List B) (vw : TV) (vr : TV) (i : Int) (h : List HB)  (hsw : SV h vw 1 I.tvs lw) (hsr : SV h vr 3 B.tvs lr)  (h0 : (decide ((i) < ((lw.length : Nat) : Int))) = false) : rounds Tryz.prog T (AP L (n - 1)) L 8 0 fl (m + 1) (W_RWid lw lr vw vr i h) = some ((.exit 0), X_RWid_2 lw lr vw vr i h ) :=
  round_out (s1 := X_RWid_2 lw lr vw vr i h ) (by kernel_rfl) (.k (hsw.len u24) <| .b h0 <| .n) rfl
theorem q_ReachWidths_0 {L n : Nat} (hn : 32 ≤ n) (hL : 30000 ≤ L) (h : List HB) (xc xo xr : TV) (c : C) (hc : SV h xc 3 K.tvs c.cs) (ho : SV h xo 5 O.tvs c.os) (hr : SV h xr 1 I.tvs c.rs)  (thin : Bool)  (h0 : (!thin) = true) (hthin : AP L (n - 1) (.fn 17 [] []) [.agg [xc, xo, xr]] h = some (.bool thin, h, [])) (hawake : AP L (n - 1) (.fn 18 [] []) [] h = some (.bool true, h, [])) : AP L n (.fn 8 [] []) [.agg [xc, xo, xr]] h = some (.bool true, h, []) :=
  ap_t (by omega) (by kernel_rfl) (.x (one3 hc.one ho.one hr.one) <| .c hthin <| .b h0 <| .c hawake <| .n)
theorem q_ReachWidths_1 {L n : Nat} (hn : 32 ≤ n) (hL : 30000 ≤ L) (h : List HB) (xc xo xr : TV) (c : C) (hc : SV h xc 3 K.tvs c.cs) (ho : SV h xo 5 O.tvs c.os) (hr : SV h xr 1 I.tvs c.rs)  (thin : Bool) (H1 : List HB) (xc1 : TV) (xo1 : TV) (xr1 : TV) (H2 : List HB) (vwid : TV) (lwid : List Int) (ewid : Int) (check : Int) (swid : SV H2 vwid 1 I.tvs lwid) (h0 : (!thin) = false) (h1 : ((check) != 0) = true) (h2 : ((ewid) == (check)) = true) (h3 : (((lwid.length : Nat) : Int) == 0) = true) (hthin : AP L (n - 1) (.fn 17 [] []) [.agg [xc, xo, xr]] h = some (.bool thin, h, [])) (hcopied : AP L (n - 1) (.fn 20 [] []) [.agg [xc, xo, xr]] h = some (.agg [xc1, xo1, xr1], H1, [])) (hwid : AP L (n - 1) (.fn 35 [] []) [.agg [xc1, xo1, xr1]] H1 = some (.tup [vwid, .int .i64 (ewid)], H2, [])) (hcheck : AP L (n - 1) (.fn 21 [] []) [.agg [xc, xo, xr]] H2 = some (.int .i64 (check), H2, [])) (hawake : AP L (n - 1) (.fn 18 [] []) [] H2 = some (.bool true, H2, [])) : AP L n (.fn 8 [] []) [.agg [xc, xo, xr]] h = some (.bool true, h, []) :=
  ap_t (by omega) (by kernel_rfl) (.x (one3 hc.one ho.one hr.one) <| .c hthin <| .b h0 <| .c hcopied <| .c hwid <| .c hcheck <| .b h1 <| .b2 h2 <| .k (swid.len u24) <| .b2 h2 <| .b h3 <| .c hawake <| .b h3 <| .n)
theorem q_ReachWidths_6 {L n : Nat} (hn : 32 ≤ n) (hL : 30000 ≤ L) (h : List HB) (xc xo xr : TV) (c : C) (hc : SV h xc 3 K.tvs c.cs) (ho : SV h xo 5 O.tvs c.os) (hr : SV h xr 1 I.tvs c.rs)  (thin : Bool) (H1 : List HB) (xc1 : TV) (xo1 : TV) (xr1 : TV) (H2 : List HB) (vwid : TV) (lwid : List Int) (ewid : Int) (check : Int) (H3 : List HB) (vrof : TV) (lrof : List B) (swid : SV H2 vwid 1 I.tvs lwid) (srof : SV H3 vrof 3 B.tvs lrof) (lenrof : lrof.length = c.os.length) (h0 : (!thin) = false) (h1 : ((check) != 0) = false) (h2 : ((ewid) != 0) = false) (h3 : (((lwid.length : Nat) : Int) != ((lrof.length : Nat) : Int)) = false) (hthin : AP L (n - 1) (.fn 17 [] []) [.agg [xc, xo, xr]] h = some (.bool thin, h, [])) (hcopied : AP L (n - 1) (.fn 20 [] []) [.agg [xc, xo, xr]] h = some (.agg [xc1, xo1, xr1], H1, [])) (hwid : AP L (n - 1) (.fn 35 [] []) [.agg [xc1, xo1, xr1]] H1 = some (.tup [vwid, .int .i64 (ewid)], H2, [])) (hcheck : AP L (n - 1) (.fn 21 [] []) [.agg [xc, xo, xr]] H2 = some (.int .i64 (check), H2, [])) (hrof : AP L (n - 1) (.fn 23 [] []) [.agg [xc, xo, xr], .int .i64 (-1), .agg [.int .i64 0, .int .i64 0, .int .u8 0]] H2 = some (vrof, H3, [])) (hloop : rounds Tryz.prog T (AP L (n - 1)) L 8 0 h.length L ⟨[(3, .val (vwid)), (6, .val (vrof)), (7, .val (.int .i64 0))], [[xc, xo, xr]], H3, []⟩ = some ((.exit 0), ⟨[(3, .val (vwid)), (6, .val (vrof)), (7, .val (.int .i64 ((((lwid.length : Nat) : Int))))), (48, .val (.bool (decide (((((lwid.length : Nat) : Int))) < ((lwid.length : Nat) : Int)))))], [], H3, []⟩)) (hawake : AP L (n - 1) (.fn 18 [] []) [] H3 = some (.bool true, H3, [])) : AP L n (.fn 8 [] []) [.agg [xc, xo, xr]] h = some (.bool true, h, []) :=
  ap_t (by omega) (by kernel_rfl) (.x (one3 hc.one ho.one hr.one) <| .c hthin <| .b h0 <| .c hcopied <| .c hwid <| .c hcheck <| .b h1 <| .c hrof <| .b2 h2 <| .k (swid.len u24) <| .b2 h2 <| .k (srof.len u29) <| .b2 h2 <| .b h3 <| .w hloop <| .c hawake <| .n)
end Go.Proofs.YtfhiejgoemcelaaGreat
namespace Go.Proofs.YtfhiejgoemcelaaGreat
open Go Tw
theorem pow_facts : ∀ k : Fin 15, IntKind.i64.wrap (0 - ((2 ^ k.val : Nat) : Int)) = -((2 ^ k.val : Nat) : Int) ∧ IntKind.i64.wrap (((k.val : Nat) : Int) + 1) = ((k.val + 1 : Nat) : Int) ∧ IntKind.i64.wrap (((2 ^ k.val : Nat) : Int) * 2) = ((2 ^ (k.val + 1) : Nat) : Int) ∧
    shlI .i64 (-1 : Int) (IntKind.u64.wrap (IntKind.i64.wrap (((k.val + 1 : Nat) : Int) - 1))) = -((2 ^ k.val : Nat) : Int) ∧ IntKind.i64.wrap ((shlI .i64 (1 : Int) (IntKind.u64.wrap (IntKind.i64.wrap (((k.val + 1 : Nat) : Int) - 1)))) - 1) = ((2 ^ k.val : Nat) : Int) - 1 ∧ IntKind.i64.wrap (((k.val + 1 : Nat) : Int) + 1) = ((k.val + 2 : Nat) : Int) := by decide +kernel
theorem fits_at {r : B} (hle : r.lo ≤ r.hi) {k : Nat} (hk : k < 15) : S_rFits r ((k + 1 : Nat) : Int) = decide (-((2 ^ k : Nat) : Int) ≤ r.lo ∧ r.hi < ((2 ^ k : Nat) : Int)) := by
  obtain ⟨_, _, _, h4, h5, _⟩ := pow_facts ⟨k, hk⟩
  simp only at h4 h5
  unfold S_rFits
  rw [h4, h5, if_neg (by simpa using hle), if_pos (by first | (simp; done) | (simp; omega))]
  split
  · rename_i h; simp only [decide_eq_true_eq, ge_iff_le] at h
    have : (r.hi ≤ ((2 ^ k : Nat) : Int) - 1) ↔ (-((2 ^ k : Nat) : Int) ≤ r.lo ∧ r.hi < ((2 ^ k : Nat) : Int)) := by omega
    simp only [this]
  · rename_i h; simp only [decide_eq_true_eq, ge_iff_le] at h
    symm; simp only [decide_eq_false_iff_not]; omega
theorem width_step {r : B} (hle : r.lo ≤ r.hi) (h0 : -9999 ≤ r.lo) (h1 : r.hi ≤ 9999) : ∀ (d k : Nat), k + d = 14 → ∃ v : Nat, k ≤ v ∧ v ≤ 14 ∧ widthF (50 + d) r k ((2 ^ k : Nat) : Int) = some (true, (v : Int), ((2 ^ v : Nat) : Int)) ∧ bitsF (49 + d) r ((k + 1 : Nat) : Int) = some ((v + 1 : Nat) : Int)
  | d, k, hd => by
    have hk : k < 15 := by omega
    obtain ⟨f1, f2, f3, _, _, f6⟩ := pow_facts ⟨k, hk⟩
    simp only at f1 f2 f3 f6
    by_cases hc : -((2 ^ k : Nat) : Int) ≤ r.lo ∧ r.hi < ((2 ^ k : Nat) : Int)
    · refine ⟨k, Nat.le_refl _, by omega, ?_, ?_⟩
      · rw [show 50 + d = (49 + d) + 1 by omega]
        simp only [widthF, hle, f1, hc.1, hc.2, decide_true, if_true]
      · rw [show 49 + d = (48 + d) + 1 by omega]
        simp only [bitsF, fits_at hle hk, hc, and_self, decide_true, Bool.not_true, Bool.false_eq_true, if_false]
    · cases d with
      | zero =>
        exfalso; apply hc
        have : k = 14 := by omega
        subst this
        constructor
        · show -((16384 : Nat) : Int) ≤ r.lo; omega
        · show r.hi < ((16384 : Nat) : Int); omega
      | succ d =>
        obtain ⟨v, a1, a2, a3, a4⟩ := width_step hle h0 h1 d (k + 1) (by omega)
        refine ⟨v, by omega, a2, ?_, ?_⟩
        · rw [show 50 + (d + 1) = (50 + d) + 1 by omega]
          simp only [widthF, hle, f1, f2, f3, decide_true, if_true]
          rw [← a3]
          split
          · rename_i h; simp only [decide_eq_true_eq] at h
            rw [if_neg (by simp only [decide_eq_true_eq]; omega)]
          · rfl
        · rw [show 49 + (d + 1) = (49 + d) + 1 by omega]
          simp only [bitsF, fits_at hle hk, hc, decide_false, Bool.not_false, if_true, f6]
          exact a4
theorem width_bits {r : B} (hg : Good r) : (widthF 64 r 0 1).isSome = true ∧ bitsF 64 r 0 = some (S_width r) := by
  by_cases hle : r.lo ≤ r.hi
  · have hn := good_num hg hle
    obtain ⟨v, _, hv, a3, a4⟩ := width_step hle hn.1 hn.2.2 14 0 rfl
    have a3' : widthF 64 r 0 1 = some (true, (v : Int), ((2 ^ v : Nat) : Int)) := a3
    have f2 := (pow_facts ⟨v, by omega⟩).2.1
    simp only at f2
    refine ⟨by rw [a3']; rfl, ?_⟩
    have : S_width r = ((v + 1 : Nat) : Int) := by unfold S_width; rw [a3']; exact f2
    rw [this, ← a4]
    have : S_rFits r 0 = false := by unfold S_rFits; rw [if_neg (by simpa using hle), if_neg (by decide)]
    show bitsF (63 + 1) r 0 = _
    simp only [bitsF, this, Bool.not_false, if_true]
    rfl
  · have h1 : widthF 64 r 0 1 = some (false, 0, 1) := by
      show widthF (63 + 1) r 0 1 = _
      simp only [widthF, hle, decide_false, Bool.false_eq_true, if_false]
    refine ⟨by rw [h1]; rfl, ?_⟩
    have h2 : S_width r = 0 := by unfold S_width; rw [h1]
    rw [h2]
    show bitsF (63 + 1) r 0 = _
    have : S_rFits r 0 = true := by unfold S_rFits; rw [if_pos (by simpa using hle)]
    simp only [bitsF, this, Bool.not_true, Bool.false_eq_true, if_false]
theorem l_RWid {L n fl : Nat} (hn : 6 ≤ n) (hL : 30000 ≤ L) (lr : List B) (vw vr : TV) (h : List HB) (hsw : SV h vw 1 I.tvs (lr.map S_width)) (hsr : SV h vr 3 B.tvs lr) (hg : ∀ r ∈ lr, Good r) (hlen : lr.length < 4000) : ∀ (k i m : Nat), i + k = lr.length → k < m →
    rounds Tryz.prog T (AP L (n - 1)) L 8 0 fl m (W_RWid (lr.map S_width) lr vw vr (i : Int) h) = some (.exit 0, X_RWid_2 (lr.map S_width) lr vw vr (((lr.map S_width).length : Nat) : Int) h)
  | 0, i, m, hi, hm => by
    obtain ⟨m, rfl⟩ : ∃ j, m = j + 1 := ⟨m - 1, by omega⟩
    have hi' : i = (lr.map S_width).length := by rw [List.length_map]; omega
    subst hi'
    exact r_RWid_2 hn hL (lr.map S_width) lr vw vr _ h hsw hsr (by simp)
  | k + 1, i, m, hi, hm => by
    obtain ⟨m, rfl⟩ : ∃ j, m = j + 1 := ⟨m - 1, by omega⟩
    have hr : Good (lr.getD (i : Int).toNat B0) := good_getD hg _
    have hb := k_rBits (n := n - 1) (by omega) hL h (lr.getD (i : Int).toNat B0) _ (width_bits hr).2
    have hw : (lr.map S_width).getD (i : Int).toNat 0 = S_width (lr.getD (i : Int).toNat B0) := by
      rw [Int.toNat_natCast, List.getD_eq_getElem?_getD, List.getD_eq_getElem?_getD, List.getElem?_map, List.getElem?_eq_getElem (by omega)]
      rfl
    rw [r_RWid_1 hn hL (lr.map S_width) lr vw vr _ h _ hsw hsr (by omega) (by rw [List.length_map]; omega) (by omega) (by rw [List.length_map]; simp; omega) (by rw [hw]; simp) hb]
    have := addI_nat (i := i) (by omega)
    unfold addI at this
    rw [this]
    exact l_RWid hn hL lr vw vr h hsw hsr hg hlen k (i + 1) m (by omega) (by omega)
theorem k_ReachWidths {L n : Nat} (hn : 32 ≤ n) (hL : 30000 ≤ L) (h : List HB) (xc xo xr : TV) (c : C) (hc : SV h xc 3 K.tvs c.cs) (ho : SV h xo 5 O.tvs c.os) (hr : SV h xr 1 I.tvs c.rs) :
    AP L n (.fn 8 [] []) [.agg [xc, xo, xr]] h = some (.bool true, h, []) := by
  have ht := c_Thin (n := n - 1) (by omega) hL h xc xo xr c hc ho hr
  cases hthin : S_Thin c with
  | false => rw [hthin] at ht; exact q_ReachWidths_0 hn hL h xc xo xr c hc ho hr false rfl ht (k_awake (by omega) hL h)
  | true =>
    rw [hthin] at ht
    have hl := thin_len hthin
    obtain ⟨xc1, xo1, xr1, H1, e1, o1, c1, p1, r1⟩ := k_copied (n := n - 1) (by omega) hL h xc xo xr c hc ho hr (by omega) (by omega) (by omega)
    have hgood : ((S_check c) != 0) = false → ∀ r ∈ (S_Of c).1, Good r := fun hk => by rw [Of_ok hk]; exact (of_eq hk _).2
    obtain ⟨v2, H2, e2, o2, s2⟩ := k_Widths (n := n - 1) (by omega) hL H1 xc1 xo1 xr1 c c1 p1 r1 fun r hr' => by
      cases hk : ((S_check c) != 0) with
      | true => rw [Of_bad hk] at hr'; cases hr'
      | false => exact (width_bits (hgood hk r hr')).1
    have k2 := o1.trans o2
    have e3 := c_rCheck (n := n - 1) (by omega) hL H2 xc xo xr c (hc.onto k2) (ho.onto k2) (hr.onto k2)
    rw [check_eq] at e3
    have ea := k_awake (n := n - 1) (by omega) hL H2
    cases hk : ((S_check c) != 0) with
    | true =>
      have a1 : S_Widths c = ([], S_check c) := by unfold S_Widths; rw [Of_bad hk]; simp only [hk, if_true]
      rw [a1] at e2 s2
      exact q_ReachWidths_1 hn hL h xc xo xr c hc ho hr true H1 xc1 xo1 xr1 H2 v2 [] (S_check c) (S_check c) s2 rfl hk (by simp) rfl ht e1 e2 e3 ea
    | false =>
      have a1 : S_Widths c = ((S_rOf c (-1) ⟨0, 0, 0⟩).map S_width, 0) := by unfold S_Widths; rw [Of_ok hk]; rfl
      rw [a1] at e2 s2
      obtain ⟨v3, H3, e4, o3, s3⟩ := k_rOf (n := n - 1) (by omega) hL H2 (-1) ⟨0, 0, 0⟩ xc xo xr c (hc.onto k2) (ho.onto k2) (hr.onto k2) (by omega) (fun i o ho' => ((core_ok hk).2 i o ho').1)
      have hlen := rOf_len hk ⟨0, 0, 0⟩
      have hlp := l_RWid (n := n) (fl := h.length) (by omega) hL (S_rOf c (-1) ⟨0, 0, 0⟩) v2 v3 H3 (s2.onto o3) s3 (of_eq hk _).2 (by omega) (S_rOf c (-1) ⟨0, 0, 0⟩).length 0 L (by omega) (by omega)
      refine q_ReachWidths_6 hn hL h xc xo xr c hc ho hr true H1 xc1 xo1 xr1 H2 v2 ((S_rOf c (-1) ⟨0, 0, 0⟩).map S_width) 0 (S_check c) H3 v3 (S_rOf c (-1) ⟨0, 0, 0⟩) s2 s3 hlen rfl hk rfl (by simp) ht e1 e2 e3 e4 ?_ (k_awake (by omega) hL H3)
      rw [rounds_congr (s' := W_RWid ((S_rOf c (-1) ⟨0, 0, 0⟩).map S_width) (S_rOf c (-1) ⟨0, 0, 0⟩) v2 v3 0 H3) (by kernel_rfl)]
      exact hlp
end Go.Proofs.YtfhiejgoemcelaaGreat
namespace Tw
open Go
section
variable {H : Type}
def encL (g : DataW H → List HB → Option (List TV × List HB)) (n : Nat) : List (DataW H) → List HB → Option (List TV × List HB)
  | [], h => some ([], h)
  | d :: ds, h => match g d h with
    | some (c, h1) => if c.length = n then (match encL g n ds h1 with
      | some (cs, h2) => some (c ++ cs, h2)
      | none => none) else none
    | none => none
def encF (P : Program) (g : TypeId → DataW H → List HB → Option (List TV × List HB)) : Nat → List Field → List (DataW H) → List HB → Option (List TV × List HB)
  | _, [], [], h => some ([], h)
  | o, f :: fs, d :: ds, h => match g f.type d h with
    | some (c, h1) => if f.offset = o ∧ c.length = P.cellsOf f.type then (match encF P g (o + c.length) fs ds h1 with
      | some (cs, h2) => some (c ++ cs, h2)
      | none => none) else none
    | none => none
  | _, _, _, _ => none
def encT (P : Program) : Nat → TypeId → DataW H → List HB → Option (List TV × List HB)
  | 0, _, _, _ => none
  | g + 1, t, d, h => match P.underlying t, d with
    | some .bool, .lit (.bool b) => some ([.bool b], h)
    | some (.int _), .lit (.int k n) => some ([.int k n], h)
    | some .string, .lit (.string bs) => some ([.str ⟨bs.toArray⟩], h)
    | some (.slice _), .nil => some ([.nil .slc], h)
    | some (.slice e), .slice xs ys => match encL (encT P g e) (P.cellsOf e) (xs ++ ys) h with
      | some (cs, h1) => if P.cellsOf e = 0 then none else some ([.slc h1.length 0 xs.length (xs.length + ys.length) (P.cellsOf e) true], h1 ++ [.cells .ro cs])
      | none => none
    | some (.struct fs), .agg ds => match encF P (encT P g) 0 fs.toList ds h with
      | some (cs, h1) => if cs.length = P.cellsOf t then some (cs, h1) else none
      | none => none
    | _, _ => none
variable {enc : TypeId × Value → H} {P : Program} {w : World}
structure Opened (M : Mp) (h : List HB) (w : World) : Prop where
  base : Base M h w
  ro : ∀ b ∈ h, wr b = false
def Reads (enc : TypeId × Value → H) (P : Program) (w : World) (t : TypeId) (cs : List Value) (d : DataW H) : Prop :=
  ∃ fuel ps, DataW.trod enc P w 0 (fun _ => true) true fuel t cs = some (d, ps)
def EncOk (enc : TypeId × Value → H) (P : Program) (w : World) (g : TypeId → DataW H → List HB → Option (List TV × List HB)) : Prop :=
  ∀ t d h r, g t d h = some r → ∀ cs, Reads enc P w t cs d → ∀ M, Opened M h w → ∃ M', Opened M' r.2 w ∧ Mle M M' ∧ VRs M'.h r.1 cs ∧ ∀ c ∈ r.1, oneT c = true
theorem encL_ok {g : TypeId → DataW H → List HB → Option (List TV × List HB)} (hg : EncOk enc P w g) {e : TypeId} {n : Nat} : ∀ (ds : List (DataW H)) (css : List (List Value)) (h : List HB) (r : List TV × List HB), encL (g e) n ds h = some r →
    css.length = ds.length → (∀ (i : Nat) (d : DataW H) (cs : List Value), ds[i]? = some d → css[i]? = some cs → Reads enc P w e cs d) → ∀ M, Opened M h w →
    ∃ M', Opened M' r.2 w ∧ Mle M M' ∧ VRs M'.h r.1 css.flatten ∧ (∀ c ∈ r.1, oneT c = true) ∧ r.1.length = ds.length * n ∧ ∀ cs ∈ css, cs.length = n
  | [], css, h, r, hr, hl, hd, M, hB => by
    simp only [encL, Option.some.injEq] at hr; subst hr
    have : css = [] := List.eq_nil_of_length_eq_zero (by simpa using hl)
    subst this
    exact ⟨M, hB, .refl M, .nil, by simp, by simp, by simp⟩
  | d :: ds, [], h, r, hr, hl, hd, M, hB => by simp at hl
  | d :: ds, cs :: css, h, r, hr, hl, hd, M, hB => by
    simp only [encL] at hr
    split at hr
    · rename_i c h1 hc
      split at hr
      · rename_i hn
        split at hr
        · rename_i cs' h2 hcs
          simp only [Option.some.injEq] at hr; subst hr
          obtain ⟨M1, b1, m1, v1, o1⟩ := hg e d h (c, h1) hc cs (hd 0 d cs rfl rfl) M hB
          obtain ⟨M2, b2, m2, v2, o2, l2, u2⟩ := encL_ok hg ds css h1 (cs', h2) hcs (by simpa using hl) (fun i d' cs'' e1 e2 => hd (i + 1) d' cs'' (by simpa using e1) (by simpa using e2)) M1 b1
          refine ⟨M2, b2, m1.trans m2, ?_, ?_, ?_, ?_⟩
          · rw [List.flatten_cons]
            exact (v1.mono m2.h).append v2
          · intro x hx
            rcases List.mem_append.1 hx with hx | hx
            · exact o1 x hx
            · exact o2 x hx
          · simp only [List.length_append, l2, hn, List.length_cons, Nat.add_mul, Nat.one_mul]; omega
          · intro x hx
            rcases List.mem_cons.1 hx with rfl | hx
            · have := v1.len
              simp only at this
              omega
            · exact u2 x hx
        · cases hr
      · cases hr
    · cases hr
theorem encF_ok {g : TypeId → DataW H → List HB → Option (List TV × List HB)} (hg : EncOk enc P w g) {cs : List Value} : ∀ (fs : List Field) (ds : List (DataW H)) (o : Nat) (h : List HB) (r : List TV × List HB), encF P g o fs ds h = some r →
    (∀ (i : Nat) (f : Field) (d : DataW H), fs[i]? = some f → ds[i]? = some d → Reads enc P w f.type ((cs.drop f.offset).take (P.cellsOf f.type)) d) → ∀ M, Opened M h w →
    ∃ M', Opened M' r.2 w ∧ Mle M M' ∧ VRs M'.h r.1 ((cs.drop o).take r.1.length) ∧ ∀ c ∈ r.1, oneT c = true
  | [], [], o, h, r, hr, hd, M, hB => by
    simp only [encF, Option.some.injEq] at hr; subst hr
    exact ⟨M, hB, .refl M, by simpa using VRs.nil, by simp⟩
  | [], d :: ds, o, h, r, hr, hd, M, hB => by simp [encF] at hr
  | f :: fs, [], o, h, r, hr, hd, M, hB => by simp [encF] at hr
  | f :: fs, d :: ds, o, h, r, hr, hd, M, hB => by
    simp only [encF] at hr
    split at hr
    · rename_i c h1 hc
      split at hr
      · rename_i hn
        obtain ⟨ho, hn⟩ := hn
        split at hr
        · rename_i cs' h2 hcs
          simp only [Option.some.injEq] at hr; subst hr
          obtain ⟨M1, b1, m1, v1, o1⟩ := hg f.type d h (c, h1) hc _ (hd 0 f d rfl rfl) M hB
          obtain ⟨M2, b2, m2, v2, o2⟩ := encF_ok hg fs ds (o + c.length) h1 (cs', h2) hcs (fun i f' d' e1 e2 => hd (i + 1) f' d' (by simpa using e1) (by simpa using e2)) M1 b1
          refine ⟨M2, b2, m1.trans m2, ?_, ?_⟩
          · have := (v1.mono m2.h).append v2
            rw [ho, ← hn] at this
            simp only at this ⊢
            rw [List.length_append, List.take_add, List.drop_drop]
            exact this
          · intro x hx
            rcases List.mem_append.1 hx with hx | hx
            · exact o1 x hx
            · exact o2 x hx
        · cases hr
      · cases hr
    · cases hr
theorem flatten_get {n : Nat} : ∀ {css : List (List Value)}, (∀ cs ∈ css, cs.length = n) → ∀ (i j : Nat), j < n → css.flatten[i * n + j]? = (css[i]?).bind (·[j]?)
  | [], _, i, j, _ => by simp
  | cs :: css, h, 0, j, hj => by
    have := h cs List.mem_cons_self
    simp only [List.flatten_cons, Nat.zero_mul, Nat.zero_add]
    rw [List.getElem?_append_left (by omega)]
    simp
  | cs :: css, h, i + 1, j, hj => by
    have hc := h cs List.mem_cons_self
    simp only [List.flatten_cons]
    rw [List.getElem?_append_right (by rw [hc, Nat.add_mul, Nat.one_mul]; omega), hc]
    rw [show (i + 1) * n + j - n = i * n + j by rw [Nat.add_mul, Nat.one_mul]; omega]
    rw [flatten_get (fun x hx => h x (List.mem_cons_of_mem _ hx)) i j hj]
    simp
theorem ro_push {M : Mp} {h : List HB} (hB : Opened M h w) {cs : List TV} {ls : List Pl} (h1 : ∀ c ∈ cs, oneT c = true) (h2 : ∀ p ∈ ls, PlOk M.h w .ro cs p) :
    ∃ M', Opened M' (h ++ [.cells .ro cs]) w ∧ Mle M M' ∧ M' (.h h.length) = some (.cells ls) := by
  have hget : ctH h (.h h.length) = none := by simp [ctH, St.get]
  have hnh : M (.h h.length) = none := by
    cases hm : M (.h h.length) with
    | none => rfl
    | some l => have := hB.base.val.has hm; rw [hget] at this; cases this
  have hle : Mle M (updM M (.h h.length) (.cells ls)) := updM_le fun l0 h0 => by rw [hnh] at h0; cases h0
  have hg : ctH (h ++ [.cells .ro cs]) = updC (ctH h) (.h h.length) (.cells .ro cs) := get_push ⟨[], [], h, []⟩ _ [] []
  have hro : ∀ b ∈ h ++ [HB.cells .ro cs], wr b = false := fun b hb => by
    rcases List.mem_append.1 hb with hb | hb
    · exact hB.ro b hb
    · simp at hb; subst hb; rfl
  refine ⟨updM M (.h h.length) (.cells ls), ⟨⟨⟨?_, ?_, ?_⟩, fun k => ?_⟩, hro⟩, hle, by simp [updM]⟩
  · intro k l hk _
    rw [hg]
    by_cases hkk : k = .h h.length
    · subst hkk
      simp only [updM, if_true, Option.some.injEq] at hk; subst hk
      exact ⟨.cells .ro cs, by simp [updC], h1, fun p hp => (h2 p hp).mono hle.h rfl, by simp, by simp⟩
    · simp only [updM, hkk, if_false] at hk
      obtain ⟨b, g1, g2⟩ := hB.base.val.ok k l hk trivial
      exact ⟨b, by simp [updC, hkk, g1], g2.mono hle.h fun _ _ => rfl⟩
  · intro k k' l l' b hne hk hk' _ hb hw
    have : wr b = false := by
      cases k with
      | h x => exact hro b (List.mem_of_getElem? hb)
      | l x => simp [ctH, St.get] at hb
    rw [this] at hw; cases hw
  · intro k l hk c hc
    by_cases hkk : k = .h h.length
    · subst hkk
      simp only [updM, if_true, Option.some.injEq] at hk; subst hk
      obtain ⟨p, hp, rfl⟩ := List.mem_map.1 hc
      obtain ⟨arr, ty, fz, g1, _⟩ := (h2 p hp).row
      exact (Array.getElem?_eq_some_iff.1 g1).1
    · simp only [updM, hkk, if_false] at hk
      exact hB.base.val.inb k l hk c hc
  · simp [updM]; exact hB.base.loc k
theorem encT_ok : ∀ g, EncOk enc P w (encT P g)
  | 0 => by intro t d h r hr; simp [encT] at hr
  | g + 1 => by
    intro t d h r hr cs hd M hB
    obtain ⟨fuel, ps, hd⟩ := hd
    have ih := encT_ok g
    simp only [encT] at hr
    split at hr
    · -- bool
      rename_i b hu
      simp only [Option.some.injEq] at hr; subst hr
      refine ⟨M, hB, .refl M, ?_, by simp [oneT]⟩
      cases fuel with
      | zero => simp [DataW.trod] at hd
      | succ n =>
        unfold DataW.trod at hd
        rw [hu] at hd
        split at hd <;> simp_all
        exact .cons (.bool _) .nil
    · -- int
      rename_i k0 k n hu
      simp only [Option.some.injEq] at hr; subst hr
      refine ⟨M, hB, .refl M, ?_, by simp [oneT]⟩
      cases fuel with
      | zero => simp [DataW.trod] at hd
      | succ n =>
        unfold DataW.trod at hd
        rw [hu] at hd
        split at hd <;> simp_all
        exact .cons (.int _ _) .nil
    · -- string
      rename_i bs hu
      simp only [Option.some.injEq] at hr; subst hr
      refine ⟨M, hB, .refl M, ?_, by simp [oneT]⟩
      cases fuel with
      | zero => simp [DataW.trod] at hd
      | succ n =>
        unfold DataW.trod at hd
        rw [hu] at hd
        split at hd <;> simp_all
        obtain ⟨_, rfl, _⟩ := hd
        exact .cons (.str _) .nil
    · -- nil slice
      rename_i e hu
      simp only [Option.some.injEq] at hr; subst hr
      refine ⟨M, hB, .refl M, ?_, by simp [oneT]⟩
      rcases Deep.open_slice hu hd with ⟨rfl, _⟩ | ⟨a, len, cap, m, n, Dt, Pl, _, _, _, _, _, hx, _⟩
      · exact .cons .nslc .nil
      · cases hx
    · -- a slice
      rename_i e xs ys hu
      split at hr
      · rename_i cells h1 hl
        split at hr
        · cases hr
        · rename_i hn0
          simp only [Option.some.injEq] at hr; subst hr
          rcases Deep.open_slice hu hd with ⟨rfl, hx⟩ | ⟨a, len, cap, m, n, Dt, Pl, rfl, _, hlc, _, hm, hx, hat⟩
          · cases hx
          · simp only [if_true] at hm
            have hm' := hm.symm
            subst hm'
            simp only [Prod.mk.injEq, DataW.slice.injEq] at hx
            obtain ⟨⟨hxs, hys⟩, _⟩ := hx
            have lxs : xs.length = len := by rw [hxs]; simp
            have lys : ys.length = cap - len := by rw [hys]; simp
            have hds : ∀ i, i < cap → (xs ++ ys)[i]? = some (Dt i) := by
              intro i hi
              by_cases h1 : i < len
              · rw [List.getElem?_append_left (by omega), hxs]
                simp [h1]
              · rw [List.getElem?_append_right (by omega), lxs, hys]
                have h2 : i - len < cap - len := by omega
                simp [h2, show len + (i - len) = i by omega]
            have hn := hat
            let css : List (List Value) := (List.range cap).map fun i => (w.cells? 0 (a.add (i * P.cellsOf e)) (P.cellsOf e)).getD []
            have hcs : ∀ i, i < cap → ∃ cs', css[i]? = some cs' ∧ w.cells? 0 (a.add (i * P.cellsOf e)) (P.cellsOf e) = some cs' ∧ DataW.trod enc P w 0 (fun _ => true) true n e cs' = some (Dt i, Pl i) := by
              intro i hi
              obtain ⟨cs', e1, e2⟩ := hat i hi
              exact ⟨cs', by simp [css, hi, e1], e1, e2⟩
            have lcss : css.length = cap := by simp [css]
            obtain ⟨M1, b1, m1, v1, o1, l1, u1⟩ := encL_ok ih (xs ++ ys) css h (cells, h1) hl (by simp [lcss, lxs, lys]; omega) (fun i d cs e1 e2 => by
              have hi : i < cap := by rw [← lcss]; exact (List.getElem?_eq_some_iff.1 e2).1
              obtain ⟨cs', f1, f2, f3⟩ := hcs i hi
              rw [f1] at e2; cases e2
              rw [hds i hi] at e1; cases e1
              exact ⟨n, _, f3⟩) M hB
            simp only at b1 v1 o1 l1
            have l1' : cells.length = cap * P.cellsOf e := by rw [l1]; simp [lxs, lys]; congr 1; omega
            have hn0' : 0 < P.cellsOf e := by omega
            have e1 : xs.length + ys.length = cap := by omega
            show ∃ M', Opened M' (h1 ++ [.cells .ro cells]) w ∧ Mle M M' ∧ VRs M'.h [.slc h1.length 0 xs.length (xs.length + ys.length) (P.cellsOf e) true] [.slice (some a) len cap] ∧ ∀ c ∈ [TV.slc h1.length 0 xs.length (xs.length + ys.length) (P.cellsOf e) true], oneT c = true
            rw [e1, lxs]
            by_cases hc0 : cap = 0
            · obtain ⟨M2, b2, m2, k2⟩ := ro_push b1 (cs := cells) (ls := []) o1 (by simp)
              refine ⟨M2, b2, m1.trans m2, .cons (.slc (p := ⟨0, 0, 0, 0⟩) k2 (.inl hc0) ?_ ?_ ?_ ?_ (.inl hc0)) .nil, by intro c hc; simp at hc; subst hc; rfl⟩
              · have : len = 0 := by omega
                simp [this]
              · omega
              · omega
              · intro _; omega
            · have hcell : ∀ k, k < cap * P.cellsOf e → w.cell? (a.add k) = css.flatten[k]? := by
                intro k hk
                have hj : k % P.cellsOf e < P.cellsOf e := Nat.mod_lt _ hn0'
                have hi : k / P.cellsOf e < cap := by rw [Nat.div_lt_iff_lt_mul hn0']; exact hk
                have hkk : k / P.cellsOf e * P.cellsOf e + k % P.cellsOf e = k := by
                  rw [Nat.mul_comm]; exact Nat.div_add_mod k _
                obtain ⟨cs', f1, f2, _⟩ := hcs _ hi
                obtain ⟨_, _, f3⟩ := World.cells?_some f2
                have f4 := f3 _ hj
                rw [Deep.add_add, hkk] at f4
                have f5 := flatten_get u1 (k / P.cellsOf e) (k % P.cellsOf e) hj
                rw [hkk, f1] at f5
                rw [f4, f5]; rfl
              have hpos : 0 < cap * P.cellsOf e := Nat.mul_pos (by omega) hn0'
              have lfl : css.flatten.length = cap * P.cellsOf e := by rw [← v1.len, l1']
              have h00 := hcell 0 hpos
              have hv0 : css.flatten[0]? = some (css.flatten[0]'(by omega)) := List.getElem?_eq_getElem _
              rw [hv0, Addr.add, if_pos rfl] at h00
              have hrow : ∃ arr ty fz, w.heap[a.block]? = some (.cells arr ty fz) ∧ a.spot = none := by
                unfold World.cell? at h00
                split at h00
                · rename_i c ty fz hh
                  split at h00
                  · cases h00
                  · rename_i hsp
                    exact ⟨c, ty, fz, hh, by simpa using hsp⟩
                · cases h00
              obtain ⟨arr, ty, fz, hh, hsp⟩ := hrow
              have hcellarr : ∀ k, w.cell? (a.add k) = arr[a.off + k]? := by
                intro k
                unfold World.cell? Addr.add
                by_cases hk : k = 0
                · subst hk; simp [hh, hsp]
                · simp [hk, hh]
              have hbound : a.off + cap * P.cellsOf e ≤ arr.size := by
                have h1 := hcell (cap * P.cellsOf e - 1) (by omega)
                rw [hcellarr, List.getElem?_eq_getElem (by omega)] at h1
                have := (Array.getElem?_eq_some_iff.1 h1).1
                omega
              obtain ⟨M2, b2, m2, k2⟩ := ro_push b1 (cs := cells) (ls := [⟨a.block, a.off, cap * P.cellsOf e, arr.size⟩]) o1 (by
                intro p hp
                simp at hp; subst hp
                refine ⟨⟨arr, ty, fz, hh, rfl, by simp, fun i c v hi e1 e2 => ?_⟩, hbound, Nat.le_of_eq l1'.symm, by simp⟩
                simp only at hi e2
                rw [← hcellarr, hcell i hi] at e2
                exact v1.at_ i c v e1 e2)
              refine ⟨M2, b2, m1.trans m2, .cons (.slc (p := ⟨a.block, a.off, cap * P.cellsOf e, arr.size⟩) k2 (.inr (by simp)) ?_ ?_ ?_ ?_ (.inr ⟨?_, ?_⟩)) .nil, by intro c hc; simp at hc; subst hc; rfl⟩
              · have := Nat.mul_le_mul_right (P.cellsOf e) hlc
                simpa using this
              · omega
              · omega
              · intro _; omega
              · cases a; simp_all
              · simpa using hbound
      · cases hr
    · -- a struct
      rename_i fs ds hu
      split at hr
      · rename_i cs' h1 hl
        split at hr
        · rename_i hlen
          simp only [Option.some.injEq] at hr; subst hr
          obtain ⟨zs, n, _, hx, hcl, hzl, hat⟩ := DataW.trod_struct hu hd
          simp only [Prod.mk.injEq, DataW.agg.injEq] at hx
          obtain ⟨rfl, _⟩ := hx
          obtain ⟨M', b1, m1, v1, o1⟩ := encF_ok ih fs.toList _ 0 h (cs', h1) hl (cs := cs) (fun i f d e1 e2 => by
            have e1' : fs[i]? = some f := by simpa using e1
            simp only [List.getElem?_map, Option.map_eq_some_iff] at e2
            obtain ⟨z, hz, rfl⟩ := e2
            exact ⟨n, z.2, by rw [hat i f e1', hz]⟩) M hB
          refine ⟨M', b1, m1, ?_, o1⟩
          simp only at v1 ⊢
          rw [hlen, ← hcl] at v1
          simpa using v1
        · cases hr
      · cases hr
    · cases hr
end
end Tw
namespace Tw
open Go Go.ChangeShapes Go.WideShapes Go.RowKit
section
variable {H : Type} {enc : TypeId × Value → H} {P : Program} {W W' : World}
def encA (P : Program) (g : Nat) : List TypeId → List (DataW H) → List HB → Option (List TV × List HB)
  | [], [], h => some ([], h)
  | t :: ts, d :: ds, h => match encT P g t d h with
    | some (c, h1) => match isAggT P t, c, encA P g ts ds h1 with
      | some true, c, some (az, h2) => some (.agg c :: az, h2)
      | some false, [x], some (az, h2) => some (x :: az, h2)
      | _, _, _ => none
    | none => none
  | _, _, _ => none
theorem okWide_one {r : Reach} {b : Nat} {t : TypeId} {v : Value} (ha : isAggT P t = some false) (h : Value.okWide P W r b t v) : v.cells.toList = [v] := by
  unfold isAggT at ha
  unfold Value.okWide at h
  cases hu : P.underlying t with
  | none => simp [hu] at ha
  | some u =>
    rw [hu] at ha h
    cases v with
    | agg cs => cases u <;> simp_all [Cell.okWide, Cell.ok]
    | _ => rfl
theorem okWide_agg {r : Reach} {b : Nat} {t : TypeId} {v : Value} (ha : isAggT P t = some true) (h : Value.okWide P W r b t v) : ∃ cs, v = .agg cs := by
  unfold isAggT at ha
  unfold Value.okWide at h
  cases hu : P.underlying t with
  | none => simp [hu] at ha
  | some u =>
    rw [hu] at ha h
    cases u <;> simp_all <;> exact ⟨_, h.choose_spec.1⟩
theorem encA_ok {r : Reach} {b g : Nat} : ∀ {ts : List TypeId} {vs : List Value} {ds : List (DataW H)} {ps : List MemPlace} {h : List HB} {x : List TV × List HB} {M : Mp},
    DataW.TrodAll enc P W 0 (fun _ => true) true ts vs ds ps → (∀ (j : Nat) t v, ts[j]? = some t → vs[j]? = some v → Value.okWide P W r b t v) → encA P g ts ds h = some x → Opened M h W →
    ∃ M', Opened M' x.2 W ∧ Mle M M' ∧ VRs M'.h x.1 vs
  | [], vs, ds, ps, h, x, M, ht, ho, he, hB => by
    obtain ⟨rfl, rfl, rfl⟩ := trodAll_nil ht
    simp only [encA, Option.some.injEq] at he; subst he
    exact ⟨M, hB, .refl M, .nil⟩
  | t :: ts, vs, ds, ps, h, x, M, ht, ho, he, hB => by
    obtain ⟨v, vs', d, ds', p, q, rfl, rfl, rfl, hd, hrest⟩ := trodAll_cons ht
    simp only [encA] at he
    split at he
    · rename_i c h1 hc
      obtain ⟨fuel, hf⟩ := hd
      obtain ⟨M1, b1, m1, v1, o1⟩ := encT_ok (enc := enc) (P := P) (w := W) g t d h (c, h1) hc v.cells.toList ⟨fuel, p, hf⟩ M hB
      split at he
      · rename_i az h2 ha hr
        simp only [Option.some.injEq] at he; subst he
        obtain ⟨M2, b2, m2, v2⟩ := encA_ok (x := (az, h2)) hrest (fun j t' v' e1 e2 => ho (j + 1) t' v' (by simpa using e1) (by simpa using e2)) hr b1
        obtain ⟨cs, rfl⟩ := okWide_agg ha (ho 0 t v rfl rfl)
        refine ⟨M2, b2, m1.trans m2, .cons ?_ v2⟩
        have := VR.agg' (v1.mono m2.h)
        simpa [Value.cells] using this
      · rename_i y az h2 ha hr
        simp only [Option.some.injEq] at he; subst he
        obtain ⟨M2, b2, m2, v2⟩ := encA_ok (x := (az, h2)) hrest (fun j t' v' e1 e2 => ho (j + 1) t' v' (by simpa using e1) (by simpa using e2)) hr b1
        have h1c := okWide_one ha (ho 0 t v rfl rfl)
        rw [h1c] at v1
        obtain ⟨z, zs, e1, e2, e3⟩ := (v1.mono m2.h).inv_cons
        simp only [List.cons.injEq] at e1
        obtain ⟨rfl, rfl⟩ := e1
        exact ⟨M2, b2, m1.trans m2, .cons e2 v2⟩
      · cases he
    · cases he
theorem trodAll_below (hl : laidOutB P = true) (hb : Below W.heap.size W W') : ∀ {ts : List TypeId} {vs : List Value} {ds : List (DataW H)} {ps : List MemPlace},
    (ts.all fun t => P.readableRec t && decide (t < P.types.size)) = true → DataW.TrodAll enc P W 0 (fun _ => true) true ts vs ds ps → (∀ x ∈ ps, x.block < W.heap.size) →
    DataW.TrodAll enc P W' 0 (fun b => decide (b < W.heap.size)) true ts vs ds ps
  | [], _, _, _, _, h, _ => by
    obtain ⟨rfl, rfl, rfl⟩ := trodAll_nil h
    rfl
  | t :: ts, _, _, _, ho, h, hlt => by
    obtain ⟨v, vs', d, ds', p, q, rfl, rfl, rfl, hd, hrest⟩ := trodAll_cons h
    simp only [List.all_cons, Bool.and_eq_true, decide_eq_true_eq] at ho
    exact ⟨p, q, Below.trod hl ho.1.1 ho.1.2 hd hb (fun x hx => hlt x (List.mem_append_left _ hx)), trodAll_below hl hb ho.2 hrest (fun x hx => hlt x (List.mem_append_right _ hx)), rfl⟩
theorem post_true {f : Func} {s : ChangeSpec} {args : Array Value} {ds : List (DataW H)} {before : List MemPlace} {tb : TypeId} (hl : laidOutB P = true) (hv : s.vars = []) (hs : s.fn H ds = { results := [.lit (.bool true)], args := ds })
    (hf : f.resultTypes = #[tb]) (htb : P.underlying tb = some .bool) (hp : (f.params.toList.all fun t => P.readableRec t && decide (t < P.types.size)) = true)
    (hW : DataW.Whole enc P f.params.toList s.vars false W args.toList ds [] before) (hb : Below W.heap.size W W') : s.post enc P f false true false false W args (.bool true) W' := by
  have hW' := hW
  obtain ⟨p, q, hA, hV, rfl, hfz, hnd⟩ := hW
  rw [hv] at hV
  have hq : q = [] := hV
  subst hq
  have hlt : ∀ x ∈ p, x.block < W.heap.size := fun x hx => by simpa using hW'.lt x (List.mem_append_left _ hx)
  refine ⟨ds, [], p ++ [], [], p, [], hW', ?_, ?_, ?_, hb.frame _, by simp⟩
  · rw [List.append_nil, hs, hf]
    refine ⟨[], [], ⟨1, ?_⟩, rfl, rfl⟩
    simp [DataW.trod, htb, Value.cells]
  · rw [List.append_nil, hs]
    exact trodAll_below hl hb hp hA hlt
  · rw [List.append_nil, hs, hv]
    rfl
theorem law_calls {T : Tab} {L n g fnum : Nat} {f : Func} {s : ChangeSpec} {args : Array Value} {ds : List (DataW H)} {before : List MemPlace} {tb : TypeId} {r : Reach} {b : Nat} (hm : P.follows .mixedOrders = true)
    (hl : laidOutB P = true) (hv : s.vars = []) (hs : s.fn H ds = { results := [.lit (.bool true)], args := ds })
    (hf : f.resultTypes = #[tb]) (htb : P.underlying tb = some .bool) (hp : (f.params.toList.all fun t => P.readableRec t && decide (t < P.types.size)) = true)
    (hW : DataW.Whole enc P f.params.toList s.vars false W args.toList ds [] before)
    (hval : ∀ (j : Nat) t v, f.params[j]? = some t → args[j]? = some v → Value.okWide P W r b t v)
    {az : List TV} {h h' : List HB} (he : encA P g f.params.toList ds [] = some (az, h)) (hr : run P T L (n + 1) fnum az h = some (.bool true, h', [])) :
    Calls P fnum args W fun e W' => ∃ v, e = .returned v ∧ s.post enc P f false true false false W args v W' := by
  obtain ⟨p, q, hA, _⟩ := id hW
  have h0 : Opened (fun _ => none) [] W := ⟨⟨⟨by simp, by simp, by simp⟩, by simp⟩, by simp⟩
  obtain ⟨M', b1, _, v1⟩ := encA_ok hA (fun j t v e1 e2 => hval j t v (by simpa using e1) (by simpa using e2)) he h0
  have hc := run_ok hm hr b1.base.val b1.base.loc v1 0
  refine (callsIn_wide.1 hc).mono fun e W' hR => ?_
  cases e with
  | panicked c => exact hR.elim
  | outgrown => exact hR.elim
  | returned v =>
    obtain ⟨M2, _, _, hX, hv'⟩ := hR
    cases hv'
    refine ⟨_, rfl, post_true hl hv hs hf htb hp hW ⟨hX.os, hX.tape, hX.output, hX.size, fun k hk => hX.frame k hk (by simp)⟩⟩
end
end Tw
namespace Tw
open Go Go.ChangeShapes
section
variable {H : Type} {encH : TypeId × Value → H} {P : Program} {w : World}
def Rd (encH : TypeId × Value → H) (P : Program) (w : World) (t : TypeId) (d : DataW H) : Prop := ∃ cs, Reads encH P w t cs d
def Flat {α : Type} (encH : TypeId × Value → H) (P : Program) (w : World) (g : Nat) (t : TypeId) (enc : α → List TV) (Q : α → Prop) : Prop :=
  ∀ d, Rd encH P w t d → ∃ a : α, Q a ∧ ∀ h, encT P g t d h = some (enc a, h)
theorem rd_int {t : TypeId} {k : IntKind} {d : DataW H} (ht : P.underlying t = some (.int k)) (hd : Rd encH P w t d) : ∃ n, d = .lit (.int k n) ∧ (Lit.int k n).wf = true := by
  obtain ⟨cs, fuel, ps, hd⟩ := hd
  cases fuel with
  | zero => simp [DataW.trod] at hd
  | succ n =>
    unfold DataW.trod at hd
    rw [ht] at hd
    split at hd <;> simp_all
    obtain ⟨⟨_, h1⟩, rfl, _⟩ := hd
    exact ⟨_, rfl, h1⟩
theorem rd_str {t : TypeId} {d : DataW H} (ht : P.underlying t = some .string) (hd : Rd encH P w t d) : ∃ bs, d = .lit (.string bs) := by
  obtain ⟨cs, fuel, ps, hd⟩ := hd
  cases fuel with
  | zero => simp [DataW.trod] at hd
  | succ n =>
    unfold DataW.trod at hd
    rw [ht] at hd
    split at hd <;> simp_all
    exact ⟨_, hd.2.1.symm⟩
theorem rd_struct {t : TypeId} {fs : Array Field} {d : DataW H} (ht : P.underlying t = some (.struct fs)) (hd : Rd encH P w t d) :
    ∃ ds, d = .agg ds ∧ ds.length = fs.size ∧ ∀ (i : Nat) f d', fs[i]? = some f → ds[i]? = some d' → Rd encH P w f.type d' := by
  obtain ⟨cs, fuel, ps, hd⟩ := hd
  obtain ⟨zs, n, _, hx, hcl, hzl, hat⟩ := DataW.trod_struct ht hd
  simp only [Prod.mk.injEq] at hx
  refine ⟨zs.map (·.1), hx.1, by simpa using hzl, fun i f d' e1 e2 => ?_⟩
  simp only [List.getElem?_map, Option.map_eq_some_iff] at e2
  obtain ⟨z, hz, rfl⟩ := e2
  exact ⟨_, n, z.2, by rw [hat i f e1, hz]⟩
theorem rd_slice {t e : TypeId} {d : DataW H} (ht : P.underlying t = some (.slice e)) (hd : Rd encH P w t d) :
    d = .nil ∨ ∃ xs ys, d = .slice xs ys ∧ ∀ y ∈ xs ++ ys, Rd encH P w e y := by
  obtain ⟨cs, fuel, ps, hd⟩ := hd
  rcases Deep.open_slice ht hd with ⟨rfl, hx⟩ | ⟨a, len, cap, m, n, Dt, Pl, rfl, _, hlc, _, hm, hx, hat⟩
  · left; cases hx; rfl
  · right
    simp only [if_true] at hm
    subst hm
    simp only [Prod.mk.injEq] at hx
    refine ⟨_, _, hx.1, fun y hy => ?_⟩
    have : ∃ i, i < m ∧ y = Dt i := by
      rcases List.mem_append.mp hy with hy | hy
      · obtain ⟨i, hi, rfl⟩ := List.mem_map.mp hy
        exact ⟨i, by have := List.mem_range.mp hi; omega, rfl⟩
      · obtain ⟨i, hi, rfl⟩ := List.mem_map.mp hy
        exact ⟨len + i, by have := List.mem_range.mp hi; omega, rfl⟩
    obtain ⟨i, hi, rfl⟩ := this
    obtain ⟨cs', _, e2⟩ := hat i hi
    exact ⟨cs', n, _, e2⟩
theorem encT_struct {t : TypeId} {fs : Array Field} {g : Nat} {ds : List (DataW H)} {h : List HB} (ht : P.underlying t = some (.struct fs)) :
    encT P (g + 1) t (.agg ds) h = match encF P (encT P g) 0 fs.toList ds h with
      | some (cs, h1) => if cs.length = P.cellsOf t then some (cs, h1) else none
      | none => none := by
  simp only [encT, ht] <;> rfl
theorem flat_int {t : TypeId} {k : IntKind} {g : Nat} (ht : P.underlying t = some (.int k)) : Flat encH P w (g + 1) t (fun n : Int => [TV.int k n]) (fun n => (Lit.int k n).wf = true) := by
  intro d hd
  obtain ⟨n, rfl, hw⟩ := rd_int ht hd
  exact ⟨n, hw, fun h => by simp [encT, ht]⟩
theorem encL_flat {α : Type} {enc : α → List TV} {Q : α → Prop} {g sz : Nat} {e : TypeId} (hf : Flat encH P w g e enc Q) (hlen : ∀ a, (enc a).length = sz) : ∀ (ds : List (DataW H)), (∀ y ∈ ds, Rd encH P w e y) →
    ∃ l : List α, l.length = ds.length ∧ (∀ a ∈ l, Q a) ∧ ∀ h, encL (encT P g e) sz ds h = some ((l.map enc).flatten, h)
  | [], _ => ⟨[], rfl, by simp, fun h => rfl⟩
  | d :: ds, hd => by
    obtain ⟨a, qa, ha⟩ := hf d (hd d List.mem_cons_self)
    obtain ⟨l, h1, h2, h3⟩ := encL_flat hf hlen ds fun y hy => hd y (List.mem_cons_of_mem _ hy)
    refine ⟨a :: l, by simp [h1], ?_, fun h => ?_⟩
    · intro x hx
      rcases List.mem_cons.mp hx with rfl | hx
      · exact qa
      · exact h2 x hx
    · simp only [encL, ha h, hlen a, if_true, h3 h, List.map_cons, List.flatten_cons]
theorem flatten_len {α : Type} {enc : α → List TV} {sz : Nat} (hlen : ∀ a, (enc a).length = sz) : ∀ l : List α, (l.map enc).flatten.length = l.length * sz
  | [] => by simp
  | a :: l => by simp only [List.map_cons, List.flatten_cons, List.length_append, List.length_cons, Nat.add_mul, Nat.one_mul, flatten_len hlen l, hlen]; omega
theorem flatten_take {α : Type} {enc : α → List TV} {sz : Nat} (hlen : ∀ a, (enc a).length = sz) : ∀ (l : List α) (n : Nat), (l.map enc).flatten.take (n * sz) = ((l.take n).map enc).flatten
  | [], n => by simp
  | a :: l, 0 => by simp
  | a :: l, n + 1 => by
    simp only [List.map_cons, List.flatten_cons, List.take_succ_cons]
    rw [List.take_append, List.take_of_length_le (by rw [hlen, Nat.add_mul]; omega), hlen, show (n + 1) * sz - sz = n * sz by rw [Nat.add_mul]; omega, flatten_take hlen l n]
theorem rd_list {α : Type} {enc : α → List TV} {Q : α → Prop} {g sz : Nat} {t e : TypeId} {d : DataW H} (ht : P.underlying t = some (.slice e)) (hsz : P.cellsOf e = sz) (h0 : 0 < sz) (hf : Flat encH P w g e enc Q) (hlen : ∀ a, (enc a).length = sz) (hd : Rd encH P w t d) :
    ∃ l : List α, (∀ a ∈ l, Q a) ∧ ∀ h, ∃ x ext, encT P (g + 1) t d h = some ([x], h ++ ext) ∧ SV (h ++ ext) x sz enc l := by
  rcases rd_slice ht hd with rfl | ⟨xs, ys, rfl, hy⟩
  · exact ⟨[], by simp, fun h => ⟨.nil .slc, [], by simp [encT, ht], .inl ⟨rfl, rfl⟩⟩⟩
  · obtain ⟨l, h1, h2, h3⟩ := encL_flat hf hlen (xs ++ ys) hy
    have hl : xs.length ≤ l.length := by rw [h1, List.length_append]; omega
    refine ⟨l.take xs.length, fun a ha => h2 a (List.mem_of_mem_take ha), fun h => ⟨.slc h.length 0 xs.length (xs.length + ys.length) sz true, [.cells .ro (l.map enc).flatten], ?_, ?_⟩⟩
    · have hne : ¬ sz = 0 := by omega
      simp only [encT, ht, hsz, h3 h, hne, if_false]
    · refine .inr ⟨h.length, 0, _, true, by rw [List.length_take, Nat.min_eq_left hl], ?_⟩
      refine ⟨fun r hr => ?_, _, blkCells_new, ?_⟩
      · obtain ⟨a, _, rfl⟩ := List.mem_map.mp hr
        exact hlen a
      · unfold sub
        rw [List.length_map, List.length_take, Nat.min_eq_left hl, if_pos (by rw [flatten_len hlen]; have := Nat.mul_le_mul_right sz hl; omega), List.drop_zero, flatten_take hlen]
end
end Tw
namespace Go.Proofs.YtfhiejgoemcelaaGreat
open Go Tw
theorem Tryz.cells62 : Tryz.prog.cellsOf 62 = 3 := by kernel_rfl
theorem Tryz.cells60 : Tryz.prog.cellsOf 60 = 5 := by kernel_rfl
theorem Tryz.cells26 : Tryz.prog.cellsOf 26 = 3 := by kernel_rfl
theorem Tryz.cells22 : Tryz.prog.cellsOf 22 = 1 := by kernel_rfl
theorem Tryz.cells23 : Tryz.prog.cellsOf 23 = 1 := by kernel_rfl
theorem Tryz.cells24 : Tryz.prog.cellsOf 24 = 1 := by kernel_rfl
theorem Tryz.cells3 : Tryz.prog.cellsOf 3 = 1 := by kernel_rfl
theorem Tryz.cells9 : Tryz.prog.cellsOf 9 = 1 := by kernel_rfl
theorem Tryz.cells5 : Tryz.prog.cellsOf 5 = 1 := by kernel_rfl
section
variable {H : Type} {encH : TypeId × Value → H} {w : World}
def Wf64 (n : Int) : Prop := (Lit.int .i64 n).wf = true
def Wf8 (n : Int) : Prop := (Lit.int .u8 n).wf = true
theorem flat_i64 {g : Nat} : Flat encH Tryz.prog w (g + 1) 3 I.tvs Wf64 := flat_int Tryz.underlying3
structure OWf (o : O) : Prop where
  code : Wf8 o.code
  a : Wf64 o.a
  b : Wf64 o.b
  c : Wf64 o.c
  n : Wf64 o.n
structure KWf (k : K) : Prop where
  lo : Wf64 k.lo
  hi : Wf64 k.hi
theorem three {α : Type} {l : List α} (h : l.length = 3) : ∃ a b c, l = [a, b, c] := by
  match l, h with
  | [a, b, c], _ => exact ⟨a, b, c, rfl⟩
theorem five {α : Type} {l : List α} (h : l.length = 5) : ∃ a b c d e, l = [a, b, c, d, e] := by
  match l, h with
  | [a, b, c, d, e], _ => exact ⟨a, b, c, d, e, rfl⟩
theorem flat_O {g : Nat} : Flat encH Tryz.prog w (g + 2) 60 O.tvs OWf := by
  intro d hd
  obtain ⟨ds, rfl, hl, hat⟩ := rd_struct Tryz.underlying60 hd
  obtain ⟨a, b, c, e, f, rfl⟩ := five hl
  obtain ⟨x, rfl, wx⟩ := rd_int Tryz.underlying5 (hat 0 _ a rfl rfl)
  obtain ⟨y, rfl, wy⟩ := rd_int Tryz.underlying3 (hat 1 _ b rfl rfl)
  obtain ⟨z, rfl, wz⟩ := rd_int Tryz.underlying3 (hat 2 _ c rfl rfl)
  obtain ⟨u, rfl, wu⟩ := rd_int Tryz.underlying3 (hat 3 _ e rfl rfl)
  obtain ⟨v, rfl, wv⟩ := rd_int Tryz.underlying3 (hat 4 _ f rfl rfl)
  exact ⟨⟨x, y, z, u, v⟩, ⟨wx, wy, wz, wu, wv⟩, fun h => by simp [encT, encF, Tryz.underlying60, Tryz.underlying3, Tryz.underlying5, Tryz.cells60, Tryz.cells3, Tryz.cells5]⟩
theorem flat_K {g : Nat} : Flat encH Tryz.prog w (g + 2) 62 K.tvs KWf := by
  intro d hd
  obtain ⟨ds, rfl, hl, hat⟩ := rd_struct Tryz.underlying62 hd
  obtain ⟨a, b, c, rfl⟩ := three hl
  obtain ⟨x, rfl⟩ := rd_str Tryz.underlying9 (hat 0 _ a rfl rfl)
  obtain ⟨y, rfl, wy⟩ := rd_int Tryz.underlying3 (hat 1 _ b rfl rfl)
  obtain ⟨z, rfl, wz⟩ := rd_int Tryz.underlying3 (hat 2 _ c rfl rfl)
  exact ⟨⟨⟨x.toArray⟩, y, z⟩, ⟨wy, wz⟩, fun h => by simp [encT, encF, Tryz.underlying62, Tryz.underlying3, Tryz.underlying9, Tryz.cells62, Tryz.cells3, Tryz.cells9]⟩
structure CWf (c : C) : Prop where
  cs : ∀ k ∈ c.cs, KWf k
  os : ∀ o ∈ c.os, OWf o
  rs : ∀ r ∈ c.rs, Wf64 r
theorem rd_core {d : DataW H} {g : Nat} (hd : Rd encH Tryz.prog w 26 d) : ∃ c : C, CWf c ∧ ∀ h, ∃ xc xo xr ext, encT Tryz.prog (g + 4) 26 d h = some ([xc, xo, xr], h ++ ext) ∧
    SV (h ++ ext) xc 3 K.tvs c.cs ∧ SV (h ++ ext) xo 5 O.tvs c.os ∧ SV (h ++ ext) xr 1 I.tvs c.rs := by
  obtain ⟨ds, rfl, hl, hat⟩ := rd_struct Tryz.underlying26 hd
  obtain ⟨a, b, c, rfl⟩ := three hl
  obtain ⟨lc, qc, hc⟩ := rd_list (g := g + 2) Tryz.underlying22 Tryz.cells62 (by decide) flat_K (fun _ => rfl) (hat 0 _ a rfl rfl)
  obtain ⟨lo, qo, ho⟩ := rd_list (g := g + 2) Tryz.underlying23 Tryz.cells60 (by decide) flat_O (fun _ => rfl) (hat 1 _ b rfl rfl)
  obtain ⟨lr, qr, hr⟩ := rd_list (g := g + 2) Tryz.underlying24 Tryz.cells3 (by decide) flat_i64 (fun _ => rfl) (hat 2 _ c rfl rfl)
  refine ⟨⟨lc, lo, lr⟩, ⟨qc, qo, qr⟩, fun h => ?_⟩
  obtain ⟨xc, e1, h1, s1⟩ := hc h
  obtain ⟨xo, e2, h2, s2⟩ := ho (h ++ e1)
  obtain ⟨xr, e3, h3, s3⟩ := hr (h ++ e1 ++ e2)
  refine ⟨xc, xo, xr, e1 ++ e2 ++ e3, ?_, ?_, ?_, ?_⟩
  · simp only [List.append_assoc] at h1 h2 h3 ⊢
    rw [encT_struct Tryz.underlying26]
    simp [encF, Tryz.cells26, Tryz.cells22, Tryz.cells23, Tryz.cells24, h1, h2, h3]
  · have := (s1.app e2).app e3
    simpa only [List.append_assoc] using this
  · have := s2.app e3
    simpa only [List.append_assoc] using this
  · simpa only [List.append_assoc] using s3
end
end Go.Proofs.YtfhiejgoemcelaaGreat
namespace Go.Proofs.YtfhiejgoemcelaaGreat
open Go Tw Go.ChangeShapes Go.WideShapes Go.ChangeAt Go.RowKit
theorem Tryz.own : ownKnob Tryz.prog.godebug = none := by kernel_rfl
theorem Tryz.laidOut : laidOutB Tryz.prog = true := by kernel_rfl
theorem Tryz.mixed : Tryz.prog.follows .mixedOrders = true := by kernel_rfl
theorem trodAll_1 {H : Type} {enc : TypeId × Value → H} {P : Program} {w : World} {t : TypeId} {vs : List Value} {ds : List (DataW H)} {ps : List MemPlace} (h : DataW.TrodAll enc P w 0 (fun _ => true) true [t] vs ds ps) : ∃ d, ds = [d] ∧ Rd enc P w t d := by
  obtain ⟨v, vs', d, ds', p, q, rfl, rfl, rfl, ⟨fuel, hd⟩, hrest⟩ := trodAll_cons h
  obtain ⟨rfl, rfl, rfl⟩ := trodAll_nil hrest
  exact ⟨d, rfl, _, fuel, p, hd⟩
theorem encA_agg {H : Type} {P : Program} {g : Nat} {t : TypeId} {d : DataW H} {cs : List TV} {h h' : List HB} (ha : isAggT P t = some true) (he : encT P g t d h = some (cs, h')) : encA P g [t] [d] h = some ([.agg cs], h') := by
  simp only [encA, he, ha]
theorem agg26 : isAggT Tryz.prog 26 = some true := by kernel_rfl
end Go.Proofs.YtfhiejgoemcelaaGreat
namespace Go.Proofs.YtfhiejgoemcelaaGreat
open Go Tw Go.ChangeShapes Go.WideShapes Go.ChangeAt Go.RowKit
set_option maxRecDepth 100000 in
theorem ReachWidths_lifted (os : Os) (started : os.Started) (H : Type) (enc : TypeId × Value → H) :
    ReturnsInHanded {} Tryz.checked os 8 .any (Rows.reachWidthsSpec.pre6 enc Tryz.prog Tryz.f8 Rows.reachWidthsRow.domain false) (Rows.reachWidthsSpec.post enc Tryz.prog Tryz.f8 false true false false) := by
  refine returnsInHanded_of_change (C := Tryz.checked) Tryz.own started (by kernel_rfl) Tryz.func8
    (ChangeSpec.witness6 (enc := enc) (C := Tryz.checked) false ⟨#[], #[.agg #[.slice none 0 0, .slice none 0 0, .slice none 0 0]], []⟩ 8 (by kernel_rfl) (by kernel_rfl) (by kernel_rfl) (by kernel_rfl)) ?_
  intro W base args ds gs before hval0 hW hcnd _
  have hval : ∀ (j : Nat) t v, Tryz.f8.params[j]? = some t → args[j]? = some v → Value.okWide Tryz.prog W .any base t v := hval0
  have hW' := hW
  obtain ⟨p, q, hA0, hV, rfl, hfz, hnd⟩ := hW
  have hA : DataW.TrodAll enc Tryz.prog W 0 (fun _ => true) true Tryz.f8.params.toList args.toList ds p := hA0
  obtain ⟨rfl, rfl⟩ := trodVars_none hV
  rw [Tryz.params8] at hA
  obtain ⟨d1, rfl, hd1⟩ := trodAll_1 hA
  obtain ⟨c, _, hc⟩ := rd_core (g := 0) hd1
  obtain ⟨xc, xo, xr, ext, he, h1, h2, h3⟩ := hc []
  simp only [List.nil_append] at he h1 h2 h3
  exact law_calls (P := Tryz.prog) (T := T) (L := 30000) (n := 40) (g := 4) Tryz.mixed Tryz.laidOut rfl rfl (by kernel_rfl) Tryz.underlying4 (by kernel_rfl) hW' hval
    (encA_agg agg26 he) (k_ReachWidths (by decide) (Nat.le_refl _) ext xc xo xr c h1 h2 h3)
theorem ReachWidths_holds : Rows.ReachWidthsSaid :=
  OpenClaim.holds_of_wide 8 Tryz.f8 rfl rfl rfl rfl rfl rfl rfl ⟨rfl, rfl, rfl, rfl, rfl⟩ rfl rfl rfl rfl rfl (by kernel_rfl) Tryz.func8 (by kernel_rfl)
    (of_decide_eq_true (by kernel_rfl)) (by unfold Func.isWrapper; first | (rw [if_pos (by decide +kernel)]; kernel_rfl) | (rw [if_neg (by decide +kernel)]; exact ⟨rfl, rfl⟩))
    (fun os started H enc _ => ReachWidths_lifted os started H enc)
end Go.Proofs.YtfhiejgoemcelaaGreat
