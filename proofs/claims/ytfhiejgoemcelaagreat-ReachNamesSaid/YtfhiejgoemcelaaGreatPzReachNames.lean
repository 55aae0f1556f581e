/- The statement mistlaw13.ReachNames: the document's examples, and errors; a closed statement, without conditions. -/
import Derived.Test.YtfhiejgoemcelaaGreatRows
import Derived.ProofKit
import Derived.Test.YtfhiejgoemcelaaGreatPd
set_option linter.constructorNameAsVariable false
set_option linter.unusedVariables false
set_option linter.unusedSimpArgs false
set_option linter.unusedSectionVars false
namespace Go.Proofs.YtfhiejgoemcelaaGreat
open Go Tw Pv
theorem s127A_7 {n : Nat} (hO : Ok n oc56) (l : List B) (ops : List Int) (a b z : B) : Sim X0 Tryz.prog (ApN (n + 1)) (.fn 127 [] [.ptr 1 0 1]) [.agg a.ps, .agg b.ps, .agg z.ps] (RR0 ++ [.list false false 38 l] ++ [.list true true 3 ops]) (bA.put (S_both1 S_sums a b z)) (RR0 ++ [.list false false 38 l] ++ [.list true true 3 ops]) :=
  (sim_is (H1 := (RR0 ++ [.list false false 38 l] ++ [.list true true 3 ops]) ++ [.list true true 5 [a.f, b.f]]) hX hO (first := []) (by kernel_rfl) (.ssh (fun _ => .o le2 .sr) (fun _ => .o le2 .sr))).drop hX rfl rfl
theorem s127A_8 {n : Nat} (hO : Ok n oc56) (l : List B) (ops : List Int) (a b z : B) : Sim X0 Tryz.prog (ApN (n + 1)) (.fn 127 [] [.ptr 2 0 1]) [.agg a.ps, .agg b.ps, .agg z.ps] (RR0 ++ [.list false false 38 l] ++ [.list true true 3 ops]) (bA.put (S_both1 S_differences a b z)) (RR0 ++ [.list false false 38 l] ++ [.list true true 3 ops]) :=
  (sim_is (H1 := (RR0 ++ [.list false false 38 l] ++ [.list true true 3 ops]) ++ [.list true true 5 [a.f, b.f]]) hX hO (first := []) (by kernel_rfl) (.ssh (fun _ => .o le2 .sr) (fun _ => .o le2 .sr))).drop hX rfl rfl
theorem s127A_9 {n : Nat} (hO : Ok n oc56) (l : List B) (ops : List Int) (a b z : B) : Sim X0 Tryz.prog (ApN (n + 1)) (.fn 127 [] [.ptr 3 0 1]) [.agg a.ps, .agg b.ps, .agg z.ps] (RR0 ++ [.list false false 38 l] ++ [.list true true 3 ops]) (bA.put (S_both1 S_products a b z)) (RR0 ++ [.list false false 38 l] ++ [.list true true 3 ops]) :=
  (sim_is (H1 := (RR0 ++ [.list false false 38 l] ++ [.list true true 3 ops]) ++ [.list true true 5 [a.f, b.f]]) hX hO (first := []) (by kernel_rfl) (.ssh (fun _ => .o le2 .sr) (fun _ => .o le2 .sr))).drop hX rfl rfl
theorem s127A_10 {n : Nat} (hO : Ok n oc56) (l : List B) (ops : List Int) (a b z : B) : Sim X0 Tryz.prog (ApN (n + 1)) (.fn 127 [] [.ptr 4 0 1]) [.agg a.ps, .agg b.ps, .agg z.ps] (RR0 ++ [.list false false 38 l] ++ [.list true true 3 ops]) (bA.put (S_both1 S_div a b z)) (RR0 ++ [.list false false 38 l] ++ [.list true true 3 ops]) :=
  (sim_is (H1 := (RR0 ++ [.list false false 38 l] ++ [.list true true 3 ops]) ++ [.list true true 5 [a.f, b.f]]) hX hO (first := []) (by kernel_rfl) (.ssh (fun _ => .o le2 .sr) (fun _ => .o le2 .sr))).drop hX rfl rfl
theorem s127A_11 {n : Nat} (hO : Ok n oc56) (l : List B) (ops : List Int) (a b z : B) : Sim X0 Tryz.prog (ApN (n + 1)) (.fn 127 [] [.ptr 5 0 1]) [.agg a.ps, .agg b.ps, .agg z.ps] (RR0 ++ [.list false false 38 l] ++ [.list true true 3 ops]) (bA.put (S_both1 S_mod a b z)) (RR0 ++ [.list false false 38 l] ++ [.list true true 3 ops]) :=
  (sim_is (H1 := (RR0 ++ [.list false false 38 l] ++ [.list true true 3 ops]) ++ [.list true true 5 [a.f, b.f]]) hX hO (first := []) (by kernel_rfl) (.ssh (fun _ => .o le2 .sr) (fun _ => .o le2 .sr))).drop hX rfl rfl
theorem s127A_12 {n : Nat} (hO : Ok n oc56) (l : List B) (ops : List Int) (a b z : B) : Sim X0 Tryz.prog (ApN (n + 1)) (.fn 127 [] [.ptr 6 0 1]) [.agg a.ps, .agg b.ps, .agg z.ps] (RR0 ++ [.list false false 38 l] ++ [.list true true 3 ops]) (bA.put (S_both1 S_eq a b z)) (RR0 ++ [.list false false 38 l] ++ [.list true true 3 ops]) :=
  (sim_is (H1 := (RR0 ++ [.list false false 38 l] ++ [.list true true 3 ops]) ++ [.list true true 5 [a.f, b.f]]) hX hO (first := []) (by kernel_rfl) (.ssh (fun _ => .o le2 .sr) (fun _ => .o le2 .sr))).drop hX rfl rfl
theorem s127A_13 {n : Nat} (hO : Ok n oc56) (l : List B) (ops : List Int) (a b z : B) : Sim X0 Tryz.prog (ApN (n + 1)) (.fn 127 [] [.ptr 7 0 1]) [.agg a.ps, .agg b.ps, .agg z.ps] (RR0 ++ [.list false false 38 l] ++ [.list true true 3 ops]) (bA.put (S_both1 S_lt a b z)) (RR0 ++ [.list false false 38 l] ++ [.list true true 3 ops]) :=
  (sim_is (H1 := (RR0 ++ [.list false false 38 l] ++ [.list true true 3 ops]) ++ [.list true true 5 [a.f, b.f]]) hX hO (first := []) (by kernel_rfl) (.ssh (fun _ => .o le2 .sr) (fun _ => .o le2 .sr))).drop hX rfl rfl
theorem s127A_14 {n : Nat} (hO : Ok n oc56) (l : List B) (ops : List Int) (a b z : B) : Sim X0 Tryz.prog (ApN (n + 1)) (.fn 127 [] [.ptr 8 0 1]) [.agg a.ps, .agg b.ps, .agg z.ps] (RR0 ++ [.list false false 38 l] ++ [.list true true 3 ops]) (bA.put (S_both1 S_le a b z)) (RR0 ++ [.list false false 38 l] ++ [.list true true 3 ops]) :=
  (sim_is (H1 := (RR0 ++ [.list false false 38 l] ++ [.list true true 3 ops]) ++ [.list true true 5 [a.f, b.f]]) hX hO (first := []) (by kernel_rfl) (.ssh (fun _ => .o le2 .sr) (fun _ => .o le2 .sr))).drop hX rfl rfl
theorem s64A {n : Nat} (hO0 : Ok n oc56) (hO : Ok (n + 1) oc56) (c : C) (l : List B) (i : Int) (hi : inR i c.os.length) (hk : RuleOk (oI c i) l.length c.cs.length) : Sim X0 Tryz.prog (ApN (n + 1 + 1)) (.fn 64 [] []) [.agg (xC c ++ [.map 0]), .int .i64 i, .own 9] (RR0 ++ [.list false false 38 l]) (bA.put (S_rule c.cs l (oI c i))) (RR0 ++ [.list false false 38 l]) := by
  have g1 := hk.lo; have g2 := hk.hi; have g3 := hk.no
  have cases16 : (oI c i).code = 1 ∨ (oI c i).code = 2 ∨ (oI c i).code = 3 ∨ (oI c i).code = 5 ∨ (oI c i).code = 6 ∨ (oI c i).code = 7 ∨ (oI c i).code = 8 ∨ (oI c i).code = 9 ∨ (oI c i).code = 10 ∨ (oI c i).code = 11 ∨ (oI c i).code = 12 ∨ (oI c i).code = 13 ∨ (oI c i).code = 14 ∨ (oI c i).code = 15 ∨ (oI c i).code = 16 ∨ (oI c i).code = 17 := by omega
  have na : ∀ {k m : Int}, (oI c i).code = k → k ≠ m → ((oI c i).code == m) = false := fun h1 h2 => by rw [h1]; simpa using h2
  have ya : ∀ {k : Int}, (oI c i).code = k → ((oI c i).code == k) = true := fun h1 => by rw [h1]; simp
  rcases cases16 with h | h | h | h | h | h | h | h | h | h | h | h | h | h | h | h
  · rw [show S_rule c.cs l (oI c i) = ⟨(oI c i).n, (oI c i).n, 0⟩ by unfold S_rule; rw [if_pos h]]
    exact sim_is hX hO (first := []) (cap := []) (by kernel_rfl) (.o hi (.b (ya h) .sr))
  · rw [show S_rule c.cs l (oI c i) = S_with ⟨1, 0, 0⟩ [S_bit (IntKind.u8.wrap (oI c i).n)] by unfold S_rule; rw [if_neg (by rw [h]; decide), if_pos h]]
    exact (sim_is (H1 := (RR0 ++ [.list false false 38 l]) ++ [.list true true 5 [S_bit (IntKind.u8.wrap (oI c i).n)]]) hX hO (first := []) (cap := []) (by kernel_rfl) (.o hi (.b (na (m := 1) h (by decide)) (.b (ya h) (.o le1 .sr))))).drop hX rfl rfl
  · rw [show S_rule c.cs l (oI c i) = ⟨(c.cs.getD (oI c i).n.toNat K0).lo, (c.cs.getD (oI c i).n.toNat K0).hi, 0⟩ by unfold S_rule; rw [if_neg (by rw [h]; decide), if_neg (by rw [h]; decide), if_pos h]]
    exact sim_is hX hO (first := []) (cap := []) (by kernel_rfl) (.o hi (.b (na (m := 1) h (by decide)) (.b (na (m := 2) h (by decide)) (.b (ya h) (.o (show inR (oI c i).n c.cs.length from hk.ch h) (.o (show inR (oI c i).n c.cs.length from hk.ch h) .sr))))))
  · rw [← rule_5 h]
    cases hd : (!(decide ((l.getD (oI c i).a.toNat B0).lo ≤ (l.getD (oI c i).a.toNat B0).hi)))
    · rw [if_neg (by simp)]
      exact (sim_is (H1 := (RR0 ++ [.list false false 38 l]) ++ [.list true true 3 [(oI c i).a, (oI c i).b, (oI c i).c]]) hX hO (first := []) (cap := []) (by kernel_rfl) (.o hi (.b (na (m := 1) h (by decide)) (.b (na (m := 2) h (by decide)) (.b (na (m := 3) h (by decide)) (.a (.ix 0) (.o (fki5 h) (.o nn (.o (by decide : (0 : Int) ≤ 1) (.o (by decide : (1 : Int) ≤ 3) (.m 8 le8 (.b (rfl : true = true) (.o in01 (.o (show inR (oI c i).a l.length from hk.a (by omega)) (.b (rfl : false = false) (.b hd .sr)))))))))))))))).drop hX rfl rfl
    · rw [if_pos rfl]
      exact (sim_is (H1 := (RR0 ++ [.list false false 38 l]) ++ [.list true true 3 [(oI c i).a, (oI c i).b, (oI c i).c]] ++ [.list true true 5 [(l.getD (oI c i).a.toNat B0).f]]) hX hO (first := []) (cap := []) (by kernel_rfl) (.o hi (.b (na (m := 1) h (by decide)) (.b (na (m := 2) h (by decide)) (.b (na (m := 3) h (by decide)) (.a (.ix 0) (.o (fki5 h) (.o nn (.o (by decide : (0 : Int) ≤ 1) (.o (by decide : (1 : Int) ≤ 3) (.m 8 le8 (.b (rfl : true = true) (.o in01 (.o (show inR (oI c i).a l.length from hk.a (by omega)) (.b (rfl : false = false) (.b hd (.o le1 .sr))))))))))))))))).drop hX rfl rfl
  · rw [← rule_6 h]
    cases hd : (!(decide ((l.getD (oI c i).a.toNat B0).lo ≤ (l.getD (oI c i).a.toNat B0).hi)))
    · rw [if_neg (by simp)]
      exact (sim_is (H1 := (RR0 ++ [.list false false 38 l]) ++ [.list true true 3 [(oI c i).a, (oI c i).b, (oI c i).c]]) hX hO (first := []) (cap := []) (by kernel_rfl) (.o hi (.b (na (m := 1) h (by decide)) (.b (na (m := 2) h (by decide)) (.b (na (m := 3) h (by decide)) (.a (.ix 1) (.o (fki6 h) (.o nn (.o (by decide : (0 : Int) ≤ 1) (.o (by decide : (1 : Int) ≤ 3) (.m 8 le8 (.b (rfl : true = true) (.o in01 (.o (show inR (oI c i).a l.length from hk.a (by omega)) (.b (rfl : false = false) (.b hd .sr)))))))))))))))).drop hX rfl rfl
    · rw [if_pos rfl]
      exact (sim_is (H1 := (RR0 ++ [.list false false 38 l]) ++ [.list true true 3 [(oI c i).a, (oI c i).b, (oI c i).c]] ++ [.list true true 5 [(l.getD (oI c i).a.toNat B0).f]]) hX hO (first := []) (cap := []) (by kernel_rfl) (.o hi (.b (na (m := 1) h (by decide)) (.b (na (m := 2) h (by decide)) (.b (na (m := 3) h (by decide)) (.a (.ix 1) (.o (fki6 h) (.o nn (.o (by decide : (0 : Int) ≤ 1) (.o (by decide : (1 : Int) ≤ 3) (.m 8 le8 (.b (rfl : true = true) (.o in01 (.o (show inR (oI c i).a l.length from hk.a (by omega)) (.b (rfl : false = false) (.b hd (.o le1 .sr))))))))))))))))).drop hX rfl rfl
  · rw [← rule_7 h]
    cases hd : (!(decide ((l.getD (oI c i).a.toNat B0).lo ≤ (l.getD (oI c i).a.toNat B0).hi)))
    · rw [if_neg (by simp)]
      exact (sim_is (H1 := (RR0 ++ [.list false false 38 l]) ++ [.list true true 3 [(oI c i).a, (oI c i).b, (oI c i).c]]) hX hO (first := []) (cap := []) (by kernel_rfl) (.o hi (.b (na (m := 1) h (by decide)) (.b (na (m := 2) h (by decide)) (.b (na (m := 3) h (by decide)) (.a (.ix 2) (.o (fki7 h) (.o nn (.o (by decide : (0 : Int) ≤ 2) (.o (by decide : (2 : Int) ≤ 3) (.m 8 le8 (.b (rfl : true = true) (.o in02 (.o (show inR (oI c i).a l.length from hk.a (by omega)) (.b (rfl : true = true) (.o in12 (.o (show inR (oI c i).b l.length from hk.b (by omega)) (.b (rfl : false = false) (.b hd (.k (s127A_7 hO0 l [(oI c i).a, (oI c i).b, (oI c i).c] (l.getD (oI c i).a.toNat B0) (l.getD (oI c i).b.toNat B0) ⟨0, 0, 0⟩) .sr)))))))))))))))))))).drop hX rfl rfl
    · rw [if_pos rfl]
      exact (sim_is (H1 := (RR0 ++ [.list false false 38 l]) ++ [.list true true 3 [(oI c i).a, (oI c i).b, (oI c i).c]] ++ [.list true true 5 [(l.getD (oI c i).a.toNat B0).f]]) hX hO (first := []) (cap := []) (by kernel_rfl) (.o hi (.b (na (m := 1) h (by decide)) (.b (na (m := 2) h (by decide)) (.b (na (m := 3) h (by decide)) (.a (.ix 2) (.o (fki7 h) (.o nn (.o (by decide : (0 : Int) ≤ 2) (.o (by decide : (2 : Int) ≤ 3) (.m 8 le8 (.b (rfl : true = true) (.o in02 (.o (show inR (oI c i).a l.length from hk.a (by omega)) (.b (rfl : true = true) (.o in12 (.o (show inR (oI c i).b l.length from hk.b (by omega)) (.b (rfl : false = false) (.b hd (.o le1 .sr)))))))))))))))))))).drop hX rfl rfl
  · rw [← rule_8 h]
    cases hd : (!(decide ((l.getD (oI c i).a.toNat B0).lo ≤ (l.getD (oI c i).a.toNat B0).hi)))
    · rw [if_neg (by simp)]
      exact (sim_is (H1 := (RR0 ++ [.list false false 38 l]) ++ [.list true true 3 [(oI c i).a, (oI c i).b, (oI c i).c]]) hX hO (first := []) (cap := []) (by kernel_rfl) (.o hi (.b (na (m := 1) h (by decide)) (.b (na (m := 2) h (by decide)) (.b (na (m := 3) h (by decide)) (.a (.ix 3) (.o (fki8 h) (.o nn (.o (by decide : (0 : Int) ≤ 2) (.o (by decide : (2 : Int) ≤ 3) (.m 8 le8 (.b (rfl : true = true) (.o in02 (.o (show inR (oI c i).a l.length from hk.a (by omega)) (.b (rfl : true = true) (.o in12 (.o (show inR (oI c i).b l.length from hk.b (by omega)) (.b (rfl : false = false) (.b hd (.k (s127A_8 hO0 l [(oI c i).a, (oI c i).b, (oI c i).c] (l.getD (oI c i).a.toNat B0) (l.getD (oI c i).b.toNat B0) ⟨0, 0, 0⟩) .sr)))))))))))))))))))).drop hX rfl rfl
    · rw [if_pos rfl]
      exact (sim_is (H1 := (RR0 ++ [.list false false 38 l]) ++ [.list true true 3 [(oI c i).a, (oI c i).b, (oI c i).c]] ++ [.list true true 5 [(l.getD (oI c i).a.toNat B0).f]]) hX hO (first := []) (cap := []) (by kernel_rfl) (.o hi (.b (na (m := 1) h (by decide)) (.b (na (m := 2) h (by decide)) (.b (na (m := 3) h (by decide)) (.a (.ix 3) (.o (fki8 h) (.o nn (.o (by decide : (0 : Int) ≤ 2) (.o (by decide : (2 : Int) ≤ 3) (.m 8 le8 (.b (rfl : true = true) (.o in02 (.o (show inR (oI c i).a l.length from hk.a (by omega)) (.b (rfl : true = true) (.o in12 (.o (show inR (oI c i).b l.length from hk.b (by omega)) (.b (rfl : false = false) (.b hd (.o le1 .sr)))))))))))))))))))).drop hX rfl rfl
  · rw [← rule_9 h]
    cases hd : (!(decide ((l.getD (oI c i).a.toNat B0).lo ≤ (l.getD (oI c i).a.toNat B0).hi)))
    · rw [if_neg (by simp)]
      exact (sim_is (H1 := (RR0 ++ [.list false false 38 l]) ++ [.list true true 3 [(oI c i).a, (oI c i).b, (oI c i).c]]) hX hO (first := []) (cap := []) (by kernel_rfl) (.o hi (.b (na (m := 1) h (by decide)) (.b (na (m := 2) h (by decide)) (.b (na (m := 3) h (by decide)) (.a (.ix 4) (.o (fki9 h) (.o nn (.o (by decide : (0 : Int) ≤ 2) (.o (by decide : (2 : Int) ≤ 3) (.m 8 le8 (.b (rfl : true = true) (.o in02 (.o (show inR (oI c i).a l.length from hk.a (by omega)) (.b (rfl : true = true) (.o in12 (.o (show inR (oI c i).b l.length from hk.b (by omega)) (.b (rfl : false = false) (.b hd (.k (s127A_9 hO0 l [(oI c i).a, (oI c i).b, (oI c i).c] (l.getD (oI c i).a.toNat B0) (l.getD (oI c i).b.toNat B0) ⟨0, 0, 0⟩) .sr)))))))))))))))))))).drop hX rfl rfl
    · rw [if_pos rfl]
      exact (sim_is (H1 := (RR0 ++ [.list false false 38 l]) ++ [.list true true 3 [(oI c i).a, (oI c i).b, (oI c i).c]] ++ [.list true true 5 [(l.getD (oI c i).a.toNat B0).f]]) hX hO (first := []) (cap := []) (by kernel_rfl) (.o hi (.b (na (m := 1) h (by decide)) (.b (na (m := 2) h (by decide)) (.b (na (m := 3) h (by decide)) (.a (.ix 4) (.o (fki9 h) (.o nn (.o (by decide : (0 : Int) ≤ 2) (.o (by decide : (2 : Int) ≤ 3) (.m 8 le8 (.b (rfl : true = true) (.o in02 (.o (show inR (oI c i).a l.length from hk.a (by omega)) (.b (rfl : true = true) (.o in12 (.o (show inR (oI c i).b l.length from hk.b (by omega)) (.b (rfl : false = false) (.b hd (.o le1 .sr)))))))))))))))))))).drop hX rfl rfl
  · rw [← rule_10 h]
    cases hd : (!(decide ((l.getD (oI c i).a.toNat B0).lo ≤ (l.getD (oI c i).a.toNat B0).hi)))
    · rw [if_neg (by simp)]
      exact (sim_is (H1 := (RR0 ++ [.list false false 38 l]) ++ [.list true true 3 [(oI c i).a, (oI c i).b, (oI c i).c]]) hX hO (first := []) (cap := []) (by kernel_rfl) (.o hi (.b (na (m := 1) h (by decide)) (.b (na (m := 2) h (by decide)) (.b (na (m := 3) h (by decide)) (.a (.ix 5) (.o (fki10 h) (.o nn (.o (by decide : (0 : Int) ≤ 2) (.o (by decide : (2 : Int) ≤ 3) (.m 8 le8 (.b (rfl : true = true) (.o in02 (.o (show inR (oI c i).a l.length from hk.a (by omega)) (.b (rfl : true = true) (.o in12 (.o (show inR (oI c i).b l.length from hk.b (by omega)) (.b (rfl : false = false) (.b hd (.k (s127A_10 hO0 l [(oI c i).a, (oI c i).b, (oI c i).c] (l.getD (oI c i).a.toNat B0) (l.getD (oI c i).b.toNat B0) ⟨0, 0, 0⟩) .sr)))))))))))))))))))).drop hX rfl rfl
    · rw [if_pos rfl]
      exact (sim_is (H1 := (RR0 ++ [.list false false 38 l]) ++ [.list true true 3 [(oI c i).a, (oI c i).b, (oI c i).c]] ++ [.list true true 5 [(l.getD (oI c i).a.toNat B0).f]]) hX hO (first := []) (cap := []) (by kernel_rfl) (.o hi (.b (na (m := 1) h (by decide)) (.b (na (m := 2) h (by decide)) (.b (na (m := 3) h (by decide)) (.a (.ix 5) (.o (fki10 h) (.o nn (.o (by decide : (0 : Int) ≤ 2) (.o (by decide : (2 : Int) ≤ 3) (.m 8 le8 (.b (rfl : true = true) (.o in02 (.o (show inR (oI c i).a l.length from hk.a (by omega)) (.b (rfl : true = true) (.o in12 (.o (show inR (oI c i).b l.length from hk.b (by omega)) (.b (rfl : false = false) (.b hd (.o le1 .sr)))))))))))))))))))).drop hX rfl rfl
  · rw [← rule_11 h]
    cases hd : (!(decide ((l.getD (oI c i).a.toNat B0).lo ≤ (l.getD (oI c i).a.toNat B0).hi)))
    · rw [if_neg (by simp)]
      exact (sim_is (H1 := (RR0 ++ [.list false false 38 l]) ++ [.list true true 3 [(oI c i).a, (oI c i).b, (oI c i).c]]) hX hO (first := []) (cap := []) (by kernel_rfl) (.o hi (.b (na (m := 1) h (by decide)) (.b (na (m := 2) h (by decide)) (.b (na (m := 3) h (by decide)) (.a (.ix 6) (.o (fki11 h) (.o nn (.o (by decide : (0 : Int) ≤ 2) (.o (by decide : (2 : Int) ≤ 3) (.m 8 le8 (.b (rfl : true = true) (.o in02 (.o (show inR (oI c i).a l.length from hk.a (by omega)) (.b (rfl : true = true) (.o in12 (.o (show inR (oI c i).b l.length from hk.b (by omega)) (.b (rfl : false = false) (.b hd (.k (s127A_11 hO0 l [(oI c i).a, (oI c i).b, (oI c i).c] (l.getD (oI c i).a.toNat B0) (l.getD (oI c i).b.toNat B0) ⟨0, 0, 0⟩) .sr)))))))))))))))))))).drop hX rfl rfl
    · rw [if_pos rfl]
      exact (sim_is (H1 := (RR0 ++ [.list false false 38 l]) ++ [.list true true 3 [(oI c i).a, (oI c i).b, (oI c i).c]] ++ [.list true true 5 [(l.getD (oI c i).a.toNat B0).f]]) hX hO (first := []) (cap := []) (by kernel_rfl) (.o hi (.b (na (m := 1) h (by decide)) (.b (na (m := 2) h (by decide)) (.b (na (m := 3) h (by decide)) (.a (.ix 6) (.o (fki11 h) (.o nn (.o (by decide : (0 : Int) ≤ 2) (.o (by decide : (2 : Int) ≤ 3) (.m 8 le8 (.b (rfl : true = true) (.o in02 (.o (show inR (oI c i).a l.length from hk.a (by omega)) (.b (rfl : true = true) (.o in12 (.o (show inR (oI c i).b l.length from hk.b (by omega)) (.b (rfl : false = false) (.b hd (.o le1 .sr)))))))))))))))))))).drop hX rfl rfl
  · rw [← rule_12 h]
    cases hd : (!(decide ((l.getD (oI c i).a.toNat B0).lo ≤ (l.getD (oI c i).a.toNat B0).hi)))
    · rw [if_neg (by simp)]
      exact (sim_is (H1 := (RR0 ++ [.list false false 38 l]) ++ [.list true true 3 [(oI c i).a, (oI c i).b, (oI c i).c]]) hX hO (first := []) (cap := []) (by kernel_rfl) (.o hi (.b (na (m := 1) h (by decide)) (.b (na (m := 2) h (by decide)) (.b (na (m := 3) h (by decide)) (.a (.ix 7) (.o (fki12 h) (.o nn (.o (by decide : (0 : Int) ≤ 2) (.o (by decide : (2 : Int) ≤ 3) (.m 8 le8 (.b (rfl : true = true) (.o in02 (.o (show inR (oI c i).a l.length from hk.a (by omega)) (.b (rfl : true = true) (.o in12 (.o (show inR (oI c i).b l.length from hk.b (by omega)) (.b (rfl : false = false) (.b hd (.k (s127A_12 hO0 l [(oI c i).a, (oI c i).b, (oI c i).c] (l.getD (oI c i).a.toNat B0) (l.getD (oI c i).b.toNat B0) ⟨0, 0, 0⟩) .sr)))))))))))))))))))).drop hX rfl rfl
    · rw [if_pos rfl]
      exact (sim_is (H1 := (RR0 ++ [.list false false 38 l]) ++ [.list true true 3 [(oI c i).a, (oI c i).b, (oI c i).c]] ++ [.list true true 5 [(l.getD (oI c i).a.toNat B0).f]]) hX hO (first := []) (cap := []) (by kernel_rfl) (.o hi (.b (na (m := 1) h (by decide)) (.b (na (m := 2) h (by decide)) (.b (na (m := 3) h (by decide)) (.a (.ix 7) (.o (fki12 h) (.o nn (.o (by decide : (0 : Int) ≤ 2) (.o (by decide : (2 : Int) ≤ 3) (.m 8 le8 (.b (rfl : true = true) (.o in02 (.o (show inR (oI c i).a l.length from hk.a (by omega)) (.b (rfl : true = true) (.o in12 (.o (show inR (oI c i).b l.length from hk.b (by omega)) (.b (rfl : false = false) (.b hd (.o le1 .sr)))))))))))))))))))).drop hX rfl rfl
  · rw [← rule_13 h]
    cases hd : (!(decide ((l.getD (oI c i).a.toNat B0).lo ≤ (l.getD (oI c i).a.toNat B0).hi)))
    · rw [if_neg (by simp)]
      exact (sim_is (H1 := (RR0 ++ [.list false false 38 l]) ++ [.list true true 3 [(oI c i).a, (oI c i).b, (oI c i).c]]) hX hO (first := []) (cap := []) (by kernel_rfl) (.o hi (.b (na (m := 1) h (by decide)) (.b (na (m := 2) h (by decide)) (.b (na (m := 3) h (by decide)) (.a (.ix 8) (.o (fki13 h) (.o nn (.o (by decide : (0 : Int) ≤ 2) (.o (by decide : (2 : Int) ≤ 3) (.m 8 le8 (.b (rfl : true = true) (.o in02 (.o (show inR (oI c i).a l.length from hk.a (by omega)) (.b (rfl : true = true) (.o in12 (.o (show inR (oI c i).b l.length from hk.b (by omega)) (.b (rfl : false = false) (.b hd (.k (s127A_13 hO0 l [(oI c i).a, (oI c i).b, (oI c i).c] (l.getD (oI c i).a.toNat B0) (l.getD (oI c i).b.toNat B0) ⟨0, 0, 0⟩) .sr)))))))))))))))))))).drop hX rfl rfl
    · rw [if_pos rfl]
      exact (sim_is (H1 := (RR0 ++ [.list false false 38 l]) ++ [.list true true 3 [(oI c i).a, (oI c i).b, (oI c i).c]] ++ [.list true true 5 [(l.getD (oI c i).a.toNat B0).f]]) hX hO (first := []) (cap := []) (by kernel_rfl) (.o hi (.b (na (m := 1) h (by decide)) (.b (na (m := 2) h (by decide)) (.b (na (m := 3) h (by decide)) (.a (.ix 8) (.o (fki13 h) (.o nn (.o (by decide : (0 : Int) ≤ 2) (.o (by decide : (2 : Int) ≤ 3) (.m 8 le8 (.b (rfl : true = true) (.o in02 (.o (show inR (oI c i).a l.length from hk.a (by omega)) (.b (rfl : true = true) (.o in12 (.o (show inR (oI c i).b l.length from hk.b (by omega)) (.b (rfl : false = false) (.b hd (.o le1 .sr)))))))))))))))))))).drop hX rfl rfl
  · rw [← rule_14 h]
    cases hd : (!(decide ((l.getD (oI c i).a.toNat B0).lo ≤ (l.getD (oI c i).a.toNat B0).hi)))
    · rw [if_neg (by simp)]
      exact (sim_is (H1 := (RR0 ++ [.list false false 38 l]) ++ [.list true true 3 [(oI c i).a, (oI c i).b, (oI c i).c]]) hX hO (first := []) (cap := []) (by kernel_rfl) (.o hi (.b (na (m := 1) h (by decide)) (.b (na (m := 2) h (by decide)) (.b (na (m := 3) h (by decide)) (.a (.ix 9) (.o (fki14 h) (.o nn (.o (by decide : (0 : Int) ≤ 2) (.o (by decide : (2 : Int) ≤ 3) (.m 8 le8 (.b (rfl : true = true) (.o in02 (.o (show inR (oI c i).a l.length from hk.a (by omega)) (.b (rfl : true = true) (.o in12 (.o (show inR (oI c i).b l.length from hk.b (by omega)) (.b (rfl : false = false) (.b hd (.k (s127A_14 hO0 l [(oI c i).a, (oI c i).b, (oI c i).c] (l.getD (oI c i).a.toNat B0) (l.getD (oI c i).b.toNat B0) ⟨0, 0, 0⟩) .sr)))))))))))))))))))).drop hX rfl rfl
    · rw [if_pos rfl]
      exact (sim_is (H1 := (RR0 ++ [.list false false 38 l]) ++ [.list true true 3 [(oI c i).a, (oI c i).b, (oI c i).c]] ++ [.list true true 5 [(l.getD (oI c i).a.toNat B0).f]]) hX hO (first := []) (cap := []) (by kernel_rfl) (.o hi (.b (na (m := 1) h (by decide)) (.b (na (m := 2) h (by decide)) (.b (na (m := 3) h (by decide)) (.a (.ix 9) (.o (fki14 h) (.o nn (.o (by decide : (0 : Int) ≤ 2) (.o (by decide : (2 : Int) ≤ 3) (.m 8 le8 (.b (rfl : true = true) (.o in02 (.o (show inR (oI c i).a l.length from hk.a (by omega)) (.b (rfl : true = true) (.o in12 (.o (show inR (oI c i).b l.length from hk.b (by omega)) (.b (rfl : false = false) (.b hd (.o le1 .sr)))))))))))))))))))).drop hX rfl rfl
  · rw [← rule_15 h]
    cases hd : (!(decide ((l.getD (oI c i).a.toNat B0).lo ≤ (l.getD (oI c i).a.toNat B0).hi)))
    · rw [if_neg (by simp)]
      exact (sim_is (H1 := (RR0 ++ [.list false false 38 l]) ++ [.list true true 3 [(oI c i).a, (oI c i).b, (oI c i).c]]) hX hO (first := []) (cap := []) (by kernel_rfl) (.o hi (.b (na (m := 1) h (by decide)) (.b (na (m := 2) h (by decide)) (.b (na (m := 3) h (by decide)) (.a (.ix 10) (.o (fki15 h) (.o nn (.o (by decide : (0 : Int) ≤ 2) (.o (by decide : (2 : Int) ≤ 3) (.m 8 le8 (.b (rfl : true = true) (.o in02 (.o (show inR (oI c i).a l.length from hk.a (by omega)) (.b (rfl : true = true) (.o in12 (.o (show inR (oI c i).b l.length from hk.b (by omega)) (.b (rfl : false = false) (.b hd .sr))))))))))))))))))).drop hX rfl rfl
    · rw [if_pos rfl]
      exact (sim_is (H1 := (RR0 ++ [.list false false 38 l]) ++ [.list true true 3 [(oI c i).a, (oI c i).b, (oI c i).c]] ++ [.list true true 5 [(l.getD (oI c i).a.toNat B0).f]]) hX hO (first := []) (cap := []) (by kernel_rfl) (.o hi (.b (na (m := 1) h (by decide)) (.b (na (m := 2) h (by decide)) (.b (na (m := 3) h (by decide)) (.a (.ix 10) (.o (fki15 h) (.o nn (.o (by decide : (0 : Int) ≤ 2) (.o (by decide : (2 : Int) ≤ 3) (.m 8 le8 (.b (rfl : true = true) (.o in02 (.o (show inR (oI c i).a l.length from hk.a (by omega)) (.b (rfl : true = true) (.o in12 (.o (show inR (oI c i).b l.length from hk.b (by omega)) (.b (rfl : false = false) (.b hd (.o le1 .sr)))))))))))))))))))).drop hX rfl rfl
  · rw [← rule_16 h]
    cases hd : (!(decide ((l.getD (oI c i).a.toNat B0).lo ≤ (l.getD (oI c i).a.toNat B0).hi)))
    · rw [if_neg (by simp)]
      exact (sim_is (H1 := (RR0 ++ [.list false false 38 l]) ++ [.list true true 3 [(oI c i).a, (oI c i).b, (oI c i).c]]) hX hO (first := []) (cap := []) (by kernel_rfl) (.o hi (.b (na (m := 1) h (by decide)) (.b (na (m := 2) h (by decide)) (.b (na (m := 3) h (by decide)) (.a (.ix 11) (.o (fki16 h) (.o nn (.o (by decide : (0 : Int) ≤ 2) (.o (by decide : (2 : Int) ≤ 3) (.m 8 le8 (.b (rfl : true = true) (.o in02 (.o (show inR (oI c i).a l.length from hk.a (by omega)) (.b (rfl : true = true) (.o in12 (.o (show inR (oI c i).b l.length from hk.b (by omega)) (.b (rfl : false = false) (.b hd .sr))))))))))))))))))).drop hX rfl rfl
    · rw [if_pos rfl]
      exact (sim_is (H1 := (RR0 ++ [.list false false 38 l]) ++ [.list true true 3 [(oI c i).a, (oI c i).b, (oI c i).c]] ++ [.list true true 5 [(l.getD (oI c i).a.toNat B0).f]]) hX hO (first := []) (cap := []) (by kernel_rfl) (.o hi (.b (na (m := 1) h (by decide)) (.b (na (m := 2) h (by decide)) (.b (na (m := 3) h (by decide)) (.a (.ix 11) (.o (fki16 h) (.o nn (.o (by decide : (0 : Int) ≤ 2) (.o (by decide : (2 : Int) ≤ 3) (.m 8 le8 (.b (rfl : true = true) (.o in02 (.o (show inR (oI c i).a l.length from hk.a (by omega)) (.b (rfl : true = true) (.o in12 (.o (show inR (oI c i).b l.length from hk.b (by omega)) (.b (rfl : false = false) (.b hd (.o le1 .sr)))))))))))))))))))).drop hX rfl rfl
  · rw [← rule_17 h]
    cases hd : (!(decide ((l.getD (oI c i).a.toNat B0).lo ≤ (l.getD (oI c i).a.toNat B0).hi)))
    · rw [if_neg (by simp)]
      exact (sim_is (H1 := (RR0 ++ [.list false false 38 l]) ++ [.list true true 3 [(oI c i).a, (oI c i).b, (oI c i).c]]) hX hO (first := []) (cap := []) (by kernel_rfl) (.o hi (.b (na (m := 1) h (by decide)) (.b (na (m := 2) h (by decide)) (.b (na (m := 3) h (by decide)) (.a (.ix 12) (.o (fki17 h) (.o nn (.o (by decide : (0 : Int) ≤ 3) (.o (by decide : (3 : Int) ≤ 3) (.m 8 le8 (.b (rfl : true = true) (.o in03 (.o (show inR (oI c i).a l.length from hk.a (by omega)) (.b (rfl : true = true) (.o in13 (.o (show inR (oI c i).b l.length from hk.b (by omega)) (.b (rfl : true = true) (.o in23 (.o (show inR (oI c i).c l.length from hk.c (by omega)) (.b (rfl : false = false) (.b hd .sr)))))))))))))))))))))).drop hX rfl rfl
    · rw [if_pos rfl]
      exact (sim_is (H1 := (RR0 ++ [.list false false 38 l]) ++ [.list true true 3 [(oI c i).a, (oI c i).b, (oI c i).c]] ++ [.list true true 5 [(l.getD (oI c i).a.toNat B0).f]]) hX hO (first := []) (cap := []) (by kernel_rfl) (.o hi (.b (na (m := 1) h (by decide)) (.b (na (m := 2) h (by decide)) (.b (na (m := 3) h (by decide)) (.a (.ix 12) (.o (fki17 h) (.o nn (.o (by decide : (0 : Int) ≤ 3) (.o (by decide : (3 : Int) ≤ 3) (.m 8 le8 (.b (rfl : true = true) (.o in03 (.o (show inR (oI c i).a l.length from hk.a (by omega)) (.b (rfl : true = true) (.o in13 (.o (show inR (oI c i).b l.length from hk.b (by omega)) (.b (rfl : true = true) (.o in23 (.o (show inR (oI c i).c l.length from hk.c (by omega)) (.b (rfl : false = false) (.b hd (.o le1 .sr))))))))))))))))))))))).drop hX rfl rfl
end Go.Proofs.YtfhiejgoemcelaaGreat
namespace Go.Proofs.YtfhiejgoemcelaaGreat
open Go Tw Pv
theorem s127B_7 {n : Nat} (hO : Ok n oc56) (l : List B) (ops : List Int) (a b z : B) : Sim X0 Tryz.prog (ApN (n + 1)) (.fn 127 [] [.ptr 1 0 1]) [.agg a.ps, .agg b.ps, .agg z.ps] (RR0 ++ [.list true true 3 ops]) (bA.put (S_both1 S_sums a b z)) (RR0 ++ [.list true true 3 ops]) :=
  (sim_is (H1 := (RR0 ++ [.list true true 3 ops]) ++ [.list true true 5 [a.f, b.f]]) hX hO (first := []) (by kernel_rfl) (.ssh (fun _ => .o le2 .sr) (fun _ => .o le2 .sr))).drop hX rfl rfl
theorem s127B_8 {n : Nat} (hO : Ok n oc56) (l : List B) (ops : List Int) (a b z : B) : Sim X0 Tryz.prog (ApN (n + 1)) (.fn 127 [] [.ptr 2 0 1]) [.agg a.ps, .agg b.ps, .agg z.ps] (RR0 ++ [.list true true 3 ops]) (bA.put (S_both1 S_differences a b z)) (RR0 ++ [.list true true 3 ops]) :=
  (sim_is (H1 := (RR0 ++ [.list true true 3 ops]) ++ [.list true true 5 [a.f, b.f]]) hX hO (first := []) (by kernel_rfl) (.ssh (fun _ => .o le2 .sr) (fun _ => .o le2 .sr))).drop hX rfl rfl
theorem s127B_9 {n : Nat} (hO : Ok n oc56) (l : List B) (ops : List Int) (a b z : B) : Sim X0 Tryz.prog (ApN (n + 1)) (.fn 127 [] [.ptr 3 0 1]) [.agg a.ps, .agg b.ps, .agg z.ps] (RR0 ++ [.list true true 3 ops]) (bA.put (S_both1 S_products a b z)) (RR0 ++ [.list true true 3 ops]) :=
  (sim_is (H1 := (RR0 ++ [.list true true 3 ops]) ++ [.list true true 5 [a.f, b.f]]) hX hO (first := []) (by kernel_rfl) (.ssh (fun _ => .o le2 .sr) (fun _ => .o le2 .sr))).drop hX rfl rfl
theorem s127B_10 {n : Nat} (hO : Ok n oc56) (l : List B) (ops : List Int) (a b z : B) : Sim X0 Tryz.prog (ApN (n + 1)) (.fn 127 [] [.ptr 4 0 1]) [.agg a.ps, .agg b.ps, .agg z.ps] (RR0 ++ [.list true true 3 ops]) (bA.put (S_both1 S_div a b z)) (RR0 ++ [.list true true 3 ops]) :=
  (sim_is (H1 := (RR0 ++ [.list true true 3 ops]) ++ [.list true true 5 [a.f, b.f]]) hX hO (first := []) (by kernel_rfl) (.ssh (fun _ => .o le2 .sr) (fun _ => .o le2 .sr))).drop hX rfl rfl
theorem s127B_11 {n : Nat} (hO : Ok n oc56) (l : List B) (ops : List Int) (a b z : B) : Sim X0 Tryz.prog (ApN (n + 1)) (.fn 127 [] [.ptr 5 0 1]) [.agg a.ps, .agg b.ps, .agg z.ps] (RR0 ++ [.list true true 3 ops]) (bA.put (S_both1 S_mod a b z)) (RR0 ++ [.list true true 3 ops]) :=
  (sim_is (H1 := (RR0 ++ [.list true true 3 ops]) ++ [.list true true 5 [a.f, b.f]]) hX hO (first := []) (by kernel_rfl) (.ssh (fun _ => .o le2 .sr) (fun _ => .o le2 .sr))).drop hX rfl rfl
theorem s127B_12 {n : Nat} (hO : Ok n oc56) (l : List B) (ops : List Int) (a b z : B) : Sim X0 Tryz.prog (ApN (n + 1)) (.fn 127 [] [.ptr 6 0 1]) [.agg a.ps, .agg b.ps, .agg z.ps] (RR0 ++ [.list true true 3 ops]) (bA.put (S_both1 S_eq a b z)) (RR0 ++ [.list true true 3 ops]) :=
  (sim_is (H1 := (RR0 ++ [.list true true 3 ops]) ++ [.list true true 5 [a.f, b.f]]) hX hO (first := []) (by kernel_rfl) (.ssh (fun _ => .o le2 .sr) (fun _ => .o le2 .sr))).drop hX rfl rfl
theorem s127B_13 {n : Nat} (hO : Ok n oc56) (l : List B) (ops : List Int) (a b z : B) : Sim X0 Tryz.prog (ApN (n + 1)) (.fn 127 [] [.ptr 7 0 1]) [.agg a.ps, .agg b.ps, .agg z.ps] (RR0 ++ [.list true true 3 ops]) (bA.put (S_both1 S_lt a b z)) (RR0 ++ [.list true true 3 ops]) :=
  (sim_is (H1 := (RR0 ++ [.list true true 3 ops]) ++ [.list true true 5 [a.f, b.f]]) hX hO (first := []) (by kernel_rfl) (.ssh (fun _ => .o le2 .sr) (fun _ => .o le2 .sr))).drop hX rfl rfl
theorem s127B_14 {n : Nat} (hO : Ok n oc56) (l : List B) (ops : List Int) (a b z : B) : Sim X0 Tryz.prog (ApN (n + 1)) (.fn 127 [] [.ptr 8 0 1]) [.agg a.ps, .agg b.ps, .agg z.ps] (RR0 ++ [.list true true 3 ops]) (bA.put (S_both1 S_le a b z)) (RR0 ++ [.list true true 3 ops]) :=
  (sim_is (H1 := (RR0 ++ [.list true true 3 ops]) ++ [.list true true 5 [a.f, b.f]]) hX hO (first := []) (by kernel_rfl) (.ssh (fun _ => .o le2 .sr) (fun _ => .o le2 .sr))).drop hX rfl rfl
theorem s64B {n : Nat} (hO0 : Ok n oc56) (hO : Ok (n + 1) oc56) (c : C) (l : List B) (i : Int) (hi : inR i c.os.length) (hk : RuleOk (oI c i) l.length c.cs.length) : Sim X0 Tryz.prog (ApN (n + 1 + 1)) (.fn 64 [] []) [.agg (xC c ++ [.map 0]), .int .i64 i, .lst 38 l false] (RR0) (bA.put (S_rule c.cs l (oI c i))) (RR0) := by
  have g1 := hk.lo; have g2 := hk.hi; have g3 := hk.no
  have cases16 : (oI c i).code = 1 ∨ (oI c i).code = 2 ∨ (oI c i).code = 3 ∨ (oI c i).code = 5 ∨ (oI c i).code = 6 ∨ (oI c i).code = 7 ∨ (oI c i).code = 8 ∨ (oI c i).code = 9 ∨ (oI c i).code = 10 ∨ (oI c i).code = 11 ∨ (oI c i).code = 12 ∨ (oI c i).code = 13 ∨ (oI c i).code = 14 ∨ (oI c i).code = 15 ∨ (oI c i).code = 16 ∨ (oI c i).code = 17 := by omega
  have na : ∀ {k m : Int}, (oI c i).code = k → k ≠ m → ((oI c i).code == m) = false := fun h1 h2 => by rw [h1]; simpa using h2
  have ya : ∀ {k : Int}, (oI c i).code = k → ((oI c i).code == k) = true := fun h1 => by rw [h1]; simp
  rcases cases16 with h | h | h | h | h | h | h | h | h | h | h | h | h | h | h | h
  · rw [show S_rule c.cs l (oI c i) = ⟨(oI c i).n, (oI c i).n, 0⟩ by unfold S_rule; rw [if_pos h]]
    exact sim_is hX hO (first := []) (cap := []) (by kernel_rfl) (.o hi (.b (ya h) .sr))
  · rw [show S_rule c.cs l (oI c i) = S_with ⟨1, 0, 0⟩ [S_bit (IntKind.u8.wrap (oI c i).n)] by unfold S_rule; rw [if_neg (by rw [h]; decide), if_pos h]]
    exact (sim_is (H1 := (RR0) ++ [.list true true 5 [S_bit (IntKind.u8.wrap (oI c i).n)]]) hX hO (first := []) (cap := []) (by kernel_rfl) (.o hi (.b (na (m := 1) h (by decide)) (.b (ya h) (.o le1 .sr))))).drop hX rfl rfl
  · rw [show S_rule c.cs l (oI c i) = ⟨(c.cs.getD (oI c i).n.toNat K0).lo, (c.cs.getD (oI c i).n.toNat K0).hi, 0⟩ by unfold S_rule; rw [if_neg (by rw [h]; decide), if_neg (by rw [h]; decide), if_pos h]]
    exact sim_is hX hO (first := []) (cap := []) (by kernel_rfl) (.o hi (.b (na (m := 1) h (by decide)) (.b (na (m := 2) h (by decide)) (.b (ya h) (.o (show inR (oI c i).n c.cs.length from hk.ch h) (.o (show inR (oI c i).n c.cs.length from hk.ch h) .sr))))))
  · rw [← rule_5 h]
    cases hd : (!(decide ((l.getD (oI c i).a.toNat B0).lo ≤ (l.getD (oI c i).a.toNat B0).hi)))
    · rw [if_neg (by simp)]
      exact (sim_is (H1 := (RR0) ++ [.list true true 3 [(oI c i).a, (oI c i).b, (oI c i).c]]) hX hO (first := []) (cap := []) (by kernel_rfl) (.o hi (.b (na (m := 1) h (by decide)) (.b (na (m := 2) h (by decide)) (.b (na (m := 3) h (by decide)) (.a (.ix 0) (.o (fki5 h) (.o nn (.o (by decide : (0 : Int) ≤ 1) (.o (by decide : (1 : Int) ≤ 3) (.m 8 le8 (.b (rfl : true = true) (.o in01 (.o (show inR (oI c i).a l.length from hk.a (by omega)) (.b (rfl : false = false) (.b hd .sr)))))))))))))))).drop hX rfl rfl
    · rw [if_pos rfl]
      exact (sim_is (H1 := (RR0) ++ [.list true true 3 [(oI c i).a, (oI c i).b, (oI c i).c]] ++ [.list true true 5 [(l.getD (oI c i).a.toNat B0).f]]) hX hO (first := []) (cap := []) (by kernel_rfl) (.o hi (.b (na (m := 1) h (by decide)) (.b (na (m := 2) h (by decide)) (.b (na (m := 3) h (by decide)) (.a (.ix 0) (.o (fki5 h) (.o nn (.o (by decide : (0 : Int) ≤ 1) (.o (by decide : (1 : Int) ≤ 3) (.m 8 le8 (.b (rfl : true = true) (.o in01 (.o (show inR (oI c i).a l.length from hk.a (by omega)) (.b (rfl : false = false) (.b hd (.o le1 .sr))))))))))))))))).drop hX rfl rfl
  · rw [← rule_6 h]
    cases hd : (!(decide ((l.getD (oI c i).a.toNat B0).lo ≤ (l.getD (oI c i).a.toNat B0).hi)))
    · rw [if_neg (by simp)]
      exact (sim_is (H1 := (RR0) ++ [.list true true 3 [(oI c i).a, (oI c i).b, (oI c i).c]]) hX hO (first := []) (cap := []) (by kernel_rfl) (.o hi (.b (na (m := 1) h (by decide)) (.b (na (m := 2) h (by decide)) (.b (na (m := 3) h (by decide)) (.a (.ix 1) (.o (fki6 h) (.o nn (.o (by decide : (0 : Int) ≤ 1) (.o (by decide : (1 : Int) ≤ 3) (.m 8 le8 (.b (rfl : true = true) (.o in01 (.o (show inR (oI c i).a l.length from hk.a (by omega)) (.b (rfl : false = false) (.b hd .sr)))))))))))))))).drop hX rfl rfl
    · rw [if_pos rfl]
      exact (sim_is (H1 := (RR0) ++ [.list true true 3 [(oI c i).a, (oI c i).b, (oI c i).c]] ++ [.list true true 5 [(l.getD (oI c i).a.toNat B0).f]]) hX hO (first := []) (cap := []) (by kernel_rfl) (.o hi (.b (na (m := 1) h (by decide)) (.b (na (m := 2) h (by decide)) (.b (na (m := 3) h (by decide)) (.a (.ix 1) (.o (fki6 h) (.o nn (.o (by decide : (0 : Int) ≤ 1) (.o (by decide : (1 : Int) ≤ 3) (.m 8 le8 (.b (rfl : true = true) (.o in01 (.o (show inR (oI c i).a l.length from hk.a (by omega)) (.b (rfl : false = false) (.b hd (.o le1 .sr))))))))))))))))).drop hX rfl rfl
  · rw [← rule_7 h]
    cases hd : (!(decide ((l.getD (oI c i).a.toNat B0).lo ≤ (l.getD (oI c i).a.toNat B0).hi)))
    · rw [if_neg (by simp)]
      exact (sim_is (H1 := (RR0) ++ [.list true true 3 [(oI c i).a, (oI c i).b, (oI c i).c]]) hX hO (first := []) (cap := []) (by kernel_rfl) (.o hi (.b (na (m := 1) h (by decide)) (.b (na (m := 2) h (by decide)) (.b (na (m := 3) h (by decide)) (.a (.ix 2) (.o (fki7 h) (.o nn (.o (by decide : (0 : Int) ≤ 2) (.o (by decide : (2 : Int) ≤ 3) (.m 8 le8 (.b (rfl : true = true) (.o in02 (.o (show inR (oI c i).a l.length from hk.a (by omega)) (.b (rfl : true = true) (.o in12 (.o (show inR (oI c i).b l.length from hk.b (by omega)) (.b (rfl : false = false) (.b hd (.k (s127B_7 hO0 l [(oI c i).a, (oI c i).b, (oI c i).c] (l.getD (oI c i).a.toNat B0) (l.getD (oI c i).b.toNat B0) ⟨0, 0, 0⟩) .sr)))))))))))))))))))).drop hX rfl rfl
    · rw [if_pos rfl]
      exact (sim_is (H1 := (RR0) ++ [.list true true 3 [(oI c i).a, (oI c i).b, (oI c i).c]] ++ [.list true true 5 [(l.getD (oI c i).a.toNat B0).f]]) hX hO (first := []) (cap := []) (by kernel_rfl) (.o hi (.b (na (m := 1) h (by decide)) (.b (na (m := 2) h (by decide)) (.b (na (m := 3) h (by decide)) (.a (.ix 2) (.o (fki7 h) (.o nn (.o (by decide : (0 : Int) ≤ 2) (.o (by decide : (2 : Int) ≤ 3) (.m 8 le8 (.b (rfl : true = true) (.o in02 (.o (show inR (oI c i).a l.length from hk.a (by omega)) (.b (rfl : true = true) (.o in12 (.o (show inR (oI c i).b l.length from hk.b (by omega)) (.b (rfl : false = false) (.b hd (.o le1 .sr)))))))))))))))))))).drop hX rfl rfl
  · rw [← rule_8 h]
    cases hd : (!(decide ((l.getD (oI c i).a.toNat B0).lo ≤ (l.getD (oI c i).a.toNat B0).hi)))
    · rw [if_neg (by simp)]
      exact (sim_is (H1 := (RR0) ++ [.list true true 3 [(oI c i).a, (oI c i).b, (oI c i).c]]) hX hO (first := []) (cap := []) (by kernel_rfl) (.o hi (.b (na (m := 1) h (by decide)) (.b (na (m := 2) h (by decide)) (.b (na (m := 3) h (by decide)) (.a (.ix 3) (.o (fki8 h) (.o nn (.o (by decide : (0 : Int) ≤ 2) (.o (by decide : (2 : Int) ≤ 3) (.m 8 le8 (.b (rfl : true = true) (.o in02 (.o (show inR (oI c i).a l.length from hk.a (by omega)) (.b (rfl : true = true) (.o in12 (.o (show inR (oI c i).b l.length from hk.b (by omega)) (.b (rfl : false = false) (.b hd (.k (s127B_8 hO0 l [(oI c i).a, (oI c i).b, (oI c i).c] (l.getD (oI c i).a.toNat B0) (l.getD (oI c i).b.toNat B0) ⟨0, 0, 0⟩) .sr)))))))))))))))))))).drop hX rfl rfl
    · rw [if_pos rfl]
      exact (sim_is (H1 := (RR0) ++ [.list true true 3 [(oI c i).a, (oI c i).b, (oI c i).c]] ++ [.list true true 5 [(l.getD (oI c i).a.toNat B0).f]]) hX hO (first := []) (cap := []) (by kernel_rfl) (.o hi (.b (na (m := 1) h (by decide)) (.b (na (m := 2) h (by decide)) (.b (na (m := 3) h (by decide)) (.a (.ix 3) (.o (fki8 h) (.o nn (.o (by decide : (0 : Int) ≤ 2) (.o (by decide : (2 : Int) ≤ 3) (.m 8 le8 (.b (rfl : true = true) (.o in02 (.o (show inR (oI c i).a l.length from hk.a (by omega)) (.b (rfl : true = true) (.o in12 (.o (show inR (oI c i).b l.length from hk.b (by omega)) (.b (rfl : false = false) (.b hd (.o le1 .sr)))))))))))))))))))).drop hX rfl rfl
  · rw [← rule_9 h]
    cases hd : (!(decide ((l.getD (oI c i).a.toNat B0).lo ≤ (l.getD (oI c i).a.toNat B0).hi)))
    · rw [if_neg (by simp)]
      exact (sim_is (H1 := (RR0) ++ [.list true true 3 [(oI c i).a, (oI c i).b, (oI c i).c]]) hX hO (first := []) (cap := []) (by kernel_rfl) (.o hi (.b (na (m := 1) h (by decide)) (.b (na (m := 2) h (by decide)) (.b (na (m := 3) h (by decide)) (.a (.ix 4) (.o (fki9 h) (.o nn (.o (by decide : (0 : Int) ≤ 2) (.o (by decide : (2 : Int) ≤ 3) (.m 8 le8 (.b (rfl : true = true) (.o in02 (.o (show inR (oI c i).a l.length from hk.a (by omega)) (.b (rfl : true = true) (.o in12 (.o (show inR (oI c i).b l.length from hk.b (by omega)) (.b (rfl : false = false) (.b hd (.k (s127B_9 hO0 l [(oI c i).a, (oI c i).b, (oI c i).c] (l.getD (oI c i).a.toNat B0) (l.getD (oI c i).b.toNat B0) ⟨0, 0, 0⟩) .sr)))))))))))))))))))).drop hX rfl rfl
    · rw [if_pos rfl]
      exact (sim_is (H1 := (RR0) ++ [.list true true 3 [(oI c i).a, (oI c i).b, (oI c i).c]] ++ [.list true true 5 [(l.getD (oI c i).a.toNat B0).f]]) hX hO (first := []) (cap := []) (by kernel_rfl) (.o hi (.b (na (m := 1) h (by decide)) (.b (na (m := 2) h (by decide)) (.b (na (m := 3) h (by decide)) (.a (.ix 4) (.o (fki9 h) (.o nn (.o (by decide : (0 : Int) ≤ 2) (.o (by decide : (2 : Int) ≤ 3) (.m 8 le8 (.b (rfl : true = true) (.o in02 (.o (show inR (oI c i).a l.length from hk.a (by omega)) (.b (rfl : true = true) (.o in12 (.o (show inR (oI c i).b l.length from hk.b (by omega)) (.b (rfl : false = false) (.b hd (.o le1 .sr)))))))))))))))))))).drop hX rfl rfl
  · rw [← rule_10 h]
    cases hd : (!(decide ((l.getD (oI c i).a.toNat B0).lo ≤ (l.getD (oI c i).a.toNat B0).hi)))
    · rw [if_neg (by simp)]
      exact (sim_is (H1 := (RR0) ++ [.list true true 3 [(oI c i).a, (oI c i).b, (oI c i).c]]) hX hO (first := []) (cap := []) (by kernel_rfl) (.o hi (.b (na (m := 1) h (by decide)) (.b (na (m := 2) h (by decide)) (.b (na (m := 3) h (by decide)) (.a (.ix 5) (.o (fki10 h) (.o nn (.o (by decide : (0 : Int) ≤ 2) (.o (by decide : (2 : Int) ≤ 3) (.m 8 le8 (.b (rfl : true = true) (.o in02 (.o (show inR (oI c i).a l.length from hk.a (by omega)) (.b (rfl : true = true) (.o in12 (.o (show inR (oI c i).b l.length from hk.b (by omega)) (.b (rfl : false = false) (.b hd (.k (s127B_10 hO0 l [(oI c i).a, (oI c i).b, (oI c i).c] (l.getD (oI c i).a.toNat B0) (l.getD (oI c i).b.toNat B0) ⟨0, 0, 0⟩) .sr)))))))))))))))))))).drop hX rfl rfl
    · rw [if_pos rfl]
      exact (sim_is (H1 := (RR0) ++ [.list true true 3 [(oI c i).a, (oI c i).b, (oI c i).c]] ++ [.list true true 5 [(l.getD (oI c i).a.toNat B0).f]]) hX hO (first := []) (cap := []) (by kernel_rfl) (.o hi (.b (na (m := 1) h (by decide)) (.b (na (m := 2) h (by decide)) (.b (na (m := 3) h (by decide)) (.a (.ix 5) (.o (fki10 h) (.o nn (.o (by decide : (0 : Int) ≤ 2) (.o (by decide : (2 : Int) ≤ 3) (.m 8 le8 (.b (rfl : true = true) (.o in02 (.o (show inR (oI c i).a l.length from hk.a (by omega)) (.b (rfl : true = true) (.o in12 (.o (show inR (oI c i).b l.length from hk.b (by omega)) (.b (rfl : false = false) (.b hd (.o le1 .sr)))))))))))))))))))).drop hX rfl rfl
  · rw [← rule_11 h]
    cases hd : (!(decide ((l.getD (oI c i).a.toNat B0).lo ≤ (l.getD (oI c i).a.toNat B0).hi)))
    · rw [if_neg (by simp)]
      exact (sim_is (H1 := (RR0) ++ [.list true true 3 [(oI c i).a, (oI c i).b, (oI c i).c]]) hX hO (first := []) (cap := []) (by kernel_rfl) (.o hi (.b (na (m := 1) h (by decide)) (.b (na (m := 2) h (by decide)) (.b (na (m := 3) h (by decide)) (.a (.ix 6) (.o (fki11 h) (.o nn (.o (by decide : (0 : Int) ≤ 2) (.o (by decide : (2 : Int) ≤ 3) (.m 8 le8 (.b (rfl : true = true) (.o in02 (.o (show inR (oI c i).a l.length from hk.a (by omega)) (.b (rfl : true = true) (.o in12 (.o (show inR (oI c i).b l.length from hk.b (by omega)) (.b (rfl : false = false) (.b hd (.k (s127B_11 hO0 l [(oI c i).a, (oI c i).b, (oI c i).c] (l.getD (oI c i).a.toNat B0) (l.getD (oI c i).b.toNat B0) ⟨0, 0, 0⟩) .sr)))))))))))))))))))).drop hX rfl rfl
    · rw [if_pos rfl]
      exact (sim_is (H1 := (RR0) ++ [.list true true 3 [(oI c i).a, (oI c i).b, (oI c i).c]] ++ [.list true true 5 [(l.getD (oI c i).a.toNat B0).f]]) hX hO (first := []) (cap := []) (by kernel_rfl) (.o hi (.b (na (m := 1) h (by decide)) (.b (na (m := 2) h (by decide)) (.b (na (m := 3) h (by decide)) (.a (.ix 6) (.o (fki11 h) (.o nn (.o (by decide : (0 : Int) ≤ 2) (.o (by decide : (2 : Int) ≤ 3) (.m 8 le8 (.b (rfl : true = true) (.o in02 (.o (show inR (oI c i).a l.length from hk.a (by omega)) (.b (rfl : true = true) (.o in12 (.o (show inR (oI c i).b l.length from hk.b (by omega)) (.b (rfl : false = false) (.b hd (.o le1 .sr)))))))))))))))))))).drop hX rfl rfl
  · rw [← rule_12 h]
    cases hd : (!(decide ((l.getD (oI c i).a.toNat B0).lo ≤ (l.getD (oI c i).a.toNat B0).hi)))
    · rw [if_neg (by simp)]
      exact (sim_is (H1 := (RR0) ++ [.list true true 3 [(oI c i).a, (oI c i).b, (oI c i).c]]) hX hO (first := []) (cap := []) (by kernel_rfl) (.o hi (.b (na (m := 1) h (by decide)) (.b (na (m := 2) h (by decide)) (.b (na (m := 3) h (by decide)) (.a (.ix 7) (.o (fki12 h) (.o nn (.o (by decide : (0 : Int) ≤ 2) (.o (by decide : (2 : Int) ≤ 3) (.m 8 le8 (.b (rfl : true = true) (.o in02 (.o (show inR (oI c i).a l.length from hk.a (by omega)) (.b (rfl : true = true) (.o in12 (.o (show inR (oI c i).b l.length from hk.b (by omega)) (.b (rfl : false = false) (.b hd (.k (s127B_12 hO0 l [(oI c i).a, (oI c i).b, (oI c i).c] (l.getD (oI c i).a.toNat B0) (l.getD (oI c i).b.toNat B0) ⟨0, 0, 0⟩) .sr)))))))))))))))))))).drop hX rfl rfl
    · rw [if_pos rfl]
      exact (sim_is (H1 := (RR0) ++ [.list true true 3 [(oI c i).a, (oI c i).b, (oI c i).c]] ++ [.list true true 5 [(l.getD (oI c i).a.toNat B0).f]]) hX hO (first := []) (cap := []) (by kernel_rfl) (.o hi (.b (na (m := 1) h (by decide)) (.b (na (m := 2) h (by decide)) (.b (na (m := 3) h (by decide)) (.a (.ix 7) (.o (fki12 h) (.o nn (.o (by decide : (0 : Int) ≤ 2) (.o (by decide : (2 : Int) ≤ 3) (.m 8 le8 (.b (rfl : true = true) (.o in02 (.o (show inR (oI c i).a l.length from hk.a (by omega)) (.b (rfl : true = true) (.o in12 (.o (show inR (oI c i).b l.length from hk.b (by omega)) (.b (rfl : false = false) (.b hd (.o le1 .sr)))))))))))))))))))).drop hX rfl rfl
  · rw [← rule_13 h]
    cases hd : (!(decide ((l.getD (oI c i).a.toNat B0).lo ≤ (l.getD (oI c i).a.toNat B0).hi)))
    · rw [if_neg (by simp)]
      exact (sim_is (H1 := (RR0) ++ [.list true true 3 [(oI c i).a, (oI c i).b, (oI c i).c]]) hX hO (first := []) (cap := []) (by kernel_rfl) (.o hi (.b (na (m := 1) h (by decide)) (.b (na (m := 2) h (by decide)) (.b (na (m := 3) h (by decide)) (.a (.ix 8) (.o (fki13 h) (.o nn (.o (by decide : (0 : Int) ≤ 2) (.o (by decide : (2 : Int) ≤ 3) (.m 8 le8 (.b (rfl : true = true) (.o in02 (.o (show inR (oI c i).a l.length from hk.a (by omega)) (.b (rfl : true = true) (.o in12 (.o (show inR (oI c i).b l.length from hk.b (by omega)) (.b (rfl : false = false) (.b hd (.k (s127B_13 hO0 l [(oI c i).a, (oI c i).b, (oI c i).c] (l.getD (oI c i).a.toNat B0) (l.getD (oI c i).b.toNat B0) ⟨0, 0, 0⟩) .sr)))))))))))))))))))).drop hX rfl rfl
    · rw [if_pos rfl]
      exact (sim_is (H1 := (RR0) ++ [.list true true 3 [(oI c i).a, (oI c i).b, (oI c i).c]] ++ [.list true true 5 [(l.getD (oI c i).a.toNat B0).f]]) hX hO (first := []) (cap := []) (by kernel_rfl) (.o hi (.b (na (m := 1) h (by decide)) (.b (na (m := 2) h (by decide)) (.b (na (m := 3) h (by decide)) (.a (.ix 8) (.o (fki13 h) (.o nn (.o (by decide : (0 : Int) ≤ 2) (.o (by decide : (2 : Int) ≤ 3) (.m 8 le8 (.b (rfl : true = true) (.o in02 (.o (show inR (oI c i).a l.length from hk.a (by omega)) (.b (rfl : true = true) (.o in12 (.o (show inR (oI c i).b l.length from hk.b (by omega)) (.b (rfl : false = false) (.b hd (.o le1 .sr)))))))))))))))))))).drop hX rfl rfl
  · rw [← rule_14 h]
    cases hd : (!(decide ((l.getD (oI c i).a.toNat B0).lo ≤ (l.getD (oI c i).a.toNat B0).hi)))
    · rw [if_neg (by simp)]
      exact (sim_is (H1 := (RR0) ++ [.list true true 3 [(oI c i).a, (oI c i).b, (oI c i).c]]) hX hO (first := []) (cap := []) (by kernel_rfl) (.o hi (.b (na (m := 1) h (by decide)) (.b (na (m := 2) h (by decide)) (.b (na (m := 3) h (by decide)) (.a (.ix 9) (.o (fki14 h) (.o nn (.o (by decide : (0 : Int) ≤ 2) (.o (by decide : (2 : Int) ≤ 3) (.m 8 le8 (.b (rfl : true = true) (.o in02 (.o (show inR (oI c i).a l.length from hk.a (by omega)) (.b (rfl : true = true) (.o in12 (.o (show inR (oI c i).b l.length from hk.b (by omega)) (.b (rfl : false = false) (.b hd (.k (s127B_14 hO0 l [(oI c i).a, (oI c i).b, (oI c i).c] (l.getD (oI c i).a.toNat B0) (l.getD (oI c i).b.toNat B0) ⟨0, 0, 0⟩) .sr)))))))))))))))))))).drop hX rfl rfl
    · rw [if_pos rfl]
      exact (sim_is (H1 := (RR0) ++ [.list true true 3 [(oI c i).a, (oI c i).b, (oI c i).c]] ++ [.list true true 5 [(l.getD (oI c i).a.toNat B0).f]]) hX hO (first := []) (cap := []) (by kernel_rfl) (.o hi (.b (na (m := 1) h (by decide)) (.b (na (m := 2) h (by decide)) (.b (na (m := 3) h (by decide)) (.a (.ix 9) (.o (fki14 h) (.o nn (.o (by decide : (0 : Int) ≤ 2) (.o (by decide : (2 : Int) ≤ 3) (.m 8 le8 (.b (rfl : true = true) (.o in02 (.o (show inR (oI c i).a l.length from hk.a (by omega)) (.b (rfl : true = true) (.o in12 (.o (show inR (oI c i).b l.length from hk.b (by omega)) (.b (rfl : false = false) (.b hd (.o le1 .sr)))))))))))))))))))).drop hX rfl rfl
  · rw [← rule_15 h]
    cases hd : (!(decide ((l.getD (oI c i).a.toNat B0).lo ≤ (l.getD (oI c i).a.toNat B0).hi)))
    · rw [if_neg (by simp)]
      exact (sim_is (H1 := (RR0) ++ [.list true true 3 [(oI c i).a, (oI c i).b, (oI c i).c]]) hX hO (first := []) (cap := []) (by kernel_rfl) (.o hi (.b (na (m := 1) h (by decide)) (.b (na (m := 2) h (by decide)) (.b (na (m := 3) h (by decide)) (.a (.ix 10) (.o (fki15 h) (.o nn (.o (by decide : (0 : Int) ≤ 2) (.o (by decide : (2 : Int) ≤ 3) (.m 8 le8 (.b (rfl : true = true) (.o in02 (.o (show inR (oI c i).a l.length from hk.a (by omega)) (.b (rfl : true = true) (.o in12 (.o (show inR (oI c i).b l.length from hk.b (by omega)) (.b (rfl : false = false) (.b hd .sr))))))))))))))))))).drop hX rfl rfl
    · rw [if_pos rfl]
      exact (sim_is (H1 := (RR0) ++ [.list true true 3 [(oI c i).a, (oI c i).b, (oI c i).c]] ++ [.list true true 5 [(l.getD (oI c i).a.toNat B0).f]]) hX hO (first := []) (cap := []) (by kernel_rfl) (.o hi (.b (na (m := 1) h (by decide)) (.b (na (m := 2) h (by decide)) (.b (na (m := 3) h (by decide)) (.a (.ix 10) (.o (fki15 h) (.o nn (.o (by decide : (0 : Int) ≤ 2) (.o (by decide : (2 : Int) ≤ 3) (.m 8 le8 (.b (rfl : true = true) (.o in02 (.o (show inR (oI c i).a l.length from hk.a (by omega)) (.b (rfl : true = true) (.o in12 (.o (show inR (oI c i).b l.length from hk.b (by omega)) (.b (rfl : false = false) (.b hd (.o le1 .sr)))))))))))))))))))).drop hX rfl rfl
  · rw [← rule_16 h]
    cases hd : (!(decide ((l.getD (oI c i).a.toNat B0).lo ≤ (l.getD (oI c i).a.toNat B0).hi)))
    · rw [if_neg (by simp)]
      exact (sim_is (H1 := (RR0) ++ [.list true true 3 [(oI c i).a, (oI c i).b, (oI c i).c]]) hX hO (first := []) (cap := []) (by kernel_rfl) (.o hi (.b (na (m := 1) h (by decide)) (.b (na (m := 2) h (by decide)) (.b (na (m := 3) h (by decide)) (.a (.ix 11) (.o (fki16 h) (.o nn (.o (by decide : (0 : Int) ≤ 2) (.o (by decide : (2 : Int) ≤ 3) (.m 8 le8 (.b (rfl : true = true) (.o in02 (.o (show inR (oI c i).a l.length from hk.a (by omega)) (.b (rfl : true = true) (.o in12 (.o (show inR (oI c i).b l.length from hk.b (by omega)) (.b (rfl : false = false) (.b hd .sr))))))))))))))))))).drop hX rfl rfl
    · rw [if_pos rfl]
      exact (sim_is (H1 := (RR0) ++ [.list true true 3 [(oI c i).a, (oI c i).b, (oI c i).c]] ++ [.list true true 5 [(l.getD (oI c i).a.toNat B0).f]]) hX hO (first := []) (cap := []) (by kernel_rfl) (.o hi (.b (na (m := 1) h (by decide)) (.b (na (m := 2) h (by decide)) (.b (na (m := 3) h (by decide)) (.a (.ix 11) (.o (fki16 h) (.o nn (.o (by decide : (0 : Int) ≤ 2) (.o (by decide : (2 : Int) ≤ 3) (.m 8 le8 (.b (rfl : true = true) (.o in02 (.o (show inR (oI c i).a l.length from hk.a (by omega)) (.b (rfl : true = true) (.o in12 (.o (show inR (oI c i).b l.length from hk.b (by omega)) (.b (rfl : false = false) (.b hd (.o le1 .sr)))))))))))))))))))).drop hX rfl rfl
  · rw [← rule_17 h]
    cases hd : (!(decide ((l.getD (oI c i).a.toNat B0).lo ≤ (l.getD (oI c i).a.toNat B0).hi)))
    · rw [if_neg (by simp)]
      exact (sim_is (H1 := (RR0) ++ [.list true true 3 [(oI c i).a, (oI c i).b, (oI c i).c]]) hX hO (first := []) (cap := []) (by kernel_rfl) (.o hi (.b (na (m := 1) h (by decide)) (.b (na (m := 2) h (by decide)) (.b (na (m := 3) h (by decide)) (.a (.ix 12) (.o (fki17 h) (.o nn (.o (by decide : (0 : Int) ≤ 3) (.o (by decide : (3 : Int) ≤ 3) (.m 8 le8 (.b (rfl : true = true) (.o in03 (.o (show inR (oI c i).a l.length from hk.a (by omega)) (.b (rfl : true = true) (.o in13 (.o (show inR (oI c i).b l.length from hk.b (by omega)) (.b (rfl : true = true) (.o in23 (.o (show inR (oI c i).c l.length from hk.c (by omega)) (.b (rfl : false = false) (.b hd .sr)))))))))))))))))))))).drop hX rfl rfl
    · rw [if_pos rfl]
      exact (sim_is (H1 := (RR0) ++ [.list true true 3 [(oI c i).a, (oI c i).b, (oI c i).c]] ++ [.list true true 5 [(l.getD (oI c i).a.toNat B0).f]]) hX hO (first := []) (cap := []) (by kernel_rfl) (.o hi (.b (na (m := 1) h (by decide)) (.b (na (m := 2) h (by decide)) (.b (na (m := 3) h (by decide)) (.a (.ix 12) (.o (fki17 h) (.o nn (.o (by decide : (0 : Int) ≤ 3) (.o (by decide : (3 : Int) ≤ 3) (.m 8 le8 (.b (rfl : true = true) (.o in03 (.o (show inR (oI c i).a l.length from hk.a (by omega)) (.b (rfl : true = true) (.o in13 (.o (show inR (oI c i).b l.length from hk.b (by omega)) (.b (rfl : true = true) (.o in23 (.o (show inR (oI c i).c l.length from hk.c (by omega)) (.b (rfl : false = false) (.b hd (.o le1 .sr))))))))))))))))))))))).drop hX rfl rfl
end Go.Proofs.YtfhiejgoemcelaaGreat
namespace Go.Proofs.YtfhiejgoemcelaaGreat
open Go Tw Pv
theorem s127C_7 {n : Nat} (hO : Ok n oc56) {x0 x1 x2 : List (PV gam)} (l : List B) (ops : List Int) (a b z : B) : Sim X0 Tryz.prog (ApN (n + 1)) (.fn 127 [] [.ptr 4 0 1]) [.agg a.ps, .agg b.ps, .agg z.ps] ([.cells x0, .cells x1, .cells x2] ++ RR3 ++ [.list false false 38 l] ++ [.list true true 3 ops]) (bA.put (S_both1 S_sums a b z)) ([.cells x0, .cells x1, .cells x2] ++ RR3 ++ [.list false false 38 l] ++ [.list true true 3 ops]) :=
  (sim_is (H1 := ([.cells x0, .cells x1, .cells x2] ++ RR3 ++ [.list false false 38 l] ++ [.list true true 3 ops]) ++ [.list true true 5 [a.f, b.f]]) hX hO (first := []) (by kernel_rfl) (.ssh (fun _ => .o le2 .sr) (fun _ => .o le2 .sr))).drop hX rfl rfl
theorem s127C_8 {n : Nat} (hO : Ok n oc56) {x0 x1 x2 : List (PV gam)} (l : List B) (ops : List Int) (a b z : B) : Sim X0 Tryz.prog (ApN (n + 1)) (.fn 127 [] [.ptr 5 0 1]) [.agg a.ps, .agg b.ps, .agg z.ps] ([.cells x0, .cells x1, .cells x2] ++ RR3 ++ [.list false false 38 l] ++ [.list true true 3 ops]) (bA.put (S_both1 S_differences a b z)) ([.cells x0, .cells x1, .cells x2] ++ RR3 ++ [.list false false 38 l] ++ [.list true true 3 ops]) :=
  (sim_is (H1 := ([.cells x0, .cells x1, .cells x2] ++ RR3 ++ [.list false false 38 l] ++ [.list true true 3 ops]) ++ [.list true true 5 [a.f, b.f]]) hX hO (first := []) (by kernel_rfl) (.ssh (fun _ => .o le2 .sr) (fun _ => .o le2 .sr))).drop hX rfl rfl
theorem s127C_9 {n : Nat} (hO : Ok n oc56) {x0 x1 x2 : List (PV gam)} (l : List B) (ops : List Int) (a b z : B) : Sim X0 Tryz.prog (ApN (n + 1)) (.fn 127 [] [.ptr 6 0 1]) [.agg a.ps, .agg b.ps, .agg z.ps] ([.cells x0, .cells x1, .cells x2] ++ RR3 ++ [.list false false 38 l] ++ [.list true true 3 ops]) (bA.put (S_both1 S_products a b z)) ([.cells x0, .cells x1, .cells x2] ++ RR3 ++ [.list false false 38 l] ++ [.list true true 3 ops]) :=
  (sim_is (H1 := ([.cells x0, .cells x1, .cells x2] ++ RR3 ++ [.list false false 38 l] ++ [.list true true 3 ops]) ++ [.list true true 5 [a.f, b.f]]) hX hO (first := []) (by kernel_rfl) (.ssh (fun _ => .o le2 .sr) (fun _ => .o le2 .sr))).drop hX rfl rfl
theorem s127C_10 {n : Nat} (hO : Ok n oc56) {x0 x1 x2 : List (PV gam)} (l : List B) (ops : List Int) (a b z : B) : Sim X0 Tryz.prog (ApN (n + 1)) (.fn 127 [] [.ptr 7 0 1]) [.agg a.ps, .agg b.ps, .agg z.ps] ([.cells x0, .cells x1, .cells x2] ++ RR3 ++ [.list false false 38 l] ++ [.list true true 3 ops]) (bA.put (S_both1 S_div a b z)) ([.cells x0, .cells x1, .cells x2] ++ RR3 ++ [.list false false 38 l] ++ [.list true true 3 ops]) :=
  (sim_is (H1 := ([.cells x0, .cells x1, .cells x2] ++ RR3 ++ [.list false false 38 l] ++ [.list true true 3 ops]) ++ [.list true true 5 [a.f, b.f]]) hX hO (first := []) (by kernel_rfl) (.ssh (fun _ => .o le2 .sr) (fun _ => .o le2 .sr))).drop hX rfl rfl
theorem s127C_11 {n : Nat} (hO : Ok n oc56) {x0 x1 x2 : List (PV gam)} (l : List B) (ops : List Int) (a b z : B) : Sim X0 Tryz.prog (ApN (n + 1)) (.fn 127 [] [.ptr 8 0 1]) [.agg a.ps, .agg b.ps, .agg z.ps] ([.cells x0, .cells x1, .cells x2] ++ RR3 ++ [.list false false 38 l] ++ [.list true true 3 ops]) (bA.put (S_both1 S_mod a b z)) ([.cells x0, .cells x1, .cells x2] ++ RR3 ++ [.list false false 38 l] ++ [.list true true 3 ops]) :=
  (sim_is (H1 := ([.cells x0, .cells x1, .cells x2] ++ RR3 ++ [.list false false 38 l] ++ [.list true true 3 ops]) ++ [.list true true 5 [a.f, b.f]]) hX hO (first := []) (by kernel_rfl) (.ssh (fun _ => .o le2 .sr) (fun _ => .o le2 .sr))).drop hX rfl rfl
theorem s127C_12 {n : Nat} (hO : Ok n oc56) {x0 x1 x2 : List (PV gam)} (l : List B) (ops : List Int) (a b z : B) : Sim X0 Tryz.prog (ApN (n + 1)) (.fn 127 [] [.ptr 9 0 1]) [.agg a.ps, .agg b.ps, .agg z.ps] ([.cells x0, .cells x1, .cells x2] ++ RR3 ++ [.list false false 38 l] ++ [.list true true 3 ops]) (bA.put (S_both1 S_eq a b z)) ([.cells x0, .cells x1, .cells x2] ++ RR3 ++ [.list false false 38 l] ++ [.list true true 3 ops]) :=
  (sim_is (H1 := ([.cells x0, .cells x1, .cells x2] ++ RR3 ++ [.list false false 38 l] ++ [.list true true 3 ops]) ++ [.list true true 5 [a.f, b.f]]) hX hO (first := []) (by kernel_rfl) (.ssh (fun _ => .o le2 .sr) (fun _ => .o le2 .sr))).drop hX rfl rfl
theorem s127C_13 {n : Nat} (hO : Ok n oc56) {x0 x1 x2 : List (PV gam)} (l : List B) (ops : List Int) (a b z : B) : Sim X0 Tryz.prog (ApN (n + 1)) (.fn 127 [] [.ptr 10 0 1]) [.agg a.ps, .agg b.ps, .agg z.ps] ([.cells x0, .cells x1, .cells x2] ++ RR3 ++ [.list false false 38 l] ++ [.list true true 3 ops]) (bA.put (S_both1 S_lt a b z)) ([.cells x0, .cells x1, .cells x2] ++ RR3 ++ [.list false false 38 l] ++ [.list true true 3 ops]) :=
  (sim_is (H1 := ([.cells x0, .cells x1, .cells x2] ++ RR3 ++ [.list false false 38 l] ++ [.list true true 3 ops]) ++ [.list true true 5 [a.f, b.f]]) hX hO (first := []) (by kernel_rfl) (.ssh (fun _ => .o le2 .sr) (fun _ => .o le2 .sr))).drop hX rfl rfl
theorem s127C_14 {n : Nat} (hO : Ok n oc56) {x0 x1 x2 : List (PV gam)} (l : List B) (ops : List Int) (a b z : B) : Sim X0 Tryz.prog (ApN (n + 1)) (.fn 127 [] [.ptr 11 0 1]) [.agg a.ps, .agg b.ps, .agg z.ps] ([.cells x0, .cells x1, .cells x2] ++ RR3 ++ [.list false false 38 l] ++ [.list true true 3 ops]) (bA.put (S_both1 S_le a b z)) ([.cells x0, .cells x1, .cells x2] ++ RR3 ++ [.list false false 38 l] ++ [.list true true 3 ops]) :=
  (sim_is (H1 := ([.cells x0, .cells x1, .cells x2] ++ RR3 ++ [.list false false 38 l] ++ [.list true true 3 ops]) ++ [.list true true 5 [a.f, b.f]]) hX hO (first := []) (by kernel_rfl) (.ssh (fun _ => .o le2 .sr) (fun _ => .o le2 .sr))).drop hX rfl rfl
theorem s64C {n : Nat} (hO0 : Ok n oc56) (hO : Ok (n + 1) oc56) {x0 x1 x2 : List (PV gam)} (c : C) (l : List B) (i : Int) (hi : inR i c.os.length) (hk : RuleOk (oI c i) l.length c.cs.length) : Sim X0 Tryz.prog (ApN (n + 1 + 1)) (.fn 64 [] []) [.agg (xC c ++ [.map 3]), .int .i64 i, .own 12] ([.cells x0, .cells x1, .cells x2] ++ RR3 ++ [.list false false 38 l]) (bA.put (S_rule c.cs l (oI c i))) ([.cells x0, .cells x1, .cells x2] ++ RR3 ++ [.list false false 38 l]) := by
  have g1 := hk.lo; have g2 := hk.hi; have g3 := hk.no
  have cases16 : (oI c i).code = 1 ∨ (oI c i).code = 2 ∨ (oI c i).code = 3 ∨ (oI c i).code = 5 ∨ (oI c i).code = 6 ∨ (oI c i).code = 7 ∨ (oI c i).code = 8 ∨ (oI c i).code = 9 ∨ (oI c i).code = 10 ∨ (oI c i).code = 11 ∨ (oI c i).code = 12 ∨ (oI c i).code = 13 ∨ (oI c i).code = 14 ∨ (oI c i).code = 15 ∨ (oI c i).code = 16 ∨ (oI c i).code = 17 := by omega
  have na : ∀ {k m : Int}, (oI c i).code = k → k ≠ m → ((oI c i).code == m) = false := fun h1 h2 => by rw [h1]; simpa using h2
  have ya : ∀ {k : Int}, (oI c i).code = k → ((oI c i).code == k) = true := fun h1 => by rw [h1]; simp
  rcases cases16 with h | h | h | h | h | h | h | h | h | h | h | h | h | h | h | h
  · rw [show S_rule c.cs l (oI c i) = ⟨(oI c i).n, (oI c i).n, 0⟩ by unfold S_rule; rw [if_pos h]]
    exact sim_is hX hO (first := []) (cap := []) (by kernel_rfl) (.o hi (.b (ya h) .sr))
  · rw [show S_rule c.cs l (oI c i) = S_with ⟨1, 0, 0⟩ [S_bit (IntKind.u8.wrap (oI c i).n)] by unfold S_rule; rw [if_neg (by rw [h]; decide), if_pos h]]
    exact (sim_is (H1 := ([.cells x0, .cells x1, .cells x2] ++ RR3 ++ [.list false false 38 l]) ++ [.list true true 5 [S_bit (IntKind.u8.wrap (oI c i).n)]]) hX hO (first := []) (cap := []) (by kernel_rfl) (.o hi (.b (na (m := 1) h (by decide)) (.b (ya h) (.o le1 .sr))))).drop hX rfl rfl
  · rw [show S_rule c.cs l (oI c i) = ⟨(c.cs.getD (oI c i).n.toNat K0).lo, (c.cs.getD (oI c i).n.toNat K0).hi, 0⟩ by unfold S_rule; rw [if_neg (by rw [h]; decide), if_neg (by rw [h]; decide), if_pos h]]
    exact sim_is hX hO (first := []) (cap := []) (by kernel_rfl) (.o hi (.b (na (m := 1) h (by decide)) (.b (na (m := 2) h (by decide)) (.b (ya h) (.o (show inR (oI c i).n c.cs.length from hk.ch h) (.o (show inR (oI c i).n c.cs.length from hk.ch h) .sr))))))
  · rw [← rule_5 h]
    cases hd : (!(decide ((l.getD (oI c i).a.toNat B0).lo ≤ (l.getD (oI c i).a.toNat B0).hi)))
    · rw [if_neg (by simp)]
      exact (sim_is (H1 := ([.cells x0, .cells x1, .cells x2] ++ RR3 ++ [.list false false 38 l]) ++ [.list true true 3 [(oI c i).a, (oI c i).b, (oI c i).c]]) hX hO (first := []) (cap := []) (by kernel_rfl) (.o hi (.b (na (m := 1) h (by decide)) (.b (na (m := 2) h (by decide)) (.b (na (m := 3) h (by decide)) (.a (.ix 0) (.o (fki5 h) (.o nn (.o (by decide : (0 : Int) ≤ 1) (.o (by decide : (1 : Int) ≤ 3) (.m 8 le8 (.b (rfl : true = true) (.o in01 (.o (show inR (oI c i).a l.length from hk.a (by omega)) (.b (rfl : false = false) (.b hd .sr)))))))))))))))).drop hX rfl rfl
    · rw [if_pos rfl]
      exact (sim_is (H1 := ([.cells x0, .cells x1, .cells x2] ++ RR3 ++ [.list false false 38 l]) ++ [.list true true 3 [(oI c i).a, (oI c i).b, (oI c i).c]] ++ [.list true true 5 [(l.getD (oI c i).a.toNat B0).f]]) hX hO (first := []) (cap := []) (by kernel_rfl) (.o hi (.b (na (m := 1) h (by decide)) (.b (na (m := 2) h (by decide)) (.b (na (m := 3) h (by decide)) (.a (.ix 0) (.o (fki5 h) (.o nn (.o (by decide : (0 : Int) ≤ 1) (.o (by decide : (1 : Int) ≤ 3) (.m 8 le8 (.b (rfl : true = true) (.o in01 (.o (show inR (oI c i).a l.length from hk.a (by omega)) (.b (rfl : false = false) (.b hd (.o le1 .sr))))))))))))))))).drop hX rfl rfl
  · rw [← rule_6 h]
    cases hd : (!(decide ((l.getD (oI c i).a.toNat B0).lo ≤ (l.getD (oI c i).a.toNat B0).hi)))
    · rw [if_neg (by simp)]
      exact (sim_is (H1 := ([.cells x0, .cells x1, .cells x2] ++ RR3 ++ [.list false false 38 l]) ++ [.list true true 3 [(oI c i).a, (oI c i).b, (oI c i).c]]) hX hO (first := []) (cap := []) (by kernel_rfl) (.o hi (.b (na (m := 1) h (by decide)) (.b (na (m := 2) h (by decide)) (.b (na (m := 3) h (by decide)) (.a (.ix 1) (.o (fki6 h) (.o nn (.o (by decide : (0 : Int) ≤ 1) (.o (by decide : (1 : Int) ≤ 3) (.m 8 le8 (.b (rfl : true = true) (.o in01 (.o (show inR (oI c i).a l.length from hk.a (by omega)) (.b (rfl : false = false) (.b hd .sr)))))))))))))))).drop hX rfl rfl
    · rw [if_pos rfl]
      exact (sim_is (H1 := ([.cells x0, .cells x1, .cells x2] ++ RR3 ++ [.list false false 38 l]) ++ [.list true true 3 [(oI c i).a, (oI c i).b, (oI c i).c]] ++ [.list true true 5 [(l.getD (oI c i).a.toNat B0).f]]) hX hO (first := []) (cap := []) (by kernel_rfl) (.o hi (.b (na (m := 1) h (by decide)) (.b (na (m := 2) h (by decide)) (.b (na (m := 3) h (by decide)) (.a (.ix 1) (.o (fki6 h) (.o nn (.o (by decide : (0 : Int) ≤ 1) (.o (by decide : (1 : Int) ≤ 3) (.m 8 le8 (.b (rfl : true = true) (.o in01 (.o (show inR (oI c i).a l.length from hk.a (by omega)) (.b (rfl : false = false) (.b hd (.o le1 .sr))))))))))))))))).drop hX rfl rfl
  · rw [← rule_7 h]
    cases hd : (!(decide ((l.getD (oI c i).a.toNat B0).lo ≤ (l.getD (oI c i).a.toNat B0).hi)))
    · rw [if_neg (by simp)]
      exact (sim_is (H1 := ([.cells x0, .cells x1, .cells x2] ++ RR3 ++ [.list false false 38 l]) ++ [.list true true 3 [(oI c i).a, (oI c i).b, (oI c i).c]]) hX hO (first := []) (cap := []) (by kernel_rfl) (.o hi (.b (na (m := 1) h (by decide)) (.b (na (m := 2) h (by decide)) (.b (na (m := 3) h (by decide)) (.a (.ix 2) (.o (fki7 h) (.o nn (.o (by decide : (0 : Int) ≤ 2) (.o (by decide : (2 : Int) ≤ 3) (.m 8 le8 (.b (rfl : true = true) (.o in02 (.o (show inR (oI c i).a l.length from hk.a (by omega)) (.b (rfl : true = true) (.o in12 (.o (show inR (oI c i).b l.length from hk.b (by omega)) (.b (rfl : false = false) (.b hd (.k (s127C_7 (x0 := x0) (x1 := x1) (x2 := x2) hO0 l [(oI c i).a, (oI c i).b, (oI c i).c] (l.getD (oI c i).a.toNat B0) (l.getD (oI c i).b.toNat B0) ⟨0, 0, 0⟩) .sr)))))))))))))))))))).drop hX rfl rfl
    · rw [if_pos rfl]
      exact (sim_is (H1 := ([.cells x0, .cells x1, .cells x2] ++ RR3 ++ [.list false false 38 l]) ++ [.list true true 3 [(oI c i).a, (oI c i).b, (oI c i).c]] ++ [.list true true 5 [(l.getD (oI c i).a.toNat B0).f]]) hX hO (first := []) (cap := []) (by kernel_rfl) (.o hi (.b (na (m := 1) h (by decide)) (.b (na (m := 2) h (by decide)) (.b (na (m := 3) h (by decide)) (.a (.ix 2) (.o (fki7 h) (.o nn (.o (by decide : (0 : Int) ≤ 2) (.o (by decide : (2 : Int) ≤ 3) (.m 8 le8 (.b (rfl : true = true) (.o in02 (.o (show inR (oI c i).a l.length from hk.a (by omega)) (.b (rfl : true = true) (.o in12 (.o (show inR (oI c i).b l.length from hk.b (by omega)) (.b (rfl : false = false) (.b hd (.o le1 .sr)))))))))))))))))))).drop hX rfl rfl
  · rw [← rule_8 h]
    cases hd : (!(decide ((l.getD (oI c i).a.toNat B0).lo ≤ (l.getD (oI c i).a.toNat B0).hi)))
    · rw [if_neg (by simp)]
      exact (sim_is (H1 := ([.cells x0, .cells x1, .cells x2] ++ RR3 ++ [.list false false 38 l]) ++ [.list true true 3 [(oI c i).a, (oI c i).b, (oI c i).c]]) hX hO (first := []) (cap := []) (by kernel_rfl) (.o hi (.b (na (m := 1) h (by decide)) (.b (na (m := 2) h (by decide)) (.b (na (m := 3) h (by decide)) (.a (.ix 3) (.o (fki8 h) (.o nn (.o (by decide : (0 : Int) ≤ 2) (.o (by decide : (2 : Int) ≤ 3) (.m 8 le8 (.b (rfl : true = true) (.o in02 (.o (show inR (oI c i).a l.length from hk.a (by omega)) (.b (rfl : true = true) (.o in12 (.o (show inR (oI c i).b l.length from hk.b (by omega)) (.b (rfl : false = false) (.b hd (.k (s127C_8 (x0 := x0) (x1 := x1) (x2 := x2) hO0 l [(oI c i).a, (oI c i).b, (oI c i).c] (l.getD (oI c i).a.toNat B0) (l.getD (oI c i).b.toNat B0) ⟨0, 0, 0⟩) .sr)))))))))))))))))))).drop hX rfl rfl
    · rw [if_pos rfl]
      exact (sim_is (H1 := ([.cells x0, .cells x1, .cells x2] ++ RR3 ++ [.list false false 38 l]) ++ [.list true true 3 [(oI c i).a, (oI c i).b, (oI c i).c]] ++ [.list true true 5 [(l.getD (oI c i).a.toNat B0).f]]) hX hO (first := []) (cap := []) (by kernel_rfl) (.o hi (.b (na (m := 1) h (by decide)) (.b (na (m := 2) h (by decide)) (.b (na (m := 3) h (by decide)) (.a (.ix 3) (.o (fki8 h) (.o nn (.o (by decide : (0 : Int) ≤ 2) (.o (by decide : (2 : Int) ≤ 3) (.m 8 le8 (.b (rfl : true = true) (.o in02 (.o (show inR (oI c i).a l.length from hk.a (by omega)) (.b (rfl : true = true) (.o in12 (.o (show inR (oI c i).b l.length from hk.b (by omega)) (.b (rfl : false = false) (.b hd (.o le1 .sr)))))))))))))))))))).drop hX rfl rfl
  · rw [← rule_9 h]
    cases hd : (!(decide ((l.getD (oI c i).a.toNat B0).lo ≤ (l.getD (oI c i).a.toNat B0).hi)))
    · rw [if_neg (by simp)]
      exact (sim_is (H1 := ([.cells x0, .cells x1, .cells x2] ++ RR3 ++ [.list false false 38 l]) ++ [.list true true 3 [(oI c i).a, (oI c i).b, (oI c i).c]]) hX hO (first := []) (cap := []) (by kernel_rfl) (.o hi (.b (na (m := 1) h (by decide)) (.b (na (m := 2) h (by decide)) (.b (na (m := 3) h (by decide)) (.a (.ix 4) (.o (fki9 h) (.o nn (.o (by decide : (0 : Int) ≤ 2) (.o (by decide : (2 : Int) ≤ 3) (.m 8 le8 (.b (rfl : true = true) (.o in02 (.o (show inR (oI c i).a l.length from hk.a (by omega)) (.b (rfl : true = true) (.o in12 (.o (show inR (oI c i).b l.length from hk.b (by omega)) (.b (rfl : false = false) (.b hd (.k (s127C_9 (x0 := x0) (x1 := x1) (x2 := x2) hO0 l [(oI c i).a, (oI c i).b, (oI c i).c] (l.getD (oI c i).a.toNat B0) (l.getD (oI c i).b.toNat B0) ⟨0, 0, 0⟩) .sr)))))))))))))))))))).drop hX rfl rfl
    · rw [if_pos rfl]
      exact (sim_is (H1 := ([.cells x0, .cells x1, .cells x2] ++ RR3 ++ [.list false false 38 l]) ++ [.list true true 3 [(oI c i).a, (oI c i).b, (oI c i).c]] ++ [.list true true 5 [(l.getD (oI c i).a.toNat B0).f]]) hX hO (first := []) (cap := []) (by kernel_rfl) (.o hi (.b (na (m := 1) h (by decide)) (.b (na (m := 2) h (by decide)) (.b (na (m := 3) h (by decide)) (.a (.ix 4) (.o (fki9 h) (.o nn (.o (by decide : (0 : Int) ≤ 2) (.o (by decide : (2 : Int) ≤ 3) (.m 8 le8 (.b (rfl : true = true) (.o in02 (.o (show inR (oI c i).a l.length from hk.a (by omega)) (.b (rfl : true = true) (.o in12 (.o (show inR (oI c i).b l.length from hk.b (by omega)) (.b (rfl : false = false) (.b hd (.o le1 .sr)))))))))))))))))))).drop hX rfl rfl
  · rw [← rule_10 h]
    cases hd : (!(decide ((l.getD (oI c i).a.toNat B0).lo ≤ (l.getD (oI c i).a.toNat B0).hi)))
    · rw [if_neg (by simp)]
      exact (sim_is (H1 := ([.cells x0, .cells x1, .cells x2] ++ RR3 ++ [.list false false 38 l]) ++ [.list true true 3 [(oI c i).a, (oI c i).b, (oI c i).c]]) hX hO (first := []) (cap := []) (by kernel_rfl) (.o hi (.b (na (m := 1) h (by decide)) (.b (na (m := 2) h (by decide)) (.b (na (m := 3) h (by decide)) (.a (.ix 5) (.o (fki10 h) (.o nn (.o (by decide : (0 : Int) ≤ 2) (.o (by decide : (2 : Int) ≤ 3) (.m 8 le8 (.b (rfl : true = true) (.o in02 (.o (show inR (oI c i).a l.length from hk.a (by omega)) (.b (rfl : true = true) (.o in12 (.o (show inR (oI c i).b l.length from hk.b (by omega)) (.b (rfl : false = false) (.b hd (.k (s127C_10 (x0 := x0) (x1 := x1) (x2 := x2) hO0 l [(oI c i).a, (oI c i).b, (oI c i).c] (l.getD (oI c i).a.toNat B0) (l.getD (oI c i).b.toNat B0) ⟨0, 0, 0⟩) .sr)))))))))))))))))))).drop hX rfl rfl
    · rw [if_pos rfl]
      exact (sim_is (H1 := ([.cells x0, .cells x1, .cells x2] ++ RR3 ++ [.list false false 38 l]) ++ [.list true true 3 [(oI c i).a, (oI c i).b, (oI c i).c]] ++ [.list true true 5 [(l.getD (oI c i).a.toNat B0).f]]) hX hO (first := []) (cap := []) (by kernel_rfl) (.o hi (.b (na (m := 1) h (by decide)) (.b (na (m := 2) h (by decide)) (.b (na (m := 3) h (by decide)) (.a (.ix 5) (.o (fki10 h) (.o nn (.o (by decide : (0 : Int) ≤ 2) (.o (by decide : (2 : Int) ≤ 3) (.m 8 le8 (.b (rfl : true = true) (.o in02 (.o (show inR (oI c i).a l.length from hk.a (by omega)) (.b (rfl : true = true) (.o in12 (.o (show inR (oI c i).b l.length from hk.b (by omega)) (.b (rfl : false = false) (.b hd (.o le1 .sr)))))))))))))))))))).drop hX rfl rfl
  · rw [← rule_11 h]
    cases hd : (!(decide ((l.getD (oI c i).a.toNat B0).lo ≤ (l.getD (oI c i).a.toNat B0).hi)))
    · rw [if_neg (by simp)]
      exact (sim_is (H1 := ([.cells x0, .cells x1, .cells x2] ++ RR3 ++ [.list false false 38 l]) ++ [.list true true 3 [(oI c i).a, (oI c i).b, (oI c i).c]]) hX hO (first := []) (cap := []) (by kernel_rfl) (.o hi (.b (na (m := 1) h (by decide)) (.b (na (m := 2) h (by decide)) (.b (na (m := 3) h (by decide)) (.a (.ix 6) (.o (fki11 h) (.o nn (.o (by decide : (0 : Int) ≤ 2) (.o (by decide : (2 : Int) ≤ 3) (.m 8 le8 (.b (rfl : true = true) (.o in02 (.o (show inR (oI c i).a l.length from hk.a (by omega)) (.b (rfl : true = true) (.o in12 (.o (show inR (oI c i).b l.length from hk.b (by omega)) (.b (rfl : false = false) (.b hd (.k (s127C_11 (x0 := x0) (x1 := x1) (x2 := x2) hO0 l [(oI c i).a, (oI c i).b, (oI c i).c] (l.getD (oI c i).a.toNat B0) (l.getD (oI c i).b.toNat B0) ⟨0, 0, 0⟩) .sr)))))))))))))))))))).drop hX rfl rfl
    · rw [if_pos rfl]
      exact (sim_is (H1 := ([.cells x0, .cells x1, .cells x2] ++ RR3 ++ [.list false false 38 l]) ++ [.list true true 3 [(oI c i).a, (oI c i).b, (oI c i).c]] ++ [.list true true 5 [(l.getD (oI c i).a.toNat B0).f]]) hX hO (first := []) (cap := []) (by kernel_rfl) (.o hi (.b (na (m := 1) h (by decide)) (.b (na (m := 2) h (by decide)) (.b (na (m := 3) h (by decide)) (.a (.ix 6) (.o (fki11 h) (.o nn (.o (by decide : (0 : Int) ≤ 2) (.o (by decide : (2 : Int) ≤ 3) (.m 8 le8 (.b (rfl : true = true) (.o in02 (.o (show inR (oI c i).a l.length from hk.a (by omega)) (.b (rfl : true = true) (.o in12 (.o (show inR (oI c i).b l.length from hk.b (by omega)) (.b (rfl : false = false) (.b hd (.o le1 .sr)))))))))))))))))))).drop hX rfl rfl
  · rw [← rule_12 h]
    cases hd : (!(decide ((l.getD (oI c i).a.toNat B0).lo ≤ (l.getD (oI c i).a.toNat B0).hi)))
    · rw [if_neg (by simp)]
      exact (sim_is (H1 := ([.cells x0, .cells x1, .cells x2] ++ RR3 ++ [.list false false 38 l]) ++ [.list true true 3 [(oI c i).a, (oI c i).b, (oI c i).c]]) hX hO (first := []) (cap := []) (by kernel_rfl) (.o hi (.b (na (m := 1) h (by decide)) (.b (na (m := 2) h (by decide)) (.b (na (m := 3) h (by decide)) (.a (.ix 7) (.o (fki12 h) (.o nn (.o (by decide : (0 : Int) ≤ 2) (.o (by decide : (2 : Int) ≤ 3) (.m 8 le8 (.b (rfl : true = true) (.o in02 (.o (show inR (oI c i).a l.length from hk.a (by omega)) (.b (rfl : true = true) (.o in12 (.o (show inR (oI c i).b l.length from hk.b (by omega)) (.b (rfl : false = false) (.b hd (.k (s127C_12 (x0 := x0) (x1 := x1) (x2 := x2) hO0 l [(oI c i).a, (oI c i).b, (oI c i).c] (l.getD (oI c i).a.toNat B0) (l.getD (oI c i).b.toNat B0) ⟨0, 0, 0⟩) .sr)))))))))))))))))))).drop hX rfl rfl
    · rw [if_pos rfl]
      exact (sim_is (H1 := ([.cells x0, .cells x1, .cells x2] ++ RR3 ++ [.list false false 38 l]) ++ [.list true true 3 [(oI c i).a, (oI c i).b, (oI c i).c]] ++ [.list true true 5 [(l.getD (oI c i).a.toNat B0).f]]) hX hO (first := []) (cap := []) (by kernel_rfl) (.o hi (.b (na (m := 1) h (by decide)) (.b (na (m := 2) h (by decide)) (.b (na (m := 3) h (by decide)) (.a (.ix 7) (.o (fki12 h) (.o nn (.o (by decide : (0 : Int) ≤ 2) (.o (by decide : (2 : Int) ≤ 3) (.m 8 le8 (.b (rfl : true = true) (.o in02 (.o (show inR (oI c i).a l.length from hk.a (by omega)) (.b (rfl : true = true) (.o in12 (.o (show inR (oI c i).b l.length from hk.b (by omega)) (.b (rfl : false = false) (.b hd (.o le1 .sr)))))))))))))))))))).drop hX rfl rfl
  · rw [← rule_13 h]
    cases hd : (!(decide ((l.getD (oI c i).a.toNat B0).lo ≤ (l.getD (oI c i).a.toNat B0).hi)))
    · rw [if_neg (by simp)]
      exact (sim_is (H1 := ([.cells x0, .cells x1, .cells x2] ++ RR3 ++ [.list false false 38 l]) ++ [.list true true 3 [(oI c i).a, (oI c i).b, (oI c i).c]]) hX hO (first := []) (cap := []) (by kernel_rfl) (.o hi (.b (na (m := 1) h (by decide)) (.b (na (m := 2) h (by decide)) (.b (na (m := 3) h (by decide)) (.a (.ix 8) (.o (fki13 h) (.o nn (.o (by decide : (0 : Int) ≤ 2) (.o (by decide : (2 : Int) ≤ 3) (.m 8 le8 (.b (rfl : true = true) (.o in02 (.o (show inR (oI c i).a l.length from hk.a (by omega)) (.b (rfl : true = true) (.o in12 (.o (show inR (oI c i).b l.length from hk.b (by omega)) (.b (rfl : false = false) (.b hd (.k (s127C_13 (x0 := x0) (x1 := x1) (x2 := x2) hO0 l [(oI c i).a, (oI c i).b, (oI c i).c] (l.getD (oI c i).a.toNat B0) (l.getD (oI c i).b.toNat B0) ⟨0, 0, 0⟩) .sr)))))))))))))))))))).drop hX rfl rfl
    · rw [if_pos rfl]
      exact (sim_is (H1 := ([.cells x0, .cells x1, .cells x2] ++ RR3 ++ [.list false false 38 l]) ++ [.list true true 3 [(oI c i).a, (oI c i).b, (oI c i).c]] ++ [.list true true 5 [(l.getD (oI c i).a.toNat B0).f]]) hX hO (first := []) (cap := []) (by kernel_rfl) (.o hi (.b (na (m := 1) h (by decide)) (.b (na (m := 2) h (by decide)) (.b (na (m := 3) h (by decide)) (.a (.ix 8) (.o (fki13 h) (.o nn (.o (by decide : (0 : Int) ≤ 2) (.o (by decide : (2 : Int) ≤ 3) (.m 8 le8 (.b (rfl : true = true) (.o in02 (.o (show inR (oI c i).a l.length from hk.a (by omega)) (.b (rfl : true = true) (.o in12 (.o (show inR (oI c i).b l.length from hk.b (by omega)) (.b (rfl : false = false) (.b hd (.o le1 .sr)))))))))))))))))))).drop hX rfl rfl
  · rw [← rule_14 h]
    cases hd : (!(decide ((l.getD (oI c i).a.toNat B0).lo ≤ (l.getD (oI c i).a.toNat B0).hi)))
    · rw [if_neg (by simp)]
      exact (sim_is (H1 := ([.cells x0, .cells x1, .cells x2] ++ RR3 ++ [.list false false 38 l]) ++ [.list true true 3 [(oI c i).a, (oI c i).b, (oI c i).c]]) hX hO (first := []) (cap := []) (by kernel_rfl) (.o hi (.b (na (m := 1) h (by decide)) (.b (na (m := 2) h (by decide)) (.b (na (m := 3) h (by decide)) (.a (.ix 9) (.o (fki14 h) (.o nn (.o (by decide : (0 : Int) ≤ 2) (.o (by decide : (2 : Int) ≤ 3) (.m 8 le8 (.b (rfl : true = true) (.o in02 (.o (show inR (oI c i).a l.length from hk.a (by omega)) (.b (rfl : true = true) (.o in12 (.o (show inR (oI c i).b l.length from hk.b (by omega)) (.b (rfl : false = false) (.b hd (.k (s127C_14 (x0 := x0) (x1 := x1) (x2 := x2) hO0 l [(oI c i).a, (oI c i).b, (oI c i).c] (l.getD (oI c i).a.toNat B0) (l.getD (oI c i).b.toNat B0) ⟨0, 0, 0⟩) .sr)))))))))))))))))))).drop hX rfl rfl
    · rw [if_pos rfl]
      exact (sim_is (H1 := ([.cells x0, .cells x1, .cells x2] ++ RR3 ++ [.list false false 38 l]) ++ [.list true true 3 [(oI c i).a, (oI c i).b, (oI c i).c]] ++ [.list true true 5 [(l.getD (oI c i).a.toNat B0).f]]) hX hO (first := []) (cap := []) (by kernel_rfl) (.o hi (.b (na (m := 1) h (by decide)) (.b (na (m := 2) h (by decide)) (.b (na (m := 3) h (by decide)) (.a (.ix 9) (.o (fki14 h) (.o nn (.o (by decide : (0 : Int) ≤ 2) (.o (by decide : (2 : Int) ≤ 3) (.m 8 le8 (.b (rfl : true = true) (.o in02 (.o (show inR (oI c i).a l.length from hk.a (by omega)) (.b (rfl : true = true) (.o in12 (.o (show inR (oI c i).b l.length from hk.b (by omega)) (.b (rfl : false = false) (.b hd (.o le1 .sr)))))))))))))))))))).drop hX rfl rfl
  · rw [← rule_15 h]
    cases hd : (!(decide ((l.getD (oI c i).a.toNat B0).lo ≤ (l.getD (oI c i).a.toNat B0).hi)))
    · rw [if_neg (by simp)]
      exact (sim_is (H1 := ([.cells x0, .cells x1, .cells x2] ++ RR3 ++ [.list false false 38 l]) ++ [.list true true 3 [(oI c i).a, (oI c i).b, (oI c i).c]]) hX hO (first := []) (cap := []) (by kernel_rfl) (.o hi (.b (na (m := 1) h (by decide)) (.b (na (m := 2) h (by decide)) (.b (na (m := 3) h (by decide)) (.a (.ix 10) (.o (fki15 h) (.o nn (.o (by decide : (0 : Int) ≤ 2) (.o (by decide : (2 : Int) ≤ 3) (.m 8 le8 (.b (rfl : true = true) (.o in02 (.o (show inR (oI c i).a l.length from hk.a (by omega)) (.b (rfl : true = true) (.o in12 (.o (show inR (oI c i).b l.length from hk.b (by omega)) (.b (rfl : false = false) (.b hd .sr))))))))))))))))))).drop hX rfl rfl
    · rw [if_pos rfl]
      exact (sim_is (H1 := ([.cells x0, .cells x1, .cells x2] ++ RR3 ++ [.list false false 38 l]) ++ [.list true true 3 [(oI c i).a, (oI c i).b, (oI c i).c]] ++ [.list true true 5 [(l.getD (oI c i).a.toNat B0).f]]) hX hO (first := []) (cap := []) (by kernel_rfl) (.o hi (.b (na (m := 1) h (by decide)) (.b (na (m := 2) h (by decide)) (.b (na (m := 3) h (by decide)) (.a (.ix 10) (.o (fki15 h) (.o nn (.o (by decide : (0 : Int) ≤ 2) (.o (by decide : (2 : Int) ≤ 3) (.m 8 le8 (.b (rfl : true = true) (.o in02 (.o (show inR (oI c i).a l.length from hk.a (by omega)) (.b (rfl : true = true) (.o in12 (.o (show inR (oI c i).b l.length from hk.b (by omega)) (.b (rfl : false = false) (.b hd (.o le1 .sr)))))))))))))))))))).drop hX rfl rfl
  · rw [← rule_16 h]
    cases hd : (!(decide ((l.getD (oI c i).a.toNat B0).lo ≤ (l.getD (oI c i).a.toNat B0).hi)))
    · rw [if_neg (by simp)]
      exact (sim_is (H1 := ([.cells x0, .cells x1, .cells x2] ++ RR3 ++ [.list false false 38 l]) ++ [.list true true 3 [(oI c i).a, (oI c i).b, (oI c i).c]]) hX hO (first := []) (cap := []) (by kernel_rfl) (.o hi (.b (na (m := 1) h (by decide)) (.b (na (m := 2) h (by decide)) (.b (na (m := 3) h (by decide)) (.a (.ix 11) (.o (fki16 h) (.o nn (.o (by decide : (0 : Int) ≤ 2) (.o (by decide : (2 : Int) ≤ 3) (.m 8 le8 (.b (rfl : true = true) (.o in02 (.o (show inR (oI c i).a l.length from hk.a (by omega)) (.b (rfl : true = true) (.o in12 (.o (show inR (oI c i).b l.length from hk.b (by omega)) (.b (rfl : false = false) (.b hd .sr))))))))))))))))))).drop hX rfl rfl
    · rw [if_pos rfl]
      exact (sim_is (H1 := ([.cells x0, .cells x1, .cells x2] ++ RR3 ++ [.list false false 38 l]) ++ [.list true true 3 [(oI c i).a, (oI c i).b, (oI c i).c]] ++ [.list true true 5 [(l.getD (oI c i).a.toNat B0).f]]) hX hO (first := []) (cap := []) (by kernel_rfl) (.o hi (.b (na (m := 1) h (by decide)) (.b (na (m := 2) h (by decide)) (.b (na (m := 3) h (by decide)) (.a (.ix 11) (.o (fki16 h) (.o nn (.o (by decide : (0 : Int) ≤ 2) (.o (by decide : (2 : Int) ≤ 3) (.m 8 le8 (.b (rfl : true = true) (.o in02 (.o (show inR (oI c i).a l.length from hk.a (by omega)) (.b (rfl : true = true) (.o in12 (.o (show inR (oI c i).b l.length from hk.b (by omega)) (.b (rfl : false = false) (.b hd (.o le1 .sr)))))))))))))))))))).drop hX rfl rfl
  · rw [← rule_17 h]
    cases hd : (!(decide ((l.getD (oI c i).a.toNat B0).lo ≤ (l.getD (oI c i).a.toNat B0).hi)))
    · rw [if_neg (by simp)]
      exact (sim_is (H1 := ([.cells x0, .cells x1, .cells x2] ++ RR3 ++ [.list false false 38 l]) ++ [.list true true 3 [(oI c i).a, (oI c i).b, (oI c i).c]]) hX hO (first := []) (cap := []) (by kernel_rfl) (.o hi (.b (na (m := 1) h (by decide)) (.b (na (m := 2) h (by decide)) (.b (na (m := 3) h (by decide)) (.a (.ix 12) (.o (fki17 h) (.o nn (.o (by decide : (0 : Int) ≤ 3) (.o (by decide : (3 : Int) ≤ 3) (.m 8 le8 (.b (rfl : true = true) (.o in03 (.o (show inR (oI c i).a l.length from hk.a (by omega)) (.b (rfl : true = true) (.o in13 (.o (show inR (oI c i).b l.length from hk.b (by omega)) (.b (rfl : true = true) (.o in23 (.o (show inR (oI c i).c l.length from hk.c (by omega)) (.b (rfl : false = false) (.b hd .sr)))))))))))))))))))))).drop hX rfl rfl
    · rw [if_pos rfl]
      exact (sim_is (H1 := ([.cells x0, .cells x1, .cells x2] ++ RR3 ++ [.list false false 38 l]) ++ [.list true true 3 [(oI c i).a, (oI c i).b, (oI c i).c]] ++ [.list true true 5 [(l.getD (oI c i).a.toNat B0).f]]) hX hO (first := []) (cap := []) (by kernel_rfl) (.o hi (.b (na (m := 1) h (by decide)) (.b (na (m := 2) h (by decide)) (.b (na (m := 3) h (by decide)) (.a (.ix 12) (.o (fki17 h) (.o nn (.o (by decide : (0 : Int) ≤ 3) (.o (by decide : (3 : Int) ≤ 3) (.m 8 le8 (.b (rfl : true = true) (.o in03 (.o (show inR (oI c i).a l.length from hk.a (by omega)) (.b (rfl : true = true) (.o in13 (.o (show inR (oI c i).b l.length from hk.b (by omega)) (.b (rfl : true = true) (.o in23 (.o (show inR (oI c i).c l.length from hk.c (by omega)) (.b (rfl : false = false) (.b hd (.o le1 .sr))))))))))))))))))))))).drop hX rfl rfl
end Go.Proofs.YtfhiejgoemcelaaGreat
namespace Pv
open Go Tw
section
variable {X : Cod} {P : Program} {T : Tab} {L : Nat}
theorem sim_ex (hX : CodOk X P) {n f : Nat} {orc : Orc X.Γ} (hO : OrcOk X P (apN P T L n) orc) {first xs cap : List (PV X.Γ)} {H H1 : List (PB X.Γ)} {v : PV X.Γ} {an : PT X.Γ} {o : OT (PV X.Γ × List (PB X.Γ))}
    (hk : pfunK X P T orc (Sim X P (apN P T L n)) (LoopS X P T (apN P T L n) L f H.length) L f (first ++ xs ++ cap) H an = o) (ht : Fp (IsE v H1) an o) : Sim X P (apN P T L (n + 1)) (.fn f first cap) xs H v H1 := by
  obtain ⟨y, h1, h2⟩ := ht.ends
  cases h2
  rw [← hk] at h1
  exact sim_fn hX (n := n + 1) (by omega) hO h1
end
end Pv
namespace Go.Proofs.YtfhiejgoemcelaaGreat
open Go Tw Pv
def gR (c : C) (l : List B) (_ : Nat) (o : O) : List B := [S_rule c.cs l o]
theorem reachL_bld (c : C) : reachL c.cs c.os = bld (gR c) c.os 0 [] := by
  have : ∀ (os : List O) (i : Nat) (l : List B), (reachS (fun (_ : Unit) _ b => ((), b)) c.cs os () l).2 = bld (gR c) os i l := by
    intro os
    induction os with
    | nil => intro i l; rfl
    | cons o os ih => intro i l; simp only [reachS, bld, gR]; exact ih _ _
  exact this _ _ _
abbrev w55 (c : C) (i : Int) (acc : List B) (x : List (Nat × PE gam)) : PSt gam := ⟨[(1, .val (.fn 56 [] [])), (5, .val (.own 9)), (6, .loc 1 0), (13, xi c.os.length), (14, xi i)] ++ x, [xC c, xC c ++ [.map 0]], RR0 ++ [.list false false 38 acc]⟩
set_option maxRecDepth 10000 in
theorem l55 {N : Nat} (hO : ∀ m, N ≤ m → Ok m oc56) (c : C) (hlo : c.os.length ≤ most) (hok : ∀ (i : Nat) (o : O), c.os[i]? = some o → RuleOk o i c.cs.length) : Lp (N + 2) 55 0 (w55 c 0 [] []) (.exit 0) (w55 c c.os.length (reachL c.cs c.os) [(15, xl false)]) := by
  rw [reachL_bld]
  refine eachB O0 (l := c.os) (s0 := ([] : List B)) (g := gR c) (st := fun i l => w55 c i l []) (fin := fun l => w55 c c.os.length l [(15, xl false)]) (fun k l => l.length = k) (by kernel_rfl) hlo LLm rfl (fun k s h hi => by simp [gR, hi]) (fun k s h hi n e p hr => ?_) (fun s _ => round hX (hO (N + 2) (by omega)) (by kernel_rfl) (.b (lt_no c.os.length) .ex))
  have hm : s.length + 1 ≤ most := by rw [hi]; omega
  have hk : RuleOk (oI c k) s.length c.cs.length := by rw [hi]; exact hok k _ (getD_at h _)
  exact round hX (hO (N + 2) (by omega)) (by kernel_rfl) (.b (lt_nat h) <| .k (s64A (hO N (by omega)) (hO (N + 1) (by omega)) c s k (inR_nat h) hk) <| .o hm <| .goG [.gc [0, 1, 2, 3, 4, 5, 6, 7, 8, 11]] hr)
end Go.Proofs.YtfhiejgoemcelaaGreat
namespace Pv
open Go Tw
def itF {σ ρ : Type} (g : σ → σ ⊕ ρ) : Nat → σ → Option ρ
  | 0, _ => none
  | k + 1, s => match g s with
    | .inl s1 => itF g k s1
    | .inr r => some r
section
variable {X : Cod} {P : Program} {T : Tab} {L : Nat} {f nt B : Nat} {rnd : Bool} {call : CallT} {b : Code} {σ ρ : Type}
def contW (out : ρ → Ex × PSt X.Γ) (r : ρ) : σ ⊕ ρ → Ex × PSt X.Γ
  | .inl _ => out r
  | .inr r' => out r'
theorem whileR {st : σ → PSt X.Γ} {g : σ → σ ⊕ ρ} {out : ρ → Ex × PSt X.Γ} (Inv : σ → Prop) (hi : ∀ s s1, Inv s → g s = .inl s1 → Inv s1)
    (hs : ∀ s n r, Inv s → (∀ s1, g s = .inl s1 → RoundsH X P T call L f rnd nt B b n (st s1) (out r).1 (out r).2) → RoundsH X P T call L f rnd nt B b (n + 1) (st s) (contW out r (g s)).1 (contW out r (g s)).2) :
    ∀ {k : Nat} {s : σ} {r : ρ}, Inv s → itF g k s = some r → RoundsH X P T call L f rnd nt B b k (st s) (out r).1 (out r).2
  | 0, s, r, _, h => by cases h
  | k + 1, s, r, hv, h => by
    simp only [itF] at h
    have h1 := hs s k r hv fun s1 h1 => by
      rw [h1] at h
      exact whileR Inv hi hs (hi s s1 hv h1) h
    cases hg : g s with
    | inl s1 => rw [hg] at h1; exact h1
    | inr r' => rw [hg] at h1 h; simp only [Option.some.injEq] at h; subst h; exact h1
theorem whileE {st : σ → PSt X.Γ} {g : σ → σ ⊕ ρ} {out : ρ → Ex × PSt X.Γ} (Inv : σ → Prop) {k : Nat} {s : σ} {r : ρ} {w : PSt X.Γ} (hr : itF g k s = some r) (h0 : patHead X (T.headAt f (headId b)) w = st s) (hk : k ≤ L) (hv : Inv s) (hi : ∀ s s1, Inv s → g s = .inl s1 → Inv s1)
    (hs : ∀ s n r, Inv s → (∀ s1, g s = .inl s1 → RoundsH X P T call L f rnd nt B b n (st s1) (out r).1 (out r).2) → RoundsH X P T call L f rnd nt B b (n + 1) (st s) (contW out r (g s)).1 (contW out r (g s)).2) :
    ExecS X P T call L f rnd nt B (.loop b) w (out r).1 (out r).2 := loopH_of (whileR Inv hi hs hv hr) h0 hk
end
end Pv
namespace Go.Proofs.YtfhiejgoemcelaaGreat
open Go Tw Pv
noncomputable def oc55 : Orc gam := orcF 55 (a2 cA (fnA 56)) bsA (fun p => reachL p.1.cs p.1.os) (fun p => [p.1.os.length ≤ most, ∀ (i : Nat) (o : O), p.1.os[i]? = some o → RuleOk o i p.1.cs.length]) oc56
theorem gc55 : Gd oc55 := gc56.deep 2 fun n hn hO p hp => by
  obtain ⟨n, rfl⟩ : ∃ k, n = k + 2 := ⟨n - 2, by omega⟩
  exact fn_is hX (hO _ (by omega)) (by kernel_rfl) (.k (s63_0 (n := n + 1) (hO _ (by omega))) (.wG [.nilE 5 38] (l55 (fun m hm => hO m (by omega)) p.1 (hp _ (.head _)) (hp _ (.tail _ (.head _)))) .rr))
theorem ok3000 {k : Nat} (h : k ≤ 3000) : k ≤ most := by unfold most; omega
noncomputable def oc19 : Orc gam := orcF 19 (a1 cA) (tupA (a2 bsA iA)) (fun p => S_Of p) np oc55
theorem gc19 : Gd oc19 := gc55.add fun n hO p hp => fn_is hX hO (by kernel_rfl) (.sh (fun _ => .rn (.tup [.nil .slc, .int .i64 (S_check p)]) rfl) fun h => .o (ok3000 (check_ok h).2.2.2.1) (.o (fun i o hi => ((check_ok h).2.1 i o hi).1 : ∀ (i : Nat) (o : O), p.os[i]? = some o → RuleOk o i p.cs.length) .rr))
end Go.Proofs.YtfhiejgoemcelaaGreat
namespace Go.Proofs.YtfhiejgoemcelaaGreat
open Go Tw Pv
noncomputable def oc31 : Orc gam := orcF 31 (a2 cA iA) (tupA (a2 uA iA)) (fun p => S_Never (S_Of p.1).2 (S_Of p.1).1 p.2) np oc19
theorem gc31 : Gd oc31 := gc19.add fun n hO p hp => fn_is hX hO (by kernel_rfl) (.sh (fun h0 => .rr) fun h0 => (.sh (fun h1 => .rr) fun h1 => (.sh (fun h2 => .rr) fun h2 => (.o (show inR p.2 (S_Of p.1).1.length from ⟨by simpa using h1, by simpa using h2⟩) .rr))))
noncomputable def oc62 : Orc gam := orcF 62 (a1 bA) tA (fun p => S_valid p) np oc31
theorem gc62 : Gd oc62 := gc31.add fun n hO p hp => fn_is hX hO (by kernel_rfl) (.sh (fun _ => .rr) fun h0 => .o le1 (.q (.bool (decide (p = S_with ⟨1, 0, 0⟩ [p.f]))) (eq_B94 (.tmp 7) (.tmp 13) p (S_with ⟨1, 0, 0⟩ [p.f])) (.ss .rr (.ss (.ss .rr .rr) .rr))))
noncomputable def oc61 : Orc gam := orcF 61 (a1 bA) tA (fun p => S_Weak1 p) np oc62
theorem gc61 : Gd oc61 := gc62.add fun n hO p hp => fn_is hX hO (by kernel_rfl) .rr
end Go.Proofs.YtfhiejgoemcelaaGreat
namespace Pv
open Go Tw
theorem Good.deep2 {X : Cod} {P : Program} {T : Tab} {L : Nat} {α β : Type} {f : FuncId} {a : ArL X P α} {r : Ar X P β} {S : α → β} {pre : α → List Prop} {orc orc2 : Orc X.Γ} (d : Nat) (hg : Good X P T L orc) (hg2 : Good X P T L orc2)
    (hf : ∀ n, d ≤ n → (∀ m, n - d ≤ m → OrcOk X P (apN P T L m) orc) → (∀ m, n - d ≤ m → OrcOk X P (apN P T L m) orc2) → ∀ x, (∀ p ∈ pre x, p) → Con X P (apN P T L (n + 1)) f (a.put x) (r.put (S x)) []) : Good X P T L (orcF f a r S pre orc) := by
  obtain ⟨N2, hN2⟩ := hg2
  obtain ⟨M, hM⟩ := hg
  refine ⟨M + N2 + d + 1, fun n hn => ?_⟩
  obtain ⟨k, rfl⟩ : ∃ k, n = k + 1 := ⟨n - 1, by omega⟩
  intro g vs v ext ps ho hp
  unfold orcF at ho
  split at ho
  · rename_i e
    have e := Nat.eq_of_beq_eq_true e
    subst e
    split at ho
    · rename_i x hx
      cases ho
      intro A h first args cap hup hv
      exact hf k (by omega) (fun m hm => hM m (by omega)) (fun m hm => hN2 m (by omega)) x hp A h first args cap hup (a.ok hx hv)
    · exact hM (k + 1) (by omega) g vs v ext ps ho hp
  · exact hM (k + 1) (by omega) g vs v ext ps ho hp
end Pv
namespace Go.Proofs.YtfhiejgoemcelaaGreat
open Go Tw Pv
noncomputable def oc60 : Orc gam := orcF 60 (a2 bsA (fnA 61)) tA (fun p => S_all p.1) (fun p => [p.1.length ≤ most]) oc61
theorem gc60 : Gd oc60 := gc61.deep 3 fun n hn hO p hp => by
  obtain ⟨n, rfl⟩ : ∃ k, n = k + 3 := ⟨n - 3, by omega⟩
  have h1 : ∀ x : B, Sim X0 Tryz.prog (ApN (n + 1)) (.fn 92 [] [.ptr 0 0 1]) [.agg x.ps] [.cells [.fn 61 [] []]] (tA.put (S_all1 x)) [.cells [.fn 61 [] []]] := fun x => sim_is hX (hO n (by omega)) (first := []) (by kernel_rfl) .sr
  have h2 := s91 (n := n + 2) (by omega) (g := fun x => S_all1 x) h1 p.1 (hp _ (.head _))
  exact fn_is hX (hO (n + 3) (by omega)) (by kernel_rfl) (.k h2 (.v (!(S_ContainsFuncB (fun x => S_all1 x) p.1)) (by rw [containsB]; rfl)))
abbrev w24 (c : C) (l : List B) (i : Int) (x : List (Nat × PE gam)) : PSt gam := ⟨[(1, xL 38 l), (7, .loc 1 0), (30, xi c.os.length), (31, xi i)] ++ x, [xC c, xC c ++ [.map 0]], RR0⟩
def z24 (c : C) (l : List B) : Unit ⊕ (Nat × O × Unit) → Ex × PSt gam
  | .inl _ => (.exit 0, w24 c l c.os.length [(32, xl false)])
  | .inr r => (.ret, ⟨[(4, xi r.1), (5, xi 0)], [xC c, xC c ++ [.map 0]], RR0⟩)
set_option maxRecDepth 10000 in
theorem l24 {N : Nat} (hO : ∀ m, N ≤ m → Ok m oc60) (hO2 : ∀ m, N ≤ m → Ok m oc56) (c : C) (l : List B) (hlo : c.os.length ≤ most) (hl : l.length = c.os.length) (hok : ∀ (i : Nat) (o : O), c.os[i]? = some o → RuleOk o i c.cs.length) : Lp (N + 2) 24 0 (w24 c l 0 []) (z24 c l (runL (F_Weak c l) c.os 0 ())).1 (z24 c l (runL (F_Weak c l) c.os 0 ())).2 :=
  eachE (st := fun i _ => w24 c l i []) O0 (fun _ _ => True) (by kernel_rfl) hlo LLm trivial (fun k s n hk _ ih => by
    have hk2 : RuleOk (oI c k) k c.cs.length := hok k _ (getD_at hk O0)
    have hr : RuleOk (oI c k) l.length c.cs.length := ⟨hk2.lo, hk2.hi, hk2.no, hk2.ch, fun h => (hk2.a h).imp id (fun h => by omega), fun h => (hk2.b h).imp id (fun h => by omega), fun h => (hk2.c h).imp id (fun h => by omega)⟩
    exact round hX (hO (N + 2) (by omega)) (by kernel_rfl) (.b (lt_nat hk) (.k (s64B (hO2 N (by omega)) (hO2 (N + 1) (by omega)) c l k (inR_nat hk) hr) (.o (show inR k l.length by rw [hl]; exact inR_nat hk) (.ls (.ou nofun) (.nx (ih _ trivial))))))) (fun s _ => round hX (hO (N + 2) (by omega)) (by kernel_rfl) (.b (lt_no c.os.length) (.ou nofun)))
noncomputable def oc24 : Orc gam := orcF 24 (a2 cA bsA) (tupA (a2 iA iA)) (fun p => S_Weak p.1 p.2) (fun p => [p.2.length ≤ most]) oc60
theorem gc24 : Gd oc24 := gc60.deep2 2 gc56 fun n hn hO hO2 p hp => by
  obtain ⟨n, rfl⟩ : ∃ k, n = k + 2 := ⟨n - 2, by omega⟩
  refine fn_is hX (hO (n + 2) (by omega)) (by kernel_rfl) (.sh (fun _ => .rr) fun h0 => .sh (fun _ => .rr) fun h1 => .o (hp _ (.head _)) (.sh (fun _ => .rr) fun h2 => .k (s63_0 (n := n + 1) (hO2 _ (by omega))) (.zh (fun h => .w (exInl (l24 (fun m hm => hO m (by omega)) (fun m hm => hO2 m (by omega)) p.1 p.2 (ok3000 (check_ok h0).2.2.2.1) (by simp at h1; omega) fun i o hi => ((check_ok h0).2.1 i o hi).1) () h) .rr) (fun h => .w (exInr (l24 (fun m hm => hO m (by omega)) (fun m hm => hO2 m (by omega)) p.1 p.2 (ok3000 (check_ok h0).2.2.2.1) (by simp at h1; omega) fun i o hi => ((check_ok h0).2.1 i o hi).1) (0, O0, ()) h) .rr))))
noncomputable def oc26 : Orc gam := orcF 26 (a2 cA bsA) tA (fun p => S_Prove p.1 p.2) (fun p => [p.2.length ≤ most]) oc24
theorem gc26 : Gd oc26 := gc24.add fun n hO p hp => fn_is hX hO (by kernel_rfl) (.o (hp _ (.head _)) .rr)
end Go.Proofs.YtfhiejgoemcelaaGreat
namespace Go.Proofs.YtfhiejgoemcelaaGreat
open Go Tw Pv
abbrev H3 (op : Int) (kn : B) (left : Bool) : List (PB gam) := [.cells [.int .i64 op], .cells kn.ps, .cells [.bool left]]
abbrev HC (op : Int) (kn : B) (left : Bool) (acc : List B) : List (PB gam) := H3 op kn left ++ RR3 ++ [.list false false 38 acc]
abbrev fC : PV gam := .fn 75 [] [.ptr 0 0 1, .ptr 1 0 3, .ptr 2 0 1]
theorem s75 {n : Nat} (hO : Ok n oc56) (op : Int) (kn b : B) (s : Bool × Bool) (k : Nat) (acc : List B) : Sim X0 Tryz.prog (ApN (n + 1)) fC [.int .i64 k, .agg b.ps] (HC op kn s.1 acc) (bA.put (gClip op kn s k b).2) (HC op kn (gClip op kn s k b).1.1 acc) := by
  unfold gClip
  cases h : ((k : Int) != op)
  · rw [if_neg (by simp)]
    exact sim_is hX hO (first := []) (by kernel_rfl) (.b h (.q (.bool (!decide (S_common b kn = ⟨1, 0, 0⟩))) (ne_B94 (.tmp 15) (.tmp 16) (S_common b kn) ⟨1, 0, 0⟩) .sr))
  · rw [if_pos rfl]
    exact sim_is hX hO (first := []) (by kernel_rfl) (.b h .sr)
def gCl (op : Int) (kn : B) (c : C) (k : Nat) (o : O) (s : (Bool × Bool) × List B) : ((Bool × Bool) × List B) ⊕ Empty := .inl ((gClip op kn s.1 k (S_rule c.cs s.2 o)).1, s.2 ++ [(gClip op kn s.1 k (S_rule c.cs s.2 o)).2])
theorem gCl_reach (op : Int) (kn : B) (c : C) : ∀ (os : List O) (s : (Bool × Bool) × List B), getE (runL (gCl op kn c) os s.2.length s) = reachS (gClip op kn) c.cs os s.1 s.2
  | [], s => rfl
  | o :: os, s => by
    simp only [runL, gCl, reachS]
    have := gCl_reach op kn c os ((gClip op kn s.1 s.2.length (S_rule c.cs s.2 o)).1, s.2 ++ [(gClip op kn s.1 s.2.length (S_rule c.cs s.2 o)).2])
    simp only [List.length_append, List.length_singleton] at this
    exact this
abbrev w55C (op : Int) (kn : B) (c : C) (i : Int) (s : (Bool × Bool) × List B) (x : List (Nat × PE gam)) : PSt gam := ⟨[(1, .val fC), (5, .val (.own 12)), (6, .loc 1 0), (13, xi c.os.length), (14, xi i)] ++ x, [xC c, xC c ++ [.map 3]], HC op kn s.1.1 s.2⟩
def z55C (op : Int) (kn : B) (c : C) (r : ((Bool × Bool) × List B) ⊕ Empty) : Ex × PSt gam := (.exit 0, w55C op kn c c.os.length (getE r) [(15, xl false)])
set_option maxRecDepth 10000 in
theorem l55C {N : Nat} (hO : ∀ m, N ≤ m → Ok m oc56) (op : Int) (kn : B) (c : C) (hlo : c.os.length ≤ most) (hok : ∀ (i : Nat) (o : O), c.os[i]? = some o → RuleOk o i c.cs.length) (left : Bool) : LpB (N + 2) 55 0 3 (w55C op kn c 0 ((left, false), []) []) (z55C op kn c (runL (gCl op kn c) c.os 0 ((left, false), []))).1 (z55C op kn c (runL (gCl op kn c) c.os 0 ((left, false), []))).2 :=
  eachE (st := fun i s => w55C op kn c i s []) O0 (fun k s => s.2.length = k) (by kernel_rfl) hlo LLm rfl (fun k s n hk hi ih => by
    have hk2 : RuleOk (oI c k) s.2.length c.cs.length := by rw [hi]; exact hok k _ (getD_at hk O0)
    have hm : s.2.length + 1 ≤ most := by rw [hi]; omega
    exact round hX (hO (N + 2) (by omega)) (by kernel_rfl) (.b (lt_nat hk) (.k (s64C (hO N (by omega)) (hO (N + 1) (by omega)) (x0 := [.int .i64 op]) (x1 := kn.ps) (x2 := [.bool s.1.1]) c s.2 k (inR_nat hk) hk2) (.k (s75 (hO (N + 1) (by omega)) op kn (S_rule c.cs s.2 (oI c k)) s.1 k s.2) (.o hm (.nxG [.gc [3, 4, 5, 6, 7, 8, 9, 10, 11, 14]] (ih _ (by simp [hi]))))))))
    (fun s _ => round hX (hO (N + 2) (by omega)) (by kernel_rfl) (.b (lt_no c.os.length) (.ou nofun)))
abbrev rClip (op : Int) (kn : B) (c : C) (left : Bool) := reachS (gClip op kn) c.cs c.os (left, false) []
theorem s55C {N : Nat} (hO : ∀ m, N ≤ m → Ok m oc56) (op : Int) (kn : B) (c : C) (hlo : c.os.length ≤ most) (hok : ∀ (i : Nat) (o : O), c.os[i]? = some o → RuleOk o i c.cs.length) (left : Bool) : Sim X0 Tryz.prog (ApN (N + 3)) (.fn 55 [] []) [.agg (xC c), fC] (H3 op kn left) (.own 12) (HC op kn (rClip op kn c left).1.1 (rClip op kn c left).2) := by
  have e := gCl_reach op kn c c.os ((left, false), [])
  have hl := l55C hO op kn c hlo hok left
  unfold z55C at hl
  rw [show runL (gCl op kn c) c.os 0 ((left, false), []) = runL (gCl op kn c) c.os ([] : List B).length ((left, false), []) from rfl, e] at hl
  exact sim_ex hX (hO (N + 2) (by omega)) (first := []) (cap := []) (by kernel_rfl) (.k (s63_3 (n := N + 1) (hO _ (by omega)) [.int .i64 op] kn.ps [.bool left]) (.wG [.nilE 5 38] hl .er))
noncomputable def oc32 : Orc gam := orcF 32 (a3 cA iA bA) (tupA (a2 bsA iA)) (fun p => S_Clip p.1 p.2.1 p.2.2) np oc26
theorem gc32 : Gd oc32 := gc26.deep2 3 gc56 fun n hn hO hO2 p hp => by
  obtain ⟨n, rfl⟩ : ∃ k, n = k + 3 := ⟨n - 3, by omega⟩
  exact fn_is hX (hO (n + 3) (by omega)) (by kernel_rfl) (.sh (fun _ => .rn (.tup [.nil .slc, .int .i64 (S_check p.1)]) rfl) fun h0 => .sh (fun _ => .rn (.tup [.nil .slc, .int .i64 3]) rfl) fun _ => .sh (fun _ => .rn (.tup [.nil .slc, .int .i64 3]) rfl) fun _ => .sh (fun _ => .rn (.tup [.nil .slc, .int .i64 2]) rfl) fun _ =>
    .k (s55C (fun m hm => hO2 m (by omega)) p.2.1 p.2.2 p.1 (ok3000 (check_ok h0).2.2.2.1) (fun i o hi => ((check_ok h0).2.1 i o hi).1) true) (.sh (fun _ => .rn (.tup [.nil .slc, .int .i64 12]) rfl) fun _ => .rr))
end Go.Proofs.YtfhiejgoemcelaaGreat
namespace Go.Proofs.YtfhiejgoemcelaaGreat
open Go Tw Pv
abbrev w35 (l : List B) (i : Int) (acc : List Int) (x : List (Nat × PE gam)) : PSt gam := ⟨[(6, .val (.own 0)), (19, xL 38 l), (20, xi l.length), (21, xi i)] ++ x, [], [.list false false 3 acc]⟩
abbrev w35i (l : List B) (r : B) (i : Int) (acc : List Int) (s : Int × Int) (x : List (Nat × PE gam)) : PSt gam := ⟨[(6, .val (.own 0)), (8, .loc 0 0), (9, xi s.1), (10, xi s.2), (19, xL 38 l), (20, xi l.length), (21, xi i)] ++ x, [r.ps], [.list false false 3 acc]⟩
def gWid (r : B) (s : Int × Int) : (Int × Int) ⊕ (Bool × Int × Int) :=
  if decide (r.lo ≤ r.hi) = true then
    if decide (IntKind.i64.wrap (0 - s.2) ≤ r.lo) = true then
      if decide (r.hi < s.2) = true then .inr (true, s.1, s.2) else .inl (IntKind.i64.wrap (s.1 + 1), IntKind.i64.wrap (s.2 * 2))
    else .inl (IntKind.i64.wrap (s.1 + 1), IntKind.i64.wrap (s.2 * 2))
  else .inr (false, s.1, s.2)
theorem gWid_it (r : B) : ∀ (f : Nat) (w half : Int), itF (gWid r) f (w, half) = widthF f r w half
  | 0, _, _ => rfl
  | f + 1, w, half => by
    have ih := gWid_it r f (IntKind.i64.wrap (w + 1)) (IntKind.i64.wrap (half * 2))
    simp only [itF, gWid, widthF]
    cases decide (r.lo ≤ r.hi)
    · rfl
    · cases decide (IntKind.i64.wrap (0 - half) ≤ r.lo)
      · exact ih
      · cases decide (r.hi < half)
        · exact ih
        · rfl
def z35i (l : List B) (r : B) (i : Int) (acc : List Int) : Bool × Int × Int → Ex × PSt gam
  | (true, w, half) => (.exit 2, w35i l r i acc (IntKind.i64.wrap (w + 1), half) [(42, xl true)])
  | (false, w, half) => (.exit 2, w35i l r i acc (w, half) [(27, xl false)])
theorem l35i {n : Nat} (hO : Ok n oc32) (l : List B) (r : B) (i : Int) (acc : List Int) {v : Bool × Int × Int} (hv : widthF 64 r 0 1 = some v) : Lp n 35 1 (w35i l r i acc (0, 1) []) (z35i l r i acc v).1 (z35i l r i acc v).2 :=
  whileE (st := fun s => w35i l r i acc s []) (g := gWid r) (out := z35i l r i acc) (fun _ => True) (k := 64) (by rw [gWid_it]; exact hv) (by kernel_rfl) (by decide) trivial (fun _ _ _ _ => trivial)
    (fun s n v _ ih => round hX hO (by kernel_rfl) (.lh (fun h0 => .lh (fun h1 => .lh (fun _ => .ou nofun) fun h2 => .nx (ih _ (by unfold gWid; rw [if_pos h0, if_pos h1, if_neg (by rw [h2]; simp)]))) fun h1 => .nx (ih _ (by unfold gWid; rw [if_pos h0, if_neg (by rw [h1]; simp)]))) fun _ => .ou nofun))
theorem l35 {n : Nat} (hO : Ok n oc32) (l : List B) (hl : l.length ≤ most) (hv : ∀ r ∈ l, (widthF 64 r 0 1).isSome = true) (lc : List (List (PV gam))) : Lp n 35 0 { w35 l 0 [] [] with loc := lc } (.exit 0) (w35 l l.length (l.map S_width) [(22, xl false)]) := by
  have e : l.map S_width = bld (fun _ _ r => [S_width r]) l 0 [] := by
    have : ∀ (l : List B) (i : Nat) (a : List Int), bld (fun _ _ r => [S_width r]) l i a = a ++ l.map S_width := by
      intro l
      induction l with
      | nil => intro i a; simp [bld]
      | cons r l ih => intro i a; simp [bld, ih]
    rw [this]; rfl
  rw [e]
  refine eachB (β := Int) B0 (l := l) (s0 := ([] : List Int)) (g := fun _ _ r => [S_width r]) (st := fun i a => w35 l i a []) (fin := fun a => w35 l l.length a [(22, xl false)]) (fun k a => a.length = k) (by kernel_rfl) hl LLm rfl (fun k s h hi => by simp [hi]) (fun k s h hi m e p hr => ?_) (fun s _ => round hX hO (by kernel_rfl) (.b (lt_no l.length) .ex))
  have hm : s.length + 1 ≤ most := by rw [hi]; omega
  have hb := hv (l.getD k B0) (by rw [List.getD_eq_getElem?_getD, List.getElem?_eq_getElem h]; exact List.getElem_mem h)
  obtain ⟨⟨b, w, hf⟩, hw⟩ := Option.isSome_iff_exists.1 hb
  cases b with
  | true =>
    rw [show S_width (l.getD k B0) = IntKind.i64.wrap (w + 1) by simp only [S_width, hw]] at hr
    exact round hX hO (by kernel_rfl) (.b (lt_nat h) <| .o (inR_nat h) <| .w (l35i hO l (l.getD k B0) k s hw) <| .o hm <| .goG [.gc [2]] hr)
  | false =>
    rw [show S_width (l.getD k B0) = w by simp only [S_width, hw]] at hr
    exact round hX hO (by kernel_rfl) (.b (lt_nat h) <| .o (inR_nat h) <| .w (l35i hO l (l.getD k B0) k s hw) <| .o hm <| .goG [.gc [2]] hr)
noncomputable def oc35 : Orc gam := orcF 35 (a1 cA) (tupA (a2 isA iA)) (fun p => S_Widths p) (fun p => [(S_Of p).1.length ≤ most, ∀ r ∈ (S_Of p).1, (widthF 64 r 0 1).isSome = true]) oc32
theorem gc35 : Gd oc35 := gc32.add fun n hO p hp => fn_is hX hO (by kernel_rfl) (.sh (fun _ => .rn (.tup [.nil .slc, .int .i64 (S_Of p).2]) rfl) fun _ => .wG [.nilE 6 3] (l35 hO (S_Of p).1 (hp _ (.head _)) (hp _ (.tail _ (.head _))) [xC p]) .rr)
def gBits (r : B) (k : Int) : Int ⊕ Int := if (!(S_rFits r k)) = true then .inl (IntKind.i64.wrap (k + 1)) else .inr k
theorem gBits_it (r : B) : ∀ (f : Nat) (k : Int), itF (gBits r) f k = bitsF f r k
  | 0, _ => rfl
  | f + 1, k => by
    have ih := gBits_it r f (IntKind.i64.wrap (k + 1))
    simp only [itF, gBits, bitsF]
    cases S_rFits r k
    · exact ih
    · rfl
abbrev w36 (r : B) (k : Int) (x : List (Nat × PE gam)) : PSt gam := ⟨[(1, .loc 0 0), (3, xi k)] ++ x, [r.ps], []⟩
theorem l36 {n : Nat} (hO : Ok n oc35) (r : B) {v : Int} (hv : bitsF 64 r 0 = some v) : Lp n 36 0 (w36 r 0 []) (.exit 0) (w36 r v [(7, xl false)]) :=
  whileE (st := fun k => w36 r k []) (g := gBits r) (out := fun v => (.exit 0, w36 r v [(7, xl false)])) (fun _ => True) (k := 64) (by rw [gBits_it]; exact hv) (by kernel_rfl) (by decide) trivial (fun _ _ _ _ => trivial)
    (fun s n v _ ih => round hX hO (by kernel_rfl) (.lh (fun h0 => .nx (ih _ (by unfold gBits; rw [if_pos h0]))) fun _ => .ou nofun))
noncomputable def oc36 : Orc gam := orcF 36 (a1 bA) iA (fun p => (bitsF 64 p 0).getD 0) (fun p => [(bitsF 64 p 0).isSome = true]) oc35
theorem gc36 : Gd oc36 := gc35.add fun n hO p hp => by
  obtain ⟨v, hv⟩ := Option.isSome_iff_exists.1 (show (bitsF 64 p 0).isSome = true from hp _ (.head _))
  have : Con X0 Tryz.prog (ApN (n + 1)) 36 ((a1 bA).put p) (iA.put v) [] := fn_is hX hO (by kernel_rfl) (.w (l36 hO p hv) .rr)
  rw [hv]; exact this
end Go.Proofs.YtfhiejgoemcelaaGreat
namespace Go.Proofs.YtfhiejgoemcelaaGreat
open Go Tw
def S_to (lo : Int) (hi : Int) (f : Int) : B :=
  (⟨lo, hi, f⟩ : B)
def S_example1 (code : Int) (a : Int) (b : Int) : O :=
  (⟨code, a, b, 0, 0⟩ : O)
def F_same (lb : List B) (i : Nat) (x : B) (s : Unit) : (Unit) ⊕ (Nat × B × (Unit)) :=
  if (!decide (x = (lb.getD (((i : Nat) : Int)).toNat B0))) = true then .inr (i, x, s) else .inl ()
def S_same (la lb : List B)  : Bool :=
  if (((la.length : Nat) : Int) != ((lb.length : Nat) : Int)) = true then false else if (isL (runL (F_same lb) la 0 ())) = true then true else false
def S_Thin (c : C)  : Bool :=
  if (decide (((c.cs.length : Nat) : Int) > 8)) = true then false else if (decide (((c.os.length : Nat) : Int) > 60)) = true then false else if (decide (((c.rs.length : Nat) : Int) > 60)) = true then false else if ((S_rCheck c) != 0) = true then true else decide ((S_rMany c) ≤ 200)
end Go.Proofs.YtfhiejgoemcelaaGreat
namespace Tw
open Go
section
variable {P : Program} {α : Type} {H : List HB} {x : TV} {sz : Nat} {enc : α → List TV} {l : List α}
theorem SV.three (hs : SV H x sz enc l) (hz : ∀ a, (enc a).length = sz) : (x = .nil .slc ∧ l = []) ∨ (∃ b off cap ex, x = .slc b off 0 cap sz ex ∧ l = [] ∧ ∃ cs, blkCells H b = some cs ∧ off ≤ cs.length) ∨ ∃ b off cap ex, x = .slc b off l.length cap sz ex ∧ l ≠ [] ∧ srcCells sz H x = some (l.length, (l.map enc).flatten) := by
  rcases hs with h | ⟨b, off, cap, ex, rfl, hr, all, h1, h2⟩
  · exact .inl h
  · cases l with
    | nil =>
      refine .inr (.inl ⟨b, off, cap, ex, rfl, rfl, all, h1, ?_⟩)
      unfold sub at h2
      split at h2
      · rename_i h; simp only [List.map_nil, List.length_nil, Nat.zero_mul, Nat.add_zero] at h; exact h
      · cases h2
    | cons a t =>
      refine .inr (.inr ⟨b, off, cap, ex, rfl, by simp, ?_⟩)
      simp only [srcCells, if_true, h1]
      rw [List.length_map] at h2
      rw [h2]; rfl
variable {st xt e : TypeId} {b : Nat}
end
end Tw

namespace Tw
open Go
def rangeIn : Code → Option (Code × Code)
  | .seq a b => match rangeIn a with
    | some r => some r
    | none => rangeIn b
  | .cond _ a b => match rangeIn a with
    | some r => some r
    | none => rangeIn b
  | .block _ b => rangeIn b
  | .rangeFunc _ _ a b => some (a, b)
  | _ => none
def rfAssign (P : Program) (f : Nat) : Code :=
  match fnT P f with
  | some t => match rangeIn t.body with
    | some (a, _) => a
    | none => .skip
  | none => .skip
def rfBody (P : Program) (f : Nat) : Code :=
  match fnT P f with
  | some t => match rangeIn t.body with
    | some (_, b) => b
    | none => .skip
  | none => .skip
end Tw
namespace Tw
open Go
def findRg (id : Nat) : Code → Option (List Oper)
  | .region i ops _ => if i = id then some ops.toList else none
  | .seq a b => (findRg id a).or (findRg id b)
  | .cond _ a b => (findRg id a).or (findRg id b)
  | .block _ b => findRg id b
  | .loop b => findRg id b
  | .rangeFunc _ _ a b => (findRg id a).or (findRg id b)
  | _ => none
def regOps (P : Program) (f id : Nat) : List Oper :=
  match fnT P f with
  | some t => (findRg id t.body).getD []
  | none => []
end Tw

namespace Go.Proofs.YtfhiejgoemcelaaGreat
open Go Tw
def KX (bo l : Nat) (H H' : List HB) : Prop := H.length ≤ H'.length ∧ ∀ b, b < H.length → b ≠ bo → b ≠ l → H'[b]? = H[b]?
theorem KX.refl {bo l : Nat} {H : List HB} : KX bo l H H := ⟨Nat.le_refl _, fun _ _ _ _ => rfl⟩
theorem KX.trans {bo l : Nat} {A B C : List HB} (h : KX bo l A B) (g : KX bo l B C) : KX bo l A C :=
  ⟨Nat.le_trans h.1 g.1, fun b hb h1 h2 => (g.2 b (Nat.lt_of_lt_of_le hb h.1) h1 h2).trans (h.2 b hb h1 h2)⟩
theorem KX.rd {bo l : Nat} {A B : List HB} (h : KX bo l A B) {agg : Bool} {n b off lim : Nat} {v : TV} (hr : rdAt agg n A b off lim = some v) (h1 : b ≠ bo) (h2 : b ≠ l) : rdAt agg n B b off lim = some v := by
  have hb : b < A.length := by
    rcases Nat.lt_or_ge b A.length with h | h
    · exact h
    · simp [rdAt, blkCells, List.getElem?_eq_none h] at hr
  simpa [rdAt, blkCells, h.2 b hb h1 h2] using hr
theorem Ilen (w : List Int) : (w.map I.tvs).flatten.length = w.length := by
  have := flat_len (enc := I.tvs) (sz := 1) (fun _ => rfl) w
  omega
def Wd (bo l : Nat) (H : List HB) (x : TV) (w : List Int) : Prop :=
  (x = .nil .slc ∧ w = []) ∨ ∃ b ex k, x = .slc b 0 w.length w.length 1 ex ∧ w ≠ [] ∧ b ≠ bo ∧ b ≠ l ∧ H[b]? = some (.cells k (w.map I.tvs).flatten)
theorem Wd.sv {bo l : Nat} {H : List HB} {x : TV} {w : List Int} (h : Wd bo l H x w) : SV H x 1 I.tvs w := by
  rcases h with h | ⟨b, ex, k, rfl, _, _, _, h4⟩
  · exact .inl h
  · refine .inr ⟨b, 0, _, _, rfl, by simp, (w.map I.tvs).flatten, by simp [blkCells, h4], ?_⟩
    unfold sub
    rw [List.length_map, if_pos (by rw [Ilen]; omega), List.drop_zero, List.take_of_length_le (by rw [Ilen]; omega)]
theorem Wd.kx {bo l : Nat} {H H' : List HB} {x : TV} {w : List Int} (h : Wd bo l H x w) (hk : KX bo l H H') : Wd bo l H' x w := by
  rcases h with h | ⟨b, ex, k, h0, h1, h2, h3, h4⟩
  · exact .inl h
  · have hb : b < H.length := by
      rcases Nat.lt_or_ge b H.length with h | h
      · exact h
      · rw [List.getElem?_eq_none h] at h4; cases h4
    exact .inr ⟨b, ex, k, h0, h1, h2, h3, (hk.2 b hb h2 h3).trans h4⟩
theorem Wd.app {bo l : Nat} {h0 H : List HB} {x : TV} {w : List Int} (h : App h0 H x 1 I.tvs w) (h1 : bo < h0.length) (h2 : l < h0.length) : Wd bo l H x w := by
  obtain ⟨_, h | ⟨b, k, h3, h4, h5, h6, h7⟩⟩ := h
  · exact .inl h
  · exact .inr ⟨b, false, k, h3, h5, by omega, by omega, h7⟩
theorem addKs_mem {fl : Nat} : ∀ {wsc ws : List Nat} {b : Nat}, b ∈ addKs fl (wsc.map .h) ws ↔ b ∈ ws ∨ (b ∈ wsc ∧ b < fl)
  | [], ws, b => by simp [addKs]
  | c :: wsc, ws, b => by
    simp only [List.map_cons, addKs]
    rw [addKs_mem]
    simp only [addW]
    by_cases h : c < fl
    · rw [if_pos h]
      by_cases h2 : ws.contains c = true
      · rw [if_pos h2]
        have : c ∈ ws := by simpa using h2
        constructor
        · rintro (h | h)
          · exact .inl h
          · exact .inr ⟨List.mem_cons_of_mem _ h.1, h.2⟩
        · rintro (h3 | ⟨h3, h4⟩)
          · exact .inl h3
          · rcases List.mem_cons.mp h3 with rfl | h3
            · exact .inl this
            · exact .inr ⟨h3, h4⟩
      · rw [if_neg h2]
        constructor
        · rintro (h3 | h3)
          · rcases List.mem_cons.mp h3 with rfl | h3
            · exact .inr ⟨List.mem_cons_self .., h⟩
            · exact .inl h3
          · exact .inr ⟨List.mem_cons_of_mem _ h3.1, h3.2⟩
        · rintro (h3 | ⟨h3, h4⟩)
          · exact .inl (List.mem_cons_of_mem _ h3)
          · rcases List.mem_cons.mp h3 with rfl | h3
            · exact .inl (List.mem_cons_self ..)
            · exact .inr ⟨h3, h4⟩
    · rw [if_neg h]
      constructor
      · rintro (h3 | h3)
        · exact .inl h3
        · exact .inr ⟨List.mem_cons_of_mem _ h3.1, h3.2⟩
      · rintro (h3 | ⟨h3, h4⟩)
        · exact .inl h3
        · rcases List.mem_cons.mp h3 with rfl | h3
          · exact (h h4).elim
          · exact .inr ⟨h3, h4⟩
def wFr {σ : Type} (f : Int → σ → σ) : Int → Nat → σ → σ
  | _, 0, s => s
  | k, m + 1, s => wFr f (k + 1) m (f k s)
def wF {σ : Type} (Y : σ → List Int → σ) : List K → List Int → σ → σ
  | [], w, s => Y s w
  | k :: ks, w, s => wFr (fun x s => wF Y ks (w ++ [x]) s) k.lo (k.hi - k.lo + 1).toNat s
def okW (cs : List K) (w : List Int) : Prop := ∀ (i : Nat) (x : Int) (k : K), w[i]? = some x → cs[i]? = some k → k.lo ≤ x ∧ x ≤ k.hi
end Go.Proofs.YtfhiejgoemcelaaGreat
namespace Go.Proofs.YtfhiejgoemcelaaGreat
open Go Tw
def met (x : V) (ob : B) : B := if decide (x.f > 0) = true then S_hull ob (S_with ⟨1, 0, 0⟩ [S_bit x.f]) true else S_hull ob ⟨x.n, x.n, 0⟩ true
def metStep (s : List B) (i : Nat) (x : V) : List B := s.set i (met x (s.getD i B0))
def metAll (s : List B) (vs : List V) : List B := (vs.foldl (fun (p : List B × Nat) a => (metStep p.1 p.2 a, p.2 + 1)) (s, 0)).1
theorem metFold_len : ∀ (vs : List V) (s : List B) (i : Nat), (vs.foldl (fun (p : List B × Nat) a => (metStep p.1 p.2 a, p.2 + 1)) (s, i)).1.length = s.length
  | [], _, _ => rfl
  | v :: vs, s, i => by
    simp only [List.foldl_cons]
    rw [metFold_len vs]
    simp [metStep]
theorem metAll_len {s : List B} {vs : List V} : (metAll s vs).length = s.length := metFold_len vs s 0
end Go.Proofs.YtfhiejgoemcelaaGreat
namespace Go.Proofs.YtfhiejgoemcelaaGreat
open Go Tw
theorem addW_mem {fl l b : Nat} {ws : List Nat} : b ∈ addW fl l ws ↔ b ∈ ws ∨ (b = l ∧ l < fl) := by
  unfold addW
  split
  · rename_i h1
    split
    · rename_i h2
      have : l ∈ ws := by simpa using h2
      constructor
      · exact fun h => .inl h
      · rintro (h | ⟨rfl, _⟩)
        · exact h
        · exact this
    · constructor
      · intro h
        rcases List.mem_cons.mp h with rfl | h
        · exact .inr ⟨rfl, h1⟩
        · exact .inl h
      · rintro (h | ⟨rfl, _⟩)
        · exact List.mem_cons_of_mem _ h
        · exact List.mem_cons_self ..
  · rename_i h1
    constructor
    · exact fun h => .inl h
    · rintro (h | h)
      · exact h
      · exact (h1 h.2).elim
theorem isWorld_ok {c : C} {w : List Int} (hl : w.length = c.cs.length) (hw : okW c.cs w) : S_isWorld c w = true := by
  unfold S_isWorld S_EqualFunc
  rw [if_neg (by simp [hl])]
  have key : ∀ (t : List K) (i : Nat), c.cs.drop i = t → isL (runL (F_isWorld w) t i ()) = true := by
    intro t
    induction t with
    | nil => intro i _; rfl
    | cons k t ih =>
      intro i hd
      have hk : c.cs[i]? = some k := by
        have := congrArg (·[0]?) hd
        simpa using this
      have hd' : c.cs.drop (i + 1) = t := by
        have := congrArg List.tail hd
        simpa using this
      have hi : i < w.length := by
        rcases Nat.lt_or_ge i c.cs.length with h | h
        · omega
        · rw [List.getElem?_eq_none h] at hk; cases hk
      have hx : w[i]? = some (w.getD i 0) := by simp [List.getD, List.getElem?_eq_getElem hi]
      obtain ⟨h1, h2⟩ := hw i _ k hx hk
      have hin : S_isWorld1 k (w.getD i 0) = true := by
        unfold S_isWorld1
        rw [within_iff]
        intro y hy
        simp only [List.mem_singleton] at hy
        subst hy
        exact ⟨h1, h2⟩
      simp only [runL, F_isWorld, Int.toNat_natCast]
      rw [if_neg (by rw [hin]; simp)]
      exact ih (i + 1) hd'
  rw [key c.cs 0 rfl]
  rfl
end Go.Proofs.YtfhiejgoemcelaaGreat
namespace Go.Proofs.YtfhiejgoemcelaaGreat
open Go Tw
def S_Mul64 (x : Int) (y : Int) : Int × Int :=
  (IntKind.u64.wrap ((IntKind.u64.wrap ((IntKind.u64.wrap ((shrI .u64 (x) 32) * (shrI .u64 (y) 32))) + (shrI .u64 (IntKind.u64.wrap ((IntKind.u64.wrap ((shrI .u64 (x) 32) * (andI .u64 (y) 4294967295))) + (shrI .u64 (IntKind.u64.wrap ((andI .u64 (x) 4294967295) * (andI .u64 (y) 4294967295))) 32))) 32))) + (shrI .u64 (IntKind.u64.wrap ((andI .u64 (IntKind.u64.wrap ((IntKind.u64.wrap ((shrI .u64 (x) 32) * (andI .u64 (y) 4294967295))) + (shrI .u64 (IntKind.u64.wrap ((andI .u64 (x) 4294967295) * (andI .u64 (y) 4294967295))) 32))) 4294967295) + (IntKind.u64.wrap ((andI .u64 (x) 4294967295) * (shrI .u64 (y) 32))))) 32)), IntKind.u64.wrap ((x) * (y)))
def S_Mul (x : Int) (y : Int) : Int × Int :=
  ((S_Mul64 x y).1, (S_Mul64 x y).2)
end Go.Proofs.YtfhiejgoemcelaaGreat
namespace Go.Proofs.YtfhiejgoemcelaaGreat
open Go Tw
def rep (r : B) (k n : Nat) : List B := List.replicate k r ++ List.replicate (n - k) B0
theorem rep_len {r : B} {k n : Nat} (h : k ≤ n) : (rep r k n).length = n := by simp [rep]; omega
end Go.Proofs.YtfhiejgoemcelaaGreat
namespace Go.Proofs.YtfhiejgoemcelaaGreat
open Go Tw
theorem wrapu_small {z : Int} (h0 : 0 ≤ z) (h1 : z < 2 ^ 63) : IntKind.u64.wrap z = z := by
  simp only [IntKind.wrap, IntKind.bits, IntKind.signed]
  have : z % (2 ^ 64 : Int) = z := Int.emod_eq_of_lt h0 (by omega)
  simp only [this]
  simp
theorem and_small {z : Int} (h0 : 0 ≤ z) (h1 : z < 2 ^ 32) : andI .u64 z 4294967295 = z := by
  have e : (BitVec.ofInt 64 z &&& BitVec.ofInt 64 4294967295).toNat = z.toNat := by
    rw [BitVec.toNat_and, BitVec.toNat_ofInt, BitVec.toNat_ofInt]
    have h2 : (z % ((2 ^ 64 : Nat) : Int)).toNat = z.toNat := by rw [Int.emod_eq_of_lt h0 (by omega)]
    have h3 : ((4294967295 : Int) % ((2 ^ 64 : Nat) : Int)).toNat = 2 ^ 32 - 1 := by decide
    rw [h2, h3, Nat.and_two_pow_sub_one_eq_mod]
    exact Nat.mod_eq_of_lt (by omega)
  show IntKind.u64.wrap ((BitVec.ofInt 64 z &&& BitVec.ofInt 64 4294967295).toNat : Nat) = z
  rw [e, wrapu_small (by omega) (by omega)]
  omega
theorem shr_small {z : Int} (h0 : 0 ≤ z) (h1 : z < 2 ^ 32) : shrI .u64 z 32 = 0 := by
  show z.fdiv (2 ^ (min (32 : Int).toNat 64)) = 0
  rw [show min (32 : Int).toNat 64 = 32 from rfl, Int.fdiv_eq_ediv_of_nonneg _ (by decide)]
  exact Int.ediv_eq_zero_of_lt h0 h1
theorem Mul_one {q : Int} (h0 : 0 ≤ q) (h1 : q ≤ 5000) : S_Mul 1 q = (0, q) := by
  unfold S_Mul S_Mul64
  simp only [and_small h0 (show q < 2 ^ 32 by omega), shr_small h0 (show q < 2 ^ 32 by omega), show shrI .u64 1 32 = 0 from rfl, show andI .u64 1 4294967295 = 1 from rfl, Int.zero_mul, Int.mul_zero, Int.one_mul, wrapu_small h0 (show q < 2 ^ 63 by omega), show IntKind.u64.wrap 0 = 0 from rfl, Int.add_zero, Int.zero_add, show andI .u64 0 4294967295 = 0 from rfl, show shrI .u64 0 32 = 0 from rfl]
end Go.Proofs.YtfhiejgoemcelaaGreat
namespace Go.Proofs.YtfhiejgoemcelaaGreat
open Go Tw Pv
noncomputable def xA : Arg Int := intA .u64
noncomputable def oc137 : Orc gam := orcF 137 (a2 xA xA) (tupA (a2 xA xA)) (fun p => S_Mul64 p.1 p.2) np oc36
theorem n32 : (0 : Int) ≤ 32 := by decide
theorem gc137 : Gd oc137 := gc36.add fun n hO p hp => fn_is hX hO (by kernel_rfl) (.o n32 (.o n32 (.o n32 (.o n32 (.o n32 .rr)))))
noncomputable def oc107 : Orc gam := orcF 107 (a2 xA xA) (tupA (a2 xA xA)) (fun p => S_Mul p.1 p.2) np oc137
theorem gc107 : Gd oc107 := gc137.add fun n hO p hp => fn_is hX hO (by kernel_rfl) .rr
noncomputable def oc107' : Orc gam := orcF 107 (a2 xA xA) (tupA (a2 xA xA)) (fun p => (0, p.2)) (fun p => [S_Mul p.1 p.2 = (0, p.2)]) oc107
theorem Ok.mul1 {n : Nat} (hO : Ok n oc107) : Ok n oc107' := OrcOk.as hO fun x hx => by
  have h := hO 107 ((a2 xA xA).put x) ((tupA (a2 xA xA)).put (S_Mul x.1 x.2)) [] [] rfl (by simp)
  rw [hx _ (.head _)] at h
  exact h
abbrev w66 (k : Int) (l : List B) (x : List (Nat × PE gam)) : PSt gam := ⟨[(7, .val (.own 0)), (8, xi k)] ++ x, [], [.list true true 38 l]⟩
def g66 (N : Nat) (k : Nat) : Nat ⊕ Unit := if k < N then .inl (k + min k (N - k)) else .inr ()
theorem g66_it (N : Nat) : ∀ (m k : Nat), N - k < m → (1 ≤ k ∨ N = 0) → itF (g66 N) m k = some ()
  | 0, k, h, _ => by omega
  | m + 1, k, h, h1 => by
    simp only [itF, g66]
    by_cases hk : k < N
    · rw [if_pos hk]; exact g66_it N m _ (by omega) (by omega)
    · rw [if_neg hk]
theorem put_rep {r : B} {k m N : Nat} (h : k + m ≤ N) (hm : m ≤ k) : putL (rep r k N) k m (((rep r k N).drop 0).take (k - 0)) = rep r (k + m) N := by
  unfold putL rep
  simp only [List.drop_zero, Nat.sub_zero]
  rw [List.take_append_of_le_length (by simp), List.take_of_length_le (by simp), List.take_replicate, Nat.min_eq_left hm, List.drop_append, List.drop_of_length_le (by simp)]
  simp only [List.length_replicate, Nat.add_sub_cancel_left, List.nil_append, List.drop_replicate]
  rw [← List.replicate_append_replicate (n := k) (m := m)]
  simp only [List.append_assoc]
  congr 3
  omega
abbrev w66n (r : B) (N k : Nat) : PSt gam := w66 (IntKind.i64.wrap ((k : Int) + ((min (((rep r k N).drop 0).take (k - 0)).length ((rep r k N).length - k) : Nat) : Int))) (putL (rep r k N) k (min (((rep r k N).drop 0).take (k - 0)).length ((rep r k N).length - k)) (((rep r k N).drop 0).take (k - 0))) []
theorem w66n_eq {r : B} {N k : Nat} (hN : N ≤ most) (hk : k ≤ N) : w66n r N k = w66 ((k + min k (N - k) : Nat) : Int) (rep r (k + min k (N - k)) N) [] := by
  have h1 := rep_len (r := r) hk
  have h2 : (((rep r k N).drop 0).take (k - 0)).length = k := by simp [h1, hk]
  unfold w66n
  rw [h1, h2, put_rep (by omega) (by omega), show ((k : Int) + ((min k (N - k) : Nat) : Int)) = ((k + min k (N - k) : Nat) : Int) by omega, wrap_small (by omega) (by unfold most at hN; omega)]
def z66 (r : B) (N : Nat) : Unit → Ex × PSt gam := fun _ => (.exit 0, w66 N (rep r N N) [(37, xl false)])
theorem l66 {n : Nat} (hO : Ok n oc107) (r : B) (N : Nat) (hN : N ≤ most) (k0 : Nat) (hk0 : k0 ≤ N) (h1 : 1 ≤ k0 ∨ N = 0) : Lp n 66 0 (w66 k0 (rep r k0 N) []) (.exit 0) (w66 N (rep r N N) [(37, xl false)]) := by
  refine whileE (X := X0) (P := Tryz.prog) (T := T) (st := fun (k : Nat) => w66 k (rep r k N) []) (g := g66 N) (out := z66 r N) (r := ()) (fun k => k ≤ N ∧ (1 ≤ k ∨ N = 0)) (k := N + 1) (g66_it N (N + 1) k0 (by omega) h1) (by kernel_rfl) (by unfold most at hN; show N + 1 ≤ 2 ^ 24; omega) ⟨hk0, h1⟩ (fun s s1 hi hs => ?_) (fun k m u hi ih => ?_)
  · unfold g66 at hs
    split at hs
    · cases hs; omega
    · cases hs
  · have hl := rep_len (r := r) hi.1
    by_cases hk : k < N
    · have hg : g66 N k = .inl (k + min k (N - k)) := if_pos hk
      have h2 := ih _ hg
      rw [← w66n_eq hN hi.1] at h2
      rw [hg]
      have hlt : decide ((k : Int) < ((rep r k N).length : Int)) = true := by rw [hl]; simp; omega
      have hle : (k : Int) ≤ ((rep r k N).length : Int) := by rw [hl]; omega
      exact round hX hO (by kernel_rfl) (.b hlt (.o (Int.natCast_nonneg k) (.o hle (.o (Int.le_refl ((rep r k N).length : Int)) (.o nn (.o (Int.natCast_nonneg k) (.o hle (.nx h2))))))))
    · have hkN : k = N := by omega
      subst hkN
      have hg : g66 k k = .inr () := if_neg hk
      rw [hg]
      have hlt : decide ((k : Int) < ((rep r k k).length : Int)) = false := by rw [hl]; simp
      exact round hX hO (by kernel_rfl) (.b hlt (.ou nofun))
noncomputable def oc66 : Orc gam := orcE 66 (a2 bsA iA) (fun _ => .own 0) (fun p => [.list true true 38 (List.replicate p.2.toNat (p.1.getD 0 B0))]) (fun p => [p.1.length = 1, 0 ≤ p.2, p.2 ≤ 5000]) oc107
theorem gc66 : Gd oc66 := gc107.deepE 0 fun n _ hO p hp => by
  have hO := hO n (by omega)
  obtain ⟨l, z⟩ := p
  have h1 : l.length = 1 := hp _ (.head _)
  have h2 : 0 ≤ z := hp _ (.tail _ (.head _))
  have h3 : z ≤ 5000 := hp _ (.tail _ (.tail _ (.head _)))
  obtain ⟨r, rfl⟩ : ∃ r, l = [r] := by
    match l, h1 with
    | [r], _ => exact ⟨r, rfl⟩
  obtain ⟨N, rfl⟩ : ∃ N : Nat, z = N := ⟨z.toNat, by omega⟩
  have e1 : IntKind.u64.wrap (N : Int) = N := wrapu_small (by omega) (by omega)
  have e2 : IntKind.i64.wrap (IntKind.u64.wrap (N : Int)) = N := by rw [e1]; exact wrap_small (by omega) (by omega)
  have hm : S_Mul 1 (IntKind.u64.wrap (N : Int)) = (0, IntKind.u64.wrap (N : Int)) := by rw [e1]; exact Mul_one (by omega) h3
  have hc : decide (IntKind.u64.wrap (N : Int) > 9223372036854775807) = false := by rw [e1]; simp; omega
  have hlp := l66 (n := n) hO r N (by unfold most; omega) (min 1 N) (by omega) (by omega)
  have hr : rep r N N = List.replicate N r := by simp [rep]
  have h0 : w66 ((min 1 N : Nat) : Int) (rep r (min 1 N) N) [] = w66 ((min 1 (List.replicate (IntKind.i64.wrap (IntKind.u64.wrap (N : Int))).toNat B0).length : Nat) : Int) (putL (List.replicate (IntKind.i64.wrap (IntKind.u64.wrap (N : Int))).toNat B0) 0 (min 1 (List.replicate (IntKind.i64.wrap (IntKind.u64.wrap (N : Int))).toNat B0).length) [r]) [] := by
    rw [e2]
    simp only [Int.toNat_natCast, List.length_replicate]
    congr 3
    rcases Nat.eq_zero_or_pos N with rfl | hN
    · rfl
    · rw [Nat.min_eq_left hN]
      unfold rep putL
      simp only [List.take_zero, List.nil_append, Nat.zero_add, List.drop_replicate]
      rfl
  rw [h0] at hlp
  have : Con X0 Tryz.prog (ApN (n + 1)) 66 ((a2 bsA iA).put ([r], (N : Int))) (.own 0) [.list true true 38 (rep r N N)] := fn_ex hX (Ok.mul1 hO) (by kernel_rfl) (.b (show decide ((N : Int) < 0) = false by simp) (.o hm (.b (rfl : false = false) (.b hc (.o (rfl : IntKind.i64.wrap (IntKind.u64.wrap (N : Int)) = IntKind.i64.wrap (IntKind.u64.wrap (N : Int))) (.o (show 0 ≤ IntKind.i64.wrap (IntKind.u64.wrap (N : Int)) by rw [e2]; omega) (.o (show IntKind.i64.wrap (IntKind.u64.wrap (N : Int)) ≤ (most : Int) by rw [e2]; unfold most; omega) (.w hlp .er))))))))
  rw [hr] at this
  exact this
end Go.Proofs.YtfhiejgoemcelaaGreat
namespace Pv
open Go Tw
section
variable {X : Cod} {P : Program}
theorem Sim.frame (hX : CodOk X P) {call : CallT} {ks : List Nat} {H' Hp H H1 H1r : List (PB X.Γ)} {fv fv' v v' : PV X.Γ} {xs xs' : List (PV X.Γ)} (hs : Sim X P call fv xs H v H1)
    (hnd : ks.Nodup) (hp : pickB H' ks = some Hp) (hH : renBs (posN ks) Hp = some H) (hf : renV (posN ks) fv' = some fv) (hx : renV.renVs (posN ks) xs' = some xs)
    (hv : renV (bk ks H'.length) v = some v') (hH1 : renBs (bk ks H'.length) H1 = some H1r) :
    Sim X P call fv' xs' H' v' (putAt ks H1r H' ++ H1r.drop ks.length) := fun A m' h tf txs hr hf' hx' => by
  obtain ⟨w, h1, ws, m1, c1, c2, c3, c4, c5, c6⟩ := frame_use hX hs hnd hp hH hf hx hv hH1 A m' h tf txs hr hf' hx'
  exact ⟨w, h1, ws, m1, c1, c2, c3, c4, c5, fun b hb => by obtain ⟨k, _, mb, h8, h9⟩ := c6 b hb; exact own_mem h8 h9⟩
end
end Pv
namespace Go.Proofs.YtfhiejgoemcelaaGreat
open Go Tw
def manyStep (m : Int) (x : K) : Int := IntKind.i64.wrap (m * (IntKind.i64.wrap ((IntKind.i64.wrap (x.hi - x.lo)) + 1)))
def S_many (cs : List K) : Int := cs.foldl manyStep 1
theorem Check_cs {c : C} (h : ((S_Check c) != 0) = false) : ∀ k ∈ c.cs, -9999 ≤ k.lo ∧ k.lo ≤ k.hi ∧ k.hi ≤ 9999 ∧ k.hi - k.lo + 1 ≤ 12 := by
  have hany : (c.cs.any (fun x => S_isNoChoice x)) = false := by
    unfold S_Check at h
    split at h
    · simp at h
    · split at h
      · simp at h
      · split at h
        · simp at h
        · split at h
          · simp at h
          · rename_i hx; simpa using hx
  intro k hk
  have := List.any_eq_false.mp hany k hk
  unfold S_isNoChoice at this
  split at this
  · simp at this
  · rename_i h1
    simp only [Bool.not_eq_true, Bool.not_eq_false'] at h1 this
    rw [within_iff] at h1 this
    have a := h1 k.lo (by simp)
    have b := h1 k.hi (by simp)
    have d := this _ (List.mem_singleton_self _)
    rw [wrap_small (z := k.hi - k.lo) (by omega) (by omega), wrap_small (by omega) (by omega)] at d
    omega
def none0 (n : Nat) : List B := List.replicate n ⟨1, 0, 0⟩
def S_TightL (c : C) : List B := wF (fun s w => metAll s (S_AllL c w)) c.cs [] (none0 c.os.length)
def S_Tight (c : C) : List B × Int :=
  if ((S_check c) != 0) = true then ([], S_check c) else if (decide (S_many c.cs > 2000)) = true then ([], 5) else (S_TightL c, 0)
end Go.Proofs.YtfhiejgoemcelaaGreat
namespace Pv
open Go Tw
section
variable {X : Cod} {P : Program}
theorem Sim.cut (hX : CodOk X P) {call : CallT} {fv : PV X.Γ} {xs : List (PV X.Γ)} {H H1 H2 : List (PB X.Γ)} {v : PV X.Γ} (hs : Sim X P call fv xs H v H1) (h1 : H1.take H.length = H2) (hb : renBs (gB H.length) H2 = some H2) (hl : decide (H.length ≤ H1.length) = true) (hv : renV (gB H.length) v = some v) : Sim X P call fv xs H v H2 := by
  intro A m h tf txs hr hf hx
  obtain ⟨w, h', ws, m1, c1, c2, c3, c4, c5, c6⟩ := hs A m h tf txs hr hf hx
  have hl := of_decide_eq_true hl
  have hg : gsteps H.length [.gc []] (⟨[(0, .val v)], [], H1⟩ : PSt X.Γ) = some ⟨[(0, .val v)], [], H2⟩ := by
    have e : renEs (gB H.length) [(0, PE.val v)] = some [(0, .val v)] := by simp only [renEs, renE, hv, Option.map_some]
    have hb' : renBs (fun i => if i < H.length then some i else (posN [] i).map (· + H.length)) H2 = some H2 := hb
    have e' : renEs (fun i => if i < H.length then some i else (posN [] i).map (· + H.length)) [(0, PE.val v)] = some [(0, .val v)] := e
    simp only [gsteps, gstep, List.all_nil, List.nodup_nil, decide_true, Bool.and_self, Bool.true_and, hl, if_true, e', renL, h1, hb', pickB, renBs, List.append_nil]
  obtain ⟨m2, q1, q2, q3⟩ := gsteps_ok hX hg A (fun _ => True) 0 m1 ⟨[(0, .val w)], [], h', []⟩ ⟨⟨c2, rfl, fun k cs hk => by simp at hk, .cons c3 .nil⟩, fun b _ => .inl trivial, fun b hb => (by cases hb), Nat.zero_le _⟩
  obtain ⟨w', e1, e2⟩ := look_some q1.st.env (t := 0) (v := .val v) rfl
  simp only [lookE, if_true, Option.some.injEq] at e1
  subst e1
  refine ⟨w, h', ws, m2, c1, q1.st.heap, e2, c4.trans q2, fun i mb hi => ?_, c6⟩
  have hlt : i < H.length := by rw [← hr.len]; exact (List.getElem?_eq_some_iff.1 hi).1
  rcases c5 i mb hi with g | g
  · exact q3 i mb hlt g
  · rcases q3 i _ hlt g with g | g <;> exact .inr g
end
end Pv
namespace Go.Proofs.YtfhiejgoemcelaaGreat
open Go Tw Pv
theorem s110 {n : Nat} (k ex : Bool) (w : List Int) (hw : w ≠ []) (hl : w.length ≤ most) : Sim X0 Tryz.prog (ApN (n + 1)) (.fn 110 [] []) [.own 0] [.list k ex 3 w] (.own 2) [.list k ex 3 w, .gone, .list true false 3 w] :=
  sim_ex hX ok0 (first := []) (cap := []) (by kernel_rfl) (.o hw (.b (rfl : false = false) (.o (show ([] : List Int).length + w.length ≤ most by simpa using hl) .er)))
theorem s110n {n : Nat} : Sim X0 Tryz.prog (ApN (n + 1)) (.fn 110 [] []) [.nil .slc] [] (.nil .slc) [] :=
  sim_ex hX ok0 (first := []) (cap := []) (by kernel_rfl) (.b (rfl : true = true) .er)
noncomputable def oc68 : Orc gam := orcE 68 (a1 ksA) (fun _ => .fn 108 [] [.ptr 0 0 1]) (fun p => [.cells [.lst 62 p false]]) np oc66
theorem gc68 : Gd oc68 := gc66.deepE 0 fun n _ hO p hp => fn_ex hX (hO n (by omega)) (by kernel_rfl) .er
end Go.Proofs.YtfhiejgoemcelaaGreat
namespace Pv
open Go Tw
section
variable {X : Cod} {P : Program} {T : Tab} {L f nt B : Nat} {rnd : Bool} {call : CallT} {orc : Orc X.Γ}
theorem exec_fp (hX : CodOk X P) (hO : OrcOk X P call orc) {c : Code} {ps ps1 : PSt X.Γ} {an : PT X.Γ} {e : Ex} {o : OT (Ex × PSt X.Γ)}
    (hk : pexecK X P T orc (Sim X P call) (ExecS X P T call L f rnd nt B) B L f rnd nt c ps an endE = o) (ht : Fp (fun y => y = (e, ps1)) an o) : ExecS X P T call L f rnd nt B c ps e ps1 := by
  obtain ⟨y, h1, rfl⟩ := ht.ends
  rw [← hk] at h1
  exact execS_of hX hO h1
theorem Fp.xx {y : Ex × PSt X.Γ} : Fp (fun z => z = y) (.n : PT X.Γ) (.ret y) := .r rfl
end
end Pv
namespace Go.Proofs.YtfhiejgoemcelaaGreat
open Go Tw Pv
abbrev envT : List (Nat × PE gam) := [(1, .val (.ptr 0 0 3)), (2, .val (.ptr 1 0 1)), (3, .val (.ptr 2 0 1)), (8, .val (.ptr 5 0 1)), (47, .val (.fn 108 [] [.ptr 6 0 1]))]
noncomputable abbrev LRT (rd : Bool) (pend : Option Code) : PB gam := .loop rd 29 (ntP Tryz.prog 29) envT [48] (rfAssign Tryz.prog 29) (rfBody Tryz.prog 29) pend
noncomputable abbrev MB0 (c : C) (rd : Bool) (s : List B) : List (PB gam) := [.cells (xC c), .cells [.nil .slc], .cells [.int .i64 0], .gone, .list true true 38 s, .cells [.own 4], .cells [.lst 62 c.cs false], .mark, LRT rd none]
abbrev fE : PV gam := .fn 109 [] [.ptr 6 0 1, .ptr 9 0 1, .ptr 10 0 1]
noncomputable abbrev MT (c : C) (s : List B) : List (PB gam) := MB0 c true s ++ [.cells [.yld 8], .cells [fE]]
def gMet (k : Nat) (v : V) (s : List B) : List B ⊕ Empty := .inl (metStep s k v)
theorem gMet_run : ∀ (vs : List V) (k : Nat) (s : List B), getE (runL gMet vs k s) = (vs.foldl (fun (p : List B × Nat) a => (metStep p.1 p.2 a, p.2 + 1)) (s, k)).1
  | [], _, _ => rfl
  | v :: vs, k, s => by simp only [runL, gMet, List.foldl_cons]; exact gMet_run vs _ _
theorem AllL_len (c : C) (w : List Int) : (S_AllL c w).length = c.os.length := by
  have : ∀ (os : List O) (i : Nat) (l : List V), (bld (fun l _ o => [S_cell l w o]) os i l).length = l.length + os.length := by
    intro os
    induction os with
    | nil => intro i l; simp [bld]
    | cons o os ih => intro i l; simp only [bld]; rw [ih]; simp; omega
  have h := this c.os 0 []
  simpa [S_AllL] using h
theorem gMet_all (vs : List V) (s : List B) : getE (runL gMet vs 0 s) = metAll s vs := gMet_run vs 0 s
theorem metStep_len (s : List B) (k : Nat) (v : V) : (metStep s k v).length = s.length := by simp [metStep]
noncomputable abbrev wTW (c : C) (vs : List V) (s : List B) (i : Int) (x : List (Nat × PE gam)) : PSt gam := ⟨[(8, .val (.ptr 5 0 1)), (58, xL 78 vs), (59, xi vs.length), (60, xi i)] ++ x, [], MB0 c false s ++ [.gone]⟩
noncomputable def zTW (c : C) (vs : List V) (r : List B ⊕ Empty) : Ex × PSt gam := (.exit 4, wTW c vs (getE r) vs.length [(61, xl false)])
theorem lTW {n : Nat} (hO : Ok n oc68) (c : C) (vs : List V) (hv : vs.length ≤ most) (s : List B) (hs : s.length = vs.length) : ExecS X0 Tryz.prog T (ApN n) LL 29 true (ntP Tryz.prog 29) 10 (.loop (bodyP Tryz.prog 29 1)) (wTW c vs s 0 []) (zTW c vs (runL gMet vs 0 s)).1 (zTW c vs (runL gMet vs 0 s)).2 :=
  eachE (st := fun i s => wTW c vs s i []) V0 (fun _ s => s.length = vs.length) (by kernel_rfl) hv LLm hs (fun j s n hk hi ih => by
    have hj : inR j s.length := by rw [hi]; exact inR_nat hk
    have ih := ih (metStep s j (vs.getD j V0)) (by rw [metStep_len]; exact hi)
    cases hd : decide ((vs.getD j V0).f > 0)
    · rw [show metStep s j (vs.getD j V0) = s.set j (S_hull (s.getD j B0) ⟨(vs.getD j V0).n, (vs.getD j V0).n, 0⟩ true) by simp only [metStep, met, hd]; rfl] at ih
      rw [show gMet j (vs.getD j V0) s = .inl (s.set j (S_hull (s.getD j B0) ⟨(vs.getD j V0).n, (vs.getD j V0).n, 0⟩ true)) by simp only [gMet, metStep, met, hd]; rfl]
      exact round hX hO (by kernel_rfl) (.b (lt_nat hk) (.o (inR_nat hk) (.b hd (.o hj (.o hj (.goG [.gc []] ih))))))
    · rw [show metStep s j (vs.getD j V0) = s.set j (S_hull (s.getD j B0) (S_with ⟨1, 0, 0⟩ [S_bit (vs.getD j V0).f]) true) by simp only [metStep, met, hd]; rfl] at ih
      rw [show gMet j (vs.getD j V0) s = .inl (s.set j (S_hull (s.getD j B0) (S_with ⟨1, 0, 0⟩ [S_bit (vs.getD j V0).f]) true)) by simp only [gMet, metStep, met, hd]; rfl]
      exact round hX hO (by kernel_rfl) (.b (lt_nat hk) (.o (inR_nat hk) (.b hd (.o le1 (.o hj (.o hj (.goG [.gc []] ih))))))))
    (fun s _ => round hX hO (by kernel_rfl) (.b (lt_no vs.length) (.ou nofun)))
theorem yW {n : Nat} (hO : Ok n oc68) (c : C) (k ex : Bool) (w : List Int) (s : List B) (hA : S_All c w = (S_AllL c w, 0)) (hv : c.os.length ≤ most) (hs : s.length = c.os.length) : Sim X0 Tryz.prog (ApN (n + 1)) (.yld 8) [.own 9] (MB0 c true s ++ [.list k ex 3 w]) (.bool true) (MB0 c true (metAll s (S_AllL c w)) ++ [.gone]) := by
  have hl : (S_All c w).1.length = c.os.length := by rw [hA]; exact AllL_len c w
  have h2 := lTW hO c (S_All c w).1 (by rw [hl]; exact hv) s (by rw [hl, hs])
  have e1 : metAll s (S_AllL c w) = getE (runL gMet (S_All c w).1 0 s) := by rw [gMet_all, hA]
  have h0 : ((S_All c w).2 != 0) = false := by rw [hA]; rfl
  rw [e1]
  have q1 : ExecS X0 Tryz.prog T (ApN n) LL 29 true (ntP Tryz.prog 29) 10 (rfAssign Tryz.prog 29) ⟨pputAll envT [48] [.own 9], [], MB0 c true s ++ [.list k ex 3 w]⟩ .norm ⟨[(1, .val (.ptr 0 0 3)), (2, .val (.ptr 1 0 1)), (3, .val (.ptr 2 0 1)), (8, .val (.ptr 5 0 1)), (9, .val (.own 9))], [], MB0 c true s ++ [.list k ex 3 w]⟩ := exec_fp hX hO (by kernel_rfl) .xx
  have q2 : ExecS X0 Tryz.prog T (ApN n) LL 29 true (ntP Tryz.prog 29) 10 (rfBody Tryz.prog 29) ⟨[(1, .val (.ptr 0 0 3)), (2, .val (.ptr 1 0 1)), (3, .val (.ptr 2 0 1)), (8, .val (.ptr 5 0 1)), (9, .val (.own 9))], [], MB0 c false s ++ [.list k ex 3 w]⟩ .norm (wTW c (S_All c w).1 (getE (runL gMet (S_All c w).1 0 s)) (S_All c w).1.length [(61, xl false)]) := exec_fp hX hO (by kernel_rfl) (.b h0 (.w h2 .xx))
  exact yld_sim hX (l := 8) rfl rfl (by kernel_rfl) q1 rfl q2 rfl
noncomputable abbrev wTN (c : C) (vs : List V) (s : List B) (i : Int) (x : List (Nat × PE gam)) : PSt gam := ⟨[(8, .val (.ptr 5 0 1)), (58, xL 78 vs), (59, xi vs.length), (60, xi i)] ++ x, [], MB0 c false s⟩
noncomputable def zTN (c : C) (vs : List V) (r : List B ⊕ Empty) : Ex × PSt gam := (.exit 4, wTN c vs (getE r) vs.length [(61, xl false)])
theorem lTN {n : Nat} (hO : Ok n oc68) (c : C) (vs : List V) (hv : vs.length ≤ most) (s : List B) (hs : s.length = vs.length) : ExecS X0 Tryz.prog T (ApN n) LL 29 true (ntP Tryz.prog 29) 9 (.loop (bodyP Tryz.prog 29 1)) (wTN c vs s 0 []) (zTN c vs (runL gMet vs 0 s)).1 (zTN c vs (runL gMet vs 0 s)).2 :=
  eachE (st := fun i s => wTN c vs s i []) V0 (fun _ s => s.length = vs.length) (by kernel_rfl) hv LLm hs (fun j s n hk hi ih => by
    have hj : inR j s.length := by rw [hi]; exact inR_nat hk
    have ih := ih (metStep s j (vs.getD j V0)) (by rw [metStep_len]; exact hi)
    cases hd : decide ((vs.getD j V0).f > 0)
    · rw [show metStep s j (vs.getD j V0) = s.set j (S_hull (s.getD j B0) ⟨(vs.getD j V0).n, (vs.getD j V0).n, 0⟩ true) by simp only [metStep, met, hd]; rfl] at ih
      rw [show gMet j (vs.getD j V0) s = .inl (s.set j (S_hull (s.getD j B0) ⟨(vs.getD j V0).n, (vs.getD j V0).n, 0⟩ true)) by simp only [gMet, metStep, met, hd]; rfl]
      exact round hX hO (by kernel_rfl) (.b (lt_nat hk) (.o (inR_nat hk) (.b hd (.o hj (.o hj (.goG [.gc []] ih))))))
    · rw [show metStep s j (vs.getD j V0) = s.set j (S_hull (s.getD j B0) (S_with ⟨1, 0, 0⟩ [S_bit (vs.getD j V0).f]) true) by simp only [metStep, met, hd]; rfl] at ih
      rw [show gMet j (vs.getD j V0) s = .inl (s.set j (S_hull (s.getD j B0) (S_with ⟨1, 0, 0⟩ [S_bit (vs.getD j V0).f]) true)) by simp only [gMet, metStep, met, hd]; rfl]
      exact round hX hO (by kernel_rfl) (.b (lt_nat hk) (.o (inR_nat hk) (.b hd (.o le1 (.o hj (.o hj (.goG [.gc []] ih))))))))
    (fun s _ => round hX hO (by kernel_rfl) (.b (lt_no vs.length) (.ou nofun)))
theorem yN {n : Nat} (hO : Ok n oc68) (c : C) (s : List B) (hA : S_All c ([] : List Int) = (S_AllL c ([] : List Int), 0)) (hv : c.os.length ≤ most) (hs : s.length = c.os.length) : Sim X0 Tryz.prog (ApN (n + 1)) (.yld 8) [.nil .slc] (MB0 c true s) (.bool true) (MB0 c true (metAll s (S_AllL c ([] : List Int)))) := by
  have hl : (S_All c ([] : List Int)).1.length = c.os.length := by rw [hA]; exact AllL_len c ([] : List Int)
  have h2 := lTN hO c (S_All c ([] : List Int)).1 (by rw [hl]; exact hv) s (by rw [hl, hs])
  have e1 : metAll s (S_AllL c ([] : List Int)) = getE (runL gMet (S_All c ([] : List Int)).1 0 s) := by rw [gMet_all, hA]
  have h0 : ((S_All c ([] : List Int)).2 != 0) = false := by rw [hA]; rfl
  rw [e1]
  have q1 : ExecS X0 Tryz.prog T (ApN n) LL 29 true (ntP Tryz.prog 29) 9 (rfAssign Tryz.prog 29) ⟨pputAll envT [48] [.nil .slc], [], MB0 c true s⟩ .norm ⟨[(1, .val (.ptr 0 0 3)), (2, .val (.ptr 1 0 1)), (3, .val (.ptr 2 0 1)), (8, .val (.ptr 5 0 1)), (9, .val (.nil .slc))], [], MB0 c true s⟩ := exec_fp hX hO (by kernel_rfl) .xx
  have q2 : ExecS X0 Tryz.prog T (ApN n) LL 29 true (ntP Tryz.prog 29) 9 (rfBody Tryz.prog 29) ⟨[(1, .val (.ptr 0 0 3)), (2, .val (.ptr 1 0 1)), (3, .val (.ptr 2 0 1)), (8, .val (.ptr 5 0 1)), (9, .val (.nil .slc))], [], MB0 c false s⟩ .norm (wTN c (S_All c ([] : List Int)).1 (getE (runL gMet (S_All c ([] : List Int)).1 0 s)) (S_All c ([] : List Int)).1.length [(61, xl false)]) := exec_fp hX hO (by kernel_rfl) (.b h0 (.w h2 .xx))
  exact yld_sim hX (l := 8) rfl rfl (by kernel_rfl) q1 rfl q2 rfl
end Go.Proofs.YtfhiejgoemcelaaGreat
namespace Pv
open Go Tw
theorem Sim.forget {X : Cod} {P : Program} {call : CallT} {fv : PV X.Γ} {xs : List (PV X.Γ)} {H H1 : List (PB X.Γ)} {v : PV X.Γ} (hs : Sim X P call fv xs H v H1) (i : Nat) : Sim X P call fv xs H v (H1.set i .gone) := by
  intro A m h tf txs hr hf hx
  obtain ⟨w, h', ws, m1, c1, c2, c3, c4, c5, c6⟩ := hs A m h tf txs hr hf hx
  have hg := c2.goneAll [i]
  have hf2 := fr_goneM (h := h') [i] m1
  exact ⟨w, h', ws, _, c1, hg, c3.step hf2.1 hf2.2, c4.trans hf2.1, c5.trans hf2.2, c6⟩
end Pv
namespace Go.Proofs.YtfhiejgoemcelaaGreat
open Go Tw Pv
abbrev Yw (c : C) (s : List B) (w : List Int) : List B := metAll s (S_AllL c w)
def g109 (c : C) (ks : List K) (w : List Int) (hi : Int) (p : Int × List B) : (Int × List B) ⊕ List B := if decide (p.1 ≤ hi) = true then .inl (p.1 + 1, wF (Yw c) ks (w ++ [p.1]) p.2) else .inr p.2
theorem g109_it (c : C) (ks : List K) (w : List Int) (hi : Int) : ∀ (m : Nat) (x : Int) (s : List B), x + m = hi + 1 → itF (g109 c ks w hi) (m + 1) (x, s) = some (wFr (fun x s => wF (Yw c) ks (w ++ [x]) s) x m s)
  | 0, x, s, h => by
    simp only [itF, g109, wFr]
    rw [if_neg (by simp; omega)]
  | m + 1, x, s, h => by
    rw [itF]
    simp only [g109]
    rw [if_pos (by simp; omega)]
    exact g109_it c ks w hi m (x + 1) _ (by omega)
theorem wFr_len {f : Int → List B → List B} {n : Nat} (hf : ∀ x s, s.length = n → (f x s).length = n) : ∀ (m : Nat) (x : Int) (s : List B), s.length = n → (wFr f x m s).length = n
  | 0, _, _, h => h
  | m + 1, x, s, h => wFr_len hf m _ _ (hf x s h)
theorem wF_len (c : C) (n : Nat) : ∀ (ks : List K) (w : List Int) (s : List B), s.length = n → (wF (Yw c) ks w s).length = n
  | [], w, s, h => by simp only [wF]; rw [metAll_len]; exact h
  | k :: ks, w, s, h => by simp only [wF]; exact wFr_len (fun x s hs => wF_len c n ks _ s hs) _ _ _ h
theorem All_ok {c : C} (hok : ((S_check c) != 0) = false) {w : List Int} (hl : w.length = c.cs.length) (hw : okW c.cs w) : S_All c w = (S_AllL c w, 0) := by
  have h1 := (check_ok hok).1
  have h2 : (c.os.any fun o => S_isParam o) = false := by
    have : S_check c = 0 := by simpa using hok
    unfold S_check at this
    rw [if_neg (by rw [h1]; simp)] at this
    cases h : c.os.any fun o => S_check1 o
    · exact h
    · rw [h] at this; simp at this
  unfold S_All
  rw [if_neg (by rw [h1]; simp), if_neg (by rw [h2]; simp), if_neg (by rw [isWorld_ok hl hw]; simp)]
theorem okW_app {cs : List K} {w : List Int} {x : Int} {k : K} (hw : okW cs w) (hk : cs[w.length]? = some k) (h1 : k.lo ≤ x) (h2 : x ≤ k.hi) : okW cs (w ++ [x]) := by
  intro i y k' hy hk'
  rcases Nat.lt_or_ge i w.length with hi | hi
  · rw [List.getElem?_append_left hi] at hy; exact hw i y k' hy hk'
  · rw [List.getElem?_append_right hi] at hy
    have : i - w.length = 0 := by
      rcases Nat.eq_zero_or_pos (i - w.length) with h | h
      · exact h
      · rw [List.getElem?_eq_none (by simp; omega)] at hy; cases hy
    rw [this] at hy
    simp only [List.getElem?_cons_zero, Option.some.injEq] at hy
    subst hy
    rw [show i = w.length by omega, hk] at hk'
    cases hk'
    exact ⟨h1, h2⟩
noncomputable abbrev w109W (c : C) (k ex : Bool) (w : List Int) (p : Int × List B) (x : List (Nat × PE gam)) : PSt gam := ⟨[(0, .val (.own 11)), (3, .val (.ptr 10 0 1)), (6, .loc 0 0), (7, xi p.1)] ++ x, [K.ps (c.cs.getD w.length K0)], MT c p.2 ++ [.list k ex 3 w]⟩
noncomputable def z109W (c : C) (k ex : Bool) (w : List Int) (s : List B) : Ex × PSt gam := (.exit 0, w109W c k ex w ((c.cs.getD w.length K0).hi + 1, s) [(26, xl false)])
theorem l109W {n : Nat} (c : C) (k ex : Bool) (w : List Int) (ks : List K) (hk9 : (c.cs.getD w.length K0).hi ≤ 9999) (hk0 : -9999 ≤ (c.cs.getD w.length K0).lo) (hne : w ≠ []) (hwl : w.length + 1 ≤ most) (hlh : (c.cs.getD w.length K0).lo ≤ (c.cs.getD w.length K0).hi) (hsm : (c.cs.getD w.length K0).hi - (c.cs.getD w.length K0).lo + 1 ≤ 12)
    (ih : ∀ (x : Int) (s : List B), (c.cs.getD w.length K0).lo ≤ x → x ≤ (c.cs.getD w.length K0).hi → s.length = c.os.length → Sim X0 Tryz.prog (ApN (n + 1)) fE [.own 11] (MT c s ++ [.list false false 3 (w ++ [x])]) (.bool true) (MT c (wF (Yw c) ks (w ++ [x]) s) ++ [.gone])) (s0 : List B) (hs0 : s0.length = c.os.length) :
    LpB (n + 1) 109 0 12 (w109W c k ex w ((c.cs.getD w.length K0).lo, s0) []) (z109W c k ex w (wFr (fun x s => wF (Yw c) ks (w ++ [x]) s) (c.cs.getD w.length K0).lo ((c.cs.getD w.length K0).hi - (c.cs.getD w.length K0).lo + 1).toNat s0)).1 (z109W c k ex w (wFr (fun x s => wF (Yw c) ks (w ++ [x]) s) (c.cs.getD w.length K0).lo ((c.cs.getD w.length K0).hi - (c.cs.getD w.length K0).lo + 1).toNat s0)).2 := by
  refine whileE (X := X0) (P := Tryz.prog) (T := T) (st := fun p => w109W c k ex w p []) (g := g109 c ks w (c.cs.getD w.length K0).hi) (out := z109W c k ex w) (fun p => (c.cs.getD w.length K0).lo ≤ p.1 ∧ p.1 ≤ (c.cs.getD w.length K0).hi + 1 ∧ p.2.length = c.os.length) (g109_it c ks w _ _ _ s0 (by omega)) (by kernel_rfl) (by show _ ≤ 2 ^ 24; omega) ⟨Int.le_refl _, by omega, hs0⟩ (fun s s1 hi hs => ?_) (fun s m r hi ih2 => ?_)
  · unfold g109 at hs
    split at hs
    · rename_i hx; rw [decide_eq_true_eq] at hx; cases hs; exact ⟨by simp only; omega, by simp only; omega, wF_len c _ _ _ _ hi.2.2⟩
    · cases hs
  · cases hd : decide (s.1 ≤ (c.cs.getD w.length K0).hi)
    · have hx : ¬ s.1 ≤ (c.cs.getD w.length K0).hi := by simpa using hd
      obtain ⟨x, s⟩ := s
      have hx2 : x = (c.cs.getD w.length K0).hi + 1 := by simp only at hx hi; omega
      subst hx2
      rw [show g109 c ks w (c.cs.getD w.length K0).hi ((c.cs.getD w.length K0).hi + 1, s) = .inr s by unfold g109; rw [if_neg (by rw [hd]; simp)]]
      exact round hX ok0 (by kernel_rfl) (.b hd (.ou nofun))
    · have hx : s.1 ≤ (c.cs.getD w.length K0).hi := by simpa using hd
      have hg : g109 c ks w (c.cs.getD w.length K0).hi s = .inl (s.1 + 1, wF (Yw c) ks (w ++ [s.1]) s.2) := by unfold g109; rw [if_pos hd]
      have h3 := ih2 _ hg
      rw [hg]
      have h4 : IntKind.i64.wrap (s.1 + 1) = s.1 + 1 := wrap_small (by omega) (by omega)
      rw [← h4] at h3
      exact round hX ok0 (by kernel_rfl) (.b hd (.fr [11] (s110 (n := n) k ex w hne (Nat.le_of_succ_le hwl)) (.o (show w.length + [s.1].length ≤ most by simp; omega) (.fr [0, 1, 2, 3, 4, 5, 6, 7, 8, 9, 10, 15] (ih s.1 s.2 hi.1 hx hi.2.2) (.b (rfl : false = false) (.goG [.gc []] h3))))))
noncomputable abbrev w109N (c : C) (p : Int × List B) (x : List (Nat × PE gam)) : PSt gam := ⟨[(0, .val (.nil .slc)), (3, .val (.ptr 10 0 1)), (6, .loc 0 0), (7, xi p.1)] ++ x, [K.ps (c.cs.getD ([] : List Int).length K0)], MT c p.2⟩
noncomputable def z109N (c : C) (s : List B) : Ex × PSt gam := (.exit 0, w109N c ((c.cs.getD ([] : List Int).length K0).hi + 1, s) [(26, xl false)])
theorem l109N {n : Nat} (c : C) (ks : List K) (hk9 : (c.cs.getD ([] : List Int).length K0).hi ≤ 9999) (hk0 : -9999 ≤ (c.cs.getD ([] : List Int).length K0).lo) (hlh : (c.cs.getD ([] : List Int).length K0).lo ≤ (c.cs.getD ([] : List Int).length K0).hi) (hsm : (c.cs.getD ([] : List Int).length K0).hi - (c.cs.getD ([] : List Int).length K0).lo + 1 ≤ 12)
    (ih : ∀ (x : Int) (s : List B), (c.cs.getD ([] : List Int).length K0).lo ≤ x → x ≤ (c.cs.getD ([] : List Int).length K0).hi → s.length = c.os.length → Sim X0 Tryz.prog (ApN (n + 1)) fE [.own 11] (MT c s ++ [.list true false 3 (([] : List Int) ++ [x])]) (.bool true) (MT c (wF (Yw c) ks (([] : List Int) ++ [x]) s) ++ [.gone])) (s0 : List B) (hs0 : s0.length = c.os.length) :
    LpB (n + 1) 109 0 11 (w109N c ((c.cs.getD ([] : List Int).length K0).lo, s0) []) (z109N c (wFr (fun x s => wF (Yw c) ks (([] : List Int) ++ [x]) s) (c.cs.getD ([] : List Int).length K0).lo ((c.cs.getD ([] : List Int).length K0).hi - (c.cs.getD ([] : List Int).length K0).lo + 1).toNat s0)).1 (z109N c (wFr (fun x s => wF (Yw c) ks (([] : List Int) ++ [x]) s) (c.cs.getD ([] : List Int).length K0).lo ((c.cs.getD ([] : List Int).length K0).hi - (c.cs.getD ([] : List Int).length K0).lo + 1).toNat s0)).2 := by
  refine whileE (X := X0) (P := Tryz.prog) (T := T) (st := fun p => w109N c p []) (g := g109 c ks ([] : List Int) (c.cs.getD ([] : List Int).length K0).hi) (out := z109N c ) (fun p => (c.cs.getD ([] : List Int).length K0).lo ≤ p.1 ∧ p.1 ≤ (c.cs.getD ([] : List Int).length K0).hi + 1 ∧ p.2.length = c.os.length) (g109_it c ks ([] : List Int) _ _ _ s0 (by omega)) (by kernel_rfl) (by show _ ≤ 2 ^ 24; omega) ⟨Int.le_refl _, by omega, hs0⟩ (fun s s1 hi hs => ?_) (fun s m r hi ih2 => ?_)
  · unfold g109 at hs
    split at hs
    · rename_i hx; rw [decide_eq_true_eq] at hx; cases hs; exact ⟨by simp only; omega, by simp only; omega, wF_len c _ _ _ _ hi.2.2⟩
    · cases hs
  · cases hd : decide (s.1 ≤ (c.cs.getD ([] : List Int).length K0).hi)
    · have hx : ¬ s.1 ≤ (c.cs.getD ([] : List Int).length K0).hi := by simpa using hd
      obtain ⟨x, s⟩ := s
      have hx2 : x = (c.cs.getD ([] : List Int).length K0).hi + 1 := by simp only at hx hi; omega
      subst hx2
      rw [show g109 c ks ([] : List Int) (c.cs.getD ([] : List Int).length K0).hi ((c.cs.getD ([] : List Int).length K0).hi + 1, s) = .inr s by unfold g109; rw [if_neg (by rw [hd]; simp)]]
      exact round hX ok0 (by kernel_rfl) (.b hd (.ou nofun))
    · have hx : s.1 ≤ (c.cs.getD ([] : List Int).length K0).hi := by simpa using hd
      have hg : g109 c ks ([] : List Int) (c.cs.getD ([] : List Int).length K0).hi s = .inl (s.1 + 1, wF (Yw c) ks (([] : List Int) ++ [s.1]) s.2) := by unfold g109; rw [if_pos hd]
      have h3 := ih2 _ hg
      rw [hg]
      have h4 : IntKind.i64.wrap (s.1 + 1) = s.1 + 1 := wrap_small (by omega) (by omega)
      rw [← h4] at h3
      exact round hX ok0 (by kernel_rfl) (.b hd (.fr [] (s110n (n := n)) (.o (show [s.1].length ≤ most from le1) (.fr [0, 1, 2, 3, 4, 5, 6, 7, 8, 9, 10, 12] (ih s.1 s.2 hi.1 hx hi.2.2) (.b (rfl : false = false) (.goG [.gc []] h3))))))
theorem s109 {N : Nat} (hO : ∀ n, N ≤ n → Ok n oc68) (c : C) (hok : ((S_check c) != 0) = false) (hg : ∀ k ∈ c.cs, -9999 ≤ k.lo ∧ k.lo ≤ k.hi ∧ k.hi ≤ 9999 ∧ k.hi - k.lo + 1 ≤ 12) : ∀ (ks : List K) (pre : List K) (_ : c.cs = pre ++ ks) (w : List Int) (_ : w.length = pre.length) (_ : w ≠ []) (_ : okW c.cs w) (n : Nat) (_ : N + ks.length ≤ n) (s : List B) (_ : s.length = c.os.length) (k ex : Bool),
    Sim X0 Tryz.prog (ApN (n + 2)) fE [.own 11] (MT c s ++ [.list k ex 3 w]) (.bool true) (MT c (wF (Yw c) ks w s) ++ [.gone])
  | [], pre, hcs, w, hw, hne, hWo, n, hn, s, hs, k, ex => by
    have hlen : w.length = c.cs.length := by rw [hcs, hw]; simp
    have hy := yW (n := n) (hO n (by omega)) c k ex w s (All_ok hok hlen hWo) (ok3000 (check_ok hok).2.2.2.1) hs
    exact sim_is (r := tA) (s := true) hX ok0 (first := []) (by kernel_rfl) (.b (show ((w.length : Int) == (c.cs.length : Int)) = true by rw [hlen]; simp) (.fr [0, 1, 2, 3, 4, 5, 6, 7, 8, 11] hy .sr))
  | k0 :: ks, pre, hcs, w, hw, hne, hWo, n, hn, s, hs, k, ex => by
    obtain ⟨n, rfl⟩ : ∃ j, n = j + 1 := ⟨n - 1, by simp at hn; omega⟩
    have hget : c.cs[w.length]? = some k0 := by rw [hcs, hw]; simp
    have hgd : c.cs.getD w.length K0 = k0 := by rw [List.getD_eq_getElem?_getD, hget]; rfl
    have hm := hg k0 (by rw [hcs]; simp)
    have hlt : w.length < c.cs.length := (List.getElem?_eq_some_iff.1 hget).1
    have h6 := (check_ok hok).2.2.1
    have hl := l109W (n := n + 1) c k ex w ks (by rw [hgd]; omega) (by rw [hgd]; omega) hne (by unfold most; omega) (by rw [hgd]; omega) (by rw [hgd]; omega)
      (fun x s h1 h2 hs => s109 hO c hok hg ks (pre ++ [k0]) (by rw [hcs]; simp) (w ++ [x]) (by simp [hw]) (by simp) (okW_app hWo hget (by rw [hgd] at h1; exact h1) (by rw [hgd] at h2; exact h2)) n (by simp at hn; omega) s hs false false) s hs
    have e : wF (Yw c) (k0 :: ks) w s = wFr (fun x s => wF (Yw c) ks (w ++ [x]) s) (c.cs.getD w.length K0).lo ((c.cs.getD w.length K0).hi - (c.cs.getD w.length K0).lo + 1).toNat s := by rw [hgd]; rfl
    rw [e]
    have hne2 : ((w.length : Int) == (c.cs.length : Int)) = false := by simp; omega
    exact (sim_is (r := tA) (s := true) (H1 := MT c (wFr (fun x s => wF (Yw c) ks (w ++ [x]) s) (c.cs.getD w.length K0).lo ((c.cs.getD w.length K0).hi - (c.cs.getD w.length K0).lo + 1).toNat s) ++ [.list k ex 3 w]) hX ok0 (first := []) (by kernel_rfl) (.b hne2 (.o (inR_nat hlt) (.w hl .sr)))).forget 11
theorem s109n {N : Nat} (hO : ∀ n, N ≤ n → Ok n oc68) (c : C) (hok : ((S_check c) != 0) = false) (hg : ∀ k ∈ c.cs, -9999 ≤ k.lo ∧ k.lo ≤ k.hi ∧ k.hi ≤ 9999 ∧ k.hi - k.lo + 1 ≤ 12) (n : Nat) (hn : N + c.cs.length ≤ n) (s : List B) (hs : s.length = c.os.length) : Sim X0 Tryz.prog (ApN (n + 2)) fE [.nil .slc] (MT c s) (.bool true) (MT c (wF (Yw c) c.cs [] s)) := by
  match hcs : c.cs with
  | [] =>
    have hlen : ([] : List Int).length = c.cs.length := by rw [hcs]; rfl
    have hy := yN (n := n) (hO n (by omega)) c s (All_ok hok hlen (fun i x k h => by simp at h)) (ok3000 (check_ok hok).2.2.2.1) hs
    exact sim_is (r := tA) (s := true) hX ok0 (first := []) (by kernel_rfl) (.b (show ((0 : Int) == (c.cs.length : Int)) = true by rw [← hlen]; rfl) (.fr [0, 1, 2, 3, 4, 5, 6, 7, 8] hy .sr))
  | k0 :: ks =>
    obtain ⟨n, rfl⟩ : ∃ j, n = j + 1 := ⟨n - 1, by rw [hcs] at hn; simp at hn; omega⟩
    have hget : c.cs[([] : List Int).length]? = some k0 := by rw [hcs]; rfl
    have hgd : c.cs.getD ([] : List Int).length K0 = k0 := by rw [List.getD_eq_getElem?_getD, hget]; rfl
    have hm := hg k0 (by rw [hcs]; simp)
    have hlt : ([] : List Int).length < c.cs.length := (List.getElem?_eq_some_iff.1 hget).1
    have hl := l109N (n := n + 1) c ks (by rw [hgd]; omega) (by rw [hgd]; omega) (by rw [hgd]; omega) (by rw [hgd]; omega)
      (fun x s h1 h2 hs => s109 hO c hok hg ks [k0] (by rw [hcs]; rfl) [x] rfl (by simp) (okW_app (w := []) (fun i x k h => by simp at h) hget (by rw [hgd] at h1; exact h1) (by rw [hgd] at h2; exact h2)) n (by rw [hcs] at hn; simp at hn; omega) s hs true false) s hs
    have e : wF (Yw c) (k0 :: ks) [] s = wFr (fun x s => wF (Yw c) ks ([] ++ [x]) s) (c.cs.getD ([] : List Int).length K0).lo ((c.cs.getD ([] : List Int).length K0).hi - (c.cs.getD ([] : List Int).length K0).lo + 1).toNat s := by rw [hgd]; rfl
    rw [e]
    have hne2 : ((0 : Int) == (c.cs.length : Int)) = false := by simp at hlt ⊢; omega
    exact sim_is (r := tA) (s := true) hX ok0 (first := []) (by kernel_rfl) (.b hne2 (.o (show inR 0 c.cs.length from inR_nat hlt) (.w hl .sr)))
theorem s108 {N : Nat} (hO : ∀ n, N ≤ n → Ok n oc68) (c : C) (hok : ((S_check c) != 0) = false) (hg : ∀ k ∈ c.cs, -9999 ≤ k.lo ∧ k.lo ≤ k.hi ∧ k.hi ≤ 9999 ∧ k.hi - k.lo + 1 ≤ 12) (n : Nat) (hn : N + c.cs.length ≤ n) (s : List B) (hs : s.length = c.os.length) : Sim X0 Tryz.prog (ApN (n + 3)) (.fn 108 [] [.ptr 6 0 1]) [.yld 8] (MB0 c true s) (.tup []) (MT c (wF (Yw c) c.cs [] s)) :=
  sim_ex hX ok0 (first := []) (by kernel_rfl) (.k (s109n hO c hok hg n hn s hs) .er)
end Go.Proofs.YtfhiejgoemcelaaGreat
namespace Go.Proofs.YtfhiejgoemcelaaGreat
open Go Tw Pv
abbrev w29 (c : C) (m : Int) (i : Int) (x : List (Nat × PE gam)) : PSt gam := ⟨[(1, .val (.ptr 0 0 3)), (2, .val (.ptr 1 0 1)), (3, .val (.ptr 2 0 1)), (5, xi m), (21, xL 62 c.cs), (22, xi c.cs.length), (23, xi i)] ++ x, [], [.cells (xC c), .cells [.nil .slc], .cells [.int .i64 0]]⟩
theorem l29 {n : Nat} (hO : Ok n oc68) (c : C) (hl : c.cs.length ≤ most) : Lp n 29 0 (w29 c 1 0 []) (.exit 0) (w29 c (S_many c.cs) c.cs.length [(24, xl false)]) :=
  eachF (σ := Int) K0 (l := c.cs) (s0 := (1 : Int)) (st := fun i m => w29 c m i []) (g := manyStep) (fin := fun m => w29 c m c.cs.length [(24, xl false)]) (by kernel_rfl) hl LLm
    (fun k s hk _ n e p h => round hX hO (by kernel_rfl) (.b (lt_nat hk) (.o (inR_nat hk) (.goG [.gc [0, 1, 2]] h))))
    (fun s _ => round hX hO (by kernel_rfl) (.b (lt_no c.cs.length) .ex))
noncomputable abbrev H7 (c : C) (s : List B) : List (PB gam) := [.cells (xC c), .cells [.nil .slc], .cells [.int .i64 0], .gone, .list true true 38 s, .cells [.own 4], .cells [.lst 62 c.cs false]]
theorem r29 {N : Nat} (hO : ∀ n, N ≤ n → Ok n oc68) (c : C) (hok : ((S_check c) != 0) = false) (n : Nat) (hn : N + c.cs.length ≤ n) (s : List B) (hs : s.length = c.os.length) :
    ExecS X0 Tryz.prog T (ApN (n + 3)) LL 29 false (ntP Tryz.prog 29) 0 (.rangeFunc (.tmp 47) #[48] (rfAssign Tryz.prog 29) (rfBody Tryz.prog 29)) ⟨envT, [], H7 c s⟩ .norm ⟨envT, [], (MT c (wF (Yw c) c.cs [] s)).set 8 (.loop false 29 (ntP Tryz.prog 29) envT [48] (rfAssign Tryz.prog 29) (rfBody Tryz.prog 29) (some .skip))⟩ :=
  rf_exec hX (ps := ⟨envT, [], H7 c s⟩) rfl rfl (s108 hO c hok (Check_cs (check_ok hok).1) n hn s hs) rfl rfl
noncomputable def oc29 : Orc gam := orcF 29 (a1 cA) (tupA (a2 bsA iA)) (fun p => S_Tight p) np oc68
theorem gc29 : Gd oc29 := gc68.deep 9 fun n hn hO p hp => by
  obtain ⟨n, rfl⟩ : ∃ k, n = k + 9 := ⟨n - 9, by omega⟩
  have h9 := hO (n + 9) (by omega)
  refine fn_is hX h9 (by kernel_rfl) (.sh (fun _ => .rn (.tup [.nil .slc, .int .i64 (S_check p)]) rfl) fun h0 => .w (l29 h9 p (ok3000 (Nat.le_trans (check_ok h0).2.2.1 (by decide)))) (.sh (fun _ => .rn (.tup [.nil .slc, .int .i64 5]) rfl) fun h1 =>
    .o (rfl : [(⟨1, 0, 0⟩ : B)].length = 1) (.o (Int.natCast_nonneg p.os.length) (.o (show (p.os.length : Int) ≤ 5000 by have := (check_ok h0).2.2.2.1; omega) (.w (r29 (N := n) (fun m hm => hO m (by omega)) p h0 (n + 6) (by have := (check_ok h0).2.2.1; omega) (none0 p.os.length) (by simp [none0])) .rr)))))
end Go.Proofs.YtfhiejgoemcelaaGreat
namespace Tw
open Go
def trip (ops : Array Oper) (o : Oper) : Option Nat × List Nat × List Nat :=
  (o.dst, Oper.looksAt ops o, (o.after.toList.filter (Region.binds .any)).map (·.on))
def farD (d : Option Nat) (l : List Nat) : Bool := match d with | some d => !l.contains d | none => true
def farT (a b : Option Nat × List Nat × List Nat) : Bool :=
  farD a.1 b.2.1 && farD b.1 a.2.1 && (match a.1 with | some d => b.1 != some d | none => true)
def pairT (j : Nat) (b : Option Nat × List Nat × List Nat) : Nat → List (Option Nat × List Nat × List Nat) → Bool
  | _, [] => true
  | i, a :: l => if Nat.blt i j then (b.2.2.contains i || farT a b) && pairT j b (i + 1) l else true
def quickT (all : List (Option Nat × List Nat × List Nat)) : Nat → List (Option Nat × List Nat × List Nat) → Bool
  | _, [] => true
  | j, b :: l => b.2.2.all (fun k => Nat.blt k j) && (pairT j b 0 all && quickT all (j + 1) l)
theorem pairT_at {j : Nat} {b : Option Nat × List Nat × List Nat} : ∀ {l : List (Option Nat × List Nat × List Nat)} {i : Nat}, pairT j b i l = true → ∀ k a, l[k]? = some a → i + k < j →
    b.2.2.contains (i + k) = true ∨ farT a b = true
  | [], i, _, k, a, hk, _ => by simp at hk
  | c :: l, i, h, k, a, hk, hj => by
    simp only [pairT] at h
    rw [if_pos (by simp only [Nat.blt_eq]; omega)] at h
    simp only [Bool.and_eq_true, Bool.or_eq_true] at h
    cases k with
    | zero => simp only [List.getElem?_cons_zero, Option.some.injEq] at hk; subst hk; exact h.1
    | succ k =>
      simp only [List.getElem?_cons_succ] at hk
      have := pairT_at h.2 k a hk (by omega)
      rwa [show i + 1 + k = i + (k + 1) by omega] at this
theorem quickT_at {all : List (Option Nat × List Nat × List Nat)} : ∀ {l : List (Option Nat × List Nat × List Nat)} {j : Nat}, quickT all j l = true → ∀ k b, l[k]? = some b →
    (∀ x ∈ b.2.2, x < j + k) ∧ pairT (j + k) b 0 all = true
  | [], _, _, k, b, hk => by simp at hk
  | c :: l, j, h, k, b, hk => by
    simp only [quickT, Bool.and_eq_true, List.all_eq_true, Nat.blt_eq] at h
    cases k with
    | zero => simp only [List.getElem?_cons_zero, Option.some.injEq] at hk; subst hk; exact ⟨fun x hx => h.1 x hx, h.2.1⟩
    | succ k =>
      simp only [List.getElem?_cons_succ] at hk
      have := quickT_at h.2.2 k b hk
      rwa [show j + 1 + k = j + (k + 1) by omega] at this
theorem addNew_mem : ∀ {l acc : List Nat} {x : Nat}, (x ∈ l ∨ x ∈ acc) → x ∈ addNew l acc
  | [], acc, x, h => by simpa [addNew] using h
  | y :: l, acc, x, h => by
    simp only [addNew]
    apply addNew_mem
    rcases h with h | h
    · rcases List.mem_cons.mp h with rfl | h
      · right; split
        · rename_i hc; simpa using hc
        · exact List.mem_cons_self ..
      · exact .inl h
    · right; split
      · exact h
      · exact List.mem_cons_of_mem _ h
theorem foldl_pred {acc : List (List Nat)} : ∀ {es : List Edge} {l : List Nat} {x : Nat}, (x ∈ l ∨ ∃ e ∈ es, Region.binds .any e = true ∧ e.on = x) →
    x ∈ es.foldl (fun l e => if Region.binds .any e then addNew (e.on :: acc.getD e.on []) l else l) l
  | [], l, x, h => by
    rcases h with h | ⟨e, he, _⟩
    · exact h
    · cases he
  | e :: es, l, x, h => by
    simp only [List.foldl_cons]
    apply foldl_pred
    rcases h with h | ⟨e', he, hb, rfl⟩
    · left; split
      · exact addNew_mem (.inr h)
      · exact h
    · rcases List.mem_cons.mp he with rfl | he
      · left; rw [if_pos hb]; exact addNew_mem (.inl (List.mem_cons_self ..))
      · exact .inr ⟨e', he, hb, rfl⟩
theorem far_apart {ops : Array Oper} {a b : Oper} (h : farT (trip ops a) (trip ops b) = true) : a.apart ops b = true ∧ b.apart ops a = true := by
  simp only [farT, trip, Bool.and_eq_true] at h
  obtain ⟨⟨h1, h2⟩, h3⟩ := h
  simp only [farD] at h1 h2
  refine ⟨?_, ?_⟩
  · simp only [Oper.apart]
    cases ha : a.dst with
    | none => cases hb : b.dst with
      | none => rfl
      | some e => simp only [hb] at h2; simpa using h2
    | some d => cases hb : b.dst with
      | none => simp only [ha] at h1; simpa using h1
      | some e => simp only [ha, hb] at h1 h2 h3; simp_all
  · simp only [Oper.apart]
    cases ha : a.dst with
    | none => cases hb : b.dst with
      | none => rfl
      | some e => simp only [hb] at h2; simpa using h2
    | some d => cases hb : b.dst with
      | none => simp only [ha] at h1; simpa using h1
      | some e =>
        simp only [ha, hb] at h1 h2 h3
        simp_all only [Bool.not_eq_true', bne_iff_ne, ne_eq, Option.some.injEq, Bool.and_eq_true, Bool.not_eq_eq_eq_not, Bool.not_true, and_true, true_and]
        exact fun x => h3 x.symm
theorem static_of {ops : List Oper} (L : List (Option Nat × List Nat × List Nat)) (h1 : ops.map (trip ops.toArray) = L) (h2 : quickT L 0 L = true) : staticOk ops = true := by
  subst h1
  have hat : ∀ k b, ops[k]? = some b → (∀ x ∈ (trip ops.toArray b).2.2, x < k) ∧ pairT k (trip ops.toArray b) 0 (ops.map (trip ops.toArray)) = true := by
    intro k b hk
    have := quickT_at h2 k (trip ops.toArray b) (by rw [List.getElem?_map, hk]; rfl)
    simpa using this
  simp only [staticOk, Bool.and_eq_true, List.all_eq_true]
  refine ⟨?_, ?_⟩
  · rintro ⟨o, i⟩ hm
    rw [Array.all_eq_true_iff_forall_mem]
    intro e he
    have hk := List.mem_zipIdx_iff_getElem?.mp hm
    simp only at hk
    cases hb : Region.binds .any e with
    | false => rfl
    | true =>
      have := (hat i o hk).1 e.on (by
        simp only [trip, List.mem_map, List.mem_filter]
        exact ⟨e, ⟨Array.mem_toList_iff.mpr he, hb⟩, rfl⟩)
      simp [this]
  · rintro ⟨i, j⟩ hm
    simp only [openPairs, List.mem_flatMap, List.mem_map, List.mem_filter, List.mem_range, Prod.mk.injEq] at hm
    obtain ⟨j, hj, i, ⟨hi, hn⟩, rfl, rfl⟩ := hm
    have hb : ops[j]? = some (ops[j]'hj) := List.getElem?_eq_getElem hj
    have hil : i < ops.length := by omega
    have ha : ops[i]? = some (ops[i]'hil) := List.getElem?_eq_getElem hil
    simp only [ha, hb, Bool.and_eq_true]
    apply far_apart
    have := pairT_at (hat j _ hb).2 i (trip ops.toArray (ops[i]'hil)) (by rw [List.getElem?_map, ha]; rfl) (by omega)
    rcases this with h | h
    · exfalso
      simp only [Nat.zero_add, trip, List.contains_iff_mem, List.mem_map, List.mem_filter] at h
      obtain ⟨e, ⟨he, hbn⟩, hon⟩ := h
      have hg := preds_get ops [] j _ hb
      simp only [List.length_nil, Nat.zero_add] at hg
      have : i ∈ (preds ops []).getD j [] := by
        rw [List.getD_eq_getElem?_getD, hg]
        simp only [Option.getD_some]
        exact foldl_pred (.inr ⟨e, he, hbn, hon⟩)
      rw [List.contains_iff_mem.mpr this] at hn; cases hn
    · exact h
end Tw
namespace Go.Proofs.YtfhiejgoemcelaaGreat
open Go Tw
theorem st_18_7 : staticOk (regOps Tryz.prog 18 7) = true :=
  static_of [(some 45, [2], []), (some 46, [45], [0]), (some 47, [46], [1]), (some 48, [1, 47], [2]), (some 49, [47], [2, 2]), (some 50, [48, 49, 47], [3, 4, 4, 2]), (some 51, [47, 50], [2, 5]), (some 52, [51], [6, 5]), (some 53, [4, 52], [7]), (some 54, [53, 52], [8, 7]), (some 55, [52, 54], [7, 9]), (some 56, [55], [10, 7]), (some 57, [56], [11, 11]), (some 58, [56], [12, 11]), (some 59, [57, 58, 56], [12, 13, 13, 11]), (some 60, [56, 59], [11, 14]), (some 61, [60], [15, 14]), (some 62, [6, 61], [16]), (some 63, [62, 61], [17, 16]), (some 64, [61, 63], [16, 18]), (some 65, [64], [19, 16]), (some 66, [5, 65], [20]), (some 67, [66, 65], [21, 20]), (some 68, [67, 65], [22, 20]), (some 69, [65, 68], [20, 23]), (some 70, [69], [24, 20]), (some 71, [5, 70], [25]), (some 72, [71, 70], [26, 25]), (some 73, [72, 70], [27, 25]), (some 74, [70], [25, 25]), (some 75, [73, 74, 70], [28, 29, 25]), (some 76, [70, 75], [25, 30]), (some 77, [76], [31, 29]), (some 78, [5, 77], [32]), (some 79, [78, 77], [33, 32]), (some 80, [79, 77], [34, 32]), (some 81, [77], [32, 32]), (some 82, [80, 81, 77], [35, 36, 32]), (some 83, [77, 82], [32, 37]), (some 84, [83], [38, 36]), (some 85, [5, 84], [39]), (some 86, [85, 84], [40, 39]), (some 87, [86, 84], [41, 39]), (some 88, [84], [39, 39]), (some 89, [87, 88, 84], [42, 43, 39]), (some 90, [84, 89], [39, 44]), (some 91, [90], [45, 43]), (some 92, [8, 91], [46]), (some 93, [92, 91], [47, 46]), (some 94, [91, 93], [46, 48]), (some 95, [94], [49, 46]), (some 96, [7, 95], [50]), (some 97, [96, 95], [51, 50]), (some 98, [95, 97], [50, 52]), (some 99, [98], [53, 50]), (some 100, [10, 99], [54]), (some 101, [100, 99], [55, 54]), (some 102, [99, 101], [54, 56]), (some 103, [102], [57, 54]), (some 104, [9, 103], [58]), (some 105, [104, 103], [59, 58]), (some 106, [105, 103], [60, 58]), (some 107, [103, 106], [58, 61]), (some 108, [107], [62, 58]), (some 109, [9, 108], [63]), (some 110, [109, 108], [64, 63]), (some 111, [110, 108], [65, 63]), (some 112, [108], [63, 63]), (some 113, [111, 112, 108], [66, 67, 63]), (some 114, [108, 113], [63, 68]), (some 115, [114], [69, 67]), (some 116, [9, 115], [70]), (some 117, [116, 115], [71, 70]), (some 118, [117, 115], [72, 70]), (some 119, [115], [70, 70]), (some 120, [118, 119, 115], [73, 74, 70]), (some 121, [115, 120], [70, 75]), (some 122, [121], [76, 74]), (some 123, [9, 122], [77]), (some 124, [123, 122], [78, 77]), (some 125, [124, 122], [79, 77]), (some 126, [122], [77, 77]), (some 127, [125, 126, 122], [80, 81, 77]), (some 128, [122, 127], [77, 82]), (some 129, [128], [83, 81]), (some 130, [12, 129], [84]), (some 131, [130, 129], [85, 84]), (some 132, [129, 131], [84, 86]), (some 133, [132], [87, 84]), (some 134, [11, 133], [88]), (some 135, [134, 133], [89, 88]), (some 136, [135, 133], [90, 88]), (some 137, [133, 136], [88, 91]), (some 138, [137], [92, 88]), (some 139, [11, 138], [93]), (some 140, [139, 138], [94, 93]), (some 141, [140, 138], [95, 93]), (some 142, [141, 138], [96, 93]), (some 143, [138, 142], [93, 97]), (some 144, [143], [98, 93]), (some 145, [11, 144], [99]), (some 146, [145, 144], [100, 99]), (some 147, [146, 144], [101, 99]), (some 148, [147, 144], [102, 99]), (some 149, [144, 148], [99, 103]), (some 0, [149], [104, 99, 0, 1, 2, 3, 4, 5, 6, 7, 8, 9, 10, 11, 12, 13, 14, 15, 16, 17, 18, 19, 20, 21, 22, 23, 24, 25, 26, 27, 28, 29, 30, 31, 32, 33, 34, 35, 36, 37, 38, 39, 40, 41, 42, 43, 44, 45, 46, 47, 48, 49, 50, 51, 52, 53, 54, 55, 56, 57, 58, 59, 60, 61, 62, 63, 64, 65, 66, 67, 68, 69, 70, 71, 72, 73, 74, 75, 76, 77, 78, 79, 80, 81, 82, 83, 84, 85, 86, 87, 88, 89, 90, 91, 92, 93, 94, 95, 96, 97, 98, 99, 100, 101, 102, 103, 104])] (by kernel_rfl) (by kernel_rfl)
end Go.Proofs.YtfhiejgoemcelaaGreat
namespace Go.Proofs.YtfhiejgoemcelaaGreat
open Go Tw
def exC : C := ⟨[⟨(⟨#[120]⟩ : ByteArray), (-2), 3⟩, ⟨(⟨#[121]⟩ : ByteArray), 0, 2⟩], [⟨3, 0, 0, 0, 0⟩, ⟨3, 0, 0, 0, 1⟩, ⟨7, 0, 1, 0, 0⟩, ⟨9, 0, 1, 0, 0⟩, ⟨10, 0, 1, 0, 0⟩, ⟨11, 0, 1, 0, 0⟩, ⟨13, 0, 1, 0, 0⟩, ⟨17, 6, 2, 3, 0⟩, ⟨1, 0, 0, 0, 9000⟩, ⟨9, 8, 2, 0, 0⟩, ⟨15, 6, 4, 0, 0⟩], [7, 9, 10]⟩
def knL : List B := [⟨(-2), 3, 0⟩, ⟨0, 2, 0⟩, ⟨(-2), 5, 0⟩, ⟨(-4), 6, 0⟩, ⟨(-2), 3, 1⟩, ⟨0, 1, 1⟩, ⟨0, 1, 0⟩, ⟨(-4), 6, 0⟩, ⟨9000, 9000, 0⟩, ⟨(-9999), 9999, 2⟩, ⟨(-2), 3, 1⟩]
def tiL : List B := [⟨-2, 3, 0⟩, ⟨0, 2, 0⟩, ⟨-2, 5, 0⟩, ⟨-4, 6, 0⟩, ⟨-2, 3, 1⟩, ⟨0, 1, 1⟩, ⟨0, 1, 0⟩, ⟨-2, 6, 0⟩, ⟨9000, 9000, 0⟩, ⟨-9000, 9000, 2⟩, ⟨-2, 0, 1⟩]
def clL : List B := [⟨-2, 3, 0⟩, ⟨0, 2, 0⟩, ⟨-2, 5, 0⟩, ⟨-4, 6, 0⟩, ⟨-2, 3, 1⟩, ⟨0, 1, 1⟩, ⟨1, 1, 0⟩, ⟨-2, 5, 0⟩, ⟨9000, 9000, 0⟩, ⟨-9999, 9999, 2⟩, ⟨-2, 3, 1⟩]
def wiL : List Int := [3, 3, 4, 4, 3, 2, 2, 4, 15, 15, 3]
end Go.Proofs.YtfhiejgoemcelaaGreat
namespace Go.Proofs.YtfhiejgoemcelaaGreat
open Go Tw
theorem of_ex : S_Of exC = (knL, 0) := by kernel_rfl
theorem weak_ex : S_Weak exC knL = (0, 7) := by kernel_rfl
theorem prove_ex : S_Prove exC knL = true := by kernel_rfl
theorem tight_ex : S_Tight exC = (tiL, 0) := by kernel_rfl
theorem never_ex : M_Never exC 9 = (13, 0) := by kernel_rfl
theorem clip_ex : S_Clip exC 6 ⟨1, 1, 0⟩ = (clL, 0) := by kernel_rfl
theorem widths_ex : S_Widths exC = (wiL, 0) := by kernel_rfl
theorem width_some_ex : ∀ r ∈ (S_Of exC).1, (widthF 64 r 0 1).isSome = true := by rw [of_ex]; decide
theorem same_ex : S_same knL knL = true := by kernel_rfl
end Go.Proofs.YtfhiejgoemcelaaGreat
namespace Go.Proofs.YtfhiejgoemcelaaGreat
open Go Tw Pv
theorem le11 : 11 ≤ most := by decide
noncomputable def oc38 : Orc gam := orcF 38 (a3 iA iA uA) bA (fun p => S_to p.1 p.2.1 p.2.2) np oc29
theorem gc38 : Gd oc38 := gc29.add fun n hO p hp => fn_is hX hO (by kernel_rfl) .rr
noncomputable def oc37 : Orc gam := orcF 37 nilA bsA (fun p => knL) np oc38
theorem gc37 : Gd oc37 := gc38.add fun n hO p hp => fn_is hX hO (by kernel_rfl) .rr
noncomputable def oc79 : Orc gam := orcF 79 (a3 uA iA iA) oA (fun p => S_example1 p.1 p.2.1 p.2.2) np oc37
theorem gc79 : Gd oc79 := gc37.add fun n hO p hp => fn_is hX hO (by kernel_rfl) .rr
noncomputable def oc39 : Orc gam := orcF 39 nilA cA (fun p => exC) np oc79
theorem gc39 : Gd oc39 := gc79.add fun n hO p hp => fn_is hX hO (by kernel_rfl) .rr
noncomputable def oc20 : Orc gam := orcF 20 (a1 cA) cA (fun p => p) (fun p => [p.cs.length ≤ most, p.os.length ≤ most, p.rs.length ≤ most]) oc39
theorem gc20 : Gd oc20 := gc39.add fun n hO p hp => fn_is hX hO (by kernel_rfl) (.o (show ([] : List K).length + p.cs.length ≤ most by simpa using hp _ (.head _)) (.o (show ([] : List O).length + p.os.length ≤ most by simpa using hp _ (.tail _ (.head _))) (.o (show ([] : List Int).length + p.rs.length ≤ most by simpa using hp _ (.tail _ (.tail _ (.head _)))) .rr)))
noncomputable def oc25 : Orc gam := orcF 25 (a1 bsA) bsA (fun p => p) (fun p => [p.length ≤ most]) oc20
theorem gc25 : Gd oc25 := gc20.add fun n hO p hp => fn_is hX hO (by kernel_rfl) (.o (show ([] : List B).length + p.length ≤ most by simpa using hp _ (.head _)) .rr)
end Go.Proofs.YtfhiejgoemcelaaGreat
namespace Go.Proofs.YtfhiejgoemcelaaGreat
open Go Tw Pv
abbrev w22 (la lb : List B) (i : Int) (x : List (Nat × PE gam)) : PSt gam := ⟨[(0, xL 38 la), (1, xL 38 lb), (5, xi i)] ++ x, [], []⟩
def z22 (la lb : List B) : Unit ⊕ (Nat × B × Unit) → Ex × PSt gam
  | .inl _ => (.exit 0, w22 la lb la.length [(14, xl false)])
  | .inr _ => (.ret, ⟨[(4, xl false)], [], []⟩)
theorem l22 {n : Nat} (hO : Ok n oc25) (la lb : List B) (hl : la.length ≤ most) (hb : la.length = lb.length) : Lp n 22 0 (w22 la lb 0 []) (z22 la lb (runL (F_same lb) la 0 ())).1 (z22 la lb (runL (F_same lb) la 0 ())).2 :=
  eachE (st := fun i _ => w22 la lb i []) B0 (fun _ _ => True) (by kernel_rfl) hl LLm trivial (fun k s n hk _ ih => round hX hO (by kernel_rfl) (.b (lt_nat hk) (.o (inR_nat hk) (.o (show inR k lb.length by rw [← hb]; exact inR_nat hk) (.q (.bool (!decide (la.getD k B0 = lb.getD k B0))) (ne_B38 (.tmp 20) (.tmp 24) (la.getD k B0) (lb.getD k B0)) (.ls (.ou nofun) (.nx (ih _ trivial)))))))) (fun s _ => round hX hO (by kernel_rfl) (.b (lt_no la.length) (.ou nofun)))
noncomputable def oc22 : Orc gam := orcF 22 (a2 bsA bsA) tA (fun p => S_same p.1 p.2) (fun p => [p.1.length ≤ most]) oc25
theorem gc22 : Gd oc22 := gc25.add fun n hO p hp => fn_is hX hO (by kernel_rfl) (.sh (fun _ => .rr) fun h0 => .zh (fun h => .w (exInl (l22 hO p.1 p.2 (hp _ (.head _)) (by have := h0; simp at this; omega)) () h) .rr) (fun h => .w (exInr (l22 hO p.1 p.2 (hp _ (.head _)) (by have := h0; simp at this; omega)) (0, B0, ()) h) .rr))
theorem eqT38 (x y : Operand) (a : B) : binT Tryz.prog .eql 38 x y (B.tv a) (B.tv a) = some (.bool true) := by rw [eq_B38]; simp
theorem inR_dec {i : Int} {n : Nat} (h : (decide (0 ≤ i) && decide (i < (n : Int))) = true) : inR i n := by simp at h; exact h
noncomputable def exO : Orc gam := orcF 19 (a1 cA) (tupA (a2 bsA iA)) (fun _ => (knL, 0)) (fun p => [S_Of p = (knL, 0)])
  (orcF 24 (a2 cA bsA) (tupA (a2 iA iA)) (fun _ => (0, 7)) (fun p => [S_Weak p.1 p.2 = (0, 7), p.2.length ≤ most])
  (orcF 29 (a1 cA) (tupA (a2 bsA iA)) (fun _ => (tiL, 0)) (fun p => [S_Tight p = (tiL, 0)])
  (orcF 31 (a2 cA iA) (tupA (a2 uA iA)) (fun _ => (13, 0)) (fun p => [M_Never p.1 p.2 = (13, 0)])
  (orcF 32 (a3 cA iA bA) (tupA (a2 bsA iA)) (fun _ => (clL, 0)) (fun p => [S_Clip p.1 p.2.1 p.2.2 = (clL, 0)])
  (orcF 35 (a1 cA) (tupA (a2 isA iA)) (fun _ => (wiL, 0)) (fun p => [S_Widths p = (wiL, 0), (S_Of p).1.length ≤ most, ∀ r ∈ (S_Of p).1, (widthF 64 r 0 1).isSome = true])
  (orcF 26 (a2 cA bsA) tA (fun _ => true) (fun p => [S_Prove p.1 p.2 = true, p.2.length ≤ most])
  (orcF 22 (a2 bsA bsA) tA (fun _ => true) (fun p => [S_same p.1 p.2 = true, p.1.length ≤ most]) oc22)))))))
theorem Ok.ex {n : Nat} (hO : Ok n oc22) : Ok n exO :=
  OrcOk.as (OrcOk.as (OrcOk.as (OrcOk.as (OrcOk.as (OrcOk.as (OrcOk.as (OrcOk.as hO
    (fun x hx => by have h := hO 22 ((a2 bsA bsA).put x) (tA.put (S_same x.1 x.2)) [] [x.1.length ≤ most] rfl (fun p hp => hx p (.tail _ hp)); rw [hx _ (.head _)] at h; exact h))
    (fun x hx => by have h := hO 26 ((a2 cA bsA).put x) (tA.put (S_Prove x.1 x.2)) [] [x.2.length ≤ most] rfl (fun p hp => hx p (.tail _ hp)); rw [hx _ (.head _)] at h; exact h))
    (fun x hx => by have h := hO 35 ((a1 cA).put x) ((tupA (a2 isA iA)).put (S_Widths x)) [] [(S_Of x).1.length ≤ most, ∀ r ∈ (S_Of x).1, (widthF 64 r 0 1).isSome = true] rfl (fun p hp => hx p (.tail _ hp)); rw [hx _ (.head _)] at h; exact h))
    (fun x hx => by have h := hO 32 ((a3 cA iA bA).put x) ((tupA (a2 bsA iA)).put (S_Clip x.1 x.2.1 x.2.2)) [] [] rfl (by simp); rw [hx _ (.head _)] at h; exact h))
    (fun x hx => by have h := hO 31 ((a2 cA iA).put x) ((tupA (a2 uA iA)).put (M_Never x.1 x.2)) [] [] rfl (by simp); rw [hx _ (.head _)] at h; exact h))
    (fun x hx => by have h := hO 29 ((a1 cA).put x) ((tupA (a2 bsA iA)).put (S_Tight x)) [] [] rfl (by simp); rw [hx _ (.head _)] at h; exact h))
    (fun x hx => by have h := hO 24 ((a2 cA bsA).put x) ((tupA (a2 iA iA)).put (S_Weak x.1 x.2)) [] [x.2.length ≤ most] rfl (fun p hp => hx p (.tail _ hp)); rw [hx _ (.head _)] at h; exact h))
    (fun x hx => by have h := hO 19 ((a1 cA).put x) ((tupA (a2 bsA iA)).put (S_Of x)) [] [] rfl (by simp); rw [hx _ (.head _)] at h; exact h)
theorem kn_most : knL.length ≤ most := le11
theorem of_most : (S_Of exC).1.length ≤ most := by rw [of_ex]; exact le11
noncomputable def oc18 : Orc gam := orcF 18 nilA tA (fun _ => true) np oc22
theorem gc18 : Gd oc18 := gc22.add fun n hO p hp => fn_is hX (Ok.ex hO) (by kernel_rfl) (.o of_ex (.o weak_ex (.o kn_most (.o tight_ex (.o never_ex (.o clip_ex (.o widths_ex (.o of_most (.o width_some_ex (.b (rfl : true = true) (.o same_ex (.o kn_most (.b (rfl : true = true) (.b (rfl : true = true) (.o prove_ex (.o kn_most (.b (rfl : true = true) (.b (rfl : true = true) (.b (rfl : true = true) (.o (inR_dec rfl : inR 7 tiL.length) (.q (.bool true) (eqT38 (.tmp 73) (.tmp 74) (tiL.getD 7 B0)) (.b (rfl : true = true) (.o (inR_dec rfl : inR 9 tiL.length) (.q (.bool true) (eqT38 (.tmp 80) (.tmp 81) (tiL.getD 9 B0)) (.b (rfl : true = true) (.o (inR_dec rfl : inR 10 tiL.length) (.q (.bool true) (eqT38 (.tmp 87) (.tmp 88) (tiL.getD 10 B0)) (.b (rfl : true = true) (.b (rfl : true = true) (.b (rfl : true = true) (.b (rfl : true = true) (.b (rfl : true = true) (.o (inR_dec rfl : inR 6 clL.length) (.q (.bool true) (eqT38 (.tmp 111) (.tmp 112) (clL.getD 6 B0)) (.b (rfl : true = true) (.o (inR_dec rfl : inR 7 clL.length) (.q (.bool true) (eqT38 (.tmp 118) (.tmp 119) (clL.getD 7 B0)) (.b (rfl : true = true) (.o (inR_dec rfl : inR 10 clL.length) (.q (.bool true) (eqT38 (.tmp 125) (.tmp 126) (clL.getD 10 B0)) (.b (rfl : true = true) (.b (rfl : true = true) (.b (rfl : true = true) (.o (inR_dec rfl : inR 2 wiL.length) (.b (rfl : true = true) (.o (inR_dec rfl : inR 9 wiL.length) (.a .calm (.o st_18_7 .rr))))))))))))))))))))))))))))))))))))))))))))))))
end Go.Proofs.YtfhiejgoemcelaaGreat
namespace Go.Proofs.YtfhiejgoemcelaaGreat
open Go Tw Pv
noncomputable def oc17 : Orc gam := orcF 17 (a1 cA) tA (fun p => S_Thin p) np oc18
theorem gc17 : Gd oc17 := gc18.add fun n hO p hp => fn_is hX hO (by kernel_rfl) (.sh (fun _ => .rr) fun h0 => .sh (fun _ => .rr) fun _ => .sh (fun _ => .rr) fun _ => .ss .rr (.o (show p.cs.length ≤ most by simp at h0; unfold most; omega) .rr))
end Go.Proofs.YtfhiejgoemcelaaGreat
namespace Go.Proofs.YtfhiejgoemcelaaGreat
open Go Tw Pv
abbrev szK (k : K) : Int := IntKind.i64.wrap (IntKind.i64.wrap (k.hi - k.lo) + 1)
def nthL (cs : List K) : Nat → Int → List Int → List Int
  | 0, _, out => out
  | j + 1, n, out => nthL cs j (quoI .i64 n (szK (cs.getD j K0))) (out.set j (IntKind.i64.wrap ((cs.getD j K0).lo + remI .i64 n (szK (cs.getD j K0)))))
def jI : Nat → Int
  | 0 => -1
  | j + 1 => j
theorem jI_dec (j : Nat) (h : j ≤ most) : IntKind.i64.wrap ((j : Int) - 1) = jI j := by
  cases j with
  | zero => rfl
  | succ j => simp only [jI]; rw [wrap_small (by omega) (by unfold most at h; omega)]; omega
abbrev w49 (c : C) (s : Nat × Int × List Int) (x : List (Nat × PE gam)) : PSt gam := ⟨[(1, xi s.2.1), (2, .loc 0 0), (5, .val (.own 0)), (6, xi (jI s.1))] ++ x, [xC c], [.list true true 3 s.2.2]⟩
def g49 (c : C) (s : Nat × Int × List Int) : (Nat × Int × List Int) ⊕ (Int × List Int) := match s with
  | (0, n, out) => .inr (n, out)
  | (j + 1, n, out) => .inl (j, quoI .i64 n (szK (c.cs.getD j K0)), out.set j (IntKind.i64.wrap ((c.cs.getD j K0).lo + remI .i64 n (szK (c.cs.getD j K0)))))
def nthN (cs : List K) : Nat → Int → Int
  | 0, n => n
  | j + 1, n => nthN cs j (quoI .i64 n (szK (cs.getD j K0)))
theorem g49_it (c : C) : ∀ (j : Nat) (n : Int) (out : List Int), itF (g49 c) (j + 1) (j, n, out) = some (nthN c.cs j n, nthL c.cs j n out)
  | 0, n, out => rfl
  | j + 1, n, out => by
    rw [itF]
    simp only [g49]
    exact g49_it c j _ _
def z49 (c : C) (r : Int × List Int) : Ex × PSt gam := (.exit 0, w49 c (0, r.1, r.2) [(16, xl false)])
theorem l49 {n : Nat} (hO : Ok n oc17) (c : C) (hl : c.cs.length ≤ most) (hz : ∀ k ∈ c.cs, szK k ≠ 0) (v : Int) (out : List Int) (ho : out.length = c.cs.length) : Lp n 49 0 (w49 c (c.cs.length, v, out) []) (z49 c (nthN c.cs c.cs.length v, nthL c.cs c.cs.length v out)).1 (z49 c (nthN c.cs c.cs.length v, nthL c.cs c.cs.length v out)).2 := by
  refine whileE (X := X0) (P := Tryz.prog) (T := T) (st := fun s => w49 c s []) (g := g49 c) (out := z49 c) (fun s => s.1 ≤ c.cs.length ∧ s.2.2.length = c.cs.length) (g49_it c c.cs.length v out) (by kernel_rfl) (by show _ ≤ 2 ^ 24; unfold most at hl; omega) ⟨Nat.le_refl _, ho⟩ (fun s s1 hi hs => ?_) (fun s m r hi ih => ?_)
  · obtain ⟨j, n, out⟩ := s
    cases j with
    | zero => cases hs
    | succ j => cases hs; exact ⟨by simp only at hi ⊢; omega, by simp only [List.length_set]; exact hi.2⟩
  · obtain ⟨j, n, out⟩ := s
    cases j with
    | zero => exact round hX hO (by kernel_rfl) (.b (rfl : false = false) (.ou nofun))
    | succ j =>
      have h2 := ih _ rfl
      have hj : j < c.cs.length := by simp only at hi; omega
      have hj2 : j < out.length := by have := hi.2; simp only at this; omega
      have hne : szK (c.cs.getD j K0) ≠ 0 := hz _ (by rw [List.getD_eq_getElem?_getD, List.getElem?_eq_getElem hj]; exact List.getElem_mem hj)
      simp only [w49, ← jI_dec j (show j ≤ most by omega)] at h2
      exact round hX hO (by kernel_rfl) (.b (show decide ((j : Int) ≥ 0) = true by simp) (.o (inR_nat hj) (.o (inR_nat hj) (.o (inR_nat hj) (.o hne (.o (inR_nat hj2) (.o hne (.nx h2))))))))
noncomputable def oc49 : Orc gam := orcF 49 (a2 cA iA) isA (fun p => nthL p.1.cs p.1.cs.length p.2 (List.replicate p.1.cs.length 0)) (fun p => [p.1.cs.length ≤ most, ∀ k ∈ p.1.cs, szK k ≠ 0]) oc17
theorem gc49 : Gd oc49 := gc17.add fun n hO p hp => by
  have h1 : p.1.cs.length ≤ most := hp _ (.head _)
  have hl := l49 hO p.1 h1 (hp _ (.tail _ (.head _))) p.2 (List.replicate p.1.cs.length 0) (by simp)
  unfold w49 at hl
  rw [show jI (p.1.cs.length, p.2, List.replicate p.1.cs.length (0 : Int)).1 = IntKind.i64.wrap (((List.replicate ((p.1.cs.length : Nat) : Int).toNat (0 : Int)).length : Int) - 1) by simp only [Int.toNat_natCast, List.length_replicate]; exact (jI_dec _ h1).symm] at hl
  exact fn_is hX hO (by kernel_rfl) (.o (rfl : ((p.1.cs.length : Nat) : Int) = ((p.1.cs.length : Nat) : Int)) (.o (Int.natCast_nonneg p.1.cs.length) (.o (show ((p.1.cs.length : Nat) : Int) ≤ (most : Int) by omega) (.w hl .rr))))
end Go.Proofs.YtfhiejgoemcelaaGreat
namespace Go.Proofs.YtfhiejgoemcelaaGreat
open Go Tw Pv
abbrev w30 (c : C) (i : Int) (s : List B) (x : List (Nat × PE gam)) : PSt gam := ⟨[(1, .loc 0 0), (3, .val (.own 0)), (4, xi i)] ++ x, [xC c], [.list true true 38 s]⟩
def g30 (k : Nat) (_ : Unit) (s : List B) : List B ⊕ Empty := .inl (s.set k S_rNone)
def z30 (c : C) (n : Nat) (r : List B ⊕ Empty) : Ex × PSt gam := (.exit 0, w30 c n (getE r) [(15, xl false)])
theorem l30 {m : Nat} (hO : Ok m oc49) (c : C) (n : Nat) (hn : n ≤ most) (s : List B) (hs : s.length = n) : Lp m 30 0 (w30 c 0 s []) (z30 c n (runL g30 (List.replicate n ()) 0 s)).1 (z30 c n (runL g30 (List.replicate n ()) 0 s)).2 := by
  have hl : (List.replicate n ()).length = n := List.length_replicate ..
  have := eachE (X := X0) (P := Tryz.prog) (T := T) (call := ApN m) (L := LL) (f := 30) (rnd := false) (nt := ntP Tryz.prog 30) (B := 0) (b := bodyP Tryz.prog 30 0) (l := List.replicate n ()) (st := fun i s => w30 c i s []) (g := g30) (out := z30 c n) (s0 := s) (w := w30 c 0 s []) () (fun _ s => s.length = n) (by kernel_rfl) (by rw [hl]; exact hn) LLm hs
    (fun k s j hk hi ih => round hX hO (by kernel_rfl) (.b (show decide ((k : Int) < (s.length : Int)) = true by rw [hi]; rw [hl] at hk; simp; exact hk) (.o (show inR k s.length by rw [hi]; rw [hl] at hk; exact inR_nat hk) (.goG [] (ih (s.set k S_rNone) (by rw [List.length_set]; exact hi))))))
    (fun s hi => by
      rw [hl]
      exact round hX hO (by kernel_rfl) (.b (show decide ((n : Int) < (s.length : Int)) = false by rw [hi]; simp) .ex))
  exact this
def gTk (k : Nat) (v : V) (s : List B) : List B ⊕ Empty := .inl (s.set k (S_rTake (s.getD k B0) v))
def takeAll (s : List B) (vs : List V) : List B := getE (runL gTk vs 0 s)
abbrev w30k (c : C) (n : Int) (vs : List V) (i : Int) (s : List B) (x : List (Nat × PE gam)) : PSt gam := ⟨[(1, .loc 0 0), (3, .val (.own 0)), (5, xi n), (6, xL 78 vs), (7, xi i)] ++ x, [xC c], [.list true true 38 s]⟩
def zTk (c : C) (n : Int) (vs : List V) (r : List B ⊕ Empty) : Ex × PSt gam := (.exit 4, w30k c n vs vs.length (getE r) [(36, xl false)])
theorem l30k {m : Nat} (hO : Ok m oc49) (c : C) (n : Int) (vs : List V) (hv : vs.length ≤ most) (s : List B) (hs : s.length = vs.length) : Lp m 30 2 (w30k c n vs 0 s []) (zTk c n vs (runL gTk vs 0 s)).1 (zTk c n vs (runL gTk vs 0 s)).2 :=
  eachE (st := fun i s => w30k c n vs i s []) V0 (fun _ s => s.length = vs.length) (by kernel_rfl) hv LLm hs
    (fun k s j hk hi ih => round hX hO (by kernel_rfl) (.b (show decide ((k : Int) < (s.length : Int)) = true by rw [hi]; simp; exact hk) (.o (show inR k s.length by rw [hi]; exact inR_nat hk) (.o (inR_nat hk) (.o (show inR k s.length by rw [hi]; exact inR_nat hk) (.goG [] (ih (s.set k (S_rTake (s.getD k B0) (vs.getD k V0))) (by rw [List.length_set]; exact hi))))))))
    (fun s hi => round hX hO (by kernel_rfl) (.b (show decide ((vs.length : Int) < (s.length : Int)) = false by rw [hi]; simp) .ex))
abbrev nthW (c : C) (n : Int) : List Int := nthL c.cs c.cs.length n (List.replicate c.cs.length 0)
abbrev w30n (c : C) (i : Int) (s : List B) (x : List (Nat × PE gam)) : PSt gam := ⟨[(1, .loc 0 0), (3, .val (.own 0)), (5, xi i)] ++ x, [xC c], [.list true true 38 s]⟩
def g30n (c : C) (k : Nat) (_ : Unit) (s : List B) : List B ⊕ Empty := .inl (takeAll s (S_rAll c (nthW c k)))
def z30n (c : C) (n : Nat) (r : List B ⊕ Empty) : Ex × PSt gam := (.exit 2, w30n c n (getE r) [(25, xl false)])
theorem rAll_len (c : C) (w : List Int) : (S_rAll c w).length = c.os.length := by
  have : ∀ (os : List O) (i : Nat) (l : List V), (bld (fun l _ o => [S_rCell l w o]) os i l).length = l.length + os.length := by
    intro os
    induction os with
    | nil => intro i l; simp [bld]
    | cons o os ih => intro i l; simp only [bld]; rw [ih]; simp; omega
  have h := this c.os 0 []
  simpa [S_rAll] using h
theorem gTk_len : ∀ (vs : List V) (k : Nat) (s : List B), (getE (runL gTk vs k s)).length = s.length
  | [], _, _ => rfl
  | v :: vs, k, s => by simp only [runL, gTk]; rw [gTk_len vs]; simp
theorem l30n {m : Nat} (hO : Ok m oc49) (c : C) (n : Nat) (hn : n ≤ most) (hM : S_rMany c = n) (hcs : c.cs.length ≤ most) (hos : c.os.length ≤ most) (hz : ∀ k ∈ c.cs, szK k ≠ 0) (hA : ∀ k : Nat, k < n → AllOk c (nthW c k)) (s : List B) (hs : s.length = c.os.length) : Lp m 30 1 (w30n c 0 s []) (z30n c n (runL (g30n c) (List.replicate n ()) 0 s)).1 (z30n c n (runL (g30n c) (List.replicate n ()) 0 s)).2 := by
  have hl : (List.replicate n ()).length = n := List.length_replicate ..
  have := eachE (X := X0) (P := Tryz.prog) (T := T) (call := ApN m) (L := LL) (f := 30) (rnd := false) (nt := ntP Tryz.prog 30) (B := 0) (b := bodyP Tryz.prog 30 1) (l := List.replicate n ()) (st := fun i s => w30n c i s []) (g := g30n c) (out := z30n c n) (s0 := s) (w := w30n c 0 s []) () (fun _ s => s.length = c.os.length) (by kernel_rfl) (by rw [hl]; exact hn) LLm hs
    (fun k s j hk hi ih => by
      rw [hl] at hk
      have hr := rAll_len c (nthW c k)
      have h2 := l30k hO c k (S_rAll c (nthW c k)) (by rw [hr]; exact hos) s (by rw [hr, hi])
      have h3 := ih (takeAll s (S_rAll c (nthW c k))) (by unfold takeAll; rw [gTk_len]; exact hi)
      exact round hX hO (by kernel_rfl) (.o hcs (.b (show decide ((k : Int) < S_rMany c) = true by rw [hM]; simp; exact hk) (.o hcs (.o hz (.o (hA k hk) (.w h2 (.goG [] h3))))))))
    (fun s hi => by
      rw [hl]
      exact round hX hO (by kernel_rfl) (.o hcs (.b (show decide ((n : Int) < S_rMany c) = false by rw [hM]; simp) .ex)))
  exact this
def S_rTightN (c : C) (n : Nat) : List B := getE (runL (g30n c) (List.replicate n ()) 0 (getE (runL g30 (List.replicate c.os.length ()) 0 (List.replicate c.os.length B0))))
noncomputable def oc30 : Orc gam := orcF 30 (a1 cA) bsA (fun p => S_rTightN p (S_rMany p).toNat) (fun p => [p.os.length ≤ most, p.cs.length ≤ most, 0 ≤ S_rMany p, S_rMany p ≤ 2001, ∀ k ∈ p.cs, szK k ≠ 0, ∀ k : Nat, (k : Int) < S_rMany p → AllOk p (nthW p k)]) oc49
theorem g30_len : ∀ (us : List Unit) (k : Nat) (s : List B), (getE (runL g30 us k s)).length = s.length
  | [], _, _ => rfl
  | v :: vs, k, s => by simp only [runL, g30]; rw [g30_len vs]; simp
theorem gc30 : Gd oc30 := gc49.add fun n hO p hp => by
  have h1 : p.os.length ≤ most := hp _ (.head _)
  have h2 : p.cs.length ≤ most := hp _ (.tail _ (.head _))
  have h3 : 0 ≤ S_rMany p := hp _ (.tail _ (.tail _ (.head _)))
  have h4 : S_rMany p ≤ 2001 := hp _ (.tail _ (.tail _ (.tail _ (.head _))))
  have h5 : ∀ k ∈ p.cs, szK k ≠ 0 := hp _ (.tail _ (.tail _ (.tail _ (.tail _ (.head _)))))
  have h6 : ∀ k : Nat, (k : Int) < S_rMany p → AllOk p (nthW p k) := hp _ (.tail _ (.tail _ (.tail _ (.tail _ (.tail _ (.head _))))))
  have q1 := l30 hO p p.os.length h1 (List.replicate p.os.length B0) (by simp)
  have q2 := l30n hO p (S_rMany p).toNat (by unfold most; omega) (by omega) h2 h1 h5 (fun k hk => h6 k (by omega)) (getE (runL g30 (List.replicate p.os.length ()) 0 (List.replicate p.os.length B0))) (by rw [g30_len]; simp)
  exact fn_is hX hO (by kernel_rfl) (.o (rfl : ((p.os.length : Nat) : Int) = ((p.os.length : Nat) : Int)) (.o (Int.natCast_nonneg p.os.length) (.o (show ((p.os.length : Nat) : Int) ≤ (most : Int) by omega) (.w q1 (.w q2 .rr)))))
end Go.Proofs.YtfhiejgoemcelaaGreat
namespace Go.Proofs.YtfhiejgoemcelaaGreat
open Go Tw
def bv (x : Int) : BitVec 8 := BitVec.ofInt 8 x
theorem bv_nat (v : BitVec 8) : bv ((v.toNat : Nat) : Int) = v := by
  unfold bv
  rw [BitVec.ofInt_natCast]
  exact BitVec.ofNat_toNat 8 v ▸ by simp
theorem wrap_bv (v : BitVec 8) : IntKind.u8.wrap ((v.toNat : Nat) : Int) = ((v.toNat : Nat) : Int) := by
  have := v.isLt
  simp only [IntKind.wrap, IntKind.signed, IntKind.bits, Bool.false_and, Bool.false_eq_true, if_false]
  omega
theorem or8_bv (x y : Int) : orI .u8 x y = (((bv x ||| bv y).toNat : Nat) : Int) := wrap_bv _
theorem bv_good {f : Int} (h0 : 0 ≤ f) (h1 : f ≤ 255) : f = (((bv f).toNat : Nat) : Int) := by
  unfold bv
  simp only [BitVec.toNat_ofInt]
  omega
theorem or8_0 {f : Int} (h0 : 0 ≤ f) (h1 : f ≤ 255) : orI .u8 0 f = f := by
  rw [or8_bv, show bv 0 = 0#8 from rfl, BitVec.zero_or]; exact (bv_good h0 h1).symm
theorem or8_comm (x y : Int) : orI .u8 x y = orI .u8 y x := by rw [or8_bv, or8_bv, BitVec.or_comm]
theorem or8_00 (x y : Int) : orI .u8 (orI .u8 0 x) y = orI .u8 x y := by
  simp only [or8_bv, bv_nat, show bv 0 = 0#8 from rfl, BitVec.zero_or]
def Can (r : B) : Prop := r.lo ≤ r.hi ∨ r.lo = 1 ∧ r.hi = 0
structure Good (r : B) : Prop where
  num : -9999 ≤ r.lo ∧ r.lo ≤ r.hi ∧ r.hi ≤ 9999 ∨ r.lo = 1 ∧ r.hi = 0
  f0 : 0 ≤ r.f
  f1 : r.f ≤ 15
theorem hull_eq {b x : B} (hb : Can b) (hx : Can x) : S_hull b x true = S_rHull b x := by
  obtain ⟨bl, bh, bf⟩ := b
  obtain ⟨xl, xh, xf⟩ := x
  simp only [Can] at hb hx
  simp only [S_hull, S_rHull, S_with, ors, Bool.not_true, Bool.false_eq_true, if_false, Bool.not_eq_true', decide_eq_false_iff_not, or8_00]
  split
  · rename_i h
    split
    · simp only [B.mk.injEq, and_true]; omega
    · rfl
  · split
    · rw [or8_comm]
    · rfl
theorem Can.none {f : Int} : Can ⟨1, 0, f⟩ := .inr ⟨rfl, rfl⟩
theorem Can.pt {k f : Int} : Can ⟨k, k, f⟩ := .inl (Int.le_refl k)
theorem Can.hull {b x : B} (hb : Can b) (hx : Can x) : Can (S_rHull b x) := by
  obtain ⟨bl, bh, bf⟩ := b
  obtain ⟨xl, xh, xf⟩ := x
  simp only [Can] at hb hx ⊢
  simp only [S_rHull, Bool.not_eq_true', decide_eq_false_iff_not, minI, maxI]
  split
  · exact hx
  · split
    · exact hb
    · left; simp only; repeat' split
      all_goals omega
theorem Can.with {b : B} (hb : Can b) (k : Int) : Can (S_rWith b k) := hb.hull .pt
theorem hull_with {b : B} (hb : Can b) (k : Int) : S_hull b ⟨k, k, 0⟩ true = S_rWith b k := hull_eq hb .pt
end Go.Proofs.YtfhiejgoemcelaaGreat
namespace Go.Proofs.YtfhiejgoemcelaaGreat
open Go Tw
def IsHull (r : B) (l : List Int) : Prop := r.f = 0 ∧ ((l = [] ∧ r.lo = 1 ∧ r.hi = 0) ∨ (r.lo ∈ l ∧ r.hi ∈ l ∧ ∀ x ∈ l, r.lo ≤ x ∧ x ≤ r.hi))
theorem IsHull.le {r : B} {l : List Int} (h : IsHull r l) (hl : l ≠ []) : r.lo ≤ r.hi := by
  rcases h.2 with h | h
  · exact absurd h.1 hl
  · exact (h.2.2 _ h.1).2
end Go.Proofs.YtfhiejgoemcelaaGreat
namespace Go.Proofs.YtfhiejgoemcelaaGreat
open Go Tw
def KGood (k : K) : Prop := -9999 ≤ k.lo ∧ k.lo ≤ k.hi ∧ k.hi ≤ 9999
structure OGood (o : O) (nc : Nat) : Prop where
  one : o.code = 1 → -9999 ≤ o.n ∧ o.n ≤ 9999
  two : o.code = 2 → 1 ≤ o.n ∧ o.n ≤ 4
  three : o.code = 3 → 0 ≤ o.n ∧ o.n < nc
theorem wrap_u8 {z : Int} (h0 : 0 ≤ z) (h1 : z < 256) : IntKind.u8.wrap z = z := by
  simp only [IntKind.wrap, IntKind.signed, IntKind.bits, Bool.false_and, Bool.false_eq_true, if_false]
  exact Int.emod_eq_of_lt h0 h1
theorem bit_range {n : Int} (h0 : 1 ≤ n) (h1 : n ≤ 4) : 0 ≤ S_bit (IntKind.u8.wrap n) ∧ S_bit (IntKind.u8.wrap n) ≤ 15 := by
  have : n = 1 ∨ n = 2 ∨ n = 3 ∨ n = 4 := by omega
  rcases this with rfl | rfl | rfl | rfl <;> decide
end Go.Proofs.YtfhiejgoemcelaaGreat
namespace Go.Proofs.YtfhiejgoemcelaaGreat
open Go Tw
theorem within1_eq (x lo hi : Int) : (!S_within1 x lo hi) = S_rIn x lo hi := by
  unfold S_within1 S_rIn
  by_cases h1 : x < lo <;> by_cases h2 : x > hi <;> simp [h1, h2] <;> omega
theorem within_eq (l : List Int) (lo hi : Int) : S_within l lo hi = l.all (fun x => S_rIn x lo hi) := by
  unfold S_within
  induction l with
  | nil => rfl
  | cons a l ih => simp only [List.any_cons, List.all_cons, Bool.not_or, ih, within1_eq]
theorem rIn_0 (x : Int) : S_rIn x 0 0 = (x == 0) := by
  unfold S_rIn
  rw [Bool.eq_iff_iff]
  by_cases h1 : x ≥ 0
  · simp only [h1, decide_true, if_true, decide_eq_true_eq, beq_iff_eq]; omega
  · simp only [h1, decide_false, Bool.false_eq_true, if_false, beq_iff_eq, false_iff]; omega
theorem number_eq (c : C) (o : O) (h1 : 1 ≤ o.code) (h2 : o.code ≤ 17) : S_isNumber c o = S_rIn o.n (S_rOperands o.code c.cs.length).2.1 (S_rOperands o.code c.cs.length).2.2 := by
  have : o.code = 1 ∨ o.code = 2 ∨ o.code = 3 ∨ o.code = 4 ∨ o.code = 5 ∨ o.code = 6 ∨ (7 ≤ o.code ∧ o.code ≤ 16) ∨ o.code = 17 := by omega
  unfold S_isNumber S_rOperands
  rcases this with h | h | h | h | h | h | h | h
  · simp [h, within_eq]
  · simp [h, within_eq]
  · simp [h, within_eq]
  · simp [h, within_eq]
  · simp [h, rIn_0]
  · simp [h, rIn_0]
  · have e1 : ¬ o.code = 1 := by omega
    have e2 : ¬ o.code = 2 := by omega
    have e3 : ¬ o.code = 3 := by omega
    have e4 : ¬ o.code = 4 := by omega
    have e5 : ¬ o.code = 5 := by omega
    have e6 : ¬ o.code = 6 := by omega
    simp [e1, e2, e3, e4, e5, e6, h.1, h.2, rIn_0]
  · simp [h, rIn_0]
def opnd (num m : Int) (j : Nat) (x : Int) : Bool := if (j : Int) < m then S_rIn x 0 (IntKind.i64.wrap (num - 1)) else x == 0
theorem step_opnd {num m x : Int} {j : Nat} : isL (F_rIsOp num m j x ()) = opnd num m j x := by
  unfold F_rIsOp opnd
  by_cases h : (j : Int) < m
  · have n : ¬ ((j : Int) ≥ m) := by omega
    cases h2 : S_rIn x 0 (IntKind.i64.wrap (num - 1)) <;> simp [h, n, isL]
  · have n : ((j : Int) ≥ m) := by omega
    by_cases h2 : x = 0 <;> simp [h, n, h2, isL, bne]
theorem isL_cons {α ρ : Type} {F : Nat → α → Unit → Unit ⊕ ρ} (a : α) (l : List α) (i : Nat) : isL (runL F (a :: l) i ()) = (isL (F i a ()) && isL (runL F l (i + 1) ())) := by
  simp only [runL]
  cases F i a () with
  | inl s => simp [isL]
  | inr r => simp [isL]
theorem isL_all {α ρ : Type} {F : Nat → α → Unit → Unit ⊕ ρ} : ∀ (l : List α) (i : Nat), isL (runL F l i ()) = true ↔ ∀ k x, l[k]? = some x → isL (F (i + k) x ()) = true
  | [], i => by simp [runL, isL]
  | a :: l, i => by
    rw [isL_cons, Bool.and_eq_true, isL_all l (i + 1)]
    constructor
    · rintro ⟨h1, h2⟩ k x hk
      cases k with
      | zero => simp only [List.getElem?_cons_zero, Option.some.injEq] at hk; subst hk; exact h1
      | succ k => simp only [List.getElem?_cons_succ] at hk; have := h2 k x hk; rwa [show i + 1 + k = i + (k + 1) by omega] at this
    · intro h
      refine ⟨h 0 a rfl, fun k x hk => ?_⟩
      have := h (k + 1) x (by simpa using hk)
      rwa [show i + (k + 1) = i + 1 + k by omega] at this
theorem rIsOp_eq (o : O) (i nc : Int) : S_rIsOp o i nc = (S_rIn o.n (S_rOperands o.code nc).2.1 (S_rOperands o.code nc).2.2 && (opnd i (S_rOperands o.code nc).1 0 o.a && (opnd i (S_rOperands o.code nc).1 1 o.b && opnd i (S_rOperands o.code nc).1 2 o.c))) := by
  unfold S_rIsOp
  have e : isL (runL (F_rIsOp i ((S_rOperands o.code nc).1)) (([o.a, o.b, o.c] : List Int)) 0 ()) = (opnd i (S_rOperands o.code nc).1 0 o.a && (opnd i (S_rOperands o.code nc).1 1 o.b && opnd i (S_rOperands o.code nc).1 2 o.c)) := by
    rw [isL_cons, isL_cons, isL_cons, step_opnd, step_opnd, step_opnd]
    simp [runL, isL]
  rw [e]
  cases S_rIn o.n (S_rOperands o.code nc).2.1 (S_rOperands o.code nc).2.2
  · simp
  · cases (opnd i (S_rOperands o.code nc).1 0 o.a && (opnd i (S_rOperands o.code nc).1 1 o.b && opnd i (S_rOperands o.code nc).1 2 o.c))
    · simp
    · simp
theorem operands_many (code nc : Int) (h1 : 1 ≤ code) (h2 : code ≤ 17) : (S_rOperands code nc).1 = S_arity code := by
  have : code = 1 ∨ code = 2 ∨ code = 3 ∨ code = 4 ∨ code = 5 ∨ code = 6 ∨ (7 ≤ code ∧ code ≤ 16) ∨ code = 17 := by omega
  unfold S_rOperands S_arity
  rcases this with h | h | h | h | h | h | h | h
  · simp [h]
  · simp [h]
  · simp [h]
  · simp [h]
  · simp [h]
  · simp [h]
  · have e1 : ¬ code = 1 := by omega
    have e2 : ¬ code = 2 := by omega
    have e3 : ¬ code = 3 := by omega
    have e4 : ¬ code = 4 := by omega
    have e5 : ¬ code = 5 := by omega
    have e6 : ¬ code = 6 := by omega
    have e7 : ¬ code ≤ 4 := by omega
    have e8 : ¬ code ≤ 6 := by omega
    simp [e1, e2, e3, e4, e5, e6, e7, e8, h.1, h.2]
  · simp [h]
theorem isOp_eq (c : C) (i : Int) (o : O) : S_isOp c i o = S_rIsOp o i c.cs.length := by
  rw [rIsOp_eq]
  unfold S_isOp
  by_cases h1 : o.code < 1
  · have : S_rOperands o.code c.cs.length = (-1, 0, -1) := by
      unfold S_rOperands
      have e1 : ¬ o.code = 1 := by omega
      have e2 : ¬ o.code = 2 := by omega
      have e3 : ¬ o.code = 3 := by omega
      have e4 : ¬ o.code = 4 := by omega
      have e5 : ¬ o.code = 5 := by omega
      have e6 : ¬ o.code = 6 := by omega
      have e7 : ¬ 7 ≤ o.code := by omega
      have e8 : ¬ o.code = 17 := by omega
      simp [e1, e2, e3, e4, e5, e6, e7, e8]
    rw [this]
    have : S_rIn o.n 0 (-1) = false := by
      unfold S_rIn; by_cases h : o.n ≥ 0 <;> simp [h] <;> omega
    simp [h1, this]
  · by_cases h2 : o.code > 17
    · have : S_rOperands o.code c.cs.length = (-1, 0, -1) := by
        unfold S_rOperands
        have e1 : ¬ o.code = 1 := by omega
        have e2 : ¬ o.code = 2 := by omega
        have e3 : ¬ o.code = 3 := by omega
        have e4 : ¬ o.code = 4 := by omega
        have e5 : ¬ o.code = 5 := by omega
        have e6 : ¬ o.code = 6 := by omega
        have e7 : 7 ≤ o.code := by omega
        have e8 : ¬ o.code = 17 := by omega
        have e9 : ¬ o.code ≤ 16 := by omega
        simp [e1, e2, e3, e4, e5, e6, e7, e8, e9]
      rw [this]
      have : S_rIn o.n 0 (-1) = false := by
        unfold S_rIn; by_cases h : o.n ≥ 0 <;> simp [h] <;> omega
      simp [h1, h2, this]
    · rw [if_neg (by simpa using h1), if_neg (by simpa using h2)]
      unfold S_isOpA
      rw [number_eq c o (by omega) (by omega), operands_many o.code _ (by omega) (by omega)]
      cases S_rIn o.n (S_rOperands o.code c.cs.length).2.1 (S_rOperands o.code c.cs.length).2.2
      · simp
      · simp only [within_eq, Bool.not_true, Bool.false_eq_true, if_false, Bool.true_and]
        rcases arity_cases o.code (by omega) (by omega) with ⟨_, h⟩ | ⟨_, _, h⟩ | ⟨_, _, h⟩ | ⟨_, h⟩ <;> rw [h]
        · simp [opnd, rIn_0, Bool.and_assoc]
        · simp only [show (1 : Int).toNat = 1 from rfl, List.take, List.drop, List.all_cons, List.all_nil, opnd, rIn_0]
          cases S_rIn o.a 0 (IntKind.i64.wrap (i - 1)) <;> simp
        · simp only [show (2 : Int).toNat = 2 from rfl, List.take, List.drop, List.all_cons, List.all_nil, opnd, rIn_0]
          cases S_rIn o.a 0 (IntKind.i64.wrap (i - 1)) <;> cases S_rIn o.b 0 (IntKind.i64.wrap (i - 1)) <;> simp
        · simp only [show (3 : Int).toNat = 3 from rfl, List.take, List.drop, List.all_cons, List.all_nil, opnd]
          cases S_rIn o.a 0 (IntKind.i64.wrap (i - 1)) <;> cases S_rIn o.b 0 (IntKind.i64.wrap (i - 1)) <;> simp
theorem noChoice_eq (i : Nat) (x : K) : S_isNoChoice x = !isL (F_rCheckK i x ()) := by
  unfold S_isNoChoice F_rCheckK
  simp only [within_eq, List.all_cons, List.all_nil, Bool.and_true]
  by_cases h1 : -9999 ≤ x.lo ∧ x.lo ≤ x.hi
  · have a1 : S_rIn x.lo (-9999) x.hi = true := by unfold S_rIn; simp [h1.1, h1.2]
    by_cases h2 : x.hi ≤ 9999
    · have w1 : IntKind.i64.wrap (x.hi - x.lo) = x.hi - x.lo := wrap_small (by omega) (by omega)
      have w2 : IntKind.i64.wrap (x.hi - x.lo + 1) = x.hi - x.lo + 1 := wrap_small (by omega) (by omega)
      have a2 : S_rIn x.lo (-9999) 9999 = true := by unfold S_rIn; simp [h1.1]; omega
      have a3 : S_rIn x.hi (-9999) 9999 = true := by unfold S_rIn; simp [h2]; omega
      have n : ¬ x.hi > 9999 := by omega
      rw [w1, w2]
      simp only [a1, a2, a3, n, Bool.and_self, Bool.not_true, Bool.false_eq_true, if_false, decide_false]
      by_cases h3 : x.hi - x.lo ≥ 12
      · have : S_rIn (x.hi - x.lo + 1) 1 12 = false := by unfold S_rIn; simp; omega
        simp [h3, this, isL]
      · have : S_rIn (x.hi - x.lo + 1) 1 12 = true := by
          unfold S_rIn; rw [if_pos (by simp; omega)]; simp; omega
        simp [h3, this, isL]
    · have a3 : S_rIn x.hi (-9999) 9999 = false := by unfold S_rIn; simp [h2]
      have n : x.hi > 9999 := by omega
      simp [a1, a3, n, isL]
  · have a1 : S_rIn x.lo (-9999) x.hi = false := by
      unfold S_rIn
      by_cases h : x.lo ≥ -9999
      · simp [h]; omega
      · simp [h]
    have e : isL (if (!S_rIn x.lo (-9999) x.hi) = true then Sum.inr (0, i, x, ()) else if decide (x.hi > 9999) = true then Sum.inr (1, i, x, ()) else if decide (IntKind.i64.wrap (x.hi - x.lo) ≥ 12) = true then Sum.inr (2, i, x, ()) else (.inl () : Unit ⊕ (Nat × Nat × K × Unit))) = false := by simp [a1, isL]
    rw [e]
    by_cases hA : S_rIn x.lo (-9999) 9999 = true ∧ S_rIn x.hi (-9999) 9999 = true
    · have b1 : -9999 ≤ x.lo ∧ x.lo ≤ 9999 := by
        have := hA.1; unfold S_rIn at this; split at this
        · rename_i h; simp at h this; omega
        · cases this
      have b2 : -9999 ≤ x.hi ∧ x.hi ≤ 9999 := by
        have := hA.2; unfold S_rIn at this; split at this
        · rename_i h; simp at h this; omega
        · cases this
      have w1 : IntKind.i64.wrap (x.hi - x.lo) = x.hi - x.lo := wrap_small (by omega) (by omega)
      have w2 : IntKind.i64.wrap (x.hi - x.lo + 1) = x.hi - x.lo + 1 := wrap_small (by omega) (by omega)
      have : S_rIn (x.hi - x.lo + 1) 1 12 = false := by
        unfold S_rIn; rw [if_neg (by simp; omega)]
      rw [w1, w2]
      simp [hA.1, hA.2, this]
    · have : (S_rIn x.lo (-9999) 9999 && S_rIn x.hi (-9999) 9999) = false := by
        cases ha : S_rIn x.lo (-9999) 9999 <;> cases hb : S_rIn x.hi (-9999) 9999 <;> simp_all
      simp [this]
theorem any_isL {α ρ : Type} {F : Nat → α → Unit → Unit ⊕ ρ} {g : α → Bool} (h : ∀ i x, g x = !isL (F i x ())) : ∀ (l : List α) (i : Nat), l.any g = !isL (runL F l i ())
  | [], _ => by simp [runL, isL]
  | a :: l, i => by rw [isL_cons, List.any_cons, any_isL h l (i + 1), h i a, Bool.not_and]
theorem isL_cong {α ρ ρ' : Type} {F : Nat → α → Unit → Unit ⊕ ρ} {G : Nat → α → Unit → Unit ⊕ ρ'} (h : ∀ i x, isL (F i x ()) = isL (G i x ())) : ∀ (l : List α) (i : Nat), isL (runL F l i ()) = isL (runL G l i ())
  | [], _ => rfl
  | a :: l, i => by rw [isL_cons, isL_cons, isL_cong h l (i + 1), h i a]
theorem roots_eq (c : C) : ∀ (l : List Int) (i : Nat), S_within l 0 (IntKind.i64.wrap (((c.os.length : Nat) : Int) - 1)) = isL (runL (F_rCheckR c) l i ())
  | [], i => by simp [within_eq, runL, isL]
  | a :: l, i => by
    have := roots_eq c l (i + 1)
    rw [isL_cons, ← this, within_eq, within_eq, List.all_cons]
    congr 1
    unfold F_rCheckR
    cases S_rIn a 0 (IntKind.i64.wrap (((c.os.length : Nat) : Int) - 1)) <;> simp [isL]
theorem check11_eq (c : C) : S_rCheck11 c = S_Check c := by
  unfold S_rCheck11 S_Check
  by_cases h1 : ((c.cs.length : Nat) : Int) > 6
  · simp [h1]
  · by_cases h2 : ((c.os.length : Nat) : Int) > 3000
    · simp [h1, h2]
    · by_cases h3 : ((c.rs.length : Nat) : Int) > 3000
      · simp [h1, h2, h3]
      · simp only [h1, h2, h3, decide_false, Bool.false_eq_true, if_false]
        rw [any_isL (F := F_rCheckK) noChoice_eq c.cs 0, roots_eq c c.rs 0]
        have e : isL (runL (F_Check c) c.os 0 ()) = isL (runL (F_rCheckO c) c.os 0 ()) := by
          apply isL_cong
          intro i x
          unfold F_Check F_rCheckO
          rw [isOp_eq]
        rw [e]
        cases isL (runL F_rCheckK c.cs 0 ())
        · simp
        · cases isL (runL (F_rCheckO c) c.os 0 ()) <;> cases isL (runL (F_rCheckR c) c.rs 0 ()) <;> rfl
theorem check_eq (c : C) : S_rCheck c = S_check c := by
  unfold S_rCheck S_check
  rw [check11_eq, any_isL (F := F_rCheckP) (g := fun o => S_check1 o) (fun i x => by
    unfold S_check1 F_rCheckP
    cases (x.code == 4) <;> rfl) c.os 0]
  cases isL (runL F_rCheckP c.os 0 ()) <;> simp
theorem core_ok {c : C} (h : ((S_check c) != 0) = false) : (∀ k ∈ c.cs, KGood k) ∧ ∀ (i : Nat) (o : O), c.os[i]? = some o → RuleOk o i c.cs.length ∧ OGood o c.cs.length := by
  have hk := check_ok h
  refine ⟨fun k hk' => ?_, fun i o ho => ⟨(hk.2.1 i o ho).1, ?_⟩⟩
  · have := Check_cs hk.1 k hk'
    exact ⟨this.1, this.2.1, this.2.2.1⟩
  · have hi : i < 4000 := by
      have : i < c.os.length := by
        rcases Nat.lt_or_ge i c.os.length with h | h
        · exact h
        · rw [List.getElem?_eq_none h] at ho; cases ho
      have := hk.2.2.2.1
      omega
    have h2 := (isOp_ok hi (by have := hk.2.2.1; omega) (hk.2.1 i o ho).2).2.2.1
    have hr := (hk.2.1 i o ho).1
    refine ⟨fun e => ?_, fun e => ?_, fun e => hr.ch e⟩
    · unfold S_isNumber at h2
      rw [if_pos (by simpa using e), within_eq] at h2
      simp only [List.all_cons, List.all_nil, Bool.and_true, S_rIn] at h2
      split at h2
      · rename_i h; simp at h h2; omega
      · cases h2
    · unfold S_isNumber at h2
      rw [if_neg (by simp [e]), if_pos (by simpa using e), within_eq] at h2
      simp only [List.all_cons, List.all_nil, Bool.and_true, S_rIn] at h2
      split at h2
      · rename_i h; simp at h h2; omega
      · cases h2
theorem same_refl (l : List B) : S_same l l = true := by
  unfold S_same
  rw [if_neg (by simp)]
  have : isL (runL (F_same l) l 0 ()) = true := by
    rw [isL_all]
    intro k x hk
    unfold F_same
    rw [Nat.zero_add, List.getD_eq_getElem?_getD, Int.toNat_natCast, hk]
    simp [isL]
  rw [this]; rfl
end Go.Proofs.YtfhiejgoemcelaaGreat
namespace Go.Proofs.YtfhiejgoemcelaaGreat
open Go Tw Pv
structure VGood (v : V) : Prop where
  f0 : 0 ≤ v.f
  f1 : v.f ≤ 4
  n : v.f = 0 → -9999 ≤ v.n ∧ v.n ≤ 9999
  z : v.f ≠ 0 → v.n = 0
theorem withinV1 (k : Int) : S_withinV [k] (-9999) 9999 = (decide (-9999 ≤ k) && decide (k ≤ 9999)) := by
  simp only [S_withinV, S_within1V, List.any_cons, List.any_nil, Bool.or_false]
  by_cases h : k < -9999
  · simp [h]; omega
  · by_cases h2 : k > 9999 <;> simp [h, h2] <;> omega
theorem isCell_good {v : V} (h : VGood v) : S_isCell v = true := by
  obtain ⟨f, n⟩ := v
  have h0 := h.f0; have h1 := h.f1; have h2 := h.n; have h3 := h.z
  simp only at h0 h1 h2 h3
  unfold S_isCell
  simp only [withinV1, beq_iff_eq]
  by_cases hf : f = 0
  · subst hf; simp; exact h2 rfl
  · simp [hf, h1, h3 hf]
theorem are2 {a b : V} (ha : VGood a) (hb : VGood b) : (!(S_areCells [a, b])) = false := by simp [S_areCells, S_are1, isCell_good ha, isCell_good hb]
theorem are3 {a b c : V} (ha : VGood a) (hb : VGood b) (hc : VGood c) : (!(S_areCells [a, b, c])) = false := by simp [S_areCells, S_are1, isCell_good ha, isCell_good hb, isCell_good hc]
theorem first1 (a : V) : S_firstFault [a] = if a.f ≠ 0 then (a, true) else (⟨0, 0⟩, false) := by
  by_cases h : a.f = 0
  · simp [S_firstFault, S_IndexFuncV, runL, F_indexV, S_first1, isL, getR, h]
  · simp [S_firstFault, S_IndexFuncV, runL, F_indexV, S_first1, isL, getR, h]
theorem first2 (a b : V) : S_firstFault [a, b] = if a.f ≠ 0 then (a, true) else if b.f ≠ 0 then (b, true) else (⟨0, 0⟩, false) := by
  by_cases h : a.f = 0
  · by_cases h2 : b.f = 0
    · simp [S_firstFault, S_IndexFuncV, runL, F_indexV, S_first1, isL, getR, h, h2]
    · simp [S_firstFault, S_IndexFuncV, runL, F_indexV, S_first1, isL, getR, h, h2]
  · simp [S_firstFault, S_IndexFuncV, runL, F_indexV, S_first1, isL, getR, h]
theorem make_eq (k : Int) : S_vMake k = S_rMake k := by
  unfold S_vMake S_rMake S_vfault S_rFaultV S_rNumber
  rw [withinV1]
  by_cases h : k < -9999
  · rw [if_pos (by simp; omega), if_pos (by simpa using h)]
  · rw [if_neg (c := decide (k < -9999) = true) (by simpa using h)]
    by_cases h2 : k > 9999
    · rw [if_pos (by simp; omega), if_pos (by simpa using h2)]
    · rw [if_neg (by simp; omega), if_neg (by simpa using h2)]
theorem make_good (k : Int) : VGood (S_rMake k) := by
  unfold S_rMake S_rFaultV S_rNumber
  split
  · exact ⟨by decide, by decide, by simp, by simp⟩
  · split
    · exact ⟨by decide, by decide, by simp, by simp⟩
    · rename_i h1 h2
      simp at h1 h2
      exact ⟨by simp, by simp, fun _ => by simp only; omega, by simp⟩
theorem vtruth_eq (b : Bool) : S_vtruth b = S_rBool b := by cases b <;> rfl
theorem bool_good (b : Bool) : VGood (S_rBool b) := by cases b <;> exact ⟨by decide, by decide, fun _ => by decide, by decide⟩
theorem quot_rest {a b : Int} (hb : b ≠ 0) : a.tmod b = 0 ∨ True → (S_quot a b = (if a.tmod b ≠ 0 ∧ (decide (a.tmod b < 0) != decide (b < 0)) = true then a.tdiv b - 1 else a.tdiv b)) ∧ a - b * S_quot a b = (if a.tmod b ≠ 0 ∧ (decide (a.tmod b < 0) != decide (b < 0)) = true then a.tmod b + b else a.tmod b) ∧ (a - b * S_quot a b).natAbs < b.natAbs := by
  intro _
  have hq := @Int.tdiv_eq_ediv a b
  have hr := @Int.tmod_eq_emod a b
  have hm := Int.mul_ediv_add_emod a b
  have h0 := Int.emod_nonneg a hb
  have h1 := Int.emod_lt a hb
  have hd : b ∣ a ↔ a % b = 0 := ⟨Int.emod_eq_zero_of_dvd, Int.dvd_of_emod_eq_zero⟩
  generalize a.tdiv b = T at *
  generalize a.tmod b = R at *
  generalize hE : a / b = e at *
  generalize hM : a % b = m at *
  unfold S_quot
  have cT : 0 ≤ a ∨ b ∣ a → T = e ∧ R = m := fun h => by rw [if_pos h] at hq hr; omega
  rcases Int.lt_or_gt_of_ne hb with hb0 | hb0
  · rw [if_pos hb0]
    have hsg : b.sign = -1 := Int.sign_eq_neg_one_of_neg hb0
    have hna : (b.natAbs : Int) = -b := by omega
    have cF : ¬ (0 ≤ a ∨ b ∣ a) → T = e - 1 ∧ R = m + b := fun h => by rw [if_neg h] at hq hr; omega
    rw [hna] at h1
    by_cases hm0 : m = 0
    · have u := (Int.ediv_emod_unique (a := -a) (b := -b) (r := 0) (q := e) (by omega)).2 ⟨by rw [Int.neg_mul]; omega, by omega, by omega⟩
      rw [u.1]
      obtain ⟨c1, c2⟩ := cT (.inr (hd.2 hm0))
      subst c1; subst c2
      rw [if_neg (by simp [hm0]), if_neg (by simp [hm0])]
      omega
    · have hnd : ¬ b ∣ a := fun h => hm0 (hd.1 h)
      have e1 : b * (e - 1) = b * e - b := by rw [Int.mul_sub, Int.mul_one]
      have u := (Int.ediv_emod_unique (a := -a) (b := -b) (r := -b - m) (q := e - 1) (by omega)).2 ⟨by rw [Int.neg_mul, e1]; omega, by omega, by omega⟩
      rw [u.1, e1]
      by_cases ha : 0 ≤ a
      · obtain ⟨c1, c2⟩ := cT (.inl ha)
        subst c1; subst c2
        have hc : (R ≠ 0 ∧ (decide (R < 0) != decide (b < 0)) = true) := ⟨hm0, by simp [hb0]; omega⟩
        rw [if_pos hc, if_pos hc]
        omega
      · obtain ⟨c1, c2⟩ := cF (by simp [ha, hnd])
        have hc : ¬ (R ≠ 0 ∧ (decide (R < 0) != decide (b < 0)) = true) := fun h => by
          have := h.2; simp [hb0] at this; omega
        rw [if_neg hc, if_neg hc]
        omega
  · rw [if_neg (by omega), hE]
    have hsg : b.sign = 1 := Int.sign_eq_one_of_pos hb0
    have hna : (b.natAbs : Int) = b := by omega
    have cF : ¬ (0 ≤ a ∨ b ∣ a) → T = e + 1 ∧ R = m - b := fun h => by rw [if_neg h] at hq hr; omega
    rw [hna] at h1
    by_cases hc0 : 0 ≤ a ∨ b ∣ a
    · obtain ⟨c1, c2⟩ := cT hc0
      have hc : ¬ (R ≠ 0 ∧ (decide (R < 0) != decide (b < 0)) = true) := fun h => by
        have := h.2; simp at this; omega
      rw [if_neg hc, if_neg hc]
      omega
    · obtain ⟨c1, c2⟩ := cF hc0
      have hm0 : m ≠ 0 := fun h => hc0 (.inr (hd.2 h))
      have hc : (R ≠ 0 ∧ (decide (R < 0) != decide (b < 0)) = true) := ⟨by omega, by simp; omega⟩
      rw [if_pos hc, if_pos hc]
      omega
end Go.Proofs.YtfhiejgoemcelaaGreat
namespace Go.Proofs.YtfhiejgoemcelaaGreat
open Go Tw Pv
theorem wr {z : Int} (h1 : -1000000000 ≤ z) (h2 : z ≤ 1000000000) : IntKind.i64.wrap z = z := wrap_small (by omega) (by omega)
theorem vquot_eq {a b : Int} (a0 : -9999 ≤ a) (a1 : a ≤ 9999) (b0 : -9999 ≤ b) (b1 : b ≤ 9999) (hb : b ≠ 0) : S_vquotient a b = (S_quot a b, a - b * S_quot a b) ∧ (-9999 ≤ S_quot a b ∧ S_quot a b ≤ 9999) ∧ (-9999 ≤ a - b * S_quot a b ∧ a - b * S_quot a b ≤ 9999) ∧ IntKind.i64.wrap (a - IntKind.i64.wrap (b * S_quot a b)) = a - b * S_quot a b := by
  obtain ⟨h1, h2, h3⟩ := quot_rest (a := a) hb (.inr trivial)
  have hna : (a.tdiv b).natAbs ≤ a.natAbs := by rw [Int.natAbs_tdiv]; exact Nat.div_le_self _ _
  have hq : quoI .i64 a b = a.tdiv b := wr (by omega) (by omega)
  have hp : (b * S_quot a b).natAbs = b.natAbs * (S_quot a b).natAbs := Int.natAbs_mul _ _
  have hQ : (S_quot a b).natAbs ≤ 9999 := by
    rcases Nat.lt_or_ge 9999 (S_quot a b).natAbs with h | h
    · have := Nat.mul_le_mul_left b.natAbs (show 10000 ≤ (S_quot a b).natAbs from h)
      generalize b * S_quot a b = p at *
      generalize b.natAbs * (S_quot a b).natAbs = r at *
      omega
    · exact h
  refine ⟨?_, by omega, by generalize b * S_quot a b = p at *; omega, ?_⟩
  · unfold S_vquotient remI
    rw [hq]
    have hw1 : IntKind.i64.wrap (a.tdiv b - 1) = a.tdiv b - 1 := wr (by omega) (by omega)
    have hrb : (a.tmod b).natAbs ≤ 9999 := by rw [Int.natAbs_tmod]; exact Nat.le_trans (Nat.mod_le _ _) (by omega)
    have hw2 : IntKind.i64.wrap (a.tmod b + b) = a.tmod b + b := wr (by omega) (by omega)
    rw [h2, h1, hw1, hw2]
    by_cases c1 : a.tmod b = 0
    · rw [if_neg (by simp [c1]), if_neg (by simp [c1]), if_neg (by simp [c1])]
    · rw [if_pos (by simpa using c1)]
      by_cases c2 : (decide (a.tmod b < 0) != decide (b < 0)) = true
      · rw [if_pos c2, if_pos ⟨c1, c2⟩, if_pos ⟨c1, c2⟩]
      · rw [if_neg c2, if_neg (fun h => c2 h.2), if_neg (fun h => c2 h.2)]
  · rw [wr (z := b * S_quot a b) (by generalize b * S_quot a b = p at *; omega) (by generalize b * S_quot a b = p at *; omega)]
    exact wr (by generalize b * S_quot a b = p at *; omega) (by generalize b * S_quot a b = p at *; omega)
theorem rMake_in {k : Int} (h1 : -9999 ≤ k) (h2 : k ≤ 9999) : S_rMake k = S_rNumber k := by
  unfold S_rMake
  rw [if_neg (by simp; omega), if_neg (by simp; omega)]
theorem op2_of {g : Int → Int → V} {a b : V} (ha : VGood a) (hb : VGood b) : (if (!(S_areCells [a, b])) = true then ((⟨0, 0⟩ : V), (2 : Int)) else if (S_firstFault [a, b]).2 = true then ((S_firstFault [a, b]).1, 0) else (g a.n b.n, 0)).1 = if a.f ≠ 0 then a else if b.f ≠ 0 then b else g a.n b.n := by
  rw [are2 ha hb, first2]
  by_cases h : a.f = 0
  · by_cases h2 : b.f = 0 <;> simp [h, h2]
  · simp [h]
theorem op1_of {g : Int → V} {a : V} (ha : VGood a) : (if (!(S_isCell a)) = true then ((⟨0, 0⟩ : V), (2 : Int)) else if (S_firstFault [a]).2 = true then ((S_firstFault [a]).1, 0) else (g a.n, 0)).1 = if a.f ≠ 0 then a else g a.n := by
  rw [isCell_good ha, first1]
  by_cases h : a.f = 0 <;> simp [h]
theorem fpos {a : V} (ha : VGood a) (h : a.f ≠ 0) : decide (a.f > 0) = true := by have := ha.f0; simp; omega
theorem num_good {k : Int} (h1 : -9999 ≤ k) (h2 : k ≤ 9999) : VGood (S_rNumber k) := ⟨by simp [S_rNumber], by simp [S_rNumber], fun _ => ⟨h1, h2⟩, fun h => by simp [S_rNumber] at h⟩
theorem div_eq {a b : V} (ha : VGood a) (hb : VGood b) (h : a.f = 0) (h2 : b.f = 0) : S_divided1 S_duo4 a.n b.n = (if (b.n == 0) = true then S_rFaultV 1 else S_rNumber (S_quot a.n b.n)) ∧ VGood (if (b.n == 0) = true then S_rFaultV 1 else S_rNumber (S_quot a.n b.n)) := by
  have a9 := ha.n h; have b9 := hb.n h2
  unfold S_divided1 S_duo4
  by_cases hz : b.n = 0
  · rw [if_pos (by simpa using hz), if_pos (by simpa using hz)]; exact ⟨rfl, ⟨by decide, by decide, by decide, by decide⟩⟩
  · obtain ⟨q1, q2, _, _⟩ := vquot_eq a9.1 a9.2 b9.1 b9.2 hz
    rw [if_neg (by simpa using hz), if_neg (by simpa using hz), q1, make_eq, rMake_in q2.1 q2.2]
    exact ⟨rfl, num_good q2.1 q2.2⟩
theorem mod_eq {a b : V} (ha : VGood a) (hb : VGood b) (h : a.f = 0) (h2 : b.f = 0) : S_divided1 S_duo5 a.n b.n = (if (b.n == 0) = true then S_rFaultV 1 else S_rNumber (IntKind.i64.wrap (a.n - IntKind.i64.wrap (b.n * S_quot a.n b.n)))) ∧ VGood (if (b.n == 0) = true then S_rFaultV 1 else S_rNumber (IntKind.i64.wrap (a.n - IntKind.i64.wrap (b.n * S_quot a.n b.n)))) := by
  have a9 := ha.n h; have b9 := hb.n h2
  unfold S_divided1 S_duo5
  by_cases hz : b.n = 0
  · rw [if_pos (by simpa using hz), if_pos (by simpa using hz)]; exact ⟨rfl, ⟨by decide, by decide, by decide, by decide⟩⟩
  · obtain ⟨q1, _, q3, q4⟩ := vquot_eq a9.1 a9.2 b9.1 b9.2 hz
    rw [if_neg (by simpa using hz), if_neg (by simpa using hz), q1, make_eq, q4, rMake_in q3.1 q3.2]
    exact ⟨rfl, num_good q3.1 q3.2⟩
theorem cmp_eq (a b : Int) : S_compared1 S_duo6 a b = S_rBool (a == b) ∧ S_compared1 S_duo7 a b = S_rBool (decide (a < b)) ∧ S_compared1 S_duo8 a b = S_rBool (decide (a ≤ b)) := by
  unfold S_compared1 S_duo6 S_duo7 S_duo8 S_Compare
  simp only [vtruth_eq]
  rcases Int.lt_trichotomy a b with h | h | h
  · have : (a == b) = false := by simp; omega
    simp [h, this, Int.le_of_lt h]
  · subst h; simp
  · have h1 : ¬ a < b := by omega
    have h2 : (a == b) = false := by simp; omega
    have h3 : ¬ a ≤ b := by omega
    simp [h, h1, h2, h3]
theorem op2_eq {k : Int} (h7 : 7 ≤ k ∧ k ≤ 16) {a b : V} (ha : VGood a) (hb : VGood b) : S_vOp2 k a b = S_rOp2 k a b ∧ VGood (S_rOp2 k a b) := by
  have e15 : a.f = 0 → S_vOp2 15 a b = S_rOp2 15 a b ∧ VGood (S_rOp2 15 a b) := fun h => by
    rw [show S_vOp2 15 a b = (S_vOp2_15 a b).1 from rfl, show S_rOp2 15 a b = (if (a.n == 0) = true then a else b) by simp [S_rOp2, h]]
    unfold S_vOp2_15 S_vChoose; rw [are3 ha hb (make_eq 0 ▸ make_good 0)]
    by_cases hz : a.n = 0
    · have : a = ⟨0, 0⟩ := by obtain ⟨f, n⟩ := a; simp only at h hz; rw [h, hz]
      subst this
      exact ⟨rfl, ha⟩
    · simp [h, hz]; exact hb
  have e16 : a.f = 0 → S_vOp2 16 a b = S_rOp2 16 a b ∧ VGood (S_rOp2 16 a b) := fun h => by
    rw [show S_vOp2 16 a b = (S_vOp2_16 a b).1 from rfl, show S_rOp2 16 a b = (if (a.n != 0) = true then S_rNumber 1 else b) by simp [S_rOp2, h]]
    unfold S_vOp2_16 S_vChoose; rw [are3 ha (make_eq 1 ▸ make_good 1) hb]
    by_cases hz : a.n = 0
    · simp [h, hz]; exact hb
    · simp [h, hz]; exact ⟨rfl, num_good (by decide) (by decide)⟩
  by_cases h : a.f = 0
  · by_cases h2 : b.f = 0
    · have d := div_eq ha hb h h2
      have m := mod_eq ha hb h h2
      have c := cmp_eq a.n b.n
      rcases nine h7 with rfl | rfl | rfl | rfl | rfl | rfl | rfl | rfl | rfl | rfl
      · rw [show S_vOp2 7 a b = (S_vOp2_7 a b).1 from rfl, show S_rOp2 7 a b = S_rMake (IntKind.i64.wrap (a.n + b.n)) by simp [S_rOp2, h, h2]]
        unfold S_vOp2_7; rw [op2_of (g := fun x y => S_duo1 x y) ha hb]; simp only [h, h2, ne_eq, not_true, if_false, S_duo1, make_eq]; exact ⟨trivial, make_good _⟩
      · rw [show S_vOp2 8 a b = (S_vOp2_8 a b).1 from rfl, show S_rOp2 8 a b = S_rMake (IntKind.i64.wrap (a.n - b.n)) by simp [S_rOp2, h, h2]]
        unfold S_vOp2_8; rw [op2_of (g := fun x y => S_duo2 x y) ha hb]; simp only [h, h2, ne_eq, not_true, if_false, S_duo2, make_eq]; exact ⟨trivial, make_good _⟩
      · rw [show S_vOp2 9 a b = (S_vOp2_9 a b).1 from rfl, show S_rOp2 9 a b = S_rMake (IntKind.i64.wrap (a.n * b.n)) by simp [S_rOp2, h, h2]]
        unfold S_vOp2_9; rw [op2_of (g := fun x y => S_duo3 x y) ha hb]; simp only [h, h2, ne_eq, not_true, if_false, S_duo3, make_eq]; exact ⟨trivial, make_good _⟩
      · rw [show S_vOp2 10 a b = (S_vOp2_10 a b).1 from rfl, show S_rOp2 10 a b = (if (b.n == 0) = true then S_rFaultV 1 else S_rNumber (S_quot a.n b.n)) by simp [S_rOp2, h, h2]]
        unfold S_vOp2_10; rw [op2_of (g := fun x y => S_divided1 S_duo4 x y) ha hb]; simp only [h, h2, ne_eq, not_true, if_false]; exact d
      · rw [show S_vOp2 11 a b = (S_vOp2_11 a b).1 from rfl, show S_rOp2 11 a b = (if (b.n == 0) = true then S_rFaultV 1 else S_rNumber (IntKind.i64.wrap (a.n - IntKind.i64.wrap (b.n * S_quot a.n b.n)))) by simp [S_rOp2, h, h2]]
        unfold S_vOp2_11; rw [op2_of (g := fun x y => S_divided1 S_duo5 x y) ha hb]; simp only [h, h2, ne_eq, not_true, if_false]; exact m
      · rw [show S_vOp2 12 a b = (S_vOp2_12 a b).1 from rfl, show S_rOp2 12 a b = S_rBool (a.n == b.n) by simp [S_rOp2, h, h2]]
        unfold S_vOp2_12; rw [op2_of (g := fun x y => S_compared1 S_duo6 x y) ha hb]; simp only [h, h2, ne_eq, not_true, if_false]; exact ⟨c.1, bool_good _⟩
      · rw [show S_vOp2 13 a b = (S_vOp2_13 a b).1 from rfl, show S_rOp2 13 a b = S_rBool (decide (a.n < b.n)) by simp [S_rOp2, h, h2]]
        unfold S_vOp2_13; rw [op2_of (g := fun x y => S_compared1 S_duo7 x y) ha hb]; simp only [h, h2, ne_eq, not_true, if_false]; exact ⟨c.2.1, bool_good _⟩
      · rw [show S_vOp2 14 a b = (S_vOp2_14 a b).1 from rfl, show S_rOp2 14 a b = S_rBool (decide (a.n ≤ b.n)) by simp [S_rOp2, h, h2]]
        unfold S_vOp2_14; rw [op2_of (g := fun x y => S_compared1 S_duo8 x y) ha hb]; simp only [h, h2, ne_eq, not_true, if_false]; exact ⟨c.2.2, bool_good _⟩
      · exact e15 h
      · exact e16 h
    · rcases nine h7 with rfl | rfl | rfl | rfl | rfl | rfl | rfl | rfl | rfl | rfl
      · rw [show S_vOp2 7 a b = (S_vOp2_7 a b).1 from rfl, show S_rOp2 7 a b = b by simp [S_rOp2, h, fpos hb h2]]
        unfold S_vOp2_7; rw [op2_of (g := fun x y => S_duo1 x y) ha hb]; simp only [h, h2, ne_eq, not_true, not_false_eq_true, if_false, if_true]; exact ⟨trivial, hb⟩
      · rw [show S_vOp2 8 a b = (S_vOp2_8 a b).1 from rfl, show S_rOp2 8 a b = b by simp [S_rOp2, h, fpos hb h2]]
        unfold S_vOp2_8; rw [op2_of (g := fun x y => S_duo2 x y) ha hb]; simp only [h, h2, ne_eq, not_true, not_false_eq_true, if_false, if_true]; exact ⟨trivial, hb⟩
      · rw [show S_vOp2 9 a b = (S_vOp2_9 a b).1 from rfl, show S_rOp2 9 a b = b by simp [S_rOp2, h, fpos hb h2]]
        unfold S_vOp2_9; rw [op2_of (g := fun x y => S_duo3 x y) ha hb]; simp only [h, h2, ne_eq, not_true, not_false_eq_true, if_false, if_true]; exact ⟨trivial, hb⟩
      · rw [show S_vOp2 10 a b = (S_vOp2_10 a b).1 from rfl, show S_rOp2 10 a b = b by simp [S_rOp2, h, fpos hb h2]]
        unfold S_vOp2_10; rw [op2_of (g := fun x y => S_divided1 S_duo4 x y) ha hb]; simp only [h, h2, ne_eq, not_true, not_false_eq_true, if_false, if_true]; exact ⟨trivial, hb⟩
      · rw [show S_vOp2 11 a b = (S_vOp2_11 a b).1 from rfl, show S_rOp2 11 a b = b by simp [S_rOp2, h, fpos hb h2]]
        unfold S_vOp2_11; rw [op2_of (g := fun x y => S_divided1 S_duo5 x y) ha hb]; simp only [h, h2, ne_eq, not_true, not_false_eq_true, if_false, if_true]; exact ⟨trivial, hb⟩
      · rw [show S_vOp2 12 a b = (S_vOp2_12 a b).1 from rfl, show S_rOp2 12 a b = b by simp [S_rOp2, h, fpos hb h2]]
        unfold S_vOp2_12; rw [op2_of (g := fun x y => S_compared1 S_duo6 x y) ha hb]; simp only [h, h2, ne_eq, not_true, not_false_eq_true, if_false, if_true]; exact ⟨trivial, hb⟩
      · rw [show S_vOp2 13 a b = (S_vOp2_13 a b).1 from rfl, show S_rOp2 13 a b = b by simp [S_rOp2, h, fpos hb h2]]
        unfold S_vOp2_13; rw [op2_of (g := fun x y => S_compared1 S_duo7 x y) ha hb]; simp only [h, h2, ne_eq, not_true, not_false_eq_true, if_false, if_true]; exact ⟨trivial, hb⟩
      · rw [show S_vOp2 14 a b = (S_vOp2_14 a b).1 from rfl, show S_rOp2 14 a b = b by simp [S_rOp2, h, fpos hb h2]]
        unfold S_vOp2_14; rw [op2_of (g := fun x y => S_compared1 S_duo8 x y) ha hb]; simp only [h, h2, ne_eq, not_true, not_false_eq_true, if_false, if_true]; exact ⟨trivial, hb⟩
      · exact e15 h
      · exact e16 h
  · rcases nine h7 with rfl | rfl | rfl | rfl | rfl | rfl | rfl | rfl | rfl | rfl
    · rw [show S_vOp2 7 a b = (S_vOp2_7 a b).1 from rfl, show S_rOp2 7 a b = a by simp [S_rOp2, fpos ha h]]
      unfold S_vOp2_7; rw [op2_of (g := fun x y => S_duo1 x y) ha hb]; simp only [h, ne_eq, not_true, not_false_eq_true, if_true]; exact ⟨trivial, ha⟩
    · rw [show S_vOp2 8 a b = (S_vOp2_8 a b).1 from rfl, show S_rOp2 8 a b = a by simp [S_rOp2, fpos ha h]]
      unfold S_vOp2_8; rw [op2_of (g := fun x y => S_duo2 x y) ha hb]; simp only [h, ne_eq, not_true, not_false_eq_true, if_true]; exact ⟨trivial, ha⟩
    · rw [show S_vOp2 9 a b = (S_vOp2_9 a b).1 from rfl, show S_rOp2 9 a b = a by simp [S_rOp2, fpos ha h]]
      unfold S_vOp2_9; rw [op2_of (g := fun x y => S_duo3 x y) ha hb]; simp only [h, ne_eq, not_true, not_false_eq_true, if_true]; exact ⟨trivial, ha⟩
    · rw [show S_vOp2 10 a b = (S_vOp2_10 a b).1 from rfl, show S_rOp2 10 a b = a by simp [S_rOp2, fpos ha h]]
      unfold S_vOp2_10; rw [op2_of (g := fun x y => S_divided1 S_duo4 x y) ha hb]; simp only [h, ne_eq, not_true, not_false_eq_true, if_true]; exact ⟨trivial, ha⟩
    · rw [show S_vOp2 11 a b = (S_vOp2_11 a b).1 from rfl, show S_rOp2 11 a b = a by simp [S_rOp2, fpos ha h]]
      unfold S_vOp2_11; rw [op2_of (g := fun x y => S_divided1 S_duo5 x y) ha hb]; simp only [h, ne_eq, not_true, not_false_eq_true, if_true]; exact ⟨trivial, ha⟩
    · rw [show S_vOp2 12 a b = (S_vOp2_12 a b).1 from rfl, show S_rOp2 12 a b = a by simp [S_rOp2, fpos ha h]]
      unfold S_vOp2_12; rw [op2_of (g := fun x y => S_compared1 S_duo6 x y) ha hb]; simp only [h, ne_eq, not_true, not_false_eq_true, if_true]; exact ⟨trivial, ha⟩
    · rw [show S_vOp2 13 a b = (S_vOp2_13 a b).1 from rfl, show S_rOp2 13 a b = a by simp [S_rOp2, fpos ha h]]
      unfold S_vOp2_13; rw [op2_of (g := fun x y => S_compared1 S_duo7 x y) ha hb]; simp only [h, ne_eq, not_true, not_false_eq_true, if_true]; exact ⟨trivial, ha⟩
    · rw [show S_vOp2 14 a b = (S_vOp2_14 a b).1 from rfl, show S_rOp2 14 a b = a by simp [S_rOp2, fpos ha h]]
      unfold S_vOp2_14; rw [op2_of (g := fun x y => S_compared1 S_duo8 x y) ha hb]; simp only [h, ne_eq, not_true, not_false_eq_true, if_true]; exact ⟨trivial, ha⟩
    · rw [show S_vOp2 15 a b = (S_vOp2_15 a b).1 from rfl, show S_rOp2 15 a b = a by simp [S_rOp2, fpos ha h]]
      unfold S_vOp2_15 S_vChoose; rw [are3 ha hb (make_eq 0 ▸ make_good 0)]; simp [h]; exact ha
    · rw [show S_vOp2 16 a b = (S_vOp2_16 a b).1 from rfl, show S_rOp2 16 a b = a by simp [S_rOp2, fpos ha h]]
      unfold S_vOp2_16 S_vChoose; rw [are3 ha (make_eq 1 ▸ make_good 1) hb]; simp [h]; exact ha
end Go.Proofs.YtfhiejgoemcelaaGreat
namespace Go.Proofs.YtfhiejgoemcelaaGreat
open Go Tw Pv
theorem good_V0 : VGood V0 := ⟨by decide, by decide, fun _ => by decide, fun h => by simp at h⟩
theorem vgood_at {l : List V} (hl : ∀ v ∈ l, VGood v) (k : Nat) : VGood (l.getD k V0) := by
  rw [List.getD_eq_getElem?_getD]
  cases h : l[k]? with
  | none => exact good_V0
  | some v => exact hl v (List.mem_of_getElem? h)
theorem op1_eq {k : Int} (hk : k = 5 ∨ k = 6) {a : V} (ha : VGood a) : S_vOp1 k a = S_rOp1 k a ∧ VGood (S_rOp1 k a) := by
  by_cases h : a.f = 0
  · have a9 := ha.n h
    have hw : IntKind.i64.wrap (0 - a.n) = 0 - a.n := wr (by omega) (by omega)
    rcases hk with rfl | rfl
    · rw [show S_vOp1 5 a = (S_vOp1_5 a).1 from rfl, show S_rOp1 5 a = S_rNumber (IntKind.i64.wrap (0 - a.n)) by simp [S_rOp1, h]]
      unfold S_vOp1_5; rw [op1_of (g := fun x => S_solo1 x) ha]
      simp only [h, ne_eq, not_true, if_false, S_solo1, make_eq]
      rw [hw, rMake_in (by omega) (by omega)]
      exact ⟨rfl, num_good (by omega) (by omega)⟩
    · rw [show S_vOp1 6 a = (S_vOp1_6 a).1 from rfl, show S_rOp1 6 a = S_rBool (a.n == 0) by simp [S_rOp1, h]]
      unfold S_vOp1_6; rw [op1_of (g := fun x => S_solo2 x) ha]
      simp only [h, ne_eq, not_true, if_false, S_solo2, vtruth_eq]
      exact ⟨trivial, bool_good _⟩
  · rcases hk with rfl | rfl
    · rw [show S_vOp1 5 a = (S_vOp1_5 a).1 from rfl, show S_rOp1 5 a = a by simp [S_rOp1, fpos ha h]]
      unfold S_vOp1_5; rw [op1_of (g := fun x => S_solo1 x) ha]
      simp only [h, ne_eq, not_false_eq_true, if_true]; exact ⟨trivial, ha⟩
    · rw [show S_vOp1 6 a = (S_vOp1_6 a).1 from rfl, show S_rOp1 6 a = a by simp [S_rOp1, fpos ha h]]
      unfold S_vOp1_6; rw [op1_of (g := fun x => S_solo2 x) ha]
      simp only [h, ne_eq, not_false_eq_true, if_true]; exact ⟨trivial, ha⟩
theorem choose_rv {a b c : V} (ha : VGood a) (hb : VGood b) (hc : VGood c) : (S_vChoose a b c).1 = S_rChoose a b c ∧ VGood (S_rChoose a b c) := by
  unfold S_vChoose S_rChoose
  rw [are3 ha hb hc]
  by_cases h : a.f = 0
  · by_cases hz : a.n = 0
    · simp [h, hz]; exact hc
    · simp [h, hz]; exact hb
  · have := fpos ha h
    simp only [decide_eq_true_eq] at this
    simp [h, this]; exact ha
theorem cellR_eq {o : O} {l : List V} {w : List Int} (hk : RuleOk o l.length w.length) (ho : OGood o w.length) (hw : ∀ x ∈ w, -9999 ≤ x ∧ x ≤ 9999) (hl : ∀ v ∈ l, VGood v) : S_cell l w o = S_rCell l w o ∧ VGood (S_rCell l w o) := by
  have g1 := hk.lo; have g2 := hk.hi; have g3 := hk.no; have g4 := hk.ch; have q1 := ho.one; have q2 := ho.two
  obtain ⟨k, a, b, c, n⟩ := o
  simp only at g1 g2 g3 g4 q1 q2
  have va := vgood_at hl a.toNat; have vb := vgood_at hl b.toNat; have vc := vgood_at hl c.toNat
  have : k = 1 ∨ k = 2 ∨ k = 3 ∨ k = 5 ∨ k = 6 ∨ (7 ≤ k ∧ k ≤ 16) ∨ k = 17 := by omega
  rcases this with rfl | rfl | rfl | rfl | rfl | h | rfl
  · have h := q1 rfl
    rw [show S_cell l w ⟨1, a, b, c, n⟩ = S_vMake n by simp [S_cell], show S_rCell l w ⟨1, a, b, c, n⟩ = S_rNumber n by simp [S_rCell]]
    rw [make_eq, rMake_in h.1 h.2]; exact ⟨rfl, num_good h.1 h.2⟩
  · have h := q2 rfl
    rw [show S_cell l w ⟨2, a, b, c, n⟩ = ⟨IntKind.u8.wrap n, 0⟩ by simp [S_cell], show S_rCell l w ⟨2, a, b, c, n⟩ = ⟨IntKind.u8.wrap n, 0⟩ by simp [S_rCell, S_rFaultV]]
    rw [wrap_u8 (by omega) (by omega)]
    exact ⟨rfl, ⟨by simp only; omega, h.2, fun h0 => by simp only at h0; omega, fun _ => rfl⟩⟩
  · have h := g4 rfl
    have hx : w.getD n.toNat 0 ∈ w := by
      rw [List.getD_eq_getElem?_getD, List.getElem?_eq_getElem (by omega)]; exact List.getElem_mem _
    have h9 := hw _ hx
    rw [show S_cell l w ⟨3, a, b, c, n⟩ = S_vMake (w.getD n.toNat 0) by simp [S_cell], show S_rCell l w ⟨3, a, b, c, n⟩ = S_rNumber (w.getD n.toNat 0) by simp [S_rCell]]
    rw [make_eq, rMake_in h9.1 h9.2]; exact ⟨rfl, num_good h9.1 h9.2⟩
  · rw [show S_cell l w ⟨5, a, b, c, n⟩ = S_vOp1 5 (l.getD a.toNat V0) by simp [S_cell], show S_rCell l w ⟨5, a, b, c, n⟩ = S_rOp1 5 (l.getD a.toNat V0) by simp [S_rCell]]; exact op1_eq (.inl rfl) va
  · rw [show S_cell l w ⟨6, a, b, c, n⟩ = S_vOp1 6 (l.getD a.toNat V0) by simp [S_cell], show S_rCell l w ⟨6, a, b, c, n⟩ = S_rOp1 6 (l.getD a.toNat V0) by simp [S_rCell]]; exact op1_eq (.inr rfl) va
  · have e1 : S_cell l w ⟨k, a, b, c, n⟩ = S_vOp2 k (l.getD a.toNat V0) (l.getD b.toNat V0) := by
      rcases nine h with rfl | rfl | rfl | rfl | rfl | rfl | rfl | rfl | rfl | rfl <;> simp [S_cell]
    have e2 : S_rCell l w ⟨k, a, b, c, n⟩ = S_rOp2 k (l.getD a.toNat V0) (l.getD b.toNat V0) := by
      rcases nine h with rfl | rfl | rfl | rfl | rfl | rfl | rfl | rfl | rfl | rfl <;> simp [S_rCell]
    rw [e1, e2]; exact op2_eq h va vb
  · rw [show S_cell l w ⟨17, a, b, c, n⟩ = (S_vChoose (l.getD a.toNat V0) (l.getD b.toNat V0) (l.getD c.toNat V0)).1 by simp [S_cell], show S_rCell l w ⟨17, a, b, c, n⟩ = S_rChoose (l.getD a.toNat V0) (l.getD b.toNat V0) (l.getD c.toNat V0) by simp [S_rCell]]; exact choose_rv va vb vc
theorem allR_eq {c : C} {w : List Int} (hw : ∀ x ∈ w, -9999 ≤ x ∧ x ≤ 9999) : ∀ (os : List O) (i : Nat) (l : List V), (∀ (j : Nat) (o : O), os[j]? = some o → RuleOk o (l.length + j) w.length ∧ OGood o w.length) → (∀ v ∈ l, VGood v) →
    bld (fun l _ o => [S_cell l w o]) os i l = bld (fun l _ o => [S_rCell l w o]) os i l ∧ ∀ v ∈ bld (fun l _ o => [S_rCell l w o]) os i l, VGood v
  | [], i, l, _, hl => ⟨rfl, hl⟩
  | o :: os, i, l, ho, hl => by
    have h0 := ho 0 o rfl
    have hc := cellR_eq h0.1 h0.2 hw hl
    simp only [bld, hc.1]
    exact allR_eq (c := c) hw os (i + 1) (l ++ [S_rCell l w o]) (fun j o' hj => by
      have := ho (j + 1) o' (by simpa using hj)
      rw [List.length_append, List.length_singleton, show l.length + 1 + j = l.length + (j + 1) by omega]; exact this) (fun v hv => by
        rcases List.mem_append.1 hv with h | h
        · exact hl v h
        · rw [List.mem_singleton] at h; subst h; exact hc.2)
end Go.Proofs.YtfhiejgoemcelaaGreat
namespace Go.Proofs.YtfhiejgoemcelaaGreat
open Go Tw Pv
theorem bit_r {f : Int} (h0 : 1 ≤ f) (h1 : f ≤ 4) : 0 ≤ S_bit f ∧ S_bit f ≤ 15 := by
  have := bit_range h0 h1
  rwa [wrap_u8 (by omega) (by omega)] at this
theorem met_eq {b : B} (hb : Can b) {v : V} (hv : VGood v) : met v b = S_rTake b v ∧ Can (S_rTake b v) := by
  unfold met S_rTake
  by_cases h : v.f = 0
  · rw [if_neg (by simp [h]), if_neg (by simp [h])]
    exact ⟨hull_with hb v.n, hb.with v.n⟩
  · have h0 := hv.f0; have h1 := hv.f1
    rw [if_pos (fpos hv h), if_pos (by simpa using h)]
    have hr := bit_r (f := v.f) (by omega) h1
    refine ⟨?_, hb⟩
    simp only [S_hull, S_with, ors, Bool.not_true, Bool.false_eq_true, if_false]
    rw [or8_0 hr.1 (by omega)]
    simp only [Int.reduceLE, decide_false, Bool.not_false, if_true]
    rfl
theorem take_eq : ∀ (vs : List V) (k : Nat) (s : List B), (∀ v ∈ vs, VGood v) → (∀ b ∈ s, Can b) → k + vs.length ≤ s.length → getE (runL gMet vs k s) = getE (runL gTk vs k s) ∧ ∀ b ∈ getE (runL gTk vs k s), Can b
  | [], _, _, _, hs, _ => ⟨rfl, hs⟩
  | v :: vs, k, s, hv, hs, hl => by
    simp only [List.length_cons] at hl
    have hk : k < s.length := by omega
    have hc : Can (s.getD k B0) := by
      rw [List.getD_eq_getElem?_getD, List.getElem?_eq_getElem hk]; exact hs _ (List.getElem_mem hk)
    have hm := met_eq hc (hv v (List.mem_cons_self ..))
    simp only [runL, gMet, gTk, metStep, hm.1]
    refine take_eq vs (k + 1) _ (fun v h => hv v (List.mem_cons_of_mem _ h)) (fun b hb => ?_) (by rw [List.length_set]; omega)
    rcases List.mem_or_eq_of_mem_set hb with h | h
    · exact hs b h
    · rw [h]; exact hm.2
theorem wFr_fold {σ : Type} (f : Int → σ → σ) : ∀ (m : Nat) (x : Int) (s : σ), wFr f x m s = (List.range m).foldl (fun s (i : Nat) => f (x + i) s) s := by
  have key : ∀ (m : Nat) (x : Int) (s : σ), wFr f x (m + 1) s = f (x + m) (wFr f x m s) := by
    intro m
    induction m with
    | zero => intro x s; simp [wFr]
    | succ m ih =>
      intro x s
      have e : ∀ (m : Nat) (x : Int) (s : σ), wFr f x (m + 1) s = wFr f (x + 1) m (f x s) := fun _ _ _ => rfl
      rw [e (m + 1), ih (x + 1), e m x, show x + 1 + (m : Int) = x + ((m + 1 : Nat) : Int) by omega]
  intro m
  induction m with
  | zero => intro x s; rfl
  | succ m ih => intro x s; rw [key, ih, List.range_succ, List.foldl_append]; rfl
def szN (k : K) : Nat := (k.hi - k.lo + 1).toNat
theorem wF_snoc {σ : Type} (Y : σ → List Int → σ) (k : K) : ∀ (ini : List K) (w : List Int) (s : σ), wF Y (ini ++ [k]) w s = wF (fun s v => wFr (fun x s => Y s (v ++ [x])) k.lo (szN k) s) ini w s
  | [], w, s => rfl
  | k0 :: ini, w, s => by
    simp only [List.cons_append, wF]
    congr 1
    funext x s
    exact wF_snoc Y k ini _ s
def nthR : List K → Nat → List Int
  | [], _ => []
  | k :: rs, n => nthR rs (n / szN k) ++ [k.lo + ((n % szN k : Nat) : Int)]
def prodR : List K → Nat
  | [] => 1
  | k :: rs => prodR rs * szN k
theorem fold_two {σ : Type} (F : σ → Nat → σ) (z : Nat) : ∀ (q : Nat) (s : σ), (List.range (q * z)).foldl F s = (List.range q).foldl (fun s i => (List.range z).foldl (fun s r => F s (i * z + r)) s) s
  | 0, s => by simp
  | q + 1, s => by
    rw [Nat.succ_mul, List.range_add, List.foldl_append, fold_two F z q s, List.range_succ, List.foldl_append, List.foldl_map]
    rfl
theorem wF_fold {σ : Type} : ∀ (rs : List K) (_ : ∀ k ∈ rs, 0 < szN k) (Y : σ → List Int → σ) (w : List Int) (s : σ), wF Y rs.reverse w s = (List.range (prodR rs)).foldl (fun s n => Y s (w ++ nthR rs n)) s
  | [], _, Y, w, s => by simp [wF, prodR, nthR]
  | k :: rs, hp, Y, w, s => by
    have hz := hp k (List.mem_cons_self ..)
    rw [List.reverse_cons, wF_snoc, wF_fold rs (fun k h => hp k (List.mem_cons_of_mem _ h))]
    simp only [prodR]
    rw [fold_two]
    congr 1
    funext s q
    rw [wFr_fold]
    have : ∀ (l : List Nat) (s : σ), (∀ r ∈ l, r < szN k) → l.foldl (fun s (i : Nat) => Y s (w ++ nthR rs q ++ [k.lo + (i : Int)])) s = l.foldl (fun s r => Y s (w ++ nthR (k :: rs) (q * szN k + r))) s := by
      intro l
      induction l with
      | nil => intro s _; rfl
      | cons r l ih =>
        intro s hl
        have hr := hl r (List.mem_cons_self ..)
        have e1 : (q * szN k + r) / szN k = q := by rw [Nat.mul_comm, Nat.mul_add_div hz, Nat.div_eq_of_lt hr]; rfl
        have e2 : (q * szN k + r) % szN k = r := by rw [Nat.mul_comm, Nat.mul_add_mod, Nat.mod_eq_of_lt hr]
        simp only [List.foldl_cons]
        rw [show nthR (k :: rs) (q * szN k + r) = nthR rs q ++ [k.lo + (r : Int)] by simp only [nthR, e1, e2], ih _ fun r h => hl r (List.mem_cons_of_mem _ h), List.append_assoc]
    exact this _ _ fun r hr => List.mem_range.1 hr
end Go.Proofs.YtfhiejgoemcelaaGreat
namespace Go.Proofs.YtfhiejgoemcelaaGreat
open Go Tw Pv
structure KOk (k : K) : Prop where
  lo : -9999 ≤ k.lo
  le : k.lo ≤ k.hi
  hi : k.hi ≤ 9999
  sz : k.hi - k.lo + 1 ≤ 12
theorem KOk.n {k : K} (h : KOk k) : szK k = szN k ∧ 0 < szN k ∧ szN k ≤ 12 := by
  have := h.le; have := h.sz; have := h.lo; have := h.hi
  unfold szK szN
  rw [wr (z := k.hi - k.lo) (by omega) (by omega), wr (by omega) (by omega)]
  omega
theorem nthL_app (cs rest : List K) : ∀ (j : Nat) (n : Int) (out tl : List Int), j ≤ cs.length → out.length = cs.length → nthL (cs ++ rest) j n (out ++ tl) = nthL cs j n out ++ tl
  | 0, _, _, _, _, _ => rfl
  | j + 1, n, out, tl, hj, ho => by
    have e : (cs ++ rest).getD j K0 = cs.getD j K0 := by
      rw [List.getD_eq_getElem?_getD, List.getD_eq_getElem?_getD, List.getElem?_append_left (by omega)]
    simp only [nthL, e]
    rw [List.set_append_left _ _ (by omega)]
    exact nthL_app cs rest j _ _ tl (by omega) (by rw [List.length_set]; exact ho)
theorem nthL_len (cs : List K) : ∀ (j : Nat) (n : Int) (out : List Int), (nthL cs j n out).length = out.length
  | 0, _, _ => rfl
  | j + 1, n, out => by simp only [nthL]; rw [nthL_len]; simp
theorem nthL_eq : ∀ (rs : List K) (_ : ∀ k ∈ rs, KOk k) (n : Nat) (_ : n ≤ 1000000), nthL rs.reverse rs.length n (List.replicate rs.length 0) = nthR rs n
  | [], _, _, _ => rfl
  | k :: rs, hk, n, hn => by
    obtain ⟨e1, e2, e3⟩ := (hk k (List.mem_cons_self ..)).n
    have h0 := hk k (List.mem_cons_self ..)
    have l0 := h0.lo; have l1 := h0.le; have l2 := h0.hi
    have hd : (n / szN k : Nat) ≤ n := Nat.div_le_self _ _
    have hm : n % szN k < szN k := Nat.mod_lt _ e2
    rw [List.reverse_cons, List.length_cons]
    have e : (rs.reverse ++ [k]).getD rs.length K0 = k := by
      rw [List.getD_eq_getElem?_getD, List.getElem?_append_right (by simp), List.length_reverse, Nat.sub_self]; rfl
    simp only [nthL, e, e1]
    have q1 : quoI .i64 (n : Int) (szN k : Int) = ((n / szN k : Nat) : Int) := by
      show IntKind.i64.wrap ((n : Int).tdiv (szN k : Int)) = _
      rw [show (n : Int).tdiv (szN k : Int) = ((n / szN k : Nat) : Int) from rfl]
      generalize n / szN k = q at hd
      exact wr (by omega) (by omega)
    have q2 : remI .i64 (n : Int) (szN k : Int) = ((n % szN k : Nat) : Int) := rfl
    rw [q1, q2, wr (z := k.lo + _) (by omega) (by omega)]
    have q3 : (List.replicate (rs.length + 1) (0 : Int)).set rs.length (k.lo + ((n % szN k : Nat) : Int)) = List.replicate rs.length 0 ++ [k.lo + ((n % szN k : Nat) : Int)] := by
      rw [List.replicate_succ', List.set_append_right _ _ (by simp)]
      simp
    rw [q3, nthL_app _ _ _ _ _ _ (by simp) (by simp)]
    simp only [nthR]
    rw [nthL_eq rs (fun k h => hk k (List.mem_cons_of_mem _ h)) _ (by omega)]
theorem nthW_eq (c : C) (hk : ∀ k ∈ c.cs, KOk k) (n : Nat) (hn : n ≤ 1000000) : nthW c n = nthR c.cs.reverse n := by
  have := nthL_eq c.cs.reverse (fun k h => hk k (List.mem_reverse.1 h)) n hn
  rw [List.reverse_reverse, List.length_reverse] at this
  exact this
theorem nthR_len : ∀ (rs : List K) (n : Nat), (nthR rs n).length = rs.length
  | [], _ => rfl
  | k :: rs, n => by simp only [nthR, List.length_append, nthR_len rs, List.length_cons, List.length_nil]
theorem nthR_in : ∀ (rs : List K) (_ : ∀ k ∈ rs, KOk k) (n : Nat), ∀ x ∈ nthR rs n, -9999 ≤ x ∧ x ≤ 9999
  | [], _, _ => by simp [nthR]
  | k :: rs, hk, n => by
    intro x hx
    simp only [nthR, List.mem_append, List.mem_singleton] at hx
    rcases hx with hx | rfl
    · exact nthR_in rs (fun k h => hk k (List.mem_cons_of_mem _ h)) _ x hx
    · have h0 := hk k (List.mem_cons_self ..)
      have := h0.lo; have := h0.le; have := h0.hi
      have hm : n % szN k < szN k := Nat.mod_lt _ h0.n.2.1
      unfold szN at hm ⊢
      omega
def foldP (cs : List K) (s : Nat) : Nat := cs.foldl (fun s k => s * szN k) s
theorem foldP_rev (rs : List K) : foldP rs.reverse 1 = prodR rs := by
  unfold foldP
  rw [List.foldl_reverse]
  induction rs with
  | nil => rfl
  | cons k rs ih => simp only [List.foldr_cons, ih, prodR]
theorem rMany_eq : ∀ (cs : List K) (_ : ∀ k ∈ cs, KOk k) (i a : Nat) (s : Int), s = ((min 2001 a : Nat) : Int) → getE (runL F_rMany cs i s) = ((min 2001 (foldP cs a) : Nat) : Int)
  | [], _, _, _, _, h => h
  | k :: cs, hk, i, a, s, h => by
    obtain ⟨e1, e2, e3⟩ := (hk k (List.mem_cons_self ..)).n
    simp only [runL, F_rMany]
    rw [show foldP (k :: cs) a = foldP cs (a * szN k) from rfl]
    refine rMany_eq cs (fun k h => hk k (List.mem_cons_of_mem _ h)) (i + 1) (a * szN k) _ ?_
    rw [show IntKind.i64.wrap (IntKind.i64.wrap (k.hi - k.lo) + 1) = (szN k : Int) from e1, h]
    have hb : min 2001 a * szN k ≤ 2001 * 12 := Nat.mul_le_mul (Nat.min_le_left _ _) e3
    rw [show ((min 2001 a : Nat) : Int) * (szN k : Int) = ((min 2001 a * szN k : Nat) : Int) by simp, wr (by omega) (by omega)]
    have : min 2001 (min 2001 a * szN k) = min 2001 (a * szN k) := by
      rcases Nat.le_total a 2001 with h1 | h1
      · rw [Nat.min_eq_right h1]
      · rw [Nat.min_eq_left h1]
        have g1 : 2001 * 1 ≤ 2001 * szN k := Nat.mul_le_mul_left _ e2
        have g2 : 2001 * 1 ≤ a * szN k := Nat.mul_le_mul h1 e2
        omega
    rw [← this]
    unfold minI
    split <;> omega
theorem many_eq : ∀ (cs : List K) (_ : ∀ k ∈ cs, KOk k) (s : Nat), s * 12 ^ cs.length ≤ 10000000 → cs.foldl manyStep (s : Int) = (foldP cs s : Nat)
  | [], _, _, _ => rfl
  | k :: cs, hk, s, h => by
    obtain ⟨e1, e2, e3⟩ := (hk k (List.mem_cons_self ..)).n
    simp only [List.foldl_cons]
    rw [show foldP (k :: cs) s = foldP cs (s * szN k) from rfl]
    have hb : s * szN k ≤ s * 12 := Nat.mul_le_mul_left _ e3
    have hp : 1 ≤ 12 ^ cs.length := Nat.one_le_pow _ _ (by decide)
    rw [List.length_cons, Nat.pow_succ, Nat.mul_comm (12 ^ cs.length) 12, ← Nat.mul_assoc] at h
    have hs : s * 12 * 1 ≤ s * 12 * 12 ^ cs.length := Nat.mul_le_mul_left _ hp
    have e : manyStep (s : Int) k = ((s * szN k : Nat) : Int) := by
      unfold manyStep
      rw [show IntKind.i64.wrap (IntKind.i64.wrap (k.hi - k.lo) + 1) = (szN k : Int) from e1, show (s : Int) * (szN k : Int) = ((s * szN k : Nat) : Int) by simp, wr (by omega) (by omega)]
    rw [e]
    exact many_eq cs (fun k h => hk k (List.mem_cons_of_mem _ h)) (s * szN k) (Nat.le_trans (Nat.mul_le_mul_right _ hb) h)
end Go.Proofs.YtfhiejgoemcelaaGreat
namespace Go.Proofs.YtfhiejgoemcelaaGreat
open Go Tw Pv
theorem fold_congr {α σ : Type} {f g : σ → α → σ} (Inv : σ → Prop) : ∀ (l : List α) (s : σ), Inv s → (∀ a ∈ l, ∀ s, Inv s → f s a = g s a ∧ Inv (g s a)) → l.foldl f s = l.foldl g s ∧ Inv (l.foldl g s)
  | [], s, hs, _ => ⟨rfl, hs⟩
  | a :: l, s, hs, h => by
    have h0 := h a (List.mem_cons_self ..) s hs
    simp only [List.foldl_cons, h0.1]
    exact fold_congr Inv l _ h0.2 fun b hb => h b (List.mem_cons_of_mem _ hb)
theorem run30n (c : C) : ∀ (m i : Nat) (s : List B), getE (runL (g30n c) (List.replicate m ()) i s) = (List.range m).foldl (fun s n => takeAll s (S_rAll c (nthW c ((i + n : Nat) : Int)))) s
  | 0, _, _ => rfl
  | m + 1, i, s => by
    rw [List.replicate_succ, List.range_succ_eq_map, List.foldl_cons, List.foldl_map]
    simp only [runL, g30n]
    rw [run30n c m (i + 1)]
    congr 1
    funext s n
    rw [show i + 1 + n = i + Nat.succ n by omega]
theorem run30 : ∀ (n k : Nat), getE (runL g30 (List.replicate n ()) k (List.replicate k S_rNone ++ List.replicate n B0)) = List.replicate (k + n) S_rNone
  | 0, k => by simp [runL, getE]
  | n + 1, k => by
    rw [List.replicate_succ, List.replicate_succ]
    simp only [runL, g30]
    have e : (List.replicate k S_rNone ++ B0 :: List.replicate n B0).set k S_rNone = List.replicate (k + 1) S_rNone ++ List.replicate n B0 := by
      rw [List.set_append_right _ _ (by simp)]
      simp [List.replicate_succ', List.append_assoc]
    rw [e, run30 n (k + 1)]
    congr 1
    omega
theorem core_k {c : C} (hok : ((S_check c) != 0) = false) : ∀ k ∈ c.cs, KOk k := fun k hk => by
  have := Check_cs (check_ok hok).1 k hk
  exact ⟨this.1, this.2.1, this.2.2.1, this.2.2.2⟩
theorem tight_eq {c : C} (hok : ((S_check c) != 0) = false) (hm : S_rMany c ≤ 200) : S_Tight c = (S_rTightN c (S_rMany c).toNat, 0) ∧ 0 ≤ S_rMany c := by
  have hk := core_k hok
  have hcore := core_ok hok
  have h1 : S_rMany c = ((min 2001 (foldP c.cs 1) : Nat) : Int) := rMany_eq c.cs hk 0 1 1 rfl
  have hP : foldP c.cs 1 = prodR c.cs.reverse := by rw [← foldP_rev, List.reverse_reverse]
  have hM : S_rMany c = (prodR c.cs.reverse : Nat) := by rw [h1, hP]; rw [h1, hP] at hm; omega
  have hp : prodR c.cs.reverse ≤ 200 := by omega
  have h6 := (check_ok hok).2.2.1
  have hmany : S_many c.cs = (prodR c.cs.reverse : Nat) := by
    rw [← hP]
    refine many_eq c.cs hk 1 ?_
    have : 12 ^ c.cs.length ≤ 12 ^ 6 := Nat.pow_le_pow_right (by decide) h6
    omega
  refine ⟨?_, by omega⟩
  unfold S_Tight
  rw [if_neg (by rw [hok]; simp), if_neg (by rw [hmany]; simp; omega)]
  congr 1
  unfold S_rTightN
  rw [hM, Int.toNat_natCast, run30n]
  have e0 := run30 c.os.length 0
  simp only [List.replicate_zero, List.nil_append, Nat.zero_add] at e0
  rw [e0]
  unfold S_TightL
  rw [show c.cs = c.cs.reverse.reverse by rw [List.reverse_reverse], wF_fold c.cs.reverse (fun k h => (hk k (List.mem_reverse.1 h)).n.2.1)]
  rw [List.reverse_reverse]
  refine (fold_congr (fun s => (∀ b ∈ s, Can b) ∧ s.length = c.os.length) _ _ ⟨fun b hb => ?_, by simp [none0]⟩ fun n hn s hs => ?_).1
  · rw [List.eq_of_mem_replicate hb]; exact .none
  · have hn := List.mem_range.1 hn
    have ew : nthW c ((0 + n : Nat) : Int) = nthR c.cs.reverse n := by rw [Nat.zero_add]; exact nthW_eq c hk n (by omega)
    have hin := nthR_in c.cs.reverse (fun k h => hk k (List.mem_reverse.1 h)) n
    have hlen : (nthR c.cs.reverse n).length = c.cs.length := by rw [nthR_len, List.length_reverse]
    have ha := allR_eq (c := c) (w := nthR c.cs.reverse n) hin c.os 0 [] (fun j o hj => by
      have := hcore.2 j o hj
      rw [hlen, List.length_nil, Nat.zero_add]; exact this) (by simp)
    have e1 : S_AllL c (nthR c.cs.reverse n) = S_rAll c (nthR c.cs.reverse n) := ha.1
    rw [ew, List.nil_append, e1]
    have hl := rAll_len c (nthR c.cs.reverse n)
    have ht := take_eq (S_rAll c (nthR c.cs.reverse n)) 0 s ha.2 hs.1 (by omega)
    rw [← gMet_all]
    exact ⟨ht.1, ht.2, by unfold takeAll; rw [gTk_len]; exact hs.2⟩
end Go.Proofs.YtfhiejgoemcelaaGreat
namespace Go.Proofs.YtfhiejgoemcelaaGreat
open Go Tw Pv
theorem quot_b {a b : Int} (a0 : -10000 ≤ a) (a1 : a ≤ 10000) (b0 : -10000 ≤ b) (b1 : b ≤ 10000) (hb : b ≠ 0) : (-10000 ≤ S_quot a b ∧ S_quot a b ≤ 10000) ∧ -10000 ≤ IntKind.i64.wrap (a - IntKind.i64.wrap (b * S_quot a b)) ∧ IntKind.i64.wrap (a - IntKind.i64.wrap (b * S_quot a b)) ≤ 10000 := by
  obtain ⟨_, _, h3⟩ := quot_rest (a := a) hb (.inr trivial)
  have hp : (b * S_quot a b).natAbs = b.natAbs * (S_quot a b).natAbs := Int.natAbs_mul _ _
  have hQ : (S_quot a b).natAbs ≤ 10000 := by
    rcases Nat.lt_or_ge 10000 (S_quot a b).natAbs with h | h
    · have := Nat.mul_le_mul_left b.natAbs (show 10001 ≤ (S_quot a b).natAbs from h)
      generalize b * S_quot a b = p at *
      generalize b.natAbs * (S_quot a b).natAbs = r at *
      omega
    · exact h
  refine ⟨by omega, ?_⟩
  generalize b * S_quot a b = p at *
  rw [wr (z := p) (by omega) (by omega), wr (by omega) (by omega)]
  omega
theorem vb_n {k : Int} (h1 : -10000 ≤ k) (h2 : k ≤ 10000) : VB (S_rNumber k) := ⟨h1, h2⟩
theorem vb_make (k : Int) : VB (S_rMake k) := by
  have h := make_good k
  by_cases hf : (S_rMake k).f = 0
  · have := h.n hf; exact ⟨by omega, by omega⟩
  · have := h.z hf; exact ⟨by omega, by omega⟩
theorem vb_bool (b : Bool) : VB (S_rBool b) := by cases b <;> exact ⟨by decide, by decide⟩
theorem vb_f (f : Int) : VB (S_rFaultV f) := ⟨by simp [S_rFaultV], by simp [S_rFaultV]⟩
theorem vb_ite {c : Prop} [Decidable c] {x y : V} (hx : VB x) (hy : VB y) : VB (if c then x else y) := by split <;> assumption
theorem vb_op2 {k : Int} {a b : V} (ha : VB a) (hb : VB b) : VB (S_rOp2 k a b) := by
  unfold S_rOp2
  have h1 := vb_n (k := 1) (by decide) (by decide)
  have hq : ¬ (b.n == 0) = true → VB (S_rNumber (S_quot a.n b.n)) ∧ VB (S_rNumber (IntKind.i64.wrap (a.n - IntKind.i64.wrap (b.n * S_quot a.n b.n)))) := fun h => by
    have hb0 : b.n ≠ 0 := by simpa using h
    obtain ⟨q1, q2⟩ := quot_b ha.1 ha.2 hb.1 hb.2 hb0
    exact ⟨vb_n q1.1 q1.2, vb_n q2.1 q2.2⟩
  have last : VB (if (b.n == 0) = true then S_rFaultV 1 else if (k == 10) = true then S_rNumber (S_quot a.n b.n) else S_rNumber (IntKind.i64.wrap (a.n - IntKind.i64.wrap (b.n * S_quot a.n b.n)))) := by
    by_cases hz : (b.n == 0) = true
    · rw [if_pos hz]; exact vb_f _
    · rw [if_neg hz]; exact vb_ite (hq hz).1 (hq hz).2
  exact vb_ite ha (vb_ite (vb_ite ha (vb_ite (vb_ite h1 hb) hb)) (vb_ite (vb_ite h1 hb) (vb_ite hb (vb_ite (vb_make _) (vb_ite (vb_make _) (vb_ite (vb_make _) (vb_ite (vb_bool _) (vb_ite (vb_bool _) (vb_ite (vb_bool _) last)))))))))
theorem vb_at {l : List V} (hl : ∀ v ∈ l, VB v) (k : Nat) : VB (l.getD k V0) := by
  rw [List.getD_eq_getElem?_getD]
  cases h : l[k]? with
  | none => exact ⟨by decide, by decide⟩
  | some v => exact hl v (List.mem_of_getElem? h)
theorem vb_cell {o : O} {l : List V} {w : List Int} (h1 : o.code = 1 → -9999 ≤ o.n ∧ o.n ≤ 9999) (hw : ∀ x ∈ w, -9999 ≤ x ∧ x ≤ 9999) (hl : ∀ v ∈ l, VB v) : VB (S_rCell l w o) := by
  have va := vb_at hl o.a.toNat; have vb := vb_at hl o.b.toNat; have vc := vb_at hl o.c.toNat
  have hx : VB (S_rNumber (w.getD o.n.toNat 0)) := by
    rw [List.getD_eq_getElem?_getD]
    cases h : w[o.n.toNat]? with
    | none => exact ⟨by decide, by decide⟩
    | some v => have := hw v (List.mem_of_getElem? h); exact vb_n (by simp; omega) (by simp; omega)
  have o1 : ∀ k, VB (S_rOp1 k (l.getD o.a.toNat V0)) := fun k => by
    unfold S_rOp1
    split
    · exact va
    · split
      · have := va.1; have := va.2; rw [wr (by omega) (by omega)]; exact vb_n (by omega) (by omega)
      · exact vb_bool _
  unfold S_rCell
  split
  · rename_i h; have := h1 (by simpa using h); exact vb_n (by omega) (by omega)
  · split
    · exact vb_f _
    · split
      · exact hx
      · split
        · unfold S_rChoose; repeat' split
          all_goals first | exact va | exact vb | exact vc
        · split
          · exact o1 _
          · split
            · exact o1 _
            · exact vb_op2 va vb
theorem allOk {c : C} (hok : ((S_check c) != 0) = false) {n : Nat} (hn : n ≤ 1000000) : AllOk c (nthW c n) := by
  have hk := core_k hok
  have hcore := core_ok hok
  have hlen : (nthW c n).length = c.cs.length := by unfold nthW; rw [nthL_len]; simp
  have hin : ∀ x ∈ nthW c n, -9999 ≤ x ∧ x ≤ 9999 := by rw [nthW_eq c hk n hn]; exact nthR_in c.cs.reverse (fun k h => hk k (List.mem_reverse.1 h)) n
  exact ⟨ok3000 (check_ok hok).2.2.2.1, fun i o h => by rw [hlen]; exact (hcore.2 i o h).1, fun i o l h _ hl => vb_cell ((hcore.2 i o h).2.one) hin hl⟩
theorem thin_small {c : C} (h : S_Thin c = true) : c.cs.length ≤ 8 ∧ c.os.length ≤ 60 ∧ c.rs.length ≤ 60 ∧ (((S_rCheck c) != 0) = false → S_rMany c ≤ 200) := by
  unfold S_Thin at h
  split at h
  · cases h
  · split at h
    · cases h
    · split at h
      · cases h
      · rename_i h1 h2 h3
        simp only [decide_eq_true_eq] at h1 h2 h3
        refine ⟨by omega, by omega, by omega, fun h0 => ?_⟩
        rw [if_neg (by rw [h0]; simp)] at h
        simpa using h
theorem sm60 {k : Nat} (h : k ≤ 60) : k ≤ most := by unfold most; omega
theorem rTightN_len (c : C) (n : Nat) : (S_rTightN c n).length = c.os.length := by
  unfold S_rTightN
  have : ∀ (us : List Unit) (i : Nat) (s : List B), (getE (runL (g30n c) us i s)).length = s.length := by
    intro us
    induction us with
    | nil => intro i s; rfl
    | cons u us ih => intro i s; simp only [runL, g30n]; rw [ih]; unfold takeAll; rw [gTk_len]
  rw [this, g30_len]; simp
noncomputable def oc5 : Orc gam := orcF 5 (a1 cA) tA (fun _ => true) np oc30
theorem gc5 : Gd oc5 := gc30.add fun n hO p hp => by
  cases ht : S_Thin p with
  | false => exact fn_is hX hO (by kernel_rfl) (.b (show (!S_Thin p) = true by rw [ht]; rfl) .rr)
  | true =>
    have h1 : (!S_Thin p) = false := by rw [ht]; rfl
    obtain ⟨l1, l2, l3, l4⟩ := thin_small ht
    cases hok : S_check p != 0 with
    | true =>
      have hT : S_Tight p = ([], S_check p) := by unfold S_Tight; rw [if_pos hok]
      exact fn_is hX hO (by kernel_rfl) (.b h1 (.o (sm60 (Nat.le_trans l1 (by decide)) : p.cs.length ≤ most) (.o (sm60 l2 : p.os.length ≤ most) (.o (sm60 l3 : p.rs.length ≤ most) (.b (show (S_rCheck p != 0) = true by rw [check_eq]; exact hok) (.b (show ((S_Tight p).2 == S_rCheck p) = true by rw [hT, check_eq]; simp) (.b (show ((((S_Tight p).1.length : Nat) : Int) == 0) = true by rw [hT]; rfl) .rr)))))))
    | false =>
      have hr : (S_rCheck p != 0) = false := by rw [check_eq]; exact hok
      have hm := l4 hr
      obtain ⟨hT, h0⟩ := tight_eq hok hm
      exact fn_is hX hO (by kernel_rfl) (.b h1 (.o (sm60 (Nat.le_trans l1 (by decide)) : p.cs.length ≤ most) (.o (sm60 l2 : p.os.length ≤ most) (.o (sm60 l3 : p.rs.length ≤ most) (.b hr (.b (show ((S_Tight p).2 == 0) = true by rw [hT]; rfl)
        (.o (sm60 l2 : p.os.length ≤ most) (.o (sm60 (Nat.le_trans l1 (by decide)) : p.cs.length ≤ most) (.o h0 (.o (show S_rMany p ≤ 2001 by omega) (.o (fun k hk => by rw [(core_k hok k hk).n.1]; have := (core_k hok k hk).n.2.1; omega : ∀ k ∈ p.cs, szK k ≠ 0) (.o (fun k hk => allOk hok (by omega) : ∀ k : Nat, (k : Int) < S_rMany p → AllOk p (nthW p k))
        (.o (show (S_Tight p).1.length ≤ most by rw [hT]; exact sm60 (by rw [rTightN_len]; exact l2)) (.b (show S_same (S_Tight p).1 (S_rTightN p (S_rMany p).toNat) = true by rw [hT]; exact same_refl _) .rr))))))))))))))
end Go.Proofs.YtfhiejgoemcelaaGreat
namespace Go.Proofs.YtfhiejgoemcelaaGreat
open Go Tw Pv
def fiL : List B := ⟨0, 5, 0⟩ :: knL.tail
def thL : List B := [⟨(-2), 3, 0⟩, ⟨0, 2, 0⟩, ⟨0, 4, 0⟩] ++ knL.drop 3
def shL : List B := knL.take 10
def zeL : List B := [⟨0, 0, 0⟩, ⟨0, 2, 0⟩, ⟨0, 2, 0⟩, ⟨0, 0, 0⟩, ⟨0, 0, 1⟩, ⟨0, 0, 1⟩, ⟨0, 1, 0⟩, ⟨0, 2, 0⟩, ⟨9000, 9000, 0⟩, ⟨0, 9999, 2⟩, ⟨0, 0, 1⟩]
def paC : C := { exC with os := exC.os.set 8 ⟨4, 0, 0, 0, 0⟩ }
def wdC : C := { exC with cs := [⟨(⟨#[120]⟩ : ByteArray), (-2), 3⟩, ⟨(⟨#[121]⟩ : ByteArray), 0, 2⟩, ⟨(⟨#[122]⟩ : ByteArray), 0, 11⟩, ⟨(⟨#[118]⟩ : ByteArray), 0, 11⟩] }
theorem nm_w1 : S_Weak exC fiL = (0, 0) := by kernel_rfl
theorem nm_w2 : S_Weak exC thL = (2, 0) := by kernel_rfl
theorem nm_w3 : S_Weak exC shL = (0, 2) := by kernel_rfl
theorem nm_c1 : S_Clip exC 0 ⟨0, 0, 0⟩ = (zeL, 0) := by kernel_rfl
theorem nm_c2 : S_Clip exC 2 ⟨6, 9, 0⟩ = ([], 12) := by kernel_rfl
theorem nm_n1 : M_Never exC 2 = (15, 0) := by kernel_rfl
theorem nm_n2 : M_Never exC 4 = (14, 0) := by kernel_rfl
theorem nm_n3 : M_Never exC 11 = (0, 3) := by kernel_rfl
theorem nm_c3 : S_Clip exC (-1) ⟨9, 0, 0⟩ = ([], 3) := by kernel_rfl
theorem nm_c4 : S_Clip exC 0 ⟨2, 1, 0⟩ = ([], 2) := by kernel_rfl
theorem nm_c5 : S_Clip exC 0 ⟨0, 0, 16⟩ = ([], 2) := by kernel_rfl
theorem nm_o1 : S_Of paC = ([], 9) := by kernel_rfl
theorem nm_o2 : (S_Of wdC).2 = 0 := by kernel_rfl
end Go.Proofs.YtfhiejgoemcelaaGreat
namespace Pv
open Go Tw
theorem Good.deepE2 {X : Cod} {P : Program} {T : Tab} {L : Nat} {α : Type} {f : FuncId} {a : ArL X P α} {v : α → PV X.Γ} {ext : α → List (PB X.Γ)} {pre : α → List Prop} {orc orc2 : Orc X.Γ} (d : Nat) (hg : Good X P T L orc) (hg2 : Good X P T L orc2)
    (hf : ∀ n, d ≤ n → (∀ m, n - d ≤ m → OrcOk X P (apN P T L m) orc) → (∀ m, n - d ≤ m → OrcOk X P (apN P T L m) orc2) → ∀ x, (∀ p ∈ pre x, p) → Con X P (apN P T L (n + 1)) f (a.put x) (v x) (ext x)) : Good X P T L (orcE f a v ext pre orc) := by
  obtain ⟨N2, hN2⟩ := hg2
  obtain ⟨M, hM⟩ := hg
  refine ⟨M + N2 + d + 1, fun n hn => ?_⟩
  obtain ⟨k, rfl⟩ : ∃ k, n = k + 1 := ⟨n - 1, by omega⟩
  intro g vs v ext ps ho hp
  unfold orcE at ho
  split at ho
  · rename_i e
    have e := Nat.eq_of_beq_eq_true e
    subst e
    split at ho
    · rename_i x hx
      cases ho
      intro A h first args cap hup hv
      exact hf k (by omega) (fun m hm => hM m (by omega)) (fun m hm => hN2 m (by omega)) x hp A h first args cap hup (a.ok hx hv)
    · exact hM (k + 1) (by omega) g vs v ext ps ho hp
  · exact hM (k + 1) (by omega) g vs v ext ps ho hp
end Pv
namespace Go.Proofs.YtfhiejgoemcelaaGreat
open Go Tw Pv
noncomputable def oc37e : Orc gam := orcE (X := X0) (P := Tryz.prog) 37 nilA (fun _ => .own 0) (fun _ => [.list true true 38 knL]) np oc5
theorem gc37e : Gd oc37e := gc5.deepE 0 fun n _ hO p hp => by
  have hO := hO n (by omega)
  exact fn_ex hX hO (by kernel_rfl) .er
noncomputable def oc39e : Orc gam := orcE (X := X0) (P := Tryz.prog) 39 nilA (fun _ => .agg [.own 1, .own 0, .own 2]) (fun _ => [.list true true 60 exC.os, .list true true 62 exC.cs, .list true true 3 exC.rs]) np oc37e
theorem gc39e : Gd oc39e := gc37e.deepE 0 fun n _ hO p hp => by
  have hO := hO n (by omega)
  exact fn_ex hX hO (by kernel_rfl) .er
noncomputable def tgV (p : C) : PV gam := bif Nat.beq p.cs.length 4 then .tup [.nil .slc, .int .i64 5] else (tupA (a2 bsA iA)).put (tiL, 0)
theorem nm_t2 : (S_check wdC != 0) = false := by kernel_rfl
theorem nm_t3 : decide (S_many wdC.cs > 2000) = true := by kernel_rfl
noncomputable def oc29w : Orc gam := orcE (X := X0) (P := Tryz.prog) 29 (a1 cA) tgV (fun _ => []) (fun p => [p = wdC ∨ p = exC]) oc39e
theorem gc29w : Gd oc29w := gc39e.deepE2 1 gc68 fun n _ hA hB p hp => by
  have hO := hB n (by omega)
  rcases hp _ (.head _) with rfl | rfl
  · exact fn_ok hX hO (by kernel_rfl) (.b nm_t2 (.w (l29 hO wdC (by decide)) (.b nm_t3 (.r rfl))))
  · have h := hA (n + 1) (by omega) 29 ((a1 cA).put exC) ((tupA (a2 bsA iA)).put (S_Tight exC)) [] [] rfl (by simp)
    rw [tight_ex] at h
    exact h
def wkO (l : List B) : Int × Int := bif Nat.beq l.length 10 then (0, 2) else bif decide ((l.getD 0 B0).lo = 0) then (0, 0) else (2, 0)
def nvO (i : Int) : Int × Int := bif decide (i = 2) then (15, 0) else bif decide (i = 4) then (14, 0) else (0, 3)
def clO (i : Int) (b : B) : List B × Int := bif decide (i = 2) then ([], 12) else bif decide (i = -1) then ([], 3) else bif decide (b.lo = 2) then ([], 2) else bif decide (b.f = 16) then ([], 2) else (zeL, 0)
def ofO (c : C) : List B × Int := bif Nat.beq c.cs.length 4 then ((S_Of wdC).1, 0) else ([], 9)
noncomputable def nmO : Orc gam := orcF 19 (a1 cA) (tupA (a2 bsA iA)) (fun p => ofO p) (fun p => [S_Of p = ofO p])
  (orcF 24 (a2 cA bsA) (tupA (a2 iA iA)) (fun p => wkO p.2) (fun p => [S_Weak p.1 p.2 = wkO p.2, p.2.length ≤ most])
  (orcF 31 (a2 cA iA) (tupA (a2 uA iA)) (fun p => nvO p.2) (fun p => [M_Never p.1 p.2 = nvO p.2])
  (orcF 32 (a3 cA iA bA) (tupA (a2 bsA iA)) (fun p => clO p.2.1 p.2.2) (fun p => [S_Clip p.1 p.2.1 p.2.2 = clO p.2.1 p.2.2])
  (orcF 35 (a1 cA) (tupA (a2 isA iA)) (fun _ => (wiL, 0)) (fun p => [S_Widths p = (wiL, 0), (S_Of p).1.length ≤ most, ∀ r ∈ (S_Of p).1, (widthF 64 r 0 1).isSome = true])
  (orcF 22 (a2 bsA bsA) tA (fun _ => true) (fun p => [S_same p.1 p.2 = true, p.1.length ≤ most]) oc29w)))))
theorem Ok.nm {n : Nat} (hO : Ok n oc29w) : Ok n nmO :=
  OrcOk.as (OrcOk.as (OrcOk.as (OrcOk.as (OrcOk.as (OrcOk.as hO
    (fun x hx => by have h := hO 22 ((a2 bsA bsA).put x) (tA.put (S_same x.1 x.2)) [] [x.1.length ≤ most] rfl (fun p hp => hx p (.tail _ hp)); rw [hx _ (.head _)] at h; exact h))
    (fun x hx => by have h := hO 35 ((a1 cA).put x) ((tupA (a2 isA iA)).put (S_Widths x)) [] [(S_Of x).1.length ≤ most, ∀ r ∈ (S_Of x).1, (widthF 64 r 0 1).isSome = true] rfl (fun p hp => hx p (.tail _ hp)); rw [hx _ (.head _)] at h; exact h))
    (fun x hx => by have h := hO 32 ((a3 cA iA bA).put x) ((tupA (a2 bsA iA)).put (S_Clip x.1 x.2.1 x.2.2)) [] [] rfl (by simp); rw [hx _ (.head _)] at h; exact h))
    (fun x hx => by have h := hO 31 ((a2 cA iA).put x) ((tupA (a2 uA iA)).put (M_Never x.1 x.2)) [] [] rfl (by simp); rw [hx _ (.head _)] at h; exact h))
    (fun x hx => by have h := hO 24 ((a2 cA bsA).put x) ((tupA (a2 iA iA)).put (S_Weak x.1 x.2)) [] [x.2.length ≤ most] rfl (fun p hp => hx p (.tail _ hp)); rw [hx _ (.head _)] at h; exact h))
    (fun x hx => by have h := hO 19 ((a1 cA).put x) ((tupA (a2 bsA iA)).put (S_Of x)) [] [] rfl (by simp); rw [hx _ (.head _)] at h; exact h)
end Go.Proofs.YtfhiejgoemcelaaGreat
namespace Go.Proofs.YtfhiejgoemcelaaGreat
open Go Tw Pv
theorem fi_most : fiL.length ≤ most := le11
theorem th_most : thL.length ≤ most := le11
theorem sh_most : shL.length ≤ most := by decide
theorem ze_most : zeL.length ≤ most := le11
theorem ze_same : S_same zeL zeL = true := by kernel_rfl
theorem nm_o3 : S_Of wdC = ofO wdC := Prod.ext rfl nm_o2
noncomputable def oc9 : Orc gam := orcF 9 nilA tA (fun _ => true) np oc29w
theorem gc9 : Gd oc9 := gc29w.add fun n hO p hp => fn_is hX (Ok.nm hO) (by kernel_rfl) (.o ((by decide) : (0 : Int) ≤ ((0 : Nat) : Int)) (.o ((by decide) : ((0 : Nat) : Int) ≤ 10) (.o ((by decide) : (10 : Int) ≤ ((knL.length : Nat) : Int)) (.o (inR_dec rfl : inR 0 knL.length) (.o (inR_dec rfl : inR 2 knL.length) (.o (nm_w1) (.o (fi_most) (.o (nm_w2) (.o (th_most) (.o (nm_w3) (.o (sh_most) (.o (nm_c1) (.o (nm_c2) (.o (nm_n1) (.o (nm_n2) (.o (widths_ex) (.o (of_most) (.o (width_some_ex) (.o (.inr rfl : exC = wdC ∨ exC = exC) (.b (rfl : false = false) (.b (rfl : false = false) (.b (rfl : false = false) (.b (rfl : false = false) (.b (rfl : false = false) (.b (rfl : false = false) (.o (ze_same) (.o (ze_most) (.b (rfl : false = false) (.b (rfl : false = false) (.b (rfl : false = false) (.b (rfl : false = false) (.b (rfl : false = false) (.b (rfl : false = false) (.b (rfl : false = false) (.b (rfl : false = false) (.b (rfl : false = false) (.m 12 (by decide : 12 ≤ LL) (.b (rfl : true = true) (.b (rfl : false = false) (.o (inR_dec rfl : inR 0 wiL.length) (.o (inR_dec rfl : inR 0 wiL.length) (.b (rfl : false = false) (.b (rfl : true = true) (.b (rfl : true = true) (.o (inR_dec rfl : inR 0 tiL.length) (.o (inR_dec rfl : inR 0 knL.length) (.q (.bool (!decide (tiL.getD 0 B0 = knL.getD 0 B0))) (ne_B38 (.tmp 188) (.tmp 192) (tiL.getD 0 B0) (knL.getD 0 B0)) (.b (rfl : false = false) (.b (rfl : true = true) (.b (rfl : false = false) (.o (inR_dec rfl : inR 1 wiL.length) (.o (inR_dec rfl : inR 1 wiL.length) (.b (rfl : false = false) (.b (rfl : true = true) (.b (rfl : true = true) (.o (inR_dec rfl : inR 1 tiL.length) (.o (inR_dec rfl : inR 1 knL.length) (.q (.bool (!decide (tiL.getD 1 B0 = knL.getD 1 B0))) (ne_B38 (.tmp 188) (.tmp 192) (tiL.getD 1 B0) (knL.getD 1 B0)) (.b (rfl : false = false) (.b (rfl : true = true) (.b (rfl : false = false) (.o (inR_dec rfl : inR 2 wiL.length) (.o (inR_dec rfl : inR 2 wiL.length) (.b (rfl : false = false) (.b (rfl : true = true) (.b (rfl : true = true) (.o (inR_dec rfl : inR 2 tiL.length) (.o (inR_dec rfl : inR 2 knL.length) (.q (.bool (!decide (tiL.getD 2 B0 = knL.getD 2 B0))) (ne_B38 (.tmp 188) (.tmp 192) (tiL.getD 2 B0) (knL.getD 2 B0)) (.b (rfl : false = false) (.b (rfl : true = true) (.b (rfl : false = false) (.o (inR_dec rfl : inR 3 wiL.length) (.o (inR_dec rfl : inR 3 wiL.length) (.b (rfl : false = false) (.b (rfl : true = true) (.b (rfl : true = true) (.o (inR_dec rfl : inR 3 tiL.length) (.o (inR_dec rfl : inR 3 knL.length) (.q (.bool (!decide (tiL.getD 3 B0 = knL.getD 3 B0))) (ne_B38 (.tmp 188) (.tmp 192) (tiL.getD 3 B0) (knL.getD 3 B0)) (.b (rfl : false = false) (.b (rfl : true = true) (.b (rfl : false = false) (.o (inR_dec rfl : inR 4 wiL.length) (.o (inR_dec rfl : inR 4 wiL.length) (.b (rfl : false = false) (.b (rfl : true = true) (.b (rfl : true = true) (.o (inR_dec rfl : inR 4 tiL.length) (.o (inR_dec rfl : inR 4 knL.length) (.q (.bool (!decide (tiL.getD 4 B0 = knL.getD 4 B0))) (ne_B38 (.tmp 188) (.tmp 192) (tiL.getD 4 B0) (knL.getD 4 B0)) (.b (rfl : false = false) (.b (rfl : true = true) (.b (rfl : false = false) (.o (inR_dec rfl : inR 5 wiL.length) (.o (inR_dec rfl : inR 5 wiL.length) (.b (rfl : false = false) (.b (rfl : true = true) (.b (rfl : true = true) (.o (inR_dec rfl : inR 5 tiL.length) (.o (inR_dec rfl : inR 5 knL.length) (.q (.bool (!decide (tiL.getD 5 B0 = knL.getD 5 B0))) (ne_B38 (.tmp 188) (.tmp 192) (tiL.getD 5 B0) (knL.getD 5 B0)) (.b (rfl : false = false) (.b (rfl : true = true) (.b (rfl : false = false) (.o (inR_dec rfl : inR 6 wiL.length) (.o (inR_dec rfl : inR 6 wiL.length) (.b (rfl : false = false) (.b (rfl : true = true) (.b (rfl : true = true) (.o (inR_dec rfl : inR 6 tiL.length) (.o (inR_dec rfl : inR 6 knL.length) (.q (.bool (!decide (tiL.getD 6 B0 = knL.getD 6 B0))) (ne_B38 (.tmp 188) (.tmp 192) (tiL.getD 6 B0) (knL.getD 6 B0)) (.b (rfl : false = false) (.b (rfl : true = true) (.b (rfl : false = false) (.o (inR_dec rfl : inR 7 wiL.length) (.o (inR_dec rfl : inR 7 wiL.length) (.b (rfl : false = false) (.b (rfl : false = false) (.b (rfl : true = true) (.b (rfl : false = false) (.o (inR_dec rfl : inR 8 wiL.length) (.o (inR_dec rfl : inR 8 wiL.length) (.b (rfl : false = false) (.b (rfl : true = true) (.b (rfl : true = true) (.o (inR_dec rfl : inR 8 tiL.length) (.o (inR_dec rfl : inR 8 knL.length) (.q (.bool (!decide (tiL.getD 8 B0 = knL.getD 8 B0))) (ne_B38 (.tmp 188) (.tmp 192) (tiL.getD 8 B0) (knL.getD 8 B0)) (.b (rfl : false = false) (.b (rfl : true = true) (.b (rfl : false = false) (.o (inR_dec rfl : inR 9 wiL.length) (.o (inR_dec rfl : inR 9 wiL.length) (.b (rfl : false = false) (.b (rfl : true = true) (.b (rfl : false = false) (.b (rfl : true = true) (.b (rfl : false = false) (.o (inR_dec rfl : inR 10 wiL.length) (.o (inR_dec rfl : inR 10 wiL.length) (.b (rfl : false = false) (.b (rfl : true = true) (.b (rfl : false = false) (.b (rfl : false = false) (.o (nm_n3) (.o (nm_c3) (.o (nm_c4) (.o (nm_c5) (.o (inR_dec rfl : inR 8 exC.os.length) (.o (nm_o1) (.o (.inl rfl : wdC = wdC ∨ wdC = exC) (.o (nm_o3) (.b (rfl : true = true) (.b (rfl : true = true) (.b (rfl : true = true) (.b (rfl : true = true) (.b (rfl : true = true) (.b (rfl : true = true) (.b (rfl : true = true) .rr)))))))))))))))))))))))))))))))))))))))))))))))))))))))))))))))))))))))))))))))))))))))))))))))))))))))))))))))))))))))))))))))))))))))))))))))))))))))))))))))))
end Go.Proofs.YtfhiejgoemcelaaGreat
namespace Tw
open Go Go.ChangeShapes
section
variable {H : Type} {encH : TypeId × Value → H} {P : Program} {w : World}
def Rd (encH : TypeId × Value → H) (P : Program) (w : World) (t : TypeId) (d : DataW H) : Prop := ∃ cs, Reads encH P w t cs d
end
end Tw
namespace Go.Proofs.YtfhiejgoemcelaaGreat
open Go Tw
section
variable {H : Type} {encH : TypeId × Value → H} {w : World}
theorem three {α : Type} {l : List α} (h : l.length = 3) : ∃ a b c, l = [a, b, c] := by
  match l, h with
  | [a, b, c], _ => exact ⟨a, b, c, rfl⟩
end
end Go.Proofs.YtfhiejgoemcelaaGreat
namespace Go.Proofs.YtfhiejgoemcelaaGreat
open Go Tw Go.ChangeShapes Go.WideShapes Go.ChangeAt Go.RowKit
theorem Tryz.own : ownKnob Tryz.prog.godebug = none := by kernel_rfl
theorem Tryz.laidOut : laidOutB Tryz.prog = true := by kernel_rfl
theorem Tryz.mixed : Tryz.prog.follows .mixedOrders = true := by kernel_rfl
end Go.Proofs.YtfhiejgoemcelaaGreat
namespace Go.Proofs.YtfhiejgoemcelaaGreat
open Go Tw Pv
abbrev AT : Nat → Prop := fun _ => True
def LV (t : Nat) (h : List HB) (x : TV) (l : List (gam t)) : Prop := ∀ e, Pv.VR X0 Tryz.prog AT [] (h ++ e) (.lst t l false) x
theorem LV.app {t : Nat} {h : List HB} {x : TV} {l : List (gam t)} (hl : LV t h x l) (e : List HB) : LV t (h ++ e) x l := fun e2 => by rw [List.append_assoc]; exact hl _
theorem vb (a : B) (h : List HB) : Pv.VRs X0 Tryz.prog AT [] h (B.ps a) (B.tvs a) := .cons (.int _ _) (.cons (.int _ _) (.cons (.int _ _) .nil))
theorem vi (a : Int) (h : List HB) : Pv.VRs X0 Tryz.prog AT [] h [.int .i64 a] (I.tvs a) := .cons (.int _ _) .nil
theorem run_of {n f : Nat} {vs : List (PV gam)} {xs : List TV} {h : List HB} (hc : Con X0 Tryz.prog (ApN (n + 1)) f vs (PV.bool true) []) (hv : Pv.VRs X0 Tryz.prog AT [] h vs xs) : ∃ h', apN Tryz.prog T LL (n + 1) (TV.fn f [] []) xs h = some (TV.bool true, h', []) := by
  obtain ⟨x, h', m', c1, _, c3, _⟩ := hc AT h [] xs [] (fun _ _ => trivial) (by simpa using hv)
  have : x = TV.bool true := by
    cases c3 with
    | bool => rfl
    | gone hi _ _ => simp [idOf] at hi
  subst this
  exact ⟨h', c1⟩
end Go.Proofs.YtfhiejgoemcelaaGreat
namespace Go.Proofs.YtfhiejgoemcelaaGreat
open Go Tw Pv Go.ChangeShapes Go.WideShapes Go.ChangeAt Go.RowKit
theorem Tryz.params9 : Tryz.f9.params.toList = [] := by kernel_rfl
set_option maxRecDepth 100000 in
theorem ReachNames_lifted (os : Os) (started : os.Started) (H : Type) (enc : TypeId × Value → H) :
    ReturnsInHanded {} Tryz.checked os 9 .any (Rows.reachNamesSpec.pre6 enc Tryz.prog Tryz.f9 Rows.reachNamesRow.domain false) (Rows.reachNamesSpec.post enc Tryz.prog Tryz.f9 false true false false) := by
  refine returnsInHanded_of_change (C := Tryz.checked) Tryz.own started (by kernel_rfl) Tryz.func9
    (ChangeSpec.witness6 (enc := enc) (C := Tryz.checked) false ⟨#[], #[], []⟩ 8 (by kernel_rfl) (by kernel_rfl) (by kernel_rfl) (by kernel_rfl)) ?_
  intro W base args ds gs before hval0 hW hcnd _
  have hval : ∀ (j : Nat) t v, Tryz.f9.params[j]? = some t → args[j]? = some v → Value.okWide Tryz.prog W .any base t v := hval0
  have hW' := hW
  obtain ⟨p, q, hA0, hV, rfl, hfz, hnd⟩ := hW
  have hA : DataW.TrodAll enc Tryz.prog W 0 (fun _ => true) true Tryz.f9.params.toList args.toList ds p := hA0
  obtain ⟨rfl, rfl⟩ := trodVars_none hV
  rw [Tryz.params9] at hA
  obtain ⟨hx, rfl, hp⟩ := trodAll_nil hA
  obtain ⟨N, hN⟩ := gc9
  have hcon := hN (N + 1) (by omega) 9 ((nilA : Args Unit).put ()) (tA.put true) [] [] rfl (by simp)
  obtain ⟨h', hr⟩ := run_of (xs := []) (h := []) hcon .nil
  exact law_callsN (P := Tryz.prog) (T := T) (L := LL) (n := N) (g := 4) Tryz.mixed Tryz.laidOut rfl rfl (by kernel_rfl) Tryz.underlying4 (by kernel_rfl) hW' hval
    (by rw [Tryz.params9]; rfl) hr
theorem ReachNames_holds : Rows.ReachNamesSaid :=
  OpenClaim.holds_of_wide 9 Tryz.f9 rfl rfl rfl rfl rfl rfl rfl ⟨rfl, rfl, rfl, rfl, rfl⟩ rfl rfl rfl rfl rfl (by kernel_rfl) Tryz.func9 (by kernel_rfl)
    (of_decide_eq_true (by kernel_rfl)) (by unfold Func.isWrapper; first | (rw [if_pos (by decide +kernel)]; kernel_rfl) | (rw [if_neg (by decide +kernel)]; exact ⟨rfl, rfl⟩))
    (fun os started H enc _ => ReachNames_lifted os started H enc)
end Go.Proofs.YtfhiejgoemcelaaGreat
