/- Part 4 of a proof: the contracts of the functions that the statements on reaches (mistlaw13) call, and the laws of their rules. -/
import Derived.Test.YtfhiejgoemcelaaGreatPc
set_option linter.constructorNameAsVariable false
set_option linter.unusedVariables false
set_option linter.unusedSimpArgs false
set_option linter.unusedSectionVars false
namespace Go.Proofs.YtfhiejgoemcelaaGreat
open Go Tw
theorem wrap_u64_nn (z : Int) : 0 ≤ IntKind.u64.wrap z := by
 simp only [IntKind.wrap, IntKind.bits, IntKind.signed]
 simp
 omega
def S_rNone  : B :=
 (⟨1, 0, 0⟩ : B)
def S_rSome (r : B) : Bool :=
 decide ((r.lo) ≤ (r.hi))
def S_rMayBe0 (r : B) : Bool :=
 if (decide ((r.lo) ≤ 0)) = true then decide ((r.hi) ≥ 0) else false
def S_rMayBeOther (r : B) : Bool :=
 if (decide (r.lo ≤ r.hi)) = true then if ((r.lo) != 0) = true then true else (r.hi) != 0 else false
def S_rValid (r : B) : Bool :=
 if (decide ((r.f) > 15)) = true then false else if ((r.lo) == 1) = true then if ((r.hi) == 0) = true then true else if (decide ((-9999 : Int) ≤ (r.lo))) = true then if (decide ((r.lo) ≤ (r.hi))) = true then decide ((r.hi) ≤ 9999) else false else false else if (decide ((-9999 : Int) ≤ (r.lo))) = true then if (decide ((r.lo) ≤ (r.hi))) = true then decide ((r.hi) ≤ 9999) else false else false
def S_rInside (a : B) (b : B) : Bool :=
 if ((andnI .u8 (a.f) (b.f)) == 0) = true then if (!(decide (a.lo ≤ a.hi))) = true then true else if (decide ((b.lo) ≤ (a.lo))) = true then decide ((a.hi) ≤ (b.hi)) else false else false
def S_rHull (a : B) (b : B) : B :=
 if (!(decide (a.lo ≤ a.hi))) = true then (⟨b.lo, b.hi, orI .u8 (a.f) (b.f)⟩ : B) else if (!(decide (b.lo ≤ b.hi))) = true then (⟨a.lo, a.hi, orI .u8 (a.f) (b.f)⟩ : B) else (⟨minI (a.lo) (b.lo), maxI (a.hi) (b.hi), orI .u8 (a.f) (b.f)⟩ : B)
def S_rWith (r : B) (k : Int) : B :=
 S_rHull r ((⟨k, k, 0⟩ : B))
def S_rFault (a : Int) : Int :=
 shlI .u8 (1 : Int) (IntKind.u8.wrap ((a) - 1))
def S_rFloor (a : Int) (b : Int) : Int :=
 if ((remI .i64 (a) (b)) != 0) = true then if ((decide ((a) < 0)) != (decide ((b) < 0))) = true then IntKind.i64.wrap ((quoI .i64 (a) (b)) - 1) else quoI .i64 (a) (b) else quoI .i64 (a) (b)
def S_rResult (code : Int) (a : Int) (b : Int) : Int :=
 if ((code) == 7) = true then IntKind.i64.wrap ((a) + (b)) else if ((code) == 8) = true then IntKind.i64.wrap ((a) - (b)) else if ((code) == 9) = true then IntKind.i64.wrap ((a) * (b)) else S_rFloor a b
def S_rCut (r : B) : B :=
 if (!(decide (r.lo ≤ r.hi))) = true then r else if (decide ((r.lo) < (-9999))) = true then if (decide ((maxI (r.lo) (-9999)) > (minI (r.hi) 9999))) = true then (⟨1, 0, orI .u8 (r.f) (S_rFault 2)⟩ : B) else (⟨maxI (r.lo) (-9999), minI (r.hi) 9999, orI .u8 (r.f) (S_rFault 2)⟩ : B) else if (decide ((r.hi) > 9999)) = true then if (decide ((maxI (r.lo) (-9999)) > (minI (r.hi) 9999))) = true then (⟨1, 0, orI .u8 (r.f) (S_rFault 2)⟩ : B) else (⟨maxI (r.lo) (-9999), minI (r.hi) 9999, orI .u8 (r.f) (S_rFault 2)⟩ : B) else if (decide ((maxI (r.lo) (-9999)) > (minI (r.hi) 9999))) = true then (⟨1, 0, r.f⟩ : B) else (⟨maxI (r.lo) (-9999), minI (r.hi) 9999, r.f⟩ : B)
def S_rRest (a : B) (b : B) : B :=
 if (!(S_rMayBeOther b)) = true then (⟨1, 0, 0⟩ : B) else if (decide ((b.lo) < 0)) = true then if (decide ((b.hi) > 0)) = true then if (decide ((a.lo) ≥ 0)) = true then if (decide ((b.lo) ≥ 0)) = true then (⟨IntKind.i64.wrap ((b.lo) + 1), minI (IntKind.i64.wrap ((b.hi) - 1)) (a.hi), 0⟩ : B) else (⟨IntKind.i64.wrap ((b.lo) + 1), IntKind.i64.wrap ((b.hi) - 1), 0⟩ : B) else (⟨IntKind.i64.wrap ((b.lo) + 1), IntKind.i64.wrap ((b.hi) - 1), 0⟩ : B) else if (decide ((a.lo) ≥ 0)) = true then if (decide ((b.lo) ≥ 0)) = true then (⟨IntKind.i64.wrap ((b.lo) + 1), minI 0 (a.hi), 0⟩ : B) else (⟨IntKind.i64.wrap ((b.lo) + 1), 0, 0⟩ : B) else (⟨IntKind.i64.wrap ((b.lo) + 1), 0, 0⟩ : B) else if (decide ((b.hi) > 0)) = true then if (decide ((a.lo) ≥ 0)) = true then if (decide ((b.lo) ≥ 0)) = true then (⟨0, minI (IntKind.i64.wrap ((b.hi) - 1)) (a.hi), 0⟩ : B) else (⟨0, IntKind.i64.wrap ((b.hi) - 1), 0⟩ : B) else (⟨0, IntKind.i64.wrap ((b.hi) - 1), 0⟩ : B) else if (decide ((a.lo) ≥ 0)) = true then if (decide ((b.lo) ≥ 0)) = true then (⟨0, minI 0 (a.hi), 0⟩ : B) else (⟨0, 0, 0⟩ : B) else (⟨0, 0, 0⟩ : B)
def S_rTruth (a : Bool) (b : Bool) : B :=
 if a = true then (⟨1, 1, 0⟩ : B) else if b = true then (⟨0, 0, 0⟩ : B) else (⟨0, 1, 0⟩ : B)
def S_rBoth (a : B) (b : B) : B :=
 if (!(decide (a.lo ≤ a.hi))) = true then (⟨1, 0, andI .u8 (a.f) (b.f)⟩ : B) else if (!(decide (b.lo ≤ b.hi))) = true then (⟨1, 0, andI .u8 (a.f) (b.f)⟩ : B) else if (decide ((maxI (a.lo) (b.lo)) > (minI (a.hi) (b.hi)))) = true then (⟨1, 0, andI .u8 (a.f) (b.f)⟩ : B) else (⟨maxI (a.lo) (b.lo), minI (a.hi) (b.hi), andI .u8 (a.f) (b.f)⟩ : B)
def S_rEmpty (r : B) : Bool :=
 if (!(decide (r.lo ≤ r.hi))) = true then (r.f) == 0 else false
def S_rFits (r : B) (bits : Int) : Bool :=
 if (!(decide (r.lo ≤ r.hi))) = true then true else if (decide ((bits) > 0)) = true then if (decide ((r.lo) ≥ (shlI .i64 (-1 : Int) (IntKind.u64.wrap (IntKind.i64.wrap ((bits) - 1)))))) = true then decide ((r.hi) ≤ (IntKind.i64.wrap ((shlI .i64 (1 : Int) (IntKind.u64.wrap (IntKind.i64.wrap ((bits) - 1)))) - 1))) else false else false
def S_rTake (r : B) (v : V) : B :=
 if ((v.f) != 0) = true then (⟨r.lo, r.hi, orI .u8 (r.f) (S_rFault v.f)⟩ : B) else S_rWith r v.n
def S_rIn (k : Int) (least : Int) (most : Int) : Bool :=
 if (decide ((k) ≥ (least))) = true then decide ((k) ≤ (most)) else false
def S_rOperands (code : Int) (choices : Int) : Int × Int × Int :=
 if ((code) == 1) = true then (0, -9999, 9999) else if ((code) == 2) = true then (0, 1, 4) else if ((code) == 3) = true then (0, 0, IntKind.i64.wrap ((choices) - 1)) else if ((code) == 4) = true then (0, 0, 31) else if ((code) == 5) = true then (1, 0, 0) else if ((code) == 6) = true then (1, 0, 0) else if (decide ((code) ≥ 7)) = true then if (decide ((code) ≤ 16)) = true then (2, 0, 0) else if ((code) == 17) = true then (3, 0, 0) else (-1, 0, -1) else if ((code) == 17) = true then (3, 0, 0) else (-1, 0, -1)
def S_rNumber (k : Int) : V :=
 (⟨0, k⟩ : V)
def S_rFaultV (f : Int) : V :=
 (⟨f, 0⟩ : V)
def S_rBool (is : Bool) : V :=
 if is = true then S_rNumber 1 else S_rNumber 0
def S_rMake (k : Int) : V :=
 if (decide ((k) < (-9999))) = true then S_rFaultV 2 else if (decide ((k) > 9999)) = true then S_rFaultV 2 else S_rNumber k
def S_rChoose (a : V) (b : V) (c : V) : V :=
 if (decide ((a.f) > 0)) = true then a else if ((a.n) == 0) = true then c else b
def S_rOp1 (code : Int) (a : V) : V :=
 if (decide ((a.f) > 0)) = true then a else if ((code) == 5) = true then S_rNumber (IntKind.i64.wrap (0 - (a.n))) else S_rBool ((a.n) == 0)
end Go.Proofs.YtfhiejgoemcelaaGreat
namespace Go.Proofs.YtfhiejgoemcelaaGreat
open Go Tw
def isDiv (r : B) (x : Int) : Bool := (x != 0) && (decide (r.lo ≤ x) && decide (x ≤ r.hi))
def S_rDivisors (r : B) : List Int := ([r.lo, r.hi, -1, 1] : List Int).filter (isDiv r)
theorem bld_filter {α : Type} (p : α → Bool) : ∀ (t : List α) (i : Nat) (l : List α), bld (fun _ _ a => if p a = true then [a] else []) t i l = l ++ t.filter p
 | [], i, l => by simp [bld]
 | a :: t, i, l => by
  simp only [bld]
  rw [bld_filter p t]
  by_cases h : p a = true
  ·simp [h]
  ·simp [h]
end Go.Proofs.YtfhiejgoemcelaaGreat
namespace Go.Proofs.YtfhiejgoemcelaaGreat
open Go Tw
theorem rDivisors_len {r : B} : (S_rDivisors r).length < 4000 := by
 have := List.length_filter_le (isDiv r) [r.lo, r.hi, -1, 1]
 simp only [List.length_cons, List.length_nil] at this
 unfold S_rDivisors; omega
theorem rDivisors_ne {r : B} {x : Int} (h : x ∈ S_rDivisors r) : x ≠ 0 := by
 simp only [S_rDivisors, List.mem_filter, isDiv, Bool.and_eq_true, bne_iff_ne, ne_eq] at h
 exact h.2.1
def F_rCounted (z : Int) (code : Int) (i : Nat) (x : Int) (s : B) : (B) ⊕ (Empty) :=
 .inl (S_rWith s (S_rResult code z x))
def S_rCounted (code : Int) (a : B) (b : B) : B :=
 if ((code) == 10) = true then S_rCut ((getE (runL (F_rCounted (a.hi) code) ((S_rDivisors b)) 0 ((getE (runL (F_rCounted (a.lo) code) ((S_rDivisors b)) 0 ((⟨1, 0, 0⟩ : B)))))))) else S_rCut ((getE (runL (F_rCounted (a.hi) code) (([b.lo, b.hi] : List Int)) 0 ((getE (runL (F_rCounted (a.lo) code) (([b.lo, b.hi] : List Int)) 0 ((⟨1, 0, 0⟩ : B))))))))
end Go.Proofs.YtfhiejgoemcelaaGreat
namespace Go.Proofs.YtfhiejgoemcelaaGreat
open Go Tw
def S_rPair (code : Int) (a : B) (b : B) : B :=
 if (!(decide (b.lo ≤ b.hi))) = true then (⟨1, 0, orI .u8 (a.f) (b.f)⟩ : B) else if ((code) == 11) = true then if ((code) == 10) = true then if (S_rMayBe0 b) = true then (⟨(S_rRest a b).lo, (S_rRest a b).hi, orI .u8 (orI .u8 ((S_rRest a b).f) (S_rFault 1)) (orI .u8 (a.f) (b.f))⟩ : B) else (⟨(S_rRest a b).lo, (S_rRest a b).hi, orI .u8 ((S_rRest a b).f) (orI .u8 (a.f) (b.f))⟩ : B) else if (S_rMayBe0 b) = true then (⟨(S_rRest a b).lo, (S_rRest a b).hi, orI .u8 (orI .u8 ((S_rRest a b).f) (S_rFault 1)) (orI .u8 (a.f) (b.f))⟩ : B) else (⟨(S_rRest a b).lo, (S_rRest a b).hi, orI .u8 ((S_rRest a b).f) (orI .u8 (a.f) (b.f))⟩ : B) else if ((code) == 12) = true then if ((a.lo) == (a.hi)) = true then if ((b.lo) == (b.hi)) = true then if (decide ((a.hi) < (b.lo))) = true then if ((code) == 10) = true then if (S_rMayBe0 b) = true then (⟨(S_rTruth ((a.lo) == (b.lo)) true).lo, (S_rTruth ((a.lo) == (b.lo)) true).hi, orI .u8 (orI .u8 ((S_rTruth ((a.lo) == (b.lo)) true).f) (S_rFault 1)) (orI .u8 (a.f) (b.f))⟩ : B) else (⟨(S_rTruth ((a.lo) == (b.lo)) true).lo, (S_rTruth ((a.lo) == (b.lo)) true).hi, orI .u8 ((S_rTruth ((a.lo) == (b.lo)) true).f) (orI .u8 (a.f) (b.f))⟩ : B) else (⟨(S_rTruth ((a.lo) == (b.lo)) true).lo, (S_rTruth ((a.lo) == (b.lo)) true).hi, orI .u8 ((S_rTruth ((a.lo) == (b.lo)) true).f) (orI .u8 (a.f) (b.f))⟩ : B) else if ((code) == 10) = true then if (S_rMayBe0 b) = true then (⟨(S_rTruth ((a.lo) == (b.lo)) (decide ((b.hi) < (a.lo)))).lo, (S_rTruth ((a.lo) == (b.lo)) (decide ((b.hi) < (a.lo)))).hi, orI .u8 (orI .u8 ((S_rTruth ((a.lo) == (b.lo)) (decide ((b.hi) < (a.lo)))).f) (S_rFault 1)) (orI .u8 (a.f) (b.f))⟩ : B) else (⟨(S_rTruth ((a.lo) == (b.lo)) (decide ((b.hi) < (a.lo)))).lo, (S_rTruth ((a.lo) == (b.lo)) (decide ((b.hi) < (a.lo)))).hi, orI .u8 ((S_rTruth ((a.lo) == (b.lo)) (decide ((b.hi) < (a.lo)))).f) (orI .u8 (a.f) (b.f))⟩ : B) else (⟨(S_rTruth ((a.lo) == (b.lo)) (decide ((b.hi) < (a.lo)))).lo, (S_rTruth ((a.lo) == (b.lo)) (decide ((b.hi) < (a.lo)))).hi, orI .u8 ((S_rTruth ((a.lo) == (b.lo)) (decide ((b.hi) < (a.lo)))).f) (orI .u8 (a.f) (b.f))⟩ : B) else if (decide ((a.hi) < (b.lo))) = true then if ((code) == 10) = true then if (S_rMayBe0 b) = true then (⟨(S_rTruth false true).lo, (S_rTruth false true).hi, orI .u8 (orI .u8 ((S_rTruth false true).f) (S_rFault 1)) (orI .u8 (a.f) (b.f))⟩ : B) else (⟨(S_rTruth false true).lo, (S_rTruth false true).hi, orI .u8 ((S_rTruth false true).f) (orI .u8 (a.f) (b.f))⟩ : B) else (⟨(S_rTruth false true).lo, (S_rTruth false true).hi, orI .u8 ((S_rTruth false true).f) (orI .u8 (a.f) (b.f))⟩ : B) else if ((code) == 10) = true then if (S_rMayBe0 b) = true then (⟨(S_rTruth false (decide ((b.hi) < (a.lo)))).lo, (S_rTruth false (decide ((b.hi) < (a.lo)))).hi, orI .u8 (orI .u8 ((S_rTruth false (decide ((b.hi) < (a.lo)))).f) (S_rFault 1)) (orI .u8 (a.f) (b.f))⟩ : B) else (⟨(S_rTruth false (decide ((b.hi) < (a.lo)))).lo, (S_rTruth false (decide ((b.hi) < (a.lo)))).hi, orI .u8 ((S_rTruth false (decide ((b.hi) < (a.lo)))).f) (orI .u8 (a.f) (b.f))⟩ : B) else (⟨(S_rTruth false (decide ((b.hi) < (a.lo)))).lo, (S_rTruth false (decide ((b.hi) < (a.lo)))).hi, orI .u8 ((S_rTruth false (decide ((b.hi) < (a.lo)))).f) (orI .u8 (a.f) (b.f))⟩ : B) else if (decide ((a.hi) < (b.lo))) = true then if ((code) == 10) = true then if (S_rMayBe0 b) = true then (⟨(S_rTruth false true).lo, (S_rTruth false true).hi, orI .u8 (orI .u8 ((S_rTruth false true).f) (S_rFault 1)) (orI .u8 (a.f) (b.f))⟩ : B) else (⟨(S_rTruth false true).lo, (S_rTruth false true).hi, orI .u8 ((S_rTruth false true).f) (orI .u8 (a.f) (b.f))⟩ : B) else (⟨(S_rTruth false true).lo, (S_rTruth false true).hi, orI .u8 ((S_rTruth false true).f) (orI .u8 (a.f) (b.f))⟩ : B) else if ((code) == 10) = true then if (S_rMayBe0 b) = true then (⟨(S_rTruth false (decide ((b.hi) < (a.lo)))).lo, (S_rTruth false (decide ((b.hi) < (a.lo)))).hi, orI .u8 (orI .u8 ((S_rTruth false (decide ((b.hi) < (a.lo)))).f) (S_rFault 1)) (orI .u8 (a.f) (b.f))⟩ : B) else (⟨(S_rTruth false (decide ((b.hi) < (a.lo)))).lo, (S_rTruth false (decide ((b.hi) < (a.lo)))).hi, orI .u8 ((S_rTruth false (decide ((b.hi) < (a.lo)))).f) (orI .u8 (a.f) (b.f))⟩ : B) else (⟨(S_rTruth false (decide ((b.hi) < (a.lo)))).lo, (S_rTruth false (decide ((b.hi) < (a.lo)))).hi, orI .u8 ((S_rTruth false (decide ((b.hi) < (a.lo)))).f) (orI .u8 (a.f) (b.f))⟩ : B) else if ((code) == 13) = true then if ((code) == 10) = true then if (S_rMayBe0 b) = true then (⟨(S_rTruth (decide ((a.hi) < (b.lo))) (decide ((a.lo) ≥ (b.hi)))).lo, (S_rTruth (decide ((a.hi) < (b.lo))) (decide ((a.lo) ≥ (b.hi)))).hi, orI .u8 (orI .u8 ((S_rTruth (decide ((a.hi) < (b.lo))) (decide ((a.lo) ≥ (b.hi)))).f) (S_rFault 1)) (orI .u8 (a.f) (b.f))⟩ : B) else (⟨(S_rTruth (decide ((a.hi) < (b.lo))) (decide ((a.lo) ≥ (b.hi)))).lo, (S_rTruth (decide ((a.hi) < (b.lo))) (decide ((a.lo) ≥ (b.hi)))).hi, orI .u8 ((S_rTruth (decide ((a.hi) < (b.lo))) (decide ((a.lo) ≥ (b.hi)))).f) (orI .u8 (a.f) (b.f))⟩ : B) else (⟨(S_rTruth (decide ((a.hi) < (b.lo))) (decide ((a.lo) ≥ (b.hi)))).lo, (S_rTruth (decide ((a.hi) < (b.lo))) (decide ((a.lo) ≥ (b.hi)))).hi, orI .u8 ((S_rTruth (decide ((a.hi) < (b.lo))) (decide ((a.lo) ≥ (b.hi)))).f) (orI .u8 (a.f) (b.f))⟩ : B) else if ((code) == 14) = true then if ((code) == 10) = true then if (S_rMayBe0 b) = true then (⟨(S_rTruth (decide ((a.hi) ≤ (b.lo))) (decide ((a.lo) > (b.hi)))).lo, (S_rTruth (decide ((a.hi) ≤ (b.lo))) (decide ((a.lo) > (b.hi)))).hi, orI .u8 (orI .u8 ((S_rTruth (decide ((a.hi) ≤ (b.lo))) (decide ((a.lo) > (b.hi)))).f) (S_rFault 1)) (orI .u8 (a.f) (b.f))⟩ : B) else (⟨(S_rTruth (decide ((a.hi) ≤ (b.lo))) (decide ((a.lo) > (b.hi)))).lo, (S_rTruth (decide ((a.hi) ≤ (b.lo))) (decide ((a.lo) > (b.hi)))).hi, orI .u8 ((S_rTruth (decide ((a.hi) ≤ (b.lo))) (decide ((a.lo) > (b.hi)))).f) (orI .u8 (a.f) (b.f))⟩ : B) else (⟨(S_rTruth (decide ((a.hi) ≤ (b.lo))) (decide ((a.lo) > (b.hi)))).lo, (S_rTruth (decide ((a.hi) ≤ (b.lo))) (decide ((a.lo) > (b.hi)))).hi, orI .u8 ((S_rTruth (decide ((a.hi) ≤ (b.lo))) (decide ((a.lo) > (b.hi)))).f) (orI .u8 (a.f) (b.f))⟩ : B) else if ((code) == 10) = true then if (S_rMayBe0 b) = true then (⟨(S_rCounted code a b).lo, (S_rCounted code a b).hi, orI .u8 (orI .u8 ((S_rCounted code a b).f) (S_rFault 1)) (orI .u8 (a.f) (b.f))⟩ : B) else (⟨(S_rCounted code a b).lo, (S_rCounted code a b).hi, orI .u8 ((S_rCounted code a b).f) (orI .u8 (a.f) (b.f))⟩ : B) else (⟨(S_rCounted code a b).lo, (S_rCounted code a b).hi, orI .u8 ((S_rCounted code a b).f) (orI .u8 (a.f) (b.f))⟩ : B)
def S_rRule (c : C) (l : List B) (o : O) : B :=
 if ((o.code) == 1) = true then (⟨o.n, o.n, 0⟩ : B) else if ((o.code) == 2) = true then (⟨1, 0, S_rFault (IntKind.u8.wrap (o.n))⟩ : B) else if ((o.code) == 3) = true then (⟨((c.cs.getD o.n.toNat K0)).lo, ((c.cs.getD o.n.toNat K0)).hi, 0⟩ : B) else if (!(decide (((l.getD o.a.toNat B0)).lo ≤ ((l.getD o.a.toNat B0)).hi))) = true then (⟨1, 0, ((l.getD o.a.toNat B0)).f⟩ : B) else if (decide ((o.code) ≥ 7)) = true then if (decide ((o.code) ≤ 14)) = true then S_rPair o.code ((l.getD o.a.toNat B0)) ((l.getD o.b.toNat B0)) else if ((o.code) == 5) = true then (⟨IntKind.i64.wrap (0 - (((l.getD o.a.toNat B0)).hi)), IntKind.i64.wrap (0 - (((l.getD o.a.toNat B0)).lo)), ((l.getD o.a.toNat B0)).f⟩ : B) else if ((o.code) == 6) = true then if (S_rMayBeOther ((l.getD o.a.toNat B0))) = true then if (S_rMayBe0 ((l.getD o.a.toNat B0))) = true then S_rHull (S_rHull ((⟨1, 0, ((l.getD o.a.toNat B0)).f⟩ : B)) ((⟨0, 0, 0⟩ : B))) ((⟨1, 1, 0⟩ : B)) else S_rHull ((⟨1, 0, ((l.getD o.a.toNat B0)).f⟩ : B)) ((⟨0, 0, 0⟩ : B)) else if (S_rMayBe0 ((l.getD o.a.toNat B0))) = true then S_rHull ((⟨1, 0, ((l.getD o.a.toNat B0)).f⟩ : B)) ((⟨1, 1, 0⟩ : B)) else (⟨1, 0, ((l.getD o.a.toNat B0)).f⟩ : B) else if ((o.code) == 15) = true then if (S_rMayBeOther ((l.getD o.a.toNat B0))) = true then if (S_rMayBe0 ((l.getD o.a.toNat B0))) = true then S_rHull (S_rHull ((⟨1, 0, ((l.getD o.a.toNat B0)).f⟩ : B)) ((l.getD o.b.toNat B0))) ((⟨0, 0, 0⟩ : B)) else S_rHull ((⟨1, 0, ((l.getD o.a.toNat B0)).f⟩ : B)) ((l.getD o.b.toNat B0)) else if (S_rMayBe0 ((l.getD o.a.toNat B0))) = true then S_rHull ((⟨1, 0, ((l.getD o.a.toNat B0)).f⟩ : B)) ((⟨0, 0, 0⟩ : B)) else (⟨1, 0, ((l.getD o.a.toNat B0)).f⟩ : B) else if ((o.code) == 16) = true then if (S_rMayBeOther ((l.getD o.a.toNat B0))) = true then if (S_rMayBe0 ((l.getD o.a.toNat B0))) = true then S_rHull (S_rHull ((⟨1, 0, ((l.getD o.a.toNat B0)).f⟩ : B)) ((⟨1, 1, 0⟩ : B))) ((l.getD o.b.toNat B0)) else S_rHull ((⟨1, 0, ((l.getD o.a.toNat B0)).f⟩ : B)) ((⟨1, 1, 0⟩ : B)) else if (S_rMayBe0 ((l.getD o.a.toNat B0))) = true then S_rHull ((⟨1, 0, ((l.getD o.a.toNat B0)).f⟩ : B)) ((l.getD o.b.toNat B0)) else (⟨1, 0, ((l.getD o.a.toNat B0)).f⟩ : B) else if (S_rMayBeOther ((l.getD o.a.toNat B0))) = true then if (S_rMayBe0 ((l.getD o.a.toNat B0))) = true then S_rHull (S_rHull ((⟨1, 0, ((l.getD o.a.toNat B0)).f⟩ : B)) ((l.getD o.b.toNat B0))) ((l.getD o.c.toNat B0)) else S_rHull ((⟨1, 0, ((l.getD o.a.toNat B0)).f⟩ : B)) ((l.getD o.b.toNat B0)) else if (S_rMayBe0 ((l.getD o.a.toNat B0))) = true then S_rHull ((⟨1, 0, ((l.getD o.a.toNat B0)).f⟩ : B)) ((l.getD o.c.toNat B0)) else (⟨1, 0, ((l.getD o.a.toNat B0)).f⟩ : B) else if ((o.code) == 5) = true then (⟨IntKind.i64.wrap (0 - (((l.getD o.a.toNat B0)).hi)), IntKind.i64.wrap (0 - (((l.getD o.a.toNat B0)).lo)), ((l.getD o.a.toNat B0)).f⟩ : B) else if ((o.code) == 6) = true then if (S_rMayBeOther ((l.getD o.a.toNat B0))) = true then if (S_rMayBe0 ((l.getD o.a.toNat B0))) = true then S_rHull (S_rHull ((⟨1, 0, ((l.getD o.a.toNat B0)).f⟩ : B)) ((⟨0, 0, 0⟩ : B))) ((⟨1, 1, 0⟩ : B)) else S_rHull ((⟨1, 0, ((l.getD o.a.toNat B0)).f⟩ : B)) ((⟨0, 0, 0⟩ : B)) else if (S_rMayBe0 ((l.getD o.a.toNat B0))) = true then S_rHull ((⟨1, 0, ((l.getD o.a.toNat B0)).f⟩ : B)) ((⟨1, 1, 0⟩ : B)) else (⟨1, 0, ((l.getD o.a.toNat B0)).f⟩ : B) else if ((o.code) == 15) = true then if (S_rMayBeOther ((l.getD o.a.toNat B0))) = true then if (S_rMayBe0 ((l.getD o.a.toNat B0))) = true then S_rHull (S_rHull ((⟨1, 0, ((l.getD o.a.toNat B0)).f⟩ : B)) ((l.getD o.b.toNat B0))) ((⟨0, 0, 0⟩ : B)) else S_rHull ((⟨1, 0, ((l.getD o.a.toNat B0)).f⟩ : B)) ((l.getD o.b.toNat B0)) else if (S_rMayBe0 ((l.getD o.a.toNat B0))) = true then S_rHull ((⟨1, 0, ((l.getD o.a.toNat B0)).f⟩ : B)) ((⟨0, 0, 0⟩ : B)) else (⟨1, 0, ((l.getD o.a.toNat B0)).f⟩ : B) else if ((o.code) == 16) = true then if (S_rMayBeOther ((l.getD o.a.toNat B0))) = true then if (S_rMayBe0 ((l.getD o.a.toNat B0))) = true then S_rHull (S_rHull ((⟨1, 0, ((l.getD o.a.toNat B0)).f⟩ : B)) ((⟨1, 1, 0⟩ : B))) ((l.getD o.b.toNat B0)) else S_rHull ((⟨1, 0, ((l.getD o.a.toNat B0)).f⟩ : B)) ((⟨1, 1, 0⟩ : B)) else if (S_rMayBe0 ((l.getD o.a.toNat B0))) = true then S_rHull ((⟨1, 0, ((l.getD o.a.toNat B0)).f⟩ : B)) ((l.getD o.b.toNat B0)) else (⟨1, 0, ((l.getD o.a.toNat B0)).f⟩ : B) else if (S_rMayBeOther ((l.getD o.a.toNat B0))) = true then if (S_rMayBe0 ((l.getD o.a.toNat B0))) = true then S_rHull (S_rHull ((⟨1, 0, ((l.getD o.a.toNat B0)).f⟩ : B)) ((l.getD o.b.toNat B0))) ((l.getD o.c.toNat B0)) else S_rHull ((⟨1, 0, ((l.getD o.a.toNat B0)).f⟩ : B)) ((l.getD o.b.toNat B0)) else if (S_rMayBe0 ((l.getD o.a.toNat B0))) = true then S_rHull ((⟨1, 0, ((l.getD o.a.toNat B0)).f⟩ : B)) ((l.getD o.c.toNat B0)) else (⟨1, 0, ((l.getD o.a.toNat B0)).f⟩ : B)
end Go.Proofs.YtfhiejgoemcelaaGreat
namespace Go.Proofs.YtfhiejgoemcelaaGreat
open Go Tw
def F_rIsOp (number : Int) (many : Int) (i : Nat) (x : Int) (s : Unit) : (Unit) ⊕ (Nat × Nat × Int × (Unit)) :=
 if (decide (((((i : Nat) : Int))) < (many))) = true then if (!(S_rIn x 0 (IntKind.i64.wrap ((number) - 1)))) = true then .inr (0, i, x, s) else if (decide (((((i : Nat) : Int))) ≥ (many))) = true then if ((x) != 0) = true then .inr (1, i, x, s) else .inl () else .inl () else if (decide (((((i : Nat) : Int))) ≥ (many))) = true then if ((x) != 0) = true then .inr (4, i, x, s) else .inl () else .inl ()
def S_rIsOp (o : O) (number : Int) (choices : Int) : Bool :=
 if (!(S_rIn o.n ((S_rOperands o.code choices).2.1) ((S_rOperands o.code choices).2.2))) = true then false else if (isL (runL (F_rIsOp number ((S_rOperands o.code choices).1)) (([o.a, o.b, o.c] : List Int)) 0 ())) = true then true else if ((getR (0, 0, 0, ()) (runL (F_rIsOp number ((S_rOperands o.code choices).1)) (([o.a, o.b, o.c] : List Int)) 0 ())).1 == 0) = true then false else if ((getR (0, 0, 0, ()) (runL (F_rIsOp number ((S_rOperands o.code choices).1)) (([o.a, o.b, o.c] : List Int)) 0 ())).1 == 1) = true then false else false
end Go.Proofs.YtfhiejgoemcelaaGreat
namespace Go.Proofs.YtfhiejgoemcelaaGreat
open Go Tw
def F_rCheckK  (i : Nat) (x : K) (s : Unit) : (Unit) ⊕ (Nat × Nat × K × (Unit)) :=
 if (!(S_rIn x.lo (-9999) x.hi)) = true then .inr (0, i, x, s) else if (decide ((x.hi) > 9999)) = true then .inr (1, i, x, s) else if (decide ((IntKind.i64.wrap ((x.hi) - (x.lo))) ≥ 12)) = true then .inr (2, i, x, s) else .inl ()
def F_rCheckO (c : C) (i : Nat) (x : O) (s : Unit) : (Unit) ⊕ (Nat × O × (Unit)) :=
 if (!(S_rIsOp x (((i : Nat) : Int)) ((c.cs.length : Nat) : Int))) = true then .inr (i, x, s) else .inl ()
def F_rCheckR (c : C) (i : Nat) (x : Int) (s : Unit) : (Unit) ⊕ (Nat × Int × (Unit)) :=
 if (!(S_rIn x 0 (IntKind.i64.wrap (((c.os.length : Nat) : Int) - 1)))) = true then .inr (i, x, s) else .inl ()
def S_rCheck11 (c : C)  : Int :=
 if (decide (((c.cs.length : Nat) : Int) > 6)) = true then 5 else if (decide (((c.os.length : Nat) : Int) > 3000)) = true then 5 else if (decide (((c.rs.length : Nat) : Int) > 3000)) = true then 5 else if (isL (runL (F_rCheckK ) c.cs 0 ())) = true then if (isL (runL (F_rCheckO c) c.os 0 ())) = true then if (isL (runL (F_rCheckR c) c.rs 0 ())) = true then 0 else 4 else 4 else if ((getR (0, 0, K0, ()) (runL (F_rCheckK ) c.cs 0 ())).1 == 0) = true then 3 else if ((getR (0, 0, K0, ()) (runL (F_rCheckK ) c.cs 0 ())).1 == 1) = true then 3 else 3
def F_rCheckP  (i : Nat) (x : O) (s : Unit) : (Unit) ⊕ (Nat × O × (Unit)) :=
 if ((x.code) == 4) = true then .inr (i, x, s) else .inl ()
def S_rCheck (c : C)  : Int :=
 if ((S_rCheck11 c) != 0) = true then S_rCheck11 c else if (isL (runL (F_rCheckP ) c.os 0 ())) = true then 0 else 9
def F_rMany  (i : Nat) (x : K) (s : Int) : (Int) ⊕ (Empty) :=
 .inl (minI 2001 (IntKind.i64.wrap ((s) * (IntKind.i64.wrap ((IntKind.i64.wrap ((x.hi) - (x.lo))) + 1)))))
def S_rMany (c : C)  : Int :=
 ((getE (runL (F_rMany ) c.cs 0 (1))))
end Go.Proofs.YtfhiejgoemcelaaGreat
namespace Go.Proofs.YtfhiejgoemcelaaGreat
open Go Tw
def F_rAre  (i : Nat) (x : B) (s : Unit) : (Unit) ⊕ (Nat × B × (Unit)) :=
 if (!(S_rValid x)) = true then .inr (i, x, s) else .inl ()
def S_rAreReaches (c : C) (l : List B)  : Bool :=
 if (isL (runL (F_rAre ) l 0 ())) = true then ((l.length : Nat) : Int) == ((c.os.length : Nat) : Int) else false
def F_rWeak (c : C) (l : List B) (i : Nat) (x : O) (s : Unit) : (Unit) ⊕ (Nat × O × (Unit)) :=
 if (!(S_rInside (S_rRule c l x) ((l.getD (((i : Nat) : Int)).toNat B0)))) = true then .inr (i, x, s) else .inl ()
def S_rWeak (c : C) (l : List B)  : Int :=
 if (isL (runL (F_rWeak c l) c.os 0 ())) = true then -1 else (((getR (0, O0, ()) (runL (F_rWeak c l) c.os 0 ())).1 : Int))
end Go.Proofs.YtfhiejgoemcelaaGreat
namespace Go.Proofs.YtfhiejgoemcelaaGreat
open Go Tw
def gOf (c : C) (op : Int) (kn : B) (l : List B) (i : Nat) (o : O) : List B := [if ((i : Int) == op) = true then S_rBoth (S_rRule c l o) kn else S_rRule c l o]
def S_rOf (c : C) (op : Int) (kn : B) : List B := bld (gOf c op kn) c.os 0 []
end Go.Proofs.YtfhiejgoemcelaaGreat
namespace Go.Proofs.YtfhiejgoemcelaaGreat
open Go Tw
def bitsF : Nat → B → Int → Option Int
 | 0, _, _ => none
 | f + 1, r, k => if (!(S_rFits r k)) = true then bitsF f r (IntKind.i64.wrap (k + 1)) else some k
theorem mul_small {x y : Int} (hx0 : -20000 ≤ x) (hx1 : x ≤ 20000) (hy0 : 0 ≤ y) (hy1 : y ≤ 20000) : IntKind.i64.wrap (x * y) = x * y := by
 have h1 : x * y ≤ 20000 * y := Int.mul_le_mul_of_nonneg_right hx1 hy0
 have h2 : -20000 * y ≤ x * y := Int.mul_le_mul_of_nonneg_right hx0 hy0
 exact wrap_small (by omega) (by omega)
def S_quot (a b : Int) : Int := if b < 0 then (-a) / (-b) else a / b
end Go.Proofs.YtfhiejgoemcelaaGreat
namespace Go.Proofs.YtfhiejgoemcelaaGreat
open Go Tw
def S_rOp2 (code : Int) (a : V) (b : V) : V :=
 if (decide ((a.f) > 0)) = true then a else if ((code) == 15) = true then if ((a.n) == 0) = true then a else if ((code) == 16) = true then if ((a.n) != 0) = true then S_rNumber 1 else b else b else if ((code) == 16) = true then if ((a.n) != 0) = true then S_rNumber 1 else b else if (decide ((b.f) > 0)) = true then b else if ((code) == 7) = true then S_rMake (IntKind.i64.wrap ((a.n) + (b.n))) else if ((code) == 8) = true then S_rMake (IntKind.i64.wrap ((a.n) - (b.n))) else if ((code) == 9) = true then S_rMake (IntKind.i64.wrap ((a.n) * (b.n))) else if ((code) == 12) = true then S_rBool ((a.n) == (b.n)) else if ((code) == 13) = true then S_rBool (decide ((a.n) < (b.n))) else if ((code) == 14) = true then S_rBool (decide ((a.n) ≤ (b.n))) else if ((b.n) == 0) = true then S_rFaultV 1 else if ((code) == 10) = true then S_rNumber (S_quot (a.n) (b.n)) else S_rNumber (IntKind.i64.wrap ((a.n) - (IntKind.i64.wrap ((b.n) * (S_quot (a.n) (b.n))))))
def S_rCell (l : List V) (w : List Int) (o : O) : V :=
 if ((o.code) == 1) = true then S_rNumber o.n else if ((o.code) == 2) = true then S_rFaultV (IntKind.u8.wrap (o.n)) else if ((o.code) == 3) = true then S_rNumber ((w.getD o.n.toNat 0)) else if ((o.code) == 17) = true then S_rChoose ((l.getD o.a.toNat V0)) ((l.getD o.b.toNat V0)) ((l.getD o.c.toNat V0)) else if ((o.code) == 5) = true then S_rOp1 o.code ((l.getD o.a.toNat V0)) else if ((o.code) == 6) = true then S_rOp1 o.code ((l.getD o.a.toNat V0)) else S_rOp2 o.code ((l.getD o.a.toNat V0)) ((l.getD o.b.toNat V0))
end Go.Proofs.YtfhiejgoemcelaaGreat
namespace Tw
open Go
def App2 {α : Type} (h0 H : List HB) (x : TV) (sz : Nat) (enc : α → List TV) (l : List α) : Prop :=
 App h0 H x sz enc l ∨ (Onto h0 H ∧ l = [] ∧ ∃ b cs, x = .slc b 0 0 0 sz true ∧ blkCells H b = some cs)
section
variable {P : Program} {α : Type} {h0 H : List HB} {x : TV} {sz : Nat} {enc : α → List TV} {l : List α}
theorem App2.sv (h : App2 h0 H x sz enc l) (hz : ∀ a, (enc a).length = sz) : SV H x sz enc l := by
 rcases h with h | ⟨_, rfl, b, cs, rfl, hb⟩
 ·exact h.sv hz
 ·refine .inr ⟨b, 0, _, _, rfl, by simp, cs, hb, ?_⟩
  unfold sub
  rw [if_pos (by simp)]
  simp
theorem App2.one (h : App2 h0 H x sz enc l) : oneT x = true := by
 rcases h with h | ⟨_, _, b, cs, rfl, _⟩
 ·exact h.one
 ·rfl
theorem App2.cases (h : App2 h0 H x sz enc l) : (x = .nil .slc ∧ l = []) ∨ ∃ b k ex, x = .slc b 0 k k sz ex := by
 rcases h with h | ⟨_, _, b, cs, rfl, _⟩
 ·rcases h.cases with h | ⟨b, k, h⟩
  ·exact .inl h
  ·exact .inr ⟨b, k, false, h⟩
 ·exact .inr ⟨b, 0, true, rfl⟩
theorem App2.app (h : App2 h0 H x sz enc l) (e : List HB) : App2 h0 (H ++ e) x sz enc l := by
 rcases h with h | ⟨ho, hl, b, cs, hx, hb⟩
 ·exact .inl (h.app e)
 ·exact .inr ⟨ho.app e, hl, b, cs, hx, blkCells_app hb⟩
theorem App2.push (h : App2 h0 H x sz enc l) (hz : ∀ a, (enc a).length = sz) (hs : 0 < sz) {st xt e : TypeId} (he : sliceElem P st = some (e, sz)) (hx : (isIntT P xt || (P.underlying xt).isNone) = false) {N : Nat} (hN : bigRoom P e N = true) (hl : l.length < N) (r : α) :
  ∃ x' H' i, appendT P #[st, xt] (onH (H ++ [.cells .own (enc r)])) x (.slc H.length 0 1 1 sz true) = some (x', onH H', i) ∧ App2 h0 H' x' sz enc (l ++ [r]) ∧ ∀ fl ws, fl ≤ h0.length → addKs fl i.ws ws = ws := by
 rcases h with h | ⟨ho, rfl, b, cs, rfl, hb⟩
 ·obtain ⟨x', H', i, h1, h2, h3⟩ := h.push hz hs he hx hN hl r
  exact ⟨x', H', i, h1, .inl h2, h3⟩
 ·have hsrc : srcCells sz (H ++ [.cells .own (enc r)]) (.slc H.length 0 1 1 sz true) = some (1, enc r) := by
   simp only [srcCells, if_true, blkCells_new, Nat.one_mul, sub]
   rw [if_pos (by rw [hz]; omega), List.drop_zero, List.take_of_length_le (by rw [hz]; omega)]
   rfl
  have hat : (#[st, xt] : Array TypeId)[0]? = some st := rfl
  have hat1 : (#[st, xt] : Array TypeId)[1]? = some xt := rfl
  have hlen : (enc r).length = 1 * sz := by rw [hz]; omega
  have hb' := blkCells_app (ext := [HB.cells .own (enc r)]) hb
  have hsub : sub cs 0 0 = some [] := by simp [sub]
  refine ⟨.slc (H ++ [HB.cells .own (enc r)]).length 0 1 1 sz false, (H ++ [HB.cells .own (enc r)]) ++ [.cells .own ([] ++ enc r)], ⟨false, [.h b, .h H.length], []⟩, ?_, ?_, ?_⟩
  ·simp only [appendT, hat, hat1, hx, he, hsrc, hlen, Bool.false_eq_true, if_false, Nat.one_ne_zero, if_true, bigRoom_le hN (show 0 + 1 ≤ N by simp only [List.length_nil] at hl; omega), hb', Nat.zero_mul, hsub, Option.map_some]
   rfl
  ·refine .inl ⟨(ho.app _).app _, .inr ⟨_, .own, rfl, ?_, by simp, by simp, by simp⟩⟩
   obtain ⟨e', rfl⟩ := ho
   simp only [List.length_append]; omega
  ·intro fl ws _; rfl
end
end Tw

namespace Go.Proofs.YtfhiejgoemcelaaGreat
open Go Tw
def VB (v : V) : Prop := -10000 ≤ v.n ∧ v.n ≤ 10000
def S_rAll (c : C) (w : List Int) : List V := bld (fun l _ o => [S_rCell l w o]) c.os 0 []
end Go.Proofs.YtfhiejgoemcelaaGreat
namespace Go.Proofs.YtfhiejgoemcelaaGreat
open Go Tw Pv
noncomputable def oc47 : Orc gam := orcF 47 nilA bA (fun p => S_rNone) np oc98
theorem gc47 : Gd oc47 := gc98.add fun n hO p hp => fn_is hX hO (by kernel_rfl) .rr
noncomputable def oc77 : Orc gam := orcF 77 (a1 bA) tA (fun p => S_rSome p) np oc47
theorem gc77 : Gd oc77 := gc47.add fun n hO p hp => fn_is hX hO (by kernel_rfl) .rr
noncomputable def oc90 : Orc gam := orcF 90 (a1 bA) tA (fun p => S_rMayBe0 p) np oc77
theorem gc90 : Gd oc90 := gc77.add fun n hO p hp => fn_is hX hO (by kernel_rfl) (.ss .rr .rr)
noncomputable def oc89 : Orc gam := orcF 89 (a1 bA) tA (fun p => S_rMayBeOther p) np oc90
theorem gc89 : Gd oc89 := gc90.add fun n hO p hp => fn_is hX hO (by kernel_rfl) (.ss (.ss .rr .rr) .rr)
noncomputable def oc33 : Orc gam := orcF 33 (a1 bA) tA (fun p => S_rValid p) np oc89
theorem gc33 : Gd oc33 := gc89.add fun n hO p hp => fn_is hX hO (by kernel_rfl) (.ss .rr (.ss (.ss .rr (.ss (.ss .rr .rr) .rr)) (.ss (.ss .rr .rr) .rr)))
noncomputable def oc52 : Orc gam := orcF 52 (a2 bA bA) tA (fun p => S_rInside p.1 p.2) np oc33
theorem gc52 : Gd oc52 := gc33.add fun n hO p hp => fn_is hX hO (by kernel_rfl) (.ss (.ss .rr (.ss .rr .rr)) .rr)
noncomputable def oc80 : Orc gam := orcF 80 (a2 bA bA) bA (fun p => S_rHull p.1 p.2) np oc52
theorem gc80 : Gd oc80 := gc52.add fun n hO p hp => fn_is hX hO (by kernel_rfl) (.ss .rr (.ss .rr .rr))
noncomputable def oc82 : Orc gam := orcF 82 (a2 bA iA) bA (fun p => S_rWith p.1 p.2) np oc80
theorem gc82 : Gd oc82 := gc80.add fun n hO p hp => fn_is hX hO (by kernel_rfl) .rr
noncomputable def oc81 : Orc gam := orcF 81 (a1 uA) uA (fun p => S_rFault p) np oc82
theorem gc81 : Gd oc81 := gc82.add fun n hO p hp => fn_is hX hO (by kernel_rfl) (.o (wrap_u8_nn _ : 0 ≤ IntKind.u8.wrap (p - 1)) .rr)
noncomputable def oc170 : Orc gam := orcF 170 (a2 iA iA) iA (fun p => S_rFloor p.1 p.2) (fun p => [p.2 ≠ 0]) oc81
theorem gc170 : Gd oc170 := gc81.add fun n hO p hp => fn_is hX hO (by kernel_rfl) (.o (hp _ (.head _)) (.o (hp _ (.head _)) (.ss (.ss .rr .rr) .rr)))
noncomputable def oc157 : Orc gam := orcF 157 (a3 uA iA iA) iA (fun p => S_rResult p.1 p.2.1 p.2.2) (fun p => [((p.1) == 7) = false → ((p.1) == 8) = false → ((p.1) == 9) = false → p.2.2 ≠ 0]) oc170
theorem gc157 : Gd oc157 := gc170.add fun n hO p hp => fn_is hX hO (by kernel_rfl) (.sh (fun _ => .rr) fun h0 => .sh (fun _ => .rr) fun h1 => .sh (fun _ => .rr) fun h2 => .o (hp _ (.head _) h0 h1 h2) .rr)
noncomputable def oc158 : Orc gam := orcF 158 (a1 bA) bA (fun p => S_rCut p) np oc157
theorem gc158 : Gd oc158 := gc157.add fun n hO p hp => fn_is hX hO (by kernel_rfl) (.ss .rr (.ss (.ss .rr .rr) (.ss (.ss .rr .rr) (.ss .rr .rr))))
noncomputable def oc121 : Orc gam := orcF 121 (a2 bA bA) bA (fun p => S_rRest p.1 p.2) np oc158
theorem gc121 : Gd oc121 := gc158.add fun n hO p hp => fn_is hX hO (by kernel_rfl) (.ss .rr (.ss (.ss (.ss (.ss .rr .rr) .rr) (.ss (.ss .rr .rr) .rr)) (.ss (.ss (.ss .rr .rr) .rr) (.ss (.ss .rr .rr) .rr))))
noncomputable def oc122 : Orc gam := orcF 122 (a2 tA tA) bA (fun p => S_rTruth p.1 p.2) np oc121
theorem gc122 : Gd oc122 := gc121.add fun n hO p hp => fn_is hX hO (by kernel_rfl) (.ss .rr (.ss .rr .rr))
noncomputable def oc59 : Orc gam := orcF 59 (a2 bA bA) bA (fun p => S_rBoth p.1 p.2) np oc122
theorem gc59 : Gd oc59 := gc122.add fun n hO p hp => fn_is hX hO (by kernel_rfl) (.ss .rr (.ss .rr (.ss .rr .rr)))
noncomputable def oc34 : Orc gam := orcF 34 (a1 bA) tA (fun p => S_rEmpty p) np oc59
theorem gc34 : Gd oc34 := gc59.add fun n hO p hp => fn_is hX hO (by kernel_rfl) (.ss .rr .rr)
noncomputable def oc53 : Orc gam := orcF 53 (a2 bA iA) tA (fun p => S_rFits p.1 p.2) np oc34
theorem gc53 : Gd oc53 := gc34.add fun n hO p hp => fn_is hX hO (by kernel_rfl) (.ss .rr (.ss (.o (wrap_u64_nn _ : 0 ≤ IntKind.u64.wrap (IntKind.i64.wrap (p.2 - 1))) (.ss (.o (wrap_u64_nn _ : 0 ≤ IntKind.u64.wrap (IntKind.i64.wrap (p.2 - 1))) .rr) .rr)) .rr))
noncomputable def oc50 : Orc gam := orcF 50 (a2 bA vA) bA (fun p => S_rTake p.1 p.2) np oc53
theorem gc50 : Gd oc50 := gc53.add fun n hO p hp => fn_is hX hO (by kernel_rfl) (.ss .rr .rr)
noncomputable def oc86 : Orc gam := orcF 86 (a3 iA iA iA) tA (fun p => S_rIn p.1 p.2.1 p.2.2) np oc50
theorem gc86 : Gd oc86 := gc50.add fun n hO p hp => fn_is hX hO (by kernel_rfl) (.ss .rr .rr)
noncomputable def oc120 : Orc gam := orcF 120 (a2 uA iA) (tupA (a3 iA iA iA)) (fun p => S_rOperands p.1 p.2) np oc86
theorem gc120 : Gd oc120 := gc86.add fun n hO p hp => fn_is hX hO (by kernel_rfl) (.ss .rr (.ss .rr (.ss .rr (.ss .rr (.ss .rr (.ss .rr (.ss (.ss .rr (.ss .rr .rr)) (.ss .rr .rr))))))))
noncomputable def oc144 : Orc gam := orcF 144 (a1 iA) vA (fun p => S_rNumber p) np oc120
theorem gc144 : Gd oc144 := gc120.add fun n hO p hp => fn_is hX hO (by kernel_rfl) .rr
noncomputable def oc145 : Orc gam := orcF 145 (a1 uA) vA (fun p => S_rFaultV p) np oc144
theorem gc145 : Gd oc145 := gc144.add fun n hO p hp => fn_is hX hO (by kernel_rfl) .rr
noncomputable def oc166 : Orc gam := orcF 166 (a1 tA) vA (fun p => S_rBool p) np oc145
theorem gc166 : Gd oc166 := gc145.add fun n hO p hp => fn_is hX hO (by kernel_rfl) (.ss .rr .rr)
noncomputable def oc167 : Orc gam := orcF 167 (a1 iA) vA (fun p => S_rMake p) np oc166
theorem gc167 : Gd oc167 := gc166.add fun n hO p hp => fn_is hX hO (by kernel_rfl) (.ss .rr (.ss .rr .rr))
noncomputable def oc146 : Orc gam := orcF 146 (a3 vA vA vA) vA (fun p => S_rChoose p.1 p.2.1 p.2.2) np oc167
theorem gc146 : Gd oc146 := gc167.add fun n hO p hp => fn_is hX hO (by kernel_rfl) (.ss .rr (.ss .rr .rr))
noncomputable def oc147 : Orc gam := orcF 147 (a2 uA vA) vA (fun p => S_rOp1 p.1 p.2) np oc146
theorem gc147 : Gd oc147 := gc146.add fun n hO p hp => fn_is hX hO (by kernel_rfl) (.ss .rr (.ss .rr .rr))
noncomputable def oc155 : Orc gam := orcF 155 (a1 bA) isA (fun p => [p.lo, p.hi]) np oc147
theorem gc155 : Gd oc155 := gc147.add fun n hO p hp => fn_is hX hO (by kernel_rfl) .rr
end Go.Proofs.YtfhiejgoemcelaaGreat
namespace Go.Proofs.YtfhiejgoemcelaaGreat
open Go Tw Pv
noncomputable def cA : Arg C := isoA (aggL (a3 ksA osA isA)) (fun p => ⟨p.1, p.2.1, p.2.2⟩) (fun c => (c.cs, c.os, c.rs)) fun _ => rfl
abbrev xC (c : C) : List (PV gam) := [.lst 62 c.cs false, .lst 60 c.os false, .lst 3 c.rs false]
abbrev w48 (c : C) (m i : Int) (x : List (Nat × PE gam)) : PSt gam := ⟨[(1, .loc 0 0), (3, xi m), (4, xi i)] ++ x, [xC c], []⟩
theorem l48 {n : Nat} (hO : Ok n oc155) (c : C) (hl : c.cs.length ≤ most) : Lp n 48 0 (w48 c 1 0 []) (.exit 0) (w48 c (S_rMany c) c.cs.length [(9, xl false)]) :=
 eachE (st := fun i m => w48 c m i []) (g := F_rMany) (s0 := (1 : Int)) (out := fun x => (.exit 0, w48 c (getE x) c.cs.length [(9, xl false)])) K0 (fun _ _ => True) (by kernel_rfl) hl LLm trivial (fun k s n hk _ ih => round hX hO (by kernel_rfl) (.b (lt_nat hk) (.o (inR_nat hk) (.o (inR_nat hk) (.nx (ih _ trivial)))))) (fun s _ => round hX hO (by kernel_rfl) (.b (lt_no c.cs.length) (.ou nofun)))
noncomputable def oc48 : Orc gam := orcF 48 (a1 cA) iA S_rMany (fun p => [p.cs.length ≤ most]) oc155
theorem gc48 : Gd oc48 := gc155.add fun n hO p hp => fn_is hX hO (by kernel_rfl) (.w (l48 hO p (hp _ (.head _))) .rr)
abbrev w87 (o : O) (m r i : Int) (x : List (Nat × PE gam)) (l : List (List (PV gam))) : PSt gam := ⟨[(1, xi m), (7, xi r), (10, .val (.own 0)), (11, xi i)] ++ x, l, [.list true true 3 ([o.a, o.b, o.c] : List Int)]⟩
def z87 (o : O) (m r : Int) : Unit ⊕ (Nat × Nat × Int × Unit) → Ex × PSt gam
 | .inl _ => (.exit 0, w87 o m r 3 [(34, xl false)] [])
 | .inr _ => (.ret, ⟨[(6, xl false)], [], [.list true true 3 ([o.a, o.b, o.c] : List Int)]⟩)
theorem l87 {n : Nat} (hO : Ok n oc48) (o : O) (m r : Int) : Lp n 87 0 (w87 o m r 0 [] [o.ps]) (z87 o m r (runL (F_rIsOp m r) [o.a, o.b, o.c] 0 ())).1 (z87 o m r (runL (F_rIsOp m r) [o.a, o.b, o.c] 0 ())).2 :=
 eachE (st := fun i _ => w87 o m r i [] []) (0 : Int) (fun _ _ => True) (by kernel_rfl) le3 LLm trivial (fun k s n hk _ ih => round hX hO (by kernel_rfl) (.b (lt_nat hk) (.ls (.o (inR_nat hk) (.ls (.ou nofun) (.ls (.o (inR_nat hk) (.ls (.ou nofun) (.nx (ih _ trivial)))) (.nx (ih _ trivial))))) (.ls (.o (inR_nat hk) (.ls (.ou nofun) (.nx (ih _ trivial)))) (.nx (ih _ trivial)))))) (fun s _ => round hX hO (by kernel_rfl) (.b (lt_no 3) (.ou nofun)))
noncomputable def oc87 : Orc gam := orcF 87 (a3 oA iA iA) tA (fun p => S_rIsOp p.1 p.2.1 p.2.2) np oc48
theorem gc87 : Gd oc87 := gc48.add fun n hO p hp => fn_is hX hO (by kernel_rfl) (.ss .rr (.zh (fun h => .w (exInl (l87 hO p.1 _ _) () h) .rr) (fun h => .w (exInr (l87 hO p.1 _ _) (0, 0, 0, ()) h) (.v false (by simp only [ite_self])))))
theorem len_le {n : Nat} {m : Int} (h : decide ((n : Int) > m) = false) (hm : m ≤ 3000) : n ≤ most := by
 simp only [decide_eq_false_iff_not] at h
 unfold most; omega
abbrev wC (c : C) (t : Nat) (i : Int) (x : List (Nat × PE gam)) : PSt gam := ⟨[(1, .loc 0 0), (t, xi i)] ++ x, [xC c], []⟩
abbrev rC (c : C) (t : Nat) (v : Int) (l : List (List (PV gam))) : Ex × PSt gam := (.ret, ⟨[(t, xi v)], xC c :: l, []⟩)
def z57a (c : C) : Unit ⊕ (Nat × Nat × K × Unit) → Ex × PSt gam
 | .inl _ => (.exit 0, wC c 3 c.cs.length [(27, xl false)])
 | .inr r => rC c 2 3 [r.2.2.1.ps]
theorem l57a {n : Nat} (hO : Ok n oc87) (c : C) (hl : c.cs.length ≤ most) : Lp n 57 0 (wC c 3 0 []) (z57a c (runL F_rCheckK c.cs 0 ())).1 (z57a c (runL F_rCheckK c.cs 0 ())).2 :=
 eachE (st := fun i _ => wC c 3 i []) K0 (fun _ _ => True) (by kernel_rfl) hl LLm trivial (fun k s n hk _ ih => round hX hO (by kernel_rfl) (.b (lt_nat hk) (.o (inR_nat hk) (.ls (.ou nofun) (.ls (.ou nofun) (.ls (.ou nofun) (.nx (ih _ trivial)))))))) (fun s _ => round hX hO (by kernel_rfl) (.b (lt_no c.cs.length) (.ou nofun)))
def z57b (c : C) : Unit ⊕ (Nat × O × Unit) → Ex × PSt gam
 | .inl _ => (.exit 2, wC c 5 c.os.length [(58, xl false)])
 | .inr _ => rC c 2 4 []
theorem l57b {n : Nat} (hO : Ok n oc87) (c : C) (hl : c.os.length ≤ most) : Lp n 57 1 (wC c 5 0 []) (z57b c (runL (F_rCheckO c) c.os 0 ())).1 (z57b c (runL (F_rCheckO c) c.os 0 ())).2 :=
 eachE (st := fun i _ => wC c 5 i []) O0 (fun _ _ => True) (by kernel_rfl) hl LLm trivial (fun k s n hk _ ih => round hX hO (by kernel_rfl) (.b (lt_nat hk) (.o (inR_nat hk) (.ls (.ou nofun) (.nx (ih _ trivial)))))) (fun s _ => round hX hO (by kernel_rfl) (.b (lt_no c.os.length) (.ou nofun)))
def z57c (c : C) : Unit ⊕ (Nat × Int × Unit) → Ex × PSt gam
 | .inl _ => (.exit 4, wC c 6 c.rs.length [(76, xl false)])
 | .inr _ => rC c 2 4 []
theorem l57c {n : Nat} (hO : Ok n oc87) (c : C) (hl : c.rs.length ≤ most) : Lp n 57 2 (wC c 6 0 []) (z57c c (runL (F_rCheckR c) c.rs 0 ())).1 (z57c c (runL (F_rCheckR c) c.rs 0 ())).2 :=
 eachE (st := fun i _ => wC c 6 i []) (0 : Int) (fun _ _ => True) (by kernel_rfl) hl LLm trivial (fun k s n hk _ ih => round hX hO (by kernel_rfl) (.b (lt_nat hk) (.o (inR_nat hk) (.ls (.ou nofun) (.nx (ih _ trivial)))))) (fun s _ => round hX hO (by kernel_rfl) (.b (lt_no c.rs.length) (.ou nofun)))
noncomputable def oc57 : Orc gam := orcF 57 (a1 cA) iA S_rCheck11 np oc87
theorem gc57 : Gd oc57 := gc87.add fun n hO p hp => fn_is hX hO (by kernel_rfl) (.sh (fun _ => .rr) fun h1 => .sh (fun _ => .rr) fun h2 => .sh (fun _ => .rr) fun h3 =>
 .zh (fun h => .w (exInl (l57a hO p (len_le h1 (by decide))) () h) (.zh (fun h => .w (exInl (l57b hO p (len_le h2 (by decide))) () h) (.zh (fun h => .w (exInl (l57c hO p (len_le h3 (by decide))) () h) .rr)
  (fun h => .w (exInr (l57c hO p (len_le h3 (by decide))) (0, 0, ()) h) .rr))) (fun h => .w (exInr (l57b hO p (len_le h2 (by decide))) (0, O0, ()) h) .rr))) (fun h => .w (exInr (l57a hO p (len_le h1 (by decide))) (0, 0, K0, ()) h) (.v 3 (by simp only [ite_self]))))
def z21 (c : C) : Unit ⊕ (Nat × O × Unit) → Ex × PSt gam
 | .inl _ => (.exit 0, wC c 4 c.os.length [(14, xl false)])
 | .inr _ => rC c 2 9 []
theorem l21 {n : Nat} (hO : Ok n oc57) (c : C) (hl : c.os.length ≤ most) : Lp n 21 0 (wC c 4 0 []) (z21 c (runL F_rCheckP c.os 0 ())).1 (z21 c (runL F_rCheckP c.os 0 ())).2 :=
 eachE (st := fun i _ => wC c 4 i []) O0 (fun _ _ => True) (by kernel_rfl) hl LLm trivial (fun k s n hk _ ih => round hX hO (by kernel_rfl) (.b (lt_nat hk) (.o (inR_nat hk) (.ls (.ou nofun) (.nx (ih _ trivial)))))) (fun s _ => round hX hO (by kernel_rfl) (.b (lt_no c.os.length) (.ou nofun)))
theorem rCheck11_os {c : C} (h : ((S_rCheck11 c) != 0) = false) : c.os.length ≤ most := by
 unfold S_rCheck11 at h
 split at h
 ·cases h
 split at h
 ·cases h
 rename_i h2
 exact len_le (by simpa using h2) (by decide)
noncomputable def oc21 : Orc gam := orcF 21 (a1 cA) iA S_rCheck np oc57
theorem gc21 : Gd oc21 := gc57.add fun n hO p hp => fn_is hX hO (by kernel_rfl) (.sh (fun _ => .rr) fun h0 => .zh (fun h => .w (exInl (l21 hO p (rCheck11_os h0)) () h) .rr) (fun h => .w (exInr (l21 hO p (rCheck11_os h0)) (0, O0, ()) h) .rr))
end Go.Proofs.YtfhiejgoemcelaaGreat
namespace Go.Proofs.YtfhiejgoemcelaaGreat
open Go Tw Pv
abbrev Rh (n f k m : Nat) (s : PSt gam) (e : Ex) (p : PSt gam) : Prop := RoundsH X0 Tryz.prog T (ApN n) LL f false (ntP Tryz.prog f) 0 (bodyP Tryz.prog f k) m s e p
abbrev wQ (a b v : Int) (x : List (Nat × PE gam)) : PSt gam := ⟨[(0, xi a), (1, xi b), (5, xi v)] ++ x, [], []⟩
theorem q0 {n : Nat} (hO : Ok n oc21) (a b : Int) (hb0 : 0 < b) (hb1 : b ≤ 10000) (ha0 : 0 ≤ a) (ha1 : a ≤ 10000) : ∀ (d : Nat), (d : Int) ≤ a / b → Rh n 168 0 (d + 1) (wQ a b (a / b - d) []) (.exit 0) (wQ a b (a / b) [(17, xl false)]) := by
 have hq1 : a / b ≤ a := Int.ediv_le_self b ha0
 have hlt : a < (a / b + 1) * b := by have := Int.lt_ediv_add_one_mul_self a hb0; exact this
 have hle : a / b * b ≤ a := Int.ediv_mul_le a (by omega)
 intro d
 induction d with
 | zero =>
  intro hd
  rw [show a / b - ((0 : Nat) : Int) = a / b by omega]
  exact round hX hO (by kernel_rfl) (.b (show decide (IntKind.i64.wrap (IntKind.i64.wrap (a / b + 1) * b) ≤ a) = false by rw [wrap_small (z := a / b + 1) (by omega) (by omega), mul_small (by omega) (by omega) (by omega) (by omega)]; simp only [decide_eq_false_iff_not]; omega) .ex)
 | succ d ih =>
  intro hd
  have hdd : (d : Int) + 1 ≤ a / b := by omega
  have hm1 : (a / b - d) * b ≤ a := by
   have : (a / b - d) * b ≤ (a / b) * b := Int.mul_le_mul_of_nonneg_right (by omega) (by omega)
   omega
  have h := ih (by omega)
  rw [← show IntKind.i64.wrap (a / b - ((d + 1 : Nat) : Int) + 1) = a / b - d by rw [wrap_small (by omega) (by omega)]; omega] at h
  exact round hX hO (by kernel_rfl) (.b (show decide (IntKind.i64.wrap (IntKind.i64.wrap (a / b - ((d + 1 : Nat) : Int) + 1) * b) ≤ a) = true by
   rw [wrap_small (z := a / b - ((d + 1 : Nat) : Int) + 1) (by omega) (by omega), show a / b - ((d + 1 : Nat) : Int) + 1 = a / b - d by omega, mul_small (by omega) (by omega) (by omega) (by omega)]
   simp only [decide_eq_true_eq]; exact hm1) (.go h))
theorem q0n {n : Nat} (hO : Ok n oc21) (a b : Int) (hb0 : 0 < b) (hb1 : b ≤ 10000) (ha0 : a < 0) : Rh n 168 0 1 (wQ a b 0 []) (.exit 0) (wQ a b 0 [(17, xl false)]) :=
 round hX hO (by kernel_rfl) (.b (show decide (IntKind.i64.wrap (IntKind.i64.wrap (0 + 1) * b) ≤ a) = false by rw [wrap_small (z := 0 + 1) (by omega) (by omega), mul_small (by omega) (by omega) (by omega) (by omega)]; simp only [decide_eq_false_iff_not]; omega) .ex)
theorem q1 {n : Nat} (hO : Ok n oc21) (a b : Int) (hb0 : 0 < b) (hb1 : b ≤ 10000) (ha0 : -10000 ≤ a) (ha1 : a ≤ 10000) : ∀ (d : Nat), (d : Int) ≤ 10000 → Rh n 168 1 (d + 1) (wQ a b (a / b + d) []) (.exit 2) (wQ a b (a / b) [(24, xl false)]) := by
 have hq1 : a / b ≤ 10000 := by
  rcases Int.lt_or_le a 0 with h | h
  ·have := Int.ediv_neg_of_neg_of_pos h hb0; omega
  ·have := Int.ediv_le_self b h; omega
 have hlt : a < (a / b + 1) * b := by have := Int.lt_ediv_add_one_mul_self a hb0; exact this
 have hle : a / b * b ≤ a := Int.ediv_mul_le a (by omega)
 have hq0 : -10000 ≤ a / b := by
  have h1 : (-10000 : Int) * b ≤ a := by
   have : (-10000 : Int) * b ≤ (-10000) * 1 := by omega
   omega
  exact (Int.le_ediv_iff_mul_le hb0).mpr h1
 intro d
 induction d with
 | zero =>
  intro hd
  rw [show a / b + ((0 : Nat) : Int) = a / b by omega]
  exact round hX hO (by kernel_rfl) (.b (show decide (IntKind.i64.wrap (a / b * b) > a) = false by rw [mul_small (by omega) (by omega) (by omega) (by omega)]; simp only [decide_eq_false_iff_not]; omega) .ex)
 | succ d ih =>
  intro hd
  have hm1 : a < (a / b + (d + 1 : Nat)) * b := by
   have : (a / b + 1) * b ≤ (a / b + (d + 1 : Nat)) * b := Int.mul_le_mul_of_nonneg_right (by omega) (by omega)
   omega
  have h := ih (by omega)
  rw [← show IntKind.i64.wrap (a / b + ((d + 1 : Nat) : Int) - 1) = a / b + d by rw [wrap_small (by omega) (by omega)]; omega] at h
  exact round hX hO (by kernel_rfl) (.b (show decide (IntKind.i64.wrap ((a / b + ((d + 1 : Nat) : Int)) * b) > a) = true by
   rw [mul_small (by omega) (by omega) (by omega) (by omega)]
   simp only [decide_eq_true_eq]; exact hm1) (.go h))
theorem qq {n : Nat} (hO : Ok n oc21) (a b : Int) (hb0 : 0 < b) (hb1 : b ≤ 10000) (ha0 : -10000 ≤ a) (ha1 : a ≤ 10000) : ∃ v0, Lp n 168 0 (wQ a b 0 []) (.exit 0) (wQ a b v0 [(17, xl false)]) ∧ Lp n 168 1 (wQ a b v0 [(17, xl false)]) (.exit 2) (wQ a b (a / b) [(24, xl false)]) := by
 have lm : ∀ (d : Nat), (d : Int) ≤ 10000 → d + 1 ≤ LL := by
  intro d h
  have : 10001 ≤ LL := by decide
  omega
 rcases Int.lt_or_le a 0 with ha | ha
 ·have hneg := Int.ediv_neg_of_neg_of_pos ha hb0
  have hq0 : -10000 ≤ a / b := by
   have h1 : (-10000 : Int) * b ≤ a := by
    have : (-10000 : Int) * b ≤ (-10000) * 1 := by omega
    omega
   exact (Int.le_ediv_iff_mul_le hb0).mpr h1
  refine ⟨0, loopH_of (q0n hO a b hb0 hb1 ha) (by kernel_rfl) (by decide), ?_⟩
  have := q1 hO a b hb0 hb1 ha0 ha1 (-(a / b)).toNat (by omega)
  rw [show a / b + ((-(a / b)).toNat : Int) = 0 by omega] at this
  exact loopH_of this (by kernel_rfl) (lm _ (by omega))
 ·have hq1 : a / b ≤ a := Int.ediv_le_self b ha
  have hq0 : 0 ≤ a / b := Int.ediv_nonneg ha (by omega)
  refine ⟨a / b, ?_, ?_⟩
  ·have := q0 hO a b hb0 hb1 ha ha1 (a / b).toNat (by omega)
   rw [show a / b - ((a / b).toNat : Int) = 0 by omega] at this
   exact loopH_of this (by kernel_rfl) (lm _ (by omega))
  ·have := q1 hO a b hb0 hb1 ha0 ha1 0 (by omega)
   rw [show a / b + ((0 : Nat) : Int) = a / b by omega] at this
   exact loopH_of this (by kernel_rfl) (by decide)
abbrev inN (x : Int) : Prop := -10000 ≤ x ∧ x ≤ 10000
noncomputable def oc168 : Orc gam := orcF 168 (a2 iA iA) iA (fun p => S_quot p.1 p.2) (fun p => [p.2 ≠ 0, inN p.1, inN p.2]) oc21
theorem gc168 : Gd oc168 := gc21.add fun n hO p hp => by
 obtain ⟨a, b⟩ := p
 have h1 : b ≠ 0 := hp _ (.head _)
 have h2 : inN a := hp _ (.tail _ (.head _))
 have h3 : inN b := hp _ (.tail _ (.tail _ (.head _)))
 by_cases hs : b < 0
 ·obtain ⟨v0, e1, e2⟩ := qq hO (-a) (-b) (by omega) (by omega) (by omega) (by omega)
  rw [← show IntKind.i64.wrap (0 - a) = -a by rw [wrap_small (by omega) (by omega)]; omega, ← show IntKind.i64.wrap (0 - b) = -b by rw [wrap_small (by omega) (by omega)]; omega] at e1 e2
  refine fn_is hX hO (by kernel_rfl) (.b (show decide (b < 0) = true by simpa using hs) <| .w e1 <| .w e2 <| .v (IntKind.i64.wrap (0 - a) / IntKind.i64.wrap (0 - b)) ?_)
  simp only [S_quot]
  rw [if_pos hs, wrap_small (by omega) (by omega), wrap_small (by omega) (by omega), Int.zero_sub, Int.zero_sub]
 ·obtain ⟨v0, e1, e2⟩ := qq hO a b (by omega) (by omega) (by omega) (by omega)
  refine fn_is hX hO (by kernel_rfl) (.b (show decide (b < 0) = false by simpa using hs) <| .w e1 <| .w e2 <| .v (a / b) ?_)
  simp only [S_quot]
  rw [if_neg hs]
end Go.Proofs.YtfhiejgoemcelaaGreat
namespace Go.Proofs.YtfhiejgoemcelaaGreat
open Go Tw Pv
theorem RuleOk.ge5 {o : O} {l m : Nat} (hk : RuleOk o l m) (h0 : (o.code == 1) = false) (h1 : (o.code == 2) = false) (h2 : (o.code == 3) = false) : 5 ≤ o.code := by
 have g1 := hk.lo; have g3 := hk.no
 simp only [beq_eq_false_iff_ne, ne_eq] at h0 h1 h2
 omega
theorem RuleOk.ge7 {o : O} {l m : Nat} (hk : RuleOk o l m) (h0 : (o.code == 1) = false) (h1 : (o.code == 2) = false) (h2 : (o.code == 3) = false) (h4 : (o.code == 5) = false) (h5 : (o.code == 6) = false) : 7 ≤ o.code := by
 have g := hk.ge5 h0 h1 h2
 simp only [beq_eq_false_iff_ne, ne_eq] at h4 h5
 omega
theorem ge17 {o : O} (h : (o.code == 17) = true) : 7 ≤ o.code := by
 simp only [beq_iff_eq] at h
 omega
noncomputable def oc148 : Orc gam := orcF 148 (a3 uA vA vA) vA (fun p => S_rOp2 p.1 p.2.1 p.2.2) (fun p => [inN p.2.1.n, inN p.2.2.n]) oc168
theorem gc148 : Gd oc148 := gc168.add fun n hO p hp => fn_is hX hO (by kernel_rfl) (.sh (fun h0 => .rr) fun h0 => (.sh (fun h1 => (.sh (fun h2 => .rr) fun h2 => (.sh (fun h3 => (.sh (fun h4 => .rr) fun h4 => (.b h1 .rr))) fun h3 => (.b h1 .rr)))) fun h1 => (.sh (fun h2 => (.sh (fun h3 => .rr) fun h3 => (.b h1 (.b h2 .rr)))) fun h2 => (.b h1 (.b h2 (.sh (fun h3 => .rr) fun h3 => (.sh (fun h4 => .rr) fun h4 => (.sh (fun h5 => .rr) fun h5 => (.sh (fun h6 => .rr) fun h6 => (.sh (fun h7 => .rr) fun h7 => (.sh (fun h8 => .rr) fun h8 => (.sh (fun h9 => .rr) fun h9 => (.sh (fun h10 => .rr) fun h10 => (.o (show p.2.2.n ≠ 0 by simpa using h10) (.o (hp _ (.head _)) (.o (hp _ (.tail _ (.head _))) (.sh (fun h11 => .rr) fun h11 => .rr)))))))))))))))))
noncomputable def oc114 : Orc gam := orcF 114 (a3 oA vsA isA) vA (fun p => S_rCell p.2.1 p.2.2 p.1) (fun p => [RuleOk p.1 p.2.1.length p.2.2.length, ∀ i : Int, 0 ≤ i → i < p.2.1.length → inN (p.2.1.getD i.toNat V0).n]) oc148
theorem gc114 : Gd oc114 := gc148.add fun n hO p hp => by
 have hk : RuleOk p.1 p.2.1.length p.2.2.length := hp _ (.head _)
 have hv : ∀ i : Int, 0 ≤ i → i < p.2.1.length → inN (p.2.1.getD i.toNat V0).n := hp _ (.tail _ (.head _))
 exact fn_is hX hO (by kernel_rfl) (.sh (fun h0 => .rr) fun h0 => (.sh (fun h1 => .rr) fun h1 => (.sh (fun h2 => (.o (hk.ch (by simpa using h2)) .rr)) fun h2 => (.sh (fun h3 => (.o (hk.a (hk.ge5 h0 h1 h2)) (.o (hk.b (ge17 h3)) (.o (hk.c (by simpa using h3)) .rr)))) fun h3 => (.sh (fun h4 => (.o (hk.a (hk.ge5 h0 h1 h2)) .rr)) fun h4 => (.sh (fun h5 => (.o (hk.a (hk.ge5 h0 h1 h2)) .rr)) fun h5 => (.o (hk.a (hk.ge5 h0 h1 h2)) (.o (hk.b (hk.ge7 h0 h1 h2 h4 h5)) (.o (hv _ (hk.a (hk.ge5 h0 h1 h2)).1 (hk.a (hk.ge5 h0 h1 h2)).2) (.o (hv _ (hk.b (hk.ge7 h0 h1 h2 h4 h5)).1 (hk.b (hk.ge7 h0 h1 h2 h4 h5)).2) .rr))))))))))
end Go.Proofs.YtfhiejgoemcelaaGreat
namespace Go.Proofs.YtfhiejgoemcelaaGreat
open Go Tw Pv
abbrev w74 (c : C) (w : List Int) (k : Bool) (i : Int) (acc : List V) (x : List (Nat × PE gam)) : PSt gam := ⟨[(1, xL 3 w), (2, .loc 0 0), (5, .val (.own 0)), (6, xi i)] ++ x, [xC c], [.list k k 78 acc]⟩
def AllOk (c : C) (w : List Int) : Prop := c.os.length ≤ most ∧ (∀ (i : Nat) (o : O), c.os[i]? = some o → RuleOk o i w.length) ∧ ∀ (i : Nat) (o : O) (l : List V), c.os[i]? = some o → l.length = i → (∀ v ∈ l, VB v) → VB (S_rCell l w o)
theorem getD_at {α : Type} {l : List α} {k : Nat} (h : k < l.length) (d : α) : l[k]? = some (l.getD k d) := by simp [List.getD, List.getElem?_eq_getElem h]
theorem l74 {n : Nat} (hO : Ok n oc114) (c : C) (w : List Int) (hk : AllOk c w) : Lp n 74 0 (w74 c w false 0 [] []) (.exit 0) (w74 c w false c.os.length (S_rAll c w) [(12, xl false)]) :=
 eachB O0 (st := fun i l => w74 c w false i l []) (fin := fun l => w74 c w false c.os.length l [(12, xl false)]) (fun k l => l.length = k ∧ ∀ v ∈ l, VB v) (by kernel_rfl) hk.1 LLm ⟨rfl, by simp⟩
  (fun k s h hi => ⟨by simp [hi.1], fun v hv => by
   rw [List.mem_append] at hv
   rcases hv with hv | hv
   ·exact hi.2 v hv
   ·rw [List.mem_singleton] at hv; subst hv
    exact hk.2.2 k _ s (getD_at h _) hi.1 hi.2⟩)
  (fun k s h hi n e p hr => round hX hO (by kernel_rfl) (.b (lt_nat h) <| .o (inR_nat h) <| .o (show RuleOk (c.os.getD k O0) s.length w.length by rw [hi.1]; exact hk.2.1 k _ (getD_at h _)) <| .o (show ∀ i : Int, 0 ≤ i → i < s.length → inN (s.getD i.toNat V0).n from fun j j0 j1 => by
    have hj : j.toNat < s.length := by omega
    have := hi.2 (s[j.toNat]) (List.getElem_mem hj)
    simpa [List.getD, List.getElem?_eq_getElem hj, VB] using this) <| .o (show s.length + 1 ≤ most by have := hk.1; rw [hi.1]; omega) <| .goG [.gc [2]] hr))
  (fun s _ => round hX hO (by kernel_rfl) (.b (lt_no c.os.length) .ex))
noncomputable def oc74 : Orc gam := orcF 74 (a2 cA isA) vsA (fun p => S_rAll p.1 p.2) (fun p => [AllOk p.1 p.2]) oc114
theorem gc74 : Gd oc74 := gc114.add fun n hO p hp => fn_is hX hO (by kernel_rfl) (.wG [.flag 0] (l74 hO p.1 p.2 (hp _ (.head _))) .rr)
end Go.Proofs.YtfhiejgoemcelaaGreat
namespace Go.Proofs.YtfhiejgoemcelaaGreat
open Go Tw Pv
abbrev dl (r : B) : List Int := [r.lo, r.hi, -1, 1]
abbrev w156 (r : B) (i : Int) (acc : List Int) (x : List (Nat × PE gam)) : PSt gam := ⟨[(1, .loc 0 0), (3, .val (.own 1)), (4, .val (.own 0)), (5, xi i)] ++ x, [r.ps], [.list true true 3 (dl r), .list false false 3 acc]⟩
theorem l156 {n : Nat} (hO : Ok n oc74) (r : B) : Lp n 156 0 (w156 r 0 [] []) (.exit 0) (w156 r 4 (S_rDivisors r) [(14, xl false)]) := by
 rw [show S_rDivisors r = bld (fun _ _ a => if isDiv r a = true then [a] else []) (dl r) 0 [] by rw [bld_filter]; rfl]
 refine eachB (0 : Int) (l := dl r) (s0 := ([] : List Int)) (st := fun i l => w156 r i l []) (fin := fun l => w156 r 4 l [(14, xl false)]) (fun k l => l.length ≤ k) (by kernel_rfl) le4 LLm (Nat.le_refl _) (fun k s h hi => ?_) (fun k s h hi n e p hr => ?_) (fun s _ => round hX hO (by kernel_rfl) (.b (lt_no 4) .ex))
 ·rw [List.length_append]
  split
  ·simp; omega
  ·simp; omega
 ·have hy : isDiv r ((dl r).getD k 0) = true → RoundsH X0 Tryz.prog T (ApN _) LL 156 false (ntP Tryz.prog 156) 0 (bodyP Tryz.prog 156 0) n (w156 r (IntKind.i64.wrap (k + 1)) (s ++ [(dl r).getD k 0]) []) e p := fun hd => by rw [if_pos hd] at hr; exact hr
  have hn : isDiv r ((dl r).getD k 0) = false → RoundsH X0 Tryz.prog T (ApN _) LL 156 false (ntP Tryz.prog 156) 0 (bodyP Tryz.prog 156 0) n (w156 r (IntKind.i64.wrap (k + 1)) s []) e p := fun hd => by rw [if_neg (by rw [hd]; simp), List.append_nil] at hr; exact hr
  have hm : s.length + 1 ≤ most := by have : (dl r).length = 4 := rfl; have := le4; unfold most at *; omega
  exact round hX hO (by kernel_rfl) (.b (lt_nat h) <| .o (inR_nat h) <| .s (fun (h1 : ((dl r).getD k 0 != 0) = true) => .o (inR_nat h) <| .s (fun (h2 : decide (r.lo ≤ (dl r).getD k 0) = true) => .o (inR_nat h) <| .s (fun (h3 : decide ((dl r).getD k 0 ≤ r.hi) = true) => .o (inR_nat h) <| .o hm <| .goG [.gc [0, 3]] (hy (by simp only [isDiv, h1, h2, h3, Bool.and_self]))) (fun (h3 : decide ((dl r).getD k 0 ≤ r.hi) = false) => .go (hn (by simp only [isDiv, h3, Bool.and_false]))))
   (fun (h2 : decide (r.lo ≤ (dl r).getD k 0) = false) => .go (hn (by simp only [isDiv, h2, Bool.false_and, Bool.and_false])))) (fun (h1 : ((dl r).getD k 0 != 0) = false) => .go (hn (by simp only [isDiv, h1, Bool.false_and]))))
noncomputable def oc156 : Orc gam := orcF 156 (a1 bA) isA S_rDivisors np oc74
theorem gc156 : Gd oc156 := gc74.add fun n hO p hp => fn_is hX hO (by kernel_rfl) (.wG [.nilE 3 3] (l156 hO p) .rr)
abbrev w123 (code : Int) (a b : B) (xs ys : List Int) (i j : Int) (o : B) (x : List (Nat × PE gam)) : PSt gam := ⟨[(0, xu code), (6, .loc 2 0), (7, .loc 3 0), (8, xL 3 xs), (9, xL 3 ys), (10, xi i), (11, xi j)] ++ x, [a.ps, b.ps, B0.ps, o.ps], []⟩
theorem l123 {n : Nat} (hO : Ok n oc156) (code : Int) (a b o : B) (xs ys : List Int) {i : Nat} (hi : i < xs.length) (hy : ys.length ≤ most) (hz : (code == 7) = false → (code == 8) = false → (code == 9) = false → ∀ x ∈ ys, x ≠ 0) :
  Lp n 123 1 (w123 code a b xs ys i 0 o []) (.exit 2) (w123 code a b xs ys i ys.length (getE (runL (F_rCounted (xs.getD i 0) code) ys 0 o)) [(30, xl false)]) :=
 eachE (st := fun j o => w123 code a b xs ys i j o []) (out := fun x => (.exit 2, w123 code a b xs ys i ys.length (getE x) [(30, xl false)])) (0 : Int) (fun _ _ => True) (by kernel_rfl) hy LLm trivial
  (fun k s n hk _ ih => round hX hO (by kernel_rfl) (.b (lt_nat hk) (.o (inR_nat hi) (.o (inR_nat hk) (.o (show (code == 7) = false → (code == 8) = false → (code == 9) = false → ys.getD k 0 ≠ 0 from fun h1 h2 h3 => hz h1 h2 h3 _ (by
   have := getD_at hk (0 : Int)
   exact List.mem_of_getElem? this)) (.nx (ih _ trivial))))))) (fun s _ => round hX hO (by kernel_rfl) (.b (lt_no ys.length) (.ou nofun)))
noncomputable def oc123 : Orc gam := orcF 123 (a3 uA bA bA) bA (fun p => S_rCounted p.1 p.2.1 p.2.2) (fun p => [7 ≤ p.1 ∧ p.1 ≤ 10]) oc156
theorem gc123 : Gd oc123 := gc156.add fun n hO p hp => by
 obtain ⟨code, a, b⟩ := p
 have hc : 7 ≤ code ∧ code ≤ 10 := hp _ (.head _)
 have h2 : (S_rDivisors b).length ≤ most := by have := rDivisors_len (r := b); unfold most; omega
 have l0 : ∀ (ys : List Int), ys.length ≤ most → ((code == 7) = false → (code == 8) = false → (code == 9) = false → ∀ x ∈ ys, x ≠ 0) → ∀ o, _ := fun ys h1 h2 o => l123 hO code a b o [a.lo, a.hi] ys (i := 0) (by simp) h1 h2
 have l1 : ∀ (ys : List Int), ys.length ≤ most → ((code == 7) = false → (code == 8) = false → (code == 9) = false → ∀ x ∈ ys, x ≠ 0) → ∀ o, _ := fun ys h1 h2 o => l123 hO code a b o [a.lo, a.hi] ys (i := 1) (by simp) h1 h2
 have hd : (code == 7) = false → (code == 8) = false → (code == 9) = false → ∀ x ∈ S_rDivisors b, x ≠ 0 := fun _ _ _ x hx => rDivisors_ne hx
 exact fn_is hX hO (by kernel_rfl) (.sh (fun h0 => .m 8 le8 <| .b (rfl : true = true) <| .w (l0 (S_rDivisors b) h2 hd ⟨1, 0, 0⟩) <| .b (rfl : true = true) <| .w (l1 (S_rDivisors b) h2 hd (getE (runL (F_rCounted a.lo code) (S_rDivisors b) 0 ⟨1, 0, 0⟩))) <| .b (rfl : false = false) .rr) fun h0 => by
  have hn : (code == 7) = false → (code == 8) = false → (code == 9) = false → ∀ x ∈ [b.lo, b.hi], x ≠ 0 := fun g1 g2 g3 => by simp only [beq_eq_false_iff_ne, ne_eq] at *; omega
  exact .m 8 le8 <| .b (rfl : true = true) <| .w (l0 [b.lo, b.hi] le2 hn ⟨1, 0, 0⟩) <| .b (rfl : true = true) <| .w (l1 [b.lo, b.hi] le2 hn (getE (runL (F_rCounted a.lo code) [b.lo, b.hi] 0 ⟨1, 0, 0⟩))) <| .b (rfl : false = false) .rr)
end Go.Proofs.YtfhiejgoemcelaaGreat
namespace Go.Proofs.YtfhiejgoemcelaaGreat
open Go Tw Pv
theorem c710 {k : Int} (g : 7 ≤ k ∧ k ≤ 14) (h1 : (k == 11) = false) (h2 : (k == 12) = false) (h3 : (k == 13) = false) (h4 : (k == 14) = false) : 7 ≤ k ∧ k ≤ 10 := by
 simp only [beq_eq_false_iff_ne, ne_eq] at h1 h2 h3 h4
 omega
noncomputable def oc88 : Orc gam := orcF 88 (a3 uA bA bA) bA (fun p => S_rPair p.1 p.2.1 p.2.2) (fun p => [7 ≤ p.1 ∧ p.1 ≤ 14]) oc123
theorem gc88 : Gd oc88 := gc123.add fun n hO p hp => fn_is hX hO (by kernel_rfl) (.sh (fun h0 => .rr) fun h0 => (.sh (fun h1 => (.sh (fun h2 => (.sh (fun h3 => .rr) fun h3 => .rr)) fun h2 => (.b h1 (.sh (fun h3 => .rr) fun h3 => .rr)))) fun h1 => (.sh (fun h2 => (.sh (fun h3 => (.sh (fun h4 => (.sh (fun h5 => (.sh (fun h6 => (.sh (fun h7 => .rr) fun h7 => .rr)) fun h6 => (.b h1 .rr))) fun h5 => (.sh (fun h6 => (.sh (fun h7 => .rr) fun h7 => .rr)) fun h6 => (.b h1 .rr)))) fun h4 => (.sh (fun h5 => (.sh (fun h6 => (.sh (fun h7 => .rr) fun h7 => .rr)) fun h6 => (.b h1 .rr))) fun h5 => (.sh (fun h6 => (.sh (fun h7 => .rr) fun h7 => .rr)) fun h6 => (.b h1 .rr))))) fun h3 => (.sh (fun h4 => (.sh (fun h5 => (.sh (fun h6 => .rr) fun h6 => .rr)) fun h5 => (.b h1 .rr))) fun h4 => (.sh (fun h5 => (.sh (fun h6 => .rr) fun h6 => .rr)) fun h5 => (.b h1 .rr))))) fun h2 => (.sh (fun h3 => (.sh (fun h4 => (.sh (fun h5 => .rr) fun h5 => .rr)) fun h4 => (.b h1 .rr))) fun h3 => (.sh (fun h4 => (.sh (fun h5 => (.sh (fun h6 => .rr) fun h6 => .rr)) fun h5 => (.b h1 .rr))) fun h4 => (.o (c710 (hp _ (.head _)) h1 h2 h3 h4) (.sh (fun h5 => (.sh (fun h6 => .rr) fun h6 => .rr)) fun h5 => (.b h1 .rr))))))))
noncomputable def oc58 : Orc gam := orcF 58 (a3 cA oA bsA) bA (fun p => S_rRule p.1 p.2.2 p.2.1) (fun p => [RuleOk p.2.1 p.2.2.length p.1.cs.length]) oc88
theorem gc58 : Gd oc58 := gc88.add fun n hO p hp => by
 have hk : RuleOk p.2.1 p.2.2.length p.1.cs.length := hp _ (.head _)
 have g1 := hk.lo
 have g2 := hk.hi
 have g3 := hk.no
 exact fn_is hX hO (by kernel_rfl) (.sh (fun h0 => .rr) fun h0 => (.sh (fun h1 => .rr) fun h1 => (.sh (fun h2 => (.o (hk.ch (by simpa using h2)) (.o (hk.ch (by simpa using h2)) .rr))) fun h2 => (.o (hk.a (hk.ge5 h0 h1 h2)) (.sh (fun h3 => .rr) fun h3 => (.sh (fun h4 => (.sh (fun h5 => (.o (hk.b (by simp only [beq_iff_eq, beq_eq_false_iff_ne, ne_eq, decide_eq_true_eq, decide_eq_false_iff_not] at *; omega)) (.o (show 7 ≤ p.2.1.code ∧ p.2.1.code ≤ 14 by simp only [beq_iff_eq, beq_eq_false_iff_ne, ne_eq, decide_eq_true_eq, decide_eq_false_iff_not] at *; omega) .rr))) fun h5 => (.sh (fun h6 => .rr) fun h6 => (.sh (fun h7 => (.sh (fun h8 => (.sh (fun h9 => .rr) fun h9 => .rr)) fun h8 => (.sh (fun h9 => .rr) fun h9 => .rr))) fun h7 => (.sh (fun h8 => (.o (hk.b (by simp only [beq_iff_eq, beq_eq_false_iff_ne, ne_eq, decide_eq_true_eq, decide_eq_false_iff_not] at *; omega)) (.sh (fun h9 => (.sh (fun h10 => .rr) fun h10 => .rr)) fun h9 => (.sh (fun h10 => .rr) fun h10 => .rr)))) fun h8 => (.sh (fun h9 => (.o (hk.b (by simp only [beq_iff_eq, beq_eq_false_iff_ne, ne_eq, decide_eq_true_eq, decide_eq_false_iff_not] at *; omega)) (.sh (fun h10 => (.sh (fun h11 => .rr) fun h11 => .rr)) fun h10 => (.sh (fun h11 => .rr) fun h11 => .rr)))) fun h9 => (.o (hk.b (by simp only [beq_iff_eq, beq_eq_false_iff_ne, ne_eq, decide_eq_true_eq, decide_eq_false_iff_not] at *; omega)) (.o (hk.c (by simp only [beq_iff_eq, beq_eq_false_iff_ne, ne_eq, decide_eq_true_eq, decide_eq_false_iff_not] at *; omega)) (.sh (fun h10 => (.sh (fun h11 => .rr) fun h11 => .rr)) fun h10 => (.sh (fun h11 => .rr) fun h11 => .rr)))))))))) fun h4 => (.sh (fun h5 => .rr) fun h5 => (.sh (fun h6 => (.sh (fun h7 => (.sh (fun h8 => .rr) fun h8 => .rr)) fun h7 => (.sh (fun h8 => .rr) fun h8 => .rr))) fun h6 => (.sh (fun h7 => (.o (hk.b (by simp only [beq_iff_eq, beq_eq_false_iff_ne, ne_eq, decide_eq_true_eq, decide_eq_false_iff_not] at *; omega)) (.sh (fun h8 => (.sh (fun h9 => .rr) fun h9 => .rr)) fun h8 => (.sh (fun h9 => .rr) fun h9 => .rr)))) fun h7 => (.sh (fun h8 => (.o (hk.b (by simp only [beq_iff_eq, beq_eq_false_iff_ne, ne_eq, decide_eq_true_eq, decide_eq_false_iff_not] at *; omega)) (.sh (fun h9 => (.sh (fun h10 => .rr) fun h10 => .rr)) fun h9 => (.sh (fun h10 => .rr) fun h10 => .rr)))) fun h8 => (.o (hk.b (by simp only [beq_iff_eq, beq_eq_false_iff_ne, ne_eq, decide_eq_true_eq, decide_eq_false_iff_not] at *; omega)) (.o (hk.c (by simp only [beq_iff_eq, beq_eq_false_iff_ne, ne_eq, decide_eq_true_eq, decide_eq_false_iff_not] at *; omega)) (.sh (fun h9 => (.sh (fun h10 => .rr) fun h10 => .rr)) fun h9 => (.sh (fun h10 => .rr) fun h10 => .rr))))))))))))))
end Go.Proofs.YtfhiejgoemcelaaGreat
namespace Go.Proofs.YtfhiejgoemcelaaGreat
open Go Tw Pv
abbrev w23 (c : C) (op : Int) (kn : B) (i : Int) (acc : List B) (x : List (Nat × PE gam)) : PSt gam := ⟨[(1, xi op), (3, .loc 0 0), (5, .loc 1 0), (7, .val (.own 0)), (8, xi i)] ++ x, [xC c, kn.ps], [.list false false 38 acc]⟩
theorem l23 {n : Nat} (hO : Ok n oc58) (c : C) (op : Int) (kn : B) (hlo : c.os.length ≤ most) (hok : ∀ (i : Nat) (o : O), c.os[i]? = some o → RuleOk o i c.cs.length) : Lp n 23 0 (w23 c op kn 0 [] []) (.exit 0) (w23 c op kn c.os.length (S_rOf c op kn) [(14, xl false)]) := by
 refine eachB O0 (l := c.os) (s0 := ([] : List B)) (g := gOf c op kn) (st := fun i l => w23 c op kn i l []) (fin := fun l => w23 c op kn c.os.length l [(14, xl false)]) (fun k l => l.length = k) (by kernel_rfl) hlo LLm rfl (fun k s h hi => by simp [gOf, hi]) (fun k s h hi n e p hr => ?_) (fun s _ => round hX hO (by kernel_rfl) (.b (lt_no c.os.length) .ex))
 have hy : ((k : Int) == op) = true → RoundsH X0 Tryz.prog T (ApN _) LL 23 false (ntP Tryz.prog 23) 0 (bodyP Tryz.prog 23 0) n (w23 c op kn (IntKind.i64.wrap (k + 1)) (s ++ [S_rBoth (S_rRule c s (c.os.getD k O0)) kn]) []) e p := fun hd => by simp only [gOf, if_pos hd] at hr; exact hr
 have hn : ((k : Int) == op) = false → RoundsH X0 Tryz.prog T (ApN _) LL 23 false (ntP Tryz.prog 23) 0 (bodyP Tryz.prog 23 0) n (w23 c op kn (IntKind.i64.wrap (k + 1)) (s ++ [S_rRule c s (c.os.getD k O0)]) []) e p := fun hd => by simp only [gOf, hd, Bool.false_eq_true, if_false] at hr; exact hr
 have hm : s.length + 1 ≤ most := by rw [hi]; omega
 have hk : RuleOk (c.os.getD k O0) s.length c.cs.length := by rw [hi]; exact hok k _ (getD_at h _)
 exact round hX hO (by kernel_rfl) (.b (lt_nat h) <| .o (inR_nat h) <| .o hk <| .s (fun h1 => .o hm <| .goG [.gc [2]] (hy h1)) (fun h1 => .o hm <| .goG [.gc [2]] (hn h1)))
noncomputable def oc23 : Orc gam := orcF 23 (a3 cA iA bA) bsA (fun p => S_rOf p.1 p.2.1 p.2.2) (fun p => [p.1.os.length ≤ most, ∀ (i : Nat) (o : O), p.1.os[i]? = some o → RuleOk o i p.1.cs.length]) oc58
theorem gc23 : Gd oc23 := gc58.add fun n hO p hp => fn_is hX hO (by kernel_rfl) (.wG [.nilE 7 38] (l23 hO p.1 p.2.1 p.2.2 (hp _ (.head _)) (hp _ (.tail _ (.head _)))) .rr)
abbrev w27 (c : C) (l : List B) (i : Int) (x : List (Nat × PE gam)) : PSt gam := ⟨[(1, xL 38 l), (2, .loc 0 0), (5, xi i)] ++ x, [xC c], []⟩
def z27 (c : C) (l : List B) : Unit ⊕ (Nat × B × Unit) → Ex × PSt gam
 | .inl _ => (.exit 0, w27 c l l.length [(9, xl false)])
 | .inr _ => (.ret, ⟨[(4, xl false)], [xC c], []⟩)
theorem l27 {n : Nat} (hO : Ok n oc23) (c : C) (l : List B) (hl : l.length ≤ most) : Lp n 27 0 (w27 c l 0 []) (z27 c l (runL F_rAre l 0 ())).1 (z27 c l (runL F_rAre l 0 ())).2 :=
 eachE (st := fun i _ => w27 c l i []) B0 (fun _ _ => True) (by kernel_rfl) hl LLm trivial (fun k s n hk _ ih => round hX hO (by kernel_rfl) (.b (lt_nat hk) (.o (inR_nat hk) (.ls (.ou nofun) (.nx (ih _ trivial)))))) (fun s _ => round hX hO (by kernel_rfl) (.b (lt_no l.length) (.ou nofun)))
noncomputable def oc27 : Orc gam := orcF 27 (a2 cA bsA) tA (fun p => S_rAreReaches p.1 p.2) (fun p => [p.2.length ≤ most]) oc23
theorem gc27 : Gd oc27 := gc23.add fun n hO p hp => fn_is hX hO (by kernel_rfl) (.zh (fun h => .w (exInl (l27 hO p.1 p.2 (hp _ (.head _))) () h) .rr) (fun h => .w (exInr (l27 hO p.1 p.2 (hp _ (.head _))) (0, B0, ()) h) .rr))
def z28 (c : C) (l : List B) : Unit ⊕ (Nat × O × Unit) → Ex × PSt gam
 | .inl _ => (.exit 0, w27 c l c.os.length [(10, xl false)])
 | .inr r => (.ret, ⟨[(4, xi r.1)], [xC c], []⟩)
theorem l28 {n : Nat} (hO : Ok n oc27) (c : C) (l : List B) (hl : c.os.length ≤ most) (hok : ∀ (i : Nat) (o : O), c.os[i]? = some o → RuleOk o l.length c.cs.length ∧ i < l.length) : Lp n 28 0 (w27 c l 0 []) (z28 c l (runL (F_rWeak c l) c.os 0 ())).1 (z28 c l (runL (F_rWeak c l) c.os 0 ())).2 :=
 eachE (st := fun i _ => w27 c l i []) O0 (fun _ _ => True) (by kernel_rfl) hl LLm trivial (fun k s n hk _ ih => round hX hO (by kernel_rfl) (.b (lt_nat hk) (.o (inR_nat hk) (.o (hok k _ (getD_at hk O0)).1 (.o (inR_nat (hok k _ (getD_at hk O0)).2) (.ls (.ou nofun) (.nx (ih _ trivial)))))))) (fun s _ => round hX hO (by kernel_rfl) (.b (lt_no c.os.length) (.ou nofun)))
noncomputable def oc28 : Orc gam := orcF 28 (a2 cA bsA) iA (fun p => S_rWeak p.1 p.2) (fun p => [p.1.os.length ≤ most, ∀ (i : Nat) (o : O), p.1.os[i]? = some o → RuleOk o p.2.length p.1.cs.length ∧ i < p.2.length]) oc27
theorem gc28 : Gd oc28 := gc27.add fun n hO p hp => fn_is hX hO (by kernel_rfl) (.zh (fun h => .w (exInl (l28 hO p.1 p.2 (hp _ (.head _)) (hp _ (.tail _ (.head _)))) () h) .rr) (fun h => .w (exInr (l28 hO p.1 p.2 (hp _ (.head _)) (hp _ (.tail _ (.head _)))) (0, O0, ()) h) .rr))
end Go.Proofs.YtfhiejgoemcelaaGreat
namespace Go.Proofs.YtfhiejgoemcelaaGreat
open Go Tw
def F_indexV (g : V → Bool) (i : Nat) (x : V) (s : Unit) : (Unit) ⊕ (Nat × V × (Unit)) :=
 if (g x) = true then .inr (i, x, s) else .inl ()
def S_IndexFuncV (g : V → Bool) (l : List V)  : Int :=
 if (isL (runL (F_indexV g) l 0 ())) = true then -1 else (((getR (0, V0, ()) (runL (F_indexV g) l 0 ())).1 : Int))
def S_ContainsFuncV (g : V → Bool) (l : List V)  : Bool :=
 decide ((S_IndexFuncV g l) ≥ 0)
theorem indexV (g : V → Bool) : ∀ (l : List V) (i : Nat), isL (runL (F_indexV g) l i ()) = !(l.any g)
 | [], i => rfl
 | x :: l, i => by
  simp only [runL, F_indexV, List.any_cons]
  cases g x with
  | true => rfl
  | false => simpa using indexV g l (i + 1)
theorem containsV (g : V → Bool) (l : List V) : S_ContainsFuncV g l = l.any g := by
 have := indexV g l 0
 unfold S_ContainsFuncV S_IndexFuncV
 rw [this]
 cases l.any g with
 | true => simp
 | false => simp
theorem indexV_lt (g : V → Bool) : ∀ (l : List V) (i : Nat), isL (runL (F_indexV g) l i ()) = false → (getR (0, V0, ()) (runL (F_indexV g) l i ())).1 < i + l.length ∧ l[(getR (0, V0, ()) (runL (F_indexV g) l i ())).1 - i]? = l.find? g ∧ i ≤ (getR (0, V0, ()) (runL (F_indexV g) l i ())).1
 | [], i, h => by cases h
 | x :: l, i, h => by
  simp only [runL, F_indexV] at h ⊢
  by_cases hx : g x = true
  ·simp only [hx, if_true, getR, List.length_cons, List.find?_cons]
   refine ⟨by omega, by simp, by omega⟩
  ·simp only [Bool.not_eq_true] at hx
   simp only [hx, Bool.false_eq_true, if_false, List.length_cons, List.find?_cons] at h ⊢
   obtain ⟨h1, h2, h3⟩ := indexV_lt g l (i + 1) h
   refine ⟨by omega, ?_, by omega⟩
   rw [← h2, show (getR (0, V0, ()) (runL (F_indexV g) l (i + 1) ())).1 - i = ((getR (0, V0, ()) (runL (F_indexV g) l (i + 1) ())).1 - (i + 1)) + 1 by omega]
   simp
theorem IndexFuncV_lt (g : V → Bool) (l : List V) : S_IndexFuncV g l < l.length := by
 unfold S_IndexFuncV
 split
 ·omega
 ·rename_i h
  have := (indexV_lt g l 0 (by simpa using h)).1
  omega
def S_isNaN (x : Int) : Bool :=
 (x) != (x)
def S_Compare (x : Int) (y : Int) : Int :=
 if (decide ((x) < (y))) = true then -1 else if (decide ((x) > (y))) = true then 1 else 0
def S_vfault (f : Int) : V :=
 (⟨f, 0⟩ : V)
def S_within1V (x : Int) (lo : Int) (hi : Int) : Bool :=
 if (decide ((x) < (lo))) = true then true else decide ((x) > (hi))
def S_withinV (l : List Int) (lo : Int) (hi : Int) : Bool :=
 !(l.any ((fun x => S_within1V x lo hi)))
def S_isCell (v : V) : Bool :=
 if ((v.f) == 0) = true then S_withinV (([v.n] : List Int)) (-9999) 9999 else if (decide ((v.f) ≤ 4)) = true then (v.n) == 0 else false
def S_vMake (k : Int) : V :=
 if (!(S_withinV (([k] : List Int)) (-9999) 9999)) = true then S_vfault 2 else (⟨0, k⟩ : V)
def S_vtruth (is : Bool) : V :=
 if is = true then S_vMake 1 else S_vMake 0
def S_solo1 (a : Int) : V :=
 S_vMake (IntKind.i64.wrap (0 - (a)))
def S_solo2 (a : Int) : V :=
 S_vtruth ((a) == 0)
def S_first1 (v : V) : Bool :=
 (v.f) != 0
def S_are1 (v : V) : Bool :=
 !(S_isCell v)
def S_firstFault (l : List V)  : V × Bool :=
 if (decide ((S_IndexFuncV ((fun v => S_first1 v)) l) < 0)) = true then ((⟨0, 0⟩ : V), false) else ((l.getD (S_IndexFuncV ((fun v => S_first1 v)) l).toNat V0), true)
def S_areCells (l : List V)  : Bool :=
 !(l.any ((fun v => S_are1 v)))
def S_vChoose (a : V) (b : V) (c : V) : V × Int :=
 if (!(S_areCells (([a, b, c] : List V)))) = true then ((⟨0, 0⟩ : V), 2) else if ((a.f) != 0) = true then (a, 0) else if ((a.n) == 0) = true then (c, 0) else (b, 0)
end Go.Proofs.YtfhiejgoemcelaaGreat
namespace Go.Proofs.YtfhiejgoemcelaaGreat
open Go Tw
def S_duo1 (a : Int) (b : Int) : V :=
 S_vMake (IntKind.i64.wrap ((a) + (b)))
def S_duo2 (a : Int) (b : Int) : V :=
 S_vMake (IntKind.i64.wrap ((a) - (b)))
def S_duo3 (a : Int) (b : Int) : V :=
 S_vMake (IntKind.i64.wrap ((a) * (b)))
def S_duo4 (a : Int) (b : Int) : Int :=
 a
def S_duo5 (a : Int) (b : Int) : Int :=
 b
def S_duo6 (a : Int) : Bool :=
 (a) == 0
def S_duo7 (a : Int) : Bool :=
 decide ((a) < 0)
def S_duo8 (a : Int) : Bool :=
 decide ((a) ≤ 0)
def S_vquotient (a : Int) (b : Int) : Int × Int :=
 if ((remI .i64 (a) (b)) != 0) = true then if ((decide ((remI .i64 (a) (b)) < 0)) != (decide ((b) < 0))) = true then (IntKind.i64.wrap ((quoI .i64 (a) (b)) - 1), IntKind.i64.wrap ((remI .i64 (a) (b)) + (b))) else (quoI .i64 (a) (b), remI .i64 (a) (b)) else (quoI .i64 (a) (b), remI .i64 (a) (b))
def S_divided1 (g : Int → Int → Int) (a : Int) (b : Int) : V :=
 if ((b) == 0) = true then S_vfault 1 else S_vMake (g ((S_vquotient a b).1) ((S_vquotient a b).2))
def S_compared1 (g : Int → Bool) (a : Int) (b : Int) : V :=
 S_vtruth (g (S_Compare a b))
def S_vOp1_5 (a : V) : V × Int :=
 if (!(S_isCell a)) = true then ((⟨0, 0⟩ : V), 2) else if ((S_firstFault (([a] : List V))).2) = true then ((S_firstFault (([a] : List V))).1, 0) else (S_solo1 a.n, 0)
def S_vOp1_6 (a : V) : V × Int :=
 if (!(S_isCell a)) = true then ((⟨0, 0⟩ : V), 2) else if ((S_firstFault (([a] : List V))).2) = true then ((S_firstFault (([a] : List V))).1, 0) else (S_solo2 a.n, 0)
def S_vOp2_7 (a : V) (b : V) : V × Int :=
 if (!(S_areCells (([a, b] : List V)))) = true then ((⟨0, 0⟩ : V), 2) else if ((S_firstFault (([a, b] : List V))).2) = true then ((S_firstFault (([a, b] : List V))).1, 0) else (S_duo1 a.n b.n, 0)
def S_vOp2_8 (a : V) (b : V) : V × Int :=
 if (!(S_areCells (([a, b] : List V)))) = true then ((⟨0, 0⟩ : V), 2) else if ((S_firstFault (([a, b] : List V))).2) = true then ((S_firstFault (([a, b] : List V))).1, 0) else (S_duo2 a.n b.n, 0)
def S_vOp2_9 (a : V) (b : V) : V × Int :=
 if (!(S_areCells (([a, b] : List V)))) = true then ((⟨0, 0⟩ : V), 2) else if ((S_firstFault (([a, b] : List V))).2) = true then ((S_firstFault (([a, b] : List V))).1, 0) else (S_duo3 a.n b.n, 0)
def S_vOp2_10 (a : V) (b : V) : V × Int :=
 if (!(S_areCells (([a, b] : List V)))) = true then ((⟨0, 0⟩ : V), 2) else if ((S_firstFault (([a, b] : List V))).2) = true then ((S_firstFault (([a, b] : List V))).1, 0) else (S_divided1 S_duo4 (a.n) (b.n), 0)
def S_vOp2_11 (a : V) (b : V) : V × Int :=
 if (!(S_areCells (([a, b] : List V)))) = true then ((⟨0, 0⟩ : V), 2) else if ((S_firstFault (([a, b] : List V))).2) = true then ((S_firstFault (([a, b] : List V))).1, 0) else (S_divided1 S_duo5 (a.n) (b.n), 0)
def S_vOp2_12 (a : V) (b : V) : V × Int :=
 if (!(S_areCells (([a, b] : List V)))) = true then ((⟨0, 0⟩ : V), 2) else if ((S_firstFault (([a, b] : List V))).2) = true then ((S_firstFault (([a, b] : List V))).1, 0) else (S_compared1 S_duo6 (a.n) (b.n), 0)
def S_vOp2_13 (a : V) (b : V) : V × Int :=
 if (!(S_areCells (([a, b] : List V)))) = true then ((⟨0, 0⟩ : V), 2) else if ((S_firstFault (([a, b] : List V))).2) = true then ((S_firstFault (([a, b] : List V))).1, 0) else (S_compared1 S_duo7 (a.n) (b.n), 0)
def S_vOp2_14 (a : V) (b : V) : V × Int :=
 if (!(S_areCells (([a, b] : List V)))) = true then ((⟨0, 0⟩ : V), 2) else if ((S_firstFault (([a, b] : List V))).2) = true then ((S_firstFault (([a, b] : List V))).1, 0) else (S_compared1 S_duo8 (a.n) (b.n), 0)
def S_vOp2_15 (a : V) (b : V) : V × Int :=
 ((S_vChoose a b (S_vMake 0)).1, (S_vChoose a b (S_vMake 0)).2)
def S_vOp2_16 (a : V) (b : V) : V × Int :=
 ((S_vChoose a (S_vMake 1) b).1, (S_vChoose a (S_vMake 1) b).2)
end Go.Proofs.YtfhiejgoemcelaaGreat
namespace Go.Proofs.YtfhiejgoemcelaaGreat
open Go Tw
def S_vOp1 (code : Int) (a : V) : V := if code = 5 then (S_vOp1_5 a).1 else (S_vOp1_6 a).1
def S_vOp2 (code : Int) (a b : V) : V :=
 if code = 7 then (S_vOp2_7 a b).1 else if code = 8 then (S_vOp2_8 a b).1 else if code = 9 then (S_vOp2_9 a b).1 else if code = 10 then (S_vOp2_10 a b).1 else if code = 11 then (S_vOp2_11 a b).1 else if code = 12 then (S_vOp2_12 a b).1 else if code = 13 then (S_vOp2_13 a b).1 else if code = 14 then (S_vOp2_14 a b).1 else if code = 15 then (S_vOp2_15 a b).1 else (S_vOp2_16 a b).1
def S_cell (l : List V) (w : List Int) (o : O) : V :=
 if o.code = 1 then S_vMake o.n else if o.code = 2 then ⟨IntKind.u8.wrap o.n, 0⟩ else if o.code = 3 then S_vMake (w.getD o.n.toNat 0)
 else if o.code = 5 ∨ o.code = 6 then S_vOp1 o.code (l.getD o.a.toNat V0)
 else if o.code = 17 then (S_vChoose (l.getD o.a.toNat V0) (l.getD o.b.toNat V0) (l.getD o.c.toNat V0)).1
 else S_vOp2 o.code (l.getD o.a.toNat V0) (l.getD o.b.toNat V0)
def S_isParam (o : O) : Bool :=
 (o.code) == 4
def S_isWorld1 (x : K) (k : Int) : Bool :=
 S_within (([k] : List Int)) (x.lo) (x.hi)
def F_isWorld (w : List Int) (i : Nat) (x : K) (s : Unit) : (Unit) ⊕ (Nat × K × (Unit)) :=
 if (!(S_isWorld1 x ((w.getD (((i : Nat) : Int)).toNat 0)))) = true then .inr (i, x, s) else .inl ()
def S_EqualFunc (l : List K) (w : List Int)  : Bool :=
 if (((l.length : Nat) : Int) != ((w.length : Nat) : Int)) = true then false else if (isL (runL (F_isWorld w) l 0 ())) = true then true else false
def S_isWorld (c : C) (w : List Int)  : Bool :=
 S_EqualFunc c.cs w
end Go.Proofs.YtfhiejgoemcelaaGreat
namespace Go.Proofs.YtfhiejgoemcelaaGreat
open Go Tw
def S_AllL (c : C) (w : List Int) : List V := bld (fun l _ o => [S_cell l w o]) c.os 0 []
def S_All (c : C) (w : List Int) : List V × Int :=
 if ((S_Check c) != 0) = true then ([], S_Check c) else if (c.os.any (fun o => S_isParam o)) = true then ([], 9) else if (!(S_isWorld c w)) = true then ([], 3) else (S_AllL c w, 0)
theorem isWorld_len {c : C} {w : List Int} (h : S_isWorld c w = true) : c.cs.length = w.length := by
 unfold S_isWorld S_EqualFunc at h
 split at h
 ·cases h
 ·rename_i h1
  simp only [Bool.not_eq_true, bne_eq_false_iff_eq] at h1
  omega
end Go.Proofs.YtfhiejgoemcelaaGreat
namespace Pv
open Go Tw
def isValP {Γ : Nat → Type} : PE Γ → Bool
 | .val _ => true
 | _ => false
def pputAll {Γ : Nat → Type} (env : List (Nat × PE Γ)) : List Nat → List (PV Γ) → List (Nat × PE Γ)
 | p :: ps, v :: vs => pputAll ((p, .val v) :: env) ps vs
 | _, _ => env
section
variable {X : Cod} {P : Program} {T : Tab} {A W : Nat → Prop} {m m' : List MB} {h h' : List HB} {L f nt B : Nat}
theorem isVal_VR {env : List (Nat × PE X.Γ)} {env' : List (Nat × EV)} (he : EnvR X P A m h env env') (hv : (env.all fun p => isValP p.2) = true) : env'.all isVal = true := by
 induction he with
 | nil => rfl
 | cons h1 _ ih =>
  rename_i k v x r r' _
  simp only [List.all_cons, Bool.and_eq_true] at hv ⊢
  refine ⟨?_, ih hv.2⟩
  cases v with
  | val v => obtain ⟨y, rfl, _⟩ := per_val h1; rfl
  | _ => simp [isValP] at hv
theorem putAll_VR : ∀ {ps : List Nat} {vs : List (PV X.Γ)} {xs : List TV} {env : List (Nat × PE X.Γ)} {env' : List (Nat × EV)}, EnvR X P A m h env env' → VRs X P A m h vs xs → EnvR X P A m h (pputAll env ps vs) (putAll env' ps xs)
 | [], vs, xs, _, _, he, hv => by simpa [pputAll, putAll] using he
 | p :: ps, [], xs, _, _, he, hv => by rw [hv.inv0]; simpa [pputAll, putAll] using he
 | p :: ps, v :: vs, xs, _, _, he, hv => by
  obtain ⟨x, r, rfl, h1, h2⟩ := hv.inv
  simp only [pputAll, putAll]
  exact putAll_VR (EnvR.cons (v := .val v) (x := .val x) h1 he) h2
theorem rf_exec (hX : CodOk X P) {call : CallT} {g : Operand} {qs : Array Nat} {asg body : Code} {ps : PSt X.Γ} {f1 : FuncId} {a1 b1 : List (PV X.Γ)} {v : PV X.Γ} {H1 : List (PB X.Γ)} {rd : Bool} {f2 nt2 : Nat} {e2 : List (Nat × PE X.Γ)} {ps2 : List Nat} {a2 b2 : Code} {pend : Option Code} {e : Ex}
  (hg : pvO ps.env g = some (.fn f1 a1 b1)) (hall : (ps.env.all fun p => isValP p.2) = true)
  (hsim : Sim X P call (.fn f1 a1 b1) [.yld (ps.heap.length + 1)] (ps.heap ++ [.mark] ++ [.loop true f nt ps.env qs.toList asg body none]) v H1)
  (hl : H1[ps.heap.length + 1]? = some (.loop rd f2 nt2 e2 ps2 a2 b2 pend)) (hj : jumpT rd pend = some e) :
  ExecS X P T call L f false nt B (.rangeFunc g qs asg body) ps e { ps with heap := H1.set (ps.heap.length + 1) (.loop false f2 nt2 e2 ps2 a2 b2 (some .skip)) } := by
 intro A W fl m ts hS
 obtain ⟨tg, g1, g2⟩ := vO_VR hS.st.env hg
 have hm := hS.st.heap.len
 obtain ⟨p1, p2, p3⟩ := hS.st.heap.push (pb := .mark) (hb := .mark) (mb := .blk ts.heap.length) (.inl rfl) (by simp [BR])
 obtain ⟨q1, q2, q3⟩ := p1.push (pb := .loop true f nt ps.env qs.toList asg body none) (hb := .loop true f nt ts.env qs.toList asg body none) (mb := .blk (ts.heap.length + 1)) (.inl (by simp [MB.own])) (by
  refine ⟨ts.env, by simp, ?_⟩
  refine EnvR.step (m := m) (h := ts.heap) (A := A) ?_ ?_ hS.st.env
  ·have r2 : Fr (m ++ [MB.blk ts.heap.length]) (ts.heap ++ [HB.mark]) (m ++ [MB.blk ts.heap.length] ++ [MB.blk (ts.heap.length + 1)]) (ts.heap ++ [HB.mark] ++ [HB.loop true f nt ts.env qs.toList asg body none]) := by
    refine ⟨by simp, fun b hb _ => by rw [List.getElem?_append_left hb], fun b hb => ?_, fun b cs hc => ⟨cs, ?_, Nat.le_refl _⟩⟩
    ·rw [blks_app, List.mem_append, blks_one] at hb
     rcases hb with hb | hb
     ·exact .inl hb
     ·simp [MB.own] at hb; subst hb; exact .inr (by simp)
    ·rw [blkCells_same (List.getElem?_append_left (blkCells_lt hc)), hc]
   exact p2.trans r2
  ·exact p3.trans (up_app _))
 have hF := p2.trans q2
 have hU := p3.trans q3
 have hyl : VR X P (AA A (m ++ [MB.blk ts.heap.length] ++ [MB.blk (ts.heap.length + 1)])) (m ++ [MB.blk ts.heap.length] ++ [MB.blk (ts.heap.length + 1)]) (ts.heap ++ [HB.mark] ++ [HB.loop true f nt ts.env qs.toList asg body none]) (.yld (ps.heap.length + 1)) (.yld (ts.heap.length + 1)) := by
  refine .yld ?_
  rw [← hm, List.getElem?_append_right (by simp)]
  simp
 obtain ⟨w, h1, ws, m1, c1, c2, c3, c4, c5, c6⟩ := hsim A _ _ tg [.yld (ts.heap.length + 1)] q1 (g2.step hF hU) (.cons hyl .nil)
 have hm1 : m1[ps.heap.length + 1]? = some (.blk (ts.heap.length + 1)) := by
  rcases c5 (ps.heap.length + 1) (.blk (ts.heap.length + 1)) (by rw [← hm, List.getElem?_append_right (by simp)]; simp) with e | e
  ·exact e
  ·obtain ⟨mb, k1, k2⟩ := c2.at_ _ _ hl
   rw [e] at k1; cases k1
   exact k2.elim
 obtain ⟨mb, k1, k2⟩ := c2.at_ _ _ hl
 rw [hm1] at k1; cases k1
 obtain ⟨e2', k3, k4⟩ := k2
 obtain ⟨s1, s2⟩ := c2.set (i := ps.heap.length + 1) (c := ts.heap.length + 1) (pb := .loop false f2 nt2 e2 ps2 a2 b2 (some .skip)) (hb := .loop false f2 nt2 e2' ps2 a2 b2 (some .skip)) hm1 rfl (fun cs hc => by unfold blkCells at hc; rw [k3] at hc; cases hc) (fun hF => ⟨e2', by rw [List.getElem?_set_self (List.getElem?_eq_some_iff.1 k3).1], k4.step hF .refl⟩)
 have hF2 := hF.trans (c4.trans s2)
 have hU2 := hU.trans c5
 refine ⟨{ ts with heap := h1.set (ts.heap.length + 1) (.loop false f2 nt2 e2' ps2 a2 b2 (some .skip)), ws := addKs fl (ws.map .h) ts.ws }, m1, ?_, ⟨?_, fun b hb => ?_, fun b hb => ?_, ?_⟩, hF2, hU2.b⟩
 ·have hg' : ∃ a1' b1', tg = .fn f1 a1' b1' := by
   cases g2 with
   | gone hi _ _ => simp [idOf] at hi
   | fn _ _ _ _ => exact ⟨_, _, rfl⟩
  obtain ⟨a1', b1', rfl⟩ := hg'
  simp only [exec, g1, isVal_VR hS.st.env hall, Bool.not_false, Bool.and_self, if_true]
  rw [show ts.heap ++ [HB.mark, HB.loop true f nt ts.env qs.toList asg body none] = ts.heap ++ [HB.mark] ++ [HB.loop true f nt ts.env qs.toList asg body none] by simp, c1]
  simp only [k3, hj]
 ·have q := hS.st.step s1 hF2 hU2; exact ⟨q.heap, q.llen, q.loc, q.env⟩
 ·rcases hF2.new b hb with k | k
  ·exact hS.own b k
  ·exact .inr (Nat.le_trans hS.fl k)
 ·rcases addKs_mem hb with k | ⟨k, k'⟩
  ·exact hS.ws b k
  ·obtain ⟨b', hb', e⟩ := List.mem_map.1 k
   cases e
   rcases hF.new b (c6 b hb') with k2 | k2
   ·rcases hS.own b k2 with k3 | k3
    ·exact k3
    ·omega
   ·have := hS.fl; omega
 ·exact Nat.le_trans hS.fl hF2.len
theorem yld_sim (hX : CodOk X P) {n l : Nat} {xs : List (PV X.Γ)} {H : List (PB X.Γ)} {env : List (Nat × PE X.Γ)} {ps : List Nat} {asg body : Code} {pend : Option Code} {s1 s2 : PSt X.Γ} {e : Ex}
  {f' nt' : Nat} {env' : List (Nat × PE X.Γ)} {ps' : List Nat} {a' b' : Code} {pend' : Option Code} {f'' nt'' : Nat} {env'' : List (Nat × PE X.Γ)} {ps'' : List Nat} {a'' b'' : Code}
  (hl : H[l]? = some (.loop true f nt env ps asg body pend)) (hlen : xs.length = ps.length) (hps : (ps.all fun p => decide (p < nt)) = true)
  (h1 : ExecS X P T (apN P T L n) L f true nt H.length asg ⟨pputAll env ps xs, [], H⟩ .norm s1) (hl1 : s1.heap[l]? = some (.loop true f' nt' env' ps' a' b' pend'))
  (h2 : ExecS X P T (apN P T L n) L f true nt H.length body { s1 with heap := s1.heap.set l (.loop false f' nt' env' ps' a' b' none) } e s2)
  (hl2 : s2.heap[l]? = some (.loop false f'' nt'' env'' ps'' a'' b'' none)) :
  Sim X P (apN P T L (n + 1)) (.yld l) xs H (.bool (isNorm e)) (s2.heap.set l (.loop (isNorm e) f'' nt'' env'' ps'' a'' b'' (jumpOf e))) := by
 intro A m h tf txs hr hf hx
 have hlt : l < H.length := (List.getElem?_eq_some_iff.1 hl).1
 obtain ⟨mb, k1, k2⟩ := hr.at_ l _ hl
 cases mb with
 | lst _ => exact k2.elim
 | gone => exact k2.elim
 | blk c =>
 obtain ⟨te, k3, k4⟩ := k2
 have hcm : c ∈ blks m := own_mem k1 rfl
 cases hf with
 | gone hi hi2 _ => simp only [idOf, Option.some.injEq] at hi; subst hi; rw [k1] at hi2; cases hi2
 | yld hy =>
 rw [k1] at hy; cases hy
 have hS : SR X P A (fun b => b ∈ blks m) h.length m ⟨pputAll env ps xs, [], H⟩ ⟨putAll te ps txs, [], h, []⟩ :=
  ⟨⟨hr, rfl, fun k cs hk => by simp at hk, putAll_VR (env := env) (env' := te) k4 hx⟩, fun b hb => .inl hb, fun b hb => (by cases hb), Nat.le_refl _⟩
 obtain ⟨t1, m1, x1, x2, x3, x4⟩ := h1 A _ _ m _ hS
 have at1 : ∀ {M : List MB} {S : PSt X.Γ} {TS : St} {W : Nat → Prop} {rd : Bool} {f0 n0 : Nat} {ee : List (Nat × PE X.Γ)} {pp : List Nat} {aa bb : Code} {pe : Option Code}, SR X P A W h.length M S TS → UpB H.length m M → S.heap[l]? = some (.loop rd f0 n0 ee pp aa bb pe) → M[l]? = some (.blk c) ∧ ∃ te, TS.heap[c]? = some (.loop rd f0 n0 te pp aa bb pe) ∧ EnvR X P (AA A M) M TS.heap ee te := by
  intro M S TS W rd f0 n0 ee pp aa bb pe hS hU hh
  obtain ⟨mb, j1, j2⟩ := hS.st.heap.at_ l _ hh
  rcases hU l _ hlt k1 with e | e
  ·rw [e] at j1; cases j1
   obtain ⟨te, j3, j4⟩ := j2
   exact ⟨e, te, j3, j4⟩
  ·rw [e] at j1; cases j1; exact j2.elim
 have setL : ∀ {M : List MB} {S : PSt X.Γ} {TS : St} {W : Nat → Prop} {rd : Bool} {f0 n0 : Nat} {ee : List (Nat × PE X.Γ)} {pp : List Nat} {aa bb : Code} {pe : Option Code} (rd' : Bool) (pe' : Option Code), SR X P A W h.length M S TS → UpB H.length m M → S.heap[l]? = some (.loop rd f0 n0 ee pp aa bb pe) → ∃ te, TS.heap[c]? = some (.loop rd f0 n0 te pp aa bb pe) ∧ HR X P A M (S.heap.set l (.loop rd' f0 n0 ee pp aa bb pe')) (TS.heap.set c (.loop rd' f0 n0 te pp aa bb pe')) ∧ Fr M TS.heap M (TS.heap.set c (.loop rd' f0 n0 te pp aa bb pe')) := by
  intro M S TS W rd f0 n0 ee pp aa bb pe rd' pe' hS hU hh
  obtain ⟨j1, te, j3, j4⟩ := at1 hS hU hh
  obtain ⟨s1, s2⟩ := hS.st.heap.set (i := l) (c := c) (pb := .loop rd' f0 n0 ee pp aa bb pe') (hb := .loop rd' f0 n0 te pp aa bb pe') j1 rfl (fun cs hc => by unfold blkCells at hc; rw [j3] at hc; cases hc) (fun hF => ⟨te, by rw [List.getElem?_set_self (List.getElem?_eq_some_iff.1 j3).1], j4.step hF .refl⟩)
  exact ⟨te, j3, s1, s2⟩
 obtain ⟨te1, y1, y2, y3⟩ := setL false none x2 x4 hl1
 have hS1 : SR X P A (fun b => b ∈ blks m) h.length m1 { s1 with heap := s1.heap.set l (.loop false f' nt' env' ps' a' b' none) } { t1 with heap := t1.heap.set c (.loop false f' nt' te1 ps' a' b' none), ws := addW h.length c t1.ws } := by
  have q := x2.st.step y2 y3 .refl
  refine ⟨⟨q.heap, q.llen, q.loc, q.env⟩, x2.own, fun b hb => ?_, Nat.le_trans x2.fl y3.len⟩
  rcases addKs_mem (ks := [.h c]) hb with k | ⟨k, _⟩
  ·exact x2.ws b k
  ·simp at k; subst k; exact hcm
 obtain ⟨t2, m2, z1, z2, z3, z4⟩ := h2 A _ _ m1 _ hS1
 obtain ⟨te2, u1, u2, u3⟩ := setL (isNorm e) (jumpOf e) z2 (x4.trans z4) hl2
 have hF := (x3.trans y3).trans (z3.trans u3)
 refine ⟨.bool (isNorm e), t2.heap.set c (.loop (isNorm e) f'' nt'' te2 ps'' a'' b'' (jumpOf e)), addW h.length c t2.ws, m2, ?_, u2, .bool _, hF, fun i mb hi => (x4.trans z4) i mb ?_ hi, fun b hb => ?_⟩
 ·have hl' : txs.length = ps.length := by rw [← hx.1, hlen]
  simp only [apN, ap, roundT, k3, hl', hps, and_self, if_true, x1, y1, z1, u1]
 ·rw [← hr.len]; exact (List.getElem?_eq_some_iff.1 hi).1
 ·rcases addKs_mem (ks := [.h c]) hb with k | ⟨k, _⟩
  ·exact z2.ws b k
  ·simp at k; subst k; exact hcm
abbrev gB (B : Nat) : Nat → Option Nat := fun i => if i < B then some i else (posN [] i).map (· + B)
theorem renVs_id {g : Nat → Option Nat} : ∀ {a : List (PV X.Γ)}, (∀ (i : Nat) x, a[i]? = some x → renV g x = some x) → renV.renVs g a = some a
 | [], _ => rfl
 | c :: cs, h => by
  simp only [renV.renVs, h 0 c rfl, renVs_id (a := cs) fun i x hi => h (i + 1) x (by simpa using hi)]
theorem get_two {α β : Type} {a : List α} {b : List β} (hl : a.length = b.length) {i : Nat} {x : α} (hi : a[i]? = some x) : ∃ y, b[i]? = some y := by
 have : i < b.length := by rw [← hl]; exact (List.getElem?_eq_some_iff.1 hi).1
 exact ⟨b[i], List.getElem?_eq_getElem this⟩
theorem ren_id {v : PV X.Γ} {x : TV} (hv : VR X P A m h v x) {B : Nat} (hB : m.length ≤ B) : renV (gB B) v = some v := by
 have key : ∀ {b : Nat} {mb : MB}, m[b]? = some mb → gB B b = some b := fun e => by
  have := (List.getElem?_eq_some_iff.1 e).1
  simp only [gB]; rw [if_pos (by omega)]
 induction hv with
 | bool => rfl
 | lit => rfl
 | int => rfl
 | str => rfl
 | nil => rfl
 | ptr e => simp only [renV, key e, Option.map_some]
 | slc e => simp only [renV, key e, Option.map_some]
 | own e _ => simp only [renV, key e, Option.map_some]
 | win e _ _ => simp only [renV, key e, Option.map_some]
 | winN e => simp only [renV, key e, Option.map_some]
 | map e => simp only [renV, key e, Option.map_some]
 | yld e => simp only [renV, key e, Option.map_some]
 | row e _ _ => simp only [renV, key e, Option.map_some]
 | lstN => rfl
 | lst => rfl
 | el => rfl
 | fn h1 _ h3 _ i2 i4 =>
  simp only [renV]
  rw [renVs_id fun i x hi => let ⟨y, hy⟩ := get_two h1 hi; i2 i x y hi hy, renVs_id fun i x hi => let ⟨y, hy⟩ := get_two h3 hi; i4 i x y hi hy]
 | agg h1 _ i2 => simp only [renV]; rw [renVs_id fun i x hi => let ⟨y, hy⟩ := get_two h1 hi; i2 i x y hi hy]; rfl
 | tup h1 _ i2 => simp only [renV]; rw [renVs_id fun i x hi => let ⟨y, hy⟩ := get_two h1 hi; i2 i x y hi hy]; rfl
 | @gone v i x hi e _ =>
  have := key e
  cases v <;> simp only [idOf, Option.some.injEq] at hi <;> first | (subst hi; simp only [renV, this, Option.map_some]) | cases hi
theorem rens_id {v : List (PV X.Γ)} {x : List TV} (hv : VRs X P A m h v x) {B : Nat} (hB : m.length ≤ B) : renV.renVs (gB B) v = some v :=
 renVs_id fun i a hi => let ⟨y, hy⟩ := get_two hv.1 hi; ren_id (hv.2 i a y hi hy) hB
theorem renEs_id {v : List (Nat × PE X.Γ)} {x : List (Nat × EV)} (hv : EnvR X P A m h v x) {B : Nat} (hB : m.length ≤ B) : renEs (gB B) v = some v := by
 induction hv with
 | nil => rfl
 | cons h1 _ ih =>
  rename_i k v x r r' _
  simp only [renEs, ih]
  cases v with
  | val v => obtain ⟨y, rfl, h2⟩ := per_val h1; simp only [renE, ren_id h2 hB, Option.map_some]
  | _ => rfl
theorem renB_id {b : PB X.Γ} {mb : MB} (hb : BR X P A m h b mb) {B : Nat} (hB : m.length ≤ B) : renB (gB B) b = some b := by
 cases b with
 | cells cs =>
  cases mb with
  | blk c => obtain ⟨_, _, h2⟩ := hb; simp only [renB, rens_id h2 hB, Option.map_some]
  | _ => exact hb.elim
 | map es =>
  cases mb with
  | blk c =>
   obtain ⟨es', _, h2, h3⟩ := hb
   have : ∀ {es : List (PV X.Γ × PV X.Γ)}, (∀ (i : Nat) x, es[i]? = some x → renV (gB B) x.1 = some x.1 ∧ renV (gB B) x.2 = some x.2) → renM (gB B) es = some es := by
    intro es
    induction es with
    | nil => intro _; rfl
    | cons e es ih =>
     intro h
     obtain ⟨k, v⟩ := e
     have h0 := h 0 (k, v) rfl
     simp only at h0
     simp only [renM, h0.1, h0.2, ih fun i x hi => h (i + 1) x (by simpa using hi)]
   simp only [renB]
   rw [this fun i x hi => let ⟨y, hy⟩ := get_two h2 hi; ⟨ren_id (h3 i x y hi hy).1 hB, ren_id (h3 i x y hi hy).2 hB⟩]
   rfl
  | _ => exact hb.elim
 | loop =>
  cases mb with
  | blk c => obtain ⟨_, _, h2⟩ := hb; simp only [renB, renEs_id h2 hB, Option.map_some]
  | _ => exact hb.elim
 | _ => rfl
theorem renBs_id {B : Nat} : ∀ {H : List (PB X.Γ)}, (∀ (i : Nat) b, H[i]? = some b → renB (gB B) b = some b) → renBs (gB B) H = some H
 | [], _ => rfl
 | c :: cs, h => by
  simp only [renBs, h 0 c rfl, renBs_id (H := cs) fun i x hi => h (i + 1) x (by simpa using hi)]
theorem Sim.drop (hX : CodOk X P) {call : CallT} {fv : PV X.Γ} {xs : List (PV X.Γ)} {H H1 : List (PB X.Γ)} {v : PV X.Γ} (hs : Sim X P call fv xs H v H1) (h1 : H1.take H.length = H) (hv : renV (gB H.length) v = some v) : Sim X P call fv xs H v H := by
 intro A m h tf txs hr hf hx
 obtain ⟨w, h', ws, m1, c1, c2, c3, c4, c5, c6⟩ := hs A m h tf txs hr hf hx
 have hg : gsteps H.length [.gc []] (⟨[(0, .val v)], [], H1⟩ : PSt X.Γ) = some ⟨[(0, .val v)], [], H⟩ := by
  have hb : renBs (gB H.length) H = some H := renBs_id fun i b hi => let ⟨mb, _, h2⟩ := hr.at_ i b hi; renB_id h2 (Nat.le_of_eq hr.len)
  have hl : H.length ≤ H1.length := by have := congrArg List.length h1; simp at this; omega
  have e : renEs (gB H.length) [(0, PE.val v)] = some [(0, .val v)] := by simp only [renEs, renE, hv, Option.map_some]
  have hb' : renBs (fun i => if i < H.length then some i else (posN [] i).map (· + H.length)) H = some H := hb
  have e' : renEs (fun i => if i < H.length then some i else (posN [] i).map (· + H.length)) [(0, PE.val v)] = some [(0, .val v)] := e
  simp only [gsteps, gstep, List.all_nil, List.nodup_nil, decide_true, Bool.and_self, Bool.true_and, hl, if_true, e', renL, h1, hb', pickB, renBs, List.append_nil]
 obtain ⟨m2, q1, q2, q3⟩ := gsteps_ok hX hg A (fun _ => True) 0 m1 ⟨[(0, .val w)], [], h', []⟩ ⟨⟨c2, rfl, fun k cs hk => by simp at hk, .cons c3 .nil⟩, fun b _ => .inl trivial, fun b hb => (by cases hb), Nat.zero_le _⟩
 obtain ⟨w', e1, e2⟩ := look_some q1.st.env (t := 0) (v := .val v) rfl
 simp only [lookE, if_true, Option.some.injEq] at e1
 subst e1
 refine ⟨w, h', ws, m2, c1, q1.st.heap, e2, c4.trans q2, fun i mb hi => ?_, c6⟩
 have hlt : i < H.length := by rw [← hr.len]; exact (List.getElem?_eq_some_iff.1 hi).1
 rcases c5 i mb hi with g | g
 ·exact q3 i mb hlt g
 ·rcases q3 i _ hlt g with g | g <;> exact .inr g
end
end Pv
namespace Go.Proofs.YtfhiejgoemcelaaGreat
open Go Tw Pv
theorem ok0 {n : Nat} : Ok n (orc0 (X := X0)) := fun f vs v ext ps h => by cases h
abbrev LpB (n f k B : Nat) (s : PSt gam) (e : Ex) (s' : PSt gam) : Prop := ExecS X0 Tryz.prog T (ApN n) LL f false (ntP Tryz.prog f) B (.loop (bodyP Tryz.prog f k)) s e s'
abbrev w169 (f : Nat) (a c : List (PV gam)) (H : List (PB gam)) (l : List Int) (i : Int) (x : List (Nat × PE gam)) : PSt gam := ⟨[(0, xL 3 l), (1, .val (.fn f a c)), (7, xi l.length), (8, xi i)] ++ x, [], H⟩
def z169 (f : Nat) (a c : List (PV gam)) (H : List (PB gam)) (l : List Int) : Unit ⊕ (Nat × Int × Unit) → Ex × PSt gam
 | .inl _ => (.exit 0, w169 f a c H l l.length [(9, xl false)])
 | .inr r => (.ret, ⟨[(4, xi r.1)], [], H⟩)
theorem s169 {n f : Nat} {a c : List (PV gam)} {H : List (PB gam)} {g : Int → Bool} (hf : ∀ x, Sim X0 Tryz.prog (ApN n) (.fn f a c) [.int .i64 x] H (.bool (g x)) H) (l : List Int) (hl : l.length ≤ most) : Sim X0 Tryz.prog (ApN (n + 1)) (.fn 169 [] []) [.lst 3 l false, .fn f a c] H (iA.put (S_IndexFuncI g l)) H := by
 have lp : LpB n 169 0 H.length (w169 f a c H l 0 []) (z169 f a c H l (runL (F_indexI g) l 0 ())).1 (z169 f a c H l (runL (F_indexI g) l 0 ())).2 :=
  eachE (st := fun i _ => w169 f a c H l i []) (0 : Int) (fun _ _ => True) (by kernel_rfl) hl LLm trivial (fun k s n hk _ ih => round hX ok0 (by kernel_rfl) (.b (lt_nat hk) (.o (inR_nat hk) (.k (hf (l.getD k (0 : Int))) (.ls (.ou nofun) (.nx (ih _ trivial))))))) (fun s _ => round hX ok0 (by kernel_rfl) (.b (lt_no l.length) (.ou nofun)))
 exact sim_is hX ok0 (first := []) (cap := []) (by kernel_rfl) (.szh (fun h => .w (exInl lp () h) .sr) (fun h => .w (exInr lp (0, 0, ()) h) .sr))
theorem s150 {n f : Nat} (hn : 0 < n) {a c : List (PV gam)} {H : List (PB gam)} {g : Int → Bool} (hf : ∀ x, Sim X0 Tryz.prog (ApN (n - 1)) (.fn f a c) [.int .i64 x] H (.bool (g x)) H) (l : List Int) (hl : l.length ≤ most) : Sim X0 Tryz.prog (ApN (n + 1)) (.fn 150 [] []) [.lst 3 l false, .fn f a c] H (tA.put (S_ContainsFuncI g l)) H := by
 have h1 := s169 hf l hl
 rw [show n - 1 + 1 = n by omega] at h1
 exact sim_is hX ok0 (first := []) (cap := []) (by kernel_rfl) (.k h1 .sr)
abbrev w119 (f : Nat) (a c : List (PV gam)) (H : List (PB gam)) (l : List O) (i : Int) (x : List (Nat × PE gam)) : PSt gam := ⟨[(0, xL 60 l), (1, .val (.fn f a c)), (7, xi l.length), (8, xi i)] ++ x, [], H⟩
def z119 (f : Nat) (a c : List (PV gam)) (H : List (PB gam)) (l : List O) : Unit ⊕ (Nat × O × Unit) → Ex × PSt gam
 | .inl _ => (.exit 0, w119 f a c H l l.length [(9, xl false)])
 | .inr r => (.ret, ⟨[(4, xi r.1)], [], H⟩)
theorem s119 {n f : Nat} {a c : List (PV gam)} {H : List (PB gam)} {g : O → Bool} (hf : ∀ x, Sim X0 Tryz.prog (ApN n) (.fn f a c) [.agg x.ps] H (.bool (g x)) H) (l : List O) (hl : l.length ≤ most) : Sim X0 Tryz.prog (ApN (n + 1)) (.fn 119 [] []) [.lst 60 l false, .fn f a c] H (iA.put (S_IndexFuncO g l)) H := by
 have lp : LpB n 119 0 H.length (w119 f a c H l 0 []) (z119 f a c H l (runL (F_indexO g) l 0 ())).1 (z119 f a c H l (runL (F_indexO g) l 0 ())).2 :=
  eachE (st := fun i _ => w119 f a c H l i []) O0 (fun _ _ => True) (by kernel_rfl) hl LLm trivial (fun k s n hk _ ih => round hX ok0 (by kernel_rfl) (.b (lt_nat hk) (.o (inR_nat hk) (.k (hf (l.getD k O0)) (.ls (.ou nofun) (.nx (ih _ trivial))))))) (fun s _ => round hX ok0 (by kernel_rfl) (.b (lt_no l.length) (.ou nofun)))
 exact sim_is hX ok0 (first := []) (cap := []) (by kernel_rfl) (.szh (fun h => .w (exInl lp () h) .sr) (fun h => .w (exInr lp (0, O0, ()) h) .sr))
theorem s84 {n f : Nat} (hn : 0 < n) {a c : List (PV gam)} {H : List (PB gam)} {g : O → Bool} (hf : ∀ x, Sim X0 Tryz.prog (ApN (n - 1)) (.fn f a c) [.agg x.ps] H (.bool (g x)) H) (l : List O) (hl : l.length ≤ most) : Sim X0 Tryz.prog (ApN (n + 1)) (.fn 84 [] []) [.lst 60 l false, .fn f a c] H (tA.put (S_ContainsFuncO g l)) H := by
 have h1 := s119 hf l hl
 rw [show n - 1 + 1 = n by omega] at h1
 exact sim_is hX ok0 (first := []) (cap := []) (by kernel_rfl) (.k h1 .sr)
abbrev w149 (f : Nat) (a c : List (PV gam)) (H : List (PB gam)) (l : List K) (i : Int) (x : List (Nat × PE gam)) : PSt gam := ⟨[(0, xL 62 l), (1, .val (.fn f a c)), (7, xi l.length), (8, xi i)] ++ x, [], H⟩
def z149 (f : Nat) (a c : List (PV gam)) (H : List (PB gam)) (l : List K) : Unit ⊕ (Nat × K × Unit) → Ex × PSt gam
 | .inl _ => (.exit 0, w149 f a c H l l.length [(9, xl false)])
 | .inr r => (.ret, ⟨[(4, xi r.1)], [], H⟩)
theorem s149 {n f : Nat} {a c : List (PV gam)} {H : List (PB gam)} {g : K → Bool} (hf : ∀ x, Sim X0 Tryz.prog (ApN n) (.fn f a c) [.agg x.ps] H (.bool (g x)) H) (l : List K) (hl : l.length ≤ most) : Sim X0 Tryz.prog (ApN (n + 1)) (.fn 149 [] []) [.lst 62 l false, .fn f a c] H (iA.put (S_IndexFuncK g l)) H := by
 have lp : LpB n 149 0 H.length (w149 f a c H l 0 []) (z149 f a c H l (runL (F_indexK g) l 0 ())).1 (z149 f a c H l (runL (F_indexK g) l 0 ())).2 :=
  eachE (st := fun i _ => w149 f a c H l i []) K0 (fun _ _ => True) (by kernel_rfl) hl LLm trivial (fun k s n hk _ ih => round hX ok0 (by kernel_rfl) (.b (lt_nat hk) (.o (inR_nat hk) (.k (hf (l.getD k K0)) (.ls (.ou nofun) (.nx (ih _ trivial))))))) (fun s _ => round hX ok0 (by kernel_rfl) (.b (lt_no l.length) (.ou nofun)))
 exact sim_is hX ok0 (first := []) (cap := []) (by kernel_rfl) (.szh (fun h => .w (exInl lp () h) .sr) (fun h => .w (exInr lp (0, K0, ()) h) .sr))
theorem s115 {n f : Nat} (hn : 0 < n) {a c : List (PV gam)} {H : List (PB gam)} {g : K → Bool} (hf : ∀ x, Sim X0 Tryz.prog (ApN (n - 1)) (.fn f a c) [.agg x.ps] H (.bool (g x)) H) (l : List K) (hl : l.length ≤ most) : Sim X0 Tryz.prog (ApN (n + 1)) (.fn 115 [] []) [.lst 62 l false, .fn f a c] H (tA.put (S_ContainsFuncK g l)) H := by
 have h1 := s149 hf l hl
 rw [show n - 1 + 1 = n by omega] at h1
 exact sim_is hX ok0 (first := []) (cap := []) (by kernel_rfl) (.k h1 .sr)
abbrev w124 (f : Nat) (a c : List (PV gam)) (H : List (PB gam)) (l : List B) (i : Int) (x : List (Nat × PE gam)) : PSt gam := ⟨[(0, xL 38 l), (1, .val (.fn f a c)), (7, xi l.length), (8, xi i)] ++ x, [], H⟩
def z124 (f : Nat) (a c : List (PV gam)) (H : List (PB gam)) (l : List B) : Unit ⊕ (Nat × B × Unit) → Ex × PSt gam
 | .inl _ => (.exit 0, w124 f a c H l l.length [(9, xl false)])
 | .inr r => (.ret, ⟨[(4, xi r.1)], [], H⟩)
theorem s124 {n f : Nat} {a c : List (PV gam)} {H : List (PB gam)} {g : B → Bool} (hf : ∀ x, Sim X0 Tryz.prog (ApN n) (.fn f a c) [.agg x.ps] H (.bool (g x)) H) (l : List B) (hl : l.length ≤ most) : Sim X0 Tryz.prog (ApN (n + 1)) (.fn 124 [] []) [.lst 38 l false, .fn f a c] H (iA.put (S_IndexFuncB g l)) H := by
 have lp : LpB n 124 0 H.length (w124 f a c H l 0 []) (z124 f a c H l (runL (F_indexB g) l 0 ())).1 (z124 f a c H l (runL (F_indexB g) l 0 ())).2 :=
  eachE (st := fun i _ => w124 f a c H l i []) B0 (fun _ _ => True) (by kernel_rfl) hl LLm trivial (fun k s n hk _ ih => round hX ok0 (by kernel_rfl) (.b (lt_nat hk) (.o (inR_nat hk) (.k (hf (l.getD k B0)) (.ls (.ou nofun) (.nx (ih _ trivial))))))) (fun s _ => round hX ok0 (by kernel_rfl) (.b (lt_no l.length) (.ou nofun)))
 exact sim_is hX ok0 (first := []) (cap := []) (by kernel_rfl) (.szh (fun h => .w (exInl lp () h) .sr) (fun h => .w (exInr lp (0, B0, ()) h) .sr))
theorem s91 {n f : Nat} (hn : 0 < n) {a c : List (PV gam)} {H : List (PB gam)} {g : B → Bool} (hf : ∀ x, Sim X0 Tryz.prog (ApN (n - 1)) (.fn f a c) [.agg x.ps] H (.bool (g x)) H) (l : List B) (hl : l.length ≤ most) : Sim X0 Tryz.prog (ApN (n + 1)) (.fn 91 [] []) [.lst 38 l false, .fn f a c] H (tA.put (S_ContainsFuncB g l)) H := by
 have h1 := s124 hf l hl
 rw [show n - 1 + 1 = n by omega] at h1
 exact sim_is hX ok0 (first := []) (cap := []) (by kernel_rfl) (.k h1 .sr)
abbrev w175 (f : Nat) (a c : List (PV gam)) (H : List (PB gam)) (l : List V) (i : Int) (x : List (Nat × PE gam)) : PSt gam := ⟨[(0, xL 78 l), (1, .val (.fn f a c)), (7, xi l.length), (8, xi i)] ++ x, [], H⟩
def z175 (f : Nat) (a c : List (PV gam)) (H : List (PB gam)) (l : List V) : Unit ⊕ (Nat × V × Unit) → Ex × PSt gam
 | .inl _ => (.exit 0, w175 f a c H l l.length [(9, xl false)])
 | .inr r => (.ret, ⟨[(4, xi r.1)], [], H⟩)
theorem s175 {n f : Nat} {a c : List (PV gam)} {H : List (PB gam)} {g : V → Bool} (hf : ∀ x, Sim X0 Tryz.prog (ApN n) (.fn f a c) [.agg x.ps] H (.bool (g x)) H) (l : List V) (hl : l.length ≤ most) : Sim X0 Tryz.prog (ApN (n + 1)) (.fn 175 [] []) [.lst 78 l false, .fn f a c] H (iA.put (S_IndexFuncV g l)) H := by
 have lp : LpB n 175 0 H.length (w175 f a c H l 0 []) (z175 f a c H l (runL (F_indexV g) l 0 ())).1 (z175 f a c H l (runL (F_indexV g) l 0 ())).2 :=
  eachE (st := fun i _ => w175 f a c H l i []) V0 (fun _ _ => True) (by kernel_rfl) hl LLm trivial (fun k s n hk _ ih => round hX ok0 (by kernel_rfl) (.b (lt_nat hk) (.o (inR_nat hk) (.k (hf (l.getD k V0)) (.ls (.ou nofun) (.nx (ih _ trivial))))))) (fun s _ => round hX ok0 (by kernel_rfl) (.b (lt_no l.length) (.ou nofun)))
 exact sim_is hX ok0 (first := []) (cap := []) (by kernel_rfl) (.szh (fun h => .w (exInl lp () h) .sr) (fun h => .w (exInr lp (0, V0, ()) h) .sr))
theorem s177 {n f : Nat} (hn : 0 < n) {a c : List (PV gam)} {H : List (PB gam)} {g : V → Bool} (hf : ∀ x, Sim X0 Tryz.prog (ApN (n - 1)) (.fn f a c) [.agg x.ps] H (.bool (g x)) H) (l : List V) (hl : l.length ≤ most) : Sim X0 Tryz.prog (ApN (n + 1)) (.fn 177 [] []) [.lst 78 l false, .fn f a c] H (tA.put (S_ContainsFuncV g l)) H := by
 have h1 := s175 hf l hl
 rw [show n - 1 + 1 = n by omega] at h1
 exact sim_is hX ok0 (first := []) (cap := []) (by kernel_rfl) (.k h1 .sr)
end Go.Proofs.YtfhiejgoemcelaaGreat
namespace Go.Proofs.YtfhiejgoemcelaaGreat
open Go Tw Pv
noncomputable def oc117 : Orc gam := orcF 117 (a3 iA iA isA) tA (fun p => S_within p.2.2 p.1 p.2.1) (fun p => [p.2.2.length ≤ most]) oc28
theorem gc117 : Gd oc117 := gc28.deep 3 fun n hn hO p hp => by
 have h1 : ∀ x, Sim X0 Tryz.prog (ApN (n - 3 + 1)) (.fn 151 [] [.ptr 0 0 1, .ptr 1 0 1]) [.int .i64 x] [.cells [.int .i64 p.1], .cells [.int .i64 p.2.1]] (tA.put (S_within1 x p.1 p.2.1)) [.cells [.int .i64 p.1], .cells [.int .i64 p.2.1]] := fun x => sim_is hX ok0 (first := []) (by kernel_rfl) (.ssh (fun _ => .sr) (fun _ => .sr))
 obtain ⟨n, rfl⟩ : ∃ k, n = k + 3 := ⟨n - 3, by omega⟩
 rw [show n + 3 - 3 + 1 = n + 1 by omega] at h1
 have h2 := s150 (n := n + 2) (by omega) (g := fun x => S_within1 x p.1 p.2.1) h1 p.2.2 (hp _ (.head _))
 exact fn_is hX (hO _ (by omega)) (by kernel_rfl) (.k h2 (.v (!(S_ContainsFuncI (fun x => S_within1 x p.1 p.2.1) p.2.2)) (by rw [containsI]; rfl)))
end Go.Proofs.YtfhiejgoemcelaaGreat
namespace Go.Proofs.YtfhiejgoemcelaaGreat
open Go Tw Pv
noncomputable def oc85 : Orc gam := orcF 85 (a1 oA) tA (fun p => S_check1 p) np oc117
theorem gc85 : Gd oc85 := gc117.add fun n hO p hp => fn_is hX hO (by kernel_rfl) .rr
noncomputable def oc116 : Orc gam := orcF 116 (a1 kA) tA (fun p => S_isNoChoice p) np oc85
theorem gc116 : Gd oc116 := gc85.add fun n hO p hp => fn_is hX hO (by kernel_rfl) (.o le2 (.ss .rr (.o le1 .rr)))
noncomputable def oc152 : Orc gam := orcF 152 (a2 cA oA) tA (fun p => S_isNumber p.1 p.2) np oc116
theorem gc152 : Gd oc152 := gc116.add fun n hO p hp => fn_is hX hO (by kernel_rfl) (.ss (.o le1 .rr) (.ss (.o le1 .rr) (.ss (.o le1 .rr) (.ss (.o le1 .rr) .rr))))
noncomputable def oc154 : Orc gam := orcF 154 (a1 uA) iA (fun p => S_arity p) np oc152
theorem gc154 : Gd oc154 := gc152.add fun n hO p hp => fn_is hX hO (by kernel_rfl) (.ss .rr (.ss .rr (.ss .rr .rr)))
end Go.Proofs.YtfhiejgoemcelaaGreat
namespace Go.Proofs.YtfhiejgoemcelaaGreat
open Go Tw Pv
def J0 (g : Int → Bool) : Int := -1
def J1 (g : Int → Bool) (a : Int) : Int := if g a = true then 0 else -1
def J2 (g : Int → Bool) (a b : Int) : Int := if g a = true then 0 else if g b = true then 1 else -1
def J3 (g : Int → Bool) (a b c : Int) : Int := if g a = true then 0 else if g b = true then 1 else if g c = true then 2 else -1
theorem w169_000 {n : Nat} {a b c lo hi : Int} {g : Int → Bool} (hf : ∀ x, Sim X0 Tryz.prog (ApN n) (.fn 151 [] [.ptr 1 0 1, .ptr 2 0 1]) [.int .i64 x] [.cells [.int .i64 a, .int .i64 b, .int .i64 c], .cells [.int .i64 lo], .cells [.int .i64 hi]] (.bool (g x)) [.cells [.int .i64 a, .int .i64 b, .int .i64 c], .cells [.int .i64 lo], .cells [.int .i64 hi]]) : Sim X0 Tryz.prog (ApN (n + 1)) (.fn 169 [] []) [.slc 0 0 0 3 1 true, .fn 151 [] [.ptr 1 0 1, .ptr 2 0 1]] [.cells [.int .i64 a, .int .i64 b, .int .i64 c], .cells [.int .i64 lo], .cells [.int .i64 hi]] (iA.put (J0 g )) [.cells [.int .i64 a, .int .i64 b, .int .i64 c], .cells [.int .i64 lo], .cells [.int .i64 hi]] :=
 sim_is hX ok0 (first := []) (cap := []) (by kernel_rfl) (.m 8 le8 (.b (rfl : false = false) .sr))
theorem w169_010 {n : Nat} {a b c lo hi : Int} {g : Int → Bool} (hf : ∀ x, Sim X0 Tryz.prog (ApN n) (.fn 151 [] [.ptr 1 0 1, .ptr 2 0 1]) [.int .i64 x] [.cells [.int .i64 a, .int .i64 b, .int .i64 c], .cells [.int .i64 lo], .cells [.int .i64 hi]] (.bool (g x)) [.cells [.int .i64 a, .int .i64 b, .int .i64 c], .cells [.int .i64 lo], .cells [.int .i64 hi]]) : Sim X0 Tryz.prog (ApN (n + 1)) (.fn 169 [] []) [.slc 0 0 1 3 1 true, .fn 151 [] [.ptr 1 0 1, .ptr 2 0 1]] [.cells [.int .i64 a, .int .i64 b, .int .i64 c], .cells [.int .i64 lo], .cells [.int .i64 hi]] (iA.put (J1 g a)) [.cells [.int .i64 a, .int .i64 b, .int .i64 c], .cells [.int .i64 lo], .cells [.int .i64 hi]] :=
 sim_is hX ok0 (first := []) (cap := []) (by kernel_rfl) (.m 8 le8 (.b (rfl : true = true) (.k (hf a) (.ssh (fun _ => .sr) (fun _ => .b (rfl : false = false) .sr)))))
theorem w169_020 {n : Nat} {a b c lo hi : Int} {g : Int → Bool} (hf : ∀ x, Sim X0 Tryz.prog (ApN n) (.fn 151 [] [.ptr 1 0 1, .ptr 2 0 1]) [.int .i64 x] [.cells [.int .i64 a, .int .i64 b, .int .i64 c], .cells [.int .i64 lo], .cells [.int .i64 hi]] (.bool (g x)) [.cells [.int .i64 a, .int .i64 b, .int .i64 c], .cells [.int .i64 lo], .cells [.int .i64 hi]]) : Sim X0 Tryz.prog (ApN (n + 1)) (.fn 169 [] []) [.slc 0 0 2 3 1 true, .fn 151 [] [.ptr 1 0 1, .ptr 2 0 1]] [.cells [.int .i64 a, .int .i64 b, .int .i64 c], .cells [.int .i64 lo], .cells [.int .i64 hi]] (iA.put (J2 g a b)) [.cells [.int .i64 a, .int .i64 b, .int .i64 c], .cells [.int .i64 lo], .cells [.int .i64 hi]] :=
 sim_is hX ok0 (first := []) (cap := []) (by kernel_rfl) (.m 8 le8 (.b (rfl : true = true) (.k (hf a) (.ssh (fun _ => .sr) (fun _ => .b (rfl : true = true) (.k (hf b) (.ssh (fun _ => .sr) (fun _ => .b (rfl : false = false) .sr))))))))
theorem w169_030 {n : Nat} {a b c lo hi : Int} {g : Int → Bool} (hf : ∀ x, Sim X0 Tryz.prog (ApN n) (.fn 151 [] [.ptr 1 0 1, .ptr 2 0 1]) [.int .i64 x] [.cells [.int .i64 a, .int .i64 b, .int .i64 c], .cells [.int .i64 lo], .cells [.int .i64 hi]] (.bool (g x)) [.cells [.int .i64 a, .int .i64 b, .int .i64 c], .cells [.int .i64 lo], .cells [.int .i64 hi]]) : Sim X0 Tryz.prog (ApN (n + 1)) (.fn 169 [] []) [.slc 0 0 3 3 1 true, .fn 151 [] [.ptr 1 0 1, .ptr 2 0 1]] [.cells [.int .i64 a, .int .i64 b, .int .i64 c], .cells [.int .i64 lo], .cells [.int .i64 hi]] (iA.put (J3 g a b c)) [.cells [.int .i64 a, .int .i64 b, .int .i64 c], .cells [.int .i64 lo], .cells [.int .i64 hi]] :=
 sim_is hX ok0 (first := []) (cap := []) (by kernel_rfl) (.m 8 le8 (.b (rfl : true = true) (.k (hf a) (.ssh (fun _ => .sr) (fun _ => .b (rfl : true = true) (.k (hf b) (.ssh (fun _ => .sr) (fun _ => .b (rfl : true = true) (.k (hf c) (.ssh (fun _ => .sr) (fun _ => .b (rfl : false = false) .sr)))))))))))
theorem w169_032 {n : Nat} {a b c lo hi u v : Int} {g : Int → Bool} (hf : ∀ x, Sim X0 Tryz.prog (ApN n) (.fn 151 [] [.ptr 3 0 1, .ptr 4 0 1]) [.int .i64 x] [.cells [.int .i64 a, .int .i64 b, .int .i64 c], .cells [.int .i64 u], .cells [.int .i64 v], .cells [.int .i64 lo], .cells [.int .i64 hi]] (.bool (g x)) [.cells [.int .i64 a, .int .i64 b, .int .i64 c], .cells [.int .i64 u], .cells [.int .i64 v], .cells [.int .i64 lo], .cells [.int .i64 hi]]) : Sim X0 Tryz.prog (ApN (n + 1)) (.fn 169 [] []) [.slc 0 0 3 3 1 true, .fn 151 [] [.ptr 3 0 1, .ptr 4 0 1]] [.cells [.int .i64 a, .int .i64 b, .int .i64 c], .cells [.int .i64 u], .cells [.int .i64 v], .cells [.int .i64 lo], .cells [.int .i64 hi]] (iA.put (J3 g a b c)) [.cells [.int .i64 a, .int .i64 b, .int .i64 c], .cells [.int .i64 u], .cells [.int .i64 v], .cells [.int .i64 lo], .cells [.int .i64 hi]] :=
 sim_is hX ok0 (first := []) (cap := []) (by kernel_rfl) (.m 8 le8 (.b (rfl : true = true) (.k (hf a) (.ssh (fun _ => .sr) (fun _ => .b (rfl : true = true) (.k (hf b) (.ssh (fun _ => .sr) (fun _ => .b (rfl : true = true) (.k (hf c) (.ssh (fun _ => .sr) (fun _ => .b (rfl : false = false) .sr)))))))))))
theorem w169_122 {n : Nat} {a b c lo hi u v : Int} {g : Int → Bool} (hf : ∀ x, Sim X0 Tryz.prog (ApN n) (.fn 151 [] [.ptr 3 0 1, .ptr 4 0 1]) [.int .i64 x] [.cells [.int .i64 a, .int .i64 b, .int .i64 c], .cells [.int .i64 u], .cells [.int .i64 v], .cells [.int .i64 lo], .cells [.int .i64 hi]] (.bool (g x)) [.cells [.int .i64 a, .int .i64 b, .int .i64 c], .cells [.int .i64 u], .cells [.int .i64 v], .cells [.int .i64 lo], .cells [.int .i64 hi]]) : Sim X0 Tryz.prog (ApN (n + 1)) (.fn 169 [] []) [.slc 0 1 2 2 1 true, .fn 151 [] [.ptr 3 0 1, .ptr 4 0 1]] [.cells [.int .i64 a, .int .i64 b, .int .i64 c], .cells [.int .i64 u], .cells [.int .i64 v], .cells [.int .i64 lo], .cells [.int .i64 hi]] (iA.put (J2 g b c)) [.cells [.int .i64 a, .int .i64 b, .int .i64 c], .cells [.int .i64 u], .cells [.int .i64 v], .cells [.int .i64 lo], .cells [.int .i64 hi]] :=
 sim_is hX ok0 (first := []) (cap := []) (by kernel_rfl) (.m 8 le8 (.b (rfl : true = true) (.k (hf b) (.ssh (fun _ => .sr) (fun _ => .b (rfl : true = true) (.k (hf c) (.ssh (fun _ => .sr) (fun _ => .b (rfl : false = false) .sr))))))))
theorem w169_212 {n : Nat} {a b c lo hi u v : Int} {g : Int → Bool} (hf : ∀ x, Sim X0 Tryz.prog (ApN n) (.fn 151 [] [.ptr 3 0 1, .ptr 4 0 1]) [.int .i64 x] [.cells [.int .i64 a, .int .i64 b, .int .i64 c], .cells [.int .i64 u], .cells [.int .i64 v], .cells [.int .i64 lo], .cells [.int .i64 hi]] (.bool (g x)) [.cells [.int .i64 a, .int .i64 b, .int .i64 c], .cells [.int .i64 u], .cells [.int .i64 v], .cells [.int .i64 lo], .cells [.int .i64 hi]]) : Sim X0 Tryz.prog (ApN (n + 1)) (.fn 169 [] []) [.slc 0 2 1 1 1 true, .fn 151 [] [.ptr 3 0 1, .ptr 4 0 1]] [.cells [.int .i64 a, .int .i64 b, .int .i64 c], .cells [.int .i64 u], .cells [.int .i64 v], .cells [.int .i64 lo], .cells [.int .i64 hi]] (iA.put (J1 g c)) [.cells [.int .i64 a, .int .i64 b, .int .i64 c], .cells [.int .i64 u], .cells [.int .i64 v], .cells [.int .i64 lo], .cells [.int .i64 hi]] :=
 sim_is hX ok0 (first := []) (cap := []) (by kernel_rfl) (.m 8 le8 (.b (rfl : true = true) (.k (hf c) (.ssh (fun _ => .sr) (fun _ => .b (rfl : false = false) .sr)))))
theorem w169_302 {n : Nat} {a b c lo hi u v : Int} {g : Int → Bool} (hf : ∀ x, Sim X0 Tryz.prog (ApN n) (.fn 151 [] [.ptr 3 0 1, .ptr 4 0 1]) [.int .i64 x] [.cells [.int .i64 a, .int .i64 b, .int .i64 c], .cells [.int .i64 u], .cells [.int .i64 v], .cells [.int .i64 lo], .cells [.int .i64 hi]] (.bool (g x)) [.cells [.int .i64 a, .int .i64 b, .int .i64 c], .cells [.int .i64 u], .cells [.int .i64 v], .cells [.int .i64 lo], .cells [.int .i64 hi]]) : Sim X0 Tryz.prog (ApN (n + 1)) (.fn 169 [] []) [.slc 0 3 0 0 1 true, .fn 151 [] [.ptr 3 0 1, .ptr 4 0 1]] [.cells [.int .i64 a, .int .i64 b, .int .i64 c], .cells [.int .i64 u], .cells [.int .i64 v], .cells [.int .i64 lo], .cells [.int .i64 hi]] (iA.put (J0 g )) [.cells [.int .i64 a, .int .i64 b, .int .i64 c], .cells [.int .i64 u], .cells [.int .i64 v], .cells [.int .i64 lo], .cells [.int .i64 hi]] :=
 sim_is hX ok0 (first := []) (cap := []) (by kernel_rfl) (.m 8 le8 (.b (rfl : false = false) .sr))
theorem w117_000 {n : Nat} (a b c lo hi : Int) : Sim X0 Tryz.prog (ApN (n + 4)) (.fn 117 [] []) [.int .i64 lo, .int .i64 hi, .slc 0 0 0 3 1 true] [.cells [.int .i64 a, .int .i64 b, .int .i64 c]] (tA.put (!decide (J0 (fun x => S_within1 x lo hi)  ≥ 0))) [.cells [.int .i64 a, .int .i64 b, .int .i64 c], .cells [.int .i64 lo], .cells [.int .i64 hi]] := by
 have h1 : ∀ x, Sim X0 Tryz.prog (ApN (n + 1)) (.fn 151 [] [.ptr 1 0 1, .ptr 2 0 1]) [.int .i64 x] [.cells [.int .i64 a, .int .i64 b, .int .i64 c], .cells [.int .i64 lo], .cells [.int .i64 hi]] (tA.put (S_within1 x lo hi)) [.cells [.int .i64 a, .int .i64 b, .int .i64 c], .cells [.int .i64 lo], .cells [.int .i64 hi]] := fun x => sim_is hX ok0 (first := []) (by kernel_rfl) (.ssh (fun _ => .sr) (fun _ => .sr))
 have h2 := w169_000 (g := fun x => S_within1 x lo hi) h1
 have h3 : Sim X0 Tryz.prog (ApN (n + 3)) (.fn 150 [] []) [.slc 0 0 0 3 1 true, .fn 151 [] [.ptr 1 0 1, .ptr 2 0 1]] [.cells [.int .i64 a, .int .i64 b, .int .i64 c], .cells [.int .i64 lo], .cells [.int .i64 hi]] (tA.put (decide (J0 (fun x => S_within1 x lo hi)  ≥ 0))) [.cells [.int .i64 a, .int .i64 b, .int .i64 c], .cells [.int .i64 lo], .cells [.int .i64 hi]] := sim_is hX ok0 (first := []) (cap := []) (by kernel_rfl) (.k h2 .sr)
 exact sim_is hX ok0 (first := []) (cap := []) (by kernel_rfl) (.k h3 .sr)
theorem w117_010 {n : Nat} (a b c lo hi : Int) : Sim X0 Tryz.prog (ApN (n + 4)) (.fn 117 [] []) [.int .i64 lo, .int .i64 hi, .slc 0 0 1 3 1 true] [.cells [.int .i64 a, .int .i64 b, .int .i64 c]] (tA.put (!decide (J1 (fun x => S_within1 x lo hi) a ≥ 0))) [.cells [.int .i64 a, .int .i64 b, .int .i64 c], .cells [.int .i64 lo], .cells [.int .i64 hi]] := by
 have h1 : ∀ x, Sim X0 Tryz.prog (ApN (n + 1)) (.fn 151 [] [.ptr 1 0 1, .ptr 2 0 1]) [.int .i64 x] [.cells [.int .i64 a, .int .i64 b, .int .i64 c], .cells [.int .i64 lo], .cells [.int .i64 hi]] (tA.put (S_within1 x lo hi)) [.cells [.int .i64 a, .int .i64 b, .int .i64 c], .cells [.int .i64 lo], .cells [.int .i64 hi]] := fun x => sim_is hX ok0 (first := []) (by kernel_rfl) (.ssh (fun _ => .sr) (fun _ => .sr))
 have h2 := w169_010 (g := fun x => S_within1 x lo hi) h1
 have h3 : Sim X0 Tryz.prog (ApN (n + 3)) (.fn 150 [] []) [.slc 0 0 1 3 1 true, .fn 151 [] [.ptr 1 0 1, .ptr 2 0 1]] [.cells [.int .i64 a, .int .i64 b, .int .i64 c], .cells [.int .i64 lo], .cells [.int .i64 hi]] (tA.put (decide (J1 (fun x => S_within1 x lo hi) a ≥ 0))) [.cells [.int .i64 a, .int .i64 b, .int .i64 c], .cells [.int .i64 lo], .cells [.int .i64 hi]] := sim_is hX ok0 (first := []) (cap := []) (by kernel_rfl) (.k h2 .sr)
 exact sim_is hX ok0 (first := []) (cap := []) (by kernel_rfl) (.k h3 .sr)
theorem w117_020 {n : Nat} (a b c lo hi : Int) : Sim X0 Tryz.prog (ApN (n + 4)) (.fn 117 [] []) [.int .i64 lo, .int .i64 hi, .slc 0 0 2 3 1 true] [.cells [.int .i64 a, .int .i64 b, .int .i64 c]] (tA.put (!decide (J2 (fun x => S_within1 x lo hi) a b ≥ 0))) [.cells [.int .i64 a, .int .i64 b, .int .i64 c], .cells [.int .i64 lo], .cells [.int .i64 hi]] := by
 have h1 : ∀ x, Sim X0 Tryz.prog (ApN (n + 1)) (.fn 151 [] [.ptr 1 0 1, .ptr 2 0 1]) [.int .i64 x] [.cells [.int .i64 a, .int .i64 b, .int .i64 c], .cells [.int .i64 lo], .cells [.int .i64 hi]] (tA.put (S_within1 x lo hi)) [.cells [.int .i64 a, .int .i64 b, .int .i64 c], .cells [.int .i64 lo], .cells [.int .i64 hi]] := fun x => sim_is hX ok0 (first := []) (by kernel_rfl) (.ssh (fun _ => .sr) (fun _ => .sr))
 have h2 := w169_020 (g := fun x => S_within1 x lo hi) h1
 have h3 : Sim X0 Tryz.prog (ApN (n + 3)) (.fn 150 [] []) [.slc 0 0 2 3 1 true, .fn 151 [] [.ptr 1 0 1, .ptr 2 0 1]] [.cells [.int .i64 a, .int .i64 b, .int .i64 c], .cells [.int .i64 lo], .cells [.int .i64 hi]] (tA.put (decide (J2 (fun x => S_within1 x lo hi) a b ≥ 0))) [.cells [.int .i64 a, .int .i64 b, .int .i64 c], .cells [.int .i64 lo], .cells [.int .i64 hi]] := sim_is hX ok0 (first := []) (cap := []) (by kernel_rfl) (.k h2 .sr)
 exact sim_is hX ok0 (first := []) (cap := []) (by kernel_rfl) (.k h3 .sr)
theorem w117_030 {n : Nat} (a b c lo hi : Int) : Sim X0 Tryz.prog (ApN (n + 4)) (.fn 117 [] []) [.int .i64 lo, .int .i64 hi, .slc 0 0 3 3 1 true] [.cells [.int .i64 a, .int .i64 b, .int .i64 c]] (tA.put (!decide (J3 (fun x => S_within1 x lo hi) a b c ≥ 0))) [.cells [.int .i64 a, .int .i64 b, .int .i64 c], .cells [.int .i64 lo], .cells [.int .i64 hi]] := by
 have h1 : ∀ x, Sim X0 Tryz.prog (ApN (n + 1)) (.fn 151 [] [.ptr 1 0 1, .ptr 2 0 1]) [.int .i64 x] [.cells [.int .i64 a, .int .i64 b, .int .i64 c], .cells [.int .i64 lo], .cells [.int .i64 hi]] (tA.put (S_within1 x lo hi)) [.cells [.int .i64 a, .int .i64 b, .int .i64 c], .cells [.int .i64 lo], .cells [.int .i64 hi]] := fun x => sim_is hX ok0 (first := []) (by kernel_rfl) (.ssh (fun _ => .sr) (fun _ => .sr))
 have h2 := w169_030 (g := fun x => S_within1 x lo hi) h1
 have h3 : Sim X0 Tryz.prog (ApN (n + 3)) (.fn 150 [] []) [.slc 0 0 3 3 1 true, .fn 151 [] [.ptr 1 0 1, .ptr 2 0 1]] [.cells [.int .i64 a, .int .i64 b, .int .i64 c], .cells [.int .i64 lo], .cells [.int .i64 hi]] (tA.put (decide (J3 (fun x => S_within1 x lo hi) a b c ≥ 0))) [.cells [.int .i64 a, .int .i64 b, .int .i64 c], .cells [.int .i64 lo], .cells [.int .i64 hi]] := sim_is hX ok0 (first := []) (cap := []) (by kernel_rfl) (.k h2 .sr)
 exact sim_is hX ok0 (first := []) (cap := []) (by kernel_rfl) (.k h3 .sr)
theorem w117_032 {n : Nat} (a b c lo hi u v : Int) : Sim X0 Tryz.prog (ApN (n + 4)) (.fn 117 [] []) [.int .i64 lo, .int .i64 hi, .slc 0 0 3 3 1 true] [.cells [.int .i64 a, .int .i64 b, .int .i64 c], .cells [.int .i64 u], .cells [.int .i64 v]] (tA.put (!decide (J3 (fun x => S_within1 x lo hi) a b c ≥ 0))) [.cells [.int .i64 a, .int .i64 b, .int .i64 c], .cells [.int .i64 u], .cells [.int .i64 v], .cells [.int .i64 lo], .cells [.int .i64 hi]] := by
 have h1 : ∀ x, Sim X0 Tryz.prog (ApN (n + 1)) (.fn 151 [] [.ptr 3 0 1, .ptr 4 0 1]) [.int .i64 x] [.cells [.int .i64 a, .int .i64 b, .int .i64 c], .cells [.int .i64 u], .cells [.int .i64 v], .cells [.int .i64 lo], .cells [.int .i64 hi]] (tA.put (S_within1 x lo hi)) [.cells [.int .i64 a, .int .i64 b, .int .i64 c], .cells [.int .i64 u], .cells [.int .i64 v], .cells [.int .i64 lo], .cells [.int .i64 hi]] := fun x => sim_is hX ok0 (first := []) (by kernel_rfl) (.ssh (fun _ => .sr) (fun _ => .sr))
 have h2 := w169_032 (g := fun x => S_within1 x lo hi) h1
 have h3 : Sim X0 Tryz.prog (ApN (n + 3)) (.fn 150 [] []) [.slc 0 0 3 3 1 true, .fn 151 [] [.ptr 3 0 1, .ptr 4 0 1]] [.cells [.int .i64 a, .int .i64 b, .int .i64 c], .cells [.int .i64 u], .cells [.int .i64 v], .cells [.int .i64 lo], .cells [.int .i64 hi]] (tA.put (decide (J3 (fun x => S_within1 x lo hi) a b c ≥ 0))) [.cells [.int .i64 a, .int .i64 b, .int .i64 c], .cells [.int .i64 u], .cells [.int .i64 v], .cells [.int .i64 lo], .cells [.int .i64 hi]] := sim_is hX ok0 (first := []) (cap := []) (by kernel_rfl) (.k h2 .sr)
 exact sim_is hX ok0 (first := []) (cap := []) (by kernel_rfl) (.k h3 .sr)
theorem w117_122 {n : Nat} (a b c lo hi u v : Int) : Sim X0 Tryz.prog (ApN (n + 4)) (.fn 117 [] []) [.int .i64 lo, .int .i64 hi, .slc 0 1 2 2 1 true] [.cells [.int .i64 a, .int .i64 b, .int .i64 c], .cells [.int .i64 u], .cells [.int .i64 v]] (tA.put (!decide (J2 (fun x => S_within1 x lo hi) b c ≥ 0))) [.cells [.int .i64 a, .int .i64 b, .int .i64 c], .cells [.int .i64 u], .cells [.int .i64 v], .cells [.int .i64 lo], .cells [.int .i64 hi]] := by
 have h1 : ∀ x, Sim X0 Tryz.prog (ApN (n + 1)) (.fn 151 [] [.ptr 3 0 1, .ptr 4 0 1]) [.int .i64 x] [.cells [.int .i64 a, .int .i64 b, .int .i64 c], .cells [.int .i64 u], .cells [.int .i64 v], .cells [.int .i64 lo], .cells [.int .i64 hi]] (tA.put (S_within1 x lo hi)) [.cells [.int .i64 a, .int .i64 b, .int .i64 c], .cells [.int .i64 u], .cells [.int .i64 v], .cells [.int .i64 lo], .cells [.int .i64 hi]] := fun x => sim_is hX ok0 (first := []) (by kernel_rfl) (.ssh (fun _ => .sr) (fun _ => .sr))
 have h2 := w169_122 (g := fun x => S_within1 x lo hi) h1
 have h3 : Sim X0 Tryz.prog (ApN (n + 3)) (.fn 150 [] []) [.slc 0 1 2 2 1 true, .fn 151 [] [.ptr 3 0 1, .ptr 4 0 1]] [.cells [.int .i64 a, .int .i64 b, .int .i64 c], .cells [.int .i64 u], .cells [.int .i64 v], .cells [.int .i64 lo], .cells [.int .i64 hi]] (tA.put (decide (J2 (fun x => S_within1 x lo hi) b c ≥ 0))) [.cells [.int .i64 a, .int .i64 b, .int .i64 c], .cells [.int .i64 u], .cells [.int .i64 v], .cells [.int .i64 lo], .cells [.int .i64 hi]] := sim_is hX ok0 (first := []) (cap := []) (by kernel_rfl) (.k h2 .sr)
 exact sim_is hX ok0 (first := []) (cap := []) (by kernel_rfl) (.k h3 .sr)
theorem w117_212 {n : Nat} (a b c lo hi u v : Int) : Sim X0 Tryz.prog (ApN (n + 4)) (.fn 117 [] []) [.int .i64 lo, .int .i64 hi, .slc 0 2 1 1 1 true] [.cells [.int .i64 a, .int .i64 b, .int .i64 c], .cells [.int .i64 u], .cells [.int .i64 v]] (tA.put (!decide (J1 (fun x => S_within1 x lo hi) c ≥ 0))) [.cells [.int .i64 a, .int .i64 b, .int .i64 c], .cells [.int .i64 u], .cells [.int .i64 v], .cells [.int .i64 lo], .cells [.int .i64 hi]] := by
 have h1 : ∀ x, Sim X0 Tryz.prog (ApN (n + 1)) (.fn 151 [] [.ptr 3 0 1, .ptr 4 0 1]) [.int .i64 x] [.cells [.int .i64 a, .int .i64 b, .int .i64 c], .cells [.int .i64 u], .cells [.int .i64 v], .cells [.int .i64 lo], .cells [.int .i64 hi]] (tA.put (S_within1 x lo hi)) [.cells [.int .i64 a, .int .i64 b, .int .i64 c], .cells [.int .i64 u], .cells [.int .i64 v], .cells [.int .i64 lo], .cells [.int .i64 hi]] := fun x => sim_is hX ok0 (first := []) (by kernel_rfl) (.ssh (fun _ => .sr) (fun _ => .sr))
 have h2 := w169_212 (g := fun x => S_within1 x lo hi) h1
 have h3 : Sim X0 Tryz.prog (ApN (n + 3)) (.fn 150 [] []) [.slc 0 2 1 1 1 true, .fn 151 [] [.ptr 3 0 1, .ptr 4 0 1]] [.cells [.int .i64 a, .int .i64 b, .int .i64 c], .cells [.int .i64 u], .cells [.int .i64 v], .cells [.int .i64 lo], .cells [.int .i64 hi]] (tA.put (decide (J1 (fun x => S_within1 x lo hi) c ≥ 0))) [.cells [.int .i64 a, .int .i64 b, .int .i64 c], .cells [.int .i64 u], .cells [.int .i64 v], .cells [.int .i64 lo], .cells [.int .i64 hi]] := sim_is hX ok0 (first := []) (cap := []) (by kernel_rfl) (.k h2 .sr)
 exact sim_is hX ok0 (first := []) (cap := []) (by kernel_rfl) (.k h3 .sr)
theorem w117_302 {n : Nat} (a b c lo hi u v : Int) : Sim X0 Tryz.prog (ApN (n + 4)) (.fn 117 [] []) [.int .i64 lo, .int .i64 hi, .slc 0 3 0 0 1 true] [.cells [.int .i64 a, .int .i64 b, .int .i64 c], .cells [.int .i64 u], .cells [.int .i64 v]] (tA.put (!decide (J0 (fun x => S_within1 x lo hi)  ≥ 0))) [.cells [.int .i64 a, .int .i64 b, .int .i64 c], .cells [.int .i64 u], .cells [.int .i64 v], .cells [.int .i64 lo], .cells [.int .i64 hi]] := by
 have h1 : ∀ x, Sim X0 Tryz.prog (ApN (n + 1)) (.fn 151 [] [.ptr 3 0 1, .ptr 4 0 1]) [.int .i64 x] [.cells [.int .i64 a, .int .i64 b, .int .i64 c], .cells [.int .i64 u], .cells [.int .i64 v], .cells [.int .i64 lo], .cells [.int .i64 hi]] (tA.put (S_within1 x lo hi)) [.cells [.int .i64 a, .int .i64 b, .int .i64 c], .cells [.int .i64 u], .cells [.int .i64 v], .cells [.int .i64 lo], .cells [.int .i64 hi]] := fun x => sim_is hX ok0 (first := []) (by kernel_rfl) (.ssh (fun _ => .sr) (fun _ => .sr))
 have h2 := w169_302 (g := fun x => S_within1 x lo hi) h1
 have h3 : Sim X0 Tryz.prog (ApN (n + 3)) (.fn 150 [] []) [.slc 0 3 0 0 1 true, .fn 151 [] [.ptr 3 0 1, .ptr 4 0 1]] [.cells [.int .i64 a, .int .i64 b, .int .i64 c], .cells [.int .i64 u], .cells [.int .i64 v], .cells [.int .i64 lo], .cells [.int .i64 hi]] (tA.put (decide (J0 (fun x => S_within1 x lo hi)  ≥ 0))) [.cells [.int .i64 a, .int .i64 b, .int .i64 c], .cells [.int .i64 u], .cells [.int .i64 v], .cells [.int .i64 lo], .cells [.int .i64 hi]] := sim_is hX ok0 (first := []) (cap := []) (by kernel_rfl) (.k h2 .sr)
 exact sim_is hX ok0 (first := []) (cap := []) (by kernel_rfl) (.k h3 .sr)
end Go.Proofs.YtfhiejgoemcelaaGreat
namespace Go.Proofs.YtfhiejgoemcelaaGreat
open Go Tw Pv
theorem _root_.Pv.OrcOk.as {X : Cod} {P : Program} {call : CallT} {α β : Type} {f : FuncId} {a : ArL X P α} {r : Ar X P β} {S : α → β} {pre : α → List Prop} {orc : Orc X.Γ} (hO : OrcOk X P call orc)
  (h : ∀ x, (∀ p ∈ pre x, p) → Con X P call f (a.put x) (r.put (S x)) []) : OrcOk X P call (orcF f a r S pre orc) := by
 intro g vs v ext ps ho hp
 unfold orcF at ho
 split at ho
 ·rename_i e
  have e := Nat.eq_of_beq_eq_true e
  subst e
  split at ho
  ·rename_i x hx
   cases ho
   intro A hh first args cap hup hv
   exact h x hp A hh first args cap hup (a.ok hx hv)
  ·exact hO g vs v ext ps ho hp
 ·exact hO g vs v ext ps ho hp
noncomputable def oc153 : Orc gam := orcF 153 (a1 oA) (aggL (a3 iA iA iA)) (fun p => (p.a, p.b, p.c)) np oc154
theorem gc153 : Gd oc153 := gc154.add fun n hO p hp => fn_is hX hO (by kernel_rfl) .rr
theorem J0_eq (g : Int → Bool) : decide (J0 g ≥ 0) = ([] : List Int).any g := rfl
theorem J1_eq (g : Int → Bool) (a : Int) : decide (J1 g a ≥ 0) = [a].any g := by unfold J1; cases h : g a <;> simp [h]
theorem J2_eq (g : Int → Bool) (a b : Int) : decide (J2 g a b ≥ 0) = [a, b].any g := by unfold J2; cases h : g a <;> cases h2 : g b <;> simp [h, h2]
theorem J3_eq (g : Int → Bool) (a b c : Int) : decide (J3 g a b c ≥ 0) = [a, b, c].any g := by unfold J3; cases h : g a <;> cases h2 : g b <;> cases h3 : g c <;> simp [h, h2, h3]
noncomputable def ar (m : Int) : Orc gam → Orc gam := orcF 154 (a1 uA) iA (fun _ => m) (fun p => [S_arity p = m])
theorem Ok.ar {n : Nat} (m : Int) (hO : Ok n oc153) : Ok n (ar m oc153) := OrcOk.as hO fun x hx => by
 have h := hO 154 ((a1 uA).put x) (iA.put (S_arity x)) [] [] rfl (by simp)
 rw [hx _ (.head _)] at h
 exact h
theorem arity4 (x : Int) : S_arity x = 0 ∨ S_arity x = 1 ∨ S_arity x = 2 ∨ S_arity x = 3 := by
 unfold S_arity; split
 ·exact .inl rfl
 ·split
  ·exact .inr (.inl rfl)
  ·split
   ·exact .inr (.inr (.inl rfl))
   ·exact .inr (.inr (.inr rfl))
def isOpB (c : C) (o : O) (w1 w2 : Bool) : Bool := if decide (o.code < 1) = true then false else if decide (o.code > 17) = true then false else if (!(S_isNumber c o)) = true then false else if w1 = true then w2 else false
noncomputable def oc118 : Orc gam := orcF 118 (a2 cA iA) tA (fun p => S_isOp p.1 p.2 (p.1.os.getD p.2.toNat O0)) (fun p => [inR p.2 p.1.os.length]) oc153
theorem gc118 : Gd oc118 := gc153.deep 4 fun n hn hO p hp => by
 obtain ⟨n, rfl⟩ : ∃ k, n = k + 4 := ⟨n - 4, by omega⟩
 have hi : inR p.2 p.1.os.length := hp _ (.head _)
 have hO := hO (n + 4) (by omega)
 rcases arity4 (p.1.os.getD p.2.toNat O0).code with hm | hm | hm | hm
 ·have : Con X0 Tryz.prog (ApN (n + 4 + 1)) 118 ((a2 cA iA).put p) (tA.put (isOpB p.1 (p.1.os.getD p.2.toNat O0) (!decide (J0 (fun x => S_within1 x 0 (IntKind.i64.wrap (p.2 - 1))) ≥ 0)) (!decide (J3 (fun x => S_within1 x 0 0) (p.1.os.getD p.2.toNat O0).a (p.1.os.getD p.2.toNat O0).b (p.1.os.getD p.2.toNat O0).c ≥ 0)))) [] := fn_is hX (Ok.ar 0 hO) (by kernel_rfl) (.o hi (.ss .rr (.ss .rr (.ss .rr (.o hm (.a .no (.k (w117_000 (n := n) (p.1.os.getD p.2.toNat O0).a (p.1.os.getD p.2.toNat O0).b (p.1.os.getD p.2.toNat O0).c 0 (IntKind.i64.wrap (p.2 - 1))) (.ss (.a .no (.k (w117_032 (n := n) (p.1.os.getD p.2.toNat O0).a (p.1.os.getD p.2.toNat O0).b (p.1.os.getD p.2.toNat O0).c 0 0 0 (IntKind.i64.wrap (p.2 - 1))) .rr)) .rr))))))))
  simp only [isOpB, J0_eq, J3_eq] at this
  simp only [S_isOp, S_isOpA, hm]
  exact this
 ·have : Con X0 Tryz.prog (ApN (n + 4 + 1)) 118 ((a2 cA iA).put p) (tA.put (isOpB p.1 (p.1.os.getD p.2.toNat O0) (!decide (J1 (fun x => S_within1 x 0 (IntKind.i64.wrap (p.2 - 1))) (p.1.os.getD p.2.toNat O0).a ≥ 0)) (!decide (J2 (fun x => S_within1 x 0 0) (p.1.os.getD p.2.toNat O0).b (p.1.os.getD p.2.toNat O0).c ≥ 0)))) [] := fn_is hX (Ok.ar 1 hO) (by kernel_rfl) (.o hi (.ss .rr (.ss .rr (.ss .rr (.o hm (.a .no (.k (w117_010 (n := n) (p.1.os.getD p.2.toNat O0).a (p.1.os.getD p.2.toNat O0).b (p.1.os.getD p.2.toNat O0).c 0 (IntKind.i64.wrap (p.2 - 1))) (.ss (.a .no (.k (w117_122 (n := n) (p.1.os.getD p.2.toNat O0).a (p.1.os.getD p.2.toNat O0).b (p.1.os.getD p.2.toNat O0).c 0 0 0 (IntKind.i64.wrap (p.2 - 1))) .rr)) .rr))))))))
  simp only [isOpB, J1_eq, J2_eq] at this
  simp only [S_isOp, S_isOpA, hm]
  exact this
 ·have : Con X0 Tryz.prog (ApN (n + 4 + 1)) 118 ((a2 cA iA).put p) (tA.put (isOpB p.1 (p.1.os.getD p.2.toNat O0) (!decide (J2 (fun x => S_within1 x 0 (IntKind.i64.wrap (p.2 - 1))) (p.1.os.getD p.2.toNat O0).a (p.1.os.getD p.2.toNat O0).b ≥ 0)) (!decide (J1 (fun x => S_within1 x 0 0) (p.1.os.getD p.2.toNat O0).c ≥ 0)))) [] := fn_is hX (Ok.ar 2 hO) (by kernel_rfl) (.o hi (.ss .rr (.ss .rr (.ss .rr (.o hm (.a .no (.k (w117_020 (n := n) (p.1.os.getD p.2.toNat O0).a (p.1.os.getD p.2.toNat O0).b (p.1.os.getD p.2.toNat O0).c 0 (IntKind.i64.wrap (p.2 - 1))) (.ss (.a .no (.k (w117_212 (n := n) (p.1.os.getD p.2.toNat O0).a (p.1.os.getD p.2.toNat O0).b (p.1.os.getD p.2.toNat O0).c 0 0 0 (IntKind.i64.wrap (p.2 - 1))) .rr)) .rr))))))))
  simp only [isOpB, J2_eq, J1_eq] at this
  simp only [S_isOp, S_isOpA, hm]
  exact this
 ·have : Con X0 Tryz.prog (ApN (n + 4 + 1)) 118 ((a2 cA iA).put p) (tA.put (isOpB p.1 (p.1.os.getD p.2.toNat O0) (!decide (J3 (fun x => S_within1 x 0 (IntKind.i64.wrap (p.2 - 1))) (p.1.os.getD p.2.toNat O0).a (p.1.os.getD p.2.toNat O0).b (p.1.os.getD p.2.toNat O0).c ≥ 0)) (!decide (J0 (fun x => S_within1 x 0 0) ≥ 0)))) [] := fn_is hX (Ok.ar 3 hO) (by kernel_rfl) (.o hi (.ss .rr (.ss .rr (.ss .rr (.o hm (.a .no (.k (w117_030 (n := n) (p.1.os.getD p.2.toNat O0).a (p.1.os.getD p.2.toNat O0).b (p.1.os.getD p.2.toNat O0).c 0 (IntKind.i64.wrap (p.2 - 1))) (.ss (.a .no (.k (w117_302 (n := n) (p.1.os.getD p.2.toNat O0).a (p.1.os.getD p.2.toNat O0).b (p.1.os.getD p.2.toNat O0).c 0 0 0 (IntKind.i64.wrap (p.2 - 1))) .rr)) .rr))))))))
  simp only [isOpB, J3_eq, J0_eq] at this
  simp only [S_isOp, S_isOpA, hm]
  exact this
end Go.Proofs.YtfhiejgoemcelaaGreat
namespace Go.Proofs.YtfhiejgoemcelaaGreat
open Go Tw Pv
abbrev w83 (c : C) (i : Int) (x : List (Nat × PE gam)) : PSt gam := ⟨[(1, .loc 0 0), (32, xi c.os.length), (33, xi i)] ++ x, [xC c], []⟩
def z83 (c : C) : Unit ⊕ (Nat × O × Unit) → Ex × PSt gam
 | .inl _ => (.exit 1, w83 c c.os.length [(34, xl false)])
 | .inr _ => (.ret, ⟨[(2, xi 4)], [xC c], []⟩)
theorem l83 {n : Nat} (hO : Ok n oc118) (c : C) (hlo : c.os.length ≤ most) : Lp n 83 0 (w83 c 0 []) (z83 c (runL (F_Check c) c.os 0 ())).1 (z83 c (runL (F_Check c) c.os 0 ())).2 :=
 eachE (st := fun i _ => w83 c i []) O0 (fun _ _ => True) (by kernel_rfl) hlo LLm trivial (fun k s n hk _ ih => round hX hO (by kernel_rfl) (.b (lt_nat hk) (.o (inR_nat hk) (.ls (.ou nofun) (.nx (ih _ trivial)))))) (fun s _ => round hX hO (by kernel_rfl) (.b (lt_no c.os.length) (.ou nofun)))
theorem s116 {n : Nat} (hO : Ok n oc118) (H : List (PB gam)) (x : K) : Sim X0 Tryz.prog (ApN n) (.fn 116 [] []) [.agg x.ps] H (.bool (S_isNoChoice x)) H :=
 sim_orc hX hO (first := []) (cap := []) (vs := [.agg x.ps]) (v := .bool (S_isNoChoice x)) rfl rfl (fun p h => by cases h) rfl
noncomputable def oc83 : Orc gam := orcF 83 (a1 cA) iA (fun p => S_Check p) np oc118
theorem gc83 : Gd oc83 := gc118.deep 2 fun n hn hO p hp => by
 have hs := s115 (n := n - 1) (by omega) (H := []) (s116 (hO _ (by omega)) []) p.cs
 rw [show n - 1 + 1 = n by omega, show S_ContainsFuncK (fun x => S_isNoChoice x) p.cs = p.cs.any (fun x => S_isNoChoice x) from containsK _ _] at hs
 have sm : ∀ {k : Nat} {m : Int}, m ≤ 3000 → decide (((k : Nat) : Int) > m) = false → k ≤ most := fun hm h => by simp only [decide_eq_false_iff_not] at h; unfold most; omega
 exact fn_is hX (hO n (by omega)) (by kernel_rfl) (.sh (fun _ => .rr) fun h0 => .sh (fun _ => .rr) fun h1 => .sh (fun _ => .rr) fun h2 => .k (hs (sm (by decide) h0)) (.ss .rr (.o (sm (by decide) h2) (.ss .rr (.zh (fun h => .w (exInl (l83 (hO n (by omega)) p (sm (by decide) h1)) () h) .rr) (fun h => .w (exInr (l83 (hO n (by omega)) p (sm (by decide) h1)) (0, O0, ()) h) .rr))))))
end Go.Proofs.YtfhiejgoemcelaaGreat
namespace Pv
open Go Tw
section
variable {X : Cod} {P : Program} {T : Tab} {L : Nat}
def orcE {α : Type} (f : FuncId) (a : ArL X P α) (v : α → PV X.Γ) (ext : α → List (PB X.Γ)) (pre : α → List Prop) (orc : Orc X.Γ) : Orc X.Γ := fun g vs =>
 match Nat.beq g f with
 | true => match a.get vs with
  | some x => some (v x, ext x, pre x)
  | none => orc g vs
 | false => orc g vs
theorem Good.deepE {α : Type} {f : FuncId} {a : ArL X P α} {v : α → PV X.Γ} {ext : α → List (PB X.Γ)} {pre : α → List Prop} {orc : Orc X.Γ} (d : Nat) (hg : Good X P T L orc)
  (hf : ∀ n, d ≤ n → (∀ m, n - d ≤ m → OrcOk X P (apN P T L m) orc) → ∀ x, (∀ p ∈ pre x, p) → Con X P (apN P T L (n + 1)) f (a.put x) (v x) (ext x)) : Good X P T L (orcE f a v ext pre orc) := by
 obtain ⟨N, hN⟩ := hg
 refine ⟨N + d + 1, fun n hn => ?_⟩
 obtain ⟨k, rfl⟩ : ∃ k, n = k + 1 := ⟨n - 1, by omega⟩
 intro g vs v ext ps ho hp
 unfold orcE at ho
 split at ho
 ·rename_i e
  have e := Nat.eq_of_beq_eq_true e
  subst e
  split at ho
  ·rename_i x hx
   cases ho
   intro A h first args cap hup hv
   exact hf k (by omega) (fun m hm => hN m (by omega)) x hp A h first args cap hup (a.ok hx hv)
  ·exact hN (k + 1) (by omega) g vs v ext ps ho hp
 ·exact hN (k + 1) (by omega) g vs v ext ps ho hp
def IsE (v : PV X.Γ) (H : List (PB X.Γ)) : PV X.Γ × List (PB X.Γ) → Prop := fun y => y = (v, H)
theorem Fp.er {v : PV X.Γ} {H : List (PB X.Γ)} : Fp (IsE v H) (.n : PT X.Γ) (.ret (v, H)) := .r rfl
theorem fn_ex (hX : CodOk X P) {n f : Nat} {orc : Orc X.Γ} (hO : OrcOk X P (apN P T L n) orc) {vs : List (PV X.Γ)} {an : PT X.Γ} {v : PV X.Γ} {H : List (PB X.Γ)} {o : OT (PV X.Γ × List (PB X.Γ))}
  (hk : pfunK X P T orc (Sim X P (apN P T L n)) (LoopS X P T (apN P T L n) L f 0) L f vs [] an = o) (ht : Fp (IsE v H) an o) : Con X P (apN P T L (n + 1)) f vs v H := by
 obtain ⟨y, h1, h2⟩ := ht.ends
 cases h2
 rw [← hk] at h1
 exact con_fn hX (n := n + 1) (by omega) hO h1
end
end Pv
namespace Go.Proofs.YtfhiejgoemcelaaGreat
open Go Tw Pv
noncomputable def oc193 : Orc gam := orcF 193 (a1 iA) tA (fun p => S_isNaN p) np oc83
theorem gc193 : Gd oc193 := gc83.add fun n hO p hp => fn_is hX hO (by kernel_rfl) .rr
noncomputable def oc160 : Orc gam := orcF 160 (a1 uA) vA (fun p => S_vfault p) np oc193
theorem gc160 : Gd oc160 := gc193.add fun n hO p hp => fn_is hX hO (by kernel_rfl) .rr
noncomputable def oc159 : Orc gam := orcF 159 (a3 iA iA isA) tA (fun p => S_withinV p.2.2 p.1 p.2.1) (fun p => [p.2.2.length ≤ most]) oc160
theorem gc159 : Gd oc159 := gc160.deep 3 fun n hn hO p hp => by
 have h1 : ∀ x, Sim X0 Tryz.prog (ApN (n - 3 + 1)) (.fn 171 [] [.ptr 0 0 1, .ptr 1 0 1]) [.int .i64 x] [.cells [.int .i64 p.1], .cells [.int .i64 p.2.1]] (tA.put (S_within1V x p.1 p.2.1)) [.cells [.int .i64 p.1], .cells [.int .i64 p.2.1]] := fun x => sim_is hX ok0 (first := []) (by kernel_rfl) (.ssh (fun _ => .sr) (fun _ => .sr))
 obtain ⟨n, rfl⟩ : ∃ k, n = k + 3 := ⟨n - 3, by omega⟩
 rw [show n + 3 - 3 + 1 = n + 1 by omega] at h1
 have h2 := s150 (n := n + 2) (by omega) (g := fun x => S_within1V x p.1 p.2.1) h1 p.2.2 (hp _ (.head _))
 exact fn_is hX (hO _ (by omega)) (by kernel_rfl) (.k h2 (.v (!(S_ContainsFuncI (fun x => S_within1V x p.1 p.2.1) p.2.2)) (by rw [containsI]; rfl)))
end Go.Proofs.YtfhiejgoemcelaaGreat
namespace Go.Proofs.YtfhiejgoemcelaaGreat
open Go Tw Pv
theorem nan (x : Int) : S_isNaN x = false := by simp [S_isNaN]
noncomputable def oc162 : Orc gam := orcF 162 (a1 vA) tA (fun p => S_isCell p) np oc159
theorem gc162 : Gd oc162 := gc159.add fun n hO p hp => fn_is hX hO (by kernel_rfl) (.ss (.o le1 .rr) (.ss .rr .rr))
noncomputable def oc140 : Orc gam := orcF 140 (a1 iA) vA (fun p => S_vMake p) np oc162
theorem gc140 : Gd oc140 := gc162.add fun n hO p hp => fn_is hX hO (by kernel_rfl) (.o le1 (.ss .rr .rr))
noncomputable def oc174 : Orc gam := orcF 174 (a1 tA) vA (fun p => S_vtruth p) np oc140
theorem gc174 : Gd oc174 := gc140.add fun n hO p hp => fn_is hX hO (by kernel_rfl) (.ss .rr .rr)
noncomputable def oc172 : Orc gam := orcF 172 (a1 iA) vA (fun p => S_solo1 p) np oc174
theorem gc172 : Gd oc172 := gc174.add fun n hO p hp => fn_is hX hO (by kernel_rfl) .rr
noncomputable def oc173 : Orc gam := orcF 173 (a1 iA) vA (fun p => S_solo2 p) np oc172
theorem gc173 : Gd oc173 := gc172.add fun n hO p hp => fn_is hX hO (by kernel_rfl) .rr
noncomputable def oc176 : Orc gam := orcF 176 (a1 vA) tA (fun p => S_first1 p) np oc173
theorem gc176 : Gd oc176 := gc173.add fun n hO p hp => fn_is hX hO (by kernel_rfl) .rr
noncomputable def oc178 : Orc gam := orcF 178 (a1 vA) tA (fun p => S_are1 p) np oc176
theorem gc178 : Gd oc178 := gc176.add fun n hO p hp => fn_is hX hO (by kernel_rfl) .rr
noncomputable def oc179 : Orc gam := orcF 179 (a2 iA iA) vA (fun p => S_duo1 p.1 p.2) np oc178
theorem gc179 : Gd oc179 := gc178.add fun n hO p hp => fn_is hX hO (by kernel_rfl) .rr
noncomputable def oc180 : Orc gam := orcF 180 (a2 iA iA) vA (fun p => S_duo2 p.1 p.2) np oc179
theorem gc180 : Gd oc180 := gc179.add fun n hO p hp => fn_is hX hO (by kernel_rfl) .rr
noncomputable def oc181 : Orc gam := orcF 181 (a2 iA iA) vA (fun p => S_duo3 p.1 p.2) np oc180
theorem gc181 : Gd oc181 := gc180.add fun n hO p hp => fn_is hX hO (by kernel_rfl) .rr
noncomputable def oc183 : Orc gam := orcF 183 (a2 iA iA) iA (fun p => S_duo4 p.1 p.2) np oc181
theorem gc183 : Gd oc183 := gc181.add fun n hO p hp => fn_is hX hO (by kernel_rfl) .rr
noncomputable def oc184 : Orc gam := orcF 184 (a2 iA iA) iA (fun p => S_duo5 p.1 p.2) np oc183
theorem gc184 : Gd oc184 := gc183.add fun n hO p hp => fn_is hX hO (by kernel_rfl) .rr
noncomputable def oc186 : Orc gam := orcF 186 (a1 iA) tA (fun p => S_duo6 p) np oc184
theorem gc186 : Gd oc186 := gc184.add fun n hO p hp => fn_is hX hO (by kernel_rfl) .rr
noncomputable def oc187 : Orc gam := orcF 187 (a1 iA) tA (fun p => S_duo7 p) np oc186
theorem gc187 : Gd oc187 := gc186.add fun n hO p hp => fn_is hX hO (by kernel_rfl) .rr
noncomputable def oc188 : Orc gam := orcF 188 (a1 iA) tA (fun p => S_duo8 p) np oc187
theorem gc188 : Gd oc188 := gc187.add fun n hO p hp => fn_is hX hO (by kernel_rfl) .rr
noncomputable def oc190 : Orc gam := orcF 190 (a2 iA iA) (tupA (a2 iA iA)) (fun p => S_vquotient p.1 p.2) (fun p => [p.2 ≠ 0]) oc188
theorem gc190 : Gd oc190 := gc188.add fun n hO p hp => fn_is hX hO (by kernel_rfl) (.o (hp _ (.head _)) (.o (hp _ (.head _)) (.ss (.ss .rr .rr) .rr)))
noncomputable def oc192 : Orc gam := orcF 192 (a2 iA iA) iA (fun p => S_Compare p.1 p.2) np oc190
theorem gc192 : Gd oc192 := gc190.add fun n hO p hp => fn_is hX hO (by kernel_rfl) (.b (nan p.1) (.b (nan p.2) (.ss .rr (.ss .rr .rr))))
end Go.Proofs.YtfhiejgoemcelaaGreat
namespace Go.Proofs.YtfhiejgoemcelaaGreat
open Go Tw Pv
theorem s176 {n : Nat} {orc : Orc gam} (hO : Ok n orc) (ho : ∀ x : V, orc 176 [.agg x.ps] = some (.bool (S_first1 x), [], [])) (H : List (PB gam)) (x : V) : Sim X0 Tryz.prog (ApN n) (.fn 176 [] []) [.agg x.ps] H (.bool (S_first1 x)) H :=
 sim_orc hX hO (first := []) (cap := []) (vs := [.agg x.ps]) (v := .bool (S_first1 x)) rfl (ho x) (fun p h => by cases h) rfl
theorem s178 {n : Nat} {orc : Orc gam} (hO : Ok n orc) (ho : ∀ x : V, orc 178 [.agg x.ps] = some (.bool (S_are1 x), [], [])) (H : List (PB gam)) (x : V) : Sim X0 Tryz.prog (ApN n) (.fn 178 [] []) [.agg x.ps] H (.bool (S_are1 x)) H :=
 sim_orc hX hO (first := []) (cap := []) (vs := [.agg x.ps]) (v := .bool (S_are1 x)) rfl (ho x) (fun p h => by cases h) rfl
noncomputable def oc163 : Orc gam := orcF 163 (a1 vsA) (tupA (a2 vA tA)) (fun p => S_firstFault p) (fun p => [p.length ≤ most]) oc192
theorem gc163 : Gd oc163 := gc192.deep 2 fun n hn hO p hp => by
 have hs := s175 (n := n - 1) (H := []) (g := fun v => S_first1 v) (s176 (hO (n - 1) (by omega)) (fun _ => rfl) []) p (hp _ (.head _))
 rw [show n - 1 + 1 = n by omega] at hs
 exact fn_is hX (hO n (by omega)) (by kernel_rfl) (.k hs (.sh (fun h => .rr) (fun h => .o (show inR (S_IndexFuncV (fun v => S_first1 v) p) p.length from ⟨by simpa using h, IndexFuncV_lt _ _⟩) .rr)))
noncomputable def oc164 : Orc gam := orcF 164 (a1 vsA) tA (fun p => S_areCells p) (fun p => [p.length ≤ most]) oc163
theorem gc164 : Gd oc164 := gc163.deep 3 fun n hn hO p hp => by
 have hs := s177 (n := n - 1) (by omega) (H := []) (g := fun v => S_are1 v) (s178 (hO (n - 2) (by omega)) (fun _ => rfl) []) p (hp _ (.head _))
 rw [show n - 1 + 1 = n by omega] at hs
 exact fn_is hX (hO n (by omega)) (by kernel_rfl) (.k hs (.v (!(S_ContainsFuncV (fun v => S_are1 v) p)) (by rw [containsV]; rfl)))
noncomputable def oc142 : Orc gam := orcF 142 (a3 vA vA vA) (tupA (a2 vA iA)) (fun p => S_vChoose p.1 p.2.1 p.2.2) np oc164
theorem gc142 : Gd oc142 := gc164.add fun n hO p hp => fn_is hX hO (by kernel_rfl) (.o le3 (.ss .rr (.ss .rr (.ss .rr .rr))))
end Go.Proofs.YtfhiejgoemcelaaGreat
namespace Go.Proofs.YtfhiejgoemcelaaGreat
open Go Tw Pv
noncomputable def fidA : Arg Nat where
 put f := .fn f [] []
 get v := match v with
  | .fn g [] [] => some g
  | _ => none
 ok := by
  intro v a hg A m h x hv
  split at hg
  ·cases hg; exact hv
  ·cases hg
noncomputable def oc161 : Orc gam := orcE 161 (a1 uA) (fun p => .fn (if p = 5 then 172 else 173) [] []) (fun _ => []) (fun p => [p = 5 ∨ p = 6]) oc142
theorem gc161 : Gd oc161 := gc142.deepE 0 fun n _ hO p hp => by
 rcases hp _ (.head _) with rfl | rfl
 ·exact fn_ex hX (hO n (by omega)) (by kernel_rfl) (.b (rfl : true = true) .er)
 ·exact fn_ex hX (hO n (by omega)) (by kernel_rfl) (.b (rfl : false = false) (.b (rfl : true = true) .er))
def S_vOp1T (code : Int) (a : V) : V × Int := if code = 5 then S_vOp1_5 a else S_vOp1_6 a
noncomputable def oc141 : Orc gam := orcF 141 (a2 uA vA) (tupA (a2 vA iA)) (fun p => S_vOp1T p.1 p.2) (fun p => [p.1 = 5 ∨ p.1 = 6]) oc161
theorem gc141 : Gd oc141 := gc161.add fun n hO p hp => by
 obtain ⟨k, a⟩ := p
 rcases (show k = 5 ∨ k = 6 from hp _ (.head _)) with rfl | rfl
 ·have : Con X0 Tryz.prog (ApN (n + 1)) 141 ((a2 uA vA).put (5, a)) ((tupA (a2 vA iA)).put (S_vOp1_5 a)) [] := fn_is hX hO (by kernel_rfl) (.o (.inl rfl : (5 : Int) = 5 ∨ (5 : Int) = 6) (.b (rfl : false = false) (.ss .rr (.o le1 (.ss .rr .rr)))))
  exact this
 ·have : Con X0 Tryz.prog (ApN (n + 1)) 141 ((a2 uA vA).put (6, a)) ((tupA (a2 vA iA)).put (S_vOp1_6 a)) [] := fn_is hX hO (by kernel_rfl) (.o (.inr rfl : (6 : Int) = 5 ∨ (6 : Int) = 6) (.b (rfl : false = false) (.ss .rr (.o le1 (.ss .rr .rr)))))
  exact this
noncomputable def oc182 : Orc gam := orcE 182 (a1 fidA) (fun _ => .fn 189 [] [.ptr 0 0 1]) (fun g => [.cells [.fn g [] []]]) np oc141
theorem gc182 : Gd oc182 := gc141.deepE 0 fun n _ hO p hp => fn_ex hX (hO n (by omega)) (by kernel_rfl) .er
noncomputable def oc185 : Orc gam := orcE 185 (a1 fidA) (fun _ => .fn 191 [] [.ptr 0 0 1]) (fun g => [.cells [.fn g [] []]]) np oc182
theorem gc185 : Gd oc185 := gc182.deepE 0 fun n _ hO p hp => fn_ex hX (hO n (by omega)) (by kernel_rfl) .er
def v165 (p : Int) : PV gam := if p = 7 then .fn 179 [] [] else if p = 8 then .fn 180 [] [] else if p = 9 then .fn 181 [] [] else if p = 10 then .fn 189 [] [.ptr 0 0 1] else if p = 11 then .fn 189 [] [.ptr 0 0 1] else .fn 191 [] [.ptr 0 0 1]
def e165 (p : Int) : List (PB gam) := if p = 10 then [.cells [.fn 183 [] []]] else if p = 11 then [.cells [.fn 184 [] []]] else if p = 12 then [.cells [.fn 186 [] []]] else if p = 13 then [.cells [.fn 187 [] []]] else if p = 14 then [.cells [.fn 188 [] []]] else []
noncomputable def oc165 : Orc gam := orcE 165 (a1 uA) v165 e165 (fun p => [7 ≤ p ∧ p ≤ 14]) oc185
theorem seven {p : Int} (h : 7 ≤ p ∧ p ≤ 14) : p = 7 ∨ p = 8 ∨ p = 9 ∨ p = 10 ∨ p = 11 ∨ p = 12 ∨ p = 13 ∨ p = 14 := by omega
theorem gc165 : Gd oc165 := gc185.deepE 0 fun n _ hO p hp => by
 rcases seven (hp _ (.head _)) with rfl | rfl | rfl | rfl | rfl | rfl | rfl | rfl
 ·exact fn_ex hX (hO n (by omega)) (by kernel_rfl) (.b (rfl : true = true) .er)
 ·exact fn_ex hX (hO n (by omega)) (by kernel_rfl) (.b (rfl : false = false) (.b (rfl : true = true) .er))
 ·exact fn_ex hX (hO n (by omega)) (by kernel_rfl) (.b (rfl : false = false) (.b (rfl : false = false) (.b (rfl : true = true) .er)))
 ·exact fn_ex hX (hO n (by omega)) (by kernel_rfl) (.b (rfl : false = false) (.b (rfl : false = false) (.b (rfl : false = false) (.b (rfl : true = true) .er))))
 ·exact fn_ex hX (hO n (by omega)) (by kernel_rfl) (.b (rfl : false = false) (.b (rfl : false = false) (.b (rfl : false = false) (.b (rfl : false = false) (.b (rfl : true = true) .er)))))
 ·exact fn_ex hX (hO n (by omega)) (by kernel_rfl) (.b (rfl : false = false) (.b (rfl : false = false) (.b (rfl : false = false) (.b (rfl : false = false) (.b (rfl : false = false) (.b (rfl : true = true) .er))))))
 ·exact fn_ex hX (hO n (by omega)) (by kernel_rfl) (.b (rfl : false = false) (.b (rfl : false = false) (.b (rfl : false = false) (.b (rfl : false = false) (.b (rfl : false = false) (.b (rfl : false = false) (.b (rfl : true = true) .er)))))))
 ·exact fn_ex hX (hO n (by omega)) (by kernel_rfl) (.b (rfl : false = false) (.b (rfl : false = false) (.b (rfl : false = false) (.b (rfl : false = false) (.b (rfl : false = false) (.b (rfl : false = false) (.b (rfl : false = false) (.b (rfl : true = true) .er))))))))
theorem s189_10 {n : Nat} (hO : Ok n oc165) (a b : V) (x y : Int) : Sim X0 Tryz.prog (ApN (n + 1)) (.fn 189 [] [.ptr 0 0 1]) [.int .i64 x, .int .i64 y] [.cells [.fn 183 [] []], .list true true 78 [a, b], .list true true 78 [a, b]] (vA.put (S_divided1 S_duo4 x y)) [.cells [.fn 183 [] []], .list true true 78 [a, b], .list true true 78 [a, b]] :=
 sim_is hX hO (first := []) (by kernel_rfl) (.ssh (fun _ => .sr) (fun h => .o (show y ≠ 0 by simpa using h) .sr))
theorem s189_11 {n : Nat} (hO : Ok n oc165) (a b : V) (x y : Int) : Sim X0 Tryz.prog (ApN (n + 1)) (.fn 189 [] [.ptr 0 0 1]) [.int .i64 x, .int .i64 y] [.cells [.fn 184 [] []], .list true true 78 [a, b], .list true true 78 [a, b]] (vA.put (S_divided1 S_duo5 x y)) [.cells [.fn 184 [] []], .list true true 78 [a, b], .list true true 78 [a, b]] :=
 sim_is hX hO (first := []) (by kernel_rfl) (.ssh (fun _ => .sr) (fun h => .o (show y ≠ 0 by simpa using h) .sr))
theorem s191_12 {n : Nat} (hO : Ok n oc165) (a b : V) (x y : Int) : Sim X0 Tryz.prog (ApN (n + 1)) (.fn 191 [] [.ptr 0 0 1]) [.int .i64 x, .int .i64 y] [.cells [.fn 186 [] []], .list true true 78 [a, b], .list true true 78 [a, b]] (vA.put (S_compared1 S_duo6 x y)) [.cells [.fn 186 [] []], .list true true 78 [a, b], .list true true 78 [a, b]] :=
 sim_is hX hO (first := []) (by kernel_rfl) .sr
theorem s191_13 {n : Nat} (hO : Ok n oc165) (a b : V) (x y : Int) : Sim X0 Tryz.prog (ApN (n + 1)) (.fn 191 [] [.ptr 0 0 1]) [.int .i64 x, .int .i64 y] [.cells [.fn 187 [] []], .list true true 78 [a, b], .list true true 78 [a, b]] (vA.put (S_compared1 S_duo7 x y)) [.cells [.fn 187 [] []], .list true true 78 [a, b], .list true true 78 [a, b]] :=
 sim_is hX hO (first := []) (by kernel_rfl) .sr
theorem s191_14 {n : Nat} (hO : Ok n oc165) (a b : V) (x y : Int) : Sim X0 Tryz.prog (ApN (n + 1)) (.fn 191 [] [.ptr 0 0 1]) [.int .i64 x, .int .i64 y] [.cells [.fn 188 [] []], .list true true 78 [a, b], .list true true 78 [a, b]] (vA.put (S_compared1 S_duo8 x y)) [.cells [.fn 188 [] []], .list true true 78 [a, b], .list true true 78 [a, b]] :=
 sim_is hX hO (first := []) (by kernel_rfl) .sr
def S_vOp2T (code : Int) (a b : V) : V × Int := if code = 7 then S_vOp2_7 a b else if code = 8 then S_vOp2_8 a b else if code = 9 then S_vOp2_9 a b else if code = 10 then S_vOp2_10 a b else if code = 11 then S_vOp2_11 a b else if code = 12 then S_vOp2_12 a b else if code = 13 then S_vOp2_13 a b else if code = 14 then S_vOp2_14 a b else if code = 15 then S_vOp2_15 a b else S_vOp2_16 a b
noncomputable def oc143 : Orc gam := orcF 143 (a3 uA vA vA) (tupA (a2 vA iA)) (fun p => S_vOp2T p.1 p.2.1 p.2.2) (fun p => [7 ≤ p.1 ∧ p.1 ≤ 16]) oc165
theorem nine {p : Int} (h : 7 ≤ p ∧ p ≤ 16) : p = 7 ∨ p = 8 ∨ p = 9 ∨ p = 10 ∨ p = 11 ∨ p = 12 ∨ p = 13 ∨ p = 14 ∨ p = 15 ∨ p = 16 := by omega
theorem gc143 : Gd oc143 := gc165.deep 1 fun n hn hO p hp => by
 obtain ⟨n, rfl⟩ : ∃ k, n = k + 1 := ⟨n - 1, by omega⟩
 have hO0 := hO n (by omega)
 have hO := hO (n + 1) (by omega)
 obtain ⟨k, a, b⟩ := p
 rcases nine (show 7 ≤ k ∧ k ≤ 16 from hp _ (.head _)) with rfl | rfl | rfl | rfl | rfl | rfl | rfl | rfl | rfl | rfl
 ·have : Con X0 Tryz.prog (ApN (n + 1 + 1)) 143 ((a3 uA vA vA).put (7, a, b)) ((tupA (a2 vA iA)).put (S_vOp2_7 a b)) [] := fn_is hX hO (by kernel_rfl) (.b (rfl : false = false) (.b (rfl : false = false) (.o (by decide : (7 : Int) ≤ 7 ∧ (7 : Int) ≤ 14) (.b (rfl : false = false) (.o le2 (.ss .rr (.o le2 (.ss .rr .rr))))))))
  exact this
 ·have : Con X0 Tryz.prog (ApN (n + 1 + 1)) 143 ((a3 uA vA vA).put (8, a, b)) ((tupA (a2 vA iA)).put (S_vOp2_8 a b)) [] := fn_is hX hO (by kernel_rfl) (.b (rfl : false = false) (.b (rfl : false = false) (.o (by decide : (7 : Int) ≤ 8 ∧ (8 : Int) ≤ 14) (.b (rfl : false = false) (.o le2 (.ss .rr (.o le2 (.ss .rr .rr))))))))
  exact this
 ·have : Con X0 Tryz.prog (ApN (n + 1 + 1)) 143 ((a3 uA vA vA).put (9, a, b)) ((tupA (a2 vA iA)).put (S_vOp2_9 a b)) [] := fn_is hX hO (by kernel_rfl) (.b (rfl : false = false) (.b (rfl : false = false) (.o (by decide : (7 : Int) ≤ 9 ∧ (9 : Int) ≤ 14) (.b (rfl : false = false) (.o le2 (.ss .rr (.o le2 (.ss .rr .rr))))))))
  exact this
 ·have : Con X0 Tryz.prog (ApN (n + 1 + 1)) 143 ((a3 uA vA vA).put (10, a, b)) ((tupA (a2 vA iA)).put (S_vOp2_10 a b)) [] := fn_is hX hO (by kernel_rfl) (.b (rfl : false = false) (.b (rfl : false = false) (.o (by decide : (7 : Int) ≤ 10 ∧ (10 : Int) ≤ 14) (.b (rfl : false = false) (.o le2 (.ss .rr (.o le2 (.ss .rr (.k (s189_10 hO0 a b a.n b.n) .rr)))))))))
  exact this
 ·have : Con X0 Tryz.prog (ApN (n + 1 + 1)) 143 ((a3 uA vA vA).put (11, a, b)) ((tupA (a2 vA iA)).put (S_vOp2_11 a b)) [] := fn_is hX hO (by kernel_rfl) (.b (rfl : false = false) (.b (rfl : false = false) (.o (by decide : (7 : Int) ≤ 11 ∧ (11 : Int) ≤ 14) (.b (rfl : false = false) (.o le2 (.ss .rr (.o le2 (.ss .rr (.k (s189_11 hO0 a b a.n b.n) .rr)))))))))
  exact this
 ·have : Con X0 Tryz.prog (ApN (n + 1 + 1)) 143 ((a3 uA vA vA).put (12, a, b)) ((tupA (a2 vA iA)).put (S_vOp2_12 a b)) [] := fn_is hX hO (by kernel_rfl) (.b (rfl : false = false) (.b (rfl : false = false) (.o (by decide : (7 : Int) ≤ 12 ∧ (12 : Int) ≤ 14) (.b (rfl : false = false) (.o le2 (.ss .rr (.o le2 (.ss .rr (.k (s191_12 hO0 a b a.n b.n) .rr)))))))))
  exact this
 ·have : Con X0 Tryz.prog (ApN (n + 1 + 1)) 143 ((a3 uA vA vA).put (13, a, b)) ((tupA (a2 vA iA)).put (S_vOp2_13 a b)) [] := fn_is hX hO (by kernel_rfl) (.b (rfl : false = false) (.b (rfl : false = false) (.o (by decide : (7 : Int) ≤ 13 ∧ (13 : Int) ≤ 14) (.b (rfl : false = false) (.o le2 (.ss .rr (.o le2 (.ss .rr (.k (s191_13 hO0 a b a.n b.n) .rr)))))))))
  exact this
 ·have : Con X0 Tryz.prog (ApN (n + 1 + 1)) 143 ((a3 uA vA vA).put (14, a, b)) ((tupA (a2 vA iA)).put (S_vOp2_14 a b)) [] := fn_is hX hO (by kernel_rfl) (.b (rfl : false = false) (.b (rfl : false = false) (.o (by decide : (7 : Int) ≤ 14 ∧ (14 : Int) ≤ 14) (.b (rfl : false = false) (.o le2 (.ss .rr (.o le2 (.ss .rr (.k (s191_14 hO0 a b a.n b.n) .rr)))))))))
  exact this
 ·have : Con X0 Tryz.prog (ApN (n + 1 + 1)) 143 ((a3 uA vA vA).put (15, a, b)) ((tupA (a2 vA iA)).put (S_vOp2_15 a b)) [] := fn_is hX hO (by kernel_rfl) (.b (rfl : true = true) .rr)
  exact this
 ·have : Con X0 Tryz.prog (ApN (n + 1 + 1)) 143 ((a3 uA vA vA).put (16, a, b)) ((tupA (a2 vA iA)).put (S_vOp2_16 a b)) [] := fn_is hX hO (by kernel_rfl) (.b (rfl : false = false) (.b (rfl : true = true) .rr))
  exact this
end Go.Proofs.YtfhiejgoemcelaaGreat
namespace Go.Proofs.YtfhiejgoemcelaaGreat
open Go Tw Pv
def S_cellB (l : List V) (w : List Int) (o : O) : V :=
 if (o.code == 1) = true then S_vMake o.n else if (o.code == 2) = true then ⟨IntKind.u8.wrap o.n, 0⟩ else if (o.code == 3) = true then S_vMake (w.getD o.n.toNat 0)
 else if (o.code == 5) = true then (S_vOp1T o.code (l.getD o.a.toNat V0)).1 else if (o.code == 6) = true then (S_vOp1T o.code (l.getD o.a.toNat V0)).1
 else if (o.code == 17) = true then (S_vChoose (l.getD o.a.toNat V0) (l.getD o.b.toNat V0) (l.getD o.c.toNat V0)).1
 else (S_vOp2T o.code (l.getD o.a.toNat V0) (l.getD o.b.toNat V0)).1
theorem RuleOk.mid {o : O} {l m : Nat} (hk : RuleOk o l m) (h0 : (o.code == 1) = false) (h1 : (o.code == 2) = false) (h2 : (o.code == 3) = false) (h3 : (o.code == 5) = false) (h4 : (o.code == 6) = false) (h5 : (o.code == 17) = false) : 7 ≤ o.code ∧ o.code ≤ 16 := by
 have g1 := hk.lo; have g2 := hk.hi; have g3 := hk.no
 simp only [beq_eq_false_iff_ne, ne_eq] at h0 h1 h2 h3 h4 h5
 omega
noncomputable def oc113 : Orc gam := orcF 113 (a3 oA isA vsA) vA (fun p => S_cellB p.2.2 p.2.1 p.1) (fun p => [RuleOk p.1 p.2.2.length p.2.1.length]) oc143
theorem gc113 : Gd oc113 := gc143.add fun n hO p hp => by
 have hk : RuleOk p.1 p.2.2.length p.2.1.length := hp _ (.head _)
 exact fn_is hX hO (by kernel_rfl) (.sh (fun h0 => .rr) fun h0 => (.sh (fun h1 => .rr) fun h1 => (.sh (fun h2 => (.o (show inR p.1.n p.2.1.length from hk.ch (by simpa using h2)) .rr)) fun h2 => (.sh (fun h3 => (.o (show inR p.1.a p.2.2.length from hk.a (hk.ge5 h0 h1 h2)) (.o (show p.1.code = 5 ∨ p.1.code = 6 from .inl (by simpa using h3)) .rr))) fun h3 => (.sh (fun h4 => (.o (show inR p.1.a p.2.2.length from hk.a (hk.ge5 h0 h1 h2)) (.o (show p.1.code = 5 ∨ p.1.code = 6 from .inr (by simpa using h4)) .rr))) fun h4 => (.sh (fun h5 => (.o (show inR p.1.a p.2.2.length from hk.a (hk.ge5 h0 h1 h2)) (.o (show inR p.1.b p.2.2.length from hk.b (ge17 h5)) (.o (show inR p.1.c p.2.2.length from hk.c (by simpa using h5)) .rr)))) fun h5 => (.o (show inR p.1.a p.2.2.length from hk.a (hk.ge5 h0 h1 h2)) (.o (show inR p.1.b p.2.2.length from hk.b (hk.mid h0 h1 h2 h3 h4 h5).1) (.o (hk.mid h0 h1 h2 h3 h4 h5) .rr)))))))))
noncomputable def oc111 : Orc gam := orcF 111 (a1 oA) tA (fun p => S_isParam p) np oc113
theorem gc111 : Gd oc111 := gc113.add fun n hO p hp => fn_is hX hO (by kernel_rfl) .rr
noncomputable def oc139 : Orc gam := orcF 139 (a2 kA iA) tA (fun p => S_isWorld1 p.1 p.2) np oc111
theorem gc139 : Gd oc139 := gc111.add fun n hO p hp => fn_is hX hO (by kernel_rfl) (.o le1 .rr)
end Go.Proofs.YtfhiejgoemcelaaGreat
namespace Go.Proofs.YtfhiejgoemcelaaGreat
open Go Tw Pv
abbrev w138 (l : List K) (w : List Int) (i : Int) (x : List (Nat × PE gam)) : PSt gam := ⟨[(1, xL 3 w), (2, .val (.fn 139 [] [])), (15, xL 62 l), (16, xi l.length), (17, xi i)] ++ x, [], []⟩
def z138 (l : List K) (w : List Int) : Unit ⊕ (Nat × K × Unit) → Ex × PSt gam
 | .inl _ => (.exit 0, w138 l w l.length [(18, xl false)])
 | .inr r => (.ret, ⟨[(6, xl false)], [K.ps r.2.1], []⟩)
theorem l138 {n : Nat} (hO : Ok n oc139) (l : List K) (w : List Int) (hl : l.length ≤ most) (hw : l.length = w.length) : Lp n 138 0 (w138 l w 0 []) (z138 l w (runL (F_isWorld w) l 0 ())).1 (z138 l w (runL (F_isWorld w) l 0 ())).2 :=
 eachE (st := fun i _ => w138 l w i []) K0 (fun _ _ => True) (by kernel_rfl) hl LLm trivial (fun k s n hk _ ih => round hX hO (by kernel_rfl) (.b (lt_nat hk) (.o (inR_nat hk) (.o (show inR k w.length by rw [← hw]; exact inR_nat hk) (.ls (.ou nofun) (.nx (ih _ trivial))))))) (fun s _ => round hX hO (by kernel_rfl) (.b (lt_no l.length) (.ou nofun)))
noncomputable def oc138 : Orc gam := orcF 138 (a3 ksA isA (fnA 139)) tA (fun p => S_EqualFunc p.1 p.2.1) (fun p => [p.1.length ≤ most]) oc139
theorem gc138 : Gd oc138 := gc139.add fun n hO p hp => fn_is hX hO (by kernel_rfl) (.sh (fun _ => .rr) fun h0 => .zh (fun h => .w (exInl (l138 hO p.1 p.2.1 (hp _ (.head _)) (by have := h0; simp at this; omega)) () h) .rr) (fun h => .w (exInr (l138 hO p.1 p.2.1 (hp _ (.head _)) (by have := h0; simp at this; omega)) (0, K0, ()) h) .rr))
noncomputable def oc112 : Orc gam := orcF 112 (a2 cA isA) tA (fun p => S_isWorld p.1 p.2) (fun p => [p.1.cs.length ≤ most]) oc138
theorem gc112 : Gd oc112 := gc138.add fun n hO p hp => fn_is hX hO (by kernel_rfl) (.o (hp _ (.head _)) .rr)
abbrev w69 (c : C) (w : List Int) (i : Int) (acc : List V) (x : List (Nat × PE gam)) : PSt gam := ⟨[(1, xL 3 w), (4, .val (.own 0)), (24, xL 60 c.os), (25, xi c.os.length), (26, xi i)] ++ x, [], [.list false false 78 acc]⟩
theorem cell_eq {o : O} {l : List V} {w : List Int} (hk : RuleOk o l.length w.length) : S_cellB l w o = S_cell l w o := by
 have g1 := hk.lo; have g2 := hk.hi; have g3 := hk.no
 obtain ⟨k, a, b, c, n⟩ := o
 simp only at g1 g2 g3
 have : k = 1 ∨ k = 2 ∨ k = 3 ∨ k = 5 ∨ k = 6 ∨ k = 7 ∨ k = 8 ∨ k = 9 ∨ k = 10 ∨ k = 11 ∨ k = 12 ∨ k = 13 ∨ k = 14 ∨ k = 15 ∨ k = 16 ∨ k = 17 := by omega
 rcases this with rfl | rfl | rfl | rfl | rfl | rfl | rfl | rfl | rfl | rfl | rfl | rfl | rfl | rfl | rfl | rfl <;> rfl
theorem s111 {n : Nat} {orc : Orc gam} (hO : Ok n orc) (ho : ∀ x : O, orc 111 [.agg x.ps] = some (.bool (S_isParam x), [], [])) (H : List (PB gam)) (x : O) : Sim X0 Tryz.prog (ApN n) (.fn 111 [] []) [.agg x.ps] H (.bool (S_isParam x)) H :=
 sim_orc hX hO (first := []) (cap := []) (vs := [.agg x.ps]) (v := .bool (S_isParam x)) rfl (ho x) (fun p h => by cases h) rfl
theorem s85 {n : Nat} {orc : Orc gam} (hO : Ok n orc) (ho : ∀ x : O, orc 85 [.agg x.ps] = some (.bool (S_check1 x), [], [])) (H : List (PB gam)) (x : O) : Sim X0 Tryz.prog (ApN n) (.fn 85 [] []) [.agg x.ps] H (.bool (S_check1 x)) H :=
 sim_orc hX hO (first := []) (cap := []) (vs := [.agg x.ps]) (v := .bool (S_check1 x)) rfl (ho x) (fun p h => by cases h) rfl
noncomputable def oc54 : Orc gam := orcF 54 (a1 cA) iA (fun p => S_check p) np oc112
theorem gc54 : Gd oc54 := gc112.deep 2 fun n hn hO p hp => by
 have hs := s84 (n := n - 1) (by omega) (H := []) (s85 (hO (n - 1 - 1) (by omega)) (fun _ => rfl) []) p.os
 rw [show n - 1 + 1 = n by omega, containsO] at hs
 exact fn_is hX (hO n (by omega)) (by kernel_rfl) (.sh (fun _ => .rr) fun h0 => .k (hs (by have := (S_Check_len h0).2.1; unfold most; omega)) (.ss .rr .rr))
theorem l69 {n : Nat} (hO : Ok n oc54) (c : C) (w : List Int) (hlo : c.os.length ≤ most) (hok : ∀ (i : Nat) (o : O), c.os[i]? = some o → RuleOk o i w.length) : Lp n 69 0 { w69 c w 0 [] [] with loc := [xC c] } (.exit 1) (w69 c w c.os.length (S_AllL c w) [(27, xl false)]) := by
 refine eachB O0 (l := c.os) (s0 := ([] : List V)) (g := fun l _ o => [S_cell l w o]) (st := fun i l => w69 c w i l []) (fin := fun l => w69 c w c.os.length l [(27, xl false)]) (fun k l => l.length = k) (by kernel_rfl) hlo LLm rfl (fun k s h hi => by simp [hi]) (fun k s h hi n e p hr => ?_) (fun s _ => round hX hO (by kernel_rfl) (.b (lt_no c.os.length) .ex))
 have hm : s.length + 1 ≤ most := by rw [hi]; omega
 have hk : RuleOk (c.os.getD k O0) s.length w.length := by rw [hi]; exact hok k _ (getD_at h _)
 rw [← cell_eq hk] at hr
 exact round hX hO (by kernel_rfl) (.b (lt_nat h) <| .o (inR_nat h) <| .o hk <| .o hm <| .goG [.gc [2]] hr)
noncomputable def oc69 : Orc gam := orcF 69 (a2 cA isA) (tupA (a2 vsA iA)) (fun p => S_All p.1 p.2) np oc54
theorem gc69 : Gd oc69 := gc54.deep 2 fun n hn hO p hp => by
 have hs := s84 (n := n - 1) (by omega) (H := []) (s111 (hO (n - 1 - 1) (by omega)) (fun _ => rfl) []) p.1.os
 rw [show n - 1 + 1 = n by omega, containsO] at hs
 have ho : ∀ {k : Nat}, k ≤ 3000 → k ≤ most := fun h => by unfold most; omega
 refine fn_is hX (hO n (by omega)) (by kernel_rfl) (.sh (fun _ => .rn (.tup [.nil .slc, .int .i64 (S_Check p.1)]) rfl) fun h0 => .k (hs (ho (S_Check_len h0).2.1)) (.sh (fun _ => .rn (.tup [.nil .slc, .int .i64 9]) rfl) fun h1 => .o (ho (Nat.le_trans (S_Check_len h0).1 (by decide))) (.sh (fun _ => .rn (.tup [.nil .slc, .int .i64 3]) rfl) fun h2 => .wG [.nilE 4 78] (l69 (hO n (by omega)) p.1 p.2 (ho (S_Check_len h0).2.1) fun i o hi => ?_) .rr)))
 have hw := isWorld_len (c := p.1) (w := p.2) (by simpa using h2)
 rw [← hw]
 refine ((check_ok (c := p.1) ?_).2.1 i o hi).1
 unfold S_check
 rw [if_neg (by rw [h0]; simp), if_neg (by rw [show (fun o => S_check1 o) = (fun o => S_isParam o) from rfl, h1]; simp)]
 rfl
end Go.Proofs.YtfhiejgoemcelaaGreat
namespace Go.Proofs.YtfhiejgoemcelaaGreat
open Go Tw Pv
abbrev w99 (b y : B) (ds : List Int) (s : B) (i : Int) (x : List (Nat × PE gam)) : PSt gam := ⟨[(2, .loc 0 0), (3, .loc 1 0), (4, .loc 2 0), (5, .loc 3 0), (18, .val (.own 0)), (19, xi ds.length), (20, xi i)] ++ x, [b.ps, y.ps, B0.ps, s.ps], [.list true true 3 ds]⟩
def z99 (b y : B) (ds : List Int) (r : B ⊕ Empty) : Ex × PSt gam := (.exit 0, w99 b y ds (getE r) ds.length [(21, xl false)])
theorem l99 {n : Nat} (hO : Ok n oc69) (b y : B) (ds : List Int) (hl : ds.length ≤ most) (s : B) : Lp n 99 0 (w99 b y ds s 0 []) (z99 b y ds (runL (F_div b y) ds 0 s)).1 (z99 b y ds (runL (F_div b y) ds 0 s)).2 :=
 eachE (st := fun i s => w99 b y ds s i []) 0 (fun _ _ => True) (by kernel_rfl) hl LLm trivial (fun k s n hk _ ih => round hX hO (by kernel_rfl) (.b (lt_nat hk) (.o (inR_nat hk) (.lh (fun _ => .nx (ih _ trivial)) fun h0 => (.ls (.nx (ih _ trivial)) (.m 8 le8 (.b (rfl : true = true) (.o (show ds.getD k 0 ≠ 0 by simpa using h0) (.b (rfl : true = true) (.o (show ds.getD k 0 ≠ 0 by simpa using h0) (.b (rfl : false = false) (.nx (ih _ trivial))))))))))))) (fun s _ => round hX hO (by kernel_rfl) (.b (lt_no ds.length) (.ou nofun)))
noncomputable def oc99 : Orc gam := orcF 99 (a2 bA bA) bA (fun p => S_div p.1 p.2) np oc69
theorem gc99 : Gd oc99 := gc69.add fun n hO p hp => fn_is hX hO (by kernel_rfl) (.w (l99 hO p.1 p.2 [p.2.lo, p.2.hi, -1, 1] le4 ⟨1, 0, 0⟩) (.o le1 .rr))
noncomputable def oc95 : Orc gam := orcE 95 (a1 fidA) (fun _ => .fn 127 [] [.ptr 0 0 1]) (fun g => [.cells [.fn g [] []]]) np oc99
theorem gc95 : Gd oc95 := gc99.deepE 0 fun n _ hO p hp => fn_ex hX (hO n (by omega)) (by kernel_rfl) .er
noncomputable def oc56 : Orc gam := orcF 56 (a2 iA bA) bA (fun p => S_plain p.1 p.2) np oc95
theorem gc56 : Gd oc56 := gc95.add fun n hO p hp => fn_is hX hO (by kernel_rfl) .rr
end Go.Proofs.YtfhiejgoemcelaaGreat
namespace Go.Proofs.YtfhiejgoemcelaaGreat
open Go Tw Pv
theorem ck5 (n : Int) : pureRun Tryz.prog (Instr.checkKey false 10000 5 (.int .u8 n)) = some () := by kernel_rfl
abbrev oI (c : C) (i : Int) : O := c.os.getD i.toNat O0
noncomputable def mapA : Arg Nat where
 put r := .map r
 get v := match v with
  | .map r => some r
  | _ => none
 ok := by
  intro v a hg A m h x hv
  split at hg
  ·cases hg; exact hv
  ·cases hg
theorem nn : (0 : Int) ≤ 0 := by decide
theorem in01 : inR 0 1 := by unfold inR; decide
theorem in02 : inR 0 2 := by unfold inR; decide
theorem in12 : inR 1 2 := by unfold inR; decide
theorem in03 : inR 0 3 := by unfold inR; decide
theorem in13 : inR 1 3 := by unfold inR; decide
theorem in23 : inR 2 3 := by unfold inR; decide
theorem fkn5 : findK Tryz.prog 5 (.int .u8 5) [] = some none := by kernel_rfl
theorem fki5 {x : Int} (h : x = 5) : findK Tryz.prog 5 (.int .u8 x) [.int .u8 5, .int .u8 6, .int .u8 7, .int .u8 8, .int .u8 9, .int .u8 10, .int .u8 11, .int .u8 12, .int .u8 13, .int .u8 14, .int .u8 15, .int .u8 16, .int .u8 17] = some (some 0) := by subst h; kernel_rfl
theorem fkn6 : findK Tryz.prog 5 (.int .u8 6) [.int .u8 5] = some none := by kernel_rfl
theorem fki6 {x : Int} (h : x = 6) : findK Tryz.prog 5 (.int .u8 x) [.int .u8 5, .int .u8 6, .int .u8 7, .int .u8 8, .int .u8 9, .int .u8 10, .int .u8 11, .int .u8 12, .int .u8 13, .int .u8 14, .int .u8 15, .int .u8 16, .int .u8 17] = some (some 1) := by subst h; kernel_rfl
theorem fkn7 : findK Tryz.prog 5 (.int .u8 7) [.int .u8 5, .int .u8 6] = some none := by kernel_rfl
theorem fki7 {x : Int} (h : x = 7) : findK Tryz.prog 5 (.int .u8 x) [.int .u8 5, .int .u8 6, .int .u8 7, .int .u8 8, .int .u8 9, .int .u8 10, .int .u8 11, .int .u8 12, .int .u8 13, .int .u8 14, .int .u8 15, .int .u8 16, .int .u8 17] = some (some 2) := by subst h; kernel_rfl
theorem fkn8 : findK Tryz.prog 5 (.int .u8 8) [.int .u8 5, .int .u8 6, .int .u8 7] = some none := by kernel_rfl
theorem fki8 {x : Int} (h : x = 8) : findK Tryz.prog 5 (.int .u8 x) [.int .u8 5, .int .u8 6, .int .u8 7, .int .u8 8, .int .u8 9, .int .u8 10, .int .u8 11, .int .u8 12, .int .u8 13, .int .u8 14, .int .u8 15, .int .u8 16, .int .u8 17] = some (some 3) := by subst h; kernel_rfl
theorem fkn9 : findK Tryz.prog 5 (.int .u8 9) [.int .u8 5, .int .u8 6, .int .u8 7, .int .u8 8] = some none := by kernel_rfl
theorem fki9 {x : Int} (h : x = 9) : findK Tryz.prog 5 (.int .u8 x) [.int .u8 5, .int .u8 6, .int .u8 7, .int .u8 8, .int .u8 9, .int .u8 10, .int .u8 11, .int .u8 12, .int .u8 13, .int .u8 14, .int .u8 15, .int .u8 16, .int .u8 17] = some (some 4) := by subst h; kernel_rfl
theorem fkn10 : findK Tryz.prog 5 (.int .u8 10) [.int .u8 5, .int .u8 6, .int .u8 7, .int .u8 8, .int .u8 9] = some none := by kernel_rfl
theorem fki10 {x : Int} (h : x = 10) : findK Tryz.prog 5 (.int .u8 x) [.int .u8 5, .int .u8 6, .int .u8 7, .int .u8 8, .int .u8 9, .int .u8 10, .int .u8 11, .int .u8 12, .int .u8 13, .int .u8 14, .int .u8 15, .int .u8 16, .int .u8 17] = some (some 5) := by subst h; kernel_rfl
theorem fkn11 : findK Tryz.prog 5 (.int .u8 11) [.int .u8 5, .int .u8 6, .int .u8 7, .int .u8 8, .int .u8 9, .int .u8 10] = some none := by kernel_rfl
theorem fki11 {x : Int} (h : x = 11) : findK Tryz.prog 5 (.int .u8 x) [.int .u8 5, .int .u8 6, .int .u8 7, .int .u8 8, .int .u8 9, .int .u8 10, .int .u8 11, .int .u8 12, .int .u8 13, .int .u8 14, .int .u8 15, .int .u8 16, .int .u8 17] = some (some 6) := by subst h; kernel_rfl
theorem fkn12 : findK Tryz.prog 5 (.int .u8 12) [.int .u8 5, .int .u8 6, .int .u8 7, .int .u8 8, .int .u8 9, .int .u8 10, .int .u8 11] = some none := by kernel_rfl
theorem fki12 {x : Int} (h : x = 12) : findK Tryz.prog 5 (.int .u8 x) [.int .u8 5, .int .u8 6, .int .u8 7, .int .u8 8, .int .u8 9, .int .u8 10, .int .u8 11, .int .u8 12, .int .u8 13, .int .u8 14, .int .u8 15, .int .u8 16, .int .u8 17] = some (some 7) := by subst h; kernel_rfl
theorem fkn13 : findK Tryz.prog 5 (.int .u8 13) [.int .u8 5, .int .u8 6, .int .u8 7, .int .u8 8, .int .u8 9, .int .u8 10, .int .u8 11, .int .u8 12] = some none := by kernel_rfl
theorem fki13 {x : Int} (h : x = 13) : findK Tryz.prog 5 (.int .u8 x) [.int .u8 5, .int .u8 6, .int .u8 7, .int .u8 8, .int .u8 9, .int .u8 10, .int .u8 11, .int .u8 12, .int .u8 13, .int .u8 14, .int .u8 15, .int .u8 16, .int .u8 17] = some (some 8) := by subst h; kernel_rfl
theorem fkn14 : findK Tryz.prog 5 (.int .u8 14) [.int .u8 5, .int .u8 6, .int .u8 7, .int .u8 8, .int .u8 9, .int .u8 10, .int .u8 11, .int .u8 12, .int .u8 13] = some none := by kernel_rfl
theorem fki14 {x : Int} (h : x = 14) : findK Tryz.prog 5 (.int .u8 x) [.int .u8 5, .int .u8 6, .int .u8 7, .int .u8 8, .int .u8 9, .int .u8 10, .int .u8 11, .int .u8 12, .int .u8 13, .int .u8 14, .int .u8 15, .int .u8 16, .int .u8 17] = some (some 9) := by subst h; kernel_rfl
theorem fkn15 : findK Tryz.prog 5 (.int .u8 15) [.int .u8 5, .int .u8 6, .int .u8 7, .int .u8 8, .int .u8 9, .int .u8 10, .int .u8 11, .int .u8 12, .int .u8 13, .int .u8 14] = some none := by kernel_rfl
theorem fki15 {x : Int} (h : x = 15) : findK Tryz.prog 5 (.int .u8 x) [.int .u8 5, .int .u8 6, .int .u8 7, .int .u8 8, .int .u8 9, .int .u8 10, .int .u8 11, .int .u8 12, .int .u8 13, .int .u8 14, .int .u8 15, .int .u8 16, .int .u8 17] = some (some 10) := by subst h; kernel_rfl
theorem fkn16 : findK Tryz.prog 5 (.int .u8 16) [.int .u8 5, .int .u8 6, .int .u8 7, .int .u8 8, .int .u8 9, .int .u8 10, .int .u8 11, .int .u8 12, .int .u8 13, .int .u8 14, .int .u8 15] = some none := by kernel_rfl
theorem fki16 {x : Int} (h : x = 16) : findK Tryz.prog 5 (.int .u8 x) [.int .u8 5, .int .u8 6, .int .u8 7, .int .u8 8, .int .u8 9, .int .u8 10, .int .u8 11, .int .u8 12, .int .u8 13, .int .u8 14, .int .u8 15, .int .u8 16, .int .u8 17] = some (some 11) := by subst h; kernel_rfl
theorem fkn17 : findK Tryz.prog 5 (.int .u8 17) [.int .u8 5, .int .u8 6, .int .u8 7, .int .u8 8, .int .u8 9, .int .u8 10, .int .u8 11, .int .u8 12, .int .u8 13, .int .u8 14, .int .u8 15, .int .u8 16] = some none := by kernel_rfl
theorem fki17 {x : Int} (h : x = 17) : findK Tryz.prog 5 (.int .u8 x) [.int .u8 5, .int .u8 6, .int .u8 7, .int .u8 8, .int .u8 9, .int .u8 10, .int .u8 11, .int .u8 12, .int .u8 13, .int .u8 14, .int .u8 15, .int .u8 16, .int .u8 17] = some (some 12) := by subst h; kernel_rfl
def RR0 : List (PB gam) := [.map [(.int .u8 5, .agg [.int .i64 1, .fn 93 [] []]), (.int .u8 6, .agg [.int .i64 1, .fn 94 [] []]), (.int .u8 7, .agg [.int .i64 2, .fn 127 [] [.ptr 1 0 1]]), (.int .u8 8, .agg [.int .i64 2, .fn 127 [] [.ptr 2 0 1]]), (.int .u8 9, .agg [.int .i64 2, .fn 127 [] [.ptr 3 0 1]]), (.int .u8 10, .agg [.int .i64 2, .fn 127 [] [.ptr 4 0 1]]), (.int .u8 11, .agg [.int .i64 2, .fn 127 [] [.ptr 5 0 1]]), (.int .u8 12, .agg [.int .i64 2, .fn 127 [] [.ptr 6 0 1]]), (.int .u8 13, .agg [.int .i64 2, .fn 127 [] [.ptr 7 0 1]]), (.int .u8 14, .agg [.int .i64 2, .fn 127 [] [.ptr 8 0 1]]), (.int .u8 15, .agg [.int .i64 2, .fn 104 [] []]), (.int .u8 16, .agg [.int .i64 2, .fn 105 [] []]), (.int .u8 17, .agg [.int .i64 3, .fn 106 [] []])], .cells [.fn 96 [] []], .cells [.fn 97 [] []], .cells [.fn 98 [] []], .cells [.fn 99 [] []], .cells [.fn 100 [] []], .cells [.fn 101 [] []], .cells [.fn 102 [] []], .cells [.fn 103 [] []]]
theorem s63_0 {n : Nat} (hO : Ok n oc56) : Sim X0 Tryz.prog (ApN (n + 1)) (.fn 63 [] []) [] [] (.map 0) ([] ++ RR0) :=
 sim_is (r := mapA) (s := 0) hX hO (first := []) (cap := []) (by kernel_rfl) (.a .no (.o (ck5 5) (.o fkn5 (.a .no (.o (ck5 6) (.o fkn6 (.a .no (.o (ck5 7) (.o fkn7 (.a .no (.o (ck5 8) (.o fkn8 (.a .no (.o (ck5 9) (.o fkn9 (.a .no (.o (ck5 10) (.o fkn10 (.a .no (.o (ck5 11) (.o fkn11 (.a .no (.o (ck5 12) (.o fkn12 (.a .no (.o (ck5 13) (.o fkn13 (.a .no (.o (ck5 14) (.o fkn14 (.a .no (.o (ck5 15) (.o fkn15 (.a .no (.o (ck5 16) (.o fkn16 (.a .no (.o (ck5 17) (.o fkn17 .sr)))))))))))))))))))))))))))))))))))))))
def RR3 : List (PB gam) := [.map [(.int .u8 5, .agg [.int .i64 1, .fn 93 [] []]), (.int .u8 6, .agg [.int .i64 1, .fn 94 [] []]), (.int .u8 7, .agg [.int .i64 2, .fn 127 [] [.ptr 4 0 1]]), (.int .u8 8, .agg [.int .i64 2, .fn 127 [] [.ptr 5 0 1]]), (.int .u8 9, .agg [.int .i64 2, .fn 127 [] [.ptr 6 0 1]]), (.int .u8 10, .agg [.int .i64 2, .fn 127 [] [.ptr 7 0 1]]), (.int .u8 11, .agg [.int .i64 2, .fn 127 [] [.ptr 8 0 1]]), (.int .u8 12, .agg [.int .i64 2, .fn 127 [] [.ptr 9 0 1]]), (.int .u8 13, .agg [.int .i64 2, .fn 127 [] [.ptr 10 0 1]]), (.int .u8 14, .agg [.int .i64 2, .fn 127 [] [.ptr 11 0 1]]), (.int .u8 15, .agg [.int .i64 2, .fn 104 [] []]), (.int .u8 16, .agg [.int .i64 2, .fn 105 [] []]), (.int .u8 17, .agg [.int .i64 3, .fn 106 [] []])], .cells [.fn 96 [] []], .cells [.fn 97 [] []], .cells [.fn 98 [] []], .cells [.fn 99 [] []], .cells [.fn 100 [] []], .cells [.fn 101 [] []], .cells [.fn 102 [] []], .cells [.fn 103 [] []]]
theorem s63_3 {n : Nat} (hO : Ok n oc56) (x0 x1 x2 : List (PV gam)) : Sim X0 Tryz.prog (ApN (n + 1)) (.fn 63 [] []) [] [.cells x0, .cells x1, .cells x2] (.map 3) ([.cells x0, .cells x1, .cells x2] ++ RR3) :=
 sim_is (r := mapA) (s := 3) hX hO (first := []) (cap := []) (by kernel_rfl) (.a .no (.o (ck5 5) (.o fkn5 (.a .no (.o (ck5 6) (.o fkn6 (.a .no (.o (ck5 7) (.o fkn7 (.a .no (.o (ck5 8) (.o fkn8 (.a .no (.o (ck5 9) (.o fkn9 (.a .no (.o (ck5 10) (.o fkn10 (.a .no (.o (ck5 11) (.o fkn11 (.a .no (.o (ck5 12) (.o fkn12 (.a .no (.o (ck5 13) (.o fkn13 (.a .no (.o (ck5 14) (.o fkn14 (.a .no (.o (ck5 15) (.o fkn15 (.a .no (.o (ck5 16) (.o fkn16 (.a .no (.o (ck5 17) (.o fkn17 .sr)))))))))))))))))))))))))))))))))))))))
theorem rule_5 {cs : List K} {l : List B} {o : O} (h : o.code = 5) : (if (!(decide ((l.getD o.a.toNat B0).lo ≤ (l.getD o.a.toNat B0).hi))) = true then S_with ⟨1, 0, 0⟩ [(l.getD o.a.toNat B0).f] else S_neg (l.getD o.a.toNat B0) ⟨0, 0, 0⟩ ⟨0, 0, 0⟩) = S_rule cs l o := by
 obtain ⟨k, a, b, c, n⟩ := o; simp only at h; subst h; rfl
theorem rule_6 {cs : List K} {l : List B} {o : O} (h : o.code = 6) : (if (!(decide ((l.getD o.a.toNat B0).lo ≤ (l.getD o.a.toNat B0).hi))) = true then S_with ⟨1, 0, 0⟩ [(l.getD o.a.toNat B0).f] else S_not (l.getD o.a.toNat B0) ⟨0, 0, 0⟩ ⟨0, 0, 0⟩) = S_rule cs l o := by
 obtain ⟨k, a, b, c, n⟩ := o; simp only at h; subst h; rfl
theorem rule_7 {cs : List K} {l : List B} {o : O} (h : o.code = 7) : (if (!(decide ((l.getD o.a.toNat B0).lo ≤ (l.getD o.a.toNat B0).hi))) = true then S_with ⟨1, 0, 0⟩ [(l.getD o.a.toNat B0).f] else S_both1 S_sums (l.getD o.a.toNat B0) (l.getD o.b.toNat B0) ⟨0, 0, 0⟩) = S_rule cs l o := by
 obtain ⟨k, a, b, c, n⟩ := o; simp only at h; subst h; rfl
theorem rule_8 {cs : List K} {l : List B} {o : O} (h : o.code = 8) : (if (!(decide ((l.getD o.a.toNat B0).lo ≤ (l.getD o.a.toNat B0).hi))) = true then S_with ⟨1, 0, 0⟩ [(l.getD o.a.toNat B0).f] else S_both1 S_differences (l.getD o.a.toNat B0) (l.getD o.b.toNat B0) ⟨0, 0, 0⟩) = S_rule cs l o := by
 obtain ⟨k, a, b, c, n⟩ := o; simp only at h; subst h; rfl
theorem rule_9 {cs : List K} {l : List B} {o : O} (h : o.code = 9) : (if (!(decide ((l.getD o.a.toNat B0).lo ≤ (l.getD o.a.toNat B0).hi))) = true then S_with ⟨1, 0, 0⟩ [(l.getD o.a.toNat B0).f] else S_both1 S_products (l.getD o.a.toNat B0) (l.getD o.b.toNat B0) ⟨0, 0, 0⟩) = S_rule cs l o := by
 obtain ⟨k, a, b, c, n⟩ := o; simp only at h; subst h; rfl
theorem rule_10 {cs : List K} {l : List B} {o : O} (h : o.code = 10) : (if (!(decide ((l.getD o.a.toNat B0).lo ≤ (l.getD o.a.toNat B0).hi))) = true then S_with ⟨1, 0, 0⟩ [(l.getD o.a.toNat B0).f] else S_both1 S_div (l.getD o.a.toNat B0) (l.getD o.b.toNat B0) ⟨0, 0, 0⟩) = S_rule cs l o := by
 obtain ⟨k, a, b, c, n⟩ := o; simp only at h; subst h; rfl
theorem rule_11 {cs : List K} {l : List B} {o : O} (h : o.code = 11) : (if (!(decide ((l.getD o.a.toNat B0).lo ≤ (l.getD o.a.toNat B0).hi))) = true then S_with ⟨1, 0, 0⟩ [(l.getD o.a.toNat B0).f] else S_both1 S_mod (l.getD o.a.toNat B0) (l.getD o.b.toNat B0) ⟨0, 0, 0⟩) = S_rule cs l o := by
 obtain ⟨k, a, b, c, n⟩ := o; simp only at h; subst h; rfl
theorem rule_12 {cs : List K} {l : List B} {o : O} (h : o.code = 12) : (if (!(decide ((l.getD o.a.toNat B0).lo ≤ (l.getD o.a.toNat B0).hi))) = true then S_with ⟨1, 0, 0⟩ [(l.getD o.a.toNat B0).f] else S_both1 S_eq (l.getD o.a.toNat B0) (l.getD o.b.toNat B0) ⟨0, 0, 0⟩) = S_rule cs l o := by
 obtain ⟨k, a, b, c, n⟩ := o; simp only at h; subst h; rfl
theorem rule_13 {cs : List K} {l : List B} {o : O} (h : o.code = 13) : (if (!(decide ((l.getD o.a.toNat B0).lo ≤ (l.getD o.a.toNat B0).hi))) = true then S_with ⟨1, 0, 0⟩ [(l.getD o.a.toNat B0).f] else S_both1 S_lt (l.getD o.a.toNat B0) (l.getD o.b.toNat B0) ⟨0, 0, 0⟩) = S_rule cs l o := by
 obtain ⟨k, a, b, c, n⟩ := o; simp only at h; subst h; rfl
theorem rule_14 {cs : List K} {l : List B} {o : O} (h : o.code = 14) : (if (!(decide ((l.getD o.a.toNat B0).lo ≤ (l.getD o.a.toNat B0).hi))) = true then S_with ⟨1, 0, 0⟩ [(l.getD o.a.toNat B0).f] else S_both1 S_le (l.getD o.a.toNat B0) (l.getD o.b.toNat B0) ⟨0, 0, 0⟩) = S_rule cs l o := by
 obtain ⟨k, a, b, c, n⟩ := o; simp only at h; subst h; rfl
theorem rule_15 {cs : List K} {l : List B} {o : O} (h : o.code = 15) : (if (!(decide ((l.getD o.a.toNat B0).lo ≤ (l.getD o.a.toNat B0).hi))) = true then S_with ⟨1, 0, 0⟩ [(l.getD o.a.toNat B0).f] else S_and (l.getD o.a.toNat B0) (l.getD o.b.toNat B0) ⟨0, 0, 0⟩) = S_rule cs l o := by
 obtain ⟨k, a, b, c, n⟩ := o; simp only at h; subst h; rfl
theorem rule_16 {cs : List K} {l : List B} {o : O} (h : o.code = 16) : (if (!(decide ((l.getD o.a.toNat B0).lo ≤ (l.getD o.a.toNat B0).hi))) = true then S_with ⟨1, 0, 0⟩ [(l.getD o.a.toNat B0).f] else S_or (l.getD o.a.toNat B0) (l.getD o.b.toNat B0) ⟨0, 0, 0⟩) = S_rule cs l o := by
 obtain ⟨k, a, b, c, n⟩ := o; simp only at h; subst h; rfl
theorem rule_17 {cs : List K} {l : List B} {o : O} (h : o.code = 17) : (if (!(decide ((l.getD o.a.toNat B0).lo ≤ (l.getD o.a.toNat B0).hi))) = true then S_with ⟨1, 0, 0⟩ [(l.getD o.a.toNat B0).f] else S_choose (l.getD o.a.toNat B0) (l.getD o.b.toNat B0) (l.getD o.c.toNat B0)) = S_rule cs l o := by
 obtain ⟨k, a, b, c, n⟩ := o; simp only at h; subst h; rfl
end Go.Proofs.YtfhiejgoemcelaaGreat
namespace Go.Proofs.YtfhiejgoemcelaaGreat
open Go Tw Pv
theorem s127A_7 {n : Nat} (hO : Ok n oc56) (l : List B) (ops : List Int) (a b z : B) : Sim X0 Tryz.prog (ApN (n + 1)) (.fn 127 [] [.ptr 1 0 1]) [.agg a.ps, .agg b.ps, .agg z.ps] (RR0 ++ [.list false false 38 l] ++ [.list true true 3 ops]) (bA.put (S_both1 S_sums a b z)) (RR0 ++ [.list false false 38 l] ++ [.list true true 3 ops]) :=
 (sim_is (H1 := (RR0 ++ [.list false false 38 l] ++ [.list true true 3 ops]) ++ [.list true true 5 [a.f, b.f]]) hX hO (first := []) (by kernel_rfl) (.ssh (fun _ => .o le2 .sr) (fun _ => .o le2 .sr))).drop hX rfl rfl
theorem s127A_8 {n : Nat} (hO : Ok n oc56) (l : List B) (ops : List Int) (a b z : B) : Sim X0 Tryz.prog (ApN (n + 1)) (.fn 127 [] [.ptr 2 0 1]) [.agg a.ps, .agg b.ps, .agg z.ps] (RR0 ++ [.list false false 38 l] ++ [.list true true 3 ops]) (bA.put (S_both1 S_differences a b z)) (RR0 ++ [.list false false 38 l] ++ [.list true true 3 ops]) :=
 (sim_is (H1 := (RR0 ++ [.list false false 38 l] ++ [.list true true 3 ops]) ++ [.list true true 5 [a.f, b.f]]) hX hO (first := []) (by kernel_rfl) (.ssh (fun _ => .o le2 .sr) (fun _ => .o le2 .sr))).drop hX rfl rfl
theorem s127A_9 {n : Nat} (hO : Ok n oc56) (l : List B) (ops : List Int) (a b z : B) : Sim X0 Tryz.prog (ApN (n + 1)) (.fn 127 [] [.ptr 3 0 1]) [.agg a.ps, .agg b.ps, .agg z.ps] (RR0 ++ [.list false false 38 l] ++ [.list true true 3 ops]) (bA.put (S_both1 S_products a b z)) (RR0 ++ [.list false false 38 l] ++ [.list true true 3 ops]) :=
 (sim_is (H1 := (RR0 ++ [.list false false 38 l] ++ [.list true true 3 ops]) ++ [.list true true 5 [a.f, b.f]]) hX hO (first := []) (by kernel_rfl) (.ssh (fun _ => .o le2 .sr) (fun _ => .o le2 .sr))).drop hX rfl rfl
theorem s127A_10 {n : Nat} (hO : Ok n oc56) (l : List B) (ops : List Int) (a b z : B) : Sim X0 Tryz.prog (ApN (n + 1)) (.fn 127 [] [.ptr 4 0 1]) [.agg a.ps, .agg b.ps, .agg z.ps] (RR0 ++ [.list false false 38 l] ++ [.list true true 3 ops]) (bA.put (S_both1 S_div a b z)) (RR0 ++ [.list false false 38 l] ++ [.list true true 3 ops]) :=
 (sim_is (H1 := (RR0 ++ [.list false false 38 l] ++ [.list true true 3 ops]) ++ [.list true true 5 [a.f, b.f]]) hX hO (first := []) (by kernel_rfl) (.ssh (fun _ => .o le2 .sr) (fun _ => .o le2 .sr))).drop hX rfl rfl
theorem s127A_11 {n : Nat} (hO : Ok n oc56) (l : List B) (ops : List Int) (a b z : B) : Sim X0 Tryz.prog (ApN (n + 1)) (.fn 127 [] [.ptr 5 0 1]) [.agg a.ps, .agg b.ps, .agg z.ps] (RR0 ++ [.list false false 38 l] ++ [.list true true 3 ops]) (bA.put (S_both1 S_mod a b z)) (RR0 ++ [.list false false 38 l] ++ [.list true true 3 ops]) :=
 (sim_is (H1 := (RR0 ++ [.list false false 38 l] ++ [.list true true 3 ops]) ++ [.list true true 5 [a.f, b.f]]) hX hO (first := []) (by kernel_rfl) (.ssh (fun _ => .o le2 .sr) (fun _ => .o le2 .sr))).drop hX rfl rfl
theorem s127A_12 {n : Nat} (hO : Ok n oc56) (l : List B) (ops : List Int) (a b z : B) : Sim X0 Tryz.prog (ApN (n + 1)) (.fn 127 [] [.ptr 6 0 1]) [.agg a.ps, .agg b.ps, .agg z.ps] (RR0 ++ [.list false false 38 l] ++ [.list true true 3 ops]) (bA.put (S_both1 S_eq a b z)) (RR0 ++ [.list false false 38 l] ++ [.list true true 3 ops]) :=
 (sim_is (H1 := (RR0 ++ [.list false false 38 l] ++ [.list true true 3 ops]) ++ [.list true true 5 [a.f, b.f]]) hX hO (first := []) (by kernel_rfl) (.ssh (fun _ => .o le2 .sr) (fun _ => .o le2 .sr))).drop hX rfl rfl
theorem s127A_13 {n : Nat} (hO : Ok n oc56) (l : List B) (ops : List Int) (a b z : B) : Sim X0 Tryz.prog (ApN (n + 1)) (.fn 127 [] [.ptr 7 0 1]) [.agg a.ps, .agg b.ps, .agg z.ps] (RR0 ++ [.list false false 38 l] ++ [.list true true 3 ops]) (bA.put (S_both1 S_lt a b z)) (RR0 ++ [.list false false 38 l] ++ [.list true true 3 ops]) :=
 (sim_is (H1 := (RR0 ++ [.list false false 38 l] ++ [.list true true 3 ops]) ++ [.list true true 5 [a.f, b.f]]) hX hO (first := []) (by kernel_rfl) (.ssh (fun _ => .o le2 .sr) (fun _ => .o le2 .sr))).drop hX rfl rfl
theorem s127A_14 {n : Nat} (hO : Ok n oc56) (l : List B) (ops : List Int) (a b z : B) : Sim X0 Tryz.prog (ApN (n + 1)) (.fn 127 [] [.ptr 8 0 1]) [.agg a.ps, .agg b.ps, .agg z.ps] (RR0 ++ [.list false false 38 l] ++ [.list true true 3 ops]) (bA.put (S_both1 S_le a b z)) (RR0 ++ [.list false false 38 l] ++ [.list true true 3 ops]) :=
 (sim_is (H1 := (RR0 ++ [.list false false 38 l] ++ [.list true true 3 ops]) ++ [.list true true 5 [a.f, b.f]]) hX hO (first := []) (by kernel_rfl) (.ssh (fun _ => .o le2 .sr) (fun _ => .o le2 .sr))).drop hX rfl rfl
theorem s64A {n : Nat} (hO0 : Ok n oc56) (hO : Ok (n + 1) oc56) (c : C) (l : List B) (i : Int) (hi : inR i c.os.length) (hk : RuleOk (oI c i) l.length c.cs.length) : Sim X0 Tryz.prog (ApN (n + 1 + 1)) (.fn 64 [] []) [.agg (xC c ++ [.map 0]), .int .i64 i, .own 9] (RR0 ++ [.list false false 38 l]) (bA.put (S_rule c.cs l (oI c i))) (RR0 ++ [.list false false 38 l]) := by
 have g1 := hk.lo; have g2 := hk.hi; have g3 := hk.no
 have cases16 : (oI c i).code = 1 ∨ (oI c i).code = 2 ∨ (oI c i).code = 3 ∨ (oI c i).code = 5 ∨ (oI c i).code = 6 ∨ (oI c i).code = 7 ∨ (oI c i).code = 8 ∨ (oI c i).code = 9 ∨ (oI c i).code = 10 ∨ (oI c i).code = 11 ∨ (oI c i).code = 12 ∨ (oI c i).code = 13 ∨ (oI c i).code = 14 ∨ (oI c i).code = 15 ∨ (oI c i).code = 16 ∨ (oI c i).code = 17 := by omega
 have na : ∀ {k m : Int}, (oI c i).code = k → k ≠ m → ((oI c i).code == m) = false := fun h1 h2 => by rw [h1]; simpa using h2
 have ya : ∀ {k : Int}, (oI c i).code = k → ((oI c i).code == k) = true := fun h1 => by rw [h1]; simp
 rcases cases16 with h | h | h | h | h | h | h | h | h | h | h | h | h | h | h | h
 ·rw [show S_rule c.cs l (oI c i) = ⟨(oI c i).n, (oI c i).n, 0⟩ by unfold S_rule; rw [if_pos h]]
  exact sim_is hX hO (first := []) (cap := []) (by kernel_rfl) (.o hi (.b (ya h) .sr))
 ·rw [show S_rule c.cs l (oI c i) = S_with ⟨1, 0, 0⟩ [S_bit (IntKind.u8.wrap (oI c i).n)] by unfold S_rule; rw [if_neg (by rw [h]; decide), if_pos h]]
  exact (sim_is (H1 := (RR0 ++ [.list false false 38 l]) ++ [.list true true 5 [S_bit (IntKind.u8.wrap (oI c i).n)]]) hX hO (first := []) (cap := []) (by kernel_rfl) (.o hi (.b (na (m := 1) h (by decide)) (.b (ya h) (.o le1 .sr))))).drop hX rfl rfl
 ·rw [show S_rule c.cs l (oI c i) = ⟨(c.cs.getD (oI c i).n.toNat K0).lo, (c.cs.getD (oI c i).n.toNat K0).hi, 0⟩ by unfold S_rule; rw [if_neg (by rw [h]; decide), if_neg (by rw [h]; decide), if_pos h]]
  exact sim_is hX hO (first := []) (cap := []) (by kernel_rfl) (.o hi (.b (na (m := 1) h (by decide)) (.b (na (m := 2) h (by decide)) (.b (ya h) (.o (show inR (oI c i).n c.cs.length from hk.ch h) (.o (show inR (oI c i).n c.cs.length from hk.ch h) .sr))))))
 ·rw [← rule_5 h]
  cases hd : (!(decide ((l.getD (oI c i).a.toNat B0).lo ≤ (l.getD (oI c i).a.toNat B0).hi)))
  ·rw [if_neg (by simp)]
   exact (sim_is (H1 := (RR0 ++ [.list false false 38 l]) ++ [.list true true 3 [(oI c i).a, (oI c i).b, (oI c i).c]]) hX hO (first := []) (cap := []) (by kernel_rfl) (.o hi (.b (na (m := 1) h (by decide)) (.b (na (m := 2) h (by decide)) (.b (na (m := 3) h (by decide)) (.a (.ix 0) (.o (fki5 h) (.o nn (.o (by decide : (0 : Int) ≤ 1) (.o (by decide : (1 : Int) ≤ 3) (.m 8 le8 (.b (rfl : true = true) (.o in01 (.o (show inR (oI c i).a l.length from hk.a (by omega)) (.b (rfl : false = false) (.b hd .sr)))))))))))))))).drop hX rfl rfl
  ·rw [if_pos rfl]
   exact (sim_is (H1 := (RR0 ++ [.list false false 38 l]) ++ [.list true true 3 [(oI c i).a, (oI c i).b, (oI c i).c]] ++ [.list true true 5 [(l.getD (oI c i).a.toNat B0).f]]) hX hO (first := []) (cap := []) (by kernel_rfl) (.o hi (.b (na (m := 1) h (by decide)) (.b (na (m := 2) h (by decide)) (.b (na (m := 3) h (by decide)) (.a (.ix 0) (.o (fki5 h) (.o nn (.o (by decide : (0 : Int) ≤ 1) (.o (by decide : (1 : Int) ≤ 3) (.m 8 le8 (.b (rfl : true = true) (.o in01 (.o (show inR (oI c i).a l.length from hk.a (by omega)) (.b (rfl : false = false) (.b hd (.o le1 .sr))))))))))))))))).drop hX rfl rfl
 ·rw [← rule_6 h]
  cases hd : (!(decide ((l.getD (oI c i).a.toNat B0).lo ≤ (l.getD (oI c i).a.toNat B0).hi)))
  ·rw [if_neg (by simp)]
   exact (sim_is (H1 := (RR0 ++ [.list false false 38 l]) ++ [.list true true 3 [(oI c i).a, (oI c i).b, (oI c i).c]]) hX hO (first := []) (cap := []) (by kernel_rfl) (.o hi (.b (na (m := 1) h (by decide)) (.b (na (m := 2) h (by decide)) (.b (na (m := 3) h (by decide)) (.a (.ix 1) (.o (fki6 h) (.o nn (.o (by decide : (0 : Int) ≤ 1) (.o (by decide : (1 : Int) ≤ 3) (.m 8 le8 (.b (rfl : true = true) (.o in01 (.o (show inR (oI c i).a l.length from hk.a (by omega)) (.b (rfl : false = false) (.b hd .sr)))))))))))))))).drop hX rfl rfl
  ·rw [if_pos rfl]
   exact (sim_is (H1 := (RR0 ++ [.list false false 38 l]) ++ [.list true true 3 [(oI c i).a, (oI c i).b, (oI c i).c]] ++ [.list true true 5 [(l.getD (oI c i).a.toNat B0).f]]) hX hO (first := []) (cap := []) (by kernel_rfl) (.o hi (.b (na (m := 1) h (by decide)) (.b (na (m := 2) h (by decide)) (.b (na (m := 3) h (by decide)) (.a (.ix 1) (.o (fki6 h) (.o nn (.o (by decide : (0 : Int) ≤ 1) (.o (by decide : (1 : Int) ≤ 3) (.m 8 le8 (.b (rfl : true = true) (.o in01 (.o (show inR (oI c i).a l.length from hk.a (by omega)) (.b (rfl : false = false) (.b hd (.o le1 .sr))))))))))))))))).drop hX rfl rfl
 ·rw [← rule_7 h]
  cases hd : (!(decide ((l.getD (oI c i).a.toNat B0).lo ≤ (l.getD (oI c i).a.toNat B0).hi)))
  ·rw [if_neg (by simp)]
   exact (sim_is (H1 := (RR0 ++ [.list false false 38 l]) ++ [.list true true 3 [(oI c i).a, (oI c i).b, (oI c i).c]]) hX hO (first := []) (cap := []) (by kernel_rfl) (.o hi (.b (na (m := 1) h (by decide)) (.b (na (m := 2) h (by decide)) (.b (na (m := 3) h (by decide)) (.a (.ix 2) (.o (fki7 h) (.o nn (.o (by decide : (0 : Int) ≤ 2) (.o (by decide : (2 : Int) ≤ 3) (.m 8 le8 (.b (rfl : true = true) (.o in02 (.o (show inR (oI c i).a l.length from hk.a (by omega)) (.b (rfl : true = true) (.o in12 (.o (show inR (oI c i).b l.length from hk.b (by omega)) (.b (rfl : false = false) (.b hd (.k (s127A_7 hO0 l [(oI c i).a, (oI c i).b, (oI c i).c] (l.getD (oI c i).a.toNat B0) (l.getD (oI c i).b.toNat B0) ⟨0, 0, 0⟩) .sr)))))))))))))))))))).drop hX rfl rfl
  ·rw [if_pos rfl]
   exact (sim_is (H1 := (RR0 ++ [.list false false 38 l]) ++ [.list true true 3 [(oI c i).a, (oI c i).b, (oI c i).c]] ++ [.list true true 5 [(l.getD (oI c i).a.toNat B0).f]]) hX hO (first := []) (cap := []) (by kernel_rfl) (.o hi (.b (na (m := 1) h (by decide)) (.b (na (m := 2) h (by decide)) (.b (na (m := 3) h (by decide)) (.a (.ix 2) (.o (fki7 h) (.o nn (.o (by decide : (0 : Int) ≤ 2) (.o (by decide : (2 : Int) ≤ 3) (.m 8 le8 (.b (rfl : true = true) (.o in02 (.o (show inR (oI c i).a l.length from hk.a (by omega)) (.b (rfl : true = true) (.o in12 (.o (show inR (oI c i).b l.length from hk.b (by omega)) (.b (rfl : false = false) (.b hd (.o le1 .sr)))))))))))))))))))).drop hX rfl rfl
 ·rw [← rule_8 h]
  cases hd : (!(decide ((l.getD (oI c i).a.toNat B0).lo ≤ (l.getD (oI c i).a.toNat B0).hi)))
  ·rw [if_neg (by simp)]
   exact (sim_is (H1 := (RR0 ++ [.list false false 38 l]) ++ [.list true true 3 [(oI c i).a, (oI c i).b, (oI c i).c]]) hX hO (first := []) (cap := []) (by kernel_rfl) (.o hi (.b (na (m := 1) h (by decide)) (.b (na (m := 2) h (by decide)) (.b (na (m := 3) h (by decide)) (.a (.ix 3) (.o (fki8 h) (.o nn (.o (by decide : (0 : Int) ≤ 2) (.o (by decide : (2 : Int) ≤ 3) (.m 8 le8 (.b (rfl : true = true) (.o in02 (.o (show inR (oI c i).a l.length from hk.a (by omega)) (.b (rfl : true = true) (.o in12 (.o (show inR (oI c i).b l.length from hk.b (by omega)) (.b (rfl : false = false) (.b hd (.k (s127A_8 hO0 l [(oI c i).a, (oI c i).b, (oI c i).c] (l.getD (oI c i).a.toNat B0) (l.getD (oI c i).b.toNat B0) ⟨0, 0, 0⟩) .sr)))))))))))))))))))).drop hX rfl rfl
  ·rw [if_pos rfl]
   exact (sim_is (H1 := (RR0 ++ [.list false false 38 l]) ++ [.list true true 3 [(oI c i).a, (oI c i).b, (oI c i).c]] ++ [.list true true 5 [(l.getD (oI c i).a.toNat B0).f]]) hX hO (first := []) (cap := []) (by kernel_rfl) (.o hi (.b (na (m := 1) h (by decide)) (.b (na (m := 2) h (by decide)) (.b (na (m := 3) h (by decide)) (.a (.ix 3) (.o (fki8 h) (.o nn (.o (by decide : (0 : Int) ≤ 2) (.o (by decide : (2 : Int) ≤ 3) (.m 8 le8 (.b (rfl : true = true) (.o in02 (.o (show inR (oI c i).a l.length from hk.a (by omega)) (.b (rfl : true = true) (.o in12 (.o (show inR (oI c i).b l.length from hk.b (by omega)) (.b (rfl : false = false) (.b hd (.o le1 .sr)))))))))))))))))))).drop hX rfl rfl
 ·rw [← rule_9 h]
  cases hd : (!(decide ((l.getD (oI c i).a.toNat B0).lo ≤ (l.getD (oI c i).a.toNat B0).hi)))
  ·rw [if_neg (by simp)]
   exact (sim_is (H1 := (RR0 ++ [.list false false 38 l]) ++ [.list true true 3 [(oI c i).a, (oI c i).b, (oI c i).c]]) hX hO (first := []) (cap := []) (by kernel_rfl) (.o hi (.b (na (m := 1) h (by decide)) (.b (na (m := 2) h (by decide)) (.b (na (m := 3) h (by decide)) (.a (.ix 4) (.o (fki9 h) (.o nn (.o (by decide : (0 : Int) ≤ 2) (.o (by decide : (2 : Int) ≤ 3) (.m 8 le8 (.b (rfl : true = true) (.o in02 (.o (show inR (oI c i).a l.length from hk.a (by omega)) (.b (rfl : true = true) (.o in12 (.o (show inR (oI c i).b l.length from hk.b (by omega)) (.b (rfl : false = false) (.b hd (.k (s127A_9 hO0 l [(oI c i).a, (oI c i).b, (oI c i).c] (l.getD (oI c i).a.toNat B0) (l.getD (oI c i).b.toNat B0) ⟨0, 0, 0⟩) .sr)))))))))))))))))))).drop hX rfl rfl
  ·rw [if_pos rfl]
   exact (sim_is (H1 := (RR0 ++ [.list false false 38 l]) ++ [.list true true 3 [(oI c i).a, (oI c i).b, (oI c i).c]] ++ [.list true true 5 [(l.getD (oI c i).a.toNat B0).f]]) hX hO (first := []) (cap := []) (by kernel_rfl) (.o hi (.b (na (m := 1) h (by decide)) (.b (na (m := 2) h (by decide)) (.b (na (m := 3) h (by decide)) (.a (.ix 4) (.o (fki9 h) (.o nn (.o (by decide : (0 : Int) ≤ 2) (.o (by decide : (2 : Int) ≤ 3) (.m 8 le8 (.b (rfl : true = true) (.o in02 (.o (show inR (oI c i).a l.length from hk.a (by omega)) (.b (rfl : true = true) (.o in12 (.o (show inR (oI c i).b l.length from hk.b (by omega)) (.b (rfl : false = false) (.b hd (.o le1 .sr)))))))))))))))))))).drop hX rfl rfl
 ·rw [← rule_10 h]
  cases hd : (!(decide ((l.getD (oI c i).a.toNat B0).lo ≤ (l.getD (oI c i).a.toNat B0).hi)))
  ·rw [if_neg (by simp)]
   exact (sim_is (H1 := (RR0 ++ [.list false false 38 l]) ++ [.list true true 3 [(oI c i).a, (oI c i).b, (oI c i).c]]) hX hO (first := []) (cap := []) (by kernel_rfl) (.o hi (.b (na (m := 1) h (by decide)) (.b (na (m := 2) h (by decide)) (.b (na (m := 3) h (by decide)) (.a (.ix 5) (.o (fki10 h) (.o nn (.o (by decide : (0 : Int) ≤ 2) (.o (by decide : (2 : Int) ≤ 3) (.m 8 le8 (.b (rfl : true = true) (.o in02 (.o (show inR (oI c i).a l.length from hk.a (by omega)) (.b (rfl : true = true) (.o in12 (.o (show inR (oI c i).b l.length from hk.b (by omega)) (.b (rfl : false = false) (.b hd (.k (s127A_10 hO0 l [(oI c i).a, (oI c i).b, (oI c i).c] (l.getD (oI c i).a.toNat B0) (l.getD (oI c i).b.toNat B0) ⟨0, 0, 0⟩) .sr)))))))))))))))))))).drop hX rfl rfl
  ·rw [if_pos rfl]
   exact (sim_is (H1 := (RR0 ++ [.list false false 38 l]) ++ [.list true true 3 [(oI c i).a, (oI c i).b, (oI c i).c]] ++ [.list true true 5 [(l.getD (oI c i).a.toNat B0).f]]) hX hO (first := []) (cap := []) (by kernel_rfl) (.o hi (.b (na (m := 1) h (by decide)) (.b (na (m := 2) h (by decide)) (.b (na (m := 3) h (by decide)) (.a (.ix 5) (.o (fki10 h) (.o nn (.o (by decide : (0 : Int) ≤ 2) (.o (by decide : (2 : Int) ≤ 3) (.m 8 le8 (.b (rfl : true = true) (.o in02 (.o (show inR (oI c i).a l.length from hk.a (by omega)) (.b (rfl : true = true) (.o in12 (.o (show inR (oI c i).b l.length from hk.b (by omega)) (.b (rfl : false = false) (.b hd (.o le1 .sr)))))))))))))))))))).drop hX rfl rfl
 ·rw [← rule_11 h]
  cases hd : (!(decide ((l.getD (oI c i).a.toNat B0).lo ≤ (l.getD (oI c i).a.toNat B0).hi)))
  ·rw [if_neg (by simp)]
   exact (sim_is (H1 := (RR0 ++ [.list false false 38 l]) ++ [.list true true 3 [(oI c i).a, (oI c i).b, (oI c i).c]]) hX hO (first := []) (cap := []) (by kernel_rfl) (.o hi (.b (na (m := 1) h (by decide)) (.b (na (m := 2) h (by decide)) (.b (na (m := 3) h (by decide)) (.a (.ix 6) (.o (fki11 h) (.o nn (.o (by decide : (0 : Int) ≤ 2) (.o (by decide : (2 : Int) ≤ 3) (.m 8 le8 (.b (rfl : true = true) (.o in02 (.o (show inR (oI c i).a l.length from hk.a (by omega)) (.b (rfl : true = true) (.o in12 (.o (show inR (oI c i).b l.length from hk.b (by omega)) (.b (rfl : false = false) (.b hd (.k (s127A_11 hO0 l [(oI c i).a, (oI c i).b, (oI c i).c] (l.getD (oI c i).a.toNat B0) (l.getD (oI c i).b.toNat B0) ⟨0, 0, 0⟩) .sr)))))))))))))))))))).drop hX rfl rfl
  ·rw [if_pos rfl]
   exact (sim_is (H1 := (RR0 ++ [.list false false 38 l]) ++ [.list true true 3 [(oI c i).a, (oI c i).b, (oI c i).c]] ++ [.list true true 5 [(l.getD (oI c i).a.toNat B0).f]]) hX hO (first := []) (cap := []) (by kernel_rfl) (.o hi (.b (na (m := 1) h (by decide)) (.b (na (m := 2) h (by decide)) (.b (na (m := 3) h (by decide)) (.a (.ix 6) (.o (fki11 h) (.o nn (.o (by decide : (0 : Int) ≤ 2) (.o (by decide : (2 : Int) ≤ 3) (.m 8 le8 (.b (rfl : true = true) (.o in02 (.o (show inR (oI c i).a l.length from hk.a (by omega)) (.b (rfl : true = true) (.o in12 (.o (show inR (oI c i).b l.length from hk.b (by omega)) (.b (rfl : false = false) (.b hd (.o le1 .sr)))))))))))))))))))).drop hX rfl rfl
 ·rw [← rule_12 h]
  cases hd : (!(decide ((l.getD (oI c i).a.toNat B0).lo ≤ (l.getD (oI c i).a.toNat B0).hi)))
  ·rw [if_neg (by simp)]
   exact (sim_is (H1 := (RR0 ++ [.list false false 38 l]) ++ [.list true true 3 [(oI c i).a, (oI c i).b, (oI c i).c]]) hX hO (first := []) (cap := []) (by kernel_rfl) (.o hi (.b (na (m := 1) h (by decide)) (.b (na (m := 2) h (by decide)) (.b (na (m := 3) h (by decide)) (.a (.ix 7) (.o (fki12 h) (.o nn (.o (by decide : (0 : Int) ≤ 2) (.o (by decide : (2 : Int) ≤ 3) (.m 8 le8 (.b (rfl : true = true) (.o in02 (.o (show inR (oI c i).a l.length from hk.a (by omega)) (.b (rfl : true = true) (.o in12 (.o (show inR (oI c i).b l.length from hk.b (by omega)) (.b (rfl : false = false) (.b hd (.k (s127A_12 hO0 l [(oI c i).a, (oI c i).b, (oI c i).c] (l.getD (oI c i).a.toNat B0) (l.getD (oI c i).b.toNat B0) ⟨0, 0, 0⟩) .sr)))))))))))))))))))).drop hX rfl rfl
  ·rw [if_pos rfl]
   exact (sim_is (H1 := (RR0 ++ [.list false false 38 l]) ++ [.list true true 3 [(oI c i).a, (oI c i).b, (oI c i).c]] ++ [.list true true 5 [(l.getD (oI c i).a.toNat B0).f]]) hX hO (first := []) (cap := []) (by kernel_rfl) (.o hi (.b (na (m := 1) h (by decide)) (.b (na (m := 2) h (by decide)) (.b (na (m := 3) h (by decide)) (.a (.ix 7) (.o (fki12 h) (.o nn (.o (by decide : (0 : Int) ≤ 2) (.o (by decide : (2 : Int) ≤ 3) (.m 8 le8 (.b (rfl : true = true) (.o in02 (.o (show inR (oI c i).a l.length from hk.a (by omega)) (.b (rfl : true = true) (.o in12 (.o (show inR (oI c i).b l.length from hk.b (by omega)) (.b (rfl : false = false) (.b hd (.o le1 .sr)))))))))))))))))))).drop hX rfl rfl
 ·rw [← rule_13 h]
  cases hd : (!(decide ((l.getD (oI c i).a.toNat B0).lo ≤ (l.getD (oI c i).a.toNat B0).hi)))
  ·rw [if_neg (by simp)]
   exact (sim_is (H1 := (RR0 ++ [.list false false 38 l]) ++ [.list true true 3 [(oI c i).a, (oI c i).b, (oI c i).c]]) hX hO (first := []) (cap := []) (by kernel_rfl) (.o hi (.b (na (m := 1) h (by decide)) (.b (na (m := 2) h (by decide)) (.b (na (m := 3) h (by decide)) (.a (.ix 8) (.o (fki13 h) (.o nn (.o (by decide : (0 : Int) ≤ 2) (.o (by decide : (2 : Int) ≤ 3) (.m 8 le8 (.b (rfl : true = true) (.o in02 (.o (show inR (oI c i).a l.length from hk.a (by omega)) (.b (rfl : true = true) (.o in12 (.o (show inR (oI c i).b l.length from hk.b (by omega)) (.b (rfl : false = false) (.b hd (.k (s127A_13 hO0 l [(oI c i).a, (oI c i).b, (oI c i).c] (l.getD (oI c i).a.toNat B0) (l.getD (oI c i).b.toNat B0) ⟨0, 0, 0⟩) .sr)))))))))))))))))))).drop hX rfl rfl
  ·rw [if_pos rfl]
   exact (sim_is (H1 := (RR0 ++ [.list false false 38 l]) ++ [.list true true 3 [(oI c i).a, (oI c i).b, (oI c i).c]] ++ [.list true true 5 [(l.getD (oI c i).a.toNat B0).f]]) hX hO (first := []) (cap := []) (by kernel_rfl) (.o hi (.b (na (m := 1) h (by decide)) (.b (na (m := 2) h (by decide)) (.b (na (m := 3) h (by decide)) (.a (.ix 8) (.o (fki13 h) (.o nn (.o (by decide : (0 : Int) ≤ 2) (.o (by decide : (2 : Int) ≤ 3) (.m 8 le8 (.b (rfl : true = true) (.o in02 (.o (show inR (oI c i).a l.length from hk.a (by omega)) (.b (rfl : true = true) (.o in12 (.o (show inR (oI c i).b l.length from hk.b (by omega)) (.b (rfl : false = false) (.b hd (.o le1 .sr)))))))))))))))))))).drop hX rfl rfl
 ·rw [← rule_14 h]
  cases hd : (!(decide ((l.getD (oI c i).a.toNat B0).lo ≤ (l.getD (oI c i).a.toNat B0).hi)))
  ·rw [if_neg (by simp)]
   exact (sim_is (H1 := (RR0 ++ [.list false false 38 l]) ++ [.list true true 3 [(oI c i).a, (oI c i).b, (oI c i).c]]) hX hO (first := []) (cap := []) (by kernel_rfl) (.o hi (.b (na (m := 1) h (by decide)) (.b (na (m := 2) h (by decide)) (.b (na (m := 3) h (by decide)) (.a (.ix 9) (.o (fki14 h) (.o nn (.o (by decide : (0 : Int) ≤ 2) (.o (by decide : (2 : Int) ≤ 3) (.m 8 le8 (.b (rfl : true = true) (.o in02 (.o (show inR (oI c i).a l.length from hk.a (by omega)) (.b (rfl : true = true) (.o in12 (.o (show inR (oI c i).b l.length from hk.b (by omega)) (.b (rfl : false = false) (.b hd (.k (s127A_14 hO0 l [(oI c i).a, (oI c i).b, (oI c i).c] (l.getD (oI c i).a.toNat B0) (l.getD (oI c i).b.toNat B0) ⟨0, 0, 0⟩) .sr)))))))))))))))))))).drop hX rfl rfl
  ·rw [if_pos rfl]
   exact (sim_is (H1 := (RR0 ++ [.list false false 38 l]) ++ [.list true true 3 [(oI c i).a, (oI c i).b, (oI c i).c]] ++ [.list true true 5 [(l.getD (oI c i).a.toNat B0).f]]) hX hO (first := []) (cap := []) (by kernel_rfl) (.o hi (.b (na (m := 1) h (by decide)) (.b (na (m := 2) h (by decide)) (.b (na (m := 3) h (by decide)) (.a (.ix 9) (.o (fki14 h) (.o nn (.o (by decide : (0 : Int) ≤ 2) (.o (by decide : (2 : Int) ≤ 3) (.m 8 le8 (.b (rfl : true = true) (.o in02 (.o (show inR (oI c i).a l.length from hk.a (by omega)) (.b (rfl : true = true) (.o in12 (.o (show inR (oI c i).b l.length from hk.b (by omega)) (.b (rfl : false = false) (.b hd (.o le1 .sr)))))))))))))))))))).drop hX rfl rfl
 ·rw [← rule_15 h]
  cases hd : (!(decide ((l.getD (oI c i).a.toNat B0).lo ≤ (l.getD (oI c i).a.toNat B0).hi)))
  ·rw [if_neg (by simp)]
   exact (sim_is (H1 := (RR0 ++ [.list false false 38 l]) ++ [.list true true 3 [(oI c i).a, (oI c i).b, (oI c i).c]]) hX hO (first := []) (cap := []) (by kernel_rfl) (.o hi (.b (na (m := 1) h (by decide)) (.b (na (m := 2) h (by decide)) (.b (na (m := 3) h (by decide)) (.a (.ix 10) (.o (fki15 h) (.o nn (.o (by decide : (0 : Int) ≤ 2) (.o (by decide : (2 : Int) ≤ 3) (.m 8 le8 (.b (rfl : true = true) (.o in02 (.o (show inR (oI c i).a l.length from hk.a (by omega)) (.b (rfl : true = true) (.o in12 (.o (show inR (oI c i).b l.length from hk.b (by omega)) (.b (rfl : false = false) (.b hd .sr))))))))))))))))))).drop hX rfl rfl
  ·rw [if_pos rfl]
   exact (sim_is (H1 := (RR0 ++ [.list false false 38 l]) ++ [.list true true 3 [(oI c i).a, (oI c i).b, (oI c i).c]] ++ [.list true true 5 [(l.getD (oI c i).a.toNat B0).f]]) hX hO (first := []) (cap := []) (by kernel_rfl) (.o hi (.b (na (m := 1) h (by decide)) (.b (na (m := 2) h (by decide)) (.b (na (m := 3) h (by decide)) (.a (.ix 10) (.o (fki15 h) (.o nn (.o (by decide : (0 : Int) ≤ 2) (.o (by decide : (2 : Int) ≤ 3) (.m 8 le8 (.b (rfl : true = true) (.o in02 (.o (show inR (oI c i).a l.length from hk.a (by omega)) (.b (rfl : true = true) (.o in12 (.o (show inR (oI c i).b l.length from hk.b (by omega)) (.b (rfl : false = false) (.b hd (.o le1 .sr)))))))))))))))))))).drop hX rfl rfl
 ·rw [← rule_16 h]
  cases hd : (!(decide ((l.getD (oI c i).a.toNat B0).lo ≤ (l.getD (oI c i).a.toNat B0).hi)))
  ·rw [if_neg (by simp)]
   exact (sim_is (H1 := (RR0 ++ [.list false false 38 l]) ++ [.list true true 3 [(oI c i).a, (oI c i).b, (oI c i).c]]) hX hO (first := []) (cap := []) (by kernel_rfl) (.o hi (.b (na (m := 1) h (by decide)) (.b (na (m := 2) h (by decide)) (.b (na (m := 3) h (by decide)) (.a (.ix 11) (.o (fki16 h) (.o nn (.o (by decide : (0 : Int) ≤ 2) (.o (by decide : (2 : Int) ≤ 3) (.m 8 le8 (.b (rfl : true = true) (.o in02 (.o (show inR (oI c i).a l.length from hk.a (by omega)) (.b (rfl : true = true) (.o in12 (.o (show inR (oI c i).b l.length from hk.b (by omega)) (.b (rfl : false = false) (.b hd .sr))))))))))))))))))).drop hX rfl rfl
  ·rw [if_pos rfl]
   exact (sim_is (H1 := (RR0 ++ [.list false false 38 l]) ++ [.list true true 3 [(oI c i).a, (oI c i).b, (oI c i).c]] ++ [.list true true 5 [(l.getD (oI c i).a.toNat B0).f]]) hX hO (first := []) (cap := []) (by kernel_rfl) (.o hi (.b (na (m := 1) h (by decide)) (.b (na (m := 2) h (by decide)) (.b (na (m := 3) h (by decide)) (.a (.ix 11) (.o (fki16 h) (.o nn (.o (by decide : (0 : Int) ≤ 2) (.o (by decide : (2 : Int) ≤ 3) (.m 8 le8 (.b (rfl : true = true) (.o in02 (.o (show inR (oI c i).a l.length from hk.a (by omega)) (.b (rfl : true = true) (.o in12 (.o (show inR (oI c i).b l.length from hk.b (by omega)) (.b (rfl : false = false) (.b hd (.o le1 .sr)))))))))))))))))))).drop hX rfl rfl
 ·rw [← rule_17 h]
  cases hd : (!(decide ((l.getD (oI c i).a.toNat B0).lo ≤ (l.getD (oI c i).a.toNat B0).hi)))
  ·rw [if_neg (by simp)]
   exact (sim_is (H1 := (RR0 ++ [.list false false 38 l]) ++ [.list true true 3 [(oI c i).a, (oI c i).b, (oI c i).c]]) hX hO (first := []) (cap := []) (by kernel_rfl) (.o hi (.b (na (m := 1) h (by decide)) (.b (na (m := 2) h (by decide)) (.b (na (m := 3) h (by decide)) (.a (.ix 12) (.o (fki17 h) (.o nn (.o (by decide : (0 : Int) ≤ 3) (.o (by decide : (3 : Int) ≤ 3) (.m 8 le8 (.b (rfl : true = true) (.o in03 (.o (show inR (oI c i).a l.length from hk.a (by omega)) (.b (rfl : true = true) (.o in13 (.o (show inR (oI c i).b l.length from hk.b (by omega)) (.b (rfl : true = true) (.o in23 (.o (show inR (oI c i).c l.length from hk.c (by omega)) (.b (rfl : false = false) (.b hd .sr)))))))))))))))))))))).drop hX rfl rfl
  ·rw [if_pos rfl]
   exact (sim_is (H1 := (RR0 ++ [.list false false 38 l]) ++ [.list true true 3 [(oI c i).a, (oI c i).b, (oI c i).c]] ++ [.list true true 5 [(l.getD (oI c i).a.toNat B0).f]]) hX hO (first := []) (cap := []) (by kernel_rfl) (.o hi (.b (na (m := 1) h (by decide)) (.b (na (m := 2) h (by decide)) (.b (na (m := 3) h (by decide)) (.a (.ix 12) (.o (fki17 h) (.o nn (.o (by decide : (0 : Int) ≤ 3) (.o (by decide : (3 : Int) ≤ 3) (.m 8 le8 (.b (rfl : true = true) (.o in03 (.o (show inR (oI c i).a l.length from hk.a (by omega)) (.b (rfl : true = true) (.o in13 (.o (show inR (oI c i).b l.length from hk.b (by omega)) (.b (rfl : true = true) (.o in23 (.o (show inR (oI c i).c l.length from hk.c (by omega)) (.b (rfl : false = false) (.b hd (.o le1 .sr))))))))))))))))))))))).drop hX rfl rfl
end Go.Proofs.YtfhiejgoemcelaaGreat
namespace Go.Proofs.YtfhiejgoemcelaaGreat
open Go Tw Pv
theorem s127B_7 {n : Nat} (hO : Ok n oc56) (l : List B) (ops : List Int) (a b z : B) : Sim X0 Tryz.prog (ApN (n + 1)) (.fn 127 [] [.ptr 1 0 1]) [.agg a.ps, .agg b.ps, .agg z.ps] (RR0 ++ [.list true true 3 ops]) (bA.put (S_both1 S_sums a b z)) (RR0 ++ [.list true true 3 ops]) :=
 (sim_is (H1 := (RR0 ++ [.list true true 3 ops]) ++ [.list true true 5 [a.f, b.f]]) hX hO (first := []) (by kernel_rfl) (.ssh (fun _ => .o le2 .sr) (fun _ => .o le2 .sr))).drop hX rfl rfl
theorem s127B_8 {n : Nat} (hO : Ok n oc56) (l : List B) (ops : List Int) (a b z : B) : Sim X0 Tryz.prog (ApN (n + 1)) (.fn 127 [] [.ptr 2 0 1]) [.agg a.ps, .agg b.ps, .agg z.ps] (RR0 ++ [.list true true 3 ops]) (bA.put (S_both1 S_differences a b z)) (RR0 ++ [.list true true 3 ops]) :=
 (sim_is (H1 := (RR0 ++ [.list true true 3 ops]) ++ [.list true true 5 [a.f, b.f]]) hX hO (first := []) (by kernel_rfl) (.ssh (fun _ => .o le2 .sr) (fun _ => .o le2 .sr))).drop hX rfl rfl
theorem s127B_9 {n : Nat} (hO : Ok n oc56) (l : List B) (ops : List Int) (a b z : B) : Sim X0 Tryz.prog (ApN (n + 1)) (.fn 127 [] [.ptr 3 0 1]) [.agg a.ps, .agg b.ps, .agg z.ps] (RR0 ++ [.list true true 3 ops]) (bA.put (S_both1 S_products a b z)) (RR0 ++ [.list true true 3 ops]) :=
 (sim_is (H1 := (RR0 ++ [.list true true 3 ops]) ++ [.list true true 5 [a.f, b.f]]) hX hO (first := []) (by kernel_rfl) (.ssh (fun _ => .o le2 .sr) (fun _ => .o le2 .sr))).drop hX rfl rfl
theorem s127B_10 {n : Nat} (hO : Ok n oc56) (l : List B) (ops : List Int) (a b z : B) : Sim X0 Tryz.prog (ApN (n + 1)) (.fn 127 [] [.ptr 4 0 1]) [.agg a.ps, .agg b.ps, .agg z.ps] (RR0 ++ [.list true true 3 ops]) (bA.put (S_both1 S_div a b z)) (RR0 ++ [.list true true 3 ops]) :=
 (sim_is (H1 := (RR0 ++ [.list true true 3 ops]) ++ [.list true true 5 [a.f, b.f]]) hX hO (first := []) (by kernel_rfl) (.ssh (fun _ => .o le2 .sr) (fun _ => .o le2 .sr))).drop hX rfl rfl
theorem s127B_11 {n : Nat} (hO : Ok n oc56) (l : List B) (ops : List Int) (a b z : B) : Sim X0 Tryz.prog (ApN (n + 1)) (.fn 127 [] [.ptr 5 0 1]) [.agg a.ps, .agg b.ps, .agg z.ps] (RR0 ++ [.list true true 3 ops]) (bA.put (S_both1 S_mod a b z)) (RR0 ++ [.list true true 3 ops]) :=
 (sim_is (H1 := (RR0 ++ [.list true true 3 ops]) ++ [.list true true 5 [a.f, b.f]]) hX hO (first := []) (by kernel_rfl) (.ssh (fun _ => .o le2 .sr) (fun _ => .o le2 .sr))).drop hX rfl rfl
theorem s127B_12 {n : Nat} (hO : Ok n oc56) (l : List B) (ops : List Int) (a b z : B) : Sim X0 Tryz.prog (ApN (n + 1)) (.fn 127 [] [.ptr 6 0 1]) [.agg a.ps, .agg b.ps, .agg z.ps] (RR0 ++ [.list true true 3 ops]) (bA.put (S_both1 S_eq a b z)) (RR0 ++ [.list true true 3 ops]) :=
 (sim_is (H1 := (RR0 ++ [.list true true 3 ops]) ++ [.list true true 5 [a.f, b.f]]) hX hO (first := []) (by kernel_rfl) (.ssh (fun _ => .o le2 .sr) (fun _ => .o le2 .sr))).drop hX rfl rfl
theorem s127B_13 {n : Nat} (hO : Ok n oc56) (l : List B) (ops : List Int) (a b z : B) : Sim X0 Tryz.prog (ApN (n + 1)) (.fn 127 [] [.ptr 7 0 1]) [.agg a.ps, .agg b.ps, .agg z.ps] (RR0 ++ [.list true true 3 ops]) (bA.put (S_both1 S_lt a b z)) (RR0 ++ [.list true true 3 ops]) :=
 (sim_is (H1 := (RR0 ++ [.list true true 3 ops]) ++ [.list true true 5 [a.f, b.f]]) hX hO (first := []) (by kernel_rfl) (.ssh (fun _ => .o le2 .sr) (fun _ => .o le2 .sr))).drop hX rfl rfl
theorem s127B_14 {n : Nat} (hO : Ok n oc56) (l : List B) (ops : List Int) (a b z : B) : Sim X0 Tryz.prog (ApN (n + 1)) (.fn 127 [] [.ptr 8 0 1]) [.agg a.ps, .agg b.ps, .agg z.ps] (RR0 ++ [.list true true 3 ops]) (bA.put (S_both1 S_le a b z)) (RR0 ++ [.list true true 3 ops]) :=
 (sim_is (H1 := (RR0 ++ [.list true true 3 ops]) ++ [.list true true 5 [a.f, b.f]]) hX hO (first := []) (by kernel_rfl) (.ssh (fun _ => .o le2 .sr) (fun _ => .o le2 .sr))).drop hX rfl rfl
theorem s64B {n : Nat} (hO0 : Ok n oc56) (hO : Ok (n + 1) oc56) (c : C) (l : List B) (i : Int) (hi : inR i c.os.length) (hk : RuleOk (oI c i) l.length c.cs.length) : Sim X0 Tryz.prog (ApN (n + 1 + 1)) (.fn 64 [] []) [.agg (xC c ++ [.map 0]), .int .i64 i, .lst 38 l false] (RR0) (bA.put (S_rule c.cs l (oI c i))) (RR0) := by
 have g1 := hk.lo; have g2 := hk.hi; have g3 := hk.no
 have cases16 : (oI c i).code = 1 ∨ (oI c i).code = 2 ∨ (oI c i).code = 3 ∨ (oI c i).code = 5 ∨ (oI c i).code = 6 ∨ (oI c i).code = 7 ∨ (oI c i).code = 8 ∨ (oI c i).code = 9 ∨ (oI c i).code = 10 ∨ (oI c i).code = 11 ∨ (oI c i).code = 12 ∨ (oI c i).code = 13 ∨ (oI c i).code = 14 ∨ (oI c i).code = 15 ∨ (oI c i).code = 16 ∨ (oI c i).code = 17 := by omega
 have na : ∀ {k m : Int}, (oI c i).code = k → k ≠ m → ((oI c i).code == m) = false := fun h1 h2 => by rw [h1]; simpa using h2
 have ya : ∀ {k : Int}, (oI c i).code = k → ((oI c i).code == k) = true := fun h1 => by rw [h1]; simp
 rcases cases16 with h | h | h | h | h | h | h | h | h | h | h | h | h | h | h | h
 ·rw [show S_rule c.cs l (oI c i) = ⟨(oI c i).n, (oI c i).n, 0⟩ by unfold S_rule; rw [if_pos h]]
  exact sim_is hX hO (first := []) (cap := []) (by kernel_rfl) (.o hi (.b (ya h) .sr))
 ·rw [show S_rule c.cs l (oI c i) = S_with ⟨1, 0, 0⟩ [S_bit (IntKind.u8.wrap (oI c i).n)] by unfold S_rule; rw [if_neg (by rw [h]; decide), if_pos h]]
  exact (sim_is (H1 := (RR0) ++ [.list true true 5 [S_bit (IntKind.u8.wrap (oI c i).n)]]) hX hO (first := []) (cap := []) (by kernel_rfl) (.o hi (.b (na (m := 1) h (by decide)) (.b (ya h) (.o le1 .sr))))).drop hX rfl rfl
 ·rw [show S_rule c.cs l (oI c i) = ⟨(c.cs.getD (oI c i).n.toNat K0).lo, (c.cs.getD (oI c i).n.toNat K0).hi, 0⟩ by unfold S_rule; rw [if_neg (by rw [h]; decide), if_neg (by rw [h]; decide), if_pos h]]
  exact sim_is hX hO (first := []) (cap := []) (by kernel_rfl) (.o hi (.b (na (m := 1) h (by decide)) (.b (na (m := 2) h (by decide)) (.b (ya h) (.o (show inR (oI c i).n c.cs.length from hk.ch h) (.o (show inR (oI c i).n c.cs.length from hk.ch h) .sr))))))
 ·rw [← rule_5 h]
  cases hd : (!(decide ((l.getD (oI c i).a.toNat B0).lo ≤ (l.getD (oI c i).a.toNat B0).hi)))
  ·rw [if_neg (by simp)]
   exact (sim_is (H1 := (RR0) ++ [.list true true 3 [(oI c i).a, (oI c i).b, (oI c i).c]]) hX hO (first := []) (cap := []) (by kernel_rfl) (.o hi (.b (na (m := 1) h (by decide)) (.b (na (m := 2) h (by decide)) (.b (na (m := 3) h (by decide)) (.a (.ix 0) (.o (fki5 h) (.o nn (.o (by decide : (0 : Int) ≤ 1) (.o (by decide : (1 : Int) ≤ 3) (.m 8 le8 (.b (rfl : true = true) (.o in01 (.o (show inR (oI c i).a l.length from hk.a (by omega)) (.b (rfl : false = false) (.b hd .sr)))))))))))))))).drop hX rfl rfl
  ·rw [if_pos rfl]
   exact (sim_is (H1 := (RR0) ++ [.list true true 3 [(oI c i).a, (oI c i).b, (oI c i).c]] ++ [.list true true 5 [(l.getD (oI c i).a.toNat B0).f]]) hX hO (first := []) (cap := []) (by kernel_rfl) (.o hi (.b (na (m := 1) h (by decide)) (.b (na (m := 2) h (by decide)) (.b (na (m := 3) h (by decide)) (.a (.ix 0) (.o (fki5 h) (.o nn (.o (by decide : (0 : Int) ≤ 1) (.o (by decide : (1 : Int) ≤ 3) (.m 8 le8 (.b (rfl : true = true) (.o in01 (.o (show inR (oI c i).a l.length from hk.a (by omega)) (.b (rfl : false = false) (.b hd (.o le1 .sr))))))))))))))))).drop hX rfl rfl
 ·rw [← rule_6 h]
  cases hd : (!(decide ((l.getD (oI c i).a.toNat B0).lo ≤ (l.getD (oI c i).a.toNat B0).hi)))
  ·rw [if_neg (by simp)]
   exact (sim_is (H1 := (RR0) ++ [.list true true 3 [(oI c i).a, (oI c i).b, (oI c i).c]]) hX hO (first := []) (cap := []) (by kernel_rfl) (.o hi (.b (na (m := 1) h (by decide)) (.b (na (m := 2) h (by decide)) (.b (na (m := 3) h (by decide)) (.a (.ix 1) (.o (fki6 h) (.o nn (.o (by decide : (0 : Int) ≤ 1) (.o (by decide : (1 : Int) ≤ 3) (.m 8 le8 (.b (rfl : true = true) (.o in01 (.o (show inR (oI c i).a l.length from hk.a (by omega)) (.b (rfl : false = false) (.b hd .sr)))))))))))))))).drop hX rfl rfl
  ·rw [if_pos rfl]
   exact (sim_is (H1 := (RR0) ++ [.list true true 3 [(oI c i).a, (oI c i).b, (oI c i).c]] ++ [.list true true 5 [(l.getD (oI c i).a.toNat B0).f]]) hX hO (first := []) (cap := []) (by kernel_rfl) (.o hi (.b (na (m := 1) h (by decide)) (.b (na (m := 2) h (by decide)) (.b (na (m := 3) h (by decide)) (.a (.ix 1) (.o (fki6 h) (.o nn (.o (by decide : (0 : Int) ≤ 1) (.o (by decide : (1 : Int) ≤ 3) (.m 8 le8 (.b (rfl : true = true) (.o in01 (.o (show inR (oI c i).a l.length from hk.a (by omega)) (.b (rfl : false = false) (.b hd (.o le1 .sr))))))))))))))))).drop hX rfl rfl
 ·rw [← rule_7 h]
  cases hd : (!(decide ((l.getD (oI c i).a.toNat B0).lo ≤ (l.getD (oI c i).a.toNat B0).hi)))
  ·rw [if_neg (by simp)]
   exact (sim_is (H1 := (RR0) ++ [.list true true 3 [(oI c i).a, (oI c i).b, (oI c i).c]]) hX hO (first := []) (cap := []) (by kernel_rfl) (.o hi (.b (na (m := 1) h (by decide)) (.b (na (m := 2) h (by decide)) (.b (na (m := 3) h (by decide)) (.a (.ix 2) (.o (fki7 h) (.o nn (.o (by decide : (0 : Int) ≤ 2) (.o (by decide : (2 : Int) ≤ 3) (.m 8 le8 (.b (rfl : true = true) (.o in02 (.o (show inR (oI c i).a l.length from hk.a (by omega)) (.b (rfl : true = true) (.o in12 (.o (show inR (oI c i).b l.length from hk.b (by omega)) (.b (rfl : false = false) (.b hd (.k (s127B_7 hO0 l [(oI c i).a, (oI c i).b, (oI c i).c] (l.getD (oI c i).a.toNat B0) (l.getD (oI c i).b.toNat B0) ⟨0, 0, 0⟩) .sr)))))))))))))))))))).drop hX rfl rfl
  ·rw [if_pos rfl]
   exact (sim_is (H1 := (RR0) ++ [.list true true 3 [(oI c i).a, (oI c i).b, (oI c i).c]] ++ [.list true true 5 [(l.getD (oI c i).a.toNat B0).f]]) hX hO (first := []) (cap := []) (by kernel_rfl) (.o hi (.b (na (m := 1) h (by decide)) (.b (na (m := 2) h (by decide)) (.b (na (m := 3) h (by decide)) (.a (.ix 2) (.o (fki7 h) (.o nn (.o (by decide : (0 : Int) ≤ 2) (.o (by decide : (2 : Int) ≤ 3) (.m 8 le8 (.b (rfl : true = true) (.o in02 (.o (show inR (oI c i).a l.length from hk.a (by omega)) (.b (rfl : true = true) (.o in12 (.o (show inR (oI c i).b l.length from hk.b (by omega)) (.b (rfl : false = false) (.b hd (.o le1 .sr)))))))))))))))))))).drop hX rfl rfl
 ·rw [← rule_8 h]
  cases hd : (!(decide ((l.getD (oI c i).a.toNat B0).lo ≤ (l.getD (oI c i).a.toNat B0).hi)))
  ·rw [if_neg (by simp)]
   exact (sim_is (H1 := (RR0) ++ [.list true true 3 [(oI c i).a, (oI c i).b, (oI c i).c]]) hX hO (first := []) (cap := []) (by kernel_rfl) (.o hi (.b (na (m := 1) h (by decide)) (.b (na (m := 2) h (by decide)) (.b (na (m := 3) h (by decide)) (.a (.ix 3) (.o (fki8 h) (.o nn (.o (by decide : (0 : Int) ≤ 2) (.o (by decide : (2 : Int) ≤ 3) (.m 8 le8 (.b (rfl : true = true) (.o in02 (.o (show inR (oI c i).a l.length from hk.a (by omega)) (.b (rfl : true = true) (.o in12 (.o (show inR (oI c i).b l.length from hk.b (by omega)) (.b (rfl : false = false) (.b hd (.k (s127B_8 hO0 l [(oI c i).a, (oI c i).b, (oI c i).c] (l.getD (oI c i).a.toNat B0) (l.getD (oI c i).b.toNat B0) ⟨0, 0, 0⟩) .sr)))))))))))))))))))).drop hX rfl rfl
  ·rw [if_pos rfl]
   exact (sim_is (H1 := (RR0) ++ [.list true true 3 [(oI c i).a, (oI c i).b, (oI c i).c]] ++ [.list true true 5 [(l.getD (oI c i).a.toNat B0).f]]) hX hO (first := []) (cap := []) (by kernel_rfl) (.o hi (.b (na (m := 1) h (by decide)) (.b (na (m := 2) h (by decide)) (.b (na (m := 3) h (by decide)) (.a (.ix 3) (.o (fki8 h) (.o nn (.o (by decide : (0 : Int) ≤ 2) (.o (by decide : (2 : Int) ≤ 3) (.m 8 le8 (.b (rfl : true = true) (.o in02 (.o (show inR (oI c i).a l.length from hk.a (by omega)) (.b (rfl : true = true) (.o in12 (.o (show inR (oI c i).b l.length from hk.b (by omega)) (.b (rfl : false = false) (.b hd (.o le1 .sr)))))))))))))))))))).drop hX rfl rfl
 ·rw [← rule_9 h]
  cases hd : (!(decide ((l.getD (oI c i).a.toNat B0).lo ≤ (l.getD (oI c i).a.toNat B0).hi)))
  ·rw [if_neg (by simp)]
   exact (sim_is (H1 := (RR0) ++ [.list true true 3 [(oI c i).a, (oI c i).b, (oI c i).c]]) hX hO (first := []) (cap := []) (by kernel_rfl) (.o hi (.b (na (m := 1) h (by decide)) (.b (na (m := 2) h (by decide)) (.b (na (m := 3) h (by decide)) (.a (.ix 4) (.o (fki9 h) (.o nn (.o (by decide : (0 : Int) ≤ 2) (.o (by decide : (2 : Int) ≤ 3) (.m 8 le8 (.b (rfl : true = true) (.o in02 (.o (show inR (oI c i).a l.length from hk.a (by omega)) (.b (rfl : true = true) (.o in12 (.o (show inR (oI c i).b l.length from hk.b (by omega)) (.b (rfl : false = false) (.b hd (.k (s127B_9 hO0 l [(oI c i).a, (oI c i).b, (oI c i).c] (l.getD (oI c i).a.toNat B0) (l.getD (oI c i).b.toNat B0) ⟨0, 0, 0⟩) .sr)))))))))))))))))))).drop hX rfl rfl
  ·rw [if_pos rfl]
   exact (sim_is (H1 := (RR0) ++ [.list true true 3 [(oI c i).a, (oI c i).b, (oI c i).c]] ++ [.list true true 5 [(l.getD (oI c i).a.toNat B0).f]]) hX hO (first := []) (cap := []) (by kernel_rfl) (.o hi (.b (na (m := 1) h (by decide)) (.b (na (m := 2) h (by decide)) (.b (na (m := 3) h (by decide)) (.a (.ix 4) (.o (fki9 h) (.o nn (.o (by decide : (0 : Int) ≤ 2) (.o (by decide : (2 : Int) ≤ 3) (.m 8 le8 (.b (rfl : true = true) (.o in02 (.o (show inR (oI c i).a l.length from hk.a (by omega)) (.b (rfl : true = true) (.o in12 (.o (show inR (oI c i).b l.length from hk.b (by omega)) (.b (rfl : false = false) (.b hd (.o le1 .sr)))))))))))))))))))).drop hX rfl rfl
 ·rw [← rule_10 h]
  cases hd : (!(decide ((l.getD (oI c i).a.toNat B0).lo ≤ (l.getD (oI c i).a.toNat B0).hi)))
  ·rw [if_neg (by simp)]
   exact (sim_is (H1 := (RR0) ++ [.list true true 3 [(oI c i).a, (oI c i).b, (oI c i).c]]) hX hO (first := []) (cap := []) (by kernel_rfl) (.o hi (.b (na (m := 1) h (by decide)) (.b (na (m := 2) h (by decide)) (.b (na (m := 3) h (by decide)) (.a (.ix 5) (.o (fki10 h) (.o nn (.o (by decide : (0 : Int) ≤ 2) (.o (by decide : (2 : Int) ≤ 3) (.m 8 le8 (.b (rfl : true = true) (.o in02 (.o (show inR (oI c i).a l.length from hk.a (by omega)) (.b (rfl : true = true) (.o in12 (.o (show inR (oI c i).b l.length from hk.b (by omega)) (.b (rfl : false = false) (.b hd (.k (s127B_10 hO0 l [(oI c i).a, (oI c i).b, (oI c i).c] (l.getD (oI c i).a.toNat B0) (l.getD (oI c i).b.toNat B0) ⟨0, 0, 0⟩) .sr)))))))))))))))))))).drop hX rfl rfl
  ·rw [if_pos rfl]
   exact (sim_is (H1 := (RR0) ++ [.list true true 3 [(oI c i).a, (oI c i).b, (oI c i).c]] ++ [.list true true 5 [(l.getD (oI c i).a.toNat B0).f]]) hX hO (first := []) (cap := []) (by kernel_rfl) (.o hi (.b (na (m := 1) h (by decide)) (.b (na (m := 2) h (by decide)) (.b (na (m := 3) h (by decide)) (.a (.ix 5) (.o (fki10 h) (.o nn (.o (by decide : (0 : Int) ≤ 2) (.o (by decide : (2 : Int) ≤ 3) (.m 8 le8 (.b (rfl : true = true) (.o in02 (.o (show inR (oI c i).a l.length from hk.a (by omega)) (.b (rfl : true = true) (.o in12 (.o (show inR (oI c i).b l.length from hk.b (by omega)) (.b (rfl : false = false) (.b hd (.o le1 .sr)))))))))))))))))))).drop hX rfl rfl
 ·rw [← rule_11 h]
  cases hd : (!(decide ((l.getD (oI c i).a.toNat B0).lo ≤ (l.getD (oI c i).a.toNat B0).hi)))
  ·rw [if_neg (by simp)]
   exact (sim_is (H1 := (RR0) ++ [.list true true 3 [(oI c i).a, (oI c i).b, (oI c i).c]]) hX hO (first := []) (cap := []) (by kernel_rfl) (.o hi (.b (na (m := 1) h (by decide)) (.b (na (m := 2) h (by decide)) (.b (na (m := 3) h (by decide)) (.a (.ix 6) (.o (fki11 h) (.o nn (.o (by decide : (0 : Int) ≤ 2) (.o (by decide : (2 : Int) ≤ 3) (.m 8 le8 (.b (rfl : true = true) (.o in02 (.o (show inR (oI c i).a l.length from hk.a (by omega)) (.b (rfl : true = true) (.o in12 (.o (show inR (oI c i).b l.length from hk.b (by omega)) (.b (rfl : false = false) (.b hd (.k (s127B_11 hO0 l [(oI c i).a, (oI c i).b, (oI c i).c] (l.getD (oI c i).a.toNat B0) (l.getD (oI c i).b.toNat B0) ⟨0, 0, 0⟩) .sr)))))))))))))))))))).drop hX rfl rfl
  ·rw [if_pos rfl]
   exact (sim_is (H1 := (RR0) ++ [.list true true 3 [(oI c i).a, (oI c i).b, (oI c i).c]] ++ [.list true true 5 [(l.getD (oI c i).a.toNat B0).f]]) hX hO (first := []) (cap := []) (by kernel_rfl) (.o hi (.b (na (m := 1) h (by decide)) (.b (na (m := 2) h (by decide)) (.b (na (m := 3) h (by decide)) (.a (.ix 6) (.o (fki11 h) (.o nn (.o (by decide : (0 : Int) ≤ 2) (.o (by decide : (2 : Int) ≤ 3) (.m 8 le8 (.b (rfl : true = true) (.o in02 (.o (show inR (oI c i).a l.length from hk.a (by omega)) (.b (rfl : true = true) (.o in12 (.o (show inR (oI c i).b l.length from hk.b (by omega)) (.b (rfl : false = false) (.b hd (.o le1 .sr)))))))))))))))))))).drop hX rfl rfl
 ·rw [← rule_12 h]
  cases hd : (!(decide ((l.getD (oI c i).a.toNat B0).lo ≤ (l.getD (oI c i).a.toNat B0).hi)))
  ·rw [if_neg (by simp)]
   exact (sim_is (H1 := (RR0) ++ [.list true true 3 [(oI c i).a, (oI c i).b, (oI c i).c]]) hX hO (first := []) (cap := []) (by kernel_rfl) (.o hi (.b (na (m := 1) h (by decide)) (.b (na (m := 2) h (by decide)) (.b (na (m := 3) h (by decide)) (.a (.ix 7) (.o (fki12 h) (.o nn (.o (by decide : (0 : Int) ≤ 2) (.o (by decide : (2 : Int) ≤ 3) (.m 8 le8 (.b (rfl : true = true) (.o in02 (.o (show inR (oI c i).a l.length from hk.a (by omega)) (.b (rfl : true = true) (.o in12 (.o (show inR (oI c i).b l.length from hk.b (by omega)) (.b (rfl : false = false) (.b hd (.k (s127B_12 hO0 l [(oI c i).a, (oI c i).b, (oI c i).c] (l.getD (oI c i).a.toNat B0) (l.getD (oI c i).b.toNat B0) ⟨0, 0, 0⟩) .sr)))))))))))))))))))).drop hX rfl rfl
  ·rw [if_pos rfl]
   exact (sim_is (H1 := (RR0) ++ [.list true true 3 [(oI c i).a, (oI c i).b, (oI c i).c]] ++ [.list true true 5 [(l.getD (oI c i).a.toNat B0).f]]) hX hO (first := []) (cap := []) (by kernel_rfl) (.o hi (.b (na (m := 1) h (by decide)) (.b (na (m := 2) h (by decide)) (.b (na (m := 3) h (by decide)) (.a (.ix 7) (.o (fki12 h) (.o nn (.o (by decide : (0 : Int) ≤ 2) (.o (by decide : (2 : Int) ≤ 3) (.m 8 le8 (.b (rfl : true = true) (.o in02 (.o (show inR (oI c i).a l.length from hk.a (by omega)) (.b (rfl : true = true) (.o in12 (.o (show inR (oI c i).b l.length from hk.b (by omega)) (.b (rfl : false = false) (.b hd (.o le1 .sr)))))))))))))))))))).drop hX rfl rfl
 ·rw [← rule_13 h]
  cases hd : (!(decide ((l.getD (oI c i).a.toNat B0).lo ≤ (l.getD (oI c i).a.toNat B0).hi)))
  ·rw [if_neg (by simp)]
   exact (sim_is (H1 := (RR0) ++ [.list true true 3 [(oI c i).a, (oI c i).b, (oI c i).c]]) hX hO (first := []) (cap := []) (by kernel_rfl) (.o hi (.b (na (m := 1) h (by decide)) (.b (na (m := 2) h (by decide)) (.b (na (m := 3) h (by decide)) (.a (.ix 8) (.o (fki13 h) (.o nn (.o (by decide : (0 : Int) ≤ 2) (.o (by decide : (2 : Int) ≤ 3) (.m 8 le8 (.b (rfl : true = true) (.o in02 (.o (show inR (oI c i).a l.length from hk.a (by omega)) (.b (rfl : true = true) (.o in12 (.o (show inR (oI c i).b l.length from hk.b (by omega)) (.b (rfl : false = false) (.b hd (.k (s127B_13 hO0 l [(oI c i).a, (oI c i).b, (oI c i).c] (l.getD (oI c i).a.toNat B0) (l.getD (oI c i).b.toNat B0) ⟨0, 0, 0⟩) .sr)))))))))))))))))))).drop hX rfl rfl
  ·rw [if_pos rfl]
   exact (sim_is (H1 := (RR0) ++ [.list true true 3 [(oI c i).a, (oI c i).b, (oI c i).c]] ++ [.list true true 5 [(l.getD (oI c i).a.toNat B0).f]]) hX hO (first := []) (cap := []) (by kernel_rfl) (.o hi (.b (na (m := 1) h (by decide)) (.b (na (m := 2) h (by decide)) (.b (na (m := 3) h (by decide)) (.a (.ix 8) (.o (fki13 h) (.o nn (.o (by decide : (0 : Int) ≤ 2) (.o (by decide : (2 : Int) ≤ 3) (.m 8 le8 (.b (rfl : true = true) (.o in02 (.o (show inR (oI c i).a l.length from hk.a (by omega)) (.b (rfl : true = true) (.o in12 (.o (show inR (oI c i).b l.length from hk.b (by omega)) (.b (rfl : false = false) (.b hd (.o le1 .sr)))))))))))))))))))).drop hX rfl rfl
 ·rw [← rule_14 h]
  cases hd : (!(decide ((l.getD (oI c i).a.toNat B0).lo ≤ (l.getD (oI c i).a.toNat B0).hi)))
  ·rw [if_neg (by simp)]
   exact (sim_is (H1 := (RR0) ++ [.list true true 3 [(oI c i).a, (oI c i).b, (oI c i).c]]) hX hO (first := []) (cap := []) (by kernel_rfl) (.o hi (.b (na (m := 1) h (by decide)) (.b (na (m := 2) h (by decide)) (.b (na (m := 3) h (by decide)) (.a (.ix 9) (.o (fki14 h) (.o nn (.o (by decide : (0 : Int) ≤ 2) (.o (by decide : (2 : Int) ≤ 3) (.m 8 le8 (.b (rfl : true = true) (.o in02 (.o (show inR (oI c i).a l.length from hk.a (by omega)) (.b (rfl : true = true) (.o in12 (.o (show inR (oI c i).b l.length from hk.b (by omega)) (.b (rfl : false = false) (.b hd (.k (s127B_14 hO0 l [(oI c i).a, (oI c i).b, (oI c i).c] (l.getD (oI c i).a.toNat B0) (l.getD (oI c i).b.toNat B0) ⟨0, 0, 0⟩) .sr)))))))))))))))))))).drop hX rfl rfl
  ·rw [if_pos rfl]
   exact (sim_is (H1 := (RR0) ++ [.list true true 3 [(oI c i).a, (oI c i).b, (oI c i).c]] ++ [.list true true 5 [(l.getD (oI c i).a.toNat B0).f]]) hX hO (first := []) (cap := []) (by kernel_rfl) (.o hi (.b (na (m := 1) h (by decide)) (.b (na (m := 2) h (by decide)) (.b (na (m := 3) h (by decide)) (.a (.ix 9) (.o (fki14 h) (.o nn (.o (by decide : (0 : Int) ≤ 2) (.o (by decide : (2 : Int) ≤ 3) (.m 8 le8 (.b (rfl : true = true) (.o in02 (.o (show inR (oI c i).a l.length from hk.a (by omega)) (.b (rfl : true = true) (.o in12 (.o (show inR (oI c i).b l.length from hk.b (by omega)) (.b (rfl : false = false) (.b hd (.o le1 .sr)))))))))))))))))))).drop hX rfl rfl
 ·rw [← rule_15 h]
  cases hd : (!(decide ((l.getD (oI c i).a.toNat B0).lo ≤ (l.getD (oI c i).a.toNat B0).hi)))
  ·rw [if_neg (by simp)]
   exact (sim_is (H1 := (RR0) ++ [.list true true 3 [(oI c i).a, (oI c i).b, (oI c i).c]]) hX hO (first := []) (cap := []) (by kernel_rfl) (.o hi (.b (na (m := 1) h (by decide)) (.b (na (m := 2) h (by decide)) (.b (na (m := 3) h (by decide)) (.a (.ix 10) (.o (fki15 h) (.o nn (.o (by decide : (0 : Int) ≤ 2) (.o (by decide : (2 : Int) ≤ 3) (.m 8 le8 (.b (rfl : true = true) (.o in02 (.o (show inR (oI c i).a l.length from hk.a (by omega)) (.b (rfl : true = true) (.o in12 (.o (show inR (oI c i).b l.length from hk.b (by omega)) (.b (rfl : false = false) (.b hd .sr))))))))))))))))))).drop hX rfl rfl
  ·rw [if_pos rfl]
   exact (sim_is (H1 := (RR0) ++ [.list true true 3 [(oI c i).a, (oI c i).b, (oI c i).c]] ++ [.list true true 5 [(l.getD (oI c i).a.toNat B0).f]]) hX hO (first := []) (cap := []) (by kernel_rfl) (.o hi (.b (na (m := 1) h (by decide)) (.b (na (m := 2) h (by decide)) (.b (na (m := 3) h (by decide)) (.a (.ix 10) (.o (fki15 h) (.o nn (.o (by decide : (0 : Int) ≤ 2) (.o (by decide : (2 : Int) ≤ 3) (.m 8 le8 (.b (rfl : true = true) (.o in02 (.o (show inR (oI c i).a l.length from hk.a (by omega)) (.b (rfl : true = true) (.o in12 (.o (show inR (oI c i).b l.length from hk.b (by omega)) (.b (rfl : false = false) (.b hd (.o le1 .sr)))))))))))))))))))).drop hX rfl rfl
 ·rw [← rule_16 h]
  cases hd : (!(decide ((l.getD (oI c i).a.toNat B0).lo ≤ (l.getD (oI c i).a.toNat B0).hi)))
  ·rw [if_neg (by simp)]
   exact (sim_is (H1 := (RR0) ++ [.list true true 3 [(oI c i).a, (oI c i).b, (oI c i).c]]) hX hO (first := []) (cap := []) (by kernel_rfl) (.o hi (.b (na (m := 1) h (by decide)) (.b (na (m := 2) h (by decide)) (.b (na (m := 3) h (by decide)) (.a (.ix 11) (.o (fki16 h) (.o nn (.o (by decide : (0 : Int) ≤ 2) (.o (by decide : (2 : Int) ≤ 3) (.m 8 le8 (.b (rfl : true = true) (.o in02 (.o (show inR (oI c i).a l.length from hk.a (by omega)) (.b (rfl : true = true) (.o in12 (.o (show inR (oI c i).b l.length from hk.b (by omega)) (.b (rfl : false = false) (.b hd .sr))))))))))))))))))).drop hX rfl rfl
  ·rw [if_pos rfl]
   exact (sim_is (H1 := (RR0) ++ [.list true true 3 [(oI c i).a, (oI c i).b, (oI c i).c]] ++ [.list true true 5 [(l.getD (oI c i).a.toNat B0).f]]) hX hO (first := []) (cap := []) (by kernel_rfl) (.o hi (.b (na (m := 1) h (by decide)) (.b (na (m := 2) h (by decide)) (.b (na (m := 3) h (by decide)) (.a (.ix 11) (.o (fki16 h) (.o nn (.o (by decide : (0 : Int) ≤ 2) (.o (by decide : (2 : Int) ≤ 3) (.m 8 le8 (.b (rfl : true = true) (.o in02 (.o (show inR (oI c i).a l.length from hk.a (by omega)) (.b (rfl : true = true) (.o in12 (.o (show inR (oI c i).b l.length from hk.b (by omega)) (.b (rfl : false = false) (.b hd (.o le1 .sr)))))))))))))))))))).drop hX rfl rfl
 ·rw [← rule_17 h]
  cases hd : (!(decide ((l.getD (oI c i).a.toNat B0).lo ≤ (l.getD (oI c i).a.toNat B0).hi)))
  ·rw [if_neg (by simp)]
   exact (sim_is (H1 := (RR0) ++ [.list true true 3 [(oI c i).a, (oI c i).b, (oI c i).c]]) hX hO (first := []) (cap := []) (by kernel_rfl) (.o hi (.b (na (m := 1) h (by decide)) (.b (na (m := 2) h (by decide)) (.b (na (m := 3) h (by decide)) (.a (.ix 12) (.o (fki17 h) (.o nn (.o (by decide : (0 : Int) ≤ 3) (.o (by decide : (3 : Int) ≤ 3) (.m 8 le8 (.b (rfl : true = true) (.o in03 (.o (show inR (oI c i).a l.length from hk.a (by omega)) (.b (rfl : true = true) (.o in13 (.o (show inR (oI c i).b l.length from hk.b (by omega)) (.b (rfl : true = true) (.o in23 (.o (show inR (oI c i).c l.length from hk.c (by omega)) (.b (rfl : false = false) (.b hd .sr)))))))))))))))))))))).drop hX rfl rfl
  ·rw [if_pos rfl]
   exact (sim_is (H1 := (RR0) ++ [.list true true 3 [(oI c i).a, (oI c i).b, (oI c i).c]] ++ [.list true true 5 [(l.getD (oI c i).a.toNat B0).f]]) hX hO (first := []) (cap := []) (by kernel_rfl) (.o hi (.b (na (m := 1) h (by decide)) (.b (na (m := 2) h (by decide)) (.b (na (m := 3) h (by decide)) (.a (.ix 12) (.o (fki17 h) (.o nn (.o (by decide : (0 : Int) ≤ 3) (.o (by decide : (3 : Int) ≤ 3) (.m 8 le8 (.b (rfl : true = true) (.o in03 (.o (show inR (oI c i).a l.length from hk.a (by omega)) (.b (rfl : true = true) (.o in13 (.o (show inR (oI c i).b l.length from hk.b (by omega)) (.b (rfl : true = true) (.o in23 (.o (show inR (oI c i).c l.length from hk.c (by omega)) (.b (rfl : false = false) (.b hd (.o le1 .sr))))))))))))))))))))))).drop hX rfl rfl
end Go.Proofs.YtfhiejgoemcelaaGreat
namespace Go.Proofs.YtfhiejgoemcelaaGreat
open Go Tw Pv
theorem s127C_7 {n : Nat} (hO : Ok n oc56) {x0 x1 x2 : List (PV gam)} (l : List B) (ops : List Int) (a b z : B) : Sim X0 Tryz.prog (ApN (n + 1)) (.fn 127 [] [.ptr 4 0 1]) [.agg a.ps, .agg b.ps, .agg z.ps] ([.cells x0, .cells x1, .cells x2] ++ RR3 ++ [.list false false 38 l] ++ [.list true true 3 ops]) (bA.put (S_both1 S_sums a b z)) ([.cells x0, .cells x1, .cells x2] ++ RR3 ++ [.list false false 38 l] ++ [.list true true 3 ops]) :=
 (sim_is (H1 := ([.cells x0, .cells x1, .cells x2] ++ RR3 ++ [.list false false 38 l] ++ [.list true true 3 ops]) ++ [.list true true 5 [a.f, b.f]]) hX hO (first := []) (by kernel_rfl) (.ssh (fun _ => .o le2 .sr) (fun _ => .o le2 .sr))).drop hX rfl rfl
theorem s127C_8 {n : Nat} (hO : Ok n oc56) {x0 x1 x2 : List (PV gam)} (l : List B) (ops : List Int) (a b z : B) : Sim X0 Tryz.prog (ApN (n + 1)) (.fn 127 [] [.ptr 5 0 1]) [.agg a.ps, .agg b.ps, .agg z.ps] ([.cells x0, .cells x1, .cells x2] ++ RR3 ++ [.list false false 38 l] ++ [.list true true 3 ops]) (bA.put (S_both1 S_differences a b z)) ([.cells x0, .cells x1, .cells x2] ++ RR3 ++ [.list false false 38 l] ++ [.list true true 3 ops]) :=
 (sim_is (H1 := ([.cells x0, .cells x1, .cells x2] ++ RR3 ++ [.list false false 38 l] ++ [.list true true 3 ops]) ++ [.list true true 5 [a.f, b.f]]) hX hO (first := []) (by kernel_rfl) (.ssh (fun _ => .o le2 .sr) (fun _ => .o le2 .sr))).drop hX rfl rfl
theorem s127C_9 {n : Nat} (hO : Ok n oc56) {x0 x1 x2 : List (PV gam)} (l : List B) (ops : List Int) (a b z : B) : Sim X0 Tryz.prog (ApN (n + 1)) (.fn 127 [] [.ptr 6 0 1]) [.agg a.ps, .agg b.ps, .agg z.ps] ([.cells x0, .cells x1, .cells x2] ++ RR3 ++ [.list false false 38 l] ++ [.list true true 3 ops]) (bA.put (S_both1 S_products a b z)) ([.cells x0, .cells x1, .cells x2] ++ RR3 ++ [.list false false 38 l] ++ [.list true true 3 ops]) :=
 (sim_is (H1 := ([.cells x0, .cells x1, .cells x2] ++ RR3 ++ [.list false false 38 l] ++ [.list true true 3 ops]) ++ [.list true true 5 [a.f, b.f]]) hX hO (first := []) (by kernel_rfl) (.ssh (fun _ => .o le2 .sr) (fun _ => .o le2 .sr))).drop hX rfl rfl
theorem s127C_10 {n : Nat} (hO : Ok n oc56) {x0 x1 x2 : List (PV gam)} (l : List B) (ops : List Int) (a b z : B) : Sim X0 Tryz.prog (ApN (n + 1)) (.fn 127 [] [.ptr 7 0 1]) [.agg a.ps, .agg b.ps, .agg z.ps] ([.cells x0, .cells x1, .cells x2] ++ RR3 ++ [.list false false 38 l] ++ [.list true true 3 ops]) (bA.put (S_both1 S_div a b z)) ([.cells x0, .cells x1, .cells x2] ++ RR3 ++ [.list false false 38 l] ++ [.list true true 3 ops]) :=
 (sim_is (H1 := ([.cells x0, .cells x1, .cells x2] ++ RR3 ++ [.list false false 38 l] ++ [.list true true 3 ops]) ++ [.list true true 5 [a.f, b.f]]) hX hO (first := []) (by kernel_rfl) (.ssh (fun _ => .o le2 .sr) (fun _ => .o le2 .sr))).drop hX rfl rfl
theorem s127C_11 {n : Nat} (hO : Ok n oc56) {x0 x1 x2 : List (PV gam)} (l : List B) (ops : List Int) (a b z : B) : Sim X0 Tryz.prog (ApN (n + 1)) (.fn 127 [] [.ptr 8 0 1]) [.agg a.ps, .agg b.ps, .agg z.ps] ([.cells x0, .cells x1, .cells x2] ++ RR3 ++ [.list false false 38 l] ++ [.list true true 3 ops]) (bA.put (S_both1 S_mod a b z)) ([.cells x0, .cells x1, .cells x2] ++ RR3 ++ [.list false false 38 l] ++ [.list true true 3 ops]) :=
 (sim_is (H1 := ([.cells x0, .cells x1, .cells x2] ++ RR3 ++ [.list false false 38 l] ++ [.list true true 3 ops]) ++ [.list true true 5 [a.f, b.f]]) hX hO (first := []) (by kernel_rfl) (.ssh (fun _ => .o le2 .sr) (fun _ => .o le2 .sr))).drop hX rfl rfl
theorem s127C_12 {n : Nat} (hO : Ok n oc56) {x0 x1 x2 : List (PV gam)} (l : List B) (ops : List Int) (a b z : B) : Sim X0 Tryz.prog (ApN (n + 1)) (.fn 127 [] [.ptr 9 0 1]) [.agg a.ps, .agg b.ps, .agg z.ps] ([.cells x0, .cells x1, .cells x2] ++ RR3 ++ [.list false false 38 l] ++ [.list true true 3 ops]) (bA.put (S_both1 S_eq a b z)) ([.cells x0, .cells x1, .cells x2] ++ RR3 ++ [.list false false 38 l] ++ [.list true true 3 ops]) :=
 (sim_is (H1 := ([.cells x0, .cells x1, .cells x2] ++ RR3 ++ [.list false false 38 l] ++ [.list true true 3 ops]) ++ [.list true true 5 [a.f, b.f]]) hX hO (first := []) (by kernel_rfl) (.ssh (fun _ => .o le2 .sr) (fun _ => .o le2 .sr))).drop hX rfl rfl
theorem s127C_13 {n : Nat} (hO : Ok n oc56) {x0 x1 x2 : List (PV gam)} (l : List B) (ops : List Int) (a b z : B) : Sim X0 Tryz.prog (ApN (n + 1)) (.fn 127 [] [.ptr 10 0 1]) [.agg a.ps, .agg b.ps, .agg z.ps] ([.cells x0, .cells x1, .cells x2] ++ RR3 ++ [.list false false 38 l] ++ [.list true true 3 ops]) (bA.put (S_both1 S_lt a b z)) ([.cells x0, .cells x1, .cells x2] ++ RR3 ++ [.list false false 38 l] ++ [.list true true 3 ops]) :=
 (sim_is (H1 := ([.cells x0, .cells x1, .cells x2] ++ RR3 ++ [.list false false 38 l] ++ [.list true true 3 ops]) ++ [.list true true 5 [a.f, b.f]]) hX hO (first := []) (by kernel_rfl) (.ssh (fun _ => .o le2 .sr) (fun _ => .o le2 .sr))).drop hX rfl rfl
theorem s127C_14 {n : Nat} (hO : Ok n oc56) {x0 x1 x2 : List (PV gam)} (l : List B) (ops : List Int) (a b z : B) : Sim X0 Tryz.prog (ApN (n + 1)) (.fn 127 [] [.ptr 11 0 1]) [.agg a.ps, .agg b.ps, .agg z.ps] ([.cells x0, .cells x1, .cells x2] ++ RR3 ++ [.list false false 38 l] ++ [.list true true 3 ops]) (bA.put (S_both1 S_le a b z)) ([.cells x0, .cells x1, .cells x2] ++ RR3 ++ [.list false false 38 l] ++ [.list true true 3 ops]) :=
 (sim_is (H1 := ([.cells x0, .cells x1, .cells x2] ++ RR3 ++ [.list false false 38 l] ++ [.list true true 3 ops]) ++ [.list true true 5 [a.f, b.f]]) hX hO (first := []) (by kernel_rfl) (.ssh (fun _ => .o le2 .sr) (fun _ => .o le2 .sr))).drop hX rfl rfl
theorem s64C {n : Nat} (hO0 : Ok n oc56) (hO : Ok (n + 1) oc56) {x0 x1 x2 : List (PV gam)} (c : C) (l : List B) (i : Int) (hi : inR i c.os.length) (hk : RuleOk (oI c i) l.length c.cs.length) : Sim X0 Tryz.prog (ApN (n + 1 + 1)) (.fn 64 [] []) [.agg (xC c ++ [.map 3]), .int .i64 i, .own 12] ([.cells x0, .cells x1, .cells x2] ++ RR3 ++ [.list false false 38 l]) (bA.put (S_rule c.cs l (oI c i))) ([.cells x0, .cells x1, .cells x2] ++ RR3 ++ [.list false false 38 l]) := by
 have g1 := hk.lo; have g2 := hk.hi; have g3 := hk.no
 have cases16 : (oI c i).code = 1 ∨ (oI c i).code = 2 ∨ (oI c i).code = 3 ∨ (oI c i).code = 5 ∨ (oI c i).code = 6 ∨ (oI c i).code = 7 ∨ (oI c i).code = 8 ∨ (oI c i).code = 9 ∨ (oI c i).code = 10 ∨ (oI c i).code = 11 ∨ (oI c i).code = 12 ∨ (oI c i).code = 13 ∨ (oI c i).code = 14 ∨ (oI c i).code = 15 ∨ (oI c i).code = 16 ∨ (oI c i).code = 17 := by omega
 have na : ∀ {k m : Int}, (oI c i).code = k → k ≠ m → ((oI c i).code == m) = false := fun h1 h2 => by rw [h1]; simpa using h2
 have ya : ∀ {k : Int}, (oI c i).code = k → ((oI c i).code == k) = true := fun h1 => by rw [h1]; simp
 rcases cases16 with h | h | h | h | h | h | h | h | h | h | h | h | h | h | h | h
 ·rw [show S_rule c.cs l (oI c i) = ⟨(oI c i).n, (oI c i).n, 0⟩ by unfold S_rule; rw [if_pos h]]
  exact sim_is hX hO (first := []) (cap := []) (by kernel_rfl) (.o hi (.b (ya h) .sr))
 ·rw [show S_rule c.cs l (oI c i) = S_with ⟨1, 0, 0⟩ [S_bit (IntKind.u8.wrap (oI c i).n)] by unfold S_rule; rw [if_neg (by rw [h]; decide), if_pos h]]
  exact (sim_is (H1 := ([.cells x0, .cells x1, .cells x2] ++ RR3 ++ [.list false false 38 l]) ++ [.list true true 5 [S_bit (IntKind.u8.wrap (oI c i).n)]]) hX hO (first := []) (cap := []) (by kernel_rfl) (.o hi (.b (na (m := 1) h (by decide)) (.b (ya h) (.o le1 .sr))))).drop hX rfl rfl
 ·rw [show S_rule c.cs l (oI c i) = ⟨(c.cs.getD (oI c i).n.toNat K0).lo, (c.cs.getD (oI c i).n.toNat K0).hi, 0⟩ by unfold S_rule; rw [if_neg (by rw [h]; decide), if_neg (by rw [h]; decide), if_pos h]]
  exact sim_is hX hO (first := []) (cap := []) (by kernel_rfl) (.o hi (.b (na (m := 1) h (by decide)) (.b (na (m := 2) h (by decide)) (.b (ya h) (.o (show inR (oI c i).n c.cs.length from hk.ch h) (.o (show inR (oI c i).n c.cs.length from hk.ch h) .sr))))))
 ·rw [← rule_5 h]
  cases hd : (!(decide ((l.getD (oI c i).a.toNat B0).lo ≤ (l.getD (oI c i).a.toNat B0).hi)))
  ·rw [if_neg (by simp)]
   exact (sim_is (H1 := ([.cells x0, .cells x1, .cells x2] ++ RR3 ++ [.list false false 38 l]) ++ [.list true true 3 [(oI c i).a, (oI c i).b, (oI c i).c]]) hX hO (first := []) (cap := []) (by kernel_rfl) (.o hi (.b (na (m := 1) h (by decide)) (.b (na (m := 2) h (by decide)) (.b (na (m := 3) h (by decide)) (.a (.ix 0) (.o (fki5 h) (.o nn (.o (by decide : (0 : Int) ≤ 1) (.o (by decide : (1 : Int) ≤ 3) (.m 8 le8 (.b (rfl : true = true) (.o in01 (.o (show inR (oI c i).a l.length from hk.a (by omega)) (.b (rfl : false = false) (.b hd .sr)))))))))))))))).drop hX rfl rfl
  ·rw [if_pos rfl]
   exact (sim_is (H1 := ([.cells x0, .cells x1, .cells x2] ++ RR3 ++ [.list false false 38 l]) ++ [.list true true 3 [(oI c i).a, (oI c i).b, (oI c i).c]] ++ [.list true true 5 [(l.getD (oI c i).a.toNat B0).f]]) hX hO (first := []) (cap := []) (by kernel_rfl) (.o hi (.b (na (m := 1) h (by decide)) (.b (na (m := 2) h (by decide)) (.b (na (m := 3) h (by decide)) (.a (.ix 0) (.o (fki5 h) (.o nn (.o (by decide : (0 : Int) ≤ 1) (.o (by decide : (1 : Int) ≤ 3) (.m 8 le8 (.b (rfl : true = true) (.o in01 (.o (show inR (oI c i).a l.length from hk.a (by omega)) (.b (rfl : false = false) (.b hd (.o le1 .sr))))))))))))))))).drop hX rfl rfl
 ·rw [← rule_6 h]
  cases hd : (!(decide ((l.getD (oI c i).a.toNat B0).lo ≤ (l.getD (oI c i).a.toNat B0).hi)))
  ·rw [if_neg (by simp)]
   exact (sim_is (H1 := ([.cells x0, .cells x1, .cells x2] ++ RR3 ++ [.list false false 38 l]) ++ [.list true true 3 [(oI c i).a, (oI c i).b, (oI c i).c]]) hX hO (first := []) (cap := []) (by kernel_rfl) (.o hi (.b (na (m := 1) h (by decide)) (.b (na (m := 2) h (by decide)) (.b (na (m := 3) h (by decide)) (.a (.ix 1) (.o (fki6 h) (.o nn (.o (by decide : (0 : Int) ≤ 1) (.o (by decide : (1 : Int) ≤ 3) (.m 8 le8 (.b (rfl : true = true) (.o in01 (.o (show inR (oI c i).a l.length from hk.a (by omega)) (.b (rfl : false = false) (.b hd .sr)))))))))))))))).drop hX rfl rfl
  ·rw [if_pos rfl]
   exact (sim_is (H1 := ([.cells x0, .cells x1, .cells x2] ++ RR3 ++ [.list false false 38 l]) ++ [.list true true 3 [(oI c i).a, (oI c i).b, (oI c i).c]] ++ [.list true true 5 [(l.getD (oI c i).a.toNat B0).f]]) hX hO (first := []) (cap := []) (by kernel_rfl) (.o hi (.b (na (m := 1) h (by decide)) (.b (na (m := 2) h (by decide)) (.b (na (m := 3) h (by decide)) (.a (.ix 1) (.o (fki6 h) (.o nn (.o (by decide : (0 : Int) ≤ 1) (.o (by decide : (1 : Int) ≤ 3) (.m 8 le8 (.b (rfl : true = true) (.o in01 (.o (show inR (oI c i).a l.length from hk.a (by omega)) (.b (rfl : false = false) (.b hd (.o le1 .sr))))))))))))))))).drop hX rfl rfl
 ·rw [← rule_7 h]
  cases hd : (!(decide ((l.getD (oI c i).a.toNat B0).lo ≤ (l.getD (oI c i).a.toNat B0).hi)))
  ·rw [if_neg (by simp)]
   exact (sim_is (H1 := ([.cells x0, .cells x1, .cells x2] ++ RR3 ++ [.list false false 38 l]) ++ [.list true true 3 [(oI c i).a, (oI c i).b, (oI c i).c]]) hX hO (first := []) (cap := []) (by kernel_rfl) (.o hi (.b (na (m := 1) h (by decide)) (.b (na (m := 2) h (by decide)) (.b (na (m := 3) h (by decide)) (.a (.ix 2) (.o (fki7 h) (.o nn (.o (by decide : (0 : Int) ≤ 2) (.o (by decide : (2 : Int) ≤ 3) (.m 8 le8 (.b (rfl : true = true) (.o in02 (.o (show inR (oI c i).a l.length from hk.a (by omega)) (.b (rfl : true = true) (.o in12 (.o (show inR (oI c i).b l.length from hk.b (by omega)) (.b (rfl : false = false) (.b hd (.k (s127C_7 (x0 := x0) (x1 := x1) (x2 := x2) hO0 l [(oI c i).a, (oI c i).b, (oI c i).c] (l.getD (oI c i).a.toNat B0) (l.getD (oI c i).b.toNat B0) ⟨0, 0, 0⟩) .sr)))))))))))))))))))).drop hX rfl rfl
  ·rw [if_pos rfl]
   exact (sim_is (H1 := ([.cells x0, .cells x1, .cells x2] ++ RR3 ++ [.list false false 38 l]) ++ [.list true true 3 [(oI c i).a, (oI c i).b, (oI c i).c]] ++ [.list true true 5 [(l.getD (oI c i).a.toNat B0).f]]) hX hO (first := []) (cap := []) (by kernel_rfl) (.o hi (.b (na (m := 1) h (by decide)) (.b (na (m := 2) h (by decide)) (.b (na (m := 3) h (by decide)) (.a (.ix 2) (.o (fki7 h) (.o nn (.o (by decide : (0 : Int) ≤ 2) (.o (by decide : (2 : Int) ≤ 3) (.m 8 le8 (.b (rfl : true = true) (.o in02 (.o (show inR (oI c i).a l.length from hk.a (by omega)) (.b (rfl : true = true) (.o in12 (.o (show inR (oI c i).b l.length from hk.b (by omega)) (.b (rfl : false = false) (.b hd (.o le1 .sr)))))))))))))))))))).drop hX rfl rfl
 ·rw [← rule_8 h]
  cases hd : (!(decide ((l.getD (oI c i).a.toNat B0).lo ≤ (l.getD (oI c i).a.toNat B0).hi)))
  ·rw [if_neg (by simp)]
   exact (sim_is (H1 := ([.cells x0, .cells x1, .cells x2] ++ RR3 ++ [.list false false 38 l]) ++ [.list true true 3 [(oI c i).a, (oI c i).b, (oI c i).c]]) hX hO (first := []) (cap := []) (by kernel_rfl) (.o hi (.b (na (m := 1) h (by decide)) (.b (na (m := 2) h (by decide)) (.b (na (m := 3) h (by decide)) (.a (.ix 3) (.o (fki8 h) (.o nn (.o (by decide : (0 : Int) ≤ 2) (.o (by decide : (2 : Int) ≤ 3) (.m 8 le8 (.b (rfl : true = true) (.o in02 (.o (show inR (oI c i).a l.length from hk.a (by omega)) (.b (rfl : true = true) (.o in12 (.o (show inR (oI c i).b l.length from hk.b (by omega)) (.b (rfl : false = false) (.b hd (.k (s127C_8 (x0 := x0) (x1 := x1) (x2 := x2) hO0 l [(oI c i).a, (oI c i).b, (oI c i).c] (l.getD (oI c i).a.toNat B0) (l.getD (oI c i).b.toNat B0) ⟨0, 0, 0⟩) .sr)))))))))))))))))))).drop hX rfl rfl
  ·rw [if_pos rfl]
   exact (sim_is (H1 := ([.cells x0, .cells x1, .cells x2] ++ RR3 ++ [.list false false 38 l]) ++ [.list true true 3 [(oI c i).a, (oI c i).b, (oI c i).c]] ++ [.list true true 5 [(l.getD (oI c i).a.toNat B0).f]]) hX hO (first := []) (cap := []) (by kernel_rfl) (.o hi (.b (na (m := 1) h (by decide)) (.b (na (m := 2) h (by decide)) (.b (na (m := 3) h (by decide)) (.a (.ix 3) (.o (fki8 h) (.o nn (.o (by decide : (0 : Int) ≤ 2) (.o (by decide : (2 : Int) ≤ 3) (.m 8 le8 (.b (rfl : true = true) (.o in02 (.o (show inR (oI c i).a l.length from hk.a (by omega)) (.b (rfl : true = true) (.o in12 (.o (show inR (oI c i).b l.length from hk.b (by omega)) (.b (rfl : false = false) (.b hd (.o le1 .sr)))))))))))))))))))).drop hX rfl rfl
 ·rw [← rule_9 h]
  cases hd : (!(decide ((l.getD (oI c i).a.toNat B0).lo ≤ (l.getD (oI c i).a.toNat B0).hi)))
  ·rw [if_neg (by simp)]
   exact (sim_is (H1 := ([.cells x0, .cells x1, .cells x2] ++ RR3 ++ [.list false false 38 l]) ++ [.list true true 3 [(oI c i).a, (oI c i).b, (oI c i).c]]) hX hO (first := []) (cap := []) (by kernel_rfl) (.o hi (.b (na (m := 1) h (by decide)) (.b (na (m := 2) h (by decide)) (.b (na (m := 3) h (by decide)) (.a (.ix 4) (.o (fki9 h) (.o nn (.o (by decide : (0 : Int) ≤ 2) (.o (by decide : (2 : Int) ≤ 3) (.m 8 le8 (.b (rfl : true = true) (.o in02 (.o (show inR (oI c i).a l.length from hk.a (by omega)) (.b (rfl : true = true) (.o in12 (.o (show inR (oI c i).b l.length from hk.b (by omega)) (.b (rfl : false = false) (.b hd (.k (s127C_9 (x0 := x0) (x1 := x1) (x2 := x2) hO0 l [(oI c i).a, (oI c i).b, (oI c i).c] (l.getD (oI c i).a.toNat B0) (l.getD (oI c i).b.toNat B0) ⟨0, 0, 0⟩) .sr)))))))))))))))))))).drop hX rfl rfl
  ·rw [if_pos rfl]
   exact (sim_is (H1 := ([.cells x0, .cells x1, .cells x2] ++ RR3 ++ [.list false false 38 l]) ++ [.list true true 3 [(oI c i).a, (oI c i).b, (oI c i).c]] ++ [.list true true 5 [(l.getD (oI c i).a.toNat B0).f]]) hX hO (first := []) (cap := []) (by kernel_rfl) (.o hi (.b (na (m := 1) h (by decide)) (.b (na (m := 2) h (by decide)) (.b (na (m := 3) h (by decide)) (.a (.ix 4) (.o (fki9 h) (.o nn (.o (by decide : (0 : Int) ≤ 2) (.o (by decide : (2 : Int) ≤ 3) (.m 8 le8 (.b (rfl : true = true) (.o in02 (.o (show inR (oI c i).a l.length from hk.a (by omega)) (.b (rfl : true = true) (.o in12 (.o (show inR (oI c i).b l.length from hk.b (by omega)) (.b (rfl : false = false) (.b hd (.o le1 .sr)))))))))))))))))))).drop hX rfl rfl
 ·rw [← rule_10 h]
  cases hd : (!(decide ((l.getD (oI c i).a.toNat B0).lo ≤ (l.getD (oI c i).a.toNat B0).hi)))
  ·rw [if_neg (by simp)]
   exact (sim_is (H1 := ([.cells x0, .cells x1, .cells x2] ++ RR3 ++ [.list false false 38 l]) ++ [.list true true 3 [(oI c i).a, (oI c i).b, (oI c i).c]]) hX hO (first := []) (cap := []) (by kernel_rfl) (.o hi (.b (na (m := 1) h (by decide)) (.b (na (m := 2) h (by decide)) (.b (na (m := 3) h (by decide)) (.a (.ix 5) (.o (fki10 h) (.o nn (.o (by decide : (0 : Int) ≤ 2) (.o (by decide : (2 : Int) ≤ 3) (.m 8 le8 (.b (rfl : true = true) (.o in02 (.o (show inR (oI c i).a l.length from hk.a (by omega)) (.b (rfl : true = true) (.o in12 (.o (show inR (oI c i).b l.length from hk.b (by omega)) (.b (rfl : false = false) (.b hd (.k (s127C_10 (x0 := x0) (x1 := x1) (x2 := x2) hO0 l [(oI c i).a, (oI c i).b, (oI c i).c] (l.getD (oI c i).a.toNat B0) (l.getD (oI c i).b.toNat B0) ⟨0, 0, 0⟩) .sr)))))))))))))))))))).drop hX rfl rfl
  ·rw [if_pos rfl]
   exact (sim_is (H1 := ([.cells x0, .cells x1, .cells x2] ++ RR3 ++ [.list false false 38 l]) ++ [.list true true 3 [(oI c i).a, (oI c i).b, (oI c i).c]] ++ [.list true true 5 [(l.getD (oI c i).a.toNat B0).f]]) hX hO (first := []) (cap := []) (by kernel_rfl) (.o hi (.b (na (m := 1) h (by decide)) (.b (na (m := 2) h (by decide)) (.b (na (m := 3) h (by decide)) (.a (.ix 5) (.o (fki10 h) (.o nn (.o (by decide : (0 : Int) ≤ 2) (.o (by decide : (2 : Int) ≤ 3) (.m 8 le8 (.b (rfl : true = true) (.o in02 (.o (show inR (oI c i).a l.length from hk.a (by omega)) (.b (rfl : true = true) (.o in12 (.o (show inR (oI c i).b l.length from hk.b (by omega)) (.b (rfl : false = false) (.b hd (.o le1 .sr)))))))))))))))))))).drop hX rfl rfl
 ·rw [← rule_11 h]
  cases hd : (!(decide ((l.getD (oI c i).a.toNat B0).lo ≤ (l.getD (oI c i).a.toNat B0).hi)))
  ·rw [if_neg (by simp)]
   exact (sim_is (H1 := ([.cells x0, .cells x1, .cells x2] ++ RR3 ++ [.list false false 38 l]) ++ [.list true true 3 [(oI c i).a, (oI c i).b, (oI c i).c]]) hX hO (first := []) (cap := []) (by kernel_rfl) (.o hi (.b (na (m := 1) h (by decide)) (.b (na (m := 2) h (by decide)) (.b (na (m := 3) h (by decide)) (.a (.ix 6) (.o (fki11 h) (.o nn (.o (by decide : (0 : Int) ≤ 2) (.o (by decide : (2 : Int) ≤ 3) (.m 8 le8 (.b (rfl : true = true) (.o in02 (.o (show inR (oI c i).a l.length from hk.a (by omega)) (.b (rfl : true = true) (.o in12 (.o (show inR (oI c i).b l.length from hk.b (by omega)) (.b (rfl : false = false) (.b hd (.k (s127C_11 (x0 := x0) (x1 := x1) (x2 := x2) hO0 l [(oI c i).a, (oI c i).b, (oI c i).c] (l.getD (oI c i).a.toNat B0) (l.getD (oI c i).b.toNat B0) ⟨0, 0, 0⟩) .sr)))))))))))))))))))).drop hX rfl rfl
  ·rw [if_pos rfl]
   exact (sim_is (H1 := ([.cells x0, .cells x1, .cells x2] ++ RR3 ++ [.list false false 38 l]) ++ [.list true true 3 [(oI c i).a, (oI c i).b, (oI c i).c]] ++ [.list true true 5 [(l.getD (oI c i).a.toNat B0).f]]) hX hO (first := []) (cap := []) (by kernel_rfl) (.o hi (.b (na (m := 1) h (by decide)) (.b (na (m := 2) h (by decide)) (.b (na (m := 3) h (by decide)) (.a (.ix 6) (.o (fki11 h) (.o nn (.o (by decide : (0 : Int) ≤ 2) (.o (by decide : (2 : Int) ≤ 3) (.m 8 le8 (.b (rfl : true = true) (.o in02 (.o (show inR (oI c i).a l.length from hk.a (by omega)) (.b (rfl : true = true) (.o in12 (.o (show inR (oI c i).b l.length from hk.b (by omega)) (.b (rfl : false = false) (.b hd (.o le1 .sr)))))))))))))))))))).drop hX rfl rfl
 ·rw [← rule_12 h]
  cases hd : (!(decide ((l.getD (oI c i).a.toNat B0).lo ≤ (l.getD (oI c i).a.toNat B0).hi)))
  ·rw [if_neg (by simp)]
   exact (sim_is (H1 := ([.cells x0, .cells x1, .cells x2] ++ RR3 ++ [.list false false 38 l]) ++ [.list true true 3 [(oI c i).a, (oI c i).b, (oI c i).c]]) hX hO (first := []) (cap := []) (by kernel_rfl) (.o hi (.b (na (m := 1) h (by decide)) (.b (na (m := 2) h (by decide)) (.b (na (m := 3) h (by decide)) (.a (.ix 7) (.o (fki12 h) (.o nn (.o (by decide : (0 : Int) ≤ 2) (.o (by decide : (2 : Int) ≤ 3) (.m 8 le8 (.b (rfl : true = true) (.o in02 (.o (show inR (oI c i).a l.length from hk.a (by omega)) (.b (rfl : true = true) (.o in12 (.o (show inR (oI c i).b l.length from hk.b (by omega)) (.b (rfl : false = false) (.b hd (.k (s127C_12 (x0 := x0) (x1 := x1) (x2 := x2) hO0 l [(oI c i).a, (oI c i).b, (oI c i).c] (l.getD (oI c i).a.toNat B0) (l.getD (oI c i).b.toNat B0) ⟨0, 0, 0⟩) .sr)))))))))))))))))))).drop hX rfl rfl
  ·rw [if_pos rfl]
   exact (sim_is (H1 := ([.cells x0, .cells x1, .cells x2] ++ RR3 ++ [.list false false 38 l]) ++ [.list true true 3 [(oI c i).a, (oI c i).b, (oI c i).c]] ++ [.list true true 5 [(l.getD (oI c i).a.toNat B0).f]]) hX hO (first := []) (cap := []) (by kernel_rfl) (.o hi (.b (na (m := 1) h (by decide)) (.b (na (m := 2) h (by decide)) (.b (na (m := 3) h (by decide)) (.a (.ix 7) (.o (fki12 h) (.o nn (.o (by decide : (0 : Int) ≤ 2) (.o (by decide : (2 : Int) ≤ 3) (.m 8 le8 (.b (rfl : true = true) (.o in02 (.o (show inR (oI c i).a l.length from hk.a (by omega)) (.b (rfl : true = true) (.o in12 (.o (show inR (oI c i).b l.length from hk.b (by omega)) (.b (rfl : false = false) (.b hd (.o le1 .sr)))))))))))))))))))).drop hX rfl rfl
 ·rw [← rule_13 h]
  cases hd : (!(decide ((l.getD (oI c i).a.toNat B0).lo ≤ (l.getD (oI c i).a.toNat B0).hi)))
  ·rw [if_neg (by simp)]
   exact (sim_is (H1 := ([.cells x0, .cells x1, .cells x2] ++ RR3 ++ [.list false false 38 l]) ++ [.list true true 3 [(oI c i).a, (oI c i).b, (oI c i).c]]) hX hO (first := []) (cap := []) (by kernel_rfl) (.o hi (.b (na (m := 1) h (by decide)) (.b (na (m := 2) h (by decide)) (.b (na (m := 3) h (by decide)) (.a (.ix 8) (.o (fki13 h) (.o nn (.o (by decide : (0 : Int) ≤ 2) (.o (by decide : (2 : Int) ≤ 3) (.m 8 le8 (.b (rfl : true = true) (.o in02 (.o (show inR (oI c i).a l.length from hk.a (by omega)) (.b (rfl : true = true) (.o in12 (.o (show inR (oI c i).b l.length from hk.b (by omega)) (.b (rfl : false = false) (.b hd (.k (s127C_13 (x0 := x0) (x1 := x1) (x2 := x2) hO0 l [(oI c i).a, (oI c i).b, (oI c i).c] (l.getD (oI c i).a.toNat B0) (l.getD (oI c i).b.toNat B0) ⟨0, 0, 0⟩) .sr)))))))))))))))))))).drop hX rfl rfl
  ·rw [if_pos rfl]
   exact (sim_is (H1 := ([.cells x0, .cells x1, .cells x2] ++ RR3 ++ [.list false false 38 l]) ++ [.list true true 3 [(oI c i).a, (oI c i).b, (oI c i).c]] ++ [.list true true 5 [(l.getD (oI c i).a.toNat B0).f]]) hX hO (first := []) (cap := []) (by kernel_rfl) (.o hi (.b (na (m := 1) h (by decide)) (.b (na (m := 2) h (by decide)) (.b (na (m := 3) h (by decide)) (.a (.ix 8) (.o (fki13 h) (.o nn (.o (by decide : (0 : Int) ≤ 2) (.o (by decide : (2 : Int) ≤ 3) (.m 8 le8 (.b (rfl : true = true) (.o in02 (.o (show inR (oI c i).a l.length from hk.a (by omega)) (.b (rfl : true = true) (.o in12 (.o (show inR (oI c i).b l.length from hk.b (by omega)) (.b (rfl : false = false) (.b hd (.o le1 .sr)))))))))))))))))))).drop hX rfl rfl
 ·rw [← rule_14 h]
  cases hd : (!(decide ((l.getD (oI c i).a.toNat B0).lo ≤ (l.getD (oI c i).a.toNat B0).hi)))
  ·rw [if_neg (by simp)]
   exact (sim_is (H1 := ([.cells x0, .cells x1, .cells x2] ++ RR3 ++ [.list false false 38 l]) ++ [.list true true 3 [(oI c i).a, (oI c i).b, (oI c i).c]]) hX hO (first := []) (cap := []) (by kernel_rfl) (.o hi (.b (na (m := 1) h (by decide)) (.b (na (m := 2) h (by decide)) (.b (na (m := 3) h (by decide)) (.a (.ix 9) (.o (fki14 h) (.o nn (.o (by decide : (0 : Int) ≤ 2) (.o (by decide : (2 : Int) ≤ 3) (.m 8 le8 (.b (rfl : true = true) (.o in02 (.o (show inR (oI c i).a l.length from hk.a (by omega)) (.b (rfl : true = true) (.o in12 (.o (show inR (oI c i).b l.length from hk.b (by omega)) (.b (rfl : false = false) (.b hd (.k (s127C_14 (x0 := x0) (x1 := x1) (x2 := x2) hO0 l [(oI c i).a, (oI c i).b, (oI c i).c] (l.getD (oI c i).a.toNat B0) (l.getD (oI c i).b.toNat B0) ⟨0, 0, 0⟩) .sr)))))))))))))))))))).drop hX rfl rfl
  ·rw [if_pos rfl]
   exact (sim_is (H1 := ([.cells x0, .cells x1, .cells x2] ++ RR3 ++ [.list false false 38 l]) ++ [.list true true 3 [(oI c i).a, (oI c i).b, (oI c i).c]] ++ [.list true true 5 [(l.getD (oI c i).a.toNat B0).f]]) hX hO (first := []) (cap := []) (by kernel_rfl) (.o hi (.b (na (m := 1) h (by decide)) (.b (na (m := 2) h (by decide)) (.b (na (m := 3) h (by decide)) (.a (.ix 9) (.o (fki14 h) (.o nn (.o (by decide : (0 : Int) ≤ 2) (.o (by decide : (2 : Int) ≤ 3) (.m 8 le8 (.b (rfl : true = true) (.o in02 (.o (show inR (oI c i).a l.length from hk.a (by omega)) (.b (rfl : true = true) (.o in12 (.o (show inR (oI c i).b l.length from hk.b (by omega)) (.b (rfl : false = false) (.b hd (.o le1 .sr)))))))))))))))))))).drop hX rfl rfl
 ·rw [← rule_15 h]
  cases hd : (!(decide ((l.getD (oI c i).a.toNat B0).lo ≤ (l.getD (oI c i).a.toNat B0).hi)))
  ·rw [if_neg (by simp)]
   exact (sim_is (H1 := ([.cells x0, .cells x1, .cells x2] ++ RR3 ++ [.list false false 38 l]) ++ [.list true true 3 [(oI c i).a, (oI c i).b, (oI c i).c]]) hX hO (first := []) (cap := []) (by kernel_rfl) (.o hi (.b (na (m := 1) h (by decide)) (.b (na (m := 2) h (by decide)) (.b (na (m := 3) h (by decide)) (.a (.ix 10) (.o (fki15 h) (.o nn (.o (by decide : (0 : Int) ≤ 2) (.o (by decide : (2 : Int) ≤ 3) (.m 8 le8 (.b (rfl : true = true) (.o in02 (.o (show inR (oI c i).a l.length from hk.a (by omega)) (.b (rfl : true = true) (.o in12 (.o (show inR (oI c i).b l.length from hk.b (by omega)) (.b (rfl : false = false) (.b hd .sr))))))))))))))))))).drop hX rfl rfl
  ·rw [if_pos rfl]
   exact (sim_is (H1 := ([.cells x0, .cells x1, .cells x2] ++ RR3 ++ [.list false false 38 l]) ++ [.list true true 3 [(oI c i).a, (oI c i).b, (oI c i).c]] ++ [.list true true 5 [(l.getD (oI c i).a.toNat B0).f]]) hX hO (first := []) (cap := []) (by kernel_rfl) (.o hi (.b (na (m := 1) h (by decide)) (.b (na (m := 2) h (by decide)) (.b (na (m := 3) h (by decide)) (.a (.ix 10) (.o (fki15 h) (.o nn (.o (by decide : (0 : Int) ≤ 2) (.o (by decide : (2 : Int) ≤ 3) (.m 8 le8 (.b (rfl : true = true) (.o in02 (.o (show inR (oI c i).a l.length from hk.a (by omega)) (.b (rfl : true = true) (.o in12 (.o (show inR (oI c i).b l.length from hk.b (by omega)) (.b (rfl : false = false) (.b hd (.o le1 .sr)))))))))))))))))))).drop hX rfl rfl
 ·rw [← rule_16 h]
  cases hd : (!(decide ((l.getD (oI c i).a.toNat B0).lo ≤ (l.getD (oI c i).a.toNat B0).hi)))
  ·rw [if_neg (by simp)]
   exact (sim_is (H1 := ([.cells x0, .cells x1, .cells x2] ++ RR3 ++ [.list false false 38 l]) ++ [.list true true 3 [(oI c i).a, (oI c i).b, (oI c i).c]]) hX hO (first := []) (cap := []) (by kernel_rfl) (.o hi (.b (na (m := 1) h (by decide)) (.b (na (m := 2) h (by decide)) (.b (na (m := 3) h (by decide)) (.a (.ix 11) (.o (fki16 h) (.o nn (.o (by decide : (0 : Int) ≤ 2) (.o (by decide : (2 : Int) ≤ 3) (.m 8 le8 (.b (rfl : true = true) (.o in02 (.o (show inR (oI c i).a l.length from hk.a (by omega)) (.b (rfl : true = true) (.o in12 (.o (show inR (oI c i).b l.length from hk.b (by omega)) (.b (rfl : false = false) (.b hd .sr))))))))))))))))))).drop hX rfl rfl
  ·rw [if_pos rfl]
   exact (sim_is (H1 := ([.cells x0, .cells x1, .cells x2] ++ RR3 ++ [.list false false 38 l]) ++ [.list true true 3 [(oI c i).a, (oI c i).b, (oI c i).c]] ++ [.list true true 5 [(l.getD (oI c i).a.toNat B0).f]]) hX hO (first := []) (cap := []) (by kernel_rfl) (.o hi (.b (na (m := 1) h (by decide)) (.b (na (m := 2) h (by decide)) (.b (na (m := 3) h (by decide)) (.a (.ix 11) (.o (fki16 h) (.o nn (.o (by decide : (0 : Int) ≤ 2) (.o (by decide : (2 : Int) ≤ 3) (.m 8 le8 (.b (rfl : true = true) (.o in02 (.o (show inR (oI c i).a l.length from hk.a (by omega)) (.b (rfl : true = true) (.o in12 (.o (show inR (oI c i).b l.length from hk.b (by omega)) (.b (rfl : false = false) (.b hd (.o le1 .sr)))))))))))))))))))).drop hX rfl rfl
 ·rw [← rule_17 h]
  cases hd : (!(decide ((l.getD (oI c i).a.toNat B0).lo ≤ (l.getD (oI c i).a.toNat B0).hi)))
  ·rw [if_neg (by simp)]
   exact (sim_is (H1 := ([.cells x0, .cells x1, .cells x2] ++ RR3 ++ [.list false false 38 l]) ++ [.list true true 3 [(oI c i).a, (oI c i).b, (oI c i).c]]) hX hO (first := []) (cap := []) (by kernel_rfl) (.o hi (.b (na (m := 1) h (by decide)) (.b (na (m := 2) h (by decide)) (.b (na (m := 3) h (by decide)) (.a (.ix 12) (.o (fki17 h) (.o nn (.o (by decide : (0 : Int) ≤ 3) (.o (by decide : (3 : Int) ≤ 3) (.m 8 le8 (.b (rfl : true = true) (.o in03 (.o (show inR (oI c i).a l.length from hk.a (by omega)) (.b (rfl : true = true) (.o in13 (.o (show inR (oI c i).b l.length from hk.b (by omega)) (.b (rfl : true = true) (.o in23 (.o (show inR (oI c i).c l.length from hk.c (by omega)) (.b (rfl : false = false) (.b hd .sr)))))))))))))))))))))).drop hX rfl rfl
  ·rw [if_pos rfl]
   exact (sim_is (H1 := ([.cells x0, .cells x1, .cells x2] ++ RR3 ++ [.list false false 38 l]) ++ [.list true true 3 [(oI c i).a, (oI c i).b, (oI c i).c]] ++ [.list true true 5 [(l.getD (oI c i).a.toNat B0).f]]) hX hO (first := []) (cap := []) (by kernel_rfl) (.o hi (.b (na (m := 1) h (by decide)) (.b (na (m := 2) h (by decide)) (.b (na (m := 3) h (by decide)) (.a (.ix 12) (.o (fki17 h) (.o nn (.o (by decide : (0 : Int) ≤ 3) (.o (by decide : (3 : Int) ≤ 3) (.m 8 le8 (.b (rfl : true = true) (.o in03 (.o (show inR (oI c i).a l.length from hk.a (by omega)) (.b (rfl : true = true) (.o in13 (.o (show inR (oI c i).b l.length from hk.b (by omega)) (.b (rfl : true = true) (.o in23 (.o (show inR (oI c i).c l.length from hk.c (by omega)) (.b (rfl : false = false) (.b hd (.o le1 .sr))))))))))))))))))))))).drop hX rfl rfl
end Go.Proofs.YtfhiejgoemcelaaGreat
namespace Pv
open Go Tw
section
variable {X : Cod} {P : Program} {T : Tab} {L : Nat}
theorem sim_ex (hX : CodOk X P) {n f : Nat} {orc : Orc X.Γ} (hO : OrcOk X P (apN P T L n) orc) {first xs cap : List (PV X.Γ)} {H H1 : List (PB X.Γ)} {v : PV X.Γ} {an : PT X.Γ} {o : OT (PV X.Γ × List (PB X.Γ))}
  (hk : pfunK X P T orc (Sim X P (apN P T L n)) (LoopS X P T (apN P T L n) L f H.length) L f (first ++ xs ++ cap) H an = o) (ht : Fp (IsE v H1) an o) : Sim X P (apN P T L (n + 1)) (.fn f first cap) xs H v H1 := by
 obtain ⟨y, h1, h2⟩ := ht.ends
 cases h2
 rw [← hk] at h1
 exact sim_fn hX (n := n + 1) (by omega) hO h1
end
end Pv
namespace Go.Proofs.YtfhiejgoemcelaaGreat
open Go Tw Pv
def gR (c : C) (l : List B) (_ : Nat) (o : O) : List B := [S_rule c.cs l o]
theorem reachL_bld (c : C) : reachL c.cs c.os = bld (gR c) c.os 0 [] := by
 have : ∀ (os : List O) (i : Nat) (l : List B), (reachS (fun (_ : Unit) _ b => ((), b)) c.cs os () l).2 = bld (gR c) os i l := by
  intro os
  induction os with
  | nil => intro i l; rfl
  | cons o os ih => intro i l; simp only [reachS, bld, gR]; exact ih _ _
 exact this _ _ _
abbrev w55 (c : C) (i : Int) (acc : List B) (x : List (Nat × PE gam)) : PSt gam := ⟨[(1, .val (.fn 56 [] [])), (5, .val (.own 9)), (6, .loc 1 0), (13, xi c.os.length), (14, xi i)] ++ x, [xC c, xC c ++ [.map 0]], RR0 ++ [.list false false 38 acc]⟩
set_option maxRecDepth 10000 in
theorem l55 {N : Nat} (hO : ∀ m, N ≤ m → Ok m oc56) (c : C) (hlo : c.os.length ≤ most) (hok : ∀ (i : Nat) (o : O), c.os[i]? = some o → RuleOk o i c.cs.length) : Lp (N + 2) 55 0 (w55 c 0 [] []) (.exit 0) (w55 c c.os.length (reachL c.cs c.os) [(15, xl false)]) := by
 rw [reachL_bld]
 refine eachB O0 (l := c.os) (s0 := ([] : List B)) (g := gR c) (st := fun i l => w55 c i l []) (fin := fun l => w55 c c.os.length l [(15, xl false)]) (fun k l => l.length = k) (by kernel_rfl) hlo LLm rfl (fun k s h hi => by simp [gR, hi]) (fun k s h hi n e p hr => ?_) (fun s _ => round hX (hO (N + 2) (by omega)) (by kernel_rfl) (.b (lt_no c.os.length) .ex))
 have hm : s.length + 1 ≤ most := by rw [hi]; omega
 have hk : RuleOk (oI c k) s.length c.cs.length := by rw [hi]; exact hok k _ (getD_at h _)
 exact round hX (hO (N + 2) (by omega)) (by kernel_rfl) (.b (lt_nat h) <| .k (s64A (hO N (by omega)) (hO (N + 1) (by omega)) c s k (inR_nat h) hk) <| .o hm <| .goG [.gc [0, 1, 2, 3, 4, 5, 6, 7, 8, 11]] hr)
end Go.Proofs.YtfhiejgoemcelaaGreat
namespace Pv
open Go Tw
def itF {σ ρ : Type} (g : σ → σ ⊕ ρ) : Nat → σ → Option ρ
 | 0, _ => none
 | k + 1, s => match g s with
  | .inl s1 => itF g k s1
  | .inr r => some r
section
variable {X : Cod} {P : Program} {T : Tab} {L : Nat} {f nt B : Nat} {rnd : Bool} {call : CallT} {b : Code} {σ ρ : Type}
def contW (out : ρ → Ex × PSt X.Γ) (r : ρ) : σ ⊕ ρ → Ex × PSt X.Γ
 | .inl _ => out r
 | .inr r' => out r'
theorem whileR {st : σ → PSt X.Γ} {g : σ → σ ⊕ ρ} {out : ρ → Ex × PSt X.Γ} (Inv : σ → Prop) (hi : ∀ s s1, Inv s → g s = .inl s1 → Inv s1)
  (hs : ∀ s n r, Inv s → (∀ s1, g s = .inl s1 → RoundsH X P T call L f rnd nt B b n (st s1) (out r).1 (out r).2) → RoundsH X P T call L f rnd nt B b (n + 1) (st s) (contW out r (g s)).1 (contW out r (g s)).2) :
  ∀ {k : Nat} {s : σ} {r : ρ}, Inv s → itF g k s = some r → RoundsH X P T call L f rnd nt B b k (st s) (out r).1 (out r).2
 | 0, s, r, _, h => by cases h
 | k + 1, s, r, hv, h => by
  simp only [itF] at h
  have h1 := hs s k r hv fun s1 h1 => by
   rw [h1] at h
   exact whileR Inv hi hs (hi s s1 hv h1) h
  cases hg : g s with
  | inl s1 => rw [hg] at h1; exact h1
  | inr r' => rw [hg] at h1 h; simp only [Option.some.injEq] at h; subst h; exact h1
theorem whileE {st : σ → PSt X.Γ} {g : σ → σ ⊕ ρ} {out : ρ → Ex × PSt X.Γ} (Inv : σ → Prop) {k : Nat} {s : σ} {r : ρ} {w : PSt X.Γ} (hr : itF g k s = some r) (h0 : patHead X (T.headAt f (headId b)) w = st s) (hk : k ≤ L) (hv : Inv s) (hi : ∀ s s1, Inv s → g s = .inl s1 → Inv s1)
  (hs : ∀ s n r, Inv s → (∀ s1, g s = .inl s1 → RoundsH X P T call L f rnd nt B b n (st s1) (out r).1 (out r).2) → RoundsH X P T call L f rnd nt B b (n + 1) (st s) (contW out r (g s)).1 (contW out r (g s)).2) :
  ExecS X P T call L f rnd nt B (.loop b) w (out r).1 (out r).2 := loopH_of (whileR Inv hi hs hv hr) h0 hk
end
end Pv
namespace Go.Proofs.YtfhiejgoemcelaaGreat
open Go Tw Pv
noncomputable def oc55 : Orc gam := orcF 55 (a2 cA (fnA 56)) bsA (fun p => reachL p.1.cs p.1.os) (fun p => [p.1.os.length ≤ most, ∀ (i : Nat) (o : O), p.1.os[i]? = some o → RuleOk o i p.1.cs.length]) oc56
theorem gc55 : Gd oc55 := gc56.deep 2 fun n hn hO p hp => by
 obtain ⟨n, rfl⟩ : ∃ k, n = k + 2 := ⟨n - 2, by omega⟩
 exact fn_is hX (hO _ (by omega)) (by kernel_rfl) (.k (s63_0 (n := n + 1) (hO _ (by omega))) (.wG [.nilE 5 38] (l55 (fun m hm => hO m (by omega)) p.1 (hp _ (.head _)) (hp _ (.tail _ (.head _)))) .rr))
theorem ok3000 {k : Nat} (h : k ≤ 3000) : k ≤ most := by unfold most; omega
noncomputable def oc19 : Orc gam := orcF 19 (a1 cA) (tupA (a2 bsA iA)) (fun p => S_Of p) np oc55
theorem gc19 : Gd oc19 := gc55.add fun n hO p hp => fn_is hX hO (by kernel_rfl) (.sh (fun _ => .rn (.tup [.nil .slc, .int .i64 (S_check p)]) rfl) fun h => .o (ok3000 (check_ok h).2.2.2.1) (.o (fun i o hi => ((check_ok h).2.1 i o hi).1 : ∀ (i : Nat) (o : O), p.os[i]? = some o → RuleOk o i p.cs.length) .rr))
end Go.Proofs.YtfhiejgoemcelaaGreat
namespace Go.Proofs.YtfhiejgoemcelaaGreat
open Go Tw Pv
noncomputable def oc31 : Orc gam := orcF 31 (a2 cA iA) (tupA (a2 uA iA)) (fun p => S_Never (S_Of p.1).2 (S_Of p.1).1 p.2) np oc19
theorem gc31 : Gd oc31 := gc19.add fun n hO p hp => fn_is hX hO (by kernel_rfl) (.sh (fun h0 => .rr) fun h0 => (.sh (fun h1 => .rr) fun h1 => (.sh (fun h2 => .rr) fun h2 => (.o (show inR p.2 (S_Of p.1).1.length from ⟨by simpa using h1, by simpa using h2⟩) .rr))))
noncomputable def oc62 : Orc gam := orcF 62 (a1 bA) tA (fun p => S_valid p) np oc31
theorem gc62 : Gd oc62 := gc31.add fun n hO p hp => fn_is hX hO (by kernel_rfl) (.sh (fun _ => .rr) fun h0 => .o le1 (.q (.bool (decide (p = S_with ⟨1, 0, 0⟩ [p.f]))) (eq_B94 (.tmp 7) (.tmp 13) p (S_with ⟨1, 0, 0⟩ [p.f])) (.ss .rr (.ss (.ss .rr .rr) .rr))))
noncomputable def oc61 : Orc gam := orcF 61 (a1 bA) tA (fun p => S_Weak1 p) np oc62
theorem gc61 : Gd oc61 := gc62.add fun n hO p hp => fn_is hX hO (by kernel_rfl) .rr
end Go.Proofs.YtfhiejgoemcelaaGreat
namespace Pv
open Go Tw
theorem Good.deep2 {X : Cod} {P : Program} {T : Tab} {L : Nat} {α β : Type} {f : FuncId} {a : ArL X P α} {r : Ar X P β} {S : α → β} {pre : α → List Prop} {orc orc2 : Orc X.Γ} (d : Nat) (hg : Good X P T L orc) (hg2 : Good X P T L orc2)
  (hf : ∀ n, d ≤ n → (∀ m, n - d ≤ m → OrcOk X P (apN P T L m) orc) → (∀ m, n - d ≤ m → OrcOk X P (apN P T L m) orc2) → ∀ x, (∀ p ∈ pre x, p) → Con X P (apN P T L (n + 1)) f (a.put x) (r.put (S x)) []) : Good X P T L (orcF f a r S pre orc) := by
 obtain ⟨N2, hN2⟩ := hg2
 obtain ⟨M, hM⟩ := hg
 refine ⟨M + N2 + d + 1, fun n hn => ?_⟩
 obtain ⟨k, rfl⟩ : ∃ k, n = k + 1 := ⟨n - 1, by omega⟩
 intro g vs v ext ps ho hp
 unfold orcF at ho
 split at ho
 ·rename_i e
  have e := Nat.eq_of_beq_eq_true e
  subst e
  split at ho
  ·rename_i x hx
   cases ho
   intro A h first args cap hup hv
   exact hf k (by omega) (fun m hm => hM m (by omega)) (fun m hm => hN2 m (by omega)) x hp A h first args cap hup (a.ok hx hv)
  ·exact hM (k + 1) (by omega) g vs v ext ps ho hp
 ·exact hM (k + 1) (by omega) g vs v ext ps ho hp
end Pv
namespace Go.Proofs.YtfhiejgoemcelaaGreat
open Go Tw Pv
noncomputable def oc60 : Orc gam := orcF 60 (a2 bsA (fnA 61)) tA (fun p => S_all p.1) (fun p => [p.1.length ≤ most]) oc61
theorem gc60 : Gd oc60 := gc61.deep 3 fun n hn hO p hp => by
 obtain ⟨n, rfl⟩ : ∃ k, n = k + 3 := ⟨n - 3, by omega⟩
 have h1 : ∀ x : B, Sim X0 Tryz.prog (ApN (n + 1)) (.fn 92 [] [.ptr 0 0 1]) [.agg x.ps] [.cells [.fn 61 [] []]] (tA.put (S_all1 x)) [.cells [.fn 61 [] []]] := fun x => sim_is hX (hO n (by omega)) (first := []) (by kernel_rfl) .sr
 have h2 := s91 (n := n + 2) (by omega) (g := fun x => S_all1 x) h1 p.1 (hp _ (.head _))
 exact fn_is hX (hO (n + 3) (by omega)) (by kernel_rfl) (.k h2 (.v (!(S_ContainsFuncB (fun x => S_all1 x) p.1)) (by rw [containsB]; rfl)))
abbrev w24 (c : C) (l : List B) (i : Int) (x : List (Nat × PE gam)) : PSt gam := ⟨[(1, xL 38 l), (7, .loc 1 0), (30, xi c.os.length), (31, xi i)] ++ x, [xC c, xC c ++ [.map 0]], RR0⟩
def z24 (c : C) (l : List B) : Unit ⊕ (Nat × O × Unit) → Ex × PSt gam
 | .inl _ => (.exit 0, w24 c l c.os.length [(32, xl false)])
 | .inr r => (.ret, ⟨[(4, xi r.1), (5, xi 0)], [xC c, xC c ++ [.map 0]], RR0⟩)
set_option maxRecDepth 10000 in
theorem l24 {N : Nat} (hO : ∀ m, N ≤ m → Ok m oc60) (hO2 : ∀ m, N ≤ m → Ok m oc56) (c : C) (l : List B) (hlo : c.os.length ≤ most) (hl : l.length = c.os.length) (hok : ∀ (i : Nat) (o : O), c.os[i]? = some o → RuleOk o i c.cs.length) : Lp (N + 2) 24 0 (w24 c l 0 []) (z24 c l (runL (F_Weak c l) c.os 0 ())).1 (z24 c l (runL (F_Weak c l) c.os 0 ())).2 :=
 eachE (st := fun i _ => w24 c l i []) O0 (fun _ _ => True) (by kernel_rfl) hlo LLm trivial (fun k s n hk _ ih => by
  have hk2 : RuleOk (oI c k) k c.cs.length := hok k _ (getD_at hk O0)
  have hr : RuleOk (oI c k) l.length c.cs.length := ⟨hk2.lo, hk2.hi, hk2.no, hk2.ch, fun h => (hk2.a h).imp id (fun h => by omega), fun h => (hk2.b h).imp id (fun h => by omega), fun h => (hk2.c h).imp id (fun h => by omega)⟩
  exact round hX (hO (N + 2) (by omega)) (by kernel_rfl) (.b (lt_nat hk) (.k (s64B (hO2 N (by omega)) (hO2 (N + 1) (by omega)) c l k (inR_nat hk) hr) (.o (show inR k l.length by rw [hl]; exact inR_nat hk) (.ls (.ou nofun) (.nx (ih _ trivial))))))) (fun s _ => round hX (hO (N + 2) (by omega)) (by kernel_rfl) (.b (lt_no c.os.length) (.ou nofun)))
noncomputable def oc24 : Orc gam := orcF 24 (a2 cA bsA) (tupA (a2 iA iA)) (fun p => S_Weak p.1 p.2) (fun p => [p.2.length ≤ most]) oc60
theorem gc24 : Gd oc24 := gc60.deep2 2 gc56 fun n hn hO hO2 p hp => by
 obtain ⟨n, rfl⟩ : ∃ k, n = k + 2 := ⟨n - 2, by omega⟩
 refine fn_is hX (hO (n + 2) (by omega)) (by kernel_rfl) (.sh (fun _ => .rr) fun h0 => .sh (fun _ => .rr) fun h1 => .o (hp _ (.head _)) (.sh (fun _ => .rr) fun h2 => .k (s63_0 (n := n + 1) (hO2 _ (by omega))) (.zh (fun h => .w (exInl (l24 (fun m hm => hO m (by omega)) (fun m hm => hO2 m (by omega)) p.1 p.2 (ok3000 (check_ok h0).2.2.2.1) (by simp at h1; omega) fun i o hi => ((check_ok h0).2.1 i o hi).1) () h) .rr) (fun h => .w (exInr (l24 (fun m hm => hO m (by omega)) (fun m hm => hO2 m (by omega)) p.1 p.2 (ok3000 (check_ok h0).2.2.2.1) (by simp at h1; omega) fun i o hi => ((check_ok h0).2.1 i o hi).1) (0, O0, ()) h) .rr))))
noncomputable def oc26 : Orc gam := orcF 26 (a2 cA bsA) tA (fun p => S_Prove p.1 p.2) (fun p => [p.2.length ≤ most]) oc24
theorem gc26 : Gd oc26 := gc24.add fun n hO p hp => fn_is hX hO (by kernel_rfl) (.o (hp _ (.head _)) .rr)
end Go.Proofs.YtfhiejgoemcelaaGreat
namespace Go.Proofs.YtfhiejgoemcelaaGreat
open Go Tw Pv
abbrev H3 (op : Int) (kn : B) (left : Bool) : List (PB gam) := [.cells [.int .i64 op], .cells kn.ps, .cells [.bool left]]
abbrev HC (op : Int) (kn : B) (left : Bool) (acc : List B) : List (PB gam) := H3 op kn left ++ RR3 ++ [.list false false 38 acc]
abbrev fC : PV gam := .fn 75 [] [.ptr 0 0 1, .ptr 1 0 3, .ptr 2 0 1]
theorem s75 {n : Nat} (hO : Ok n oc56) (op : Int) (kn b : B) (s : Bool × Bool) (k : Nat) (acc : List B) : Sim X0 Tryz.prog (ApN (n + 1)) fC [.int .i64 k, .agg b.ps] (HC op kn s.1 acc) (bA.put (gClip op kn s k b).2) (HC op kn (gClip op kn s k b).1.1 acc) := by
 unfold gClip
 cases h : ((k : Int) != op)
 ·rw [if_neg (by simp)]
  exact sim_is hX hO (first := []) (by kernel_rfl) (.b h (.q (.bool (!decide (S_common b kn = ⟨1, 0, 0⟩))) (ne_B94 (.tmp 15) (.tmp 16) (S_common b kn) ⟨1, 0, 0⟩) .sr))
 ·rw [if_pos rfl]
  exact sim_is hX hO (first := []) (by kernel_rfl) (.b h .sr)
def gCl (op : Int) (kn : B) (c : C) (k : Nat) (o : O) (s : (Bool × Bool) × List B) : ((Bool × Bool) × List B) ⊕ Empty := .inl ((gClip op kn s.1 k (S_rule c.cs s.2 o)).1, s.2 ++ [(gClip op kn s.1 k (S_rule c.cs s.2 o)).2])
theorem gCl_reach (op : Int) (kn : B) (c : C) : ∀ (os : List O) (s : (Bool × Bool) × List B), getE (runL (gCl op kn c) os s.2.length s) = reachS (gClip op kn) c.cs os s.1 s.2
 | [], s => rfl
 | o :: os, s => by
  simp only [runL, gCl, reachS]
  have := gCl_reach op kn c os ((gClip op kn s.1 s.2.length (S_rule c.cs s.2 o)).1, s.2 ++ [(gClip op kn s.1 s.2.length (S_rule c.cs s.2 o)).2])
  simp only [List.length_append, List.length_singleton] at this
  exact this
abbrev w55C (op : Int) (kn : B) (c : C) (i : Int) (s : (Bool × Bool) × List B) (x : List (Nat × PE gam)) : PSt gam := ⟨[(1, .val fC), (5, .val (.own 12)), (6, .loc 1 0), (13, xi c.os.length), (14, xi i)] ++ x, [xC c, xC c ++ [.map 3]], HC op kn s.1.1 s.2⟩
def z55C (op : Int) (kn : B) (c : C) (r : ((Bool × Bool) × List B) ⊕ Empty) : Ex × PSt gam := (.exit 0, w55C op kn c c.os.length (getE r) [(15, xl false)])
set_option maxRecDepth 10000 in
theorem l55C {N : Nat} (hO : ∀ m, N ≤ m → Ok m oc56) (op : Int) (kn : B) (c : C) (hlo : c.os.length ≤ most) (hok : ∀ (i : Nat) (o : O), c.os[i]? = some o → RuleOk o i c.cs.length) (left : Bool) : LpB (N + 2) 55 0 3 (w55C op kn c 0 ((left, false), []) []) (z55C op kn c (runL (gCl op kn c) c.os 0 ((left, false), []))).1 (z55C op kn c (runL (gCl op kn c) c.os 0 ((left, false), []))).2 :=
 eachE (st := fun i s => w55C op kn c i s []) O0 (fun k s => s.2.length = k) (by kernel_rfl) hlo LLm rfl (fun k s n hk hi ih => by
  have hk2 : RuleOk (oI c k) s.2.length c.cs.length := by rw [hi]; exact hok k _ (getD_at hk O0)
  have hm : s.2.length + 1 ≤ most := by rw [hi]; omega
  exact round hX (hO (N + 2) (by omega)) (by kernel_rfl) (.b (lt_nat hk) (.k (s64C (hO N (by omega)) (hO (N + 1) (by omega)) (x0 := [.int .i64 op]) (x1 := kn.ps) (x2 := [.bool s.1.1]) c s.2 k (inR_nat hk) hk2) (.k (s75 (hO (N + 1) (by omega)) op kn (S_rule c.cs s.2 (oI c k)) s.1 k s.2) (.o hm (.nxG [.gc [3, 4, 5, 6, 7, 8, 9, 10, 11, 14]] (ih _ (by simp [hi]))))))))
  (fun s _ => round hX (hO (N + 2) (by omega)) (by kernel_rfl) (.b (lt_no c.os.length) (.ou nofun)))
abbrev rClip (op : Int) (kn : B) (c : C) (left : Bool) := reachS (gClip op kn) c.cs c.os (left, false) []
theorem s55C {N : Nat} (hO : ∀ m, N ≤ m → Ok m oc56) (op : Int) (kn : B) (c : C) (hlo : c.os.length ≤ most) (hok : ∀ (i : Nat) (o : O), c.os[i]? = some o → RuleOk o i c.cs.length) (left : Bool) : Sim X0 Tryz.prog (ApN (N + 3)) (.fn 55 [] []) [.agg (xC c), fC] (H3 op kn left) (.own 12) (HC op kn (rClip op kn c left).1.1 (rClip op kn c left).2) := by
 have e := gCl_reach op kn c c.os ((left, false), [])
 have hl := l55C hO op kn c hlo hok left
 unfold z55C at hl
 rw [show runL (gCl op kn c) c.os 0 ((left, false), []) = runL (gCl op kn c) c.os ([] : List B).length ((left, false), []) from rfl, e] at hl
 exact sim_ex hX (hO (N + 2) (by omega)) (first := []) (cap := []) (by kernel_rfl) (.k (s63_3 (n := N + 1) (hO _ (by omega)) [.int .i64 op] kn.ps [.bool left]) (.wG [.nilE 5 38] hl .er))
noncomputable def oc32 : Orc gam := orcF 32 (a3 cA iA bA) (tupA (a2 bsA iA)) (fun p => S_Clip p.1 p.2.1 p.2.2) np oc26
theorem gc32 : Gd oc32 := gc26.deep2 3 gc56 fun n hn hO hO2 p hp => by
 obtain ⟨n, rfl⟩ : ∃ k, n = k + 3 := ⟨n - 3, by omega⟩
 exact fn_is hX (hO (n + 3) (by omega)) (by kernel_rfl) (.sh (fun _ => .rn (.tup [.nil .slc, .int .i64 (S_check p.1)]) rfl) fun h0 => .sh (fun _ => .rn (.tup [.nil .slc, .int .i64 3]) rfl) fun _ => .sh (fun _ => .rn (.tup [.nil .slc, .int .i64 3]) rfl) fun _ => .sh (fun _ => .rn (.tup [.nil .slc, .int .i64 2]) rfl) fun _ =>
  .k (s55C (fun m hm => hO2 m (by omega)) p.2.1 p.2.2 p.1 (ok3000 (check_ok h0).2.2.2.1) (fun i o hi => ((check_ok h0).2.1 i o hi).1) true) (.sh (fun _ => .rn (.tup [.nil .slc, .int .i64 12]) rfl) fun _ => .rr))
end Go.Proofs.YtfhiejgoemcelaaGreat
