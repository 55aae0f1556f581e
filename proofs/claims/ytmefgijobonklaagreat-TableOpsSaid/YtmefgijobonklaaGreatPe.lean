/- Part 5 of a proof: The statement TableOps: any operation on any tables gives what the document says, or the error is (sizes and tables within the statement's bounds, at most 4 tables). -/
import Derived.Test.YtmefgijobonklaaGreatPd
set_option linter.constructorNameAsVariable false
set_option linter.unusedVariables false
set_option linter.unusedSimpArgs false
set_option linter.unusedSectionVars false
namespace Go.Proofs.YtmefgijobonklaaGreat
open Go Tw Pv Mist
theorem wsucc {j : Nat} (h : j ≤ most) : IntKind.i64.wrap ((j : Int) + 1) = ((j + 1 : Nat) : Int) := wrap_up h
theorem wpred {j : Nat} (h0 : 0 < j) (h : j ≤ most) : IntKind.i64.wrap ((j : Int) - 1) = ((j - 1 : Nat) : Int) := by unfold most at h; rw [wrap_nn (by omega) (by omega)]; omega
theorem wmul {j w : Nat} (hj : j ≤ 20) (hw : w ≤ 5000) : IntKind.i64.wrap ((j : Int) * (w : Int)) = ((j * w : Nat) : Int) := by
 have : j * w ≤ 20 * 5000 := Nat.mul_le_mul hj hw
 rw [← Int.natCast_mul, wrap_nn (by omega) (by omega)]
theorem m20 {j : Nat} (h : j ≤ 20) : j ≤ most := by unfold most; omega
abbrev rawB (l : List V) (x y : Int) : List V := List.drop x.toNat (List.take y.toNat l)
theorem rawB_blk {l : List V} {w j : Nat} (hj : j < 20) (hw : w ≤ 5000) : rawB l (IntKind.i64.wrap ((j : Int) * (w : Int))) (IntKind.i64.wrap (IntKind.i64.wrap ((j : Int) + 1) * (w : Int))) = blk l w j := by
 rw [wsucc (m20 (by omega)), wmul (by omega) hw, wmul (by omega) hw]; rfl
structure Prt (l : List V) (w n : Nat) : Prop where
 n12 : n ≤ 12
 w2 : w ≤ 5000
 len : l.length = n * w
section
variable {l : List V} {w n j : Nat} (h : Prt l w n)
include h
theorem Prt.b1 (hj : j ≤ 20) : 0 ≤ IntKind.i64.wrap ((j : Int) * (w : Int)) := by rw [wmul hj h.w2]; omega
theorem Prt.b2 (hj : j < 20) : IntKind.i64.wrap ((j : Int) * (w : Int)) ≤ IntKind.i64.wrap (IntKind.i64.wrap ((j : Int) + 1) * (w : Int)) := by
 rw [wsucc (m20 (by omega)), wmul (by omega) h.w2, wmul (by omega) h.w2, Nat.add_mul]; omega
theorem Prt.b3 (hj : j < n) : IntKind.i64.wrap (IntKind.i64.wrap ((j : Int) + 1) * (w : Int)) ≤ (l.length : Int) := by
 have := h.n12
 rw [wsucc (m20 (by omega)), wmul (by omega) h.w2, h.len]
 have : (j + 1) * w ≤ n * w := Nat.mul_le_mul_right w hj
 omega
theorem Prt.mo (hj : j < n) : (blk l w j).length ≤ most := by rw [blk_len h.len hj]; have := h.w2; unfold most; omega
end
abbrev wOf (s : List Int) (l : List V) (n w j : Nat) (acc : List Rw) (x : List (Nat × PE gam)) (y : List (List (PV gam))) : PSt gam := ⟨[(0, xL 3 ((n : Int) :: s : List Int)), (1, xL 58 l), (4, .loc 0 0), (5, .loc 1 0), (6, xi w), (7, xi j)] ++ x, [[.nil .slc], [.own 0]] ++ y, [.list false false 95 acc]⟩
def gEnd (l : List V) (w n : Nat) (p : List V) (t : Nat) : Nat ⊕ Nat := if t + 1 < n ∧ p = blk l w (t + 1) then .inl (t + 1) else .inr t
theorem itEnd {l : List V} {w n : Nat} {p : List V} : ∀ (m t : Nat), n ≤ m + t → itF (gEnd l w n p) (m + 1) t = some (rEnd l w n p m t)
 | 0, t, h => by simp only [itF, gEnd]; rw [if_neg (by omega)]; rfl
 | m + 1, t, h => by
  by_cases c : t + 1 < n ∧ p = blk l w (t + 1)
  ·have e1 : gEnd l w n p t = .inl (t + 1) := by unfold gEnd; rw [if_pos c]
   have e2 : rEnd l w n p (m + 1) t = rEnd l w n p m (t + 1) := by rw [rEnd, if_pos c]
   rw [itF, e1, e2]
   exact itEnd m (t + 1) (by omega)
  ·have e1 : gEnd l w n p t = .inr t := by unfold gEnd; rw [if_neg c]
   have e2 : rEnd l w n p (m + 1) t = t := by rw [rEnd, if_neg c]
   rw [itF, e1, e2]
abbrev zOf1 (s : List Int) (l : List V) (n w j : Nat) (acc : List Rw) (p : List V) (t : Nat) : Ex × PSt gam := (.exit 2, wOf s l n w j acc [(8, xL 58 p), (9, xi t), (80, xl false)] [])
theorem lOf1 {N : Nat} (hO : Ok N oc24) (s : List Int) {l : List V} {n w j : Nat} (h : Prt l w n) (acc : List Rw) (p : List V) (hp : p.length ≤ most) (hj : j < n) : Lp N 25 1 (wOf s l n w j acc [(8, xL 58 p), (9, xi j)] []) (zOf1 s l n w j acc p (rEnd l w n p n j)).1 (zOf1 s l n w j acc p (rEnd l w n p n j)).2 := by
 refine whileL (st := fun t => wOf s l n w j acc [(8, xL 58 p), (9, xi ((t : Nat) : Int))] []) (g := gEnd l w n p) (out := zOf1 s l n w j acc p) (fun t => t < n) (itEnd n j (by omega)) (by kernel_rfl) (by have := h.n12; show n + 1 ≤ LL; unfold LL; omega) hj ?_ ?_
 ·intro t t1 _ e
  unfold gEnd at e; split at e
  ·cases e; rename_i h1; exact h1.1
  ·cases e
 ·intro t m r ht ih
  have h12 := h.n12
  have e1 : IntKind.i64.wrap ((t : Int) + 1) = ((t + 1 : Nat) : Int) := wsucc (m20 (by omega))
  have e2 : IntKind.i64.wrap ((t : Int) + 2) = ((t + 1 : Nat) : Int) + 1 := by rw [wrap_nn (by omega) (by omega)]; omega
  have i0 : inR 0 ((n : Int) :: s).length := ⟨by omega, by simp only [List.length_cons]; omega⟩
  by_cases c1 : t + 1 < n
  ·have t1 : decide (IntKind.i64.wrap ((t : Int) + 1) < (n : Int)) = true := by rw [e1]; simp; omega
   have e3 : IntKind.i64.wrap (((t + 1 : Nat) : Int) + 1) = ((t + 1 + 1 : Nat) : Int) := wsucc (m20 (by omega))
   have e4 : IntKind.i64.wrap ((t : Int) + 2) = IntKind.i64.wrap (((t + 1 : Nat) : Int) + 1) := by rw [e2, e3]; omega
   have q1 : 0 ≤ IntKind.i64.wrap (IntKind.i64.wrap ((t : Int) + 1) * (w : Int)) := by rw [e1]; exact h.b1 (by omega)
   have q2 : IntKind.i64.wrap (IntKind.i64.wrap ((t : Int) + 1) * (w : Int)) ≤ IntKind.i64.wrap (IntKind.i64.wrap ((t : Int) + 2) * (w : Int)) := by rw [e4, e1]; exact h.b2 (by omega)
   have q3 : IntKind.i64.wrap (IntKind.i64.wrap ((t : Int) + 2) * (w : Int)) ≤ (l.length : Int) := by rw [e4]; exact h.b3 c1
   have eb : rawB l (IntKind.i64.wrap (IntKind.i64.wrap ((t : Int) + 1) * (w : Int))) (IntKind.i64.wrap (IntKind.i64.wrap ((t : Int) + 2) * (w : Int))) = blk l w (t + 1) := by rw [e4, e1]; exact rawB_blk (by omega) h.w2
   by_cases c2 : p = blk l w (t + 1)
   ·have c3 : decide (p = rawB l (IntKind.i64.wrap (IntKind.i64.wrap ((t : Int) + 1) * (w : Int))) (IntKind.i64.wrap (IntKind.i64.wrap ((t : Int) + 2) * (w : Int)))) = true := by rw [eb]; simpa using c2
    have eg : gEnd l w n p t = .inl (t + 1) := by unfold gEnd; rw [if_pos ⟨c1, c2⟩]
    have ih := ih (t + 1) eg
    rw [← e1] at ih
    rw [eg]
    exact round hX hO (by kernel_rfl) (.o i0 (.b t1 (.o q1 (.o q2 (.o q3 (.o hp (.b c3 (.go ih))))))))
   ·have c3 : decide (p = rawB l (IntKind.i64.wrap (IntKind.i64.wrap ((t : Int) + 1) * (w : Int))) (IntKind.i64.wrap (IntKind.i64.wrap ((t : Int) + 2) * (w : Int)))) = false := by rw [eb]; simpa using c2
    have eg : gEnd l w n p t = .inr t := by unfold gEnd; rw [if_neg (fun c => c2 c.2)]
    rw [eg]
    dsimp only [contW]
    exact round hX hO (by kernel_rfl) (.o i0 (.b t1 (.o q1 (.o q2 (.o q3 (.o hp (.b c3 .ex)))))))
  ·have t1 : decide (IntKind.i64.wrap ((t : Int) + 1) < (n : Int)) = false := by rw [e1]; simp; omega
   have eg : gEnd l w n p t = .inr t := by unfold gEnd; rw [if_neg (fun c => c1 c.1)]
   rw [eg]
   dsimp only [contW]
   exact round hX hO (by kernel_rfl) (.o i0 (.b t1 .ex))
theorem map_foldA {α : Type} (f : Nat → α) (n : Nat) (a : List α) : foldN (fun k (s : List α) => s ++ [f k]) n 0 a = a ++ (List.range n).map f := by
 have := foldN_inv (g := fun k (s : List α) => s ++ [f k]) (m := n) (k := 0) (s := a) (fun k s => s = a ++ (List.range k).map f) (by simp) (fun j s _ _ h => by rw [h, List.range_succ, List.map_append, List.append_assoc]; rfl)
 simpa using this
theorem map_range {α β : Type} (l : List α) (d : α) (f : α → β) : (List.range l.length).map (fun k => f (l.getD k d)) = l.map f := by
 apply List.ext_getElem (by simp)
 intro i h1 h2
 have : i < l.length := by simpa using h1
 simp [List.getD, List.getElem?_eq_getElem this]
abbrev wOf2 (s : List Int) (l : List V) (n w j t : Nat) (rest : List Rw) (k : Int) (acc : List Rw) (x : List (Nat × PE gam)) : PSt gam := ⟨[(0, xL 3 ((n : Int) :: s : List Int)), (1, xL 58 l), (4, .loc 0 0), (5, .loc 1 0), (6, xi w), (7, xi j), (9, xi t), (10, .loc 2 0), (11, xi k)] ++ x, [[.nil .slc], [.own 0], [lRw rest]], [.list false false 95 acc]⟩
theorem lOf2 {N : Nat} (hO : Ok N oc24) (s : List Int) (l : List V) (n w j t : Nat) (rest acc : List Rw) (hr : ∀ r ∈ rest, r.fr.length < 100 ∧ r.to.length < 100) (hm : acc.length + rest.length ≤ most) : Lp N 25 2 (wOf2 s l n w j t rest 0 acc []) (.exit 4) (wOf2 s l n w j t rest rest.length (acc ++ rest.map (rowC j t)) [(91, xl false)]) := by
 rw [← map_range rest Rw0 (rowC j t), ← map_foldA]
 refine foldL (N := rest.length) (g := fun k (a : List Rw) => a ++ [rowC j t (rest.getD k Rw0)]) (s0 := acc) (st := fun k a => wOf2 s l n w j t rest k a []) (fin := fun a => wOf2 s l n w j t rest rest.length a [(91, xl false)]) (fun k a => a.length = acc.length + k) (by kernel_rfl) (by omega) rfl (fun k a _ h => by simp [h]; omega) (fun k a hk hi n e q g => by
  have h1 := (all_getD (d := Rw0) (p := fun r => r.fr.length < 100 ∧ r.to.length < 100)).2 hr k hk
  have m1 : [(j : Int)].length + (rest.getD k Rw0).fr.length ≤ most := by simp only [List.length_singleton]; unfold most; omega
  have m2 : [(t : Int)].length + (rest.getD k Rw0).to.length ≤ most := by simp only [List.length_singleton]; unfold most; omega
  exact round hX hO (by kernel_rfl) (.b (lt_nat hk) (.o (inR_nat hk) (.o m1 (.o m2 (.o (show a.length + 1 ≤ most by omega) (.goG [.gc [6]] g))))))
  ) (fun a _ => round hX hO (by kernel_rfl) (.b (lt_no rest.length) .ex))
abbrev preOf (K : Nat) (p : List Int × List V) : List Prop := [OfOk p.1 p.2, p.1.length ≤ K]
noncomputable def ocK (K : Nat) : Orc gam := orcF 25 (a2 isA vsA) tbA (fun p => dOf p.1 p.2) (preOf K) oc24
abbrev RAW (l : List V) (w j : Nat) : List V := rawB l (IntKind.i64.wrap ((j : Int) * (w : Int))) (IntKind.i64.wrap (IntKind.i64.wrap ((j : Int) + 1) * (w : Int)))
abbrev TL (n : Nat) (s : List Int) : List Int := List.drop (Int.toNat 1) (List.take ((((n : Int) :: s).length : Nat) : Int).toNat ((n : Int) :: s))
theorem gt_nat {j : Nat} (h : 0 < j) : decide ((j : Int) > 0) = true := by simp; omega
theorem lOf0 {N K : Nat} (hO : Ok N oc24) (hT : Ok N (ocK K)) {s : List Int} {l : List V} {n w : Nat} (h : OfOk ((n : Int) :: s) l) (hw : l.length / n = w) (hK : s.length ≤ K) : Lp N 25 0 (wOf s l n w 0 [] [] []) (.exit 0) (wOf s l n w n (dOf ((n : Int) :: s) l) [(33, xl false)] []) := by
 obtain ⟨h1, h2, h3, h4⟩ := h.w
 have hn : ((n : Nat) : Int).toNat = n := rfl
 rw [hn] at h1 h2
 rw [hw] at h1 h2
 have hw2 : w ≤ 2000 := by
  have := h.fine.many
  simp only [prodI] at this
  have hp := prodI_pos h.fine.sz.tail
  have : 1 * prodI s ≤ (n : Int) * prodI s := Int.mul_le_mul_of_nonneg_right h3 (by omega)
  omega
 have hP : Prt l w n := ⟨by omega, by omega, h1⟩
 have hlm : l.length ≤ 2000 := by
  have := h.fine.many; have := h.len; omega
 rw [dOf_cons, hn, hw]
 refine foldL (σ := List Rw) (N := n) (g := gOf s l w n) (s0 := ([] : List Rw)) (st := fun k (a : List Rw) => ⟨[(0, xL 3 ((n : Int) :: s : List Int)), (1, xL 58 l), (4, .loc 0 0), (5, .loc 1 0), (6, xi w), (7, xi k)], [[.nil .slc], [.own 0]], [.list false false 95 a]⟩) (fin := fun (a : List Rw) => wOf s l n w n a [(33, xl false)] []) (fun k (a : List Rw) => a.length ≤ k * w) (by kernel_rfl) (by unfold most; omega) (by simp) (fun j (a : List Rw) hj ha => ?_) (fun j a hj ha m e p g => ?_) (fun a _ => round hX hO (by kernel_rfl) (.o (show inR 0 ((n : Int) :: s).length from ⟨by omega, by simp only [List.length_cons]; omega⟩) (.b (lt_no n) .ex)))
 ·unfold gOf
  split
  ·rw [Nat.add_mul]; omega
  ·have h5 := h.blk (j := j) hj
   rw [hn, hw] at h5
   have h6 := dOf_len h5
   rw [blk_len h1 hj] at h6
   rw [List.length_append, List.length_map, Nat.add_mul]; omega
 ·have h5 := h.blk (j := j) hj
  rw [hn, hw] at h5
  have hln := dOf_len h5
  rw [blk_len h1 hj] at hln
  have i0 : inR 0 ((n : Int) :: s).length := ⟨by omega, by simp only [List.length_cons]; omega⟩
  have q1 := hP.b1 (j := j) (by omega)
  have q2 := hP.b2 (j := j) (by omega)
  have q3 := hP.b3 hj
  have eb : RAW l w j = blk l w j := rawB_blk (by omega) (by omega)
  have es : TL n s = s := by
   unfold TL; rw [Int.toNat_natCast, List.take_length]; rfl
  have s1 : (0 : Int) ≤ 1 := by decide
  have s2 : (1 : Int) ≤ ((((n : Int) :: s).length : Nat) : Int) := by simp only [List.length_cons]; omega
  have s3 : ((((n : Int) :: s).length : Nat) : Int) ≤ ((((n : Int) :: s).length : Nat) : Int) := Int.le_refl _
  have ajm : a.length + (dOf s (blk l w j)).length ≤ most := by
   have : (j + 1) * w ≤ n * w := Nat.mul_le_mul_right w hj
   rw [Nat.add_mul] at this
   unfold most; omega
  have dr : ∀ r ∈ dOf s (blk l w j), r.fr.length < 100 ∧ r.to.length < 100 := fun r hr => by
   have := dOf_rows s _ r hr
   have h7 := h.fine.len
   simp only [List.length_cons] at h7
   omega
  have ed : dOf s (blk l w j) = dOf (TL n s) (RAW l w j) := by rw [es, eb]
  have et : rTo l w n j = rEnd l w n (RAW l w j) n j := by rw [eb]
  have h5 : OfOk (TL n s) (RAW l w j) := by rw [es, eb]; exact h5
  have hK2 : (TL n s).length ≤ K := by rw [es]; exact hK
  by_cases c0 : 0 < j
  ·have p1 : 0 ≤ IntKind.i64.wrap (IntKind.i64.wrap ((j : Int) - 1) * (w : Int)) := by rw [wpred c0 (m20 (by omega))]; exact hP.b1 (by omega)
   have ej : IntKind.i64.wrap (((j - 1 : Nat) : Int) + 1) = (j : Int) := by rw [wsucc (m20 (by omega))]; omega
   have p2 : IntKind.i64.wrap (IntKind.i64.wrap ((j : Int) - 1) * (w : Int)) ≤ IntKind.i64.wrap ((j : Int) * (w : Int)) := by
    have := hP.b2 (j := j - 1) (by omega)
    rw [ej] at this
    rw [wpred c0 (m20 (by omega))]; exact this
   have p3 : IntKind.i64.wrap ((j : Int) * (w : Int)) ≤ (l.length : Int) := Int.le_trans q2 q3
   have ep : rawB l (IntKind.i64.wrap (IntKind.i64.wrap ((j : Int) - 1) * (w : Int))) (IntKind.i64.wrap ((j : Int) * (w : Int))) = blk l w (j - 1) := by
    have := rawB_blk (l := l) (w := w) (j := j - 1) (by omega) (by omega)
    rw [ej] at this
    rw [wpred c0 (m20 (by omega))]; exact this
   have p4 : (RAW l w j).length ≤ most := by rw [eb]; exact hP.mo hj
   by_cases c1 : blk l w j = blk l w (j - 1)
   ·have eg : gOf s l w n j a = a := by unfold gOf; rw [if_pos ⟨c0, c1⟩]
    rw [eg] at g
    have t2 : decide (RAW l w j = rawB l (IntKind.i64.wrap (IntKind.i64.wrap ((j : Int) - 1) * (w : Int))) (IntKind.i64.wrap ((j : Int) * (w : Int)))) = true := by rw [eb, ep]; simpa using c1
    exact round hX hT (by kernel_rfl) (.o i0 (.b (lt_nat hj) (.o q1 (.o q2 (.o q3 (.b (gt_nat c0) (.o p1 (.o p2 (.o p3 (.o p4 (.b t2 (.go g))))))))))))
   ·have eg : gOf s l w n j a = a ++ (dOf s (blk l w j)).map (rowC j (rTo l w n j)) := by unfold gOf; rw [if_neg (fun c => c1 c.2)]
    rw [eg] at g
    have t2 : decide (RAW l w j = rawB l (IntKind.i64.wrap (IntKind.i64.wrap ((j : Int) - 1) * (w : Int))) (IntKind.i64.wrap ((j : Int) * (w : Int)))) = false := by rw [eb, ep]; simpa using c1
    rw [ed] at ajm dr
    rw [ed, et] at g
    exact round hX hT (by kernel_rfl) (.o i0 (.b (lt_nat hj) (.o q1 (.o q2 (.o q3 (.b (gt_nat c0) (.o p1 (.o p2 (.o p3 (.o p4 (.b t2 (.w (lOf1 hO s hP a (RAW l w j) p4 hj) (.o s1 (.o s2 (.o s3 (.o h5 (.o hK2 (.w (lOf2 hO s l n w j (rEnd l w n (RAW l w j) n j) (dOf (TL n s) (RAW l w j)) a dr ajm) (.go g)))))))))))))))))))
  ·have eg : gOf s l w n j a = a ++ (dOf s (blk l w j)).map (rowC j (rTo l w n j)) := by unfold gOf; rw [if_neg (fun c => c0 c.1)]
   have p4 : (RAW l w j).length ≤ most := by rw [eb]; exact hP.mo hj
   have t0 : decide ((j : Int) > 0) = false := by simp; omega
   rw [eg] at g
   rw [ed] at ajm dr
   rw [ed, et] at g
   exact round hX hT (by kernel_rfl) (.o i0 (.b (lt_nat hj) (.o q1 (.o q2 (.o q3 (.b t0 (.w (lOf1 hO s hP a (RAW l w j) p4 hj) (.o s1 (.o s2 (.o s3 (.o h5 (.o hK2 (.w (lOf2 hO s l n w j (rEnd l w n (RAW l w j) n j) (dOf (TL n s) (RAW l w j)) a dr ajm) (.go g))))))))))))))
theorem of_nil {N : Nat} {orc : Orc gam} (hO : Ok N orc) {l : List V} (h : OfOk [] l) : Con X0 Tryz.prog (ApN (N + 1)) 25 ((a2 isA vsA).put ([], l)) (tbA.put (dOf [] l)) [] :=
 fn_is hX hO (by kernel_rfl) (.b (rfl : true = true) (.o (show inR 0 l.length by have := h.len; simp [prodI] at this; exact ⟨by omega, by omega⟩) .rr))
theorem of_cons {N K : Nat} (hO : Ok N oc24) (hT : Ok N (ocK K)) {s : List Int} {l : List V} {n : Nat} (h : OfOk ((n : Int) :: s) l) (hK : s.length ≤ K) : Con X0 Tryz.prog (ApN (N + 1)) 25 ((a2 isA vsA).put ((n : Int) :: s, l)) (tbA.put (dOf ((n : Int) :: s) l)) [] := by
 have ha := h.fine.sz (n : Int) (List.mem_cons_self ..)
 have hlm : l.length ≤ 2000 := by have := h.fine.many; have := h.len; omega
 have e0 : quoI .i64 (l.length : Int) (n : Int) = ((l.length / n : Nat) : Int) := by
  rw [quo_nn (by omega) (by omega) (by omega)]; rfl
 have hl := lOf0 hO hT (w := l.length / n) h rfl hK
 have t0 : ((((n : Int) :: s).length : Int) == 0) = false := by simp only [List.length_cons]; simp; omega
 unfold wOf at hl
 rw [← e0] at hl
 exact fn_is hX hT (by kernel_rfl) (.b t0 (.o (show inR 0 ((n : Int) :: s).length from ⟨by omega, by simp only [List.length_cons]; omega⟩) (.o (show (n : Int) ≠ 0 by omega) (.wG [.nilL 1 0 95] hl .rr))))
theorem of_all {N K : Nat} (hO : Ok N oc24) (hT : Ok N (ocK K)) {p : List Int × List V} (h : OfOk p.1 p.2) (hK : p.1.length ≤ K + 1) : Con X0 Tryz.prog (ApN (N + 1)) 25 ((a2 isA vsA).put p) (tbA.put (dOf p.1 p.2)) [] := by
 obtain ⟨s, l⟩ := p
 cases s with
 | nil => exact of_nil hO h
 | cons a s =>
  have ha := h.fine.sz a (List.mem_cons_self ..)
  obtain ⟨n, rfl⟩ : ∃ n : Nat, a = (n : Int) := ⟨a.toNat, by omega⟩
  exact of_cons hO hT h (by simpa using hK)
theorem gcK : ∀ K, Gd (ocK K)
 | 0 => gc24.add fun n hO p hp => by
  obtain ⟨s, l⟩ := p
  have h1 : OfOk s l := hp _ (.head _)
  have h2 : s.length ≤ 0 := hp _ (.tail _ (.head _))
  cases s with
  | nil => exact of_nil hO h1
  | cons a s => simp at h2
 | K + 1 => gc24.deep2 0 (gcK K) fun n _ hO hO2 p hp => of_all (hO n (by omega)) (hO2 n (by omega)) (hp _ (.head _)) (hp _ (.tail _ (.head _)))
noncomputable def oc25 : Orc gam := orcF 25 (a2 isA vsA) tbA (fun p => dOf p.1 p.2) (fun p => [OfOk p.1 p.2]) oc24
theorem gc25 : Gd oc25 := gc24.deep2 0 (gcK 6) fun n _ hO hO2 p hp => of_all (hO n (by omega)) (hO2 n (by omega)) (hp _ (.head _)) (by have h : OfOk p.1 p.2 := hp _ (.head _); have := h.fine.len; omega)
end Go.Proofs.YtmefgijobonklaaGreat
namespace Go.Proofs.YtmefgijobonklaaGreat
open Go Tw Pv Mist
abbrev wRO (s : List Int) (c : Int) (ts : List (List Rw)) (i : Int) (acc : List V) (x : List (Nat × PE gam)) (y : List (PB gam)) : PSt gam := ⟨[(0, xL 3 s), (1, xu c), (2, xL 28 ts), (6, .loc 0 0), (7, xo 0), (8, xi i)] ++ x, [[.nil .slc]], [.list false false 58 acc] ++ y⟩
def atAll (s : List Int) (ts : List (List Rw)) (k : Nat) : List V := ts.map fun t => atN s t k
def cellsOp (s : List Int) (c : Int) (ts : List (List Rw)) : List V := (List.range (cnt s)).map fun k => S_Result c (atAll s ts k)
structure OpOk (s : List Int) (ts : List (List Rw)) : Prop where
 fine : Fine s
 laid : ∀ t ∈ ts, Laid s t
 inn : ∀ t ∈ ts, ∀ r ∈ t, inN r.cell.n
 len : 1 ≤ ts.length ∧ ts.length ≤ 3
theorem at_mem {s : List Int} {t : List Rw} (h : Laid s t) (k : Nat) : ∃ r ∈ t, atN s t k = r.cell := by
 obtain ⟨h1, h2⟩ := h.own (nthI s k) (nthI_isPl _ h.fine.sz)
 refine ⟨t.getD (S_Owners t (nthI s k)).2.toNat Rw0, ?_, rfl⟩
 have : (S_Owners t (nthI s k)).2.toNat < t.length := by omega
 simp [List.getD, List.getElem?_eq_getElem this]
theorem tm4 {t : List Rw} (h : t.length ≤ 4000) : t.length ≤ most := by unfold most; omega
theorem lRO1 {n : Nat} (hO : Ok n oc25) {s : List Int} (c : Int) {ts : List (List Rw)} (h : OpOk s ts) (k : Nat) (hk : k ≤ most) (acc : List V) : Lp n 35 1 (wRO s c ts k acc [(9, xo 1), (10, xi 0)] [.list false false 58 ([] : List V)]) (.exit 2) (wRO s c ts k acc [(9, xo 1), (10, xi ts.length), (20, xl false)] [.list false false 58 (atAll s ts k)]) := by
 unfold atAll
 rw [← map_range ts ([] : List Rw) (fun t => atN s t k), ← map_fold]
 refine foldL (σ := List V) (N := ts.length) (g := fun j (a : List V) => a ++ [atN s (ts.getD j []) k]) (s0 := ([] : List V)) (st := fun j (a : List V) => wRO s c ts k acc [(9, xo 1), (10, xi j)] [.list false false 58 a]) (fin := fun (a : List V) => wRO s c ts k acc [(9, xo 1), (10, xi ts.length), (20, xl false)] [.list false false 58 a]) (fun j (a : List V) => a.length = j) (by kernel_rfl) (by have := h.len; unfold most; omega) rfl (fun j a _ h => by simp [h]) (fun j a hj ha m e p g => ?_) (fun a _ => round hX hO (by kernel_rfl) (.b (lt_no ts.length) .ex))
 have ht := (all_getD (d := ([] : List Rw)) (p := fun t => Laid s t)).2 h.laid j hj
 have hf := h.fine
 have hl := h.len
 have n1 : (nthI s k).length ≤ most := by rw [nthI_len]; exact hf.lenM
 have n2 : RowsL (ts.getD j []) (nthI s k).length := by rw [nthI_len]; exact ht.rows
 exact round hX hO (by kernel_rfl) (.b (lt_nat hj) (.o (inR_nat hj) (.o hf.lenM (.o hf.sz (.o (nn k) (.o (nm hk) (.o (tm4 ht.len) (.o n1 (.o n2 (.o (ht.own (nthI s k) (nthI_isPl (k : Int) hf.sz)) (.o (show a.length + 1 ≤ most by unfold most; omega) (.goG [.gc [0, 3]] g))))))))))))
theorem lRO0 {n : Nat} (hO : Ok n oc25) {s : List Int} (c : Int) {ts : List (List Rw)} (h : OpOk s ts) : Lp n 35 0 (wRO s c ts 0 [] [] []) (.exit 0) (wRO s c ts (cnt s) (cellsOp s c ts) [(14, xl false)] []) := by
 unfold cellsOp
 rw [← map_fold]
 have hf := h.fine
 refine foldL (σ := List V) (N := cnt s) (g := fun k (a : List V) => a ++ [S_Result c (atAll s ts k)]) (s0 := ([] : List V)) (st := fun k (a : List V) => wRO s c ts k a [] []) (fin := fun (a : List V) => wRO s c ts (cnt s) a [(14, xl false)] []) (fun j (a : List V) => a.length = j) (by kernel_rfl) hf.cnt_most rfl (fun j a _ h => by simp [h]) (fun k a hk ha m e p g => ?_) (fun a _ => round hX hO (by kernel_rfl) (.o hf.lenM (.b hf.no .ex)))
 have hc := hf.cnt_most
 have r1 : 1 ≤ (atAll s ts k).length ∧ (atAll s ts k).length ≤ 3 := by unfold atAll; rw [List.length_map]; exact h.len
 have r2 : ∀ v ∈ atAll s ts k, inN v.n := fun v hv => by
  obtain ⟨t, ht, rfl⟩ := List.mem_map.1 hv
  obtain ⟨r, hr, e⟩ := at_mem (h.laid t ht) k
  rw [e]; exact h.inn t ht r hr
 exact round hX hO (by kernel_rfl) (.o hf.lenM (.b (hf.lt hk) (.wG [.nilE 9 58] (lRO1 hO c h k (by omega) a) (.o r1 (.o r2 (.o (show a.length + 1 ≤ most by omega) (.goG [.gc [3]] g)))))))
theorem cellsOp_ok {s : List Int} {c : Int} {ts : List (List Rw)} (h : Fine s) : OfOk s (cellsOp s c ts) := ⟨h, by unfold cellsOp; rw [List.length_map, List.length_range, h.cntI]⟩
noncomputable def oc35 : Orc gam := orcF 35 (a3 isA uA tbsA) tbA (fun p => dOf p.1 (cellsOp p.1 p.2.1 p.2.2)) (fun p => [OpOk p.1 p.2.2]) oc25
theorem gc35 : Gd oc35 := gc25.add fun n hO p hp => fn_is hX hO (by kernel_rfl) (.wG [.nilE 7 58] (lRO0 hO p.2.1 (show OpOk p.1 p.2.2 from hp _ (.head _))) (.o (cellsOp_ok (c := p.2.1) (ts := p.2.2) (show OpOk p.1 p.2.2 from hp _ (.head _)).fine) .rr))
theorem set_isPl {s p : List Int} {ch d : Int} (hp : isPl s p = true) (hc : inR ch s.length) (hd : inR d (s.getD ch.toNat 0).toNat) : isPl s (p.set ch.toNat d) = true := by
 rw [isPl_iff] at hp ⊢
 obtain ⟨c1, c2⟩ := hc
 obtain ⟨d1, d2⟩ := hd
 refine ⟨by simp [hp.1], fun j hj => ?_⟩
 rw [getD_set (by omega)]
 split
 ·rename_i e; subst e; omega
 ·exact hp.2 j hj
end Go.Proofs.YtmefgijobonklaaGreat
namespace Go.Proofs.YtmefgijobonklaaGreat
open Go Tw Pv Mist
abbrev nodeI (d : Dg) (r : Int) : Br := d.nodes.getD r.toNat Br0
abbrev cRank (d : Dg) (r : Int) (k : Nat) : Bool := d.order.getD k 0 == (nodeI d r).var
abbrev w183 (d : Dg) (r i : Int) (x : List (Nat × PE gam)) : PSt gam := ⟨[(1, xi r), (2, .loc 0 0), (5, xi i)] ++ x, [d.ps], []⟩
def z183 (d : Dg) (r : Int) (N : Nat) : Unit ⊕ Nat → Ex × PSt gam
 | .inl _ => (.exit 0, w183 d r N [(14, xl false)])
 | .inr k => (.ret, ⟨[(4, xi k)], [d.ps], []⟩)
def S_Rank (d : Dg) (r : Int) : Int := if decide (r < 0) = true then (d.order.length : Int) else if isL (srch (cRank d r) d.order.length) = true then (d.order.length : Int) else ((getR 0 (srch (cRank d r) d.order.length) : Nat) : Int)
def S_isRef (d : Dg) (r below : Int) : Bool := if decide (r ≥ 0) = true then decide (r < below) else S_rIn (IntKind.i64.wrap (-1 - r)) 0 (IntKind.i64.wrap ((d.ends.length : Int) - 1))
abbrev cLk (d : Dg) (i k : Nat) : Bool := if (!(S_isRef d ((d.nodes.getD i Br0).kids.getD k 0) i)) = true then true else decide (S_Rank d ((d.nodes.getD i Br0).kids.getD k 0) ≤ S_Rank d i)
abbrev ndK (d : Dg) (i : Nat) : Br := d.nodes.getD i Br0
structure DgL (d : Dg) : Prop where
 order : d.order.length ≤ most
 nodes : d.nodes.length ≤ most
 ends : d.ends.length ≤ most
 fine : Fine d.sizes
abbrev cLn (d : Dg) (i : Nat) : Bool := if (!(S_rIn (ndK d i).var 0 (xw d.sizes))) = true then true else if (((ndK d i).kids.length : Int) != d.sizes.getD (ndK d i).var.toNat 0) = true then true else if isL (srch (cLk d i) (ndK d i).kids.length) = true then false else true
theorem var_in {d : Dg} (h : Fine d.sizes) {v : Int} (e : S_rIn v 0 (xw d.sizes) = true) : inR v d.sizes.length := by
 rw [rIn_iff, xw_eq h.lenM] at e
 exact ⟨e.1, by omega⟩
theorem size_len {d : Dg} (h : Fine d.sizes) {v : Int} (e : inR v d.sizes.length) {l : List Int} (hl : (((l.length : Int)) != d.sizes.getD v.toNat 0) = false) : l.length ≤ 12 := by
 have := h.sz _ (getD_mem (s := d.sizes) (k := v.toNat) (by have := e.2; have := e.1; omega))
 have hl : (l.length : Int) = d.sizes.getD v.toNat 0 := by simpa using hl
 omega
theorem m12 {k : Nat} (h : k ≤ 12) : k ≤ most := by unfold most; omega
abbrev cLe (d : Dg) (k : Nat) : Bool := !(vOk (d.ends.getD k V0))
def S_isLoose (d : Dg) : Bool := if isL (srch (cLe d) d.ends.length) = true then (if isL (srch (cLn d) d.nodes.length) = true then S_isRef d d.root d.nodes.length else false) else false
def S_checkLoose (d : Dg) : Int := if (S_frame d.sizes d.order != 0) = true then S_frame d.sizes d.order else if decide ((d.nodes.length : Int) > 6000) = true then 5 else if (!(S_isLoose d)) = true then 4 else 0
theorem most60 {k : Nat} (h : decide ((k : Int) > 6000) = false) : k ≤ most := by simp at h; unfold most; omega
theorem frame_fine {s o : List Int} (h : (S_frame s o != 0) = false) : Fine s := (S_frame_ok.1 (by simpa using h)).1
end Go.Proofs.YtmefgijobonklaaGreat
namespace Go.Proofs.YtmefgijobonklaaGreat
open Go Tw Pv Mist
abbrev endI (r : Int) : Int := IntKind.i64.wrap (-1 - r)
def RefOk (d : Dg) (r : Int) (b : Nat) : Prop := r < b ∧ (r < 0 → inR (endI r) d.ends.length)
structure DgT (d : Dg) : Prop extends DgL d where
 kid : ∀ i, i < d.nodes.length → ∀ k, k < (ndK d i).kids.length → RefOk d ((ndK d i).kids.getD k 0) i
 klen : ∀ i, i < d.nodes.length → (ndK d i).kids.length ≤ 12
 var : ∀ i, i < d.nodes.length → inR (ndK d i).var d.sizes.length
 ksz : ∀ i, i < d.nodes.length → ((ndK d i).kids.length : Int) = d.sizes.getD (ndK d i).var.toNat 0
 root : RefOk d d.root d.nodes.length
structure SrOk (d : Dg) (x : List Int × List Int) : Prop where
 n1 : x.1.Nodup
 n2 : ∀ a ∈ x.1, inR a d.nodes.length
 e1 : x.2.Nodup
 e2 : ∀ a ∈ x.2, inR a d.ends.length
theorem nodup_len : ∀ (N : Nat) (l : List Int), l.Nodup → (∀ a ∈ l, inR a N) → l.length ≤ N
 | 0, [], _, _ => Nat.le_refl _
 | 0, a :: l, _, h => by obtain ⟨h1, h2⟩ := h a (List.mem_cons_self ..); omega
 | N + 1, l, hn, h => by
  have h1 := nodup_len N (l.erase (N : Int)) (hn.erase _) fun a ha => by
   have h2 := (List.Nodup.mem_erase_iff hn).1 ha
   have h3 := h a h2.2
   exact ⟨h3.1, by have := h3.2; have := h2.1; omega⟩
  by_cases hm : (N : Int) ∈ l
  ·rw [List.length_erase_of_mem hm] at h1; omega
  ·rw [List.erase_of_not_mem hm] at h1; omega
theorem SrOk.len {d : Dg} {x : List Int × List Int} (h : SrOk d x) : x.1.length ≤ d.nodes.length ∧ x.2.length ≤ d.ends.length := ⟨nodup_len _ _ h.n1 h.n2, nodup_len _ _ h.e1 h.e2⟩
abbrev ls (l : List Int) : PB gam := .list false false 3 l
end Go.Proofs.YtmefgijobonklaaGreat
namespace Go.Proofs.YtmefgijobonklaaGreat
open Go Tw Pv Mist
theorem isRef_ok {d : Dg} (hm : d.ends.length ≤ most) {r : Int} {b : Nat} (h : S_isRef d r b = true) : RefOk d r b := by
 unfold S_isRef at h
 by_cases c : 0 ≤ r
 ·rw [if_pos (by simpa using c)] at h
  exact ⟨by simpa using h, fun h2 => by omega⟩
 ·rw [if_neg (by simpa using c), rIn_iff] at h
  have e : IntKind.i64.wrap ((d.ends.length : Int) - 1) = (d.ends.length : Int) - 1 := by unfold most at hm; exact wrap_nn (by omega) (by omega)
  rw [e] at h
  obtain ⟨h1, h2⟩ := h
  exact ⟨by omega, fun _ => ⟨h1, show endI r < _ by show IntKind.i64.wrap (-1 - r) < _; omega⟩⟩
theorem loose_ok {d : Dg} (h : DgL d) (hl : S_isLoose d = true) : DgT d := by
 unfold S_isLoose at hl
 split at hl
 ·split at hl
  ·rename_i h1 h2
   have h2 := srch_ok.1 h2
   have key : ∀ i, i < d.nodes.length → S_rIn (ndK d i).var 0 (xw d.sizes) = true ∧ (((ndK d i).kids.length : Int) != d.sizes.getD (ndK d i).var.toNat 0) = false ∧ isL (srch (cLk d i) (ndK d i).kids.length) = true := fun i hi => by
    have := h2 i hi
    unfold cLn at this
    split at this
    ·cases this
    split at this
    ·cases this
    split at this
    ·rename_i a b c; exact ⟨by simpa using a, by simpa using b, c⟩
    ·cases this
   refine ⟨h, fun i hi k hk => ?_, fun i hi => ?_, fun i hi => ?_, fun i hi => ?_, isRef_ok h.ends hl⟩
   ·have := srch_ok.1 (key i hi).2.2 k hk
    unfold cLk at this
    split at this
    ·cases this
    ·rename_i a; exact isRef_ok h.ends (by simpa using a)
   ·exact size_len h.fine (var_in h.fine (key i hi).1) (key i hi).2.1
   ·exact var_in h.fine (key i hi).1
   ·simpa using (key i hi).2.1
  ·cases hl
 ·cases hl
theorem checkLoose_ok {d : Dg} (ho : d.order.length ≤ most) (he : d.ends.length ≤ most) (h : (S_checkLoose d != 0) = false) : DgT d ∧ d.nodes.length ≤ 6000 := by
 unfold S_checkLoose at h
 split at h
 ·rename_i h1; simp at h h1; exact absurd h h1
 split at h
 ·cases h
 split at h
 ·cases h
 rename_i h1 h2 h3
 have h2 : decide ((d.nodes.length : Int) > 6000) = false := by simpa using h2
 exact ⟨loose_ok ⟨ho, most60 h2, he, frame_fine (by simpa using h1)⟩ (by simpa using h3), by simp at h2; omega⟩
end Go.Proofs.YtmefgijobonklaaGreat
namespace Go.Proofs.YtmefgijobonklaaGreat
open Go Tw Pv Mist
def atF (d : Dg) (p : List Int) : Nat → Int → Int
 | 0, r => r
 | F + 1, r => if r < 0 then r else atF d p F ((nodeI d r).kids.getD (p.getD (nodeI d r).var.toNat 0).toNat 0)
abbrev atR (d : Dg) (p : List Int) : Int := atF d p 6001 d.root
structure DgU (d : Dg) : Prop where
 t : DgT d
 nodes : d.nodes.length ≤ 6000
 ok : (S_checkLoose d != 0) = false
theorem DgU.of {d : Dg} (ho : d.order.length ≤ most) (he : d.ends.length ≤ most) (h : (S_checkLoose d != 0) = false) : DgU d := ⟨(checkLoose_ok ho he h).1, (checkLoose_ok ho he h).2, h⟩
end Go.Proofs.YtmefgijobonklaaGreat
namespace Go.Proofs.YtmefgijobonklaaGreat
open Go Tw Pv Mist
theorem ints_of {A : Nat → Prop} {m : List MB} {h : List HB} {l : List Int} {cs : List TV} (hr : RowsR X0 Tryz.prog A m h 3 l cs 0 1) (hc : cs.length = l.length) : cs = l.map fun n => TV.int .i64 n := by
 apply List.ext_getElem (by simp [hc])
 intro j h1 h2
 have hj : j < l.length := by omega
 have := hr.2.2 j l[j] 0 (.int .i64 l[j]) cs[j] (List.getElem?_eq_getElem hj) rfl (by rw [List.getElem?_eq_some_iff]; exact ⟨by omega, by simp⟩)
 rw [this.int_inv]; simp
theorem intsT_map : ∀ l : List Int, intsT (l.map fun n => TV.int .i64 n) = some l
 | [] => rfl
 | a :: l => by simp [intsT, intsT_map l]
theorem rows_ints {A : Nat → Prop} {m : List MB} {h : List HB} (l : List Int) : RowsR X0 Tryz.prog A m h 3 l (l.map fun n => TV.int .i64 n) 0 1 := by
 refine ⟨fun j a _ => rfl, by simp only [List.length_map, Nat.mul_one, Nat.zero_add]; exact Nat.le_refl _, fun j a i c v hj hi hv => ?_⟩
 have hj2 := (List.getElem?_eq_some_iff.1 hj).1
 cases i with
 | zero =>
  have hi : some (PV.int .i64 a) = some c := hi
  cases hi
  have hj : (l : List Int)[j]? = some a := hj
  rw [Nat.zero_add, Nat.mul_one, Nat.add_zero, List.getElem?_map, hj] at hv
  have hv : some (TV.int .i64 a) = some v := hv
  cases hv
  exact .int _ _
 | succ i => have hi : ([] : List (PV gam))[i]? = some c := hi; simp at hi
theorem szInt : sizeT Tryz.prog 3 = some 1 := by kernel_rfl
theorem ext_sort (n : Nat) (x : TV) (h : List HB) : apN Tryz.prog T LL (n + 1) (.fn 149 [] []) [x] h = sortT 149 (.fn 149 [] []) [x] h := rfl
theorem sort_at {f c : Nat} {h : List HB} {kk kk' : BK} {cs : List TV} {l : List Int} {e : Bool} (hb : h[c]? = some (.cells kk cs)) (hk : wrKind kk true = some kk') (hcs : cs = l.map fun n => TV.int .i64 n) (h0 : 0 < l.length) (h1 : l.length ≤ 2 ^ 20) :
  sortT f (.fn f [] []) [.slc c 0 l.length l.length 1 e] h = some (.tup [], h.set c (.cells kk' ((sortI l).map fun n => TV.int .i64 n)), [c]) := by
 have hcl : cs.length = l.length := by rw [hcs, List.length_map]
 have him : intsT cs = some l := by rw [hcs]; exact intsT_map l
 generalize l.length = n at *
 obtain ⟨j, rfl⟩ : ∃ j, n = j + 1 := ⟨n - 1, by omega⟩
 simp only [sortT, sortG, if_true, hb, hk, him, hcl, h0, h1, and_self]
theorem sSort {n : Nat} {k ex : Bool} (l : List Int) (hl : l.length ≤ 2 ^ 20) : Sim X0 Tryz.prog (ApN (n + 1)) (.fn 149 [] []) [.own 0] [.list k ex 3 l] (.tup []) [.list k ex 3 (sortI l)] := by
 intro A m h tf txs hr hf hx
 obtain ⟨x, r, rfl, h1, h2⟩ := hx.inv
 have := h2.inv0
 subst this
 obtain ⟨g1, g2⟩ := own_inv hr (i := 0) (k := k) (ex := ex) (t := 3) (l := l) rfl h1
 have htf := hf.fn_inv
 subst htf
 show ∃ w h1 ws m1, apN Tryz.prog T LL (n + 1) _ _ h = _ ∧ _
 rw [ext_sort]
 have hnil : sortI ([] : List Int) = [] := by simp [sortI]
 have hE : ∀ h0 : (l : List Int) = [], sortI l = l := fun h0 => by rw [h0]; exact hnil
 rcases lr_inv g2 with ⟨h0, rfl⟩ | ⟨h0, b, off, sz, cs, rfl, p0, p1, p2, p3, p4⟩ | ⟨p1, c, sz, e, kk, cs, rfl, p2, p3, p4, p5, p6, p7, p8, p9⟩
 ·rw [hE h0]; exact ⟨.tup [], h, [], m, rfl, hr, .tup rfl (fun i x y hx => by simp at hx), .refl, .refl, fun b hb => by cases hb⟩
 ·rw [hE h0]; exact ⟨.tup [], h, [], m, rfl, hr, .tup rfl (fun i x y hx => by simp at hx), .refl, .refl, fun b hb => by cases hb⟩
 ·rw [szInt] at p2
  cases p2
  have p8 : cs.length = (l : List Int).length * 1 := p8
  have hcl : cs.length = l.length := by omega
  have hcs := ints_of p9 hcl
  have hn0 : 0 < l.length := by cases l with | nil => exact absurd rfl p1 | cons => simp
  obtain ⟨kk', hkk, hkr', hko⟩ := wrKind_wr p5
  have hlt := (List.getElem?_eq_some_iff.1 p4).1
  have hown : (MB.lst (TV.slc c 0 l.length l.length 1 e)).own = some c := by simp only [MB.own]; rw [if_neg (by omega)]
  have hsl : (sortI l).length = l.length := by unfold sortI; rw [List.length_mergeSort]
  have hne : sortI l ≠ [] := fun e0 => by rw [e0] at hsl; simp at hsl; omega
  obtain ⟨q1, q2⟩ := hr.set (i := 0) (c := c) (pb := .list k ex 3 (sortI l)) (hb := .cells kk' ((sortI l).map fun n => TV.int .i64 n)) g1 hown
   (fun cs2 hc2 => ⟨_, by simp only [blkCells]; rw [List.getElem?_set_self hlt], by
    simp only [blkCells, p4, Option.some.injEq] at hc2; subst hc2; rw [List.length_map, hsl, hcl]; exact Nat.le_refl _⟩)
   (fun hF => by
    have r := LR.some (X := X0) (P := Tryz.prog) (A := AA A m) (m := m) (k := k) (ex := ex) (e := e) (t := 3) (b := c) (kk := kk') hne szInt (by decide) (by rw [List.getElem?_set_self hlt]) hkr' (fun e0 => hko (p6 e0)) p7 (by rw [List.length_map, Nat.mul_one]; rfl) (rows_ints (sortI l))
    have hsl2 : @List.length (X0.Γ 3) (sortI l) = l.length := hsl
    rw [hsl2] at r
    exact r)
  refine ⟨.tup [], _, [c], m, ?_, q1, .tup rfl (fun i x y hx => by simp at hx), q2, .refl, fun d hd => ?_⟩
  ·exact sort_at p4 hkk hcs hn0 hl
  ·simp at hd; subst hd; exact own_mem g1 hown
end Go.Proofs.YtmefgijobonklaaGreat
namespace Pv
open Go Tw
variable {X : Cod} {P : Program}
theorem Con.sim0 (hX : CodOk X P) {call : CallT} {f : FuncId} {xs vs : List (PV X.Γ)} {v v' : PV X.Γ} {ext ext' : List (PB X.Γ)} (hc : Con X P call f vs v ext) (hv : views [] ([] ++ xs ++ []) = some vs) (hs : shiftBs X 0 ext = some ext')
  (e : shift 0 v = v') (he : (if hasL v || ext.any (hasB X) then goneAll (owns.ownss ([] ++ xs ++ [])) [] else []) = ([] : List (PB X.Γ))) : Sim X P call (.fn f [] []) xs [] v' ext' := by
 subst e
 intro A m h tf txs hr hf hx
 have htf := hf.fn_inv
 subst htf
 obtain ⟨w, h', m1, c1, c2, c3, c4, c5⟩ := con_use hX hc hr hv hs (t1 := []) (t3 := []) .nil hx .nil
 rw [he] at c2
 exact ⟨w, h', [], m1, c1, c2, c3, c4, c5, fun b hb => by cases hb⟩
end Pv
namespace Go.Proofs.YtmefgijobonklaaGreat
open Go Tw Pv Mist
abbrev lsI (l : List Int) : List (PB gam) := [.list false false 3 l]
theorem clone_nil (n : Nat) (h : List HB) : funN Tryz.prog T (ApN n) LL 148 [.nil .slc] h = some (.nil .slc, h, []) := by kernel_rfl
theorem clone_emp (n b off cap : Nat) (ex : Bool) (h : List HB) : funN Tryz.prog T (ApN n) LL 148 [.slc b off 0 cap 1 ex] h = some (.slc h.length 0 0 0 1 true, h ++ [.cells .own []], []) := by kernel_rfl
theorem clone0 {n : Nat} : Con X0 Tryz.prog (ApN (n + 1)) 148 [.lst 3 ([] : List Int) false] (.own 0) (lsI []) := by
 intro A h first args cap hup hv
 obtain ⟨x, r, e, h1, h2⟩ := hv.inv
 have := h2.inv0
 subst this
 have hun : apN Tryz.prog T LL (n + 1) (.fn 148 first cap) args h = funN Tryz.prog T (ApN n) LL 148 [x] h := by
  rw [← e]
  show apN Tryz.prog T LL (n + 1) _ _ _ = _
  rw [apN, if_neg (by decide)]
 rcases lst_inv0 h1 with rfl | ⟨b, off, cap', sz, ex, cs, rfl, a1, a2, a3, a4, a5⟩
 ·exact ⟨.nil .slc, h, [.lst (.nil .slc)], by rw [← clone_nil n h, ← hun], hr_empty hup .nil rfl, .own rfl rfl, ⟨Nat.le_refl _, fun _ _ _ => rfl, fun b hb => by simp [blks, MB.own] at hb, fun b cs hc => ⟨cs, hc, Nat.le_refl _⟩⟩⟩
 ·rw [szInt] at a3
  cases a3
  have hc : blkCells (h ++ [HB.cells .own []]) h.length = some [] := by unfold blkCells; rw [List.getElem?_append_right (Nat.le_refl _), Nat.sub_self]; rfl
  refine ⟨.slc h.length 0 0 0 1 true, h ++ [.cells .own []], [.lst (.slc h.length 0 0 0 1 true)], by rw [← clone_emp n b off cap' ex h, ← hun], hr_empty (fun b hb => hup b (by simp at hb; omega)) (.emp ⟨hup _ (Nat.le_refl _), by simp [blks, MB.own]⟩ hc (Nat.le_refl _) szInt (by decide)) (by simp [MB.own]), .own rfl rfl, ⟨by simp, fun b hb _ => by rw [List.getElem?_append_left hb], fun b hb => by simp [blks, MB.own] at hb, fun b cs hc => ⟨cs, ?_, Nat.le_refl _⟩⟩⟩
  rw [blkCells_same (List.getElem?_append_left (blkCells_lt hc)), hc]
noncomputable def oc148 : Orc gam := orcE 148 (a1 isA) (fun _ => .own 0) (fun p => lsI p) (fun p => [p.length ≤ most]) oc35
theorem gc148 : Gd oc148 := gc35.deepE 0 fun n _ hO p hp => by
 have hl : p.length ≤ most := hp _ (.head _)
 by_cases h : p = []
 ·subst h; exact clone0
 ·have h2 : ([] : List Int).length + p.length ≤ most := by simpa using hl
  exact Con.gs hX (fn_ex hX (hO n (by omega)) (v := .own 1) (H := [.gone, .list true false 3 p]) (by kernel_rfl) (.o h (.b (rfl : false = false) (.o h2 .er)))) [.gc [1], .flag 0] rfl
abbrev w151 (m : Nat) (i : Int) (l : List Int) (x : List (Nat × PE gam)) : PSt gam := ⟨[(3, xo 0), (7, xi m), (8, xi i)] ++ x, [], [.list true true 3 l]⟩
theorem iota_set (m : Nat) : foldN (fun k (l : List Int) => l.set k (k : Int)) m 0 (List.replicate m 0) = iotaI m := by
 have := foldN_inv (g := fun k (l : List Int) => l.set k (k : Int)) (m := m) (k := 0) (s := List.replicate m 0) (fun k l => l.length = m ∧ ∀ j, j < k → l.getD j 0 = (j : Int)) ⟨by simp, by simp⟩ (fun j l _ hj h => ⟨by simp [h.1], fun i hi => by
  rw [Mist.getD_set (by omega)]
  split
  ·rename_i e; rw [e]
  ·exact h.2 i (by omega)⟩)
 rw [eq_getD (d := 0) (by rw [this.1, iotaI_len])]
 intro j hj
 have hj2 : j < m := by have := this.1; omega
 rw [this.2 j (by omega)]
 simp [iotaI, List.getD, List.getElem?_map, List.getElem?_range, hj2]
theorem l151 {n : Nat} {orc : Orc gam} (hO : Ok n orc) (m : Nat) (hm : m ≤ most) : Lp n 151 0 (w151 m 0 (List.replicate m 0) []) (.exit 0) (w151 m m (iotaI m) [(9, xl false)]) := by
 rw [← iota_set]
 exact foldL (σ := List Int) (N := m) (g := fun k (l : List Int) => l.set k (k : Int)) (s0 := List.replicate m 0) (st := fun i (l : List Int) => w151 m i l []) (fin := fun (l : List Int) => w151 m m l [(9, xl false)]) (fun _ (l : List Int) => l.length = m) (by kernel_rfl) hm (by simp) (fun k l _ h => by simp [h]) (fun k l hk hl j e p g => round hX hO (by kernel_rfl) (.b (lt_nat hk) (.o (inR_nat (show k < l.length by omega)) (.go g)))) (fun l _ => round hX hO (by kernel_rfl) (.b (lt_no m) .ex))
noncomputable def oc151 : Orc gam := orcF 151 (a1 iA) isA (fun p => iotaI p.toNat) (fun p => [0 ≤ p, p ≤ (most : Int)]) oc148
theorem gc151 : Gd oc151 := gc148.add fun n hO p hp => by
 have h0 : 0 ≤ p := hp _ (.head _)
 have h1 : p ≤ (most : Int) := hp _ (.tail _ (.head _))
 obtain ⟨m, rfl⟩ : ∃ m : Nat, p = (m : Int) := ⟨p.toNat, by omega⟩
 exact fn_is hX hO (by kernel_rfl) (.o (rfl : (m : Int) = (m : Int)) (.o h0 (.o h1 (.w (l151 hO m (by omega)) .rr))))
abbrev w150 (a b : List Int) (i : Int) (x : List (Nat × PE gam)) : PSt gam := ⟨[(0, xL 3 a), (1, xL 3 b), (12, xi a.length), (13, xi i)] ++ x, [], []⟩
def z150 (a b : List Int) : Unit ⊕ Nat → Ex × PSt gam
 | .inl _ => (.exit 0, w150 a b a.length [(14, xl false)])
 | .inr _ => (.ret, ⟨[(4, xl false)], [], []⟩)
theorem l150 {n : Nat} {orc : Orc gam} (hO : Ok n orc) (a b : List Int) (hl : a.length ≤ most) (h : a.length = b.length) : Lp n 150 0 (w150 a b 0 []) (z150 a b (srch (cSame a b) a.length)).1 (z150 a b (srch (cSame a b) a.length)).2 :=
 searchL (st := fun i _ => w150 a b i []) (fun _ _ => True) (by kernel_rfl) hl trivial (fun k s m hk _ ih => round hX hO (by kernel_rfl) (.b (lt_nat hk) (.o (inR_nat hk) (.o (inR_nat (h ▸ hk)) (.ls (.ou nofun) (.nx (ih _ trivial))))))) (fun s _ => round hX hO (by kernel_rfl) (.b (lt_no a.length) (.ou nofun)))
noncomputable def oc150 : Orc gam := orcF 150 (a2 isA isA) tA (fun p => decide (p.1 = p.2)) (fun p => [p.1.length ≤ most]) oc151
theorem gc150 : Gd oc150 := gc151.add fun n hO p hp => fn_is hX hO (by kernel_rfl) (.s (fun h => .v false (len_ne h).symm) fun h => .z (c := isL (srch (cSame p.1 p.2) p.1.length)) (fun h2 => .w (exInl (l150 hO p.1 p.2 (hp _ (.head _)) (len_eq h)) () h2) (.v true (by rw [← cSame_iff (len_eq h), h2]))) fun h2 => .w (exInr (l150 hO p.1 p.2 (hp _ (.head _)) (len_eq h)) 0 h2) (.v false (by rw [← cSame_iff (len_eq h), h2])))
noncomputable def oc147 : Orc gam := orcF 147 (a3 iA iA isA) tA (fun p => S_within p.2.2 p.1 p.2.1) (fun p => [p.2.2.length ≤ most]) oc150
theorem gc147 : Gd oc147 := gc150.deep 3 fun n hn hO p hp => by
 have h1 : ∀ x, Sim X0 Tryz.prog (ApN (n - 3 + 1)) (.fn 196 [] [.ptr 0 0 1, .ptr 1 0 1]) [.int .i64 x] [.cells [.int .i64 p.1], .cells [.int .i64 p.2.1]] (tA.put (S_within1 x p.1 p.2.1)) [.cells [.int .i64 p.1], .cells [.int .i64 p.2.1]] := fun x => sim_is hX ok0 (first := []) (by kernel_rfl) (.ssh (fun _ => .sr) (fun _ => .sr))
 obtain ⟨n, rfl⟩ : ∃ k, n = k + 3 := ⟨n - 3, by omega⟩
 rw [show n + 3 - 3 + 1 = n + 1 by omega] at h1
 have h2 := s186 (n := n + 2) (by omega) (g := fun x => S_within1 x p.1 p.2.1) h1 p.2.2 (hp _ (.head _))
 exact fn_is hX (hO _ (by omega)) (by kernel_rfl) (.k h2 (.v (!(S_ContainsFuncI (fun x => S_within1 x p.1 p.2.1) p.2.2)) (by rw [containsI]; rfl)))
def prodM (s : List Int) : Int := foldN (fun k n => IntKind.i64.wrap (n * s.getD k 0)) s.length 0 1
theorem prodI_le : ∀ {s : List Int}, SzOk s → prodI s ≤ 12 ^ s.length
 | [], _ => by decide
 | a :: t, h => by
  have h1 := prodI_le h.tail
  have h2 := prodI_pos h.tail
  have h3 := h a (.head _)
  have h4 : a * prodI t ≤ 12 * prodI t := Int.mul_le_mul_of_nonneg_right h3.2 (by omega)
  show a * prodI t ≤ 12 ^ (t.length + 1)
  rw [Int.pow_succ]
  omega
theorem pow12 : ∀ {n : Nat}, n ≤ 6 → (12 : Int) ^ n ≤ 2985984 := by decide
theorem prodM_eq {s : List Int} (h : SzOk s) (hl : s.length ≤ 6) : prodM s = prodI s := by
 have := foldN_inv (g := fun k n => IntKind.i64.wrap (n * s.getD k 0)) (m := s.length) (k := 0) (s := 1) (fun k n => n = prodI (s.take k)) (by simp [prodI]) (fun j n _ hj e => by
  have hj2 : j < s.length := by omega
  have e2 : prodI (s.take (j + 1)) = n * s.getD j 0 := by
   rw [List.take_succ_eq_append_getElem hj2, prodI_app, e]; simp [prodI, List.getD, List.getElem?_eq_getElem hj2]
  have h1 := prodI_take_le h (j + 1)
  have h2 : 1 ≤ prodI (s.take (j + 1)) := prodI_pos fun a ha => h a (List.mem_of_mem_take ha)
  have h3 := prodI_le h
  have h4 := pow12 hl
  show IntKind.i64.wrap (n * s.getD j 0) = _
  rw [e2] at h1 h2 ⊢
  exact wrap_nn (by omega) (by omega))
 rw [prodM, this]
 simp
abbrev w104 (a b : List Int) (p i : Int) (x : List (Nat × PE gam)) : PSt gam := ⟨[(0, xL 3 a), (1, xL 3 b), (5, xi p), (17, xL 3 a), (18, xi a.length), (19, xi i)] ++ x, [], []⟩
theorem l104 {n : Nat} {orc : Orc gam} (hO : Ok n orc) (a b : List Int) (hl : a.length ≤ most) : Lp n 104 0 (w104 a b 1 0 []) (.exit 1) (w104 a b (prodM a) a.length [(20, xl false)]) :=
 foldE (st := fun i n => w104 a b n i []) (fin := fun n => w104 a b n a.length [(20, xl false)]) (fun _ _ => True) (by kernel_rfl) hl LLm trivial (fun _ _ _ _ => trivial) (fun k s hk _ n e p h => round hX hO (by kernel_rfl) (.b (lt_nat hk) (.o (inR_nat hk) (.go h)))) (fun s _ => round hX hO (by kernel_rfl) (.b (lt_no a.length) .ex))
theorem sClone {n : Nat} (hO : Ok n oc147) (l : List Int) (hl : l.length ≤ most) : Sim X0 Tryz.prog (ApN n) (.fn 148 [] []) [.lst 3 l false] [] (.own 0) (lsI l) :=
 Con.sim0 hX (hO 148 [.lst 3 l false] (.own 0) (lsI l) [l.length ≤ most] (by kernel_rfl) (List.forall_mem_singleton.2 hl)) rfl rfl rfl rfl
theorem iotaI_pw (n : Nat) : (iotaI n).Pairwise fun a b => decide (a ≤ b) = true := by
 unfold iotaI
 rw [List.pairwise_map]
 exact List.pairwise_lt_range.imp fun h => by simp; omega
theorem sortI_ord {n : Nat} {o : List Int} : decide (sortI o = iotaI n) = isOrd n o := by
 rw [Bool.eq_iff_iff, decide_eq_true_eq]
 have h2 := iotaI_ord n
 have hp : (sortI o).Perm o := List.mergeSort_perm _ _
 constructor
 ·intro h
  rw [h] at hp
  unfold isOrd at h2 ⊢
  rw [decide_eq_true_eq] at h2 ⊢
  exact ⟨by rw [← hp.length_eq, h2.1], fun a ha => h2.2.1 a (hp.mem_iff.2 ha), hp.nodup_iff.1 h2.2.2⟩
 ·intro h
  unfold isOrd at h h2
  rw [decide_eq_true_eq] at h h2
  have e : o.Perm (iotaI n) := (List.perm_ext_iff_of_nodup h.2.2 h2.2.2).2 fun a => by
   have hm : ∀ x, 0 ≤ x ∧ x < (n : Int) → x ∈ iotaI n := fun x hx => by
    unfold iotaI
    rw [List.mem_map]
    exact ⟨x.toNat, by rw [List.mem_range]; omega, by omega⟩
   constructor
   ·exact fun ha => hm a (h.2.1 a ha)
   ·intro ha
    by_cases hc : a ∈ o
    ·exact hc
    ·have := List.Nodup.length_le_of_subset (l₁ := a :: o) (l₂ := iotaI n) (List.nodup_cons.2 ⟨hc, h.2.2⟩) (fun x hx => by
      rcases List.mem_cons.1 hx with rfl | hx
      ·exact ha
      ·exact hm x (h.2.1 x hx))
     rw [iotaI_len] at this
     simp at this
     omega
  refine List.Perm.eq_of_pairwise (le := fun a b => decide (a ≤ b) = true) (fun a b _ _ h1 h2 => by simp at h1 h2; omega) ?_ (iotaI_pw n) (hp.trans e)
  exact List.pairwise_mergeSort (fun a b c h1 h2 => by simp at h1 h2 ⊢; omega) (fun a b => by simp; omega) o
def S_nframe (s o : List Int) : Int := if decide ((s.length : Int) > 6) = true then 5 else if (!(S_within s 1 12)) = true then 3 else if decide (prodM s > 2000) = true then 5 else if (!(decide (sortI o = iotaI s.length))) = true then 4 else 0
theorem S_nframe_eq (s o : List Int) : S_nframe s o = S_frame s o := by
 rw [S_frame_eq]
 unfold S_nframe
 rw [sortI_ord]
 by_cases h1 : 6 < s.length
 ·rw [if_pos (by simp; omega), if_pos h1]
 ·rw [if_neg (by simp; omega), if_neg h1]
  have hw : S_within s 1 12 = decide (SzOk s) := by
   unfold S_within
   rw [Bool.eq_iff_iff, Bool.not_eq_true', List.any_eq_false, decide_eq_true_eq]
   refine forall_congr' fun a => forall_congr' fun _ => ?_
   unfold S_within1
   split
   ·rename_i h; simp at h ⊢; omega
   ·rename_i h; simp at h ⊢; omega
  rw [hw]
  by_cases h2 : SzOk s
  ·rw [if_neg (by simp [h2]), if_pos h2, prodM_eq h2 (by omega)]
   simp only [decide_eq_true_eq, Int.not_lt, gt_iff_lt]
   split
   ·rfl
   ·cases isOrd s.length o <;> simp
  ·rw [if_pos (by simp [h2]), if_neg h2]
noncomputable def oc104 : Orc gam := orcF 104 (a2 isA isA) iA (fun p => S_frame p.1 p.2) (fun p => [p.1.length ≤ most, p.2.length ≤ 2 ^ 20]) oc147
theorem gc104 : Gd oc104 := gc147.deep 1 fun n hn hO p hp => by
 obtain ⟨n, rfl⟩ : ∃ k, n = k + 1 := ⟨n - 1, by omega⟩
 have hO := hO (n + 1) (by omega)
 have h1 : p.1.length ≤ most := hp _ (.head _)
 have h2 : p.2.length ≤ 2 ^ 20 := hp _ (.tail _ (.head _))
 have h3 : p.2.length ≤ most := by unfold most; omega
 have h4 : (iotaI p.1.length).length ≤ most := by rw [iotaI_len]; exact h1
 have h5 : (sortI p.2).length ≤ most := by unfold sortI; rw [List.length_mergeSort]; exact h3
 show Con X0 Tryz.prog _ _ _ (iA.put (S_frame p.1 p.2)) _
 rw [← S_nframe_eq]
 exact fn_is hX hO (by kernel_rfl) (.ss .rr (.o h1 (.ss .rr (.w (l104 hO p.1 p.2 h1) (.ss .rr (.fr [] (sClone hO p.2 h3) (.fr [0] (sSort (n := n) (k := false) (ex := false) p.2 h2) (.o (show (0 : Int) ≤ (p.1.length : Int) by omega) (.o (show (p.1.length : Int) ≤ (most : Int) by omega) (.o h5 (.ss .rr .rr)))))))))))
end Go.Proofs.YtmefgijobonklaaGreat
namespace Go.Proofs.YtmefgijobonklaaGreat
open Go Tw Pv Mist
structure Lo where
 s : List Int
 o : List Int
 d : Dg
abbrev Lo.ps (l : Lo) : List (PV gam) := [.lst 3 l.s false, .lst 3 l.o false] ++ l.d.ps
theorem any_not {α : Type} (l : List α) (g : α → Bool) : (!(l.any fun x => !(g x))) = l.all g := by
 induction l with
 | nil => rfl
 | cons a l ih => simp only [List.any_cons, List.all_cons, Bool.not_or, Bool.not_not, ih]
abbrev boxF (f : Nat) (a : List (PV gam)) : List (PB gam) := [.cells [.fn f a []]]
end Go.Proofs.YtmefgijobonklaaGreat
namespace Pv
open Go Tw
structure KeyC (X : Cod) (P : Program) (kt : TypeId) (α : Type) [DecidableEq α] where
 pv : α → PV X.Γ
 tv : α → TV
 v : α → Value
 hp : ∀ x, toT (pv x) = some (tv x)
 ht : ∀ x, (tv x).toV = some (v x)
 hc : ∀ em x, pureRun P (Instr.checkKey em 10000 kt (v x)) = some ()
 hf : ∀ (x : α) (l : List α), pureRun P (Instr.findKey kt (v x) (l.map fun y => ⟨v y, .bool false, 0⟩)) = some ((l.findIdx? fun y => decide (x = y)).map fun i => (i, .bool false))
variable {X : Cod} {P : Program} {kt : TypeId} {α : Type} [DecidableEq α] (C : KeyC X P kt α)
abbrev KeyC.es (l : List (α × PV X.Γ)) : List (PV X.Γ × PV X.Γ) := l.map fun e => (C.pv e.1, e.2)
theorem KeyC.tvs : ∀ l : List α, Tw.toVs (l.map C.tv) = some (l.map C.v)
 | [] => rfl
 | a :: l => by
  show (match (C.tv a).toV, Tw.toVs (l.map C.tv) with | some v, some vs => some (v :: vs) | _, _ => none) = _
  rw [C.ht, KeyC.tvs l]; rfl
theorem KeyC.find (x : α) (l : List α) : findK P kt (C.v x) (l.map C.tv) = some (l.findIdx? fun y => decide (x = y)) := by
 unfold findK
 rw [C.tvs]
 simp only []
 rw [pureRun_bind, C.hc, Option.bind_some, List.map_map]
 show Option.map _ (pureRun P (Instr.findKey kt (C.v x) (l.map fun y => ⟨C.v y, .bool false, 0⟩))) = _
 rw [C.hf]
 cases l.findIdx? fun y => decide (x = y) <;> rfl
theorem KeyC.pk : ∀ l : List (α × PV X.Γ), pkeys X (C.es l) = some ((l.map (·.1)).map C.tv)
 | [] => rfl
 | a :: l => by
  show (match toT (C.pv a.1), pkeys X (C.es l) with | some v, some vs => some (v :: vs) | _, _ => none) = _
  rw [C.hp, KeyC.pk l]; rfl
theorem KeyC.ck (x : α) : ∃ kv, (C.tv x).toV = some kv ∧ pureRun P (Instr.checkKey false 10000 kt kv) = some () := ⟨C.v x, C.ht x, C.hc false x⟩
theorem KeyC.fresh {l : List (α × PV X.Γ)} {x : α} (h : x ∉ l.map (·.1)) : FreshP X P kt (C.es l) (C.tv x) := by
 refine ⟨C.v x, _, C.ht x, C.pk l, ?_⟩
 rw [C.find]
 rw [List.findIdx?_eq_none_iff.2]
 intro y hy
 simp only [decide_eq_false_iff_not]
 intro e; exact h (e ▸ hy)
theorem KeyC.found {l : List (α × PV X.Γ)} {x : α} {v : PV X.Γ} (hn : (l.map (·.1)).Nodup) (h : (x, v) ∈ l) : FoundP X P kt (C.es l) (C.tv x) v := by
 obtain ⟨j, hj, e⟩ := List.mem_iff_getElem.1 h
 refine ⟨C.v x, _, j, C.pv x, C.ht x, C.pk l, ?_, ?_⟩
 ·rw [C.find]
  congr 1
  rw [List.findIdx?_eq_some_iff_getElem]
  refine ⟨by simpa using hj, by simp [e], fun i hi => ?_⟩
  simp only [List.getElem_map, decide_eq_true_eq]
  intro e2
  have := (List.getElem_inj (i := i) (j := j) (h₀ := by simp; omega) (h₁ := by simpa using hj) hn).1 (by simp [e, ← e2])
  omega
 ·simp [KeyC.es, List.getElem?_eq_getElem hj, e]
theorem pr_und {t : TypeId} {d : TypeDesc} (h : P.underlying t = some d) : pureRun P (underlying t) = some d := by
 simp only [underlying, pureRun_bind]
 show Option.bind (some P) _ = _
 simp [h]
 rfl
theorem ask_ok {v : α → Value} (he : ∀ x y, pureRun P (Op.equal kt (v x) (v y)) = some (decide (x = y))) (x : α) : ∀ (l : List α) (i : Nat), pureRun P (Instr.findAsking kt (v x) (l.map fun y => ⟨v y, .bool false, 0⟩) i) = some ((l.findIdx? fun y => decide (x = y)).map fun j => (j + i, .bool false))
 | [], i => rfl
 | y :: l, i => by
  simp only [List.map_cons, Instr.findAsking]
  rw [pureRun_bind, he, Option.bind_some, List.findIdx?_cons]
  cases decide (x = y) with
  | true => simp only [if_true, Option.map_some, Nat.zero_add]; rfl
  | false =>
   simp only [Bool.false_eq_true, if_false]
   rw [ask_ok he x l (i + 1)]
   cases l.findIdx? fun y => decide (x = y) with
   | none => rfl
   | some j => simp; omega
end Pv
namespace Tw
open Go
section
variable {P : Program}
def eqIt (d : Nat) (e : TypeId) (c : Nat) (xs ys : Array Value) : List Nat → Sem Bool
 | [] => pure true
 | i :: is => do
  let a ← part e xs (i * c)
  let b ← part e ys (i * c)
  let r ← Op.equalIn d e a b
  if (!r) = true then pure false else eqIt d e c xs ys is
theorem pr_equalIn_array (d : Nat) {t e : TypeId} {n c : Nat} (xs ys : Array Value) (hu : P.underlying t = some (.array n e)) (hs : pureRun P (sizeOf e) = some c) :
  pureRun P (Op.equalIn (d + 1) t (.agg xs) (.agg ys)) = pureRun P (eqIt d e c xs ys (List.range' 0 n)) := by
 have hu' : pureRun P (underlying t) = some (.array n e) := by
  simp only [underlying, pureRun_bind]
  have : pureRun P program = some P := rfl
  simp [this, hu, pureRun]
  rfl
 simp only [Op.equalIn, pureRun_bind, hu', Option.bind_some, hs]
 simp only [Std.Legacy.Range.forIn_eq_forIn_range', Std.Legacy.Range.size, Nat.sub_zero, Nat.add_one_sub_one, Nat.div_one]
 generalize List.range' 0 n = is
 clear hu hu' hs
 induction is with
 | nil => simp [eqIt, pureRun, pureRun_bind]; rfl
 | cons j is ih =>
  simp only [List.forIn_cons, eqIt, pureRun_bind] at ih ⊢
  generalize pureRun P (part e xs (j * c)) = r1
  cases r1 with
  | none => simp
  | some a =>
   simp only [Option.bind_some]
   generalize pureRun P (part e ys (j * c)) = r2
   cases r2 with
   | none => simp
   | some b =>
    simp only [Option.bind_some]
    generalize pureRun P (Op.equalIn d e a b) = r3
    cases r3 with
    | none => simp
    | some r =>
     cases r with
     | false => simp only [Option.bind_some, Bool.not_false, if_true]; rfl
     | true => simp only [Option.bind_some, Bool.not_true, Bool.false_eq_true, if_false]; exact ih
end
end Tw
namespace Go.Proofs.YtmefgijobonklaaGreat
open Go Tw Pv Mist
abbrev oI (k ex : Bool) (l : List Int) : PB gam := .list k ex 3 l
abbrev Ky := Int × {l : List Int // l.length = 12}
abbrev Ky.l (x : Ky) : List Int := x.1 :: x.2.val
end Go.Proofs.YtmefgijobonklaaGreat
namespace Go.Proofs.YtmefgijobonklaaGreat
open Go Tw Pv Mist
def padK (l : List Int) : List Int := (l ++ [0, 0, 0, 0, 0, 0, 0, 0, 0, 0, 0, 0]).take 12
theorem padK_len (l : List Int) : (padK l).length = 12 := by unfold padK; simp
def kyOf (c : Int) (ks : List Int) : Ky := (c, ⟨padK ks, padK_len ks⟩)
abbrev kyB (b : Br) : Ky := kyOf b.var b.kids
end Go.Proofs.YtmefgijobonklaaGreat
namespace Go.Proofs.YtmefgijobonklaaGreat
open Go Tw Pv Mist
structure Cs where
 e : List V
 n : List Br
 k : List (Int × Int)
structure ClOk (d : Dg) (x : Cs) : Prop where
 e1 : x.e.Nodup
 e2 : ∀ v ∈ x.e, v ∈ d.ends
 n1 : (x.n.map kyB).Nodup
 n2 : x.n.length ≤ x.k.length
 k1 : (x.k.map (·.1)).Nodup
 k2 : ∀ a ∈ x.k.map (·.1), inR a d.nodes.length
theorem ClOk.klen {d : Dg} {x : Cs} (h : ClOk d x) : x.k.length ≤ d.nodes.length := by
 have := nodup_len _ _ h.k1 h.k2
 simpa using this
end Go.Proofs.YtmefgijobonklaaGreat
namespace Go.Proofs.YtmefgijobonklaaGreat
open Go Tw Pv Mist
abbrev cSameV (a b : List V) (k : Nat) : Bool := !(decide (a.getD k V0 = b.getD k V0))
abbrev w160 (a b : List V) (i : Int) (x : List (Nat × PE gam)) : PSt gam := ⟨[(0, xL 58 a), (1, xL 58 b), (12, xi a.length), (13, xi i)] ++ x, [], []⟩
def z160 (a b : List V) : Unit ⊕ Nat → Ex × PSt gam
 | .inl _ => (.exit 0, w160 a b a.length [(14, xl false)])
 | .inr _ => (.ret, ⟨[(4, xl false)], [], []⟩)
theorem l160 {n : Nat} {orc : Orc gam} (hO : Ok n orc) (a b : List V) (hl : a.length ≤ most) (h : a.length = b.length) : Lp n 160 0 (w160 a b 0 []) (z160 a b (srch (cSameV a b) a.length)).1 (z160 a b (srch (cSameV a b) a.length)).2 :=
 searchL (st := fun i _ => w160 a b i []) (fun _ _ => True) (by kernel_rfl) hl trivial (fun k s m hk _ ih => round hX hO (by kernel_rfl) (.b (lt_nat hk) (.o (inR_nat hk) (.o (inR_nat (h ▸ hk)) (.q (.bool (!(decide (a.getD k V0 = b.getD k V0)))) (neV (.tmp 19) (.tmp 23) (a.getD k V0) (b.getD k V0)) (.ls (.ou nofun) (.nx (ih _ trivial)))))))) (fun s _ => round hX hO (by kernel_rfl) (.b (lt_no a.length) (.ou nofun)))
theorem eq_getV {a b : List V} (h : a.length = b.length) : a = b ↔ ∀ j, j < a.length → a.getD j V0 = b.getD j V0 := by
 constructor
 ·rintro rfl j _; rfl
 ·intro h2
  apply List.ext_getElem h
  intro j h3 h4
  have := h2 j h3
  simpa [List.getD, List.getElem?_eq_getElem h3, List.getElem?_eq_getElem h4] using this
theorem cSameV_iff {a b : List V} (h : a.length = b.length) : isL (srch (cSameV a b) a.length) = decide (a = b) := by
 rw [Bool.eq_iff_iff, srch_ok, decide_eq_true_eq, eq_getV h]
 simp [cSameV]
theorem len_neA {α : Type} [DecidableEq α] {a b : List α} (h : ((a.length : Int) != (b.length : Int)) = true) : decide (a = b) = false := by
 rw [decide_eq_false_iff_not]; rintro rfl; simp at h
noncomputable def oc160 : Orc gam := orcF 160 (a2 vsA vsA) tA (fun p => decide (p.1 = p.2)) (fun p => [p.1.length ≤ most]) oc104
theorem gc160 : Gd oc160 := gc104.add fun n hO p hp => fn_is hX hO (by kernel_rfl) (.s (fun h => .v false (len_neA h).symm) fun h => .z (c := isL (srch (cSameV p.1 p.2) p.1.length)) (fun h2 => .w (exInl (l160 hO p.1 p.2 (hp _ (.head _)) (len_eq h)) () h2) (.v true (by rw [← cSameV_iff (len_eq h), h2]))) fun h2 => .w (exInr (l160 hO p.1 p.2 (hp _ (.head _)) (len_eq h)) 0 h2) (.v false (by rw [← cSameV_iff (len_eq h), h2])))
end Go.Proofs.YtmefgijobonklaaGreat
namespace Go.Proofs.YtmefgijobonklaaGreat
open Go Tw Pv Mist
def phi (s : List Int × List Int) (x : Int) : Int := if x < 0 then IntKind.i64.wrap (-1 - (s.2.idxOf (endI x) : Nat)) else (s.1.idxOf x : Nat)
def Cov (s : List Int × List Int) (x : Int) : Prop := (x < 0 → endI x ∈ s.2) ∧ (0 ≤ x → x ∈ s.1)
end Go.Proofs.YtmefgijobonklaaGreat
namespace Go.Proofs.YtmefgijobonklaaGreat
open Go Tw Pv Mist
def Ext (s t : List Int × List Int) : Prop := ∃ a b, t = (s.1 ++ a, s.2 ++ b)
theorem Ext.refl (s : List Int × List Int) : Ext s s := ⟨[], [], by simp⟩
theorem Ext.trans {s t u : List Int × List Int} (h : Ext s t) (h2 : Ext t u) : Ext s u := by
 obtain ⟨a, b, rfl⟩ := h
 obtain ⟨c, e, rfl⟩ := h2
 exact ⟨a ++ c, b ++ e, by simp⟩
theorem Cov.ext {s t : List Int × List Int} {x : Int} (h : Cov s x) (he : Ext s t) : Cov t x := by
 obtain ⟨a, b, rfl⟩ := he
 exact ⟨fun c => List.mem_append_left _ (h.1 c), fun c => List.mem_append_left _ (h.2 c)⟩
end Go.Proofs.YtmefgijobonklaaGreat
namespace Mist
def boxA : List Int → List Int → List Int → List (List Int)
 | f :: fs, t :: ts, x :: p => (boxA fs ts p).map (x :: ·) ++ (List.range (t - x).toNat).flatMap fun (k : Nat) => (boxA fs ts fs).map ((x + 1 + (k : Int)) :: ·)
 | _, _, _ => [[]]
def nextB : List Int → List Int → List Int → Option (List Int)
 | f :: fs, t :: ts, x :: p => match nextB fs ts p with
  | some q => some (x :: q)
  | none => if x = t then none else some ((x + 1) :: fs)
 | _, _, _ => none
def LeB : List Int → List Int → Prop
 | t :: ts, x :: p => x ≤ t ∧ LeB ts p
 | [], [] => True
 | _, _ => False
theorem LeB.len : ∀ {t p : List Int}, LeB t p → p.length = t.length
 | [], [], _ => rfl
 | t :: ts, x :: p, h => by simp [LeB.len h.2]
 | [], _ :: _, h => h.elim
 | _ :: _, [], h => h.elim
theorem LeB.next : ∀ {f t p q : List Int}, LeB t p → LeB t f → nextB f t p = some q → LeB t q
 | f :: fs, t :: ts, x :: p, q, h, hf, e => by
  simp only [nextB] at e
  split at e
  ·rename_i r h1; cases e; exact ⟨h.1, h.2.next hf.2 h1⟩
  ·split at e
   ·cases e
   ·cases e; exact ⟨by have := h.1; omega, hf.2⟩
 | [], _, _, _, _, _, e => by simp [nextB] at e
 | _ :: _, [], _, _, _, _, e => by simp [nextB] at e
 | _ :: _, _ :: _, [], _, _, _, e => by simp [nextB] at e
theorem boxA_next : ∀ {f t p : List Int}, LeB t p → LeB t f → boxA f t p = p :: (match nextB f t p with | some q => boxA f t q | none => [])
 | [], [], [], _, _ => rfl
 | f :: fs, t :: ts, x :: p, h, hf => by
  have ih := boxA_next h.2 hf.2
  simp only [boxA, nextB]
  rw [ih]
  cases hn : nextB fs ts p with
  | some q => rfl
  | none =>
   by_cases e : x = t
   ·subst e; simp
   ·have hx : x < t := by have := h.1; omega
    obtain ⟨m, hm⟩ : ∃ m, (t - x).toNat = m + 1 := ⟨(t - x).toNat - 1, by omega⟩
    rw [if_neg e, hm, List.range_succ_eq_map]
    simp only [List.map_cons, List.map_nil, List.cons_append, List.nil_append, List.flatMap_cons, List.flatMap_map]
    have e1 : ∀ k : Nat, x + 1 + ((Nat.succ k : Nat) : Int) = x + 1 + 1 + (k : Int) := fun k => by rw [Nat.succ_eq_add_one]; push_cast; omega
    show _ = (x :: p) :: boxA (f :: fs) (t :: ts) ((x + 1) :: fs)
    simp only [boxA]
    rw [show (t - (x + 1)).toNat = m by omega]
    simp only [e1]
    simp
 | [], _ :: _, _, _, hf => hf.elim
 | _ :: _, [], _, _, hf => hf.elim
 | [], [], _ :: _, h, _ => h.elim
 | _ :: _, _ :: _, [], h, _ => h.elim
theorem nextB_snoc : ∀ {f t p : List Int} (a b x : Int), t.length = f.length → p.length = f.length → nextB (f ++ [a]) (t ++ [b]) (p ++ [x]) = if x = b then (nextB f t p).map (· ++ [a]) else some (p ++ [x + 1])
 | [], [], [], a, b, x, _, _ => by simp only [List.nil_append, nextB]; split <;> rfl
 | f :: fs, t :: ts, y :: p, a, b, x, h1, h2 => by
  have ih := nextB_snoc (f := fs) (t := ts) (p := p) a b x (by simpa using h1) (by simpa using h2)
  simp only [List.cons_append, nextB, ih]
  by_cases e : x = b
  ·rw [if_pos e, if_pos e]
   cases hn : nextB fs ts p with
   | some q => rfl
   | none => simp only [Option.map_none]; split <;> rfl
  ·rw [if_neg e, if_neg e]
 | [], _ :: _, _, _, _, _, h, _ => by simp at h
 | [], [], _ :: _, _, _, _, _, h => by simp at h
 | _ :: _, [], _, _, _, _, h, _ => by simp at h
 | _ :: _, _ :: _, [], _, _, _, _, h => by simp at h
def car (f t : List Int) : Nat → List Int → Nat × List Int
 | 0, p => (0, p)
 | k + 1, p => if p.getD k 0 = t.getD k 0 then car f t k (p.set k (f.getD k 0)) else (k + 1, p)
def nextC (f t p : List Int) : Option (List Int) := if (car f t p.length p).1 = 0 then none else some ((car f t p.length p).2.set ((car f t p.length p).1 - 1) ((car f t p.length p).2.getD ((car f t p.length p).1 - 1) 0 + 1))
theorem car_next : ∀ (k : Nat) {f t p1 p2 : List Int}, t.length = f.length → p1.length = k → k ≤ f.length → (if (car f t k (p1 ++ p2)).1 = 0 then none else some ((car f t k (p1 ++ p2)).2.set ((car f t k (p1 ++ p2)).1 - 1) ((car f t k (p1 ++ p2)).2.getD ((car f t k (p1 ++ p2)).1 - 1) 0 + 1))) = (nextB (f.take k) (t.take k) p1).map (· ++ p2)
 | 0, f, t, p1, p2, h1, h2, h3 => by
  rw [List.eq_nil_of_length_eq_zero h2]
  simp [car, nextB]
 | k + 1, f, t, p1, p2, h1, h2, h3 => by
  obtain ⟨q, x, rfl⟩ : ∃ q x, p1 = q ++ [x] := by
   rcases List.eq_nil_or_concat p1 with rfl | ⟨q, x, e⟩
   ·cases h2
   ·exact ⟨q, x, by simpa using e⟩
  have hq : q.length = k := by simpa using h2
  have hf : f.take (k + 1) = f.take k ++ [f.getD k 0] := by rw [List.take_add_one, List.getElem?_eq_getElem (by omega)]; simp [List.getD, List.getElem?_eq_getElem (show k < f.length by omega)]
  have ht : t.take (k + 1) = t.take k ++ [t.getD k 0] := by rw [List.take_add_one, List.getElem?_eq_getElem (by omega)]; simp [List.getD, List.getElem?_eq_getElem (show k < t.length by omega)]
  have hg : (q ++ [x] ++ p2).getD k 0 = x := by simp [List.getD, ← hq]
  have hs : ∀ y, (q ++ [x] ++ p2).set k y = q ++ (y :: p2) := fun y => by rw [List.append_assoc, ← hq, List.set_append_right _ _ (Nat.le_refl _)]; simp
  rw [hf, ht, nextB_snoc _ _ _ (by simp; omega) (by simp; omega)]
  simp only [car, hg]
  by_cases e : x = t.getD k 0
  ·rw [if_pos e, if_pos e, hs, car_next k h1 hq (by omega), Option.map_map]
   congr 1
   funext r
   simp
  ·rw [if_neg e, if_neg e, if_neg (by omega)]
   simp only [Nat.add_sub_cancel, hg, hs, Option.map_some]
   simp
theorem nextC_eq {f t p : List Int} (h1 : t.length = f.length) (h2 : p.length = f.length) : nextC f t p = nextB f t p := by
 have := car_next f.length (f := f) (t := t) (p1 := p) (p2 := []) h1 h2 (Nat.le_refl _)
 unfold nextC
 rw [h2]
 rw [List.append_nil] at this
 rw [this, List.take_length, List.take_of_length_le (by omega)]
 cases hn : nextB f t p with
 | none => rfl
 | some q => simp
end Mist
namespace Pv
open Go Tw
def rangeIn : Code → Option (Code × Code)
 | .seq a b => match rangeIn a with
  | some r => some r
  | none => rangeIn b
 | .cond _ a b => match rangeIn a with
  | some r => some r
  | none => rangeIn b
 | .block _ b => rangeIn b
 | .loop b => rangeIn b
 | .rangeFunc _ _ a b => some (a, b)
 | _ => none
def rfAssign (P : Program) (f : Nat) : Code :=
 match fnT P f with
 | some t => match rangeIn t.body with
  | some (a, _) => a
  | none => .skip
 | none => .skip
def rfBody (P : Program) (f : Nat) : Code :=
 match fnT P f with
 | some t => match rangeIn t.body with
  | some (_, b) => b
  | none => .skip
 | none => .skip
end Pv
namespace Go.Proofs.YtmefgijobonklaaGreat
open Go Tw Pv Mist
theorem wdown {k : Nat} (hk : k ≤ 6) : IntKind.i64.wrap (((k + 1 : Nat) : Int) - 1 - 1) = (k : Int) - 1 := by rw [wrap_nn (by omega) (by omega)]; omega
theorem car_len {f t : List Int} : ∀ (k : Nat) (p : List Int), (car f t k p).1 ≤ k ∧ (car f t k p).2.length = p.length
 | 0, p => ⟨Nat.le_refl _, rfl⟩
 | k + 1, p => by
  simp only [car]
  split
  ·have := car_len (f := f) (t := t) k (p.set k (f.getD k 0))
   exact ⟨by omega, by simpa using this.2⟩
  ·exact ⟨Nat.le_refl _, rfl⟩
end Go.Proofs.YtmefgijobonklaaGreat
namespace Go.Proofs.YtmefgijobonklaaGreat
open Go Tw Pv Mist
structure RT where
 r : Rw
 f : TV
 t : TV
def lbT : TV → List Nat
 | .slc b _ _ _ _ _ => [b]
 | _ => []
abbrev bsX (x : RT) : List Nat := lbT x.f ++ lbT x.t
def bsO (L : List RT) : List Nat := L.flatMap bsX
abbrev rowT (x : RT) : List TV := [x.f, x.t, .int .u8 x.r.cell.f, .int .i64 x.r.cell.n]
def flT (L : List RT) : List TV := L.flatMap rowT
abbrev intsV (l : List Int) : List TV := l.map fun n => TV.int .i64 n
inductive OwnL (h : List HB) : List Int → TV → Prop where
 | nil : OwnL h [] (.nil .slc)
 | some {l b k} : l ≠ [] → h[b]? = some (.cells k (intsV l)) → k ≠ .ro → OwnL h l (.slc b 0 l.length l.length 1 false)
structure RO (h : List HB) (lo : Nat) (L : List RT) : Prop where
 own : ∀ x ∈ L, OwnL h x.r.fr x.f ∧ OwnL h x.r.to x.t
 nd : (bsO L).Nodup
 lo : ∀ b ∈ bsO L, lo ≤ b
def Stay (h h' : List HB) (bs : List Nat) : Prop := h.length ≤ h'.length ∧ ∀ b, b < h.length → b ∉ bs → h'[b]? = h[b]?
theorem Stay.refl {h : List HB} {bs : List Nat} : Stay h h bs := ⟨Nat.le_refl _, fun _ _ _ => rfl⟩
theorem Stay.push {h : List HB} {x : HB} {bs : List Nat} : Stay h (h ++ [x]) bs := ⟨by simp, fun b hb _ => by rw [List.getElem?_append_left hb]⟩
theorem Stay.set {h : List HB} {x : HB} {b : Nat} : Stay h (h.set b x) [b] := ⟨by simp, fun c _ hc => by rw [List.getElem?_set_ne (fun e => hc (by simp [e]))]⟩
theorem Stay.trans {h h' h'' : List HB} {bs cs : List Nat} (a : Stay h h' bs) (b : Stay h' h'' cs) (hs : ∀ c ∈ cs, c ∈ bs ∨ h.length ≤ c) : Stay h h'' bs := ⟨Nat.le_trans a.1 b.1, fun c hc hn => by
 rw [b.2 c (by have := a.1; omega) (fun h1 => by rcases hs c h1 with h2 | h2; exact hn h2; omega), a.2 c hc hn]⟩
theorem Stay.mono {h h' : List HB} {bs cs : List Nat} (a : Stay h h' bs) (hs : ∀ c ∈ bs, c ∈ cs ∨ h.length ≤ c) : Stay h h' cs := ⟨a.1, fun c hc hn => a.2 c hc fun h1 => by rcases hs c h1 with h2 | h2; exact hn h2; omega⟩
theorem OwnL.lt {h : List HB} {l : List Int} {v : TV} (hv : OwnL h l v) {b : Nat} (hb : b ∈ lbT v) : b < h.length := by
 cases hv with
 | nil => cases hb
 | some _ h1 => simp [lbT] at hb; subst hb; exact (List.getElem?_eq_some_iff.1 h1).1
theorem OwnL.stay {h h' : List HB} {bs : List Nat} {l : List Int} {v : TV} (hv : OwnL h l v) (hs : Stay h h' bs) (hd : ∀ b ∈ lbT v, b ∉ bs) : OwnL h' l v := by
 cases hv with
 | nil => exact .nil
 | some h0 h1 h2 => exact .some h0 (by rw [hs.2 _ (List.getElem?_eq_some_iff.1 h1).1 (hd _ (by simp [lbT]))]; exact h1) h2
theorem RO.lt {h : List HB} {lo : Nat} {L : List RT} (hr : RO h lo L) {b : Nat} (hb : b ∈ bsO L) : b < h.length := by
 obtain ⟨x, hx, hb⟩ := List.mem_flatMap.1 hb
 rcases List.mem_append.1 hb with h1 | h1
 ·exact (hr.own x hx).1.lt h1
 ·exact (hr.own x hx).2.lt h1
theorem RO.stay {h h' : List HB} {bs : List Nat} {lo : Nat} {L : List RT} (hr : RO h lo L) (hs : Stay h h' bs) (hd : ∀ b ∈ bsO L, b ∉ bs) : RO h' lo L :=
 ⟨fun x hx => ⟨(hr.own x hx).1.stay hs fun b hb => hd b (List.mem_flatMap.2 ⟨x, hx, List.mem_append_left _ hb⟩), (hr.own x hx).2.stay hs fun b hb => hd b (List.mem_flatMap.2 ⟨x, hx, List.mem_append_right _ hb⟩)⟩, hr.nd, hr.lo⟩
theorem ins_own {fI : Nat} {h : List HB} {l : List Int} {v : TV} (hv : OwnL h l v) (hl : l.length ≤ 2 ^ 20) {vb : Nat} (x : Int) {kv : BK} (hvb : h[vb]? = some (.cells kv [.int .i64 x])) (hk : kv = .own) (hd : vb ∉ lbT v) :
  ∃ v' h' ws, insT fI (.fn fI [] []) [v, .int .i64 0, .slc vb 0 1 1 1 true] h = some (v', h', ws) ∧ OwnL h' (x :: l) v' ∧ (lbT v' = lbT v ∨ lbT v' = [h.length]) ∧ Stay h h' (lbT v) ∧ (∀ b ∈ ws, b ∈ lbT v) := by
 subst hk
 cases hv with
 | nil =>
  refine ⟨.slc h.length 0 1 1 1 false, h ++ [.cells .own [.int .i64 x]], [], ?_, .some (by simp) (k := .own) (by simp) (by simp), .inr rfl, .push, by simp⟩
  simp only [insT, if_true, hvb]
  rfl
 | @some _ b k h0 h1 h2 =>
  have hlt := (List.getElem?_eq_some_iff.1 h1).1
  have hn : 0 < l.length := by cases l with | nil => exact absurd rfl h0 | cons => simp
  have hne : vb ≠ b := fun e => hd (by simp [lbT, e])
  refine ⟨.slc b 0 (l.length + 1) (l.length + 1) 1 false, h.set b (.cells .last (.int .i64 x :: intsV l)), [b], ?_, ?_, .inl rfl, .set, by simp [lbT]⟩
  ·have hs : sub [TV.int .i64 x] 0 1 = some [.int .i64 x] := rfl
   simp only [insT, if_true, hvb, hs]
   rw [if_neg (by simp)]
   simp only [h1]
   rw [if_pos (by simp [h2, hn, hl, hne])]
  ·exact OwnL.some (l := x :: l) (b := b) (k := .last) (by simp) (by simp [hlt]) (by simp)
theorem flT_len (L : List RT) : (flT L).length = L.length * 4 := by
 unfold flT
 induction L with
 | nil => rfl
 | cons x L ih => simp only [List.flatMap_cons, List.length_append, ih, List.length_cons, List.length_nil]; omega
theorem flT_app (L O : List RT) : flT (L ++ O) = flT L ++ flT O := List.flatMap_append ..
theorem bsO_app (L O : List RT) : bsO (L ++ O) = bsO L ++ bsO O := List.flatMap_append ..
theorem flT_at : ∀ {L : List RT} {j : Nat} {x : RT}, L[j]? = some x → sub (flT L) (j * 4) 4 = some (rowT x)
 | [], j, x, h => by simp at h
 | y :: L, 0, x, h => by
  simp only [List.getElem?_cons_zero, Option.some.injEq] at h; subst h
  simp [flT, sub]
 | y :: L, j + 1, x, h => by
  have ih := flT_at (L := L) (j := j) (x := x) (by simpa using h)
  unfold sub at ih ⊢
  have e : flT (y :: L) = rowT y ++ flT L := rfl
  split at ih
  ·rename_i h1
   rw [e, if_pos (by simp only [List.length_append, List.length_cons, List.length_nil]; omega), List.drop_append, List.drop_of_length_le (by simp; omega), List.nil_append]
   rw [show (j + 1) * 4 - (rowT y).length = j * 4 by simp only [List.length_cons, List.length_nil]; omega]
   exact ih
  ·cases ih
inductive OutL (h : List HB) : List RT → TV → Prop where
 | nil : OutL h [] (.nil .slc)
 | some {O b k} : O ≠ [] → h[b]? = some (.cells k (flT O)) → k ≠ .ro → OutL h O (.slc b 0 O.length O.length 4 false)
theorem OutL.lt {h : List HB} {O : List RT} {v : TV} (hv : OutL h O v) {b : Nat} (hb : b ∈ lbT v) : b < h.length := by
 cases hv with
 | nil => cases hb
 | some _ h1 => simp [lbT] at hb; subst hb; exact (List.getElem?_eq_some_iff.1 h1).1
theorem OutL.stay {h h' : List HB} {bs : List Nat} {O : List RT} {v : TV} (hv : OutL h O v) (hs : Stay h h' bs) (hd : ∀ b ∈ lbT v, b ∉ bs) : OutL h' O v := by
 cases hv with
 | nil => exact .nil
 | some h0 h1 h2 => exact .some h0 (by rw [hs.2 _ (List.getElem?_eq_some_iff.1 h1).1 (hd _ (by simp [lbT]))]; exact h1) h2
theorem tRow1 : isIntT Tryz.prog 26 = false := by kernel_rfl
theorem tRow2 : (Tryz.prog.underlying 26).isNone = false := by kernel_rfl
theorem tRow3 : sliceElem Tryz.prog 26 = some (95, 4) := by kernel_rfl
theorem tRow4 : bigRoom Tryz.prog 95 most = true := by kernel_rfl
theorem app_out {h : List HB} {O : List RT} {v : TV} (hv : OutL h O v) (hl : O.length + 1 ≤ most) (x : RT) {vb : Nat} (hvb : h[vb]? = some (.cells .own (rowT x))) (hd : vb ∉ lbT v) :
  ∃ v' h' i, appendT Tryz.prog #[26, 26] (onH h) v (.slc vb 0 1 1 4 true) = some (v', onH h', i) ∧ OutL h' (O ++ [x]) v' ∧ (lbT v' = lbT v ∨ lbT v' = [h.length]) ∧ Stay h h' (lbT v) ∧ (∀ b, .h b ∈ i.ws → b ∈ lbT v) := by
 have hsrc : srcCells 4 h (.slc vb 0 1 1 4 true) = some (1, rowT x) := by
  have : blkLim h vb (0 + 1 * 4) = some (rowT x) := by unfold blkLim; simp [hvb]
  simp only [srcCells, if_true, this]
  rfl
 cases hv with
 | nil =>
  refine ⟨.slc h.length 0 1 1 4 false, h ++ [.cells .own (rowT x)], rdKs (srcKeys (.slc vb 0 1 1 4 true)), ?_, OutL.some (O := [x]) (k := .own) (by simp) (by simp [flT]) (by simp), .inr rfl, .push, by simp [rdKs]⟩
  unfold appendT
  simp only [show (#[26, 26] : Array TypeId)[0]? = some 26 from rfl, show (#[26, 26] : Array TypeId)[1]? = some 26 from rfl, tRow1, tRow2, tRow3, Bool.or_self, Bool.false_eq_true, if_false, onH, hsrc]
  rw [if_neg (by omega), if_pos (by simp), if_pos (bigRoom_le tRow4 (by unfold most; omega))]
 | @some _ b k h0 h1 h2 =>
  have hlt := (List.getElem?_eq_some_iff.1 h1).1
  refine ⟨.slc b 0 (O.length + 1) (O.length + 1) 4 false, h.set b (.cells k.more (flT O ++ rowT x)), ⟨false, .h b :: srcKeys (.slc vb 0 1 1 4 true), [.h b]⟩, ?_, ?_, .inl rfl, .set, by simp [lbT]⟩
  ·unfold appendT
   have hz : O.length ≠ 0 := fun e => h0 (List.length_eq_zero_iff.1 e)
   simp only [show (#[26, 26] : Array TypeId)[0]? = some 26 from rfl, show (#[26, 26] : Array TypeId)[1]? = some 26 from rfl, tRow1, tRow2, tRow3, Bool.or_self, Bool.false_eq_true, if_false, onH, hsrc]
   rw [if_neg (by omega), if_pos (by simp)]
   simp only [if_true]
   rw [if_neg (by omega), if_pos (bigRoom_le tRow4 hl)]
   simp only [h1]
   rw [if_neg (by
    rintro (e | e | e | e | e)
    ·exact h2 e
    ·exact e rfl
    ·exact e rfl
    ·exact e (flT_len O)
    ·exact hz e)]
  ·have := OutL.some (h := h.set b (.cells k.more (flT O ++ rowT x))) (O := O ++ [x]) (b := b) (k := k.more) (by simp) (by simp [hlt, flT_app, flT]) (by cases k <;> simp [BK.more])
   simpa using this
end Go.Proofs.YtmefgijobonklaaGreat
namespace Go.Proofs.YtmefgijobonklaaGreat
open Go Tw Pv Mist
abbrev clR (b3 b6 : Nat) : TV := .fn 159 [] [.ptr b3 0 1, .ptr b6 0 1]
abbrev WI (h : List HB) (vs vo : TV) (b3 b6 : Nat) (j to : Int) (bl nn : Nat) (e : Bool) (i : Int) : St := ⟨[(0, .val vs), (5, .val vo), (7, .val (clR b3 b6)), (8, .val (.int .i64 j)), (9, .val (.int .i64 to)), (58, .val (.slc bl 0 nn nn 4 e)), (59, .val (.int .i64 nn)), (60, .val (.int .i64 i))], [], h, []⟩
theorem calm_l (ws : List Nat) : (calm ⟨true, [], ws.map .h⟩ (rdK (.l 0)) && true) = true := by
 have : calm1 (ws.map .h) (rdK (.l 0)) = true := by
  unfold calm1
  rw [List.all_eq_true]
  intro k hk
  obtain ⟨b, _, rfl⟩ := List.mem_map.1 hk
  simp [rdK]
 simp only [calm, this, Bool.true_and, Bool.and_true]
 rfl
theorem addKs_none {fl : Nat} : ∀ {ws : List Nat}, (∀ b ∈ ws, fl ≤ b) → addKs fl (ws.map .h) [] = []
 | [], _ => rfl
 | b :: ws, h => by
  simp only [List.map_cons, addKs, addW]
  rw [if_neg (by have := h b (List.mem_cons_self ..); omega)]
  exact addKs_none fun c hc => h c (List.mem_cons_of_mem _ hc)
theorem addKs_noneK {fl : Nat} : ∀ {ks : List Key}, (∀ b, .h b ∈ ks → fl ≤ b) → addKs fl ks [] = []
 | [], _ => rfl
 | .h b :: ws, h => by
  simp only [addKs, addW]
  rw [if_neg (by have := h b (List.mem_cons_self ..); omega)]
  exact addKs_noneK fun c hc => h c (List.mem_cons_of_mem _ hc)
 | .l b :: ws, h => by
  simp only [addKs]
  exact addKs_noneK fun c hc => h c (List.mem_cons_of_mem _ hc)
theorem ext_ins {n : Nat} {x y z v : TV} {h h' : List HB} {ws : List Nat} (e : insT 161 (.fn 161 [] []) [x, y, z] h = some (v, h', ws)) : apN Tryz.prog T LL (n + 1) (.fn 161 [] []) [x, y, z] h = some (v, h', ws) := by
 show extT (.fn 161 [] []) [x, y, z] h = _
 unfold extT
 rw [e]
 rfl
noncomputable abbrev RdI (N fl m : Nat) (s : St) : Option (Ex × St) := rounds Tryz.prog T (ApN N) LL 115 2 fl m s
noncomputable abbrev hdI (s : St) : St := headOf Tryz.prog T 115 2 s
theorem OwnL.inv {h : List HB} {a : Int} {l : List Int} {v : TV} (hv : OwnL h (a :: l) v) : ∃ b n, v = .slc b 0 n n 1 false := by
 cases hv with
 | some _ _ _ => exact ⟨_, _, rfl⟩
theorem OutL.inv {h : List HB} {O : List RT} {x : RT} {v : TV} (hv : OutL h (O ++ [x]) v) : ∃ b n, v = .slc b 0 n n 4 false := by
 generalize e : O ++ [x] = P at hv
 cases hv with
 | nil => simp at e
 | some _ _ _ => exact ⟨_, _, rfl⟩
theorem lbT_one {v : TV} {h : List HB} {l : List Int} (hv : OwnL h l v) : oneT v = true := by cases hv <;> rfl
structure InsR (h h' : List HB) (fl : Nat) (x y : RT) (vo vo' : TV) (O : List RT) : Prop where
 own : OwnL h' y.r.fr y.f ∧ OwnL h' y.r.to y.t
 out : OutL h' (O ++ [y]) vo'
 stay : Stay h h' (bsX x ++ lbT vo)
 bx : ∀ b ∈ bsX y, b ∈ bsX x ∨ h.length ≤ b
 nd : (bsX y).Nodup
 bo : ∀ b ∈ lbT vo', b ∈ lbT vo ∨ h.length ≤ b
 dis : ∀ b ∈ lbT vo', b ∉ bsX y
theorem rIns {N fl m : Nat} {h : List HB} {vs vo : TV} {b3 b6 : Nat} {j to : Nat} {bl nn : Nat} {e : Bool} {i : Nat} {s : St} {O : List RT} {x : RT} (hs : hdI s = WI h vs vo b3 b6 j to bl nn e i) (hi : i < nn)
  (hx : rdAt true 4 h bl (0 + i * 4) (0 + nn * 4) = some (.agg (rowT x))) (hxo : OwnL h x.r.fr x.f ∧ OwnL h x.r.to x.t) (hl : x.r.fr.length ≤ 2 ^ 20 ∧ x.r.to.length ≤ 2 ^ 20) (hnd : (bsX x).Nodup) (hlo : ∀ b ∈ bsX x ++ lbT vo, fl ≤ b) (hfl : fl ≤ h.length)
  (ho : OutL h O vo) (hol : O.length + 1 ≤ most) (hdis : ∀ b ∈ lbT vo, b ∉ bsX x) :
  ∃ h' vo' y s1, InsR h h' fl x y vo vo' O ∧ y.r = rowC j to x.r ∧ hdI s1 = WI h' vs vo' b3 b6 j to bl nn e (IntKind.i64.wrap ((i : Int) + 1)) ∧ ∀ r, RdI (N + 1) fl m s1 = r → RdI (N + 1) fl (m + 1) s = r := by
 obtain ⟨⟨fr, tt, c⟩, xf, xt⟩ := x
 obtain ⟨o1, o2⟩ := hxo
 have o1 : OwnL h fr xf := o1
 have o2 : OwnL h tt xt := o2
 have hnd := List.nodup_append.1 hnd
 have s1 : Stay h (h ++ [.cells .own [.int .i64 (j : Int)]]) [] := .push
 obtain ⟨v1, h1, ws1, a1, a2, a3, a4, a5⟩ := ins_own (fI := 161) (h := h ++ [.cells .own [.int .i64 (j : Int)]]) (v := xf) (l := fr) (o1.stay s1 (by simp)) hl.1 (vb := h.length) (j : Int) (kv := .own) (by simp) rfl (fun e => by have := o1.lt e; omega)
 have s2 : Stay h h1 (lbT xf) := (s1.mono (by simp)).trans a4 (fun c hc => .inl hc)
 have hl1 : h.length + 1 ≤ h1.length := by have := a4.1; simp at this; omega
 have e2 : OwnL h1 tt xt := o2.stay s2 fun b hb hb2 => hnd.2.2 b hb2 b hb rfl
 have s3 : Stay h1 (h1 ++ [.cells .own [.int .i64 (to : Int)]]) [] := .push
 obtain ⟨v2, h2, ws2, b1, b2, b3', b4, b5⟩ := ins_own (fI := 161) (h := h1 ++ [.cells .own [.int .i64 (to : Int)]]) (v := xt) (l := tt) (e2.stay s3 (by simp)) hl.2 (vb := h1.length) (to : Int) (kv := .own) (by simp) rfl (fun e => by have := e2.lt e; omega)
 have s4 : Stay h1 h2 (lbT xt) := (s3.mono (by simp)).trans b4 (fun c hc => .inl hc)
 have hl2 : h1.length + 1 ≤ h2.length := by have := b4.1; simp at this; omega
 have hlx : ∀ b ∈ lbT xt, b < h.length := fun b hb => o2.lt hb
 have hlf : ∀ b ∈ lbT xf, b < h.length := fun b hb => o1.lt hb
 have hv1 : ∀ b ∈ lbT v1, b ∈ lbT xf ∨ b = h.length + 1 := fun b hb => by
  rcases a3 with e | e <;> rw [e] at hb
  ·exact .inl hb
  ·simp at hb; exact .inr hb
 have hv2 : ∀ b ∈ lbT v2, b ∈ lbT xt ∨ b = h1.length + 1 := fun b hb => by
  rcases b3' with e | e <;> rw [e] at hb
  ·exact .inl hb
  ·simp at hb; exact .inr hb
 have e1 : OwnL h2 ((j : Int) :: fr) v1 := a2.stay s4 fun b hb hb2 => by
  rcases hv1 b hb with h9 | h9
  ·exact hnd.2.2 b h9 b hb2 rfl
  ·have := hlx b hb2; omega
 let y : RT := ⟨rowC j to ⟨fr, tt, c⟩, v1, v2⟩
 have s5 : Stay h h2 (lbT xf ++ lbT xt) := (s2.mono fun b hb => .inl (List.mem_append_left _ hb)).trans s4 fun b hb => .inl (List.mem_append_right _ hb)
 have oo : OutL h2 O vo := ho.stay s5 fun b hb hb2 => hdis b hb hb2
 have s6 : Stay h2 (h2 ++ [.cells .own (rowT y)]) [] := .push
 obtain ⟨vo', h3, i3, c1, c2, c3, c4, c5⟩ := app_out (h := h2 ++ [.cells .own (rowT y)]) (v := vo) (O := O) (oo.stay s6 (by simp)) hol y (vb := h2.length) (by simp) (fun e => by have := oo.lt e; omega)
 have s7 : Stay h2 h3 (lbT vo) := (s6.mono (by simp)).trans c4 (fun c hc => .inl hc)
 have hvo : ∀ b ∈ lbT vo', b ∈ lbT vo ∨ b = h2.length + 1 := fun b hb => by
  rcases c3 with e | e <;> rw [e] at hb
  ·exact .inl hb
  ·simp at hb; exact .inr hb
 have hlo2 : ∀ b ∈ lbT vo, b < h.length := fun b hb => ho.lt hb
 have d1 : ∀ b ∈ lbT v1, b ∉ lbT vo := fun b hb hb2 => by
  rcases hv1 b hb with h9 | h9
  ·exact hdis b hb2 (List.mem_append_left _ h9)
  ·have := hlo2 b hb2; omega
 have d2 : ∀ b ∈ lbT v2, b ∉ lbT vo := fun b hb hb2 => by
  rcases hv2 b hb with h9 | h9
  ·exact hdis b hb2 (List.mem_append_right _ h9)
  ·have := hlo2 b hb2; omega
 have f1 : OwnL h3 ((j : Int) :: fr) v1 := e1.stay s7 d1
 have f2 : OwnL h3 ((to : Int) :: tt) v2 := b2.stay s7 d2
 have hR : InsR h h3 fl ⟨⟨fr, tt, c⟩, xf, xt⟩ y vo vo' O := by
  refine ⟨⟨f1, f2⟩, c2, ?_, fun b hb => ?_, ?_, fun b hb => ?_, fun b hb hb2 => ?_⟩
  ·exact (s5.mono fun b hb => .inl (List.mem_append_left _ hb)).trans s7 fun b hb => .inl (List.mem_append_right _ hb)
  ·rcases List.mem_append.1 hb with hb | hb
   ·rcases hv1 b hb with h9 | h9
    ·exact .inl (List.mem_append_left _ h9)
    ·exact .inr (by omega)
   ·rcases hv2 b hb with h9 | h9
    ·exact .inl (List.mem_append_right _ h9)
    ·exact .inr (by omega)
  ·have n1 : (lbT v1).Nodup := by cases v1 <;> simp [lbT]
   have n2 : (lbT v2).Nodup := by cases v2 <;> simp [lbT]
   refine List.nodup_append.2 ⟨n1, n2, fun a ha b hb he => ?_⟩
   subst he
   rcases hv1 a ha with h9 | h9 <;> rcases hv2 a hb with h8 | h8
   ·exact hnd.2.2 a h9 a h8 rfl
   ·have := hlf a h9; omega
   ·have := hlx a h8; omega
   ·omega
  ·rcases hvo b hb with h9 | h9
   ·exact .inl h9
   ·exact .inr (by omega)
  ·rcases hvo b hb with h9 | h9
   ·rcases List.mem_append.1 hb2 with hb2 | hb2
    ·exact d1 b hb2 h9
    ·exact d2 b hb2 h9
   ·rcases List.mem_append.1 hb2 with hb2 | hb2
    ·have := e1.lt hb2; omega
    ·have := b2.lt hb2; omega
 have w1 : ∀ b ∈ ws1, fl ≤ b := fun b hb => hlo b (List.mem_append_left _ (List.mem_append_left _ (a5 b hb)))
 have w2 : ∀ b ∈ ws2, fl ≤ b := fun b hb => hlo b (List.mem_append_left _ (List.mem_append_right _ (b5 b hb)))
 have w3 : ∀ b, .h b ∈ i3.ws → fl ≤ b := fun b hb => hlo b (List.mem_append_right _ (c5 b hb))
 obtain ⟨p1, n1, rfl⟩ := a2.inv
 obtain ⟨p2, n2, rfl⟩ := b2.inv
 obtain ⟨p3, n3, rfl⟩ := c2.inv
 have k1 := ext_ins (n := N) a1
 have k2 := ext_ins (n := N) b1
 have hone : (TV.agg (rowT ⟨⟨fr, tt, c⟩, xf, xt⟩)).cells.all oneT = true := by
  show (oneT xf && (oneT xt && true)) = true
  rw [lbT_one o1, lbT_one o2]; rfl
 have hix : idx nn (.int .i64 (i : Int)) = some i := by
  show (if 0 ≤ (i : Int) ∧ (i : Int) < nn then some (i : Int).toNat else none) = _
  rw [if_pos ⟨by omega, by omega⟩]; rfl
 refine ⟨h3, _, y, ⟨(WI h3 vs (.slc p3 0 n3 n3 4 false) b3 b6 j to bl nn e (IntKind.i64.wrap ((i : Int) + 1))).env, [rowT y], h3, []⟩, hR, rfl, ?_, fun r hr => round_on (an := _) (p := _) (by rw [show headOf Tryz.prog T 115 2 s = _ from hs]; kernel_rfl) (.b (lt_nat hi) (.i hix (.l hx (.x hone (.a (.call (.slc p1 0 n1 n1 1 false) h1 ws1 []) (.o k1 (.o (addKs_none w1) (.a (.call (.slc p2 0 n2 n2 1 false) h2 ws2 []) (.o k2 (.o (addKs_none w2) (.d (calm_l ws1) (.g c1 (addKs_noneK w3) .n)))))))))))) hr⟩
 kernel_rfl
end Go.Proofs.YtmefgijobonklaaGreat
namespace Go.Proofs.YtmefgijobonklaaGreat
open Go Tw Pv Mist
theorem bsO_cons (x : RT) (L : List RT) : bsO (x :: L) = bsX x ++ bsO L := rfl
theorem RO.swap {h h' : List HB} {fl : Nat} {x y : RT} {vo vo' : TV} {O R : List RT} (hr : RO h fl (O ++ x :: R)) (hi : InsR h h' fl x y vo vo' O) (hv : ∀ b ∈ lbT vo, b ∉ bsO (O ++ x :: R)) (hfl : fl ≤ h.length) : RO h' fl (O ++ y :: R) := by
 have hb : bsO (O ++ x :: R) = bsO O ++ (bsX x ++ bsO R) := by rw [bsO_app, bsO_cons]
 have hb2 : bsO (O ++ y :: R) = bsO O ++ (bsX y ++ bsO R) := by rw [bsO_app, bsO_cons]
 have hnd := hr.nd
 rw [hb] at hnd hv
 obtain ⟨n1, n2, n3⟩ := List.nodup_append.1 hnd
 obtain ⟨n4, n5, n6⟩ := List.nodup_append.1 n2
 have hO : ∀ b ∈ bsO O, b ∉ bsX x ++ lbT vo := fun b hbO hb3 => by
  rcases List.mem_append.1 hb3 with h9 | h9
  ·exact n3 b hbO b (List.mem_append_left _ h9) rfl
  ·exact hv b h9 (List.mem_append_left _ hbO)
 have hR : ∀ b ∈ bsO R, b ∉ bsX x ++ lbT vo := fun b hbO hb3 => by
  rcases List.mem_append.1 hb3 with h9 | h9
  ·exact n6 b h9 b hbO rfl
  ·exact hv b h9 (List.mem_append_right _ (List.mem_append_right _ hbO))
 have hlt : ∀ b ∈ bsO O ++ bsO R, b < h.length := fun b h9 => hr.lt (by rw [hb]; rcases List.mem_append.1 h9 with h8 | h8; exact List.mem_append_left _ h8; exact List.mem_append_right _ (List.mem_append_right _ h8))
 refine ⟨fun z hz => ?_, ?_, fun b h9 => ?_⟩
 ·have key : ∀ z, z ∈ O ∨ z ∈ R → OwnL h' z.r.fr z.f ∧ OwnL h' z.r.to z.t := fun z hz => by
   have hzo := hr.own z (by rcases hz with h9 | h9 <;> simp [h9])
   have hd : ∀ b ∈ bsX z, b ∉ bsX x ++ lbT vo := fun b h9 => by
    rcases hz with h8 | h8
    ·exact hO b (List.mem_flatMap.2 ⟨z, h8, h9⟩)
    ·exact hR b (List.mem_flatMap.2 ⟨z, h8, h9⟩)
   exact ⟨hzo.1.stay hi.stay fun b h9 => hd b (List.mem_append_left _ h9), hzo.2.stay hi.stay fun b h9 => hd b (List.mem_append_right _ h9)⟩
  rcases List.mem_append.1 hz with h9 | h9
  ·exact key z (.inl h9)
  ·rcases List.mem_cons.1 h9 with rfl | h9
   ·exact hi.own
   ·exact key z (.inr h9)
 ·rw [hb2]
  refine List.nodup_append.2 ⟨n1, List.nodup_append.2 ⟨hi.nd, n5, fun a ha b hb e => ?_⟩, fun a ha b hb e => ?_⟩
  ·subst e
   rcases hi.bx a ha with h9 | h9
   ·exact n6 a h9 a hb rfl
   ·have := hlt a (List.mem_append_right _ hb); omega
  ·subst e
   rcases List.mem_append.1 hb with hb | hb
   ·rcases hi.bx a hb with h9 | h9
    ·exact n3 a ha a (List.mem_append_left _ h9) rfl
    ·have := hlt a (List.mem_append_left _ ha); omega
   ·exact n3 a ha a (List.mem_append_right _ hb) rfl
 ·rw [hb2] at h9
  rcases List.mem_append.1 h9 with h9 | h9
  ·exact hr.lo b (by rw [hb]; exact List.mem_append_left _ h9)
  ·rcases List.mem_append.1 h9 with h9 | h9
   ·rcases hi.bx b h9 with h8 | h8
    ·exact hr.lo b (by rw [hb]; exact List.mem_append_right _ (List.mem_append_left _ h8))
    ·omega
   ·exact hr.lo b (by rw [hb]; exact List.mem_append_right _ (List.mem_append_right _ h9))
structure InsL (h h' : List HB) (fl : Nat) (vo vo' : TV) (O R O' : List RT) (j to : Nat) : Prop where
 rows : O'.map (·.r) = O.map (·.r) ++ R.map fun x => rowC j to x.r
 ro : RO h' fl O'
 out : OutL h' O' vo'
 lo : ∀ b ∈ lbT vo', fl ≤ b ∧ b ∉ bsO O'
 stay : Stay h h' (bsO (O ++ R) ++ lbT vo)
 new : ∀ b ∈ bsO O' ++ lbT vo', b ∈ bsO (O ++ R) ++ lbT vo ∨ h.length ≤ b
theorem lIns {N fl : Nat} {vs : TV} {b3 b6 : Nat} {j to : Nat} {bl nn : Nat} {e : Bool} {L : List RT} (hnn : L.length = nn) (hnm : nn ≤ most) : ∀ (R : List RT) (i m : Nat) (h : List HB) (vo : TV) (O : List RT) (s : St), hdI s = WI h vs vo b3 b6 j to bl nn e i → L.drop i = R → i ≤ nn → R.length < m → RO h fl (O ++ R) → OutL h O vo →
  (∀ b ∈ lbT vo, fl ≤ b ∧ b ∉ bsO (O ++ R)) → (∃ k, h[bl]? = some (.cells k (flT L))) → bl ∉ bsO (O ++ R) → bl ∉ lbT vo → (∀ x ∈ R, x.r.fr.length ≤ 2 ^ 20 ∧ x.r.to.length ≤ 2 ^ 20) → O.length + R.length ≤ most → fl ≤ h.length →
  ∃ h' vo' O', RdI (N + 1) fl m s = some (.exit 4, ⟨(WI h' vs vo' b3 b6 j to bl nn e nn).env ++ [(61, .val (.bool false))], [], h', []⟩) ∧ InsL h h' fl vo vo' O R O' j to := by
 intro R
 induction R with
 | nil =>
  intro i m h vo O s hs hd hi hm hr ho hv hb hbl hbo hlen hom hfl
  obtain ⟨m, rfl⟩ : ∃ k, m = k + 1 := ⟨m - 1, by simp at hm; omega⟩
  have hin : i = nn := by
   have := congrArg List.length hd
   simp at this; omega
  subst hin
  rw [List.append_nil] at hr hv
  refine ⟨h, vo, O, ?_, ⟨by rw [List.map_nil, List.append_nil], hr, ho, hv, .refl, fun b hb2 => .inl (by rw [List.append_nil]; exact hb2)⟩⟩
  have hno : decide ((i : Int) < (i : Int)) = false := lt_no i
  have := round_out (P := Tryz.prog) (T := T) (call := ApN (N + 1)) (L := LL) (f := 115) (k := 2) (fl := fl) (m := m) (s := s) (s1 := ⟨(WI h vs vo b3 b6 j to bl i e i).env ++ [(61, .val (.bool (decide ((i : Int) < (i : Int)))))], [], h, []⟩) (e := .exit 4) (by rw [show headOf Tryz.prog T 115 2 s = _ from hs]; kernel_rfl) (.b hno .n) rfl
  rw [hno] at this
  exact this
 | cons x R ih =>
  intro i m h vo O s hs hd hi hm hr ho hv hb hbl hbo hlen hom hfl
  obtain ⟨m, rfl⟩ : ∃ k, m = k + 1 := ⟨m - 1, by simp at hm; omega⟩
  have hlt : i < nn := by
   rcases Nat.lt_or_ge i nn with h9 | h9
   ·exact h9
   ·rw [List.drop_of_length_le (by omega)] at hd; cases hd
  have hx : L[i]? = some x := by
   have := congrArg (fun l => l[0]?) hd
   simpa using this
  have hR : L.drop (i + 1) = R := by
   have := congrArg List.tail hd
   simpa using this
  obtain ⟨k, hb⟩ := hb
  have hrd : rdAt true 4 h bl (0 + i * 4) (0 + nn * 4) = some (.agg (rowT x)) := by
   have hL : blkLim h bl (0 + nn * 4) = some (flT L) := by
    unfold blkLim
    rw [hb]
    simp only [flT_len, hnn]
    rw [if_neg (by omega)]
   unfold rdAt
   rw [hL]
   simp only []
   rw [if_pos (by omega), Nat.zero_add]
   simp only [if_true, flT_at hx, Option.map_some]
  have hxm : x ∈ O ++ x :: R := by simp
  have hcut : bsO (O ++ x :: R) = bsO O ++ (bsX x ++ bsO R) := by rw [bsO_app, bsO_cons]
  have hxs : ∀ b ∈ bsX x, b ∈ bsO (O ++ x :: R) := fun b h9 => by rw [hcut]; exact List.mem_append_right _ (List.mem_append_left _ h9)
  have hndx : (bsX x).Nodup := by
   have := hr.nd
   rw [hcut] at this
   exact (List.nodup_append.1 (List.nodup_append.1 this).2.1).1
  obtain ⟨h1, vo1, y, s1, hI, hy, hs1, hstep⟩ := rIns (N := N) (m := m) (O := O) hs hlt hrd (hr.own x hxm) (hlen x (List.mem_cons_self ..)) hndx (fun b h9 => by rcases List.mem_append.1 h9 with h8 | h8; exact hr.lo b (hxs b h8); exact (hv b h8).1) hfl ho (by simp at hom; omega) (fun b h9 h8 => (hv b h9).2 (hxs b h8))
  have hr1 := hr.swap hI (fun b h9 => (hv b h9).2) hfl
  have hw : IntKind.i64.wrap ((i : Int) + 1) = ((i + 1 : Nat) : Int) := wrap_up (by omega)
  rw [hw] at hs1
  have hoy : O ++ y :: R = O ++ [y] ++ R := by simp
  rw [hoy] at hr1
  have hl1 : h.length ≤ h1.length := hI.stay.1
  have hbsy : ∀ b ∈ bsO (O ++ [y] ++ R), b ∈ bsO (O ++ x :: R) ∨ h.length ≤ b := fun b h9 => by
   rw [← hoy, bsO_app, bsO_cons] at h9
   rw [hcut]
   rcases List.mem_append.1 h9 with h9 | h9
   ·exact .inl (List.mem_append_left _ h9)
   ·rcases List.mem_append.1 h9 with h9 | h9
    ·rcases hI.bx b h9 with h8 | h8
     ·exact .inl (List.mem_append_right _ (List.mem_append_left _ h8))
     ·exact .inr h8
    ·exact .inl (List.mem_append_right _ (List.mem_append_right _ h9))
  have hltb : bl < h.length := (List.getElem?_eq_some_iff.1 hb).1
  have g1 : ∀ b ∈ lbT vo1, fl ≤ b ∧ b ∉ bsO (O ++ [y] ++ R) := fun b h9 => by
   refine ⟨?_, fun h8 => ?_⟩
   ·rcases hI.bo b h9 with h8 | h8
    ·exact (hv b h8).1
    ·omega
   ·rw [← hoy, bsO_app, bsO_cons] at h8
    rcases hI.bo b h9 with h7 | h7
    ·have h6 := (hv b h7).2
     rw [hcut] at h6
     rcases List.mem_append.1 h8 with h8 | h8
     ·exact h6 (List.mem_append_left _ h8)
     ·rcases List.mem_append.1 h8 with h8 | h8
      ·exact hI.dis b h9 h8
      ·exact h6 (List.mem_append_right _ (List.mem_append_right _ h8))
    ·rcases List.mem_append.1 h8 with h8 | h8
     ·have := hr.lt (b := b) (by rw [hcut]; exact List.mem_append_left _ h8); omega
     ·rcases List.mem_append.1 h8 with h8 | h8
      ·exact hI.dis b h9 h8
      ·have := hr.lt (b := b) (by rw [hcut]; exact List.mem_append_right _ (List.mem_append_right _ h8)); omega
  have g2 : h1[bl]? = some (.cells k (flT L)) := by
   rw [hI.stay.2 bl hltb (fun h9 => by rcases List.mem_append.1 h9 with h8 | h8; exact hbl (hxs bl h8); exact hbo h8)]; exact hb
  have g3 : bl ∉ bsO (O ++ [y] ++ R) := fun h9 => by
   rcases hbsy bl h9 with h8 | h8
   ·exact hbl h8
   ·omega
  have g4 : bl ∉ lbT vo1 := fun h9 => by
   rcases hI.bo bl h9 with h8 | h8
   ·exact hbo h8
   ·omega
  obtain ⟨h2, vo2, O2, q1, q2⟩ := ih (i + 1) m h1 vo1 (O ++ [y]) s1 hs1 hR (by omega) (by simp at hm; omega) hr1 hI.out g1 ⟨k, g2⟩ g3 g4 (fun z hz => hlen z (List.mem_cons_of_mem _ hz)) (by simp at hom ⊢; omega) (by omega)
  refine ⟨h2, vo2, O2, hstep _ q1, ⟨?_, q2.ro, q2.out, q2.lo, ?_, fun b h9 => ?_⟩⟩
  ·rw [q2.rows, List.map_append, List.map_cons, List.map_nil, hy, List.map_cons, List.append_assoc]; rfl
  ·refine (hI.stay.mono fun b h9 => ?_).trans q2.stay fun b h9 => ?_
   ·rcases List.mem_append.1 h9 with h8 | h8
    ·exact .inl (List.mem_append_left _ (hxs b h8))
    ·exact .inl (List.mem_append_right _ h8)
   ·rcases List.mem_append.1 h9 with h8 | h8
    ·exact (hbsy b h8).imp_left (List.mem_append_left _)
    ·exact (hI.bo b h8).imp_left (List.mem_append_right _)
  ·rcases q2.new b h9 with h8 | h8
   ·rcases List.mem_append.1 h8 with h8 | h8
    ·exact (hbsy b h8).imp_left (List.mem_append_left _)
    ·exact (hI.bo b h8).imp_left (List.mem_append_right _)
   ·exact .inr (by omega)
end Go.Proofs.YtmefgijobonklaaGreat
namespace Tw
open Go
def bodyF (P : Program) (f : Nat) : Code := match fnT P f with
 | some t => t.body
 | none => .skip
def resF (P : Program) (f : Nat) : List ResultVar := match fnT P f with
 | some t => t.results
 | none => []
theorem funN_path {P : Program} {T : Tab} {call : CallT} {L f : Nat} {args : List TV} {h : List HB} {an : List Ans} {p : List Prop} {e : Ex} {s : St} {vs : List TV} (hx : execO P T call L f false h.length (ntOf P f) (bodyF P f) ⟨argEnv 0 args, [], h, []⟩ an = some (e, s, [], p)) (hp : Fs call h.length an p) (he : e = .norm ∨ e = .ret) (hs : (fnT P f).isSome = true) (hr : resTs P s (resF P f) = some vs) : funN P T call L f args h = some (one vs, s.heap, s.ws) := by
 unfold funN
 unfold ntOf bodyF at hx
 unfold resF at hr
 cases ht : fnT P f with
 | none => rw [ht] at hs; cases hs
 | some t =>
  rw [ht] at hx hr
  have := execO_ok hx hp.all
  simp only [this]
  rcases he with rfl | rfl <;> simp only [hr]
theorem apN_fn {P : Program} {T : Tab} {L n f : Nat} {a c xs : List TV} {h : List HB} (hx : T.exts.contains f = false) : apN P T L (n + 1) (.fn f a c) xs h = funN P T (apN P T L n) L f (a ++ xs ++ c) h := by
 simp only [apN, hx, Bool.false_eq_true, if_false]
end Tw
namespace Go.Proofs.YtmefgijobonklaaGreat
open Go Tw Pv Mist
abbrev VRV (A : Nat → Prop) (h : List HB) (v : PV gam) (x : TV) : Prop := Pv.VR X0 Tryz.prog (AA A []) [] h v x
abbrev lstV (l : List V) : PV gam := .lst 58 l false
abbrev lstI (l : List Int) : PV gam := .lst 3 l false
theorem VRV.slc {A : Nat → Prop} {h : List HB} {t : Nat} {l : List (gam t)} {x : TV} {sz : Nat} (hz : sizeT Tryz.prog t = some sz) (hv : VRV A h (.lst t l false) x) (hl : l ≠ []) : ∃ b off cap ex, x = .slc b off l.length cap sz ex := by
 rcases lst_SlR hv hz with ⟨_, e⟩ | ⟨b, off, cap, ex, cs, e, _⟩
 ·exact absurd e hl
 ·exact ⟨_, _, _, _, e⟩
theorem VRV.stay {A : Nat → Prop} {h h' : List HB} {v : PV gam} {x : TV} (hv : VRV A h v x) (hs : Stay h h' []) : VRV A h' v x :=
 Pv.VR.step (m := []) (m' := []) ⟨hs.1, fun b hb _ => hs.2 b hb (by simp), fun b hb => .inl hb, fun b cs hc => ⟨cs, by rw [blkCells_same (hs.2 b (blkCells_lt hc) (by simp)), hc], Nat.le_refl _⟩⟩ (fun i mb hi => .inl hi) hv
theorem szV : sizeT Tryz.prog 58 = some 2 := by kernel_rfl
theorem VRV.cut {A : Nat → Prop} {h : List HB} {t : TypeId} {e sz : Nat} (hA : ∀ b, h.length ≤ b → A b) {l : List (gam e)} {x : TV} (hv : VRV A h (.lst e l false) x) (hu : Tryz.prog.underlying t = some (.slice e)) (hz : sizeT Tryz.prog e = some sz) {a z : Int} (h0 : 0 ≤ a) (h1 : a ≤ z) (h2 : z ≤ l.length) : ∃ w, sliceT Tryz.prog t x (some (.int .i64 a)) (some (.int .i64 z)) none = some w ∧ VRV A h (.lst e ((l.take z.toNat).drop a.toNat) false) w :=
 Pv.slice_ok (X := X0) (P := Tryz.prog) (A := A) (m := []) (ps := ⟨[], [], []⟩) (ts := ⟨[], [], h, []⟩) ⟨⟨rfl, fun i b hb => by simp at hb, by simp [blks], hA, fun b hb => by simp [blks] at hb⟩, rfl, fun k cs hc => by simp at hc, .nil⟩ (lo := some (.int .i64 a)) (hi := some (.int .i64 z)) (mx := none) hv (tlo := some (.int .i64 a)) (thi := some (.int .i64 z)) (tmx := none) (Pv.VR.int .i64 a) (Pv.VR.int .i64 z) trivial (qs := [0 ≤ a, a ≤ z, z ≤ l.length]) (by simp only [pslice, hu, hz, endP, if_true]; rfl) (fun q hq => by
  rcases List.mem_cons.1 hq with rfl | hq
  ·exact h0
  rcases List.mem_cons.1 hq with rfl | hq
  ·exact h1
  rw [List.mem_singleton.1 hq]; exact h2)
theorem cBlk {n : Nat} {A : Nat → Prop} {h : List HB} (hA : ∀ b, h.length ≤ b → A b) {l : List V} {vc : TV} (hv : VRV A h (lstV l) vc) {b3 b6 w N j : Nat} (hP : Prt l w N) (hw : 0 < w) (hj : j < N) (h3 : h[b3]? = some (.cells .own [vc])) (h6 : h[b6]? = some (.cells .own [.int .i64 w])) :
  ∃ v, ApN (n + 1) (clR b3 b6) [.int .i64 (j : Nat)] h = some (v, h, []) ∧ VRV A h (lstV (blk l w j)) v := by
 have h12 := hP.n12
 have hne : l ≠ [] := fun e => by
  have := hP.len
  rw [e] at this
  have h9 : 1 * 1 ≤ N * w := Nat.mul_le_mul (by omega) hw
  simp at this; omega
 obtain ⟨bc, oc, cc, ex, rfl⟩ := hv.slc szV hne
 obtain ⟨v, e1, e2⟩ := hv.cut (t := 23) hA (by kernel_rfl) szV (hP.b1 (j := j) (by omega)) (hP.b2 (by omega)) (hP.b3 hj)
 have e2 : VRV A h (lstV (rawB l (IntKind.i64.wrap ((j : Int) * (w : Int))) (IntKind.i64.wrap (IntKind.i64.wrap ((j : Int) + 1) * (w : Int))))) v := e2
 rw [rawB_blk (by omega) hP.w2] at e2
 have hbn : blk l w j ≠ [] := fun e => by have := blk_len hP.len hj; rw [e] at this; simp at this; omega
 obtain ⟨b', o', c', ex', rfl⟩ := e2.slc szV hbn
 have r3 : rdAt false 1 h b3 0 1 = some (.slc bc oc l.length cc 2 ex) := by
  unfold rdAt blkLim; rw [h3]; rfl
 have r6 : rdAt false 1 h b6 0 1 = some (.int .i64 w) := by
  unfold rdAt blkLim; rw [h6]; rfl
 refine ⟨_, ?_, e2⟩
 rw [show ApN (n + 1) = apN Tryz.prog T LL (n + 1) from rfl, apN_fn (by kernel_rfl)]
 exact funN_path (P := Tryz.prog) (T := T) (call := ApN n) (L := LL) (f := 159) (args := [.int .i64 (j : Nat), .ptr b3 0 1, .ptr b6 0 1]) (h := h) (vs := [.slc b' o' (blk l w j).length c' 2 ex']) (e := .ret) (s := ⟨[(4, .val (.slc b' o' (blk l w j).length c' 2 ex'))], [], h, []⟩) (by kernel_rfl) (.l r3 (.l r6 (.l r6 (.r e1 .n)))) (.inr rfl) (by kernel_rfl) (by kernel_rfl)
end Go.Proofs.YtmefgijobonklaaGreat
namespace Go.Proofs.YtmefgijobonklaaGreat
open Go Tw Pv Mist
theorem cEqV {n : Nat} (hO : Ok n oc160) {A : Nat → Prop} {h : List HB} (hA : ∀ b, h.length ≤ b → A b) {a b : List V} {va vb : TV} (ha : VRV A h (lstV a) va) (hb : VRV A h (lstV b) vb) (hl : a.length ≤ most) :
  ∃ h', ApN n (.fn 160 [] []) [va, vb] h = some (.bool (decide (a = b)), h', []) ∧ Stay h h' [] := by
 have hc : Con X0 Tryz.prog (ApN n) 160 [lstV a, lstV b] (tA.put (decide (a = b))) [] := hO 160 [lstV a, lstV b] (tA.put (decide (a = b))) [] [a.length ≤ most] (by kernel_rfl) (fun q hq => by rw [List.mem_singleton.1 hq]; exact hl)
 obtain ⟨x, h', m', c1, c2, c3, c4⟩ := hc (AA A []) h [] [va, vb] [] (fun b hb => ⟨hA b hb, by simp [blks]⟩) (.cons ha (.cons hb .nil))
 have hm : m' = [] := List.length_eq_zero_iff.1 c2.len
 subst hm
 have c3 : x = .bool (decide (a = b)) := by
  have c3 : Pv.VR X0 Tryz.prog (AA (AA A []) []) [] h' (.bool (decide (a = b))) x := c3
  cases c3 with
  | bool => rfl
  | gone hi _ _ => simp [idOf] at hi
 subst c3
 exact ⟨h', c1, c4.len, fun b hb _ => c4.same b hb (by simp [blks])⟩
theorem VRV.rd {A : Nat → Prop} {h : List HB} {l : List Int} {b off n cap : Nat} {ex : Bool} (hv : VRV A h (lstI l) (.slc b off n cap 1 ex)) {j : Nat} (hj : j < l.length) : rdAt false 1 h b (off + j * 1) (off + cap * 1) = some (.int .i64 (l.getD j 0)) ∧ n = l.length := by
 rcases lst_SlR hv szInt with ⟨e, _⟩ | ⟨b', off', cap', ex', cs, e, h1, h2, h3, h4⟩
 ·cases e
 ·cases e
  have hne : l ≠ [] := fun e => by rw [e] at hj; simp at hj
  have h3 := h3 hne
  refine ⟨?_, rfl⟩
  unfold rdAt
  rw [h3]
  simp only []
  have h9 : l.length ≤ cap := h1
  have hlen := h4.2.1
  have hlen : off + l.length * 1 ≤ cs.length := hlen
  rw [if_pos (by omega)]
  simp only [Bool.false_eq_true, if_false, if_true]
  have hlt : off + j * 1 < cs.length := by omega
  have := h4.2.2 j (l.getD j 0) 0 (.int .i64 (l.getD j 0)) cs[off + j * 1] (by show l[j]? = some (l.getD j 0); rw [List.getD_eq_getElem?_getD, List.getElem?_eq_getElem hj]; rfl) rfl (by rw [Nat.add_zero]; exact List.getElem?_eq_getElem hlt)
  rw [List.getElem?_eq_getElem hlt, this.int_inv]
abbrev WT (h : List HB) (vs vo : TV) (b3 b6 : Nat) (j : Nat) (t : Int) : St := ⟨[(0, .val vs), (5, .val vo), (7, .val (clR b3 b6)), (8, .val (.int .i64 (j : Nat))), (9, .val (.int .i64 t))], [], h, []⟩
noncomputable abbrev RdT (N fl m : Nat) (s : St) : Option (Ex × St) := rounds Tryz.prog T (ApN N) LL 115 1 fl m s
noncomputable abbrev hdT (s : St) : St := headOf Tryz.prog T 115 1 s
theorem lTo {N fl : Nat} (hO : ∀ m, N ≤ m → Ok m oc160) {A : Nat → Prop} {s : List Int} {l : List V} {vs vc vo : TV} {b3 b6 w n j : Nat} (hP : Prt l w n) (hw : 0 < w) (hj : j < n) : ∀ (m t : Nat) (h : List HB) (st : St), (∀ b, h.length ≤ b → A b) → VRV A h (lstI ((n : Int) :: s)) vs → VRV A h (lstV l) vc → h[b3]? = some (.cells .own [vc]) → h[b6]? = some (.cells .own [.int .i64 w]) →
  hdT st = WT h vs vo b3 b6 j (t : Nat) → t < n → n ≤ m + t →
  ∃ h', RdT (N + 1) fl (m + 1) st = some (.exit 2, ⟨(WT h' vs vo b3 b6 j (rEnd l w n (blk l w j) m t : Nat)).env ++ [(50, .val (.bool false))], [], h', []⟩) ∧ Stay h h' [] := by
 intro m
 induction m with
 | zero => intro t h st _ _ _ _ _ _ ht hm; omega
 | succ m ih =>
  intro t h st hA hs hc h3 h6 hst ht hm
  have h12 := hP.n12
  obtain ⟨bs, os, cs, ex, rfl⟩ := hs.slc szInt (fun e => by cases e)
  have hr := hs.rd (j := 0) (by simp)
  have hr0 : rdAt false 1 h bs (os + 0 * 1) (os + cs * 1) = some (.int .i64 (n : Int)) := hr.1
  have hix : idx ((n : Int) :: s).length (.int .i64 0) = some 0 := by
   show (if 0 ≤ (0 : Int) ∧ (0 : Int) < (((n : Int) :: s).length : Nat) then some (0 : Int).toNat else none) = _
   rw [if_pos ⟨by omega, by simp only [List.length_cons]; omega⟩]; rfl
  have e1 : IntKind.i64.wrap ((t : Int) + 1) = ((t + 1 : Nat) : Int) := wsucc (m20 (by omega))
  unfold rEnd
  by_cases c : t + 1 < n
  ·have t1 : decide (IntKind.i64.wrap ((t : Int) + 1) < (n : Int)) = true := by rw [e1]; exact lt_nat c
   obtain ⟨v1, a1, a2⟩ := cBlk (n := N) hA hc hP hw hj h3 h6
   obtain ⟨v2, b1, b2⟩ := cBlk (n := N) hA hc hP hw c h3 h6
   rw [← e1] at b1
   obtain ⟨h', d1, d2⟩ := cEqV (hO (N + 1) (by omega)) hA a2 b2 (hP.mo hj)
   by_cases q : blk l w j = blk l w (t + 1)
   ·have t2 : decide (blk l w j = blk l w (t + 1)) = true := by simpa using q
    rw [if_pos ⟨c, q⟩]
    have hlt3 := (List.getElem?_eq_some_iff.1 h3).1
    have hlt6 := (List.getElem?_eq_some_iff.1 h6).1
    obtain ⟨h2, k1, k2⟩ := ih (t + 1) h' ⟨(WT h' (.slc bs os ((n : Int) :: s).length cs 1 ex) vo b3 b6 j (IntKind.i64.wrap ((t : Int) + 1))).env, [], h', []⟩ (fun b hb => hA b (by have := d2.1; omega)) (hs.stay d2) (hc.stay d2) (by rw [d2.2 _ hlt3 (by simp)]; exact h3) (by rw [d2.2 _ hlt6 (by simp)]; exact h6) (by rw [e1]; kernel_rfl) c (by omega)
    refine ⟨h2, ?_, d2.trans k2 (by simp)⟩
    refine round_on (s1 := ⟨(WT h' (.slc bs os ((n : Int) :: s).length cs 1 ex) vo b3 b6 j (IntKind.i64.wrap ((t : Int) + 1))).env, [], h', []⟩) (by rw [show headOf Tryz.prog T 115 1 st = _ from hst]; kernel_rfl) (.i hix (.l hr0 (.b t1 (.b t1 (.b t1 (.c a1 (.b t1 (.b t1 (.b t1 (.b t1 (.c b1 (.b t1 (.c d1 (.b t1 (.b t2 .n))))))))))))))) k1
   ·have t2 : decide (blk l w j = blk l w (t + 1)) = false := by simpa using q
    rw [if_neg (fun h9 => q h9.2)]
    refine ⟨h', ?_, d2⟩
    have := round_out (P := Tryz.prog) (T := T) (call := ApN (N + 1)) (L := LL) (f := 115) (k := 1) (fl := fl) (m := m + 1) (s := st) (s1 := ⟨(WT h' (.slc bs os ((n : Int) :: s).length cs 1 ex) vo b3 b6 j (t : Nat)).env ++ [(50, .val (.bool (decide (blk l w j = blk l w (t + 1)))))], [], h', []⟩) (e := .exit 2) (by rw [show headOf Tryz.prog T 115 1 st = _ from hst]; kernel_rfl) (.i hix (.l hr0 (.b t1 (.b t1 (.b t1 (.c a1 (.b t1 (.b t1 (.b t1 (.b t1 (.c b1 (.b t1 (.c d1 (.b t1 (.b t2 .n))))))))))))))) rfl
    rw [t2] at this
    exact this
  ·have t1 : decide (IntKind.i64.wrap ((t : Int) + 1) < (n : Int)) = false := by rw [e1, decide_eq_false_iff_not]; omega
   rw [if_neg (fun h9 => c h9.1)]
   refine ⟨h, ?_, .refl⟩
   exact round_out (P := Tryz.prog) (T := T) (call := ApN (N + 1)) (L := LL) (f := 115) (k := 1) (fl := fl) (m := m + 1) (s := st) (s1 := ⟨(WT h (.slc bs os ((n : Int) :: s).length cs 1 ex) vo b3 b6 j (t : Nat)).env ++ [(50, .val (.bool false))], [], h, []⟩) (e := .exit 2) (by rw [show headOf Tryz.prog T 115 1 st = _ from hst]; kernel_rfl) (.i hix (.l hr0 (.b t1 (.b t1 (.b t1 (.b t1 (.b t1 (.b t1 (.b t1 (.b t1 (.b t1 (.b (rfl : false = false) .n)))))))))))) rfl
end Go.Proofs.YtmefgijobonklaaGreat
namespace Go.Proofs.YtmefgijobonklaaGreat
open Go Tw Pv Mist
abbrev Tr : Nat → Prop := fun _ => True
abbrev VRF (fl : Nat) (h : List HB) (v : PV gam) (x : TV) : Prop := Pv.VR X0 Tryz.prog (fun b => b < fl) [] h v x
theorem VRF.up {fl : Nat} {h : List HB} {v : PV gam} {x : TV} (hv : VRF fl h v x) : VRV Tr h v x := hv.mono fun b _ => ⟨trivial, by simp [blks]⟩
theorem VRF.stay {fl : Nat} {h h' : List HB} {v : PV gam} {x : TV} {bs : List Nat} (hv : VRF fl h v x) (hc : clos v = true) (hs : Stay h h' bs) (hb : ∀ b ∈ bs, fl ≤ b) : VRF fl h' v x :=
 hv.move hX (fun q cs h1 h2 => ⟨h1, hs.2 q (blkCells_lt h2) fun h3 => by have := hb q h3; omega⟩) hc
theorem VRV.lowI {h : List HB} {l : List Int} {x : TV} (hv : VRV Tr h (lstI l) x) : VRF h.length h (lstI l) x := by
 have hv : Pv.VR X0 Tryz.prog (AA Tr []) [] h (.lst 3 l false) x := hv
 cases hv with
 | lstN => exact .lstN
 | lst a c c2 s z o k f e r =>
  refine .lst (blkCells_lt c) c c2 s z o k f e fun j a i c v h1 h2 h3 => ?_
  cases i with
  | zero =>
   have h2 : some (PV.int .i64 a) = some c := h2
   cases h2
   have := r j a 0 _ v h1 rfl h3
   rw [this.int_inv]
   exact .int _ _
  | succ i => have h2 : ([] : List (PV gam))[i]? = some c := h2; simp at h2
 | gone hi _ _ => simp [idOf] at hi
theorem VRV.lowV {h : List HB} {l : List V} {x : TV} (hv : VRV Tr h (lstV l) x) : VRF h.length h (lstV l) x := by
 have hv : Pv.VR X0 Tryz.prog (AA Tr []) [] h (.lst 58 l false) x := hv
 cases hv with
 | lstN => exact .lstN
 | lst a c c2 s z o k f e r =>
  refine .lst (blkCells_lt c) c c2 s z o k f e fun j a i c v h1 h2 h3 => ?_
  rcases i with _ | _ | i
  ·have h2 : some (PV.int .u8 a.f) = some c := h2
   cases h2
   have := r j a 0 _ v h1 rfl h3
   rw [this.int_inv]
   exact .int _ _
  ·have h2 : some (PV.int .i64 a.n) = some c := h2
   cases h2
   have := r j a 1 _ v h1 rfl h3
   rw [this.int_inv]
   exact .int _ _
  ·have h2 : ([] : List (PV gam))[i]? = some c := h2
   simp at h2
 | gone hi _ _ => simp [idOf] at hi
structure RowsP (h h' : List HB) (L : List RT) (v : TV) : Prop where
 ro : RO h' h.length L
 sl : ∃ b e k, v = .slc b 0 L.length L.length 4 e ∧ h'[b]? = some (.cells k (flT L)) ∧ k ≠ .ro ∧ h.length ≤ b ∧ b ∉ bsO L
 stay : Stay h h' []
def RowsC (n : Nat) (s : List Int) : Prop := ∀ (l : List V), OfOk s l → ∀ (h : List HB) (x0 x1 : TV), VRV Tr h (lstI s) x0 → VRV Tr h (lstV l) x1 → ∃ v h' L, ApN n (.fn 115 [] []) [x0, x1] h = some (v, h', []) ∧ RowsP h h' L v ∧ L.map (·.r) = dOf s l
abbrev WO (h : List HB) (vs vo : TV) (b3 b6 : Nat) (j : Int) : St := ⟨[(0, .val vs), (5, .val vo), (7, .val (clR b3 b6)), (8, .val (.int .i64 j))], [], h, []⟩
noncomputable abbrev RdO (N fl m : Nat) (s : St) : Option (Ex × St) := rounds Tryz.prog T (ApN N) LL 115 0 fl m s
noncomputable abbrev hdO (s : St) : St := headOf Tryz.prog T 115 0 s
theorem rounds_le {P : Program} {T : Tab} {call : CallT} {L f k fl a b : Nat} {s : St} {r : Ex × St} (h : rounds P T call L f k fl a s = some r) (hab : a ≤ b) : rounds P T call L f k fl b s = some r := Tw.iter_le h hab
theorem VRV.tail {h : List HB} {a : Int} {s : List Int} {x : TV} (hv : VRV Tr h (lstI (a :: s)) x) : ∃ w, sliceT Tryz.prog 119 x (some (.int .i64 1)) none none = some w ∧ VRV Tr h (lstI s) w := by
 have := Pv.slice_ok (X := X0) (P := Tryz.prog) (A := Tr) (m := []) (ps := ⟨[], [], []⟩) (ts := ⟨[], [], h, []⟩) ⟨⟨rfl, fun i b hb => by simp at hb, by simp [blks], fun _ _ => trivial, fun b hb => by simp [blks] at hb⟩, rfl, fun k cs hc => by simp at hc, .nil⟩ (t := 119) (lo := some (.int .i64 1)) (hi := none) (mx := none) hv (tlo := some (.int .i64 1)) (thi := none) (tmx := none) (Pv.VR.int .i64 1) trivial trivial (v := lstI (((a :: s).take (((a :: s).length : Nat) : Int).toNat).drop (1 : Int).toNat)) (qs := [0 ≤ (1 : Int), (1 : Int) ≤ ((a :: s).length : Nat), (((a :: s).length : Nat) : Int) ≤ ((a :: s).length : Nat)]) (by kernel_rfl) (fun q hq => by
  rcases List.mem_cons.1 hq with rfl | hq
  ·omega
  rcases List.mem_cons.1 hq with rfl | hq
  ·simp only [List.length_cons]; omega
  rw [List.mem_singleton.1 hq]; exact Int.le_refl _)
 obtain ⟨w, h1, h2⟩ := this
 refine ⟨w, h1, ?_⟩
 rw [show ((a :: s).take (((a :: s).length : Nat) : Int).toNat).drop (1 : Int).toNat = s by rw [Int.toNat_natCast, List.take_length]; rfl] at h2
 exact h2
structure RunI (fl : Nat) (h : List HB) (s : List Int) (l : List V) (n w : Nat) (vs vc vo : TV) (b3 b6 : Nat) (O : List RT) : Prop where
 fle : fl ≤ h.length
 hs : VRF fl h (lstI ((n : Int) :: s)) vs
 hc : VRF fl h (lstV l) vc
 h3 : h[b3]? = some (.cells .own [vc])
 h6 : h[b6]? = some (.cells .own [.int .i64 w])
 ro : RO h fl O
 out : OutL h O vo
 lo : ∀ b ∈ lbT vo, fl ≤ b ∧ b ∉ bsO O
 n3 : b3 ∉ bsO O ++ lbT vo
 n6 : b6 ∉ bsO O ++ lbT vo
theorem lRows {N fl : Nat} (hO : ∀ m, N ≤ m → Ok m oc160) {s : List Int} {l : List V} {n w : Nat} {vs vc : TV} {b3 b6 : Nat} (hOf : OfOk ((n : Int) :: s) l) (hw : l.length / n = w) (hR : RowsC (N + 1) s) : ∀ (m j : Nat) (h : List HB) (vo : TV) (O : List RT) (st : St), hdO st = WO h vs vo b3 b6 (j : Nat) → RunI fl h s l n w vs vc vo b3 b6 O → O.length ≤ j * w → j ≤ n → n ≤ m + j →
  ∃ h' vo' O', RdO (N + 1) fl (m + 1) st = some (.exit 0, ⟨(WO h' vs vo' b3 b6 (n : Nat)).env ++ [(31, .val (.bool false))], [], h', []⟩) ∧ RunI fl h' s l n w vs vc vo' b3 b6 O' ∧ O'.map (·.r) = runsF s l w n m j (O.map (·.r)) ∧ h.length ≤ h'.length ∧ ∀ b, b < fl → h'[b]? = h[b]? := by
 obtain ⟨w1, w2, w3, w4⟩ := hOf.w
 have hpp := prodI_pos hOf.fine.sz.tail
 have hn : (n : Int).toNat = n := by omega
 rw [hn, hw] at w1 w2
 have hm2 := hOf.fine.many
 have hlen := hOf.len
 have hwp : 0 < w := by omega
 have hP : Prt l w n := ⟨by omega, by
  have h9 : 1 * w ≤ n * w := Nat.mul_le_mul_right w (by omega)
  omega, w1⟩
 have hix : idx ((n : Int) :: s).length (.int .i64 0) = some 0 := by
  show (if 0 ≤ (0 : Int) ∧ (0 : Int) < (((n : Int) :: s).length : Nat) then some (0 : Int).toNat else none) = _
  rw [if_pos ⟨by omega, by simp only [List.length_cons]; omega⟩]; rfl
 intro m
 induction m with
 | zero =>
  intro j h vo O st hst hI hol hjn hm
  have hj : j = n := by omega
  subst hj
  obtain ⟨bs, os, cs, ex, rfl⟩ := hI.hs.up.slc szInt (fun e => by cases e)
  have hr0 : rdAt false 1 h bs (os + 0 * 1) (os + cs * 1) = some (.int .i64 (j : Int)) := (hI.hs.up.rd (j := 0) (by simp)).1
  refine ⟨h, vo, O, ?_, hI, rfl, Nat.le_refl _, fun b _ => rfl⟩
  have hno : decide ((j : Int) < (j : Int)) = false := lt_no j
  have := round_out (P := Tryz.prog) (T := T) (call := ApN (N + 1)) (L := LL) (f := 115) (k := 0) (fl := fl) (m := 0) (s := st) (s1 := ⟨(WO h (.slc bs os ((j : Int) :: s).length cs 1 ex) vo b3 b6 (j : Nat)).env ++ [(31, .val (.bool (decide ((j : Int) < (j : Int)))))], [], h, []⟩) (e := .exit 0) (by rw [show headOf Tryz.prog T 115 0 st = _ from hst]; kernel_rfl) (.i hix (.l hr0 (.b hno .n))) rfl
  rw [hno] at this
  exact this
 | succ m ih =>
  intro j h vo O st hst hI hol hjn hm
  obtain ⟨bs, os, cs, ex, rfl⟩ := hI.hs.up.slc szInt (fun e => by cases e)
  have hr0 : rdAt false 1 h bs (os + 0 * 1) (os + cs * 1) = some (.int .i64 (n : Int)) := (hI.hs.up.rd (j := 0) (by simp)).1
  unfold runsF
  rcases Nat.lt_or_ge j n with hjl | hjl
  ·rw [if_pos hjl]
   obtain ⟨h1, a1, a2⟩ := lTo (fl := fl) hO (A := Tr) (vo := vo) hP hwp hjl n j h ⟨(WT h (.slc bs os ((n : Int) :: s).length cs 1 ex) vo b3 b6 j (j : Nat)).env, [], h, []⟩ (fun _ _ => trivial) hI.hs.up hI.hc.up hI.h3 hI.h6 (by kernel_rfl) hjl (by omega)
   have a1 := rounds_le a1 (b := LL) (by have := LLm; unfold most at this; have := hP.n12; omega)
   have e1 : rTo l w n j < n := rEnd_lt hjl
   have e2 : j ≤ rTo l w n j := rEnd_ge
   have a1 : RdT (N + 1) fl LL ⟨(WT h (.slc bs os ((n : Int) :: s).length cs 1 ex) vo b3 b6 j (j : Nat)).env, [], h, []⟩ = some (.exit 2, ⟨(WT h1 (.slc bs os ((n : Int) :: s).length cs 1 ex) vo b3 b6 j (rTo l w n j : Nat)).env ++ [(50, .val (.bool false))], [], h1, []⟩) := a1
   generalize rTo l w n j = to at a1 e1 e2 ⊢
   have hl3 := (List.getElem?_eq_some_iff.1 hI.h3).1
   have hl6 := (List.getElem?_eq_some_iff.1 hI.h6).1
   have f3 : h1[b3]? = some (.cells .own [vc]) := by rw [a2.2 _ hl3 (by simp)]; exact hI.h3
   have f6 : h1[b6]? = some (.cells .own [.int .i64 w]) := by rw [a2.2 _ hl6 (by simp)]; exact hI.h6
   have g1 := hI.hs.stay rfl a2 (by simp)
   have g2 := hI.hc.stay rfl a2 (by simp)
   obtain ⟨v57, b1, b2⟩ := cBlk (n := N) (A := Tr) (fun _ _ => trivial) g2.up hP hwp hjl f3 f6
   obtain ⟨v54, c1, c2⟩ := g1.up.tail
   have hOk : OfOk s (blk l w j) := by have := hOf.blk (j := j) (by omega); rw [hn, hw] at this; exact this
   obtain ⟨v, h2, L, d1, d2, d3⟩ := hR (blk l w j) hOk h1 v54 v57 c2 b2
   obtain ⟨bl, e, k, rfl, q1, q2, q3, q4⟩ := d2.sl
   have hLl : L.length ≤ w := by
    have h9 := dOf_len hOk
    rw [← d3, List.length_map, blk_len hP.len hjl] at h9
    exact h9
   have hOL : bsO (O ++ L) = bsO O ++ bsO L := bsO_app O L
   have hs12 : Stay h h2 [] := a2.trans d2.stay (by simp)
   have ho2 : RO h2 fl O := hI.ro.stay hs12 (by simp)
   have hbO : ∀ b ∈ bsO O, b < h.length := fun b hb => hI.ro.lt hb
   have hbL : ∀ b ∈ bsO L, h.length ≤ b := fun b hb => by have := d2.ro.lo b hb; have := a2.1; omega
   have hbo : ∀ b ∈ lbT vo, b < h.length := fun b hb => hI.out.lt hb
   have hfl := hI.fle
   have hrl : RO h2 fl (O ++ L) := by
    refine ⟨fun x hx => ?_, ?_, fun b hb => ?_⟩
    ·rcases List.mem_append.1 hx with hx | hx
     ·exact ho2.own x hx
     ·exact d2.ro.own x hx
    ·rw [hOL]
     exact List.nodup_append.2 ⟨hI.ro.nd, d2.ro.nd, fun a ha b hb e => by subst e; have := hbO a ha; have := hbL a hb; omega⟩
    ·rw [hOL] at hb
     rcases List.mem_append.1 hb with hb | hb
     ·exact hI.ro.lo b hb
     ·have := hbL b hb; omega
   have hnot : ∀ b, b < h.length → b ∉ bsO O → b ∉ bsO (O ++ L) := fun b hb h9 h8 => by
    rw [hOL] at h8
    rcases List.mem_append.1 h8 with h8 | h8
    ·exact h9 h8
    ·have := hbL b h8; omega
   have hnm : L.length ≤ most := by have := hP.w2; unfold most; omega
   have htot : O.length + L.length ≤ (to + 1) * w := by
    have h9 : (j + 1) * w ≤ (to + 1) * w := Nat.mul_le_mul_right w (by omega)
    rw [Nat.add_mul] at h9
    omega
   have htm : O.length + L.length ≤ most := by
    have h9 : (to + 1) * w ≤ n * w := Nat.mul_le_mul_right w e1
    have : n * w ≤ 5000 := by omega
    unfold most; omega
   have h2l : h.length ≤ h2.length := hs12.1
   have hrows : ∀ x ∈ L, x.r.fr.length ≤ 2 ^ 20 ∧ x.r.to.length ≤ 2 ^ 20 := fun x hx => by
    have h9 := dOf_rows s (blk l w j) x.r (by rw [← d3]; exact List.mem_map.2 ⟨x, hx, rfl⟩)
    have := hOk.fine.len
    omega
   obtain ⟨h3, vo', O', i1, i2⟩ := lIns (N := N) (fl := fl) (vs := .slc bs os ((n : Int) :: s).length cs 1 ex) (b3 := b3) (b6 := b6) (j := j) (to := to) (bl := bl) (nn := L.length) (e := e) (L := L) rfl hnm L 0 (L.length + 1) h2 vo O ⟨(WI h2 (.slc bs os ((n : Int) :: s).length cs 1 ex) vo b3 b6 j to bl L.length e 0).env, [], h2, []⟩ (by kernel_rfl) rfl (by omega) (by omega) hrl (hI.out.stay hs12 (by simp)) (fun b hb => ⟨(hI.lo b hb).1, hnot b (hbo b hb) (hI.lo b hb).2⟩) ⟨k, q1⟩ (fun h9 => by
     rw [hOL] at h9
     rcases List.mem_append.1 h9 with h9 | h9
     ·have := hbO bl h9; have := a2.1; omega
     ·exact q4 h9) (fun h9 => by have := hbo bl h9; have := a2.1; omega) hrows htm (by omega)
   have i1 := rounds_le i1 (b := LL) (by have := LLm; omega)
   have hw1 : IntKind.i64.wrap ((to : Int) + 1) = ((to + 1 : Nat) : Int) := wsucc (m20 (by have := hP.n12; omega))
   have hst3 : ∀ b, b ∈ bsO (O ++ L) ++ lbT vo → fl ≤ b := fun b hb => by
    rcases List.mem_append.1 hb with hb | hb
    ·exact hrl.lo b hb
    ·exact (hI.lo b hb).1
   have h3l := i2.stay.1
   have hb3 : b3 ∉ bsO (O ++ L) ++ lbT vo := fun h9 => by
    rcases List.mem_append.1 h9 with h9 | h9
    ·exact hnot b3 hl3 (fun h8 => hI.n3 (List.mem_append_left _ h8)) h9
    ·exact hI.n3 (List.mem_append_right _ h9)
   have hb6 : b6 ∉ bsO (O ++ L) ++ lbT vo := fun h9 => by
    rcases List.mem_append.1 h9 with h9 | h9
    ·exact hnot b6 hl6 (fun h8 => hI.n6 (List.mem_append_left _ h8)) h9
    ·exact hI.n6 (List.mem_append_right _ h9)
   have hI3 : RunI fl h3 s l n w (.slc bs os ((n : Int) :: s).length cs 1 ex) vc vo' b3 b6 O' := by
    refine ⟨by omega, (g1.stay rfl d2.stay (by simp)).stay rfl i2.stay hst3, (g2.stay rfl d2.stay (by simp)).stay rfl i2.stay hst3, ?_, ?_, i2.ro, i2.out, i2.lo, fun h9 => ?_, fun h9 => ?_⟩
    ·rw [i2.stay.2 b3 (by omega) hb3, d2.stay.2 b3 (by have := a2.1; omega) (by simp)]; exact f3
    ·rw [i2.stay.2 b6 (by omega) hb6, d2.stay.2 b6 (by have := a2.1; omega) (by simp)]; exact f6
    ·rcases i2.new b3 h9 with h8 | h8
     ·exact hb3 h8
     ·omega
    ·rcases i2.new b6 h9 with h8 | h8
     ·exact hb6 h8
     ·omega
   have hOl : O'.length = O.length + L.length := by
    have := congrArg List.length i2.rows
    simpa using this
   obtain ⟨h4, vo4, O4, k1, k2, k3, k4, k5⟩ := ih (to + 1) h3 vo' O' ⟨(WO h3 (.slc bs os ((n : Int) :: s).length cs 1 ex) vo' b3 b6 (IntKind.i64.wrap ((to : Int) + 1))).env, [], h3, []⟩ (by rw [hw1]; kernel_rfl) hI3 (by omega) (by omega) (by omega)
   refine ⟨h4, vo4, O4, ?_, k2, ?_, by omega, fun b hb => ?_⟩
   ·exact round_on (s1 := ⟨(WO h3 (.slc bs os ((n : Int) :: s).length cs 1 ex) vo' b3 b6 (IntKind.i64.wrap ((to : Int) + 1))).env, [], h3, []⟩) (by rw [show headOf Tryz.prog T 115 0 st = _ from hst]; kernel_rfl) (.i hix (.l hr0 (.b (lt_nat hjl) (.w a1 (.r c1 (.c b1 (.c d1 (.k (show lenT Tryz.prog #[26] h2 (.slc bl 0 L.length L.length 4 e) = some (.int .i64 (L.length : Nat), noInf) by kernel_rfl) (.w i1 .n))))))))) k1
   ·rw [k3, i2.rows, ← d3, List.map_map]; rfl
   ·rw [k5 b hb, i2.stay.2 b (by omega) (fun h9 => by have := hst3 b h9; omega), hs12.2 b (by omega) (by simp)]
  ·have hj : j = n := by omega
   subst hj
   rw [if_neg (by omega)]
   refine ⟨h, vo, O, ?_, hI, rfl, Nat.le_refl _, fun b _ => rfl⟩
   have hno : decide ((j : Int) < (j : Int)) = false := lt_no j
   have := round_out (P := Tryz.prog) (T := T) (call := ApN (N + 1)) (L := LL) (f := 115) (k := 0) (fl := fl) (m := m + 1) (s := st) (s1 := ⟨(WO h (.slc bs os ((j : Int) :: s).length cs 1 ex) vo b3 b6 (j : Nat)).env ++ [(31, .val (.bool (decide ((j : Int) < (j : Int)))))], [], h, []⟩) (e := .exit 0) (by rw [show headOf Tryz.prog T 115 0 st = _ from hst]; kernel_rfl) (.i hix (.l hr0 (.b hno .n))) rfl
   rw [hno] at this
   exact this
end Go.Proofs.YtmefgijobonklaaGreat
namespace Go.Proofs.YtmefgijobonklaaGreat
open Go Tw Pv Mist
theorem VRV.rdV {A : Nat → Prop} {h : List HB} {l : List V} {b off n cap : Nat} {ex : Bool} (hv : VRV A h (lstV l) (.slc b off n cap 2 ex)) {j : Nat} (hj : j < l.length) : rdAt true 2 h b (off + j * 2) (off + cap * 2) = some (V.tv (l.getD j V0)) := by
 rcases lst_SlR hv szV with ⟨e, _⟩ | ⟨b', off', cap', ex', cs, e, h1, h2, h3, h4⟩
 ·cases e
 ·cases e
  have hne : l ≠ [] := fun e => by rw [e] at hj; simp at hj
  have h3 := h3 hne
  unfold rdAt
  rw [h3]
  simp only []
  have h9 : l.length ≤ cap := h1
  have hlen := h4.2.1
  have hlen : off + l.length * 2 ≤ cs.length := hlen
  rw [if_pos (by omega)]
  have hg : l[j]? = some (l.getD j V0) := by rw [List.getD_eq_getElem?_getD, List.getElem?_eq_getElem hj]; rfl
  have h5 := h4.2.2 j (l.getD j V0) 0 (.int .u8 (l.getD j V0).f) cs[off + j * 2] hg rfl (by rw [Nat.add_zero]; exact List.getElem?_eq_getElem (by omega))
  have h6 := h4.2.2 j (l.getD j V0) 1 (.int .i64 (l.getD j V0).n) cs[off + j * 2 + 1] hg rfl (List.getElem?_eq_getElem (by omega))
  have hs : sub cs (off + j * 2) 2 = some [cs[off + j * 2], cs[off + j * 2 + 1]] := by
   unfold sub
   rw [if_pos (by omega)]
   congr 1
   apply List.ext_getElem?
   intro i
   rcases i with _ | _ | i
   ·simp
   ·simp [List.getElem?_take, List.getElem?_drop]
   ·simp [List.getElem?_take]; omega
  simp only [if_true, hs, Option.map_some, h5.int_inv, h6.int_inv]
theorem rows_nil {N : Nat} : RowsC (N + 1) [] := fun l hOf h x0 x1 h0 h1 => by
 have hl : l.length = 1 := by have := hOf.len; simp [prodI] at this; omega
 obtain ⟨b, off, cap, ex, rfl⟩ := h1.slc szV (fun e => by rw [e] at hl; cases hl)
 have e0 : lenT Tryz.prog #[119] (h ++ [.cells .own [.slc b off l.length cap 2 ex]]) x0 = some (.int .i64 (0 : Nat), noInf) := by
  rcases lst_SlR h0 szInt with ⟨rfl, _⟩ | ⟨b', off', cap', ex', cs, rfl, _⟩
  ·kernel_rfl
  ·kernel_rfl
 have r1 : rdAt false 1 (h ++ [.cells .own [.slc b off l.length cap 2 ex]]) h.length 0 1 = some (.slc b off l.length cap 2 ex) := by
  unfold rdAt blkLim; simp
 have s1 : Stay h (h ++ [.cells .own [.slc b off l.length cap 2 ex]]) [] := .push
 have r2 := (h1.stay s1).rdV (j := 0) (by omega)
 have hix : idx l.length (.int .i64 0) = some 0 := by
  show (if 0 ≤ (0 : Int) ∧ (0 : Int) < (l.length : Nat) then some (0 : Int).toNat else none) = _
  rw [if_pos ⟨by omega, by omega⟩]; rfl
 have hv : dOf [] l = [⟨[], [], l.getD 0 V0⟩] := rfl
 generalize l.getD 0 V0 = v at r2 hv
 refine ⟨.slc (h ++ [HB.cells .own [.slc b off l.length cap 2 ex]]).length 0 1 1 4 true, h ++ [.cells .own [.slc b off l.length cap 2 ex]] ++ [.cells .own [.nil .slc, .nil .slc, .int .u8 v.f, .int .i64 v.n]], [⟨⟨[], [], v⟩, .nil .slc, .nil .slc⟩], ?_, ⟨⟨fun x hx => ?_, by simp [bsO, bsX, lbT], fun b hb => by simp [bsO, bsX, lbT] at hb⟩, ⟨_, true, .own, rfl, ?_, by simp, by simp, by simp [bsO, bsX, lbT]⟩, s1.trans (Stay.push (bs := [])) (by simp)⟩, by rw [hv]; rfl⟩
 ·rw [show ApN (N + 1) = apN Tryz.prog T LL (N + 1) from rfl, apN_fn (by kernel_rfl)]
  exact funN_path (P := Tryz.prog) (T := T) (call := ApN N) (L := LL) (f := 115) (args := [x0, .slc b off l.length cap 2 ex]) (h := h) (vs := [.slc (h ++ [HB.cells .own [.slc b off l.length cap 2 ex]]).length 0 1 1 4 true]) (e := .ret) (s := ⟨[(4, .val (.slc (h ++ [HB.cells .own [.slc b off l.length cap 2 ex]]).length 0 1 1 4 true))], [], h ++ [.cells .own [.slc b off l.length cap 2 ex]] ++ [.cells .own [.nil .slc, .nil .slc, .int .u8 v.f, .int .i64 v.n]], []⟩) (by kernel_rfl) (.k e0 (.b (rfl : ((0 : Int) == 0) = true) (.l r1 (.i hix (.l r2 .n))))) (.inr rfl) (by kernel_rfl) (by kernel_rfl)
 ·rw [List.mem_singleton.1 hx]; exact ⟨.nil, .nil⟩
 ·simp [flT, rowT]
theorem dOf_ne : ∀ {s : List Int} {l : List V}, OfOk s l → dOf s l ≠ []
 | [], l, _ => by simp [dOf]
 | a :: s, l, h => by
  obtain ⟨h1, h2, h3⟩ := h.w
  rw [dOf_cons]
  have := foldN_inv (g := gOf s l (l.length / a.toNat) a.toNat) (m := a.toNat) (k := 0) (s := []) (fun k acc => 0 < k → acc ≠ []) (by simp) (fun j acc _ hj hq _ => by
   unfold gOf
   split
   ·rename_i hc; exact hq hc.1
   ·have := dOf_ne (h.blk (j := j) (by omega))
    simp [this])
  exact this (by omega)
theorem rows_cons {N : Nat} (hO : ∀ m, N ≤ m → Ok m oc160) {a : Int} {s : List Int} (hR : RowsC (N + 1) s) : RowsC (N + 2) (a :: s) := fun l hOf h x0 x1 h0 h1 => by
 obtain ⟨w1, w2, w3, w4⟩ := hOf.w
 obtain ⟨n, rfl⟩ : ∃ n : Nat, a = n := ⟨a.toNat, by omega⟩
 have hpp := prodI_pos hOf.fine.sz.tail
 obtain ⟨w, hw⟩ : ∃ w, l.length / n = w := ⟨_, rfl⟩
 rw [Int.toNat_natCast, hw] at w1 w2
 have hm2 := hOf.fine.many
 have hlen := hOf.len
 have hln : l ≠ [] := fun e => by
  rw [e] at w1
  have h9 : 1 * 1 ≤ n * w := Nat.mul_le_mul (by omega) (by omega)
  simp at w1; omega
 obtain ⟨bc, oc, cc, exc, rfl⟩ := h1.slc szV hln
 obtain ⟨bs, os, cs, exs, rfl⟩ := h0.slc szInt (fun e => by cases e)
 obtain ⟨x1, hx1⟩ : ∃ x1, x1 = TV.slc bc oc l.length cc 2 exc := ⟨_, rfl⟩
 have h1 : VRV Tr h (lstV l) x1 := by rw [hx1]; exact h1
 let hA : List HB := h ++ [.cells .own [x1]]
 let hB : List HB := hA ++ [.cells .own [.int .i64 0]]
 let hm : List HB := hB.set hA.length (.cells .own [.int .i64 (w : Nat)])
 have sA : Stay h hA [] := .push
 have lA : hA.length = h.length + 1 := by simp [hA]
 have sm : Stay hA hm [] := ⟨by simp [hm, hB], fun b hb _ => by
  show (hB.set hA.length _)[b]? = _
  rw [List.getElem?_set_ne (by omega)]
  show (hA ++ _)[b]? = _
  rw [List.getElem?_append_left hb]⟩
 have shm : Stay h hm [] := sA.trans sm (by simp)
 have q3 : hm[h.length]? = some (.cells .own [x1]) := by rw [sm.2 _ (by omega) (by simp)]; simp [hA]
 have q6 : hm[hA.length]? = some (.cells .own [.int .i64 (w : Nat)]) := by
  show (hB.set hA.length _)[hA.length]? = _
  rw [List.getElem?_set_self (by simp [hB])]
 have r1 : rdAt false 1 hA h.length 0 1 = some x1 := by
  have : blkLim hA h.length 1 = some [x1] := by unfold blkLim; simp [hA]
  unfold rdAt; rw [this]; rfl
 have r0 := ((h0.stay sA).rd (j := 0) (by simp)).1
 have r0 : rdAt false 1 hA bs (os + 0 * 1) (os + cs * 1) = some (.int .i64 (n : Int)) := r0
 have hix : idx ((n : Int) :: s).length (.int .i64 0) = some 0 := by
  show (if 0 ≤ (0 : Int) ∧ (0 : Int) < (((n : Int) :: s).length : Nat) then some (0 : Int).toNat else none) = _
  rw [if_pos ⟨by omega, by simp only [List.length_cons]; omega⟩]; rfl
 have hq : binT Tryz.prog .quo 3 (.tmp 21) (.tmp 24) (.int .i64 (l.length : Nat)) (.int .i64 (n : Int)) = some (.int .i64 (w : Nat)) := by
  rw [binT_quo (by omega), quo_nn (by omega) (by omega) (by omega), ← hw]
  congr 2
 have hst : setH hB hA.length 0 1 [.int .i64 (w : Nat)] = some hm := by
  rw [setH_own (cs := [.int .i64 0]) (by simp [hB])]
  rfl
 have hadd : addW h.length hA.length [] = [] := by unfold addW; rw [if_neg (by omega)]
 have hne : (((n : Int) :: s).length == 0) = false := rfl
 have ht1 : (((((n : Int) :: s).length : Nat) : Int) == 0) = false := by
  rw [beq_eq_false_iff_ne]; simp only [List.length_cons]; omega
 have hL0 := VRV.lowI h0
 have hL1 := VRV.lowV h1
 have hI : RunI h.length hm s l n w (.slc bs os ((n : Int) :: s).length cs 1 exs) x1 (.nil .slc) h.length hA.length [] :=
  ⟨shm.1, hL0.stay rfl shm (by simp), hL1.stay rfl shm (by simp), q3, q6, ⟨by simp, by simp [bsO], by simp [bsO]⟩, .nil, by simp [lbT], by simp [bsO, lbT], by simp [bsO, lbT]⟩
 obtain ⟨h', vo', O', k1, k2, k3, k4, k5⟩ := lRows (N := N) (fl := h.length) hO hOf hw hR n 0 hm (.nil .slc) [] ⟨(WO hm (.slc bs os ((n : Int) :: s).length cs 1 exs) (.nil .slc) h.length hA.length (0 : Nat)).env, [], hm, []⟩ (by kernel_rfl) hI (by simp) (by omega) (by omega)
 have k1 := rounds_le k1 (b := LL) (by have := LLm; unfold most at this; omega)
 have hd : O'.map (·.r) = dOf ((n : Int) :: s) l := by
  rw [k3, List.map_nil, runs_eq n 0 [] (by omega) (by omega) (.inl rfl), dOf_cons, Int.toNat_natCast, hw, Nat.sub_zero]
 have hO' : O' ≠ [] := fun e => by rw [e] at hd; exact dOf_ne hOf hd.symm
 have ho := k2.out
 generalize hvo : vo' = vx at ho
 cases ho with
 | nil => exact absurd rfl hO'
 | @some _ b k g1 g2 g3 =>
  subst hvo
  refine ⟨_, h', O', ?_, ⟨k2.ro, ⟨b, false, k, rfl, g2, g3, (k2.lo b (by simp [lbT])).1, (k2.lo b (by simp [lbT])).2⟩, ?_⟩, hd⟩
  ·rw [show ApN (N + 2) = apN Tryz.prog T LL (N + 1 + 1) from rfl, apN_fn (by kernel_rfl)]
   subst hx1
   exact funN_path (P := Tryz.prog) (T := T) (call := ApN (N + 1)) (L := LL) (f := 115) (args := [.slc bs os ((n : Int) :: s).length cs 1 exs, .slc bc oc l.length cc 2 exc]) (h := h) (vs := [.slc b 0 O'.length O'.length 4 false]) (e := .ret) (s := ⟨[(4, .val (.slc b 0 O'.length O'.length 4 false))], [], h', []⟩) (by kernel_rfl) (.k (show lenT Tryz.prog #[119] hA (.slc bs os ((n : Int) :: s).length cs 1 exs) = some (.int .i64 (((n : Int) :: s).length : Nat), noInf) by kernel_rfl) (.b ht1 (.l r1 (.k (show lenT Tryz.prog #[23] hA (.slc bc oc l.length cc 2 exc) = some (.int .i64 (l.length : Nat), noInf) by kernel_rfl) (.i hix (.l r0 (.r hq (.a (.st hm []) (.o hst (.o (show 0 + 1 ≤ 1 by omega) (.o hadd (.w k1 .n)))))))))))) (.inr rfl) (by kernel_rfl) (by kernel_rfl)
  ·exact ⟨by have := shm.1; omega, fun b hb _ => by rw [k5 b hb, shm.2 b hb (by simp)]⟩
end Go.Proofs.YtmefgijobonklaaGreat
namespace Go.Proofs.YtmefgijobonklaaGreat
open Go Tw Pv Mist
theorem flT_get : ∀ {L : List RT} {j i : Nat} {x : RT}, L[j]? = some x → i < 4 → (flT L)[j * 4 + i]? = (rowT x)[i]?
 | [], j, i, x, h, _ => by simp at h
 | y :: L, 0, i, x, h, hi => by
  simp only [List.getElem?_cons_zero, Option.some.injEq] at h; subst h
  show (rowT y ++ flT L)[0 * 4 + i]? = _
  rw [Nat.zero_mul, Nat.zero_add, List.getElem?_append_left (by simp only [List.length_cons, List.length_nil]; omega)]
 | y :: L, j + 1, i, x, h, hi => by
  have ih := flT_get (L := L) (j := j) (i := i) (x := x) (by simpa using h) hi
  show (rowT y ++ flT L)[(j + 1) * 4 + i]? = _
  rw [List.getElem?_append_right (by simp only [List.length_cons, List.length_nil]; omega), ← ih]
  congr 1
  simp only [List.length_cons, List.length_nil]; omega
theorem szRw : sizeT Tryz.prog 95 = some 4 := by kernel_rfl
theorem OwnL.vr {A : Nat → Prop} {h : List HB} {l : List Int} {v : TV} (hv : OwnL h l v) (hA : ∀ b ∈ lbT v, A b) : Pv.VR X0 Tryz.prog A [] h (lstI l) v := by
 cases hv with
 | nil => exact .lstN
 | @some _ b k h0 h1 h2 =>
  have hc : blkCells h b = Option.some (intsV l) := by unfold blkCells; rw [h1]
  have hl : (intsV l).length = l.length := List.length_map ..
  refine Pv.VR.lst (X := X0) (P := Tryz.prog) (A := A) (m := []) (h := h) (t := 3) (l := l) (fu := false) (b := b) (off := 0) (cap := l.length) (sz := 1) (ex := false) (cs := intsV l) (hA b (by simp [lbT])) hc (fun _ => blkLim_end h1 (by rw [hl]; omega)) szInt (by omega) (by show 0 + l.length * 1 ≤ (intsV l).length; omega) (Nat.le_refl _) (fun h => by cases h) (fun j a _ => rfl) fun j a i c w h3 h4 h5 => ?_
  cases i with
  | zero =>
   have h4 : Option.some (PV.int .i64 a) = Option.some c := h4
   cases h4
   have h3 : l[j]? = Option.some a := h3
   rw [Nat.zero_add, Nat.mul_one, Nat.add_zero, List.getElem?_map, h3] at h5
   have h5 : Option.some (TV.int .i64 a) = Option.some w := h5
   cases h5
   exact .int _ _
  | succ i => have h4 : ([] : List (PV gam))[i]? = Option.some c := h4; simp at h4
theorem rowsP_vr {A : Nat → Prop} {h h' : List HB} {L : List RT} {v : TV} (hp : RowsP h h' L v) (hA : ∀ b, h.length ≤ b → A b) {rs : List Rw} (hrs : L.map (·.r) = rs) : Pv.VR X0 Tryz.prog A [] h' (.lst 95 rs false) v := by
 obtain ⟨b, e, k, rfl, h1, h2, h3, h4⟩ := hp.sl
 have hc : blkCells h' b = some (flT L) := by unfold blkCells; rw [h1]
 have hl := flT_len L
 have hm : rs.length = L.length := by rw [← hrs]; exact List.length_map ..
 rw [← hm]
 refine Pv.VR.lst (X := X0) (P := Tryz.prog) (A := A) (m := []) (h := h') (t := 95) (l := rs) (fu := false) (b := b) (off := 0) (cap := rs.length) (sz := 4) (ex := e) (cs := flT L) (hA b h3) hc (fun _ => blkLim_end h1 (by rw [hl]; omega)) szRw (by omega) (by show 0 + rs.length * 4 ≤ (flT L).length; omega) (Nat.le_refl _) (fun h => by cases h) (fun j a _ => rfl) (fun j a i c w h5 h6 h7 => by
  have h5 : rs[j]? = some a := h5
  rw [← hrs, List.getElem?_map] at h5
  cases hx : L[j]? with
  | none => rw [hx] at h5; cases h5
  | some x =>
   rw [hx] at h5
   have h5 : some x.r = some a := h5
   cases h5
   have hxm := hp.ro.own x (List.mem_of_getElem? hx)
   have hi : i < 4 := by
    have := (List.getElem?_eq_some_iff.1 h6).1
    exact this
   rw [Nat.zero_add, flT_get hx hi] at h7
   have hb : ∀ b ∈ bsX x, A b := fun b hb => hA b (hp.ro.lo b (List.mem_flatMap.2 ⟨x, List.mem_of_getElem? hx, hb⟩))
   rcases i with _ | _ | _ | _ | i
   ·have h6 : some (lstI x.r.fr) = some c := h6
    have h7 : some x.f = some w := h7
    cases h6; cases h7
    exact hxm.1.vr fun b hb2 => hb b (List.mem_append_left _ hb2)
   ·have h6 : some (lstI x.r.to) = some c := h6
    have h7 : some x.t = some w := h7
    cases h6; cases h7
    exact hxm.2.vr fun b hb2 => hb b (List.mem_append_right _ hb2)
   ·have h6 : some (PV.int .u8 x.r.cell.f) = some c := h6
    have h7 : some (TV.int .u8 x.r.cell.f) = some w := h7
    cases h6; cases h7
    exact .int _ _
   ·have h6 : some (PV.int .i64 x.r.cell.n) = some c := h6
    have h7 : some (TV.int .i64 x.r.cell.n) = some w := h7
    cases h6; cases h7
    exact .int _ _
   ·omega)
theorem con_rows {n : Nat} {s : List Int} {l : List V} (hR : RowsC (n + 1) s) (hOf : OfOk s l) : Con X0 Tryz.prog (ApN (n + 1)) 115 [lstI s, lstV l] (rwsA.put (dOf s l)) [] := by
 intro A h first args cap hup hv
 obtain ⟨x0, r, e1, h0, hv⟩ := hv.inv
 obtain ⟨x1, r2, rfl, h1, hv⟩ := hv.inv
 have := hv.inv0
 subst this
 obtain ⟨v, h', L, a1, a2, a3⟩ := hR l hOf h x0 x1 (h0.mono fun b _ => ⟨trivial, by simp [blks]⟩) (h1.mono fun b _ => ⟨trivial, by simp [blks]⟩)
 refine ⟨v, h', [], ?_, ⟨rfl, fun i b hb => by simp at hb, by simp [blks], fun b hb => hup b (by have := a2.stay.1; omega), fun b hb => by simp [blks] at hb⟩, ?_, ⟨a2.stay.1, fun b hb _ => a2.stay.2 b hb (by simp), fun b hb => by simp [blks] at hb, fun b cs hc => ⟨cs, by rw [blkCells_same (a2.stay.2 b (blkCells_lt hc) (by simp)), hc], Nat.le_refl _⟩⟩⟩
 ·rw [show ApN (n + 1) = apN Tryz.prog T LL (n + 1) from rfl, apN_fn (by kernel_rfl)] at a1 ⊢
  rw [e1]
  exact a1
 ·exact rowsP_vr (A := AA A []) a2 (fun b hb => ⟨hup b hb, by simp [blks]⟩) a3
theorem rows_all : ∀ (s : List Int) {N : Nat}, (∀ m, N ≤ m → Ok m oc160) → ∀ m, N + s.length + 1 ≤ m → RowsC m s
 | [], N, hO, m, hm => by
  obtain ⟨k, rfl⟩ : ∃ k, m = k + 1 := ⟨m - 1, by omega⟩
  exact rows_nil
 | a :: s, N, hO, m, hm => by
  simp only [List.length_cons] at hm
  obtain ⟨k, rfl⟩ : ∃ k, m = k + 2 := ⟨m - 2, by omega⟩
  exact rows_cons (N := k) (fun q hq => hO q (by omega)) (rows_all s hO (k + 1) (by omega))
noncomputable def oc115 : Orc gam := orcF 115 (a2 isA vsA) rwsA (fun p => dOf p.1 p.2) (fun p => [OfOk p.1 p.2]) oc160
theorem gc115 : Gd oc115 := gc160.deep 8 fun n hn hO p hp => by
 have h : OfOk p.1 p.2 := hp _ (.head _)
 exact con_rows (rows_all p.1 (N := n - 8) hO (n + 1) (by have := h.fine.len; omega)) h
end Go.Proofs.YtmefgijobonklaaGreat
namespace Go.Proofs.YtmefgijobonklaaGreat
open Go Tw Pv Mist
abbrev w72 (a : List Int) (i : Int) (s : List Int) (x : List (Nat × PE gam)) : PSt gam := ⟨[(0, xL 3 a), (3, xo 0), (6, xi a.length), (7, xi i)] ++ x, [], [.list false false 3 s]⟩
theorem l72 {n : Nat} {orc : Orc gam} (hO : Ok n orc) (a : List Int) (hl : a.length ≤ most) : Lp n 72 0 (w72 a 0 [] []) (.exit 0) (w72 a a.length (iotaI a.length) [(8, xl false)]) := by
 rw [← iotaI_fold]
 exact foldE (s0 := ([] : List Int)) (g := fun k s => s ++ [(k : Int)]) (st := fun i s => w72 a i s []) (fin := fun s => w72 a a.length s [(8, xl false)]) (fun k s => s.length = k) (by kernel_rfl) hl LLm rfl (fun k s _ h => by simp [h]) (fun k s hk hi n e p h => round hX hO (by kernel_rfl) (.b (lt_nat hk) (.o (show s.length + 1 ≤ most by omega) (.goG [.gc [2]] h)))) (fun s _ => round hX hO (by kernel_rfl) (.b (lt_no a.length) .ex))
noncomputable def oc72 : Orc gam := orcF 72 (a1 isA) iA (fun p => S_sizes p) (fun p => [p.length ≤ most]) oc115
theorem gc72 : Gd oc72 := gc115.add fun n hO p hp => fn_is hX hO (by kernel_rfl) (.wG [.nilE 3 3] (l72 hO p (hp _ (.head _))) (.o (hp _ (.head _)) (.o (show (iotaI p.length).length ≤ 2 ^ 20 by rw [iotaI_len]; exact hp _ (.head _)) (.v _ (frame_iota p)))))
def prodW (s : List Int) : Int := foldN (fun k n => IntKind.i64.wrap (n * s.getD k 0)) s.length 0 1
abbrev w73 (a : List Int) (n i : Int) (x : List (Nat × PE gam)) : PSt gam := ⟨[(3, xi n), (6, xL 3 a), (7, xi a.length), (8, xi i)] ++ x, [], []⟩
theorem l73 {n : Nat} {orc : Orc gam} (hO : Ok n orc) (a : List Int) (hl : a.length ≤ most) : Lp n 73 0 (w73 a 1 0 []) (.exit 0) (w73 a (prodW a) a.length [(9, xl false)]) :=
 foldE (st := fun i n => w73 a n i []) (fin := fun n => w73 a n a.length [(9, xl false)]) (fun _ _ => True) (by kernel_rfl) hl LLm trivial (fun _ _ _ _ => trivial) (fun k s hk _ n e p h => round hX hO (by kernel_rfl) (.b (lt_nat hk) (.o (inR_nat hk) (.go h)))) (fun s _ => round hX hO (by kernel_rfl) (.b (lt_no a.length) .ex))
theorem prodW_eq {s : List Int} (hs : SzOk s) (hm : prodI s ≤ 2000) : prodW s = prodI s := by
 have := foldN_inv (g := fun k n => IntKind.i64.wrap (n * s.getD k 0)) (m := s.length) (k := 0) (s := (1 : Int)) (fun k n => n = prodI (s.take k)) rfl (fun j n _ hj hn => by
  have e : s.take (j + 1) = s.take j ++ [s.getD j 0] := by rw [List.take_add_one, List.getElem?_eq_getElem (by omega)]; simp [List.getD, List.getElem?_eq_getElem (show j < s.length by omega)]
  have e2 : prodI (s.take (j + 1)) = n * s.getD j 0 := by rw [e, prodI_app, hn]; simp [prodI]
  have h1 := prodI_take_le hs (j + 1)
  have h2 : 1 ≤ prodI (s.take (j + 1)) := prodI_pos fun b hb => hs b (List.mem_of_mem_take hb)
  rw [e2] at h1 h2 ⊢
  exact wrap_nn (by omega) (by omega))
 unfold prodW
 rw [this, Nat.zero_add, List.take_length]
noncomputable def oc73 : Orc gam := orcF 73 (a1 isA) iA (fun p => prodI p) (fun p => [Fine p]) oc72
theorem gc73 : Gd oc73 := gc72.add fun n hO p hp => fn_is hX hO (by kernel_rfl) (.w (l73 hO p (show Fine p from hp _ (.head _)).lenM) (.v _ (prodW_eq (show Fine p from hp _ (.head _)).sz (show Fine p from hp _ (.head _)).many)))
abbrev w86 (a b : List Int) (m i : Int) (x : List (Nat × PE gam)) : PSt gam := ⟨[(1, xL 3 b), (4, xi m), (7, xL 3 a), (8, xi a.length), (9, xi i)] ++ x, [], []⟩
theorem l86 {n : Nat} {orc : Orc gam} (hO : Ok n orc) (a b : List Int) (hl : a.length ≤ most) (h : b.length = a.length) : Lp n 86 0 (w86 a b 0 0 []) (.exit 0) (w86 a b (numW a b) a.length [(10, xl false)]) :=
 foldE (st := fun i m => w86 a b m i []) (fin := fun m => w86 a b m a.length [(10, xl false)]) (fun _ _ => True) (by kernel_rfl) hl LLm trivial (fun _ _ _ _ => trivial) (fun k s hk _ n e p g => round hX hO (by kernel_rfl) (.b (lt_nat hk) (.o (inR_nat hk) (.o (inR_nat (h ▸ hk)) (.go g))))) (fun s _ => round hX hO (by kernel_rfl) (.b (lt_no a.length) .ex))
noncomputable def oc86 : Orc gam := orcF 86 (a2 isA isA) iA (fun p => numI p.1 p.2) (fun p => [isPl p.1 p.2 = true, Fine p.1]) oc73
theorem gc86 : Gd oc86 := gc73.add fun n hO p hp => fn_is hX hO (by kernel_rfl) (.w (l86 hO p.1 p.2 (show Fine p.1 from hp _ (.tail _ (.head _))).lenM (isPl_len (hp _ (.head _)))) (.v _ (numW_eq (hp _ (.head _)) (show Fine p.1 from hp _ (.tail _ (.head _))).sz (show Fine p.1 from hp _ (.tail _ (.head _))).many)))
abbrev cPt (a b : List Int) (k : Nat) : Bool := if decide (b.getD k 0 < 0) = true then true else decide (b.getD k 0 ≥ a.getD k 0)
abbrev w102 (a b : List Int) (i : Int) (x : List (Nat × PE gam)) : PSt gam := ⟨[(0, xL 3 a), (12, xL 3 b), (13, xi b.length), (14, xi i)] ++ x, [], []⟩
def z102 (a b : List Int) : Unit ⊕ Nat → Ex × PSt gam
 | .inl _ => (.exit 0, w102 a b b.length [(15, xl false)])
 | .inr _ => (.ret, ⟨[(4, xl false)], [], []⟩)
theorem l102 {n : Nat} (hO : Ok n oc86) (a b : List Int) (hl : b.length ≤ most) (h : b.length = a.length) : Lp n 102 0 (w102 a b 0 []) (z102 a b (srch (cPt a b) b.length)).1 (z102 a b (srch (cPt a b) b.length)).2 :=
 eachN (st := fun i _ => w102 a b i []) (fun _ _ => True) (by kernel_rfl) hl LLm trivial (fun k s n hk _ ih => by
  unfold gS cPt
  cases e1 : decide (b.getD k 0 < 0)
  ·exact round hX hO (by kernel_rfl) (.b (lt_nat hk) (.o (inR_nat hk) (.b e1 (.o (inR_nat (show k < a.length by omega)) (.ls (.ou nofun) (.nx (ih _ trivial)))))))
  ·exact round hX hO (by kernel_rfl) (.b (lt_nat hk) (.o (inR_nat hk) (.b e1 (.ou nofun))))
  ) (fun s _ => round hX hO (by kernel_rfl) (.b (lt_no b.length) (.ou nofun)))
theorem cPt_iff {a b : List Int} (h : b.length = a.length) : isL (srch (cPt a b) b.length) = isPl a b := by
 rw [Bool.eq_iff_iff, srch_ok, isPl_iff, h]
 simp only [true_and]
 refine forall_congr' fun j => forall_congr' fun hj => ?_
 unfold cPt
 by_cases c : b.getD j 0 < 0
 ·rw [if_pos (by simpa using c)]
  constructor
  ·intro h; cases h
  ·rintro ⟨h1, _⟩; omega
 ·rw [if_neg (by simpa using c), decide_eq_false_iff_not]; omega
noncomputable def oc102 : Orc gam := orcF 102 (a2 isA isA) tA (fun p => isPl p.1 p.2) (fun p => [p.2.length ≤ most]) oc86
theorem gc102 : Gd oc102 := gc86.add fun n hO p hp => fn_is hX hO (by kernel_rfl) (.s (fun h => .v false (pl_len h).symm) fun h => .z (c := isL (srch (cPt p.1 p.2) p.2.length)) (fun h2 => .w (exInl (l102 hO p.1 p.2 (hp _ (.head _)) (len_eq h)) () h2) (.v true (by rw [← cPt_iff (len_eq h), h2]))) fun h2 => .w (exInr (l102 hO p.1 p.2 (hp _ (.head _)) (len_eq h)) 0 h2) (.v false (by rw [← cPt_iff (len_eq h), h2])))
def S_vCheck (v : V) : Int := if (!(S_isCell v)) = true then 2 else 0
noncomputable def oc114 : Orc gam := orcF 114 (a1 vA) iA (fun p => S_vCheck p) np oc102
theorem gc114 : Gd oc114 := gc102.add fun n hO p hp => fn_is hX hO (by kernel_rfl) (.ss .rr .rr)
noncomputable def oc75 : Orc gam := orcF 75 (a1 vA) tA (fun p => S_vCheck p == 0) np oc114
theorem gc75 : Gd oc75 := gc114.add fun n hO p hp => fn_is hX hO (by kernel_rfl) .rr
def S_opnd (c : Int) : Int := if (c == 5) = true then 1 else if (c == 6) = true then 1 else if decide (7 ≤ c) = true then (if decide (c ≤ 16) = true then 2 else if (c == 17) = true then 3 else 0) else if (c == 17) = true then 3 else 0
noncomputable def oc82 : Orc gam := orcF 82 (a1 uA) iA (fun p => S_opnd p) np oc75
theorem gc82 : Gd oc82 := gc75.add fun n hO p hp => fn_is hX hO (by kernel_rfl) (.ss .rr (.ss .rr (.ss (.ss .rr (.ss .rr .rr)) (.ss .rr .rr))))
abbrev cFT (r : Rw) (k : Nat) : Bool := decide (r.fr.getD k 0 > r.to.getD k 0)
abbrev w117 (r : Rw) (i : Int) (x : List (Nat × PE gam)) : PSt gam := ⟨[(3, .loc 0 0), (26, xL 3 r.fr), (27, xi r.fr.length), (28, xi i)] ++ x, [r.ps], []⟩
def z117 (r : Rw) : Unit ⊕ Nat → Ex × PSt gam
 | .inl _ => (.exit 0, w117 r r.fr.length [(29, xl false)])
 | .inr _ => (.ret, ⟨[(4, xl false)], [r.ps], []⟩)
theorem l117 {n : Nat} {orc : Orc gam} (hO : Ok n orc) (r : Rw) (hl : r.fr.length ≤ most) (ht : r.to.length = r.fr.length) : Lp n 117 0 (w117 r 0 []) (z117 r (srch (cFT r) r.fr.length)).1 (z117 r (srch (cFT r) r.fr.length)).2 :=
 searchL (st := fun i _ => w117 r i []) (fun _ _ => True) (by kernel_rfl) hl trivial (fun k s m hk _ ih => round hX hO (by kernel_rfl) (.b (lt_nat hk) (.o (inR_nat hk) (.o (inR_nat (ht ▸ hk)) (.ls (.ou nofun) (.nx (ih _ trivial))))))) (fun s _ => round hX hO (by kernel_rfl) (.b (lt_no r.fr.length) (.ou nofun)))
def S_tRow (s : List Int) (r : Rw) : Bool := if (!(isPl s r.fr)) = true then false else if (!(isPl s r.to)) = true then false else if (!(S_vCheck r.cell == 0)) = true then false else if isL (srch (cFT r) r.fr.length) = true then true else false
theorem row_len {s : List Int} {a b : List Int} (h1 : (!(isPl s a)) = false) (h2 : (!(isPl s b)) = false) : b.length = a.length := by
 rw [isPl_len (s := s) (p := b) (by simpa using h2), isPl_len (s := s) (p := a) (by simpa using h1)]
noncomputable def oc117 : Orc gam := orcF 117 (a2 isA rwA) tA (fun p => S_tRow p.1 p.2) (fun p => [p.2.fr.length ≤ most, p.2.to.length ≤ most]) oc82
theorem gc117 : Gd oc117 := gc82.add fun n hO p hp => fn_is hX hO (by kernel_rfl) (.o (hp _ (.head _)) (.sh (fun _ => .rr) fun h1 => .o (hp _ (.tail _ (.head _))) (.sh (fun _ => .rr) fun h2 => .ss .rr (.zh (fun h => .w (exInl (l117 hO p.2 (hp _ (.head _)) (row_len h1 h2)) () h) .rr) fun h => .w (exInr (l117 hO p.2 (hp _ (.head _)) (row_len h1 h2)) 0 h) .rr))))
noncomputable def v3A : Arg (V × V × V) := isoA (aggL (conA uA (conA iA (a4 uA iA uA iA)))) (fun p => (⟨p.1, p.2.1⟩, ⟨p.2.2.1, p.2.2.2.1⟩, ⟨p.2.2.2.2.1, p.2.2.2.2.2⟩)) (fun l => (l.1.f, l.1.n, l.2.1.f, l.2.1.n, l.2.2.f, l.2.2.n)) fun _ => rfl
def S_tRes (c : Int) (l : V × V × V) : V := if (S_opnd c == 1) = true then (S_vOp1T c l.1).1 else if (S_opnd c == 2) = true then (S_vOp2T c l.1 l.2.1).1 else (S_vChoose l.1 l.2.1 l.2.2).1
theorem opnd1 {c : Int} (h : (S_opnd c == 1) = true) : c = 5 ∨ c = 6 := by
 unfold S_opnd at h
 split at h
 ·rename_i a; exact .inl (by simpa using a)
 split at h
 ·rename_i a; exact .inr (by simpa using a)
 split at h
 ·split at h
  ·cases h
  ·split at h <;> cases h
 ·split at h <;> cases h
theorem opnd2 {c : Int} (h : (S_opnd c == 2) = true) : 7 ≤ c ∧ c ≤ 16 := by
 unfold S_opnd at h
 split at h
 ·cases h
 split at h
 ·cases h
 split at h
 ·rename_i a
  split at h
  ·rename_i b; exact ⟨by simpa using a, by simpa using b⟩
  ·split at h <;> cases h
 ·split at h <;> cases h
noncomputable def oc83 : Orc gam := orcF 83 (a2 uA v3A) vA (fun p => S_tRes p.1 p.2) np oc117
theorem gc83 : Gd oc83 := gc117.add fun n hO p hp => fn_is hX hO (by kernel_rfl) (.sh (fun h => .o (opnd1 h) .rr) fun _ => .sh (fun h => .o (opnd2 h) .rr) fun _ => .rr)
abbrev w203 (f : Nat) (a c : List (PV gam)) (H : List (PB gam)) (l : List Rw) (i : Int) (x : List (Nat × PE gam)) : PSt gam := ⟨[(0, xL 95 l), (1, .val (.fn f a c)), (7, xi l.length), (8, xi i)] ++ x, [], H⟩
def z203 (f : Nat) (a c : List (PV gam)) (H : List (PB gam)) (l : List Rw) : Unit ⊕ Nat → Ex × PSt gam
 | .inl _ => (.exit 0, w203 f a c H l l.length [(9, xl false)])
 | .inr k => (.ret, ⟨[(4, xi k)], [], H⟩)
theorem q162 {n f : Nat} {a c : List (PV gam)} {H : List (PB gam)} {g : Rw → Bool} (l : List Rw) (hf : ∀ x ∈ l, Sim X0 Tryz.prog (ApN n) (.fn f a c) [.agg x.ps] H (.bool (g x)) H) (hl : l.length ≤ most) : Sim X0 Tryz.prog (ApN (n + 2)) (.fn 162 [] []) [.lst 95 l false, .fn f a c] H (tA.put (l.any g)) H := by
 have lp : LpB n 203 0 H.length (w203 f a c H l 0 []) (z203 f a c H l (srch (fun k => g (l.getD k Rw0)) l.length)).1 (z203 f a c H l (srch (fun k => g (l.getD k Rw0)) l.length)).2 :=
  eachN (st := fun i _ => w203 f a c H l i []) (fun _ _ => True) (by kernel_rfl) hl LLm trivial (fun k s n hk _ ih => round hX ok0 (by kernel_rfl) (.b (lt_nat hk) (.o (inR_nat hk) (.k (hf (l.getD k Rw0) (by simp [List.getD, List.getElem?_eq_getElem hk])) (.ls (.ou nofun) (.nx (ih _ trivial))))))) (fun s _ => round hX ok0 (by kernel_rfl) (.b (lt_no l.length) (.ou nofun)))
 have hs : isL (srch (fun k => g (l.getD k Rw0)) l.length) = !(l.any g) := by
  rw [Bool.eq_iff_iff, srch_ok]
  simp only [Bool.not_eq_true', List.any_eq_false]
  constructor
  ·intro h x hx
   obtain ⟨k, hk, rfl⟩ := List.mem_iff_getElem.1 hx
   have := h k hk
   simpa [List.getD, List.getElem?_eq_getElem hk] using this
  ·intro h k hk
   have := h l[k] (List.getElem_mem hk)
   simpa [List.getD, List.getElem?_eq_getElem hk] using this
 have h1 : Sim X0 Tryz.prog (ApN (n + 1)) (.fn 203 [] []) [.lst 95 l false, .fn f a c] H (iA.put (if isL (srch (fun k => g (l.getD k Rw0)) l.length) = true then -1 else ((getR 0 (srch (fun k => g (l.getD k Rw0)) l.length) : Nat) : Int))) H :=
  sim_is hX ok0 (first := []) (cap := []) (by kernel_rfl) (.szh (fun h => .w (exInl lp () h) .sr) (fun h => .w (exInr lp 0 h) .sr))
 have e : l.any g = decide ((if isL (srch (fun k => g (l.getD k Rw0)) l.length) = true then (-1 : Int) else ((getR 0 (srch (fun k => g (l.getD k Rw0)) l.length) : Nat) : Int)) ≥ 0) := by
  rw [hs]
  cases l.any g
  ·rfl
  ·simp
 rw [e]
 exact sim_is hX ok0 (first := []) (cap := []) (by kernel_rfl) (.k h1 .sr)
noncomputable def oc76 : Orc gam := orcF 76 (a1 ldA) tbA (fun p => dOf p.s p.cells) (fun p => [OfOk p.s p.cells]) oc83
theorem gc76 : Gd oc76 := gc83.add fun n hO p hp => fn_is hX hO (by kernel_rfl) (.o (hp _ (.head _)) .rr)
end Go.Proofs.YtmefgijobonklaaGreat
namespace Go.Proofs.YtmefgijobonklaaGreat
open Go Tw Pv Mist
def gMax (l : List Int) (k : Nat) (m : Int) : Int := if l.getD (IntKind.i64.wrap ((k : Int) + 1)).toNat 0 > m then l.getD (IntKind.i64.wrap ((k : Int) + 1)).toNat 0 else m
def S_lMax (l : List Int) : Int := foldN (gMax l) (l.length - 1) 0 (l.getD 0 0)
abbrev w120 (l : List Int) (m i : Int) (x : List (Nat × PE gam)) : PSt gam := ⟨[(0, xL 3 l), (3, xi m), (4, xi i)] ++ x, [], []⟩
theorem l120 {n : Nat} {orc : Orc gam} (hO : Ok n orc) (l : List Int) (hl : l.length ≤ most) (h0 : 0 < l.length) : Lp n 120 0 (w120 l (l.getD 0 0) 1 []) (.exit 0) (w120 l (S_lMax l) (IntKind.i64.wrap (((l.length - 1 : Nat) : Int) + 1)) [(15, xl false)]) := by
 refine foldE (X := X0) (P := Tryz.prog) (T := T) (g := gMax l) (s0 := l.getD 0 0) (N := l.length - 1) (st := fun i m => w120 l m (IntKind.i64.wrap (i + 1)) []) (fin := fun m => w120 l m (IntKind.i64.wrap (((l.length - 1 : Nat) : Int) + 1)) [(15, xl false)]) (fun _ _ => True) (by kernel_rfl) (by omega) LLm trivial (fun _ _ _ _ => trivial) (fun k s hk _ n e p h => ?_) (fun s _ => ?_)
 ·have e1 : IntKind.i64.wrap ((k : Int) + 1) = (k : Int) + 1 := wrap_nn (by omega) (by unfold most at hl; omega)
  have t1 : decide (IntKind.i64.wrap ((k : Int) + 1) < (l.length : Int)) = true := by rw [e1, decide_eq_true_eq]; omega
  have t2 : inR (IntKind.i64.wrap ((k : Int) + 1)) l.length := by rw [e1]; exact ⟨by omega, by omega⟩
  exact round hX hO (by kernel_rfl) (.b t1 (.o t2 (.go h)))
 ·have e1 : IntKind.i64.wrap (((l.length - 1 : Nat) : Int) + 1) = ((l.length - 1 : Nat) : Int) + 1 := wrap_nn (by omega) (by unfold most at hl; omega)
  have t1 : decide (IntKind.i64.wrap (((l.length - 1 : Nat) : Int) + 1) < (l.length : Int)) = false := by rw [e1, decide_eq_false_iff_not]; omega
  exact round hX hO (by kernel_rfl) (.b t1 .ex)
noncomputable def oc120 : Orc gam := orcF 120 (a1 isA) iA (fun p => S_lMax p) (fun p => [p.length ≤ most, 0 < p.length]) oc76
theorem gc120 : Gd oc120 := gc76.add fun n hO p hp => fn_is hX hO (by kernel_rfl) (.b (show decide ((p.length : Int) < 1) = false by have h : 0 < p.length := hp _ (.tail _ (.head _)); rw [decide_eq_false_iff_not]; omega) (.o (show inR 0 p.length by have h : 0 < p.length := hp _ (.tail _ (.head _)); exact ⟨by omega, by omega⟩) (.w (l120 hO p (hp _ (.head _)) (hp _ (.tail _ (.head _)))) .rr)))
def gMin (l : List Int) (k : Nat) (m : Int) : Int := if l.getD (IntKind.i64.wrap ((k : Int) + 1)).toNat 0 < m then l.getD (IntKind.i64.wrap ((k : Int) + 1)).toNat 0 else m
def S_lMin (l : List Int) : Int := foldN (gMin l) (l.length - 1) 0 (l.getD 0 0)
abbrev w121 (l : List Int) (m i : Int) (x : List (Nat × PE gam)) : PSt gam := ⟨[(0, xL 3 l), (3, xi m), (4, xi i)] ++ x, [], []⟩
theorem l121 {n : Nat} {orc : Orc gam} (hO : Ok n orc) (l : List Int) (hl : l.length ≤ most) (h0 : 0 < l.length) : Lp n 121 0 (w121 l (l.getD 0 0) 1 []) (.exit 0) (w121 l (S_lMin l) (IntKind.i64.wrap (((l.length - 1 : Nat) : Int) + 1)) [(15, xl false)]) := by
 refine foldE (X := X0) (P := Tryz.prog) (T := T) (g := gMin l) (s0 := l.getD 0 0) (N := l.length - 1) (st := fun i m => w121 l m (IntKind.i64.wrap (i + 1)) []) (fin := fun m => w121 l m (IntKind.i64.wrap (((l.length - 1 : Nat) : Int) + 1)) [(15, xl false)]) (fun _ _ => True) (by kernel_rfl) (by omega) LLm trivial (fun _ _ _ _ => trivial) (fun k s hk _ n e p h => ?_) (fun s _ => ?_)
 ·have e1 : IntKind.i64.wrap ((k : Int) + 1) = (k : Int) + 1 := wrap_nn (by omega) (by unfold most at hl; omega)
  have t1 : decide (IntKind.i64.wrap ((k : Int) + 1) < (l.length : Int)) = true := by rw [e1, decide_eq_true_eq]; omega
  have t2 : inR (IntKind.i64.wrap ((k : Int) + 1)) l.length := by rw [e1]; exact ⟨by omega, by omega⟩
  exact round hX hO (by kernel_rfl) (.b t1 (.o t2 (.go h)))
 ·have e1 : IntKind.i64.wrap (((l.length - 1 : Nat) : Int) + 1) = ((l.length - 1 : Nat) : Int) + 1 := wrap_nn (by omega) (by unfold most at hl; omega)
  have t1 : decide (IntKind.i64.wrap (((l.length - 1 : Nat) : Int) + 1) < (l.length : Int)) = false := by rw [e1, decide_eq_false_iff_not]; omega
  exact round hX hO (by kernel_rfl) (.b t1 .ex)
noncomputable def oc121 : Orc gam := orcF 121 (a1 isA) iA (fun p => S_lMin p) (fun p => [p.length ≤ most, 0 < p.length]) oc120
theorem gc121 : Gd oc121 := gc120.add fun n hO p hp => fn_is hX hO (by kernel_rfl) (.b (show decide ((p.length : Int) < 1) = false by have h : 0 < p.length := hp _ (.tail _ (.head _)); rw [decide_eq_false_iff_not]; omega) (.o (show inR 0 p.length by have h : 0 < p.length := hp _ (.tail _ (.head _)); exact ⟨by omega, by omega⟩) (.w (l121 hO p (hp _ (.head _)) (hp _ (.tail _ (.head _)))) .rr)))
theorem max_one {l : List Int} (h0 : 0 < l.length) (hl : l.length ≤ most) : decide (S_lMax l > 1) = l.any fun x => decide (x > 1) := by
 have h := foldN_inv (g := gMax l) (m := l.length - 1) (k := 0) (s := l.getD 0 0) (fun k m => decide (m > 1) = (l.take (k + 1)).any fun x => decide (x > 1)) (by cases l with | nil => simp at h0 | cons a l => simp) (fun k m _ hk hm => by
  have e1 : IntKind.i64.wrap ((k : Int) + 1) = ((k + 1 : Nat) : Int) := by rw [wrap_nn (by omega) (by unfold most at hl; omega)]; push_cast; rfl
  have e2 : l.take (k + 1 + 1) = l.take (k + 1) ++ [l.getD (k + 1) 0] := by rw [List.take_add_one, List.getElem?_eq_getElem (by omega)]; simp [List.getD, List.getElem?_eq_getElem (show k + 1 < l.length by omega)]
  simp only [gMax, e1, Int.toNat_natCast]
  rw [e2, List.any_append, ← hm]
  simp only [List.any_cons, List.any_nil, Bool.or_false]
  rw [Bool.eq_iff_iff]
  simp only [Bool.or_eq_true, decide_eq_true_eq]
  split <;> omega)
 have e : 0 + (l.length - 1) + 1 = l.length := by omega
 rw [e, List.take_length] at h
 exact h
theorem min_zero {l : List Int} (h0 : 0 < l.length) (hl : l.length ≤ most) (hn : ∀ x ∈ l, 0 ≤ x) : (S_lMin l == 0) = l.any fun x => x == 0 := by
 have h := foldN_inv (g := gMin l) (m := l.length - 1) (k := 0) (s := l.getD 0 0) (fun k m => 0 ≤ m ∧ (m == 0) = (l.take (k + 1)).any fun x => x == 0) (by cases l with | nil => simp at h0 | cons a l => simpa using hn a (List.mem_cons_self ..)) (fun k m _ hk hm => by
  have e1 : IntKind.i64.wrap ((k : Int) + 1) = ((k + 1 : Nat) : Int) := by rw [wrap_nn (by omega) (by unfold most at hl; omega)]; push_cast; rfl
  have e2 : l.take (k + 1 + 1) = l.take (k + 1) ++ [l.getD (k + 1) 0] := by rw [List.take_add_one, List.getElem?_eq_getElem (by omega)]; simp [List.getD, List.getElem?_eq_getElem (show k + 1 < l.length by omega)]
  have h9 := hn _ (getD_mem (show k + 1 < l.length by omega))
  simp only [gMin, e1, Int.toNat_natCast]
  rw [e2, List.any_append, ← hm.2]
  have h8 := hm.1
  simp only [List.any_cons, List.any_nil, Bool.or_false]
  refine ⟨by split <;> omega, ?_⟩
  rw [Bool.eq_iff_iff]
  simp only [Bool.or_eq_true, beq_iff_eq]
  split <;> omega)
 have e : 0 + (l.length - 1) + 1 = l.length := by omega
 rw [e, List.take_length] at h
 exact h.2
end Go.Proofs.YtmefgijobonklaaGreat
namespace Go.Proofs.YtmefgijobonklaaGreat
open Go Tw Pv Mist
noncomputable def oc119 : Orc gam := orcE 119 (a2 isA rwA) (fun _ => .fn 164 [] [.ptr 1 0 4, .ptr 0 0 1]) (fun p => [.cells [.lst 3 p.1 false], .cells p.2.ps]) np oc121
theorem gc119 : Gd oc119 := gc121.deepE 0 fun n _ hO p hp => fn_ex hX (hO n (by omega)) (by kernel_rfl) .er
structure Ly where
 s : List Int
 ts : List (List Rw)
 rows : List Rw
 r : Rw
 acc : List Ld
 i : Int
 k : Int
abbrev envY (y : Ly) : List (Nat × PE gam) := [(4, .val (.nil .slc)), (5, xi 0), (6, xL 3 y.s), (7, .val (.fn 117 [.lst 3 y.s false] [])), (9, xo 0), (12, .val (.ptr 3 0 2)), (13, .val (.ptr 5 0 1)), (15, .val (.ptr 6 0 4)), (25, xL 28 y.ts), (26, xi y.ts.length), (27, xi y.i), (49, xL 95 y.rows), (50, xi y.rows.length), (51, xi y.k), (57, .val (.fn 164 [] [.ptr 8 0 4, .ptr 7 0 1]))]
noncomputable abbrev LRY (y : Ly) (rd : Bool) (pend : Option Code) : PB gam := .loop rd 80 (ntP Tryz.prog 80) (envY y) [58] (rfAssign Tryz.prog 80) (rfBody Tryz.prog 80) pend
noncomputable abbrev MY0 (y : Ly) (x : List Int × List V) : List (PB gam) := [.list false false 124 y.acc, .cells [.lst 95 y.rows false], .list true true 58 x.2, .cells [.lst 3 y.s false, .own 2], oI true true x.1, .cells [.own 4], .cells y.r.ps, .cells [.lst 3 y.s false], .cells y.r.ps]
noncomputable abbrev MY (y : Ly) (rd : Bool) (x : List Int × List V) : List (PB gam) := MY0 y x ++ [.mark, LRY y rd none]
def stB (c : V) (x : List Int × List V) (q : Int) : List Int × List V := (x.1.set q.toNat (IntKind.i64.wrap (x.1.getD q.toNat 0 + 1)), x.2.set q.toNat c)
theorem yB {n : Nat} {orc : Orc gam} (hO : Ok n orc) (y : Ly) (x : List Int × List V) {q : Int} (h1 : inR q x.1.length) (h2 : inR q x.2.length) : Sim X0 Tryz.prog (ApN (n + 1)) (.yld 10) [.int .i64 q] (MY y true x) (.bool true) (MY y true (stB y.r.cell x q)) := by
 obtain ⟨a, b⟩ := x
 have h1 : inR q a.length := h1
 have h2 : inR q b.length := h2
 unfold stB
 have q1 : ExecS X0 Tryz.prog T (ApN n) LL 80 true (ntP Tryz.prog 80) 11 (rfAssign Tryz.prog 80) ⟨pputAll (envY y) [58] [.int .i64 q], [], MY y true (a, b)⟩ .norm ⟨[(12, .val (.ptr 3 0 2)), (13, .val (.ptr 5 0 1)), (15, .val (.ptr 6 0 4)), (16, xi q)], [], MY y true (a, b)⟩ := exec_fp hX hO (by kernel_rfl) .xx
 have q2 : ExecS X0 Tryz.prog T (ApN n) LL 80 true (ntP Tryz.prog 80) 11 (rfBody Tryz.prog 80) ⟨[(12, .val (.ptr 3 0 2)), (13, .val (.ptr 5 0 1)), (15, .val (.ptr 6 0 4)), (16, xi q)], [], MY y false (a, b)⟩ .norm ⟨[], [], MY y false (a.set q.toNat (IntKind.i64.wrap (a.getD q.toNat 0 + 1)), b.set q.toNat y.r.cell)⟩ := exec_fp hX hO (by kernel_rfl) (.o h1 (.o h1 (.o h2 .xx)))
 exact yld_sim hX (l := 10) rfl rfl (by kernel_rfl) q1 rfl q2 rfl
noncomputable abbrev wBx (y : Ly) (p : List Int) (x : List Int × List V) (z : List (Nat × PE gam)) : PSt gam := ⟨[(0, .val (.yld 10)), (1, .val (.ptr 8 0 4)), (2, .val (.ptr 7 0 1)), (4, .val (.own 11))] ++ z, [], MY y true x ++ [.list false false 3 p]⟩
def gIb (r : Rw) (x : Int × List Int) : (Int × List Int) ⊕ (Int × List Int) := if decide (x.1 ≥ 0) = true then (if (x.2.getD x.1.toNat 0 == r.to.getD x.1.toNat 0) = true then .inl (IntKind.i64.wrap (x.1 - 1), x.2.set x.1.toNat (r.fr.getD x.1.toNat 0)) else .inr x) else .inr x
theorem ib_it {r : Rw} : ∀ (k : Nat) (p : List Int), k ≤ 6 → itF (gIb r) (k + 1) ((k : Int) - 1, p) = some (((car r.fr r.to k p).1 : Int) - 1, (car r.fr r.to k p).2)
 | 0, p, _ => by
  simp only [itF, gIb, car]
  rw [if_neg (by simp)]
 | k + 1, p, h => by
  rw [itF]
  simp only [gIb, car]
  have hk : (((k + 1 : Nat) : Int) - 1).toNat = k := by omega
  rw [if_pos (decide_eq_true (by omega)), hk, wdown (by omega)]
  by_cases e : p.getD k 0 = r.to.getD k 0
  ·rw [if_pos (by simpa using e), if_pos e]
   exact ib_it k _ (by omega)
  ·rw [if_neg (by simpa using e), if_neg e]
theorem lIb {n : Nat} (hO : Ok n oc119) (y : Ly) {p : List Int} (hl : p.length ≤ 6) (hf : y.r.fr.length = p.length) (ht : y.r.to.length = p.length) (x : List Int × List V) : LpB n 164 1 11 (wBx y p x [(5, xi ((p.length : Int) - 1))]) (.exit 2) (wBx y (car y.r.fr y.r.to p.length p).2 x [(5, xi (((car y.r.fr y.r.to p.length p).1 : Int) - 1)), (31, xl false)]) := by
 have hit := ib_it (r := y.r) p.length p hl
 refine whileE (X := X0) (P := Tryz.prog) (T := T) (st := fun z => wBx y z.2 x [(5, xi z.1)]) (g := gIb y.r) (s := ((p.length : Int) - 1, p)) (out := fun z => (.exit 2, wBx y z.2 x [(5, xi z.1), (31, xl false)])) (fun z => z.2.length = p.length ∧ z.1 < p.length) hit (by kernel_rfl) (show p.length + 1 ≤ LL by have := LLm; unfold most at this; omega) ⟨rfl, by show (p.length : Int) - 1 < _; omega⟩ ?_ ?_
 ·rintro ⟨a, q⟩ ⟨b, r⟩ ⟨h1, h2⟩ e
  unfold gIb at e
  split at e
  ·rename_i c
   split at e
   ·cases e
    have c : a ≥ 0 := by simpa using c
    have h2 : a < (p.length : Int) := h2
    refine ⟨by simpa using h1, ?_⟩
    show IntKind.i64.wrap (a - 1) < _
    rw [wrap_nn (by omega) (by omega)]
    omega
   ·cases e
  ·cases e
 ·rintro ⟨a, q⟩ m r' ⟨h1, h2⟩ ih
  have h1 : q.length = p.length := h1
  have h2 : a < (p.length : Int) := h2
  by_cases c : a ≥ 0
  ·have t1 : decide (a ≥ 0) = true := by simpa using c
   have i1 : inR a q.length := ⟨c, by omega⟩
   have i2 : inR a y.r.to.length := ⟨c, by omega⟩
   have i3 : inR a y.r.fr.length := ⟨c, by omega⟩
   cases t2 : q.getD a.toNat 0 == y.r.to.getD a.toNat 0
   ·have e : gIb y.r (a, q) = .inr (a, q) := by unfold gIb; rw [if_pos t1, if_neg (by simp only []; rw [t2]; simp)]
    rw [e]
    dsimp only [contW]
    exact round hX hO (by kernel_rfl) (.b t1 (.o i1 (.o i2 (.b t2 .ex))))
   ·have e : gIb y.r (a, q) = .inl (IntKind.i64.wrap (a - 1), q.set a.toNat (y.r.fr.getD a.toNat 0)) := by unfold gIb; rw [if_pos t1, if_pos t2]
    have g := ih _ e
    rw [e]
    exact round hX hO (by kernel_rfl) (.b t1 (.o i1 (.o i2 (.b t2 (.o i3 (.o i1 (.go g)))))))
  ·have t1 : decide (a ≥ 0) = false := by simpa using c
   have e : gIb y.r (a, q) = .inr (a, q) := by unfold gIb; rw [if_neg (by simp only []; rw [t1]; simp)]
   rw [e]
   dsimp only [contW]
   exact round hX hO (by kernel_rfl) (.b t1 .ex)
structure RowIn (s : List Int) (r : Rw) : Prop where
 f : isPl s r.fr = true
 t : isPl s r.to = true
 le : LeB r.to r.fr
def gBx (y : Ly) (z : List Int × List Int × List V) : (List Int × List Int × List V) ⊕ (Int × List Int × List Int × List V) := if decide ((((car y.r.fr y.r.to z.1.length z.1).1 : Nat) : Int) - 1 < 0) = true then .inr ((((car y.r.fr y.r.to z.1.length z.1).1 : Nat) : Int) - 1, (car y.r.fr y.r.to z.1.length z.1).2, stB y.r.cell z.2 (numI y.s z.1))
 else .inl ((car y.r.fr y.r.to z.1.length z.1).2.set ((((car y.r.fr y.r.to z.1.length z.1).1 : Nat) : Int) - 1).toNat (IntKind.i64.wrap ((car y.r.fr y.r.to z.1.length z.1).2.getD ((((car y.r.fr y.r.to z.1.length z.1).1 : Nat) : Int) - 1).toNat 0 + 1)), stB y.r.cell z.2 (numI y.s z.1))
theorem car_pl {s f t : List Int} (hf : isPl s f = true) : ∀ (k : Nat) (p : List Int), isPl s p = true → isPl s (car f t k p).2 = true
 | 0, p, h => h
 | k + 1, p, h => by
  simp only [car]
  split
  ·rcases Nat.lt_or_ge k s.length with hk | hk
   ·have h1 := (isPl_iff.1 hf).2 k hk
    exact car_pl hf k _ (set_isPl (ch := (k : Int)) h (inR_nat hk) ⟨h1.1, by rw [Int.toNat_natCast]; omega⟩)
   ·have hp := isPl_len h
    rw [List.set_eq_of_length_le (by omega)]
    exact car_pl hf k _ h
  ·exact h
theorem leB_get : ∀ {t q : List Int}, LeB t q → ∀ j, j < t.length → q.getD j 0 ≤ t.getD j 0
 | [], _, _, j, h => by simp at h
 | _ :: _, [], h, _, _ => h.elim
 | _ :: _, _ :: _, h, 0, _ => h.1
 | _ :: _, _ :: _, h, j + 1, hj => leB_get h.2 j (by simpa using hj)
theorem gBx_eq {y : Ly} (hf : Fine y.s) (hr : RowIn y.s y.r) {p : List Int} (hp : isPl y.s p = true) (hq : LeB y.r.to p) (x : List Int × List V) : match nextB y.r.fr y.r.to p with
  | none => ∃ a q, q.length = p.length ∧ gBx y (p, x) = .inr (a, q, stB y.r.cell x (numI y.s p))
  | some q => isPl y.s q = true ∧ LeB y.r.to q ∧ gBx y (p, x) = .inl (q, stB y.r.cell x (numI y.s p)) := by
 have hl := isPl_len hp
 have hl1 := isPl_len hr.f
 have hl2 := isPl_len hr.t
 have hc := car_len (f := y.r.fr) (t := y.r.to) p.length p
 have hd := car_pl (t := y.r.to) hr.f p.length p hp
 have hne := nextC_eq (f := y.r.fr) (t := y.r.to) (p := p) (by omega) (by omega)
 unfold nextC at hne
 by_cases c : (car y.r.fr y.r.to p.length p).1 = 0
 ·rw [if_pos c] at hne
  rw [← hne]
  refine ⟨(((car y.r.fr y.r.to p.length p).1 : Nat) : Int) - 1, (car y.r.fr y.r.to p.length p).2, hc.2, ?_⟩
  unfold gBx
  rw [if_pos (decide_eq_true (by show (((car y.r.fr y.r.to p.length p).1 : Nat) : Int) - 1 < 0; omega))]
 ·rw [if_neg c] at hne
  have hk : (car y.r.fr y.r.to p.length p).1 - 1 < y.s.length := by omega
  have e1 : ((((car y.r.fr y.r.to p.length p).1 : Nat) : Int) - 1).toNat = (car y.r.fr y.r.to p.length p).1 - 1 := by omega
  have hz := hf.sz _ (getD_mem hk)
  have hdg := (isPl_iff.1 hd).2 _ hk
  have e2 : IntKind.i64.wrap ((car y.r.fr y.r.to p.length p).2.getD ((car y.r.fr y.r.to p.length p).1 - 1) 0 + 1) = (car y.r.fr y.r.to p.length p).2.getD ((car y.r.fr y.r.to p.length p).1 - 1) 0 + 1 := wrap_nn (by omega) (by omega)
  have hg : gBx y (p, x) = .inl ((car y.r.fr y.r.to p.length p).2.set ((car y.r.fr y.r.to p.length p).1 - 1) ((car y.r.fr y.r.to p.length p).2.getD ((car y.r.fr y.r.to p.length p).1 - 1) 0 + 1), stB y.r.cell x (numI y.s p)) := by
   unfold gBx
   rw [if_neg (by rw [decide_eq_true_eq]; show ¬ ((((car y.r.fr y.r.to p.length p).1 : Nat) : Int) - 1 < 0); omega)]
   simp only [e1, e2]
  rw [← hne]
  have hcl : (car y.r.fr y.r.to p.length p).2.length = y.s.length := by rw [hc.2, hl]
  have hle := hq.next hr.le hne.symm
  refine ⟨isPl_iff.2 ⟨by simpa using hcl, fun j hj => ?_⟩, hle, hg⟩
  have hj1 := (isPl_iff.1 hd).2 j hj
  have h9 := leB_get hle j (by omega)
  have h8 := (isPl_iff.1 hr.t).2 j hj
  refine ⟨?_, by omega⟩
  rw [getD_set (by omega)]
  split
  ·omega
  ·exact hj1.1
def outB (y : Ly) (p : List Int) (x : List Int × List V) : List Int × List V := (boxA y.r.fr y.r.to p).foldl (fun x p => stB y.r.cell x (numI y.s p)) x
theorem bx_it {y : Ly} (hf : Fine y.s) (hr : RowIn y.s y.r) : ∀ (m : Nat) (p : List Int) (x : List Int × List V), isPl y.s p = true → LeB y.r.to p → (boxA y.r.fr y.r.to p).length ≤ m → ∃ a q, itF (gBx y) m (p, x) = some (a, q, outB y p x)
 | 0, p, x, hp, hq, hm => by
  rw [boxA_next hq hr.le] at hm
  simp at hm
 | m + 1, p, x, hp, hq, hm => by
  have hb := boxA_next hq hr.le
  have hg := gBx_eq hf hr hp hq x
  cases hn : nextB y.r.fr y.r.to p with
  | none =>
   rw [hn] at hb hg
   obtain ⟨a, q, _, h2⟩ := hg
   refine ⟨a, q, by rw [itF, h2]; unfold outB; rw [hb]; rfl⟩
  | some q =>
   rw [hn] at hb hg
   obtain ⟨h1, h2, h3⟩ := hg
   rw [hb] at hm
   obtain ⟨a, q', h4⟩ := bx_it hf hr m q (stB y.r.cell x (numI y.s p)) h1 h2 (by simpa using hm)
   refine ⟨a, q', by rw [itF, h3]; unfold outB at h4 ⊢; rw [hb]; exact h4⟩
theorem boxA_len : ∀ {s f t p : List Int}, SzOk s → isPl s f = true → isPl s t = true → isPl s p = true → ((boxA f t p).length : Int) ≤ prodI s
 | [], [], [], [], _, _, _, _ => by simp [boxA, prodI]
 | a :: s, f :: fs, t :: ts, x :: p, hs, hf, ht, hp => by
  simp only [isPl, Bool.and_eq_true, decide_eq_true_eq] at hf ht hp
  have i1 := boxA_len hs.tail hf.2 ht.2 hp.2
  have i2 := boxA_len hs.tail hf.2 ht.2 hf.2
  simp only [boxA, prodI, List.length_append, List.length_map, List.length_flatMap, List.map_const', List.sum_replicate_nat, List.length_range]
  have e : (((t - x).toNat : Nat) : Int) ≤ a - 1 := by omega
  have h1 : 1 ≤ prodI s := prodI_pos hs.tail
  have h3 : (((t - x).toNat * (boxA fs ts fs).length : Nat) : Int) ≤ (a - 1) * prodI s := by
   push_cast
   exact Int.mul_le_mul e i2 (by omega) (by omega)
  have h4 : (a - 1) * prodI s = a * prodI s - prodI s := by rw [Int.sub_mul, Int.one_mul]
  push_cast at h3 ⊢
  omega
 | [], _ :: _, _, _, _, h, _, _ => by simp [isPl] at h
 | _ :: _, [], _, _, _, h, _, _ => by simp [isPl] at h
 | [], _, _ :: _, _, _, _, h, _ => by simp [isPl] at h
 | _ :: _, _, [], _, _, _, h, _ => by simp [isPl] at h
 | [], _, _, _ :: _, _, _, _, h => by simp [isPl] at h
 | _ :: _, _, _, [], _, _, _, h => by simp [isPl] at h
theorem sNum {n : Nat} (hO : Ok n oc119) {s p : List Int} (hp : isPl s p = true) (hf : Fine s) : Sim X0 Tryz.prog (ApN n) (.fn 86 [] []) [.lst 3 s false, .own 0] [.list false false 3 p] (.int .i64 (numI s p)) [.list false false 3 p] :=
 sim_orc hX hO (f := 86) (first := []) (xs := [.lst 3 s false, .own 0]) (cap := []) (v := .int .i64 (numI s p)) (H := [.list false false 3 p]) (vs := [.lst 3 s false, .lst 3 p false]) (ps := [isPl s p = true, Fine s]) rfl (by kernel_rfl) (List.forall_mem_cons.2 ⟨hp, List.forall_mem_singleton.2 hf⟩) rfl
noncomputable abbrev oBx (y : Ly) (z : Int × List Int × List Int × List V) : Ex × PSt gam := (.ret, wBx y z.2.1 z.2.2 [(5, xi z.1), (43, xl true)])
theorem lBx {n : Nat} (hO : ∀ m, n ≤ m → Ok m oc119) (y : Ly) (hf : Fine y.s) (hr : RowIn y.s y.r) (x : List Int × List V) (h1 : x.1.length = cnt y.s) (h2 : x.2.length = cnt y.s) {a : Int} {q : List Int} (hit : itF (gBx y) (cnt y.s) (y.r.fr, x) = some (a, q, outB y y.r.fr x)) : LpB (n + 1) 164 0 11 (wBx y y.r.fr x []) (oBx y (a, q, outB y y.r.fr x)).1 (oBx y (a, q, outB y y.r.fr x)).2 := by
 refine whileE (X := X0) (P := Tryz.prog) (T := T) (st := fun z => wBx y z.1 z.2 []) (g := gBx y) (s := (y.r.fr, x)) (out := oBx y) (fun z => isPl y.s z.1 = true ∧ LeB y.r.to z.1 ∧ z.2.1.length = cnt y.s ∧ z.2.2.length = cnt y.s) hit (by kernel_rfl) (show cnt y.s ≤ LL by have := hf.cnt_most; have := LLm; omega) ⟨hr.f, hr.le, h1, h2⟩ ?_ ?_
 ·rintro ⟨p, x⟩ ⟨q, x'⟩ ⟨h1, h2, h3, h4⟩ e
  have hg := gBx_eq hf hr h1 h2 x
  cases hn : nextB y.r.fr y.r.to p with
  | none => rw [hn] at hg; obtain ⟨y, _, _, e2⟩ := hg; rw [e2] at e; cases e
  | some r =>
   rw [hn] at hg
   obtain ⟨g1, g2, g3⟩ := hg
   rw [g3] at e
   cases e
   exact ⟨g1, g2, by simpa [stB] using h3, by simpa [stB] using h4⟩
 ·rintro ⟨p, x⟩ m r ⟨h1, h2, h3, h4⟩ ih
  have h1 : isPl y.s p = true := h1
  have h2 : LeB y.r.to p := h2
  have h3 : x.1.length = cnt y.s := h3
  have h4 : x.2.length = cnt y.s := h4
  have hp := isPl_len h1
  have hp1 := isPl_len hr.f
  have hp2 := isPl_len hr.t
  have hn := numI_rng h1 hf.sz
  have hi : inR (numI y.s p) (cnt y.s) := ⟨hn.1, by unfold cnt; omega⟩
  have hy := yB (hO n (Nat.le_refl _)) y x (h3 ▸ hi) (h4 ▸ hi)
  have hl := lIb (hO (n + 1) (by omega)) y (p := p) (by have := hf.len; omega) (by omega) (by omega) (stB y.r.cell x (numI y.s p))
  rw [show (p.length : Int) - 1 = IntKind.i64.wrap ((p.length : Int) - 1) by rw [wrap_nn (by omega) (by have := hf.len; omega)]] at hl
  have hc := car_len (f := y.r.fr) (t := y.r.to) p.length p
  have hgz : ∀ z : Nat × List Int, car y.r.fr y.r.to p.length p = z → gBx y (p, x) = (if decide (((z.1 : Nat) : Int) - 1 < 0) = true then .inr (((z.1 : Nat) : Int) - 1, z.2, stB y.r.cell x (numI y.s p)) else .inl (z.2.set (((z.1 : Nat) : Int) - 1).toNat (IntKind.i64.wrap (z.2.getD (((z.1 : Nat) : Int) - 1).toNat 0 + 1)), stB y.r.cell x (numI y.s p))) := by rintro _ rfl; rfl
  obtain ⟨z, hz⟩ : ∃ z, car y.r.fr y.r.to p.length p = z := ⟨_, rfl⟩
  have hg := hgz z hz
  rw [hz] at hl hc
  obtain ⟨k, q⟩ := z
  have hc : k ≤ p.length ∧ q.length = p.length := hc
  have hg : gBx y (p, x) = (if decide ((k : Int) - 1 < 0) = true then .inr ((k : Int) - 1, q, stB y.r.cell x (numI y.s p)) else .inl (q.set ((k : Int) - 1).toNat (IntKind.i64.wrap (q.getD ((k : Int) - 1).toNat 0 + 1)), stB y.r.cell x (numI y.s p))) := hg
  generalize stB y.r.cell x (numI y.s p) = x' at hy hl hg
  cases t : decide (((k : Nat) : Int) - 1 < 0)
  ·have t' : ¬ (((k : Nat) : Int) - 1 < 0) := by simpa using t
   rw [if_neg (by rw [t]; simp)] at hg
   have hi : inR ((k : Int) - 1) q.length := ⟨by omega, by omega⟩
   have g := ih _ hg
   rw [hg]
   exact round hX (hO (n + 1) (by omega)) (by kernel_rfl) (.fr [11] (sNum (hO (n + 1) (by omega)) h1 hf) (.fr [0, 1, 2, 3, 4, 5, 6, 7, 8, 9, 10] hy (.b (rfl : (!true) = false) (.w hl (.b t (.o hi (.o hi (.go g))))))))
  ·rw [if_pos t] at hg
   rw [hg]
   exact round hX (hO (n + 1) (by omega)) (by kernel_rfl) (.fr [11] (sNum (hO (n + 1) (by omega)) h1 hf) (.fr [0, 1, 2, 3, 4, 5, 6, 7, 8, 9, 10] hy (.b (rfl : (!true) = false) (.w hl (.b t .re)))))
theorem sBx {n : Nat} (hO : ∀ m, n ≤ m → Ok m oc119) (y : Ly) (hf : Fine y.s) (hr : RowIn y.s y.r) (x : List Int × List V) (h1 : x.1.length = cnt y.s) (h2 : x.2.length = cnt y.s) : Sim X0 Tryz.prog (ApN (n + 2)) (.fn 164 [] [.ptr 8 0 4, .ptr 7 0 1]) [.yld 10] (MY y true x) (.tup []) (MY y true (outB y y.r.fr x)) := by
 have hm := hf.cnt_most
 have hb := boxA_len (p := y.r.fr) hf.sz hr.f hr.t hr.f
 obtain ⟨a, q, hit⟩ := bx_it hf hr (cnt y.s) y.r.fr x hr.f hr.le (by unfold cnt; omega)
 have hl := lBx hO y hf hr x h1 h2 hit
 have hs : y.r.fr.length ≤ most := by have := isPl_len hr.f; have := hf.lenM; omega
 have := sim_ex hX (hO (n + 1) (by omega)) (f := 164) (first := []) (xs := [.yld 10]) (cap := [.ptr 8 0 4, .ptr 7 0 1]) (H := MY y true x) (v := .tup []) (H1 := MY y true (outB y y.r.fr x) ++ [.list false false 3 q]) (by kernel_rfl) (.o hs (.w hl .er))
 exact Sim.cut hX this rfl rfl rfl rfl
end Go.Proofs.YtmefgijobonklaaGreat
namespace Go.Proofs.YtmefgijobonklaaGreat
open Go Tw Pv Mist
noncomputable abbrev wRw (y : Ly) (x : List Int × List V) (z : List (Nat × PE gam)) : PSt gam := ⟨[(4, .val (.nil .slc)), (5, xi 0), (6, xL 3 y.s), (7, .val (.fn 117 [.lst 3 y.s false] [])), (9, xo 0), (12, .val (.ptr 3 0 2)), (13, .val (.ptr 5 0 1)), (25, xL 28 y.ts), (26, xi y.ts.length), (27, xi y.i), (49, xL 95 y.rows), (50, xi y.rows.length), (51, xi y.k)] ++ z, [], (MY0 y x).take 6⟩
theorem rfY {n : Nat} (hO : ∀ m, n ≤ m → Ok m oc119) (y : Ly) (hf : Fine y.s) (hr : RowIn y.s y.r) (x : List Int × List V) (h1 : x.1.length = cnt y.s) (h2 : x.2.length = cnt y.s) : ExecS X0 Tryz.prog T (ApN (n + 2)) LL 80 false (ntP Tryz.prog 80) 0 (.rangeFunc (.tmp 57) #[58] (rfAssign Tryz.prog 80) (rfBody Tryz.prog 80)) ⟨envY y, [], MY0 y x⟩ .norm ⟨envY y, [], (MY y true (outB y y.r.fr x)).set 10 (LRY y false (some .skip))⟩ :=
 rf_exec hX (ps := ⟨envY y, [], MY0 y x⟩) rfl rfl (sBx hO y hf hr x h1 h2) rfl rfl
def stR (s : List Int) (r : Rw) (x : List Int × List V) : List Int × List V := (boxA r.fr r.to r.fr).foldl (fun x p => stB r.cell x (numI s p)) x
abbrev Yk (y : Ly) (k : Nat) : Ly := ⟨y.s, y.ts, y.rows, y.rows.getD k Rw0, y.acc, y.i, k⟩
def gRw (y : Ly) (k : Nat) (x : List Int × List V) : List Int × List V := stR y.s (y.rows.getD k Rw0) x
theorem stR_len (s : List Int) (r : Rw) (x : List Int × List V) : (stR s r x).1.length = x.1.length ∧ (stR s r x).2.length = x.2.length := by
 unfold stR
 generalize boxA r.fr r.to r.fr = l
 induction l generalizing x with
 | nil => exact ⟨rfl, rfl⟩
 | cons p l ih =>
  have := ih (stB r.cell x (numI s p))
  simp only [List.foldl_cons]
  rw [this.1, this.2]
  exact ⟨by simp [stB], by simp [stB]⟩
theorem lLayR {n : Nat} (hO : ∀ m, n ≤ m → Ok m oc119) (y : Ly) (hf : Fine y.s) (hl : y.rows.length ≤ most) (hr : ∀ r ∈ y.rows, RowIn y.s r) (x : List Int × List V) (h1 : x.1.length = cnt y.s) (h2 : x.2.length = cnt y.s) : LpB (n + 2) 80 1 0 (wRw (Yk y 0) x []) (.exit 2) (wRw (Yk y y.rows.length) (foldN (gRw y) y.rows.length 0 x) [(52, xl false)]) := by
 refine foldE (X := X0) (P := Tryz.prog) (T := T) (g := gRw y) (s0 := x) (st := fun i x => wRw ⟨y.s, y.ts, y.rows, Rw0, y.acc, y.i, i⟩ x []) (fin := fun x => wRw (Yk y y.rows.length) x [(52, xl false)]) (fun _ x => x.1.length = cnt y.s ∧ x.2.length = cnt y.s) (by kernel_rfl) hl LLm ⟨h1, h2⟩ (fun k x _ h => ?_) (fun k x hk hx m e q p => ?_) (fun s _ => ?_)
 ·have := stR_len y.s (y.rows.getD k Rw0) x
  exact ⟨by show (stR _ _ _).1.length = _; rw [this.1, h.1], by show (stR _ _ _).2.length = _; rw [this.2, h.2]⟩
 ·have hm : y.rows.getD k Rw0 ∈ y.rows := by simp [List.getD, List.getElem?_eq_getElem hk]
  have h3 := rfY hO (Yk y k) hf (hr _ hm) x hx.1 hx.2
  exact round hX (hO (n + 2) (by omega)) (by kernel_rfl) (.b (lt_nat hk) (.o (inR_nat hk) (.w h3 (.goG [.gc [0, 1, 2, 3, 4, 5]] p))))
 ·exact round hX (hO (n + 2) (by omega)) (by kernel_rfl) (.b (lt_no y.rows.length) .ex)
noncomputable abbrev wTs (s : List Int) (ts : List (List Rw)) (acc : List Ld) (i : Int) (z : List (Nat × PE gam)) : PSt gam := ⟨[(4, .val (.nil .slc)), (5, xi 0), (6, xL 3 s), (7, .val (.fn 117 [.lst 3 s false] [])), (9, xo 0), (25, xL 28 ts), (26, xi ts.length), (27, xi i)] ++ z, [], [.list false false 124 acc]⟩
def x0 (s : List Int) : List Int × List V := (List.replicate (prodI s).toNat 0, List.replicate (prodI s).toNat V0)
def layX (s : List Int) (t : List Rw) : List Int × List V := foldN (fun k => stR s (t.getD k Rw0)) t.length 0 (x0 s)
def gT (s : List Int) (ts : List (List Rw)) (k : Nat) (acc : List Ld) : List Ld ⊕ Int := if decide (((ts.getD k []).length : Int) > 4000) = true then .inr 5 else if (!((ts.getD k []).all (S_tRow s))) = true then .inr 4 else if decide (S_lMax (layX s (ts.getD k [])).1 > 1) = true then .inr 6 else if (S_lMin (layX s (ts.getD k [])).1 == 0) = true then .inr 7 else .inl (acc ++ [⟨s, (layX s (ts.getD k [])).2⟩])
noncomputable def zT (s : List Int) (ts : List (List Rw)) : List Ld ⊕ Int → Ex × PSt gam
 | .inl acc => (.exit 0, wTs s ts acc ts.length [(28, xl false)])
 | .inr e => (.ret, ⟨[(4, .val (.nil .slc)), (5, xi e)], [], []⟩)
theorem leB_of : ∀ {t f : List Int}, f.length = t.length → (∀ j, j < f.length → f.getD j 0 ≤ t.getD j 0) → LeB t f
 | [], [], _, _ => trivial
 | a :: t, b :: f, h, hj => ⟨hj 0 (by simp), leB_of (by simpa using h) fun j h1 => by simpa using hj (j + 1) (by simpa using h1)⟩
 | [], _ :: _, h, _ => by simp at h
 | _ :: _, [], h, _ => by simp at h
theorem rowIn_of {s : List Int} {r : Rw} (h : S_tRow s r = true) : RowIn s r := by
 unfold S_tRow at h
 split at h
 ·cases h
 rename_i h1
 split at h
 ·cases h
 rename_i h2
 split at h
 ·cases h
 split at h
 ·rename_i h4
  have h1 : isPl s r.fr = true := by simpa using h1
  have h2 : isPl s r.to = true := by simpa using h2
  refine ⟨h1, h2, leB_of (by rw [isPl_len h1, isPl_len h2]) fun j hj => ?_⟩
  have := srch_ok.1 h4 j hj
  simpa [cFT] using this
 ·cases h
theorem layX_len (s : List Int) (t : List Rw) : (layX s t).1.length = (prodI s).toNat ∧ (layX s t).2.length = (prodI s).toNat := by
 refine foldN_inv (g := fun k => stR s (t.getD k Rw0)) (m := t.length) (k := 0) (s := x0 s) (fun _ x => x.1.length = (prodI s).toNat ∧ x.2.length = (prodI s).toNat) ⟨by simp [x0], by simp [x0]⟩ fun j x _ _ h => ?_
 have := stR_len s (t.getD j Rw0) x
 exact ⟨by rw [this.1, h.1], by rw [this.2, h.2]⟩
def RwsOk (t : List Rw) : Prop := ∀ r ∈ t, r.fr.length ≤ most ∧ r.to.length ≤ most
theorem qAll {n : Nat} (hO : Ok n oc119) (s : List Int) (l : List Rw) (hl : l.length ≤ most) (hr : ∀ r ∈ l, r.fr.length ≤ most ∧ r.to.length ≤ most) : Sim X0 Tryz.prog (ApN (n + 4)) (.fn 118 [] []) [.lst 95 l false, .fn 117 [.lst 3 s false] []] [] (tA.put (l.all (S_tRow s))) [] := by
 have h1 : ∀ x ∈ l, Sim X0 Tryz.prog (ApN (n + 1)) (.fn 163 [] [.ptr 0 0 1]) [.agg x.ps] (boxF 117 [.lst 3 s false]) (tA.put (!(S_tRow s x))) (boxF 117 [.lst 3 s false]) := fun x hx =>
  sim_is hX hO (first := []) (by kernel_rfl) (.o (hr x hx).1 (.o (hr x hx).2 .sr))
 have h2 := q162 (n := n + 1) (g := fun x => !(S_tRow s x)) l h1 hl
 rw [← any_not]
 exact Sim.drop hX (sim_is hX ok0 (first := []) (cap := []) (H1 := boxF 117 [.lst 3 s false]) (by kernel_rfl) (.k h2 .sr)) rfl rfl
theorem lLay {n : Nat} (hO : ∀ m, n ≤ m → Ok m oc119) {s : List Int} (hf : Fine s) {ts : List (List Rw)} (hl : ts.length ≤ most) (hr : ∀ t ∈ ts, RwsOk t) : ExecS X0 Tryz.prog T (ApN (n + 4)) LL 80 false (ntP Tryz.prog 80) 0 (.loop (bodyP Tryz.prog 80 0)) (wTs s ts [] 0 []) (zT s ts (cntN (gT s ts) ts.length 0 [])).1 (zT s ts (cntN (gT s ts) ts.length 0 [])).2 := by
 have hO4 := hO (n + 4) (by omega)
 refine eachN (X := X0) (P := Tryz.prog) (T := T) (st := fun i acc => wTs s ts acc i []) (g := gT s ts) (out := zT s ts) (fun k acc => acc.length = k) (by kernel_rfl) hl LLm rfl (fun k acc m hk ha ih => ?_) (fun acc _ => ?_)
 ·obtain ⟨t, ht⟩ : ∃ t, ts.getD k [] = t := ⟨_, rfl⟩
  have hm : t ∈ ts := by rw [← ht]; simp [List.getD, List.getElem?_eq_getElem hk]
  have h1 := lt_nat hk
  have h2 := inR_nat hk
  cases e1 : decide (((ts.getD k []).length : Int) > 4000)
  ·have ht4 : (ts.getD k []).length ≤ most := most4 e1
   have hq := qAll (n := n) (hO n (Nat.le_refl _)) s (ts.getD k []) ht4 (hr _ (ht ▸ hm))
   cases e2 : (ts.getD k []).all (S_tRow s)
   ·have e : gT s ts k acc = .inr 4 := by unfold gT; rw [if_neg (by rw [e1]; simp), if_pos (by rw [e2]; rfl)]
    rw [e]
    rw [e2] at hq
    exact round hX hO4 (by kernel_rfl) (.b h1 (.o h2 (.b e1 (.fr [] hq (.b (rfl : (!false) = true) (.ouG [.gc []] nofun))))))
   ·rw [e2] at hq
    have hf1 := hf.cnt_most
    have hn0 : 1 ≤ prodI s := prodI_pos hf.sz
    have hnm : prodI s ≤ (most : Int) := by unfold cnt at hf1; omega
    have hx := layX_len s (ts.getD k [])
    have hR : LpB (n + 2 + 2) 80 1 0 (wRw (Yk ⟨s, ts, ts.getD k [], Rw0, acc, k, 0⟩ 0) (x0 s) []) (.exit 2) (wRw (Yk ⟨s, ts, ts.getD k [], Rw0, acc, k, 0⟩ (ts.getD k []).length) (layX s (ts.getD k [])) [(52, xl false)]) := lLayR (n := n + 2) (fun m hm => hO m (by omega)) ⟨s, ts, ts.getD k [], Rw0, acc, k, 0⟩ hf ht4 (fun r hr => rowIn_of (List.all_eq_true.1 e2 r hr)) (x0 s) (by simp [x0, cnt]) (by simp [x0, cnt])
    have hxl : (layX s (ts.getD k [])).1.length ≤ most := by rw [hx.1]; omega
    have hx0 : 0 < (layX s (ts.getD k [])).1.length := by rw [hx.1]; omega
    have hal : acc.length + ([⟨s, (layX s (ts.getD k [])).2⟩] : List Ld).length ≤ most := by rw [ha]; show k + 1 ≤ most; omega
    have e0 : gT s ts k acc = if decide (S_lMax (layX s (ts.getD k [])).1 > 1) = true then .inr 6 else if (S_lMin (layX s (ts.getD k [])).1 == 0) = true then .inr 7 else .inl (acc ++ [⟨s, (layX s (ts.getD k [])).2⟩]) := by unfold gT; rw [if_neg (by rw [e1]; simp), if_neg (by rw [e2]; simp)]
    cases e3 : decide (S_lMax (layX s (ts.getD k [])).1 > 1)
    ·cases e4 : S_lMin (layX s (ts.getD k [])).1 == 0
     ·rw [if_neg (by rw [e3]; simp), if_neg (by rw [e4]; simp)] at e0
      rw [e0]
      exact round hX hO4 (by kernel_rfl) (.b h1 (.o h2 (.b e1 (.fr [] hq (.b (rfl : (!true) = false) (.o hf (.o (rfl : prodI s = prodI s) (.o (show 0 ≤ prodI s by omega) (.o hnm (.o hf (.o (rfl : prodI s = prodI s) (.o (show 0 ≤ prodI s by omega) (.o hnm (.w hR (.o hxl (.o hx0 (.b e3 (.o hxl (.o hx0 (.b e4 (.o hal (.nxG [.gc [7]] (ih _ (by simp [ha]))))))))))))))))))))))))
     ·rw [if_neg (by rw [e3]; simp), if_pos e4] at e0
      rw [e0]
      exact round hX hO4 (by kernel_rfl) (.b h1 (.o h2 (.b e1 (.fr [] hq (.b (rfl : (!true) = false) (.o hf (.o (rfl : prodI s = prodI s) (.o (show 0 ≤ prodI s by omega) (.o hnm (.o hf (.o (rfl : prodI s = prodI s) (.o (show 0 ≤ prodI s by omega) (.o hnm (.w hR (.o hxl (.o hx0 (.b e3 (.o hxl (.o hx0 (.b e4 (.ouG [.gc []] nofun)))))))))))))))))))))
    ·rw [if_pos e3] at e0
     rw [e0]
     exact round hX hO4 (by kernel_rfl) (.b h1 (.o h2 (.b e1 (.fr [] hq (.b (rfl : (!true) = false) (.o hf (.o (rfl : prodI s = prodI s) (.o (show 0 ≤ prodI s by omega) (.o hnm (.o hf (.o (rfl : prodI s = prodI s) (.o (show 0 ≤ prodI s by omega) (.o hnm (.w hR (.o hxl (.o hx0 (.b e3 (.ouG [.gc []] nofun))))))))))))))))))
  ·have e : gT s ts k acc = .inr 5 := by unfold gT; rw [if_pos e1]
   rw [e]
   exact round hX hO4 (by kernel_rfl) (.b h1 (.o h2 (.b e1 (.ouG [.gc []] nofun))))
 ·exact round hX hO4 (by kernel_rfl) (.b (lt_no ts.length) (.ou nofun))
def S_lay (s : List Int) (ts : List (List Rw)) : List Ld × Int := if (S_sizes s != 0) = true then ([], S_sizes s) else match cntN (gT s ts) ts.length 0 [] with
 | .inl acc => (acc, 0)
 | .inr e => ([], e)
noncomputable def oc80 : Orc gam := orcF 80 (a2 isA tbsA) (tupA (a2 ldsA iA)) (fun p => S_lay p.1 p.2) (fun p => [p.1.length ≤ most, p.2.length ≤ most, ∀ t ∈ p.2, RwsOk t]) oc119
theorem gc80 : Gd oc80 := gc119.deep 4 fun n hn hO p hp => by
 obtain ⟨n, rfl⟩ : ∃ k, n = k + 4 := ⟨n - 4, by omega⟩
 obtain ⟨s, ts⟩ := p
 have h1 : s.length ≤ most := hp _ (.head _)
 have h2 : ts.length ≤ most := hp _ (.tail _ (.head _))
 have h3 : ∀ t ∈ ts, RwsOk t := hp _ (.tail _ (.tail _ (.head _)))
 have hO4 := hO (n + 4) (by omega)
 show Con _ _ _ _ _ ((tupA (a2 ldsA iA)).put (S_lay s ts)) _
 cases e : S_sizes s != 0
 ·have hl := lLay (n := n) (fun m hm => hO m (by omega)) (fine_of e) h2 h3
  have e0 : S_lay s ts = match cntN (gT s ts) ts.length 0 [] with | .inl acc => (acc, 0) | .inr e => ([], e) := by unfold S_lay; rw [if_neg (by rw [e]; simp)]
  cases e2 : cntN (gT s ts) ts.length 0 [] with
  | inl acc =>
   rw [e2] at hl e0
   rw [e0]
   exact fn_is hX hO4 (by kernel_rfl) (.o h1 (.b e (.wG [.nilE 9 124] hl .rr)))
  | inr er =>
   rw [e2] at hl e0
   rw [e0]
   exact fn_is hX hO4 (by kernel_rfl) (.o h1 (.b e (.wG [.nilE 9 124] hl (.rn (.tup [.nil .slc, .int .i64 er]) rfl))))
 ·have e0 : S_lay s ts = ([], S_sizes s) := by unfold S_lay; rw [if_pos e]
  rw [e0]
  exact fn_is hX hO4 (by kernel_rfl) (.o h1 (.b e (.rn (.tup [.nil .slc, .int .i64 (S_sizes s)]) rfl)))
end Go.Proofs.YtmefgijobonklaaGreat
namespace Go.Proofs.YtmefgijobonklaaGreat
open Go Tw Pv Mist
abbrev lyE (s : List Int) (t : List Rw) : Int := (S_lay s [t]).2
abbrev lyL (s : List Int) (t : List Rw) : Ld := (S_lay s [t]).1.getD (Int.toNat 0) Ld0
theorem m1 (t : List Rw) : [t].length ≤ most := by unfold most; simp
theorem m2 {t : List Rw} (h : RwsOk t) : ∀ x ∈ [t], RwsOk x := List.forall_mem_singleton.2 h
def S_tErr (s : List Int) (t : List Rw) : Int := if (S_sizes s != 0) = true then S_sizes s else if decide ((t.length : Int) > 4000) = true then 5 else if (!(t.all (S_tRow s))) = true then 4 else if decide (S_lMax (layX s t).1 > 1) = true then 6 else if (S_lMin (layX s t).1 == 0) = true then 7 else 0
theorem lay1 (s : List Int) (t : List Rw) : S_lay s [t] = if (S_tErr s t != 0) = true then ([], S_tErr s t) else ([⟨s, (layX s t).2⟩], 0) := by
 unfold S_lay S_tErr
 by_cases c : (S_sizes s != 0) = true
 ·rw [if_pos c, if_pos c, if_pos c]
 ·rw [if_neg c, if_neg c]
  have e : gT s [t] 0 [] = if decide ((t.length : Int) > 4000) = true then .inr 5 else if (!(t.all (S_tRow s))) = true then .inr 4 else if decide (S_lMax (layX s t).1 > 1) = true then .inr 6 else if (S_lMin (layX s t).1 == 0) = true then .inr 7 else .inl [⟨s, (layX s t).2⟩] := rfl
  simp only [List.length_singleton, cntN]
  rw [e]
  by_cases c1 : decide ((t.length : Int) > 4000) = true
  ·rw [if_pos c1, if_pos c1]; rfl
  rw [if_neg c1, if_neg c1]
  by_cases c2 : (!(t.all (S_tRow s))) = true
  ·rw [if_pos c2, if_pos c2]; rfl
  rw [if_neg c2, if_neg c2]
  by_cases c3 : decide (S_lMax (layX s t).1 > 1) = true
  ·rw [if_pos c3, if_pos c3]; rfl
  rw [if_neg c3, if_neg c3]
  by_cases c4 : (S_lMin (layX s t).1 == 0) = true
  ·rw [if_pos c4, if_pos c4]; rfl
  rw [if_neg c4, if_neg c4]; rfl
theorem lyE_eq (s : List Int) (t : List Rw) : lyE s t = S_tErr s t := by
 unfold lyE
 rw [lay1]
 split
 ·rfl
 ·rename_i h; simpa using Eq.symm (by simpa using h)
theorem lyL_eq {s : List Int} {t : List Rw} (h : (lyE s t != 0) = false) : (S_lay s [t]).1 = [⟨s, (layX s t).2⟩] ∧ Fine s ∧ t.length ≤ most ∧ t.all (S_tRow s) = true := by
 rw [lyE_eq] at h
 refine ⟨by rw [lay1, if_neg (by rw [h]; simp)], ?_⟩
 have h : S_tErr s t = 0 := by simpa using h
 unfold S_tErr at h
 split at h
 ·rename_i c; simp [h] at c
 rename_i c
 split at h
 ·cases h
 rename_i c2
 split at h
 ·cases h
 rename_i c3
 exact ⟨fine_of (by simpa using c), most4 (by simpa using c2), by simpa using c3⟩
theorem lyL_of {s : List Int} {t : List Rw} (h : (lyE s t != 0) = false) : lyL s t = ⟨s, (layX s t).2⟩ := by unfold lyL; rw [(lyL_eq h).1]; rfl
theorem lyL_ok {s : List Int} {t : List Rw} (h : (lyE s t != 0) = false) : OfOk (lyL s t).s (lyL s t).cells := by
 rw [lyL_of h]
 have hf := (lyL_eq h).2.1
 have := prodI_pos hf.sz
 exact ⟨hf, by show ((layX s t).2.length : Int) = prodI s; rw [(layX_len s t).2]; omega⟩
theorem at_in {s q : List Int} {t : List Rw} (h : (lyE s t != 0) = false) (h2 : (!(isPl (lyL s t).s q)) = false) : inR (numI (lyL s t).s q) (lyL s t).cells.length := by
 have h3 := lyL_ok h
 have h4 := numI_rng (s := (lyL s t).s) (p := q) (by simpa using h2) h3.1.sz
 have h5 := h3.2
 exact ⟨h4.1, by omega⟩
end Go.Proofs.YtmefgijobonklaaGreat
namespace Go.Proofs.YtmefgijobonklaaGreat
open Go Tw Pv Mist
theorem fine_lt {s : List Int} (h : Fine s) {k : Nat} (hk : k < cnt s) : decide ((k : Int) < prodI s) = true := by unfold cnt at hk; rw [decide_eq_true_eq]; omega
theorem fine_no {s : List Int} (h : Fine s) : decide (((cnt s : Nat) : Int) < prodI s) = false := by unfold cnt; rw [decide_eq_false_iff_not]; omega
end Go.Proofs.YtmefgijobonklaaGreat
namespace Pv
open Go Tw
theorem arr_ok {P : Program} {kt : TypeId} {α : Type} [DecidableEq α] {v : α → Value} {n : Nat} {e : TypeId} (hu : P.underlying kt = some (.array n e)) (he : ∀ x y, pureRun P (Op.equal kt (v x) (v y)) = some (decide (x = y))) (x : α) (l : List α) : pureRun P (Instr.findKey kt (v x) (l.map fun y => ⟨v y, .bool false, 0⟩)) = some ((l.findIdx? fun y => decide (x = y)).map fun i => (i, .bool false)) := by
 have h := ask_ok he x l 0
 unfold Instr.findKey
 rw [pureRun_bind, pr_und hu, Option.bind_some]
 cases l with
 | nil => rfl
 | cons y l =>
  rw [show Instr.findNow (.array n e) (v x) ((y :: l).map fun y => ⟨v y, .bool false, 0⟩) 0 = none by simp [Instr.findNow, Instr.sameNow]]
  exact h
end Pv
namespace Tw
open Go
theorem eqIt_cons {P : Program} {d : Nat} {e : TypeId} {c i : Nat} {is : List Nat} {xs ys : Array Value} {a b : Value} {r : Bool} (ha : pureRun P (part e xs (i * c)) = some a) (hb : pureRun P (part e ys (i * c)) = some b) (hr : pureRun P (Op.equalIn d e a b) = some r) : pureRun P (eqIt d e c xs ys (i :: is)) = if r = true then pureRun P (eqIt d e c xs ys is) else some false := by
 simp only [eqIt]
 rw [pureRun_bind, ha, Option.bind_some, pureRun_bind, hb, Option.bind_some, pureRun_bind, hr, Option.bind_some]
 cases r <;> rfl
end Tw
namespace Go.Proofs.YtmefgijobonklaaGreat
open Go Tw Pv Mist
abbrev V3 := V × V × V
abbrev V3.vs (x : V3) : Array Value := #[.int .u8 x.1.f, .int .i64 x.1.n, .int .u8 x.2.1.f, .int .i64 x.2.1.n, .int .u8 x.2.2.f, .int .i64 x.2.2.n]
theorem prV3 (d : Nat) (a b : V3) : pureRun Tryz.prog (Op.equalIn (d + 3) 133 (.agg a.vs) (.agg b.vs)) = some (decide (a = b)) := by
 have hA : Tryz.prog.underlying 133 = some (.array 3 58) := by kernel_rfl
 have hS : pureRun Tryz.prog (sizeOf 58) = some 2 := by kernel_rfl
 have p0 : ∀ x : V3, pureRun Tryz.prog (part 58 x.vs (0 * 2)) = some (.agg #[.int .u8 x.1.f, .int .i64 x.1.n]) := fun x => by kernel_rfl
 have p1 : ∀ x : V3, pureRun Tryz.prog (part 58 x.vs (1 * 2)) = some (.agg #[.int .u8 x.2.1.f, .int .i64 x.2.1.n]) := fun x => by kernel_rfl
 have p2 : ∀ x : V3, pureRun Tryz.prog (part 58 x.vs (2 * 2)) = some (.agg #[.int .u8 x.2.2.f, .int .i64 x.2.2.n]) := fun x => by kernel_rfl
 rw [pr_equalIn_array (d + 2) _ _ hA hS]
 show pureRun _ (eqIt _ _ _ _ _ [0, 1, 2]) = _
 rw [eqIt_cons (p0 a) (p0 b) (prVal d a.1 b.1), eqIt_cons (p1 a) (p1 b) (prVal d a.2.1 b.2.1), eqIt_cons (p2 a) (p2 b) (prVal d a.2.2 b.2.2), show ∀ xs ys, pureRun Tryz.prog (eqIt (d + 2) 58 2 xs ys []) = some true from fun _ _ => rfl]
 obtain ⟨a1, a2, a3⟩ := a
 obtain ⟨b1, b2, b3⟩ := b
 by_cases h1 : a1 = b1 <;> by_cases h2 : a2 = b2 <;> by_cases h3 : a3 = b3 <;> simp [h1, h2, h3]
noncomputable def kW : KeyC X0 Tryz.prog 133 V3 where
 pv x := .agg [.int .u8 x.1.f, .int .i64 x.1.n, .int .u8 x.2.1.f, .int .i64 x.2.1.n, .int .u8 x.2.2.f, .int .i64 x.2.2.n]
 tv x := .agg [.int .u8 x.1.f, .int .i64 x.1.n, .int .u8 x.2.1.f, .int .i64 x.2.1.n, .int .u8 x.2.2.f, .int .i64 x.2.2.n]
 v x := .agg x.vs
 hp _ := rfl
 ht _ := rfl
 hc em x := by kernel_rfl
 hf x l := arr_ok (by kernel_rfl : Tryz.prog.underlying 133 = some (.array 3 58)) (fun a b => prV3 9997 a b) x l
noncomputable abbrev kn (c : Int) (L : List V3) : List (V3 × PV X0.Γ) := L.map fun k => (k, .agg (S_tRes c k).ps)
theorem kn_keys (c : Int) (L : List V3) : (kn c L).map (·.1) = L := by unfold kn; rw [List.map_map]; exact List.map_id'' (fun _ => rfl) L
theorem kn_app (c : Int) (L : List V3) (k : V3) : kW.es (kn c (L ++ [k])) = kW.es (kn c L) ++ [(kW.pv k, .agg (S_tRes c k).ps)] := by simp [kn, KeyC.es]
noncomputable abbrev wOp (s : List Int) (c : Int) (on : List Ld) (L : List V3) (acc : List V) (i : Int) (x : List (Nat × PE gam)) : PSt gam := ⟨[(1, xu c), (6, .loc 0 0), (10, xL 124 on), (12, .loc 1 0), (13, .val (.map 0)), (52, xi (prodI s)), (53, xi i)] ++ x, [[.nil .slc], [.lst 3 s false, .own 1]], [.map (kW.es (kn c L)), .list false false 58 acc]⟩
def kyO : List Ld → Int → V3
 | [a], i => (a.cells.getD i.toNat V0, V0, V0)
 | [a, b], i => (a.cells.getD i.toNat V0, b.cells.getD i.toNat V0, V0)
 | a :: b :: c :: _, i => (a.cells.getD i.toNat V0, b.cells.getD i.toNat V0, c.cells.getD i.toNat V0)
 | [], _ => (V0, V0, V0)
def gOp (c : Int) (on : List Ld) (k : Nat) (x : List V3 × List V) : List V3 × List V := (if kyO on k ∈ x.1 then x.1 else x.1 ++ [kyO on k], x.2 ++ [S_tRes c (kyO on k)])
def cellsTp (s : List Int) (c : Int) (on : List Ld) : List V := (List.range (cnt s)).map fun (k : Nat) => S_tRes c (kyO on k)
def RdOp (n : Nat) (s : List Int) (c : Int) (on : List Ld) : Prop := ∀ (k : Nat) (L : List V3) (acc : List V), k < cnt s → L.Nodup → acc.length = k → ∀ m e p, RhB n 32 0 0 m (wOp s c on (gOp c on k (L, acc)).1 (gOp c on k (L, acc)).2 (IntKind.i64.wrap (k + 1)) []) e p → RhB n 32 0 0 (m + 1) (wOp s c on L acc k []) e p
theorem rdOp1 {n : Nat} (hO : Ok n oc80) {s : List Int} (c : Int) (hf : Fine s) (a : Ld) (ha : a.cells.length = cnt s) : RdOp n s c [a] := by
 intro k L acc hk hL ha m e p h
 have hcm := hf.cnt_most
 have hal : acc.length + 1 ≤ most := by omega
 have t0 := fine_lt hf hk
 have u0 : decide ((0 : Int) < (([a] : List Ld).length : Int)) = true := rfl
 have v0 : inR ((0 : Int)) ([a] : List Ld).length := ⟨by decide, by show ((0 : Nat) : Int) < _; simp⟩
 have w0 : inR (k : Int) (([a] : List Ld).getD ((0 : Int)).toNat Ld0).cells.length := inR_nat (show k < a.cells.length by omega)
 have ue : decide (IntKind.i64.wrap ((0 : Int) + 1) < (([a] : List Ld).length : Int)) = false := rfl
 by_cases hm : kyO [a] k ∈ L
 ·have hF : FoundP X0 Tryz.prog 133 (kW.es (kn c L)) (kW.tv (kyO [a] k)) (.agg (S_tRes c (kyO [a] k)).ps) := kW.found (by rw [kn_keys]; exact hL) (List.mem_map.2 ⟨_, hm, rfl⟩)
  have e1 : gOp c [a] k (L, acc) = (L, acc ++ [S_tRes c (kyO [a] k)]) := by unfold gOp; rw [if_pos hm]
  rw [e1] at h
  exact round hX hO (by kernel_rfl) (.b t0 (.m 8 le8 (.b u0 (.o v0 (.o w0 (.b ue (.c (.agg (S_tRes c (kyO [a] k)).ps) [] hF (.b (rfl : (!true) = false) (.o hal (.goG [.gc [0, 3]] h))))))))))
 ·have hF : FreshP X0 Tryz.prog 133 (kW.es (kn c L)) (kW.tv (kyO [a] k)) := kW.fresh (by rw [kn_keys]; exact hm)
  have e1 : gOp c [a] k (L, acc) = (L ++ [kyO [a] k], acc ++ [S_tRes c (kyO [a] k)]) := by unfold gOp; rw [if_neg hm]
  rw [e1] at h
  simp only [wOp, kn_app] at h
  exact round hX hO (by kernel_rfl) (.b t0 (.m 8 le8 (.b u0 (.o v0 (.o w0 (.b ue (.a .calm (.o hF (.b (rfl : (!false) = true) (.a .calm (.o (kW.ck (kyO [a] k)) (.o hF (.o hal (.goG [.gc [0, 3]] h))))))))))))))
theorem rdOp2 {n : Nat} (hO : Ok n oc80) {s : List Int} (c : Int) (hf : Fine s) (a b : Ld) (ha : a.cells.length = cnt s) (hb : b.cells.length = cnt s) : RdOp n s c [a, b] := by
 intro k L acc hk hL ha m e p h
 have hcm := hf.cnt_most
 have hal : acc.length + 1 ≤ most := by omega
 have t0 := fine_lt hf hk
 have u0 : decide ((0 : Int) < (([a, b] : List Ld).length : Int)) = true := rfl
 have v0 : inR ((0 : Int)) ([a, b] : List Ld).length := ⟨by decide, by show ((0 : Nat) : Int) < _; simp⟩
 have w0 : inR (k : Int) (([a, b] : List Ld).getD ((0 : Int)).toNat Ld0).cells.length := inR_nat (show k < a.cells.length by omega)
 have u1 : decide (IntKind.i64.wrap ((0 : Int) + 1) < (([a, b] : List Ld).length : Int)) = true := rfl
 have v1 : inR (IntKind.i64.wrap ((0 : Int) + 1)) ([a, b] : List Ld).length := ⟨by decide, by show ((1 : Nat) : Int) < _; simp⟩
 have w1 : inR (k : Int) (([a, b] : List Ld).getD (IntKind.i64.wrap ((0 : Int) + 1)).toNat Ld0).cells.length := inR_nat (show k < b.cells.length by omega)
 have ue : decide (IntKind.i64.wrap (IntKind.i64.wrap ((0 : Int) + 1) + 1) < (([a, b] : List Ld).length : Int)) = false := rfl
 by_cases hm : kyO [a, b] k ∈ L
 ·have hF : FoundP X0 Tryz.prog 133 (kW.es (kn c L)) (kW.tv (kyO [a, b] k)) (.agg (S_tRes c (kyO [a, b] k)).ps) := kW.found (by rw [kn_keys]; exact hL) (List.mem_map.2 ⟨_, hm, rfl⟩)
  have e1 : gOp c [a, b] k (L, acc) = (L, acc ++ [S_tRes c (kyO [a, b] k)]) := by unfold gOp; rw [if_pos hm]
  rw [e1] at h
  exact round hX hO (by kernel_rfl) (.b t0 (.m 8 le8 (.b u0 (.o v0 (.o w0 (.b u1 (.o v1 (.o w1 (.b ue (.c (.agg (S_tRes c (kyO [a, b] k)).ps) [] hF (.b (rfl : (!true) = false) (.o hal (.goG [.gc [0, 3]] h)))))))))))))
 ·have hF : FreshP X0 Tryz.prog 133 (kW.es (kn c L)) (kW.tv (kyO [a, b] k)) := kW.fresh (by rw [kn_keys]; exact hm)
  have e1 : gOp c [a, b] k (L, acc) = (L ++ [kyO [a, b] k], acc ++ [S_tRes c (kyO [a, b] k)]) := by unfold gOp; rw [if_neg hm]
  rw [e1] at h
  simp only [wOp, kn_app] at h
  exact round hX hO (by kernel_rfl) (.b t0 (.m 8 le8 (.b u0 (.o v0 (.o w0 (.b u1 (.o v1 (.o w1 (.b ue (.a .calm (.o hF (.b (rfl : (!false) = true) (.a .calm (.o (kW.ck (kyO [a, b] k)) (.o hF (.o hal (.goG [.gc [0, 3]] h)))))))))))))))))
theorem rdOp3 {n : Nat} (hO : Ok n oc80) {s : List Int} (c : Int) (hf : Fine s) (a b d : Ld) (ha : a.cells.length = cnt s) (hb : b.cells.length = cnt s) (hd : d.cells.length = cnt s) : RdOp n s c [a, b, d] := by
 intro k L acc hk hL ha m e p h
 have hcm := hf.cnt_most
 have hal : acc.length + 1 ≤ most := by omega
 have t0 := fine_lt hf hk
 have u0 : decide ((0 : Int) < (([a, b, d] : List Ld).length : Int)) = true := rfl
 have v0 : inR ((0 : Int)) ([a, b, d] : List Ld).length := ⟨by decide, by show ((0 : Nat) : Int) < _; simp⟩
 have w0 : inR (k : Int) (([a, b, d] : List Ld).getD ((0 : Int)).toNat Ld0).cells.length := inR_nat (show k < a.cells.length by omega)
 have u1 : decide (IntKind.i64.wrap ((0 : Int) + 1) < (([a, b, d] : List Ld).length : Int)) = true := rfl
 have v1 : inR (IntKind.i64.wrap ((0 : Int) + 1)) ([a, b, d] : List Ld).length := ⟨by decide, by show ((1 : Nat) : Int) < _; simp⟩
 have w1 : inR (k : Int) (([a, b, d] : List Ld).getD (IntKind.i64.wrap ((0 : Int) + 1)).toNat Ld0).cells.length := inR_nat (show k < b.cells.length by omega)
 have u2 : decide (IntKind.i64.wrap (IntKind.i64.wrap ((0 : Int) + 1) + 1) < (([a, b, d] : List Ld).length : Int)) = true := rfl
 have v2 : inR (IntKind.i64.wrap (IntKind.i64.wrap ((0 : Int) + 1) + 1)) ([a, b, d] : List Ld).length := ⟨by decide, by show ((2 : Nat) : Int) < _; simp⟩
 have w2 : inR (k : Int) (([a, b, d] : List Ld).getD (IntKind.i64.wrap (IntKind.i64.wrap ((0 : Int) + 1) + 1)).toNat Ld0).cells.length := inR_nat (show k < d.cells.length by omega)
 have ue : decide (IntKind.i64.wrap (IntKind.i64.wrap (IntKind.i64.wrap ((0 : Int) + 1) + 1) + 1) < (([a, b, d] : List Ld).length : Int)) = false := rfl
 by_cases hm : kyO [a, b, d] k ∈ L
 ·have hF : FoundP X0 Tryz.prog 133 (kW.es (kn c L)) (kW.tv (kyO [a, b, d] k)) (.agg (S_tRes c (kyO [a, b, d] k)).ps) := kW.found (by rw [kn_keys]; exact hL) (List.mem_map.2 ⟨_, hm, rfl⟩)
  have e1 : gOp c [a, b, d] k (L, acc) = (L, acc ++ [S_tRes c (kyO [a, b, d] k)]) := by unfold gOp; rw [if_pos hm]
  rw [e1] at h
  exact round hX hO (by kernel_rfl) (.b t0 (.m 8 le8 (.b u0 (.o v0 (.o w0 (.b u1 (.o v1 (.o w1 (.b u2 (.o v2 (.o w2 (.b ue (.c (.agg (S_tRes c (kyO [a, b, d] k)).ps) [] hF (.b (rfl : (!true) = false) (.o hal (.goG [.gc [0, 3]] h))))))))))))))))
 ·have hF : FreshP X0 Tryz.prog 133 (kW.es (kn c L)) (kW.tv (kyO [a, b, d] k)) := kW.fresh (by rw [kn_keys]; exact hm)
  have e1 : gOp c [a, b, d] k (L, acc) = (L ++ [kyO [a, b, d] k], acc ++ [S_tRes c (kyO [a, b, d] k)]) := by unfold gOp; rw [if_neg hm]
  rw [e1] at h
  simp only [wOp, kn_app] at h
  exact round hX hO (by kernel_rfl) (.b t0 (.m 8 le8 (.b u0 (.o v0 (.o w0 (.b u1 (.o v1 (.o w1 (.b u2 (.o v2 (.o w2 (.b ue (.a .calm (.o hF (.b (rfl : (!false) = true) (.a .calm (.o (kW.ck (kyO [a, b, d] k)) (.o hF (.o hal (.goG [.gc [0, 3]] h))))))))))))))))))))
theorem rdOp {n : Nat} (hO : Ok n oc80) {s : List Int} (c : Int) (hf : Fine s) : ∀ (on : List Ld), 1 ≤ on.length → on.length ≤ 3 → (∀ l ∈ on, l.cells.length = cnt s) → RdOp n s c on
 | [a], _, _, h => rdOp1 hO c hf a (h a (by simp))
 | [a, b], _, _, h => rdOp2 hO c hf a b (h a (by simp)) (h b (by simp))
 | [a, b, d], _, _, h => rdOp3 hO c hf a b d (h a (by simp)) (h b (by simp)) (h d (by simp))
 | [], h, _, _ => by simp at h
 | _ :: _ :: _ :: _ :: _, _, h, _ => by simp at h
theorem lOp {n : Nat} (hO : Ok n oc80) {s : List Int} (c : Int) (hf : Fine s) {on : List Ld} (h : RdOp n s c on) : ∃ L, Lp n 32 0 (wOp s c on [] [] 0 []) (.exit 0) (wOp s c on L (cellsTp s c on) (cnt s) [(54, xl false)]) := by
 have e : (foldN (gOp c on) (cnt s) 0 ([], [])).2 = cellsTp s c on := by
  have := foldN_inv (g := gOp c on) (m := cnt s) (k := 0) (s := ([], [])) (fun k x => x.2 = (List.range k).map fun (k : Nat) => S_tRes c (kyO on k)) rfl (fun j x _ _ h => by
   show x.2 ++ [_] = _
   rw [h, List.range_succ, List.map_append]; rfl)
  simpa [cellsTp] using this
 rw [← e]
 exact ⟨(foldN (gOp c on) (cnt s) 0 ([], [])).1, foldL (σ := List V3 × List V) (N := cnt s) (g := gOp c on) (s0 := ([], [])) (st := fun k x => wOp s c on x.1 x.2 k []) (fin := fun x => wOp s c on x.1 x.2 (cnt s) [(54, xl false)]) (fun j x => x.1.Nodup ∧ x.2.length = j) (by kernel_rfl) hf.cnt_most ⟨List.nodup_nil, rfl⟩ (fun j x _ hx => by
  refine ⟨?_, by simp [gOp, hx.2]⟩
  show (if _ ∈ x.1 then x.1 else x.1 ++ [_]).Nodup
  split
  ·exact hx.1
  ·rename_i hn
   rw [List.nodup_append]
   exact ⟨hx.1, by simp, fun y hy z hz => by rw [List.mem_singleton] at hz; subst hz; intro e; subst e; exact hn hy⟩) (fun k x hk hx m e p q => h k x.1 x.2 hk hx.1 hx.2 m e p q) (fun x _ => round hX hO (by kernel_rfl) (.b (fine_no hf) .ex))⟩
def eT (s : List Int) (t : List Rw) : Int := if decide ((t.length : Int) > 4000) = true then 5 else if (!(t.all (S_tRow s))) = true then 4 else if decide (S_lMax (layX s t).1 > 1) = true then 6 else if (S_lMin (layX s t).1 == 0) = true then 7 else 0
theorem gT_eq (s : List Int) (ts : List (List Rw)) (k : Nat) (acc : List Ld) : gT s ts k acc = if (eT s (ts.getD k []) != 0) = true then .inr (eT s (ts.getD k [])) else .inl (acc ++ [⟨s, (layX s (ts.getD k [])).2⟩]) := by
 unfold gT eT
 generalize ts.getD k [] = t
 by_cases c1 : decide ((t.length : Int) > 4000) = true
 ·rw [if_pos c1, if_pos c1]; rfl
 rw [if_neg c1, if_neg c1]
 by_cases c2 : (!(t.all (S_tRow s))) = true
 ·rw [if_pos c2, if_pos c2]; rfl
 rw [if_neg c2, if_neg c2]
 by_cases c3 : decide (S_lMax (layX s t).1 > 1) = true
 ·rw [if_pos c3, if_pos c3]; rfl
 rw [if_neg c3, if_neg c3]
 by_cases c4 : (S_lMin (layX s t).1 == 0) = true
 ·rw [if_pos c4, if_pos c4]; rfl
 rw [if_neg c4, if_neg c4]; rfl
theorem tErr_eT {s : List Int} (h : (S_sizes s != 0) = false) (t : List Rw) : S_tErr s t = eT s t := by
 unfold S_tErr eT
 rw [if_neg (by rw [h]; simp)]
theorem cntT {s : List Int} {ts : List (List Rw)} : ∀ (m k : Nat) (acc r : List Ld), k + m = ts.length → cntN (gT s ts) m k acc = .inl r → r = acc ++ (ts.drop k).map (fun t => ⟨s, (layX s t).2⟩) ∧ ∀ t ∈ ts.drop k, eT s t = 0
 | 0, k, acc, r, hk, h => by
  simp only [cntN, Sum.inl.injEq] at h
  rw [List.drop_of_length_le (by omega)]
  exact ⟨by simp [h], by simp⟩
 | m + 1, k, acc, r, hk, h => by
  simp only [cntN, gT_eq] at h
  have hlt : k < ts.length := by omega
  have hd : ts.getD k [] = ts[k] := by simp [List.getD, List.getElem?_eq_getElem hlt]
  rw [List.drop_eq_getElem_cons hlt]
  by_cases c : (eT s (ts.getD k []) != 0) = true
  ·rw [if_pos c] at h; cases h
  ·rw [if_neg c] at h
   obtain ⟨h1, h2⟩ := cntT m (k + 1) _ r (by omega) h
   rw [hd] at h1 c
   refine ⟨by rw [h1, List.map_cons, List.append_assoc]; rfl, fun t ht => ?_⟩
   rcases List.mem_cons.1 ht with rfl | ht
   ·simpa using c
   ·exact h2 t ht
theorem lay_map {s : List Int} {ts : List (List Rw)} (h0 : (S_sizes s != 0) = false) (h : ((S_lay s ts).2 != 0) = false) : (S_lay s ts).1 = ts.map (fun t => ⟨s, (layX s t).2⟩) ∧ ∀ t ∈ ts, eT s t = 0 := by
 have e : S_lay s ts = match cntN (gT s ts) ts.length 0 [] with | .inl acc => (acc, 0) | .inr e => ([], e) := by unfold S_lay; rw [if_neg (by rw [h0]; simp)] <;> rfl
 cases hc : cntN (gT s ts) ts.length 0 [] with
 | inl acc =>
  rw [hc] at e
  obtain ⟨h1, h2⟩ := cntT _ 0 _ _ (by omega) hc
  rw [e]
  exact ⟨by simpa using h1, by simpa using h2⟩
 | inr er =>
  rw [hc] at e
  exfalso
  have her : er = 0 := by rw [e] at h; simpa using h
  subst her
  have : ∀ (m k : Nat) (acc : List Ld), cntN (gT s ts) m k acc ≠ .inr 0 := by
   intro m
   induction m with
   | zero => intro k acc h; cases h
   | succ m ih =>
    intro k acc h
    simp only [cntN, gT_eq] at h
    by_cases c : (eT s (ts.getD k []) != 0) = true
    ·rw [if_pos c] at h
     injection h with h
     rw [h] at c; cases c
    ·rw [if_neg c] at h; exact ih _ _ h
  exact this _ _ _ hc
def S_tOp (s : List Int) (c : Int) (ts : List (List Rw)) : List Rw × Int := if (S_sizes s != 0) = true then ([], S_sizes s) else if (S_opnd c == 0) = true then ([], 2) else if ((ts.length : Int) != S_opnd c) = true then ([], 2) else if ((S_lay s ts).2 != 0) = true then ([], (S_lay s ts).2) else (dOf s (cellsTp s c (S_lay s ts).1), 0)
theorem opnd_rng (c : Int) : 0 ≤ S_opnd c ∧ S_opnd c ≤ 3 := by
 unfold S_opnd
 split
 ·omega
 split
 ·omega
 split
 ·split
  ·omega
  ·split <;> omega
 ·split <;> omega
theorem cellsTp_ok {s : List Int} {c : Int} {on : List Ld} (h : Fine s) : OfOk s (cellsTp s c on) := ⟨h, by unfold cellsTp; rw [List.length_map, List.length_range, h.cntI]⟩
noncomputable def oc32 : Orc gam := orcF 32 (a3 isA uA tbsA) (tupA (a2 tbA iA)) (fun p => S_tOp p.1 p.2.1 p.2.2) (fun p => [p.1.length ≤ most, p.2.2.length ≤ most, ∀ t ∈ p.2.2, RwsOk t]) oc80
theorem gc32 : Gd oc32 := gc80.deep 0 fun n hn hO p hp => by
 obtain ⟨s, c, ts⟩ := p
 have h1 : s.length ≤ most := hp _ (.head _)
 have h2 : ts.length ≤ most := hp _ (.tail _ (.head _))
 have h3 : ∀ t ∈ ts, RwsOk t := hp _ (.tail _ (.tail _ (.head _)))
 have hO := hO n (by omega)
 show Con _ _ _ _ _ ((tupA (a2 tbA iA)).put (S_tOp s c ts)) _
 unfold S_tOp
 by_cases c1 : (S_sizes s != 0) = true
 ·rw [if_pos c1]
  exact fn_is hX hO (by kernel_rfl) (.o h1 (.b c1 (.rn (.tup [.agg [.nil .slc], .int .i64 (S_sizes s)]) rfl)))
 have c1 : (S_sizes s != 0) = false := by simpa using c1
 rw [if_neg (by rw [c1]; simp)]
 by_cases c2 : (S_opnd c == 0) = true
 ·rw [if_pos c2]
  exact fn_is hX hO (by kernel_rfl) (.o h1 (.b c1 (.b c2 (.rn (.tup [.agg [.nil .slc], .int .i64 2]) rfl))))
 have c2 : (S_opnd c == 0) = false := by simpa using c2
 rw [if_neg (by rw [c2]; simp)]
 by_cases c3 : ((ts.length : Int) != S_opnd c) = true
 ·rw [if_pos c3]
  exact fn_is hX hO (by kernel_rfl) (.o h1 (.b c1 (.b c2 (.b c3 (.rn (.tup [.agg [.nil .slc], .int .i64 2]) rfl)))))
 have c3 : ((ts.length : Int) != S_opnd c) = false := by simpa using c3
 rw [if_neg (by rw [c3]; simp)]
 by_cases c4 : ((S_lay s ts).2 != 0) = true
 ·rw [if_pos c4]
  exact fn_is hX hO (by kernel_rfl) (.o h1 (.b c1 (.b c2 (.b c3 (.o h1 (.o h2 (.o h3 (.b c4 (.rn (.tup [.agg [.nil .slc], .int .i64 (S_lay s ts).2]) rfl)))))))))
 have c4 : ((S_lay s ts).2 != 0) = false := by simpa using c4
 rw [if_neg (by rw [c4]; simp)]
 have hf := fine_of c1
 have hm := lay_map c1 c4
 have hlen : (S_lay s ts).1.length = ts.length := by rw [hm.1, List.length_map]
 have hon := opnd_rng c
 have e2 : S_opnd c ≠ 0 := by simpa using c2
 have e3 : (ts.length : Int) = S_opnd c := by simpa using c3
 have hr := rdOp hO c hf (S_lay s ts).1 (by omega) (by omega) (fun l hl => by
  rw [hm.1] at hl
  obtain ⟨t, _, rfl⟩ := List.mem_map.1 hl
  exact (layX_len s t).2)
 obtain ⟨L, hl⟩ := lOp hO c hf hr
 exact fn_is hX hO (by kernel_rfl) (.o h1 (.b c1 (.b c2 (.b c3 (.o h1 (.o h2 (.o h3 (.b c4 (.o hf (.wG [.nilL 1 1 58] hl (.o (cellsTp_ok (c := c) (on := (S_lay s ts).1) hf) .rr)))))))))))
end Go.Proofs.YtmefgijobonklaaGreat
namespace Mist
def inB : List Int → List Int → List Int → Prop
 | f :: fs, t :: ts, y :: q => f ≤ y ∧ y ≤ t ∧ inB fs ts q
 | [], [], [] => True
 | _, _, _ => False
theorem box_cons {f t : Int} {fs ts : List Int} (h : f ≤ t) : boxA (f :: fs) (t :: ts) (f :: fs) = (List.range (t - f + 1).toNat).flatMap fun (k : Nat) => (boxA fs ts fs).map ((f + (k : Int)) :: ·) := by
 have e : (t - f + 1).toNat = (t - f).toNat + 1 := by omega
 rw [e, List.range_succ_eq_map]
 simp only [boxA, List.flatMap_cons, List.flatMap_map]
 congr 1
 ·simp
 ·congr 1
  funext k
  have e1 : f + 1 + (k : Int) = f + ((Nat.succ k : Nat) : Int) := by push_cast; omega
  rw [e1]
theorem mem_box : ∀ {f t q : List Int}, LeB t f → (q ∈ boxA f t f ↔ inB f t q)
 | [], [], [], _ => by simp [boxA, inB]
 | [], [], _ :: _, _ => by simp [boxA, inB]
 | f :: fs, t :: ts, [], h => by
  rw [box_cons h.1]
  simp [inB]
 | f :: fs, t :: ts, y :: q, h => by
  have ih := mem_box (q := q) h.2
  rw [box_cons h.1]
  simp only [List.mem_flatMap, List.mem_range, List.mem_map, inB, ← ih]
  constructor
  ·rintro ⟨k, hk, q', hq, e⟩
   cases e
   exact ⟨by omega, by omega, hq⟩
  ·rintro ⟨h1, h2, h3⟩
   exact ⟨(y - f).toNat, by omega, q, h3, by rw [show f + (((y - f).toNat : Nat) : Int) = y by omega]⟩
 | [], _ :: _, _, h => h.elim
 | _ :: _, [], _, h => h.elim
theorem nodup_box : ∀ {f t : List Int}, LeB t f → (boxA f t f).Nodup
 | [], [], _ => by simp [boxA]
 | f :: fs, t :: ts, h => by
  have ih := nodup_box h.2
  rw [box_cons h.1]
  unfold List.Nodup
  rw [List.pairwise_flatMap]
  refine ⟨fun k _ => ?_, ?_⟩
  ·rw [List.pairwise_map]
   exact ih.imp fun h e => h (List.cons.inj e).2
  ·refine List.pairwise_lt_range.imp fun {a b} hab x hx y hy e => ?_
   obtain ⟨x', _, rfl⟩ := List.mem_map.1 hx
   obtain ⟨y', _, rfl⟩ := List.mem_map.1 hy
   have := (List.cons.inj e).1
   omega
 | [], _ :: _, h => h.elim
 | _ :: _, [], h => h.elim
theorem inB_iff : ∀ {f t q : List Int}, inB f t q ↔ f.length = q.length ∧ t.length = q.length ∧ ∀ j, j < q.length → f.getD j 0 ≤ q.getD j 0 ∧ q.getD j 0 ≤ t.getD j 0
 | [], [], [] => by simp [inB]
 | f :: fs, t :: ts, y :: q => by
  have ih := inB_iff (f := fs) (t := ts) (q := q)
  simp only [inB, ih, List.length_cons]
  constructor
  ·rintro ⟨h1, h2, h3, h4, h5⟩
   refine ⟨by omega, by omega, fun j hj => ?_⟩
   cases j with
   | zero => exact ⟨h1, h2⟩
   | succ j => exact h5 j (by omega)
  ·rintro ⟨h1, h2, h3⟩
   have h0 := h3 0 (by omega)
   exact ⟨h0.1, h0.2, by omega, by omega, fun j hj => h3 (j + 1) (by omega)⟩
 | [], _ :: _, q => by cases q <;> simp [inB] <;> (intro h1 h2; omega)
 | _ :: _, [], q => by cases q <;> simp [inB] <;> (intro h1 h2; omega)
 | [], [], _ :: _ => by simp [inB]
 | _ :: _, _ :: _, [] => by simp [inB]
end Mist
namespace Go.Proofs.YtmefgijobonklaaGreat
open Go Tw Pv Mist
theorem fold_on {α γ : Type} {st : α → Nat → α} {get : α → Nat → γ} {up : γ → γ} (I : α → Prop) (N : Nat) (hI : ∀ x n, I x → I (st x n)) (h1 : ∀ x n, I x → n < N → get (st x n) n = up (get x n)) (h2 : ∀ x n m, n ≠ m → get (st x n) m = get x m) : ∀ (l : List Nat) (x : α) (m : Nat), I x → (∀ n ∈ l, n < N) → l.Nodup → get (l.foldl st x) m = if m ∈ l then up (get x m) else get x m
 | [], x, m, _, _, _ => by simp
 | a :: l, x, m, hx, hl, h => by
  rw [List.nodup_cons] at h
  rw [List.foldl_cons, fold_on I N hI h1 h2 l _ m (hI _ _ hx) (fun n hn => hl n (List.mem_cons_of_mem _ hn)) h.2]
  by_cases e : a = m
  ·subst e
   rw [if_neg h.1, if_pos (List.mem_cons_self ..), h1 _ _ hx (hl a (List.mem_cons_self ..))]
  ·rw [h2 x a m e]
   have : m ∈ a :: l ↔ m ∈ l := List.mem_cons.trans (or_iff_right fun h => e h.symm)
   simp only [this]
theorem inB_pl : ∀ {s f t q : List Int}, isPl s f = true → isPl s t = true → inB f t q → isPl s q = true := by
 intro s f t q hf ht h
 obtain ⟨h1, h2, h3⟩ := inB_iff.1 h
 have hf := isPl_iff.1 hf
 have ht := isPl_iff.1 ht
 refine isPl_iff.2 ⟨by omega, fun j hj => ?_⟩
 have a1 := h3 j (by omega)
 have a2 := hf.2 j hj
 have a3 := ht.2 j hj
 omega
def nmR (s : List Int) (r : Rw) : List Nat := (boxA r.fr r.to r.fr).map fun p => (numI s p).toNat
theorem nmR_nodup {s : List Int} (hs : SzOk s) {r : Rw} (hr : RowIn s r) : (nmR s r).Nodup := by
 unfold nmR List.Nodup
 rw [List.pairwise_map]
 refine List.Pairwise.imp_of_mem ?_ (nodup_box hr.le)
 intro a b ha hb hab e
 have pa := inB_pl hr.f hr.t ((mem_box hr.le).1 ha)
 have pb := inB_pl hr.f hr.t ((mem_box hr.le).1 hb)
 have ra := numI_rng pa hs
 have rb := numI_rng pb hs
 have : numI s a = numI s b := by omega
 exact hab (by rw [← nth_num pa hs, ← nth_num pb hs, this])
theorem nmR_mem {s : List Int} (hs : SzOk s) {r : Rw} (hr : RowIn s r) {n : Nat} (hn : n < cnt s) : n ∈ nmR s r ↔ inB r.fr r.to (nthI s n) := by
 unfold nmR
 rw [List.mem_map]
 constructor
 ·rintro ⟨p, hp, e⟩
  have hb := (mem_box hr.le).1 hp
  have pp := inB_pl hr.f hr.t hb
  have rp := numI_rng pp hs
  have : ((n : Nat) : Int) = numI s p := by omega
  rw [this, nth_num pp hs]
  exact hb
 ·intro h
  exact ⟨nthI s n, (mem_box hr.le).2 h, by rw [num_nth hs (by omega) (by unfold cnt at hn; omega)]; simp⟩
theorem nmR_lt {s : List Int} (hs : SzOk s) {r : Rw} (hr : RowIn s r) : ∀ n ∈ nmR s r, n < cnt s := by
 intro n h
 obtain ⟨p, hp, rfl⟩ := List.mem_map.1 h
 have rp := numI_rng (inB_pl hr.f hr.t ((mem_box hr.le).1 hp)) hs
 unfold cnt
 omega
theorem has_iff {s : List Int} {r : Rw} (hr : RowIn s r) {p : List Int} (hp : p.length = s.length) : hasR r p = true ↔ inB r.fr r.to p := by
 unfold hasR
 rw [srch_ok, inB_iff, isPl_len hr.f, isPl_len hr.t, hp]
 simp only [true_and]
 refine forall_congr' fun j => forall_congr' fun hj => ?_
 unfold cHas
 by_cases c : p.getD j 0 < r.fr.getD j 0
 ·rw [if_pos (by simpa using c)]
  constructor
  ·intro h; cases h
  ·rintro ⟨h1, _⟩; omega
 ·rw [if_neg (by simpa using c), decide_eq_false_iff_not]; omega
def stN (c : V) (x : List Int × List V) (n : Nat) : List Int × List V := (x.1.set n (IntKind.i64.wrap (x.1.getD n 0 + 1)), x.2.set n c)
theorem stR_nm (s : List Int) (r : Rw) (x : List Int × List V) : stR s r x = (nmR s r).foldl (stN r.cell) x := by
 unfold stR nmR
 rw [List.foldl_map]
 rfl
theorem stR_at {s : List Int} (hs : SzOk s) {r : Rw} (hr : RowIn s r) {x : List Int × List V} (h1 : x.1.length = cnt s) (h2 : x.2.length = cnt s) {n : Nat} (hn : n < cnt s) : (stR s r x).1.getD n 0 = (if hasR r (nthI s n) = true then IntKind.i64.wrap (x.1.getD n 0 + 1) else x.1.getD n 0) ∧ (stR s r x).2.getD n V0 = if hasR r (nthI s n) = true then r.cell else x.2.getD n V0 := by
 have hm : n ∈ nmR s r ↔ hasR r (nthI s n) = true := by rw [nmR_mem hs hr hn, has_iff hr (nthI_len s n)]
 rw [stR_nm]
 have a1 := fold_on (st := stN r.cell) (get := fun x n => x.1.getD n 0) (up := fun z => IntKind.i64.wrap (z + 1)) (fun x => x.1.length = cnt s ∧ x.2.length = cnt s) (cnt s) (fun x n h => by simpa [stN] using h) (fun x n h hn => by simp [stN, List.getD, List.getElem?_set, h.1, hn]) (fun x n m e => by simp [stN, List.getD, List.getElem?_set, e]) (nmR s r) x n ⟨h1, h2⟩ (nmR_lt hs hr) (nmR_nodup hs hr)
 have a2 := fold_on (st := stN r.cell) (get := fun x n => x.2.getD n V0) (up := fun _ => r.cell) (fun x => x.1.length = cnt s ∧ x.2.length = cnt s) (cnt s) (fun x n h => by simpa [stN] using h) (fun x n h hn => by simp [stN, List.getD, List.getElem?_set, h.2, hn]) (fun x n m e => by simp [stN, List.getD, List.getElem?_set, e]) (nmR s r) x n ⟨h1, h2⟩ (nmR_lt hs hr) (nmR_nodup hs hr)
 simp only [hm] at a1 a2
 exact ⟨a1, a2⟩
def cellI (t : List Rw) (i : Int) : V := if i < 0 then V0 else (t.getD i.toNat Rw0).cell
theorem layX_own {s : List Int} (hs : SzOk s) {t : List Rw} (hr : ∀ r ∈ t, RowIn s r) {n : Nat} (hn : n < cnt s) : (layX s t).1.getD n 0 = (S_Owners t (nthI s n)).1 ∧ (layX s t).2.getD n V0 = cellI t (S_Owners t (nthI s n)).2 := by
 have key : ∀ m, m ≤ t.length → (foldN (fun k => stR s (t.getD k Rw0)) m 0 (x0 s)).1.length = cnt s ∧ (foldN (fun k => stR s (t.getD k Rw0)) m 0 (x0 s)).2.length = cnt s ∧ (foldN (fun k => stR s (t.getD k Rw0)) m 0 (x0 s)).1.getD n 0 = (foldN (gOwn t (nthI s n)) m 0 (0, -1)).1 ∧ (foldN (fun k => stR s (t.getD k Rw0)) m 0 (x0 s)).2.getD n V0 = cellI t (foldN (gOwn t (nthI s n)) m 0 (0, -1)).2 := by
  intro m
  induction m with
  | zero =>
   intro _
   refine ⟨by simp [foldN, x0, cnt], by simp [foldN, x0, cnt], ?_, ?_⟩
   ·simp only [foldN, x0, List.getD, List.getElem?_replicate]; split <;> rfl
   ·simp only [foldN, x0, List.getD, List.getElem?_replicate]; split <;> rfl
  | succ m ih =>
   intro hm
   obtain ⟨i1, i2, i3, i4⟩ := ih (by omega)
   rw [foldN_succ, foldN_succ, Nat.zero_add]
   generalize foldN (fun k => stR s (t.getD k Rw0)) m 0 (x0 s) = x at i1 i2 i3 i4 ⊢
   generalize foldN (gOwn t (nthI s n)) m 0 (0, -1) = y at i3 i4 ⊢
   have hrow := hr (t.getD m Rw0) (by simp [List.getD, List.getElem?_eq_getElem (show m < t.length by omega)])
   have hl := stR_len s (t.getD m Rw0) x
   have ha := stR_at hs hrow i1 i2 hn
   refine ⟨by rw [hl.1, i1], by rw [hl.2, i2], ?_, ?_⟩
   ·rw [ha.1, i3]
    unfold gOwn
    split <;> rfl
   ·rw [ha.2, i4]
    unfold gOwn
    split
    ·show _ = cellI t ((m : Nat) : Int)
     unfold cellI
     rw [if_neg (by omega), Int.toNat_natCast]
    ·rfl
 exact ⟨(key t.length (Nat.le_refl _)).2.2.1, (key t.length (Nat.le_refl _)).2.2.2⟩
end Go.Proofs.YtmefgijobonklaaGreat
namespace Go.Proofs.YtmefgijobonklaaGreat
open Go Tw Pv Mist
theorem cell_vIs {v : V} (h : 0 ≤ v.f) : (S_vCheck v == 0) = vIs v := by
 have e1 : (S_vCheck v == 0) = S_isCell v := by unfold S_vCheck; cases S_isCell v <;> rfl
 have e2 : S_withinV [v.n] (-9999) 9999 = S_rIn v.n (-9999) 9999 := by
  rw [Bool.eq_iff_iff, rIn_iff]
  simp only [S_withinV, S_within1V, List.any_cons, List.any_nil, Bool.or_false, Bool.not_eq_true']
  by_cases c : v.n < -9999
  ·rw [if_pos (by simpa using c)]; simp; omega
  ·rw [if_neg (by simpa using c), decide_eq_false_iff_not]; omega
 rw [e1]
 unfold S_isCell vIs
 rw [e2]
 by_cases c : v.f = 0
 ·rw [if_pos (by simpa using c), if_neg (by simp [c])]
 ·rw [if_neg (by simpa using c), if_pos (show decide (v.f > 0) = true by rw [decide_eq_true_eq]; omega)]
theorem tRow_iff {s : List Int} {r : Rw} : S_tRow s r = true ↔ isPl s r.fr = true ∧ isPl s r.to = true ∧ (S_vCheck r.cell == 0) = true ∧ isL (srch (cFT r) r.fr.length) = true := by
 unfold S_tRow
 cases isPl s r.fr <;> cases isPl s r.to <;> cases (S_vCheck r.cell == 0) <;> cases isL (srch (cFT r) r.fr.length) <;> simp
theorem isRow_iff {s : List Int} {r : Rw} : S_isRow21 s r = true ↔ r.fr.length = s.length ∧ r.to.length = s.length ∧ vIs r.cell = true ∧ isL (srch (cRow s r) s.length) = true := by
 unfold S_isRow21
 by_cases c1 : r.fr.length = s.length
 ·by_cases c2 : r.to.length = s.length
  ·rw [if_neg (by simp [c1]), if_neg (by simp [c2])]
   cases vIs r.cell <;> cases isL (srch (cRow s r) s.length) <;> simp [c1, c2]
  ·rw [if_neg (by simp [c1]), if_pos (by simp; omega)]
   simp [c2]
 ·rw [if_pos (by simp; omega)]
  simp [c1]
theorem row_eq {s : List Int} {r : Rw} (h : 0 ≤ r.cell.f) : S_tRow s r = S_isRow21 s r := by
 rw [Bool.eq_iff_iff, tRow_iff, isRow_iff, cell_vIs h, isPl_iff, isPl_iff, srch_ok, srch_ok]
 constructor
 ·rintro ⟨⟨a1, a2⟩, ⟨b1, b2⟩, c, d⟩
  refine ⟨a1, b1, c, fun j hj => ?_⟩
  have x1 := a2 j hj
  have x2 := b2 j hj
  have x3 := d j (by omega)
  simp only [cFT, decide_eq_false_iff_not] at x3
  simp only [cRow]
  rw [if_neg (by rw [decide_eq_true_eq]; omega), if_neg (by rw [decide_eq_true_eq]; omega), decide_eq_false_iff_not]
  omega
 ·rintro ⟨a1, b1, c, d⟩
  have key : ∀ j, j < s.length → 0 ≤ r.fr.getD j 0 ∧ r.fr.getD j 0 ≤ r.to.getD j 0 ∧ r.to.getD j 0 < s.getD j 0 := fun j hj => by
   have x := d j hj
   simp only [cRow] at x
   split at x
   ·cases x
   rename_i y1
   split at x
   ·cases x
   rename_i y2
   rw [decide_eq_true_eq] at y1 y2
   rw [decide_eq_false_iff_not] at x
   omega
  refine ⟨⟨a1, fun j hj => ?_⟩, ⟨b1, fun j hj => ?_⟩, c, fun j hj => ?_⟩
  ·have := key j hj; omega
  ·have := key j hj; omega
  ·have := key j (by omega)
   simp only [cFT, decide_eq_false_iff_not]
   omega
abbrev ownN (s : List Int) (t : List Rw) (n : Nat) : Int := (S_Owners t (nthI s n)).1
theorem none_cnt {s : List Int} {t : List Rw} : ∀ (m k : Nat) (b : Bool), cntN (gNone s t) m k b = if ((List.range' k m).any fun j => decide (ownN s t j > 1)) = true then .inr () else .inl (b || (List.range' k m).any fun j => ownN s t j == 0)
 | 0, k, b => by simp [cntN]
 | m + 1, k, b => by
  rw [List.range'_succ]
  simp only [cntN, List.any_cons]
  by_cases c : decide (ownN s t k > 1) = true
  ·have e : gNone s t k b = .inr () := by unfold gNone; rw [if_pos c]
   rw [e]
   simp only [c, Bool.true_or, if_true]
  ·have c' : decide (ownN s t k > 1) = false := by simpa using c
   have e : gNone s t k b = .inl (b || (ownN s t k == 0)) := by
    unfold gNone
    rw [if_neg c]
    cases b <;> rfl
   rw [e]
   show cntN (gNone s t) m (k + 1) _ = _
   rw [none_cnt m (k + 1)]
   simp only [c', Bool.false_or, Bool.or_assoc]
theorem own_inv {t : List Rw} (ht : t.length ≤ 4000) (p : List Int) : 0 ≤ (S_Owners t p).1 ∧ (1 ≤ (S_Owners t p).1 → inR (S_Owners t p).2 t.length) := by
 have := foldN_inv (g := gOwn t p) (m := t.length) (k := 0) (s := (0, -1)) (fun k x => 0 ≤ x.1 ∧ x.1 ≤ (k : Int) ∧ (1 ≤ x.1 → inR x.2 t.length)) ⟨by simp, by simp, fun h => by simp at h⟩ (fun j x _ hj h => by
  obtain ⟨h1, h2, h3⟩ := h
  unfold gOwn
  split
  ·have e : IntKind.i64.wrap (x.1 + 1) = x.1 + 1 := wrap_nn (by omega) (by omega)
   refine ⟨by show 0 ≤ IntKind.i64.wrap (x.1 + 1); omega, by show IntKind.i64.wrap (x.1 + 1) ≤ _; push_cast; omega, fun _ => inR_nat (by omega)⟩
  ·exact ⟨h1, by push_cast; omega, h3⟩)
 exact ⟨this.1, this.2.2⟩
theorem layX_had {s : List Int} (hs : SzOk s) {t : List Rw} (hr : ∀ r ∈ t, RowIn s r) : (layX s t).1 = (List.range (cnt s)).map (ownN s t) := by
 refine List.ext_getElem (by rw [(layX_len s t).1]; simp [cnt]) fun n h1 h2 => ?_
 have hn : n < cnt s := by simpa using h2
 have := (layX_own hs hr hn).1
 rw [List.getD, List.getElem?_eq_getElem h1] at this
 simpa using this
theorem err_eq {s : List Int} {t : List Rw} (hc : ∀ r ∈ t, 0 ≤ r.cell.f) : S_tErr s t = S_rTab s t := by
 unfold S_tErr S_rTab
 by_cases c0 : (S_sizes s != 0) = true
 ·rw [if_pos c0, if_pos c0]
 rw [if_neg c0, if_neg c0]
 by_cases c1 : decide ((t.length : Int) > 4000) = true
 ·rw [if_pos c1, if_pos c1]
 rw [if_neg c1, if_neg c1]
 have e : t.all (S_tRow s) = isL (srch (cRows s t) t.length) := by
  rw [Bool.eq_iff_iff, srch_ok, List.all_eq_true]
  have h := all_getD (l := t) (d := Rw0) (p := fun r => S_tRow s r = true)
  rw [← h]
  refine forall_congr' fun j => forall_congr' fun hj => ?_
  have hm : t.getD j Rw0 ∈ t := by simp [List.getD, List.getElem?_eq_getElem hj]
  rw [row_eq (hc _ hm)]
  simp [cRows]
 cases c2 : isL (srch (cRows s t) t.length)
 ·rw [if_pos (by rw [e, c2]; rfl), if_neg (by simp)]
 rw [if_neg (by rw [e, c2]; simp), if_pos rfl]
 have hf := fine_of (s := s) (by simpa using c0)
 have hr : ∀ r ∈ t, RowIn s r := fun r h => rowIn_of (List.all_eq_true.1 (e.trans c2) r h)
 have hl : (layX s t).1.length = cnt s := (layX_len s t).1
 have hcm := hf.cnt_most
 have h0 : 0 < cnt s := by have := prodI_pos hf.sz; unfold cnt; omega
 have ht : t.length ≤ 4000 := by simp at c1; omega
 have hM := max_one (l := (layX s t).1) (by omega) (by omega)
 have hm := min_zero (l := (layX s t).1) (by omega) (by omega) (fun x hx => by
  rw [layX_had hf.sz hr] at hx
  obtain ⟨n, _, rfl⟩ := List.mem_map.1 hx
  exact (own_inv ht _).1)
 rw [layX_had hf.sz hr] at hM hm
 rw [List.any_map] at hM hm
 have hn := none_cnt (s := s) (t := t) (cnt s) 0 false
 rw [← List.range_eq_range', Bool.false_or] at hn
 rw [layX_had hf.sz hr, hM, hm, hn]
 by_cases c3 : ((List.range (cnt s)).any fun j => decide (ownN s t j > 1)) = true
 ·rw [if_pos (show ((List.range (cnt s)).any ((fun x => decide (x > 1)) ∘ ownN s t)) = true from c3), if_pos c3]
  rfl
 ·rw [if_neg (show ¬ ((List.range (cnt s)).any ((fun x => decide (x > 1)) ∘ ownN s t)) = true from c3), if_neg c3]
  rfl
theorem lyE_rTab {s : List Int} {t : List Rw} (hc : ∀ r ∈ t, 0 ≤ r.cell.f) : lyE s t = S_rTab s t := by rw [lyE_eq, err_eq hc]
theorem lyL_list {s : List Int} {t : List Rw} (h : (lyE s t != 0) = false) : (lyL s t).cells = S_List s t := by
 rw [lyL_of h]
 obtain ⟨_, hf, _, ha⟩ := lyL_eq h
 have hr : ∀ r ∈ t, RowIn s r := fun r h => rowIn_of (List.all_eq_true.1 ha r h)
 have hE : S_tErr s t = 0 := by have := lyE_eq s t; rw [this] at h; simpa using h
 have hl : (layX s t).1.length = cnt s := (layX_len s t).1
 have hcm := hf.cnt_most
 have h0 : 0 < cnt s := by have := prodI_pos hf.sz; unfold cnt; omega
 unfold S_tErr at hE
 split at hE
 ·rename_i c; rw [hE] at c; cases c
 split at hE
 ·cases hE
 rename_i c1
 have ht : t.length ≤ 4000 := by simp at c1; omega
 split at hE
 ·cases hE
 split at hE
 ·cases hE
 split at hE
 ·cases hE
 rename_i c4
 have hm := min_zero (l := (layX s t).1) (by omega) (by omega) (fun x hx => by
  rw [layX_had hf.sz hr] at hx
  obtain ⟨n, _, rfl⟩ := List.mem_map.1 hx
  exact (own_inv ht _).1)
 have c4 : (S_lMin (layX s t).1 == 0) = false := by simpa using c4
 rw [c4, layX_had hf.sz hr] at hm
 show (layX s t).2 = _
 unfold S_List
 refine List.ext_getElem (by rw [(layX_len s t).2]; simp [cnt]) fun n h1 h2 => ?_
 have hn : n < cnt s := by simpa using h2
 have h3 := (layX_own hf.sz hr hn).2
 rw [List.getD, List.getElem?_eq_getElem h1] at h3
 have h4 := List.any_eq_false.1 hm.symm (ownN s t n) (List.mem_map.2 ⟨n, by simpa using hn, rfl⟩)
 have h5 := own_inv ht (nthI s n)
 have h6 : 1 ≤ (S_Owners t (nthI s n)).1 := by
  have : ¬ ((S_Owners t (nthI s n)).1 = 0) := by simpa using h4
  omega
 have h7 := h5.2 h6
 have h3 : (layX s t).2[n] = cellI t (S_Owners t (nthI s n)).2 := by simpa using h3
 rw [h3]
 simp only [List.getElem_map, List.getElem_range, atN, S_At, cellI]
 rw [if_neg (by have := h7.1; omega)]
end Go.Proofs.YtmefgijobonklaaGreat
namespace Go.Proofs.YtmefgijobonklaaGreat
open Go Tw Pv Mist
noncomputable def oc18 : Orc gam := orcF 18 (a1 isA) isA (fun p => p) (fun p => [p.length ≤ most]) oc32
theorem gc18 : Gd oc18 := gc32.add fun n hO p hp => fn_is hX hO (by kernel_rfl) (.o (hp _ (.head _)) .rr)
def S_thinS (s : List Int) : Bool := if decide ((s.length : Int) ≤ 8) = true then (if (S_sizes s != 0) = true then true else decide (prodC s ≤ 60)) else false
theorem most8 {n : Nat} (h : decide ((n : Int) ≤ 8) = true) : n ≤ most := by rw [decide_eq_true_eq] at h; unfold most; omega
noncomputable def oc15 : Orc gam := orcF 15 (a1 isA) tA (fun p => S_thinS p) np oc18
theorem gc15 : Gd oc15 := gc18.add fun n hO p hp => fn_is hX hO (by kernel_rfl) (.sh (fun h => .o (most8 h) (.ss .rr (.o (most8 h) .rr))) fun _ => .rr)
noncomputable def oc23 : Orc gam := orcF 23 (a1 tbA) tA (fun p => ((p.length : Int) == 0)) np oc15
theorem gc23 : Gd oc23 := gc15.add fun n hO p hp => fn_is hX hO (by kernel_rfl) .rr
noncomputable abbrev wCp (t acc : List Rw) (i : Int) (x : List (Nat × PE gam)) : PSt gam := ⟨[(1, .loc 0 0), (2, .loc 1 0), (3, .loc 2 0), (4, xi i)] ++ x, [[lRw t], [.nil .slc], [.own 0]], [.list false false 95 acc]⟩
theorem lCp {n : Nat} {t : List Rw} (hO : Ok n oc23) (hl : t.length ≤ most) (hr : RwsOk t) : Lp n 28 0 (wCp t [] 0 []) (.exit 0) (wCp t t t.length [(10, xl false)]) := by
 have e : foldN (fun k (a : List Rw) => a ++ [t.getD k Rw0]) t.length 0 [] = t := by
  rw [map_fold, map_range t Rw0 fun r => r, List.map_id']
 rw [show wCp t t t.length [(10, xl false)] = wCp t (foldN (fun k (a : List Rw) => a ++ [t.getD k Rw0]) t.length 0 []) t.length [(10, xl false)] by rw [e]]
 refine foldL (σ := List Rw) (N := t.length) (g := fun k (a : List Rw) => a ++ [t.getD k Rw0]) (s0 := ([] : List Rw)) (st := fun i a => wCp t a i []) (fin := fun a => wCp t a t.length [(10, xl false)]) (fun k a => a.length = k) (by kernel_rfl) hl rfl (fun k a _ h => by simp [h]) (fun k a hk ha m e p h => ?_) (fun a _ => ?_)
 ·have hm := hr (t.getD k Rw0) (by simp [List.getD, List.getElem?_eq_getElem hk])
  have hal : a.length + 1 ≤ most := by have : a.length = k := ha; omega
  exact round hX hO (by kernel_rfl) (.b (lt_nat hk) (.o (inR_nat hk) (.o hm.1 (.o hm.2 (.o hal (.goG [.gc [2]] h))))))
 ·exact round hX hO (by kernel_rfl) (.b (lt_no t.length) .ex)
noncomputable def oc28 : Orc gam := orcF 28 (a1 tbA) tbA (fun p => p) (fun p => [p.length ≤ most, RwsOk p]) oc23
theorem gc28 : Gd oc28 := gc23.add fun n hO p hp => fn_is hX hO (by kernel_rfl) (.wG [.nilL 2 0 95] (lCp hO (hp _ (.head _)) (hp _ (.tail _ (.head _)))) .rr)
abbrev cTh (t : List Rw) (k : Nat) : Bool := if decide (((t.getD k Rw0).fr.length : Int) > 8) = true then true else decide (((t.getD k Rw0).to.length : Int) > 8)
abbrev wTh (t : List Rw) (i : Int) (x : List (Nat × PE gam)) : PSt gam := ⟨[(1, .loc 0 0), (3, xi i)] ++ x, [[lRw t]], []⟩
def zTh (t : List Rw) : Unit ⊕ Nat → Ex × PSt gam
 | .inl _ => (.exit 0, wTh t t.length [(12, xl false)])
 | .inr _ => (.ret, ⟨[(2, xl false)], [[lRw t]], []⟩)
theorem lTh {n : Nat} (hO : Ok n oc28) (t : List Rw) (hl : t.length ≤ most) : Lp n 31 0 (wTh t 0 []) (zTh t (srch (cTh t) t.length)).1 (zTh t (srch (cTh t) t.length)).2 := by
 refine eachN (X := X0) (P := Tryz.prog) (T := T) (st := fun i _ => wTh t i []) (g := gS (cTh t)) (out := zTh t) (fun _ _ => True) (by kernel_rfl) hl LLm trivial (fun k u m hk _ ih => ?_) (fun _ _ => ?_)
 ·unfold gS cTh
  cases e1 : decide (((t.getD k Rw0).fr.length : Int) > 8)
  ·exact round hX hO (by kernel_rfl) (.b (lt_nat hk) (.o (inR_nat hk) (.b e1 (.o (inR_nat hk) (.ls (.ou nofun) (.nx (ih _ trivial)))))))
  ·exact round hX hO (by kernel_rfl) (.b (lt_nat hk) (.o (inR_nat hk) (.b e1 (.ou nofun))))
 ·exact round hX hO (by kernel_rfl) (.b (lt_no t.length) (.ou nofun))
def S_thinT (t : List Rw) : Bool := if decide ((t.length : Int) > 70) = true then false else if isL (srch (cTh t) t.length) = true then true else false
theorem most70 {n : Nat} (h : decide ((n : Int) > 70) = false) : n ≤ most := by rw [decide_eq_false_iff_not] at h; unfold most; omega
noncomputable def oc31 : Orc gam := orcF 31 (a1 tbA) tA (fun p => S_thinT p) np oc28
theorem gc31 : Gd oc31 := gc28.add fun n hO p hp => fn_is hX hO (by kernel_rfl) (.sh (fun _ => .rr) fun h => .zh (fun h2 => .w (exInl (lTh hO p (most70 h)) () h2) .rr) fun h2 => .w (exInr (lTh hO p (most70 h)) 0 h2) .rr)
end Go.Proofs.YtmefgijobonklaaGreat
namespace Go.Proofs.YtmefgijobonklaaGreat
open Go Tw Pv Mist
noncomputable abbrev wTb (ts acc : List (List Rw)) (i : Int) (x : List (Nat × PE gam)) : PSt gam := ⟨[(0, xL 28 ts), (3, xo 0), (4, xi i)] ++ x, [], [.list false false 28 acc]⟩
theorem lTb21 {n : Nat} {ts : List (List Rw)} (hO : Ok n oc31) (hl : ts.length ≤ most) (hr : ∀ t ∈ ts, t.length ≤ most ∧ RwsOk t) : Lp n 33 0 (wTb ts [] 0 []) (.exit 0) (wTb ts ts ts.length [(8, xl false)]) := by
 have e : foldN (fun k (a : List (List Rw)) => a ++ [ts.getD k []]) ts.length 0 [] = ts := by
  rw [map_fold, map_range ts [] fun r => r, List.map_id']
 rw [show wTb ts ts ts.length [(8, xl false)] = wTb ts (foldN (fun k (a : List (List Rw)) => a ++ [ts.getD k []]) ts.length 0 []) ts.length [(8, xl false)] by rw [e]]
 refine foldL (σ := List (List Rw)) (N := ts.length) (g := fun k (a : List (List Rw)) => a ++ [ts.getD k []]) (s0 := ([] : List (List Rw))) (st := fun i a => wTb ts a i []) (fin := fun a => wTb ts a ts.length [(8, xl false)]) (fun k a => a.length = k) (by kernel_rfl) hl rfl (fun k a _ h => by simp [h]) (fun k a hk ha m e p h => ?_) (fun a _ => ?_)
 ·have hm := hr (ts.getD k []) (by simp [List.getD, List.getElem?_eq_getElem hk])
  have hal : a.length + 1 ≤ most := by have : a.length = k := ha; omega
  exact round hX hO (by kernel_rfl) (.b (lt_nat hk) (.o (inR_nat hk) (.o hm.1 (.o hm.2 (.o hal (.goG [.gc [2]] h))))))
 ·exact round hX hO (by kernel_rfl) (.b (lt_no ts.length) .ex)
noncomputable def oc33 : Orc gam := orcF 33 (a1 tbsA) tbsA (fun p => p) (fun p => [p.length ≤ most, ∀ t ∈ p, t.length ≤ most ∧ RwsOk t]) oc31
theorem gc33 : Gd oc33 := gc31.add fun n hO p hp => fn_is hX hO (by kernel_rfl) (.wG [.nilE 3 28] (lTb21 hO (hp _ (.head _)) (hp _ (.tail _ (.head _)))) .rr)
end Go.Proofs.YtmefgijobonklaaGreat
namespace Go.Proofs.YtmefgijobonklaaGreat
open Go Tw Pv Mist
theorem con_aw {n : Nat} : Con X0 Tryz.prog (ApN (n + 1)) 16 ((nilA : Args Unit).put ()) ((tA : Arg Bool).put true) [] := by
 intro A h first args cap hup hv
 have e := hv.inv0
 have e1 : first = [] := by cases first with | nil => rfl | cons => cases e
 subst e1
 have e2 : args = [] := by cases args with | nil => rfl | cons => cases e
 subst e2
 have e3 : cap = [] := by cases cap with | nil => rfl | cons => cases e
 subst e3
 exact ⟨.bool true, h, [], rfl, ⟨rfl, fun i b hb => by simp at hb, by simp [blks], hup, fun b hb => by simp [blks] at hb⟩, .bool _, .refl⟩
noncomputable def oc16 : Orc gam := orcF 16 nilA tA (fun _ => true) np oc33
theorem gc16 : Gd oc16 := gc33.deep 0 fun n hn hO p hp => con_aw
theorem thinS_len {s : List Int} (h : S_thinS s = true) : s.length ≤ most := by
 unfold S_thinS at h
 split at h
 ·rename_i h2; exact most8 h2
 ·cases h
theorem ne0 {a : Int} (h : (a == 0) = true) : (a != 0) = false := by simp at *; exact h
theorem ne0' {a : Int} (h : (a == 0) = false) : (a != 0) = true := by simp at *; exact h
theorem dOf_m {s : List Int} {l : List V} (h : OfOk s l) : (dOf s l).length ≤ most := by
 have h1 := dOf_len h
 have h2 := h.len
 have h3 := h.fine.many
 unfold most; omega
theorem dOf_r {s : List Int} {l : List V} (h : OfOk s l) : ∀ r ∈ dOf s l, r.fr.length ≤ most ∧ r.to.length ≤ most := fun r hr => by
 have h1 := dOf_rows s l r hr
 have h2 := h.fine.len
 unfold most
 omega
end Go.Proofs.YtmefgijobonklaaGreat
namespace Go.Proofs.YtmefgijobonklaaGreat
open Go Tw Pv Mist
theorem laid_of {s : List Int} {t : List Rw} (h : (S_rTab s t != 0) = false) : Laid s t := by
 have h0 : S_rTab s t = 0 := by simpa using h
 unfold S_rTab at h0
 split at h0
 ·rename_i c; rw [h0] at c; simp at c
 rename_i c1
 split at h0
 ·cases h0
 rename_i c2
 split at h0
 ·rename_i c3
  split at h0
  ·rename_i c4
   split at h0
   ·cases h0
   ·rename_i c5
    have hf := fine_of (s := s) (by simpa using c1)
    have hl : t.length ≤ 4000 := by simp at c2; omega
    refine ⟨hf, hl, rowsL_of c3, fun p hp => ?_⟩
    rw [none_cnt] at c4 c5
    split at c4
    ·cases c4
    rename_i c6
    rw [if_neg c6] at c5
    simp only [Bool.false_or] at c5
    have hr := numI_rng hp hf.sz
    have hn : (numI s p).toNat < cnt s := by unfold cnt; omega
    have e : (((numI s p).toNat : Nat) : Int) = numI s p := by omega
    have hk : ownN s t (numI s p).toNat ≠ 0 := fun e0 => c5 (by
     show List.any _ _ = true
     rw [List.any_eq_true]
     exact ⟨(numI s p).toNat, by rw [List.mem_range']; exact ⟨(numI s p).toNat, hn, by omega⟩, by rw [e0]; rfl⟩)
    unfold ownN at hk
    rw [e, nth_num hp hf.sz] at hk
    obtain ⟨a1, a2⟩ := own_inv hl p
    exact a2 (by omega)
  ·cases h0
 ·cases h0
end Go.Proofs.YtmefgijobonklaaGreat
namespace Go.Proofs.YtmefgijobonklaaGreat
open Go Tw Pv Mist
theorem vIs_good {v : V} (h : vIs v = true) (h0 : 0 ≤ v.f) : VGood v := by
 unfold vIs at h
 split at h
 ·rename_i c
  split at h
  ·rename_i c2
   rw [decide_eq_true_eq] at c c2
   exact ⟨h0, c2, fun e => by omega, fun _ => by simpa using h⟩
  ·cases h
 ·rename_i c
  rw [decide_eq_true_eq] at c
  exact ⟨h0, by omega, fun _ => rIn_iff.1 h, fun e => by omega⟩
theorem laid_row {s : List Int} {t : List Rw} (h : (S_rTab s t != 0) = false) : ∀ r ∈ t, S_isRow21 s r = true := by
 have h0 : S_rTab s t = 0 := by simpa using h
 unfold S_rTab at h0
 split at h0
 ·rename_i c; rw [h0] at c; simp at c
 split at h0
 ·cases h0
 split at h0
 ·rename_i c3
  have := srch_ok.1 c3
  intro r hr
  have := (all_getD (l := t) (d := Rw0) (p := fun r => S_isRow21 s r = true)).1 (fun j hj => by have := this j hj; simpa [cRows] using this)
  exact this r hr
 ·cases h0
theorem laid_good {s : List Int} {t : List Rw} (h : (S_rTab s t != 0) = false) (hf : ∀ r ∈ t, 0 ≤ r.cell.f) (k : Nat) : VGood (atN s t k) := by
 obtain ⟨r, hr, e⟩ := at_mem (laid_of h) k
 rw [e]
 exact vIs_good (isRow_iff.1 (laid_row h r hr)).2.2.1 (hf r hr)
theorem res_eq {c : Int} {on : List V} (hl : (on.length : Int) = S_opnd c) (h0 : S_opnd c ≠ 0) (hv : ∀ v ∈ on, VGood v) : S_tRes c (on.getD 0 V0, on.getD 1 V0, on.getD 2 V0) = S_Result c on := by
 have g : ∀ k, VGood (on.getD k V0) := vgood_at hv
 have hc : (S_opnd c = 1 ∧ (c = 5 ∨ c = 6)) ∨ (S_opnd c = 2 ∧ 7 ≤ c ∧ c ≤ 16) ∨ S_opnd c = 3 := by
  unfold S_opnd at h0 ⊢
  by_cases a1 : (c == 5) = true
  ·rw [if_pos a1]; exact .inl ⟨rfl, .inl (by simpa using a1)⟩
  rw [if_neg a1] at h0 ⊢
  by_cases a2 : (c == 6) = true
  ·rw [if_pos a2]; exact .inl ⟨rfl, .inr (by simpa using a2)⟩
  rw [if_neg a2] at h0 ⊢
  by_cases a3 : decide (7 ≤ c) = true
  ·rw [if_pos a3] at h0 ⊢
   by_cases a4 : decide (c ≤ 16) = true
   ·rw [if_pos a4]; exact .inr (.inl ⟨rfl, by simpa using a3, by simpa using a4⟩)
   rw [if_neg a4] at h0 ⊢
   by_cases a5 : (c == 17) = true
   ·rw [if_pos a5]; exact .inr (.inr rfl)
   ·rw [if_neg a5] at h0; exact absurd rfl h0
  ·rw [if_neg a3] at h0 ⊢
   by_cases a5 : (c == 17) = true
   ·rw [if_pos a5]; exact .inr (.inr rfl)
   ·rw [if_neg a5] at h0; exact absurd rfl h0
 unfold S_tRes S_Result
 rcases hc with ⟨e, h⟩ | ⟨e, h⟩ | e
 ·rw [if_pos (by rw [e]; rfl), if_pos (by rw [hl, e]; rfl)]
  rw [← (op1_eq h (g 0)).1]
  rcases h with rfl | rfl <;> rfl
 ·rw [if_neg (by rw [e]; decide), if_pos (by rw [e]; rfl), if_neg (by rw [hl, e]; decide), if_pos (by rw [hl, e]; rfl)]
  rw [← (op2_eq h (g 0) (g 1)).1]
  rcases nine h with rfl | rfl | rfl | rfl | rfl | rfl | rfl | rfl | rfl | rfl <;> rfl
 ·rw [if_neg (by rw [e]; decide), if_neg (by rw [e]; decide), if_neg (by rw [hl, e]; decide), if_neg (by rw [hl, e]; decide)]
  exact (choose_rv (g 0) (g 1) (g 2)).1
def erL (s : List Int) : List (List Rw) → Int → Int
 | [], w => w
 | t :: ts, w => if (w == 0) = true then erL s ts (S_rTab s t) else w
theorem erL_no {s : List Int} : ∀ {ts : List (List Rw)} {w : Int}, w ≠ 0 → erL s ts w = w
 | [], _, _ => rfl
 | t :: ts, w, h => by rw [erL, if_neg (by simpa using h)]
theorem erL_ok {s : List Int} : ∀ {ts : List (List Rw)}, erL s ts 0 = 0 → ∀ t ∈ ts, S_rTab s t = 0
 | [], _, t, ht => by cases ht
 | t :: ts, h, t', ht => by
  rw [erL, if_pos (show ((0 : Int) == 0) = true from rfl)] at h
  by_cases c : S_rTab s t = 0
  ·rw [c] at h
   rcases List.mem_cons.1 ht with rfl | ht
   ·exact c
   ·exact erL_ok h t' ht
  ·rw [erL_no c] at h; exact absurd h c
def gTO (s : List Int) (ts : List (List Rw)) (x : Nat × Int) : (Nat × Int) ⊕ (Nat × Int) := if x.1 < ts.length then (if (x.2 == 0) = true then .inl (x.1 + 1, S_rTab s (ts.getD x.1 [])) else .inr x) else .inr x
theorem itTO {s : List Int} {ts : List (List Rw)} : ∀ (m k : Nat) (w : Int), k + m = ts.length → ∃ j, itF (gTO s ts) (m + 1) (k, w) = some (j, erL s (ts.drop k) w)
 | 0, k, w, h => by
  refine ⟨k, ?_⟩
  have e : gTO s ts (k, w) = .inr (k, w) := by unfold gTO; rw [if_neg (by show ¬(k < ts.length); omega)]
  rw [itF, e, List.drop_of_length_le (show ts.length ≤ k by omega)]; rfl
 | m + 1, k, w, h => by
  have hk : k < ts.length := by omega
  have hd : ts.getD k [] = ts[k] := by simp [List.getD, List.getElem?_eq_getElem hk]
  rw [List.drop_eq_getElem_cons hk]
  by_cases c : (w == 0) = true
  ·have e : gTO s ts (k, w) = .inl (k + 1, S_rTab s ts[k]) := by unfold gTO; rw [if_pos hk, if_pos c, hd]
   obtain ⟨j, hj⟩ := itTO (s := s) (ts := ts) m (k + 1) (S_rTab s ts[k]) (by omega)
   refine ⟨j, ?_⟩
   rw [itF, e, erL, if_pos c]; exact hj
  ·have e : gTO s ts (k, w) = .inr (k, w) := by unfold gTO; rw [if_pos hk, if_neg c]
   refine ⟨k, ?_⟩
   rw [itF, e, erL, if_neg c]
theorem lay_er {s : List Int} (h0 : (S_sizes s != 0) = false) {ts : List (List Rw)} (hf : ∀ t ∈ ts, ∀ r ∈ t, 0 ≤ r.cell.f) : (S_lay s ts).2 = erL s ts 0 := by
 have e : S_lay s ts = match cntN (gT s ts) ts.length 0 [] with | .inl acc => (acc, 0) | .inr e => ([], e) := by unfold S_lay; rw [if_neg (by rw [h0]; simp)] <;> rfl
 have key : ∀ (m k : Nat) (acc : List Ld), k + m = ts.length → (match cntN (gT s ts) m k acc with | .inl acc => ((acc, 0) : List Ld × Int) | .inr e => ([], e)).2 = erL s (ts.drop k) 0 := by
  intro m
  induction m with
  | zero => intro k acc hk; rw [List.drop_of_length_le (by omega)]; rfl
  | succ m ih =>
   intro k acc hk
   have hlt : k < ts.length := by omega
   have hd : ts.getD k [] = ts[k] := by simp [List.getD, List.getElem?_eq_getElem hlt]
   rw [List.drop_eq_getElem_cons hlt, erL, if_pos (show ((0 : Int) == 0) = true from rfl)]
   have e1 : eT s ts[k] = S_rTab s ts[k] := by rw [← tErr_eT h0, err_eq (hf _ (List.getElem_mem hlt))]
   simp only [cntN, gT_eq, hd, e1]
   by_cases c : (S_rTab s ts[k] != 0) = true
   ·rw [if_pos c, erL_no (by simpa using c)]
   ·rw [if_neg c, show S_rTab s ts[k] = 0 by simpa using c]
    exact ih (k + 1) _ (by omega)
 rw [e]
 exact key _ 0 [] (by omega)
def wantO (s : List Int) (c : Int) (ts : List (List Rw)) : Int := if (S_sizes s != 0) = true then S_sizes s else if ((ts.length : Int) == 0) = true then 2 else if (S_Tables c != (ts.length : Int)) = true then 2 else erL s ts 0
theorem top_eq {s : List Int} {c : Int} {ts : List (List Rw)} (hf : ∀ t ∈ ts, ∀ r ∈ t, 0 ≤ r.cell.f) : S_tOp s c ts = if (wantO s c ts != 0) = true then ([], wantO s c ts) else (dOf s (cellsOp s c ts), 0) := by
 unfold S_tOp wantO
 by_cases c1 : (S_sizes s != 0) = true
 ·rw [if_pos c1, if_pos c1, if_pos c1]
 have c1' : (S_sizes s != 0) = false := by simpa using c1
 rw [if_neg c1, if_neg c1]
 have eo : S_Tables c = S_opnd c := rfl
 by_cases c2 : ((ts.length : Int) == 0) = true
 ·rw [if_pos c2, if_pos (show ((2 : Int) != 0) = true from rfl)]
  have c2' : (ts.length : Int) = 0 := by simpa using c2
  by_cases a : (S_opnd c == 0) = true
  ·rw [if_pos a]
  ·rw [if_neg a, if_pos (by rw [c2']; simp at a ⊢; omega)]
 rw [if_neg c2]
 by_cases c3 : (S_Tables c != (ts.length : Int)) = true
 ·rw [if_pos c3, if_pos (show ((2 : Int) != 0) = true from rfl)]
  by_cases a : (S_opnd c == 0) = true
  ·rw [if_pos a]
  ·rw [if_neg a, if_pos (by rw [eo] at c3; simp at c3 ⊢; omega)]
 have c3' : (ts.length : Int) = S_opnd c := by rw [eo] at c3; simp at c3; omega
 have c2' : S_opnd c ≠ 0 := by rw [← c3']; simpa using c2
 rw [if_neg c3, if_neg (by simpa using c2'), if_neg (by rw [c3']; simp), lay_er c1' hf]
 by_cases c4 : (erL s ts 0 != 0) = true
 ·rw [if_pos c4, if_pos c4]
 rw [if_neg c4, if_neg c4]
 have c4' : erL s ts 0 = 0 := by simpa using c4
 have hok := erL_ok c4'
 have hm := lay_map c1' (ts := ts) (by rw [lay_er c1' hf, c4']; rfl)
 have hcell : ∀ t ∈ ts, (layX s t).2 = S_List s t := fun t ht => by
  have hz : (lyE s t != 0) = false := by rw [lyE_rTab (hf t ht), hok t ht]; rfl
  have := lyL_list hz
  rw [lyL_of hz] at this
  exact this
 congr 2
 unfold cellsTp cellsOp
 refine List.map_congr_left fun k hk => ?_
 have hk : k < cnt s := List.mem_range.1 hk
 have hgood : ∀ v ∈ atAll s ts k, VGood v := by
  intro v hv
  obtain ⟨t, ht, rfl⟩ := List.mem_map.1 hv
  exact laid_good (by rw [hok t ht]; rfl) (hf t ht) k
 rw [← res_eq (by rw [atAll, List.length_map]; exact c3') c2' hgood]
 congr 1
 rw [hm.1]
 have hat : ∀ t ∈ ts, (layX s t).2.getD ((k : Nat) : Int).toNat V0 = atN s t k := fun t ht => by
  rw [hcell t ht, Int.toNat_natCast]
  unfold S_List
  rw [List.getD, List.getElem?_eq_getElem (by simpa using hk)]
  simp
 have hlen := opnd_rng c
 rw [← c3'] at hlen
 have hne : ts ≠ [] := by rintro rfl; exact c2' (by rw [← c3']; rfl)
 match ts, hat, hlen, hne with
 | [a], hat, _, _ => simp only [List.map, kyO, atAll, hat a (by simp)]; rfl
 | [a, b], hat, _, _ => simp only [List.map, kyO, atAll, hat a (by simp), hat b (by simp)]; rfl
 | [a, b, d], hat, _, _ => simp only [List.map, kyO, atAll, hat a (by simp), hat b (by simp), hat d (by simp)]; rfl
 | _ :: _ :: _ :: _ :: _, _, h, _ => simp only [List.length_cons] at h; omega
theorem want_ok {s : List Int} {c : Int} {ts : List (List Rw)} (hf : ∀ t ∈ ts, ∀ r ∈ t, 0 ≤ r.cell.f) (h : (wantO s c ts != 0) = false) : OpOk s ts := by
 have h : wantO s c ts = 0 := by simpa using h
 unfold wantO at h
 split at h
 ·rename_i c1; rw [h] at c1; simp at c1
 rename_i c1
 split at h
 ·cases h
 rename_i c2
 split at h
 ·cases h
 rename_i c3
 have hok := erL_ok h
 have c3' : (ts.length : Int) = S_opnd c := by rw [show S_Tables c = S_opnd c from rfl] at c3; simp at c3; omega
 have := opnd_rng c
 refine ⟨fine_of (by simpa using c1), fun t ht => laid_of (by rw [hok t ht]; rfl), fun t ht r hr => ?_, ?_⟩
 ·have hg := vIs_good (isRow_iff.1 (laid_row (by rw [hok t ht]; rfl) r hr)).2.2.1 (hf t ht r hr)
  by_cases e : r.cell.f = 0
  ·have := hg.n e; exact ⟨by omega, by omega⟩
  ·have := hg.z e; exact ⟨by omega, by omega⟩
 ·have c2' : (ts.length : Int) ≠ 0 := fun e => c2 (by rw [e]; rfl)
  omega
theorem thinT_ok {t : List Rw} (h : S_thinT t = true) : t.length ≤ most ∧ RwsOk t := by
 unfold S_thinT at h
 split at h
 ·cases h
 ·rename_i c
  split at h
  ·rename_i c2
   refine ⟨most70 (by simpa using c), ?_⟩
   have := srch_ok.1 c2
   refine (all_getD (l := t) (d := Rw0) (p := fun r => r.fr.length ≤ most ∧ r.to.length ≤ most)).1 fun j hj => ?_
   have := this j hj
   unfold cTh at this
   split at this
   ·cases this
   ·rename_i c3
    rw [decide_eq_true_eq] at c3
    rw [decide_eq_false_iff_not] at this
    unfold most
    omega
  ·cases h
abbrev cTb (ts : List (List Rw)) (k : Nat) : Bool := !(S_thinT (ts.getD k []))
abbrev wTO (s : List Int) (c : Int) (ts : List (List Rw)) (i : Int) (x : List (Nat × PE gam)) : PSt gam := ⟨[(0, xL 3 s), (1, xu c), (2, xL 28 ts), (7, xi i)] ++ x, [], []⟩
def zTO (s : List Int) (c : Int) (ts : List (List Rw)) : Unit ⊕ Nat → Ex × PSt gam
 | .inl _ => (.exit 0, wTO s c ts ts.length [(24, xl false)])
 | .inr _ => (.ret, ⟨[(6, xt true)], [], []⟩)
theorem lTO0 {n : Nat} (hO : Ok n oc16) (s : List Int) (c : Int) (ts : List (List Rw)) (hl : ts.length ≤ most) : Lp n 5 0 (wTO s c ts 0 []) (zTO s c ts (srch (cTb ts) ts.length)).1 (zTO s c ts (srch (cTb ts) ts.length)).2 := by
 refine eachN (X := X0) (P := Tryz.prog) (T := T) (st := fun i _ => wTO s c ts i []) (g := gS (cTb ts)) (out := zTO s c ts) (fun _ _ => True) (by kernel_rfl) hl LLm trivial (fun k u m hk _ ih => ?_) (fun _ _ => ?_)
 ·exact round hX hO (by kernel_rfl) (.b (lt_nat hk) (.o (inR_nat hk) (.ls (.ou nofun) (.nx (ih _ trivial)))))
 ·exact round hX hO (by kernel_rfl) (.b (lt_no ts.length) (.ou nofun))
abbrev w2O (s : List Int) (c : Int) (ts : List (List Rw)) (r : List Rw × Int) (w i : Int) (x : List (Nat × PE gam)) : PSt gam := ⟨[(0, xL 3 s), (1, xu c), (2, xL 28 ts), (8, .loc 0 0), (9, xi r.2), (10, xi w), (11, xi i)] ++ x, [[lRw r.1]], []⟩
theorem lTO1 {n : Nat} (hO : Ok n oc16) (s : List Int) (c : Int) (ts : List (List Rw)) (r : List Rw × Int) (w0 : Int) (hs : s.length ≤ most) (hl : ts.length ≤ 4) : ∃ j : Nat, Lp n 5 1 (w2O s c ts r w0 0 []) (.exit 2) (w2O s c ts r (erL s ts w0) j [(66, xl false)]) := by
 obtain ⟨j, hj⟩ := itTO (s := s) (ts := ts) ts.length 0 w0 (by omega)
 rw [List.drop_zero] at hj
 refine ⟨j, whileL (σ := Nat × Int) (st := fun x => w2O s c ts r x.2 ((x.1 : Nat) : Int) []) (g := gTO s ts) (out := fun x => (.exit 2, w2O s c ts r x.2 ((x.1 : Nat) : Int) [(66, xl false)])) (fun x => x.1 ≤ ts.length) hj (by kernel_rfl) (by unfold LL; omega) (Nat.zero_le _) ?_ ?_⟩
 ·rintro ⟨k, w⟩ s1 hk e
  unfold gTO at e
  split at e
  ·split at e
   ·cases e; rename_i h1 _; exact h1
   ·cases e
  ·cases e
 ·rintro ⟨k, w⟩ m x hk ih
  have hk : k ≤ ts.length := hk
  by_cases c1 : k < ts.length
  ·by_cases c2 : (w == 0) = true
   ·have e : gTO s ts (k, w) = .inl (k + 1, S_rTab s (ts.getD k [])) := by unfold gTO; rw [if_pos c1, if_pos c2]
    have g := ih _ e
    rw [e]
    have e1 : IntKind.i64.wrap ((k : Int) + 1) = ((k + 1 : Nat) : Int) := wsucc (by unfold most; omega)
    rw [← e1] at g
    exact round hX hO (by kernel_rfl) (.b (lt_nat c1) (.b c2 (.o (inR_nat c1) (.o hs (.go g)))))
   ·have e : gTO s ts (k, w) = .inr (k, w) := by unfold gTO; rw [if_pos c1, if_neg c2]
    rw [e]
    dsimp only [contW]
    exact round hX hO (by kernel_rfl) (.b (lt_nat c1) (.b (show (w == 0) = false by simpa using c2) .ex))
  ·have e : gTO s ts (k, w) = .inr (k, w) := by unfold gTO; rw [if_neg c1]
   rw [e]
   dsimp only [contW]
   exact round hX hO (by kernel_rfl) (.b (show decide ((k : Int) < (ts.length : Int)) = false by rw [decide_eq_false_iff_not]; omega) .ex)
noncomputable def oc5 : Orc gam := orcF 5 (a3 isA uA tbsA) tA (fun _ => true) (fun p => [∀ t ∈ p.2.2, ∀ r ∈ t, 0 ≤ r.cell.f]) oc16
theorem gc5 : Gd oc5 := gc16.add fun n hO p hp => by
 obtain ⟨s, c, ts⟩ := p
 have hf : ∀ t ∈ ts, ∀ r ∈ t, 0 ≤ r.cell.f := hp _ (.head _)
 show Con _ _ _ _ _ ((tA : Arg Bool).put true) _
 cases c1 : S_thinS s
 ·exact fn_is hX hO (by kernel_rfl) (.b (show (!(S_thinS s)) = true by rw [c1]; rfl) .rr)
 have t1 : (!(S_thinS s)) = false := by rw [c1]; rfl
 have h1 : s.length ≤ most := thinS_len c1
 cases c2 : decide ((ts.length : Int) > 4)
 rotate_left
 ·exact fn_is hX hO (by kernel_rfl) (.b t1 (.b c2 .rr))
 have h4 : ts.length ≤ 4 := by rw [decide_eq_false_iff_not] at c2; omega
 have h2 : ts.length ≤ most := by unfold most; omega
 have l0 := lTO0 hO s c ts h2
 cases c3 : isL (srch (cTb ts) ts.length)
 ·exact fn_is hX hO (by kernel_rfl) (.b t1 (.b c2 (.w (exInr l0 0 c3) .rr)))
 have hth : ∀ t ∈ ts, S_thinT t = true := by
  have := srch_ok.1 c3
  exact (all_getD (l := ts) (d := []) (p := fun t => S_thinT t = true)).1 (fun j hj => by have := this j hj; simpa [cTb] using this)
 have hall : ∀ t ∈ ts, t.length ≤ most ∧ RwsOk t := fun t ht => thinT_ok (hth t ht)
 have hrw : ∀ t ∈ ts, RwsOk t := fun t ht => (hall t ht).2
 have e := top_eq (s := s) (c := c) hf
 have f2 : ((2 : Int) != 0) = true := rfl
 cases c4 : S_sizes s == 0
 ·have n4 := ne0' c4
  have ew : wantO s c ts = S_sizes s := by unfold wantO; rw [if_pos n4]
  rw [ew, if_pos n4] at e
  obtain ⟨j, l1⟩ := lTO1 hO s c ts (S_tOp s c ts) (S_sizes s) h1 h4
  rw [erL_no (by simpa using n4)] at l1
  exact fn_is hX hO (by kernel_rfl) (.b t1 (.b c2 (.w (exInl l0 () c3) (.o h1 (.o h2 (.o hall (.o h1 (.o h2 (.o hrw (.o h1 (.b c4 (.w l1 (.b n4 (.b (show ((S_tOp s c ts).2 == S_sizes s) = true by rw [e]; simp) (.b (show (((S_tOp s c ts).1.length : Int) == 0) = true by rw [e]; rfl) .rr)))))))))))))))
 have n4 := ne0 c4
 have n4' : ¬(S_sizes s != 0) = true := by rw [n4]; simp
 cases c5 : (ts.length : Int) == 0
 rotate_left
 ·have ew : wantO s c ts = 2 := by unfold wantO; rw [if_neg n4', if_pos c5]
  rw [ew, if_pos f2] at e
  obtain ⟨j, l1⟩ := lTO1 hO s c ts (S_tOp s c ts) 2 h1 h4
  rw [erL_no (by decide)] at l1
  exact fn_is hX hO (by kernel_rfl) (.b t1 (.b c2 (.w (exInl l0 () c3) (.o h1 (.o h2 (.o hall (.o h1 (.o h2 (.o hrw (.o h1 (.b c4 (.b c5 (.w l1 (.b f2 (.b (show ((S_tOp s c ts).2 == 2) = true by rw [e]; rfl) (.b (show (((S_tOp s c ts).1.length : Int) == 0) = true by rw [e]; rfl) .rr))))))))))))))))
 cases c6 : S_Tables c != (ts.length : Int)
 rotate_left
 ·have ew : wantO s c ts = 2 := by unfold wantO; rw [if_neg n4', if_neg (by rw [c5]; simp), if_pos c6]
  rw [ew, if_pos f2] at e
  obtain ⟨j, l1⟩ := lTO1 hO s c ts (S_tOp s c ts) 2 h1 h4
  rw [erL_no (by decide)] at l1
  exact fn_is hX hO (by kernel_rfl) (.b t1 (.b c2 (.w (exInl l0 () c3) (.o h1 (.o h2 (.o hall (.o h1 (.o h2 (.o hrw (.o h1 (.b c4 (.b c5 (.b c6 (.w l1 (.b f2 (.b (show ((S_tOp s c ts).2 == 2) = true by rw [e]; rfl) (.b (show (((S_tOp s c ts).1.length : Int) == 0) = true by rw [e]; rfl) .rr)))))))))))))))))
 have e0 : S_sizes s = 0 := by simpa using c4
 have ew : wantO s c ts = erL s ts 0 := by unfold wantO; rw [if_neg n4', if_neg (by rw [c5]; simp), if_neg (by rw [c6]; simp)]
 obtain ⟨j, l1⟩ := lTO1 hO s c ts (S_tOp s c ts) (S_sizes s) h1 h4
 rw [show erL s ts (S_sizes s) = wantO s c ts by rw [ew, e0]] at l1
 cases c7 : wantO s c ts != 0
 rotate_left
 ·rw [if_pos c7] at e
  exact fn_is hX hO (by kernel_rfl) (.b t1 (.b c2 (.w (exInl l0 () c3) (.o h1 (.o h2 (.o hall (.o h1 (.o h2 (.o hrw (.o h1 (.b c4 (.b c5 (.b c6 (.w l1 (.b c7 (.b (show ((S_tOp s c ts).2 == wantO s c ts) = true by rw [e]; simp) (.b (show (((S_tOp s c ts).1.length : Int) == 0) = true by rw [e]; rfl) .rr)))))))))))))))))
 have hop := want_ok hf c7
 rw [if_neg (by rw [c7]; simp)] at e
 have hoo : OfOk s (cellsOp s c ts) := cellsOp_ok hop.fine
 exact fn_is hX hO (by kernel_rfl) (.b t1 (.b c2 (.w (exInl l0 () c3) (.o h1 (.o h2 (.o hall (.o h1 (.o h2 (.o hrw (.o h1 (.b c4 (.b c5 (.b c6 (.w l1 (.b c7 (.b (show ((S_tOp s c ts).2 == 0) = true by rw [e]; rfl) (.o hop (.o (show (S_tOp s c ts).1.length ≤ most by rw [e]; exact dOf_m hoo) (.o (show ∀ r ∈ (S_tOp s c ts).1, r.fr.length ≤ most ∧ r.to.length ≤ most by rw [e]; exact dOf_r hoo) (.b (show (decide ((S_tOp s c ts).1 = dOf s (cellsOp s c ts))) = true by rw [e]; simp) .rr))))))))))))))))))))
end Go.Proofs.YtmefgijobonklaaGreat
namespace Tw
open Go Go.ChangeShapes Go.WideShapes Go.RowKit
theorem trodAll_n {H : Type} {enc : TypeId × Value → H} {P : Program} {w : World} {t : TypeId} {ts : List TypeId} {vs : List Value} {ds : List (DataW H)} {ps : List MemPlace} (h : DataW.TrodAll enc P w 0 (fun _ => true) true (t :: ts) vs ds ps) : ∃ d e, ds = d :: e ∧ Rd enc P w t d ∧ ∃ vs ps, DataW.TrodAll enc P w 0 (fun _ => true) true ts vs e ps := by
 obtain ⟨v, vs', d, ds', p, q, rfl, rfl, rfl, ⟨fuel, hd⟩, hrest⟩ := trodAll_cons h
 exact ⟨d, ds', rfl, ⟨_, fuel, p, hd⟩, _, _, hrest⟩
section
variable {H : Type} {P : Program} {g : Nat} {t : TypeId} {ts : List TypeId} {d : DataW H} {ds : List (DataW H)} {h h1 h2 : List HB} {xs : List TV}
theorem encA_o {x : TV} (ha : isAggT P t = some false) (he : encT P g t d h = some ([x], h1)) (hr : encA P g ts ds h1 = some (xs, h2)) : encA P g (t :: ts) (d :: ds) h = some (x :: xs, h2) := by
 simp only [encA, he, ha, hr]
theorem encA_0 : encA (H := H) P g [] [] h = some ([], h) := rfl
end
end Tw
namespace Pv
open Go Tw
section
variable {X : Cod} {P : Program} {H : Type} {encH : TypeId × Value → H} {w : World}
abbrev AT : Nat → Prop := fun _ => True
def RdP (encH : TypeId × Value → H) (X : Cod) (P : Program) (w : World) (g t : Nat) {α : Type} (ps : α → List (PV X.Γ)) (Q : α → Prop) : Prop :=
 ∀ d, Rd encH P w t d → ∃ a, Q a ∧ ∀ h, ∃ xs ext, encT P g t d h = some (xs, h ++ ext) ∧ ∀ e, VRs X P AT [] (h ++ ext ++ e) (ps a) xs
theorem rdp_int {t g : Nat} {k : IntKind} (ht : P.underlying t = some (.int k)) : RdP encH X P w (g + 1) t (fun n : Int => [.int k n]) (fun n => (Lit.int k n).wf = true) := fun d hd => by
 obtain ⟨n, rfl, hn⟩ := rd_int ht hd
 exact ⟨n, hn, fun h => ⟨[.int k n], [], by simp [encT, ht], fun e => .cons (.int _ _) .nil⟩⟩
theorem encL_rows {e g sz : Nat} {Q : X.Γ e → Prop} (hlen : ∀ a, (X.enc e a).length = sz) (hr : RdP encH X P w g e (X.enc e) Q) : ∀ (ds : List (DataW H)), (∀ y ∈ ds, Rd encH P w e y) →
  ∃ l : List (X.Γ e), l.length = ds.length ∧ (∀ a ∈ l, Q a) ∧ ∀ h, ∃ cs ext, encL (encT P g e) sz ds h = some (cs, h ++ ext) ∧ cs.length = l.length * sz ∧ ∀ e2 (j : Nat) a (i : Nat) c v, l[j]? = some a → (X.enc e a)[i]? = some c → cs[j * sz + i]? = some v → VR X P AT [] (h ++ ext ++ e2) c v
 | [], _ => ⟨[], rfl, by simp, fun h => ⟨[], [], by simp [encL], by simp, fun e2 j a i c v h1 => by simp at h1⟩⟩
 | d :: ds, hd => by
  obtain ⟨a, qa, ha⟩ := hr d (hd d (List.mem_cons_self ..))
  obtain ⟨l, l1, l2, l3⟩ := encL_rows hlen hr ds fun y hy => hd y (List.mem_cons_of_mem _ hy)
  refine ⟨a :: l, by simp [l1], fun b hb => (List.mem_cons.1 hb).elim (fun e => e ▸ qa) (l2 b), fun h => ?_⟩
  obtain ⟨xs, e1, h1, v1⟩ := ha h
  obtain ⟨cs, e2, h2, c2, v2⟩ := l3 (h ++ e1)
  have hx : xs.length = sz := by rw [← (v1 []).1]; exact hlen a
  refine ⟨xs ++ cs, e1 ++ e2, ?_, by simp only [List.length_append, List.length_cons, hx, c2, Nat.add_mul]; omega, fun e3 j b i c v hj hi hv => ?_⟩
  ·simp only [encL, h1, hx, if_true, h2, List.append_assoc]
  ·cases j with
   | zero =>
    simp only [List.getElem?_cons_zero, Option.some.injEq] at hj
    subst hj
    have hi2 : i < sz := by rw [← hlen a]; exact (List.getElem?_eq_some_iff.1 hi).1
    rw [Nat.zero_mul, Nat.zero_add, List.getElem?_append_left (by omega)] at hv
    have := (v1 (e2 ++ e3)).2 i c v hi hv
    simp only [List.append_assoc] at this ⊢
    exact this
   | succ j =>
    rw [List.getElem?_cons_succ] at hj
    rw [List.getElem?_append_right (by rw [hx, Nat.add_mul]; omega), hx, show (j + 1) * sz + i - sz = j * sz + i by rw [Nat.add_mul]; omega] at hv
    have := v2 e3 j b i c v hj hi hv
    simp only [List.append_assoc] at this ⊢
    exact this
theorem rdp_list {t e g sz : Nat} {Q : X.Γ e → Prop} (ht : P.underlying t = some (.slice e)) (hsz : P.cellsOf e = sz) (hz : sizeT P e = some sz) (h0 : 0 < sz) (hlen : ∀ a, (X.enc e a).length = sz) (hr : RdP encH X P w g e (X.enc e) Q) : RdP encH X P w (g + 1) t (fun l : List (X.Γ e) => [.lst e l false]) (fun l => ∀ a ∈ l, Q a) := fun d hd => by
 rcases rd_slice ht hd with rfl | ⟨xs, ys, rfl, hy⟩
 ·exact ⟨[], by simp, fun h => ⟨[.nil .slc], [], by simp [encT, ht], fun e => .cons .lstN .nil⟩⟩
 ·obtain ⟨l, l1, l2, l3⟩ := encL_rows hlen hr (xs ++ ys) hy
  have hl : xs.length ≤ l.length := by rw [l1, List.length_append]; omega
  refine ⟨l.take xs.length, fun a ha => l2 a (List.mem_of_mem_take ha), fun h => ?_⟩
  obtain ⟨cs, e1, h1, c1, v1⟩ := l3 h
  refine ⟨[.slc (h ++ e1).length 0 xs.length (xs.length + ys.length) sz true], e1 ++ [.cells .ro cs], ?_, fun e2 => .cons ?_ .nil⟩
  ·have hne : ¬ sz = 0 := by omega
   simp only [encT, ht, hsz, h1, hne, if_false, List.append_assoc]
  ·have hln : (l.take xs.length).length = xs.length := by rw [List.length_take, Nat.min_eq_left hl]
   have hb : (h ++ (e1 ++ [HB.cells .ro cs]) ++ e2)[(h ++ e1).length]? = some (.cells .ro cs) := by
    rw [show h ++ (e1 ++ [HB.cells .ro cs]) ++ e2 = (h ++ e1) ++ (HB.cells .ro cs :: e2) by simp, List.getElem?_append_right (Nat.le_refl _), Nat.sub_self]; rfl
   have hcap : (l.take xs.length).length ≤ xs.length + ys.length := by omega
   have hj2 : ∀ (j : Nat) a, (l.take xs.length)[j]? = some a → l[j]? = some a := fun j a hj => by
    rw [List.getElem?_take] at hj
    split at hj
    ·exact hj
    ·cases hj
   have hle : (l.take xs.length).length * sz ≤ cs.length := by rw [c1, hln]; exact Nat.mul_le_mul_right sz hl
   generalize xs.length + ys.length = cp at hcap ⊢
   generalize l.take xs.length = l' at hcap hj2 hle hln ⊢
   rw [← hln]
   exact VR.lst (X := X) (P := P) (A := AT) (m := []) (t := e) (l := l') (fu := false) (b := (h ++ e1).length) (off := 0) (cap := cp) (sz := sz) (ex := true) (cs := cs) trivial (by unfold blkCells; rw [hb]) (fun _ => by unfold blkLim; rw [hb]; simp) hz h0 (by omega) hcap (by simp) (fun j a _ => hlen a) (fun j a i c v hj hi hv => by
    rw [Nat.zero_add] at hv
    have := v1 ([HB.cells .ro cs] ++ e2) j a i c v (hj2 j a hj) hi hv
    simp only [List.append_assoc] at this ⊢
    exact this)
def RdF (encH : TypeId × Value → H) (X : Cod) (P : Program) (w : World) (g o : Nat) (fs : List Field) {α : Type} (ps : α → List (PV X.Γ)) (Q : α → Prop) : Prop :=
 ∀ ds : List (DataW H), ds.length = fs.length → (∀ (i : Nat) f d, fs[i]? = some f → ds[i]? = some d → Rd encH P w f.type d) → ∃ a, Q a ∧ ∀ h, ∃ xs ext, encF P (encT P g) o fs ds h = some (xs, h ++ ext) ∧ ∀ e, VRs X P AT [] (h ++ ext ++ e) (ps a) xs
theorem rdf_nil {g o : Nat} : RdF encH X P w g o [] (fun _ : Unit => []) (fun _ => True) := fun ds hl _ => by
 have := List.eq_nil_of_length_eq_zero hl
 subst this
 exact ⟨(), trivial, fun h => ⟨[], [], by simp [encF], fun e => .nil⟩⟩
theorem rdf_cons {g o n : Nat} {f : Field} {fs : List Field} {α β : Type} {p1 : α → List (PV X.Γ)} {p2 : β → List (PV X.Γ)} {Q1 : α → Prop} {Q2 : β → Prop} (ho : f.offset = o) (hc : P.cellsOf f.type = n) (hn : ∀ a, (p1 a).length = n) (h1 : RdP encH X P w g f.type p1 Q1) (h2 : RdF encH X P w g (o + n) fs p2 Q2) : RdF encH X P w g o (f :: fs) (fun x : α × β => p1 x.1 ++ p2 x.2) (fun x => Q1 x.1 ∧ Q2 x.2) := fun ds hl hd => by
 cases ds with
 | nil => cases hl
 | cons d ds =>
  obtain ⟨a, qa, ha⟩ := h1 d (hd 0 f d rfl rfl)
  obtain ⟨b, qb, hb⟩ := h2 ds (by simpa using hl) fun i f' d' e1 e2 => hd (i + 1) f' d' e1 e2
  refine ⟨(a, b), ⟨qa, qb⟩, fun h => ?_⟩
  obtain ⟨xs, e1, g1, v1⟩ := ha h
  obtain ⟨ys, e2, g2, v2⟩ := hb (h ++ e1)
  have hx : xs.length = n := by rw [← (v1 []).1]; exact hn a
  refine ⟨xs ++ ys, e1 ++ e2, ?_, fun e => ?_⟩
  ·simp only [encF, g1, ho, hx, hc, and_self, if_true, g2, List.append_assoc]
  ·have w1 := v1 (e2 ++ e)
   have w2 := v2 e
   simp only [List.append_assoc] at w1 w2 ⊢
   exact w1.app w2
theorem rdp_struct {t g n : Nat} {fs : Array Field} {α : Type} {ps : α → List (PV X.Γ)} {Q : α → Prop} (ht : P.underlying t = some (.struct fs)) (hc : P.cellsOf t = n) (hn : ∀ a, (ps a).length = n) (hf : RdF encH X P w g 0 fs.toList ps Q) : RdP encH X P w (g + 1) t ps Q := fun d hd => by
 obtain ⟨ds, rfl, hl, hat⟩ := rd_struct ht hd
 obtain ⟨a, qa, ha⟩ := hf ds (by simpa using hl) fun i f d e1 e2 => hat i f d (by simpa using e1) e2
 refine ⟨a, qa, fun h => ?_⟩
 obtain ⟨xs, e1, g1, v1⟩ := ha h
 have hx : xs.length = n := by rw [← (v1 []).1]; exact hn a
 refine ⟨xs, e1, ?_, v1⟩
 rw [encT_struct ht, g1]
 simp [hx, hc]
theorem RdP.iso {t g : Nat} {α β : Type} {ps : α → List (PV X.Γ)} {Q : α → Prop} (h : RdP encH X P w g t ps Q) (f : α → β) {p2 : β → List (PV X.Γ)} {Q2 : β → Prop} (hp : ∀ a, p2 (f a) = ps a) (hq : ∀ a, Q a → Q2 (f a)) : RdP encH X P w g t p2 Q2 := fun d hd => by
 obtain ⟨a, qa, ha⟩ := h d hd
 exact ⟨f a, hq a qa, fun h => by rw [hp]; exact ha h⟩
theorem run_of {T : Tab} {L n f : Nat} {vs : List (PV X.Γ)} {xs : List TV} {h : List HB} (hc : Con X P (apN P T L (n + 1)) f vs (PV.bool true) []) (hv : VRs X P AT [] h vs xs) : ∃ h', apN P T L (n + 1) (TV.fn f [] []) xs h = some (TV.bool true, h', []) := by
 obtain ⟨x, h', m', c1, _, c3, _⟩ := hc AT h [] xs [] (fun _ _ => trivial) (by simpa using hv)
 have : x = TV.bool true := by
  cases c3 with
  | bool => rfl
  | gone hi _ _ => simp [idOf] at hi
 subst this
 exact ⟨h', c1⟩
end
end Pv
namespace Go.Proofs.YtmefgijobonklaaGreat
open Go Tw Pv
section
variable {H : Type} {encH : TypeId × Value → H} {w : World}
abbrev RdX (encH : TypeId × Value → H) (w : World) (g t : Nat) {α : Type} (ps : α → List (PV gam)) (Q : α → Prop) : Prop := RdP encH X0 Tryz.prog w g t ps Q
theorem ccInt : Tryz.prog.cellsOf 3 = 1 := by kernel_rfl
theorem ccU8 : Tryz.prog.cellsOf 5 = 1 := by kernel_rfl
theorem ccVal : Tryz.prog.cellsOf 58 = 2 := by kernel_rfl
theorem zI0 : sizeT Tryz.prog 3 = some 1 := by kernel_rfl
theorem rInt {g : Nat} : RdX encH w (g + 1) 3 (fun n : Int => [.int .i64 n]) (fun n => (Lit.int .i64 n).wf = true) := rdp_int Tryz.underlying3
theorem rU8 {g : Nat} : RdX encH w (g + 1) 5 (fun n : Int => [.int .u8 n]) (fun n => 0 ≤ n ∧ n ≤ 255) := (rdp_int Tryz.underlying5).iso id (fun _ => rfl) fun n h => by
 simp only [Lit.wf, Bool.and_eq_true, decide_eq_true_eq] at h
 exact h
theorem rInts {g : Nat} : RdX encH w (g + 2) 22 (fun l : List Int => [lI l]) (fun l => ∀ a ∈ l, (Lit.int .i64 a).wf = true) := rdp_list (e := 3) Tryz.underlying22 ccInt zI0 (by decide) (fun _ => rfl) rInt
theorem rVal {g : Nat} : RdX encH w (g + 2) 58 V.ps (fun v => 0 ≤ v.f ∧ v.f ≤ 255) :=
 (rdp_struct Tryz.underlying58 ccVal (fun _ => rfl) (rdf_cons rfl ccU8 (fun _ => rfl) rU8 (rdf_cons rfl ccInt (fun _ => rfl) rInt rdf_nil))).iso (fun x => ⟨x.1, x.2.1⟩) (fun _ => rfl) fun _ h => h.1
theorem ccIs : Tryz.prog.cellsOf 22 = 1 := by kernel_rfl
theorem ccRow : Tryz.prog.cellsOf 95 = 4 := by kernel_rfl
theorem zRow0 : sizeT Tryz.prog 95 = some 4 := by kernel_rfl
theorem ccRows : Tryz.prog.cellsOf 26 = 1 := by kernel_rfl
theorem ccTab : Tryz.prog.cellsOf 28 = 1 := by kernel_rfl
theorem rRow {g : Nat} : RdX encH w (g + 3) 95 Rw.ps (fun r => 0 ≤ r.cell.f) :=
 (rdp_struct Tryz.underlying95 ccRow (fun _ => rfl) (rdf_cons rfl ccIs (fun _ => rfl) rInts (rdf_cons rfl ccIs (fun _ => rfl) rInts (rdf_cons rfl ccVal (fun _ => rfl) rVal rdf_nil)))).iso (fun x => ⟨x.1, x.2.1, x.2.2.1⟩) (fun _ => rfl) fun _ h => h.2.2.1.1
theorem rRows {g : Nat} : RdX encH w (g + 4) 26 (fun l : List Rw => [lRw l]) (fun l => ∀ r ∈ l, 0 ≤ r.cell.f) := rdp_list (e := 95) Tryz.underlying26 ccRow zRow0 (by decide) (fun _ => rfl) rRow
theorem rTab {g : Nat} : RdX encH w (g + 5) 28 (fun l : List Rw => [lRw l]) (fun l => ∀ r ∈ l, 0 ≤ r.cell.f) :=
 (rdp_struct Tryz.underlying28 ccTab (fun _ => rfl) (rdf_cons rfl ccRows (fun _ => rfl) rRows rdf_nil)).iso (fun x => x.1) (fun _ => rfl) fun _ h => h.1
theorem zTab0 : sizeT Tryz.prog 28 = some 1 := by kernel_rfl
theorem rTabs {g : Nat} : RdX encH w (g + 6) 48 (fun l : List (List Rw) => [(.lst 28 l false : PV gam)]) (fun l => ∀ t ∈ l, ∀ r ∈ t, 0 ≤ r.cell.f) := rdp_list (e := 28) Tryz.underlying48 ccTab zTab0 (by decide) (fun _ => rfl) rTab
end
end Go.Proofs.YtmefgijobonklaaGreat
