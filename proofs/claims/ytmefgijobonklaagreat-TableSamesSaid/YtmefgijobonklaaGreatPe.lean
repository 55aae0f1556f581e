/- Part 5 of a proof: The statement TableSames: the first place at which any table and any diagram differ is as the document says, or the error is (sizes, tables and diagrams within the statement's bounds). -/
import Derived.Test.YtmefgijobonklaaGreatPd
set_option linter.constructorNameAsVariable false
set_option linter.unusedVariables false
set_option linter.unusedSimpArgs false
set_option linter.unusedSectionVars false
namespace Tw
open Go
section
variable {P : Program}
theorem pr_part_one {e : TypeId} (hg : pureRun P (isAgg e) = some false) {xs : Array Value} {i : Nat} {v : Value} (h : xs[i]? = some v) : pureRun P (part e xs i) = some v := by
 unfold part
 rw [pureRun_bind, hg, Option.bind_some]
 simp only [Bool.false_eq_true, if_false, h]
 rfl
def eqIt (d : Nat) (e : TypeId) (c : Nat) (xs ys : Array Value) : List Nat → Sem Bool
 | [] => pure true
 | i :: is => do
  let a ← part e xs (i * c)
  let b ← part e ys (i * c)
  let r ← Op.equalIn d e a b
  if (!r) = true then pure false else eqIt d e c xs ys is
theorem pr_equalIn_array (d : Nat) {t e : TypeId} {n c : Nat} (xs ys : Array Value) (hu : P.underlying t = some (.array n e)) (hs : pureRun P (sizeOf e) = some c) :
  pureRun P (Op.equalIn (d + 1) t (.agg xs) (.agg ys)) = pureRun P (eqIt d e c xs ys (List.range' 0 n)) := by
 have hu' : pureRun P (underlying t) = some (.array n e) := by
  simp only [underlying, pureRun_bind]
  have : pureRun P program = some P := rfl
  simp [this, hu, pureRun]
  rfl
 simp only [Op.equalIn, pureRun_bind, hu', Option.bind_some, hs]
 simp only [Std.Legacy.Range.forIn_eq_forIn_range', Std.Legacy.Range.size, Nat.sub_zero, Nat.add_one_sub_one, Nat.div_one]
 generalize List.range' 0 n = is
 clear hu hu' hs
 induction is with
 | nil => simp [eqIt, pureRun, pureRun_bind]; rfl
 | cons j is ih =>
  simp only [List.forIn_cons, eqIt, pureRun_bind] at ih ⊢
  generalize pureRun P (part e xs (j * c)) = r1
  cases r1 with
  | none => simp
  | some a =>
   simp only [Option.bind_some]
   generalize pureRun P (part e ys (j * c)) = r2
   cases r2 with
   | none => simp
   | some b =>
    simp only [Option.bind_some]
    generalize pureRun P (Op.equalIn d e a b) = r3
    cases r3 with
    | none => simp
    | some r =>
     cases r with
     | false => simp only [Option.bind_some, Bool.not_false, if_true]; rfl
     | true => simp only [Option.bind_some, Bool.not_true, Bool.false_eq_true, if_false]; exact ih
abbrev arrI (k : IntKind) (l : List Int) : Array Value := (l.map fun x => Value.int k x).toArray
theorem arrI_get {k : IntKind} {l : List Int} {i : Nat} (h : i < l.length) : (arrI k l)[i]? = some (.int k l[i]) := by
 simp [arrI, h]
theorem pr_eqIt_int {d : Nat} {e : TypeId} {k k' : IntKind} (hu : P.underlying e = some (.int k')) (hg : pureRun P (isAgg e) = some false) (l l' : List Int) (hl : l.length = l'.length) : ∀ (m i : Nat), i + m = l.length → pureRun P (eqIt (d + 1) e 1 (arrI k l) (arrI k l') (List.range' i m)) = some (decide (l.drop i = l'.drop i))
 | 0, i, h => by
  rw [List.drop_of_length_le (by omega), List.drop_of_length_le (by omega)]; rfl
 | m + 1, i, h => by
  have h1 : i < l.length := by omega
  have h2 : i < l'.length := by omega
  rw [List.range'_succ]
  simp only [eqIt, Nat.mul_one]
  rw [pureRun_bind, pr_part_one hg (arrI_get h1), Option.bind_some, pureRun_bind, pr_part_one hg (arrI_get h2), Option.bind_some, pureRun_bind, pr_equalIn_int d e k k' _ _ hu, Option.bind_some]
  rw [List.drop_eq_getElem_cons h1, List.drop_eq_getElem_cons h2]
  by_cases hc : l[i] = l'[i]
  ·have := pr_eqIt_int (d := d) (k := k) hu hg l l' hl m (i + 1) (by omega)
   simp only [hc, beq_self_eq_true, Bool.not_true, Bool.false_eq_true, if_false, this, List.cons.injEq, true_and]
  ·have : (l[i] == l'[i]) = false := by simpa using hc
   simp only [this, Bool.not_false, if_true, List.cons.injEq, hc, false_and, decide_false]
   rfl
theorem pr_equalIn_arrI (d : Nat) {t e : TypeId} {n : Nat} {k k' : IntKind} (ht : P.underlying t = some (.array n e)) (hs : pureRun P (sizeOf e) = some 1) (hu : P.underlying e = some (.int k')) (hg : pureRun P (isAgg e) = some false) {l l' : List Int} (hl : l.length = n) (hl' : l'.length = n) :
  pureRun P (Op.equalIn (d + 2) t (.agg (arrI k l)) (.agg (arrI k l'))) = some (decide (l = l')) := by
 rw [pr_equalIn_array (d + 1) _ _ ht hs, pr_eqIt_int hu hg l l' (by omega) n 0 (by omega), List.drop_zero, List.drop_zero]
end
end Tw
namespace Go.Proofs.YtmefgijobonklaaGreat
open Go Tw Pv Mist
abbrev oI (k ex : Bool) (l : List Int) : PB gam := .list k ex 3 l
abbrev wOI (f : Nat) (a c : List (PV gam)) (k ex : Bool) (R : List (PB gam)) (l : List Int) (i : Int) (x : List (Nat × PE gam)) : PSt gam := ⟨[(0, .val (.own 0)), (1, .val (.fn f a c)), (7, xi l.length), (8, xi i)] ++ x, [], oI k ex l :: R⟩
def zOI (f : Nat) (a c : List (PV gam)) (k ex : Bool) (R : List (PB gam)) (l : List Int) : Unit ⊕ (Nat × Int × Unit) → Ex × PSt gam
 | .inl _ => (.exit 0, wOI f a c k ex R l l.length [(9, xl false)])
 | .inr r => (.ret, ⟨[(4, xi r.1)], [], oI k ex l :: R⟩)
theorem qoI {n f : Nat} {a c : List (PV gam)} {ko ex : Bool} {R : List (PB gam)} {g : Int → Bool} (l : List Int) (hf : ∀ x ∈ l, Sim X0 Tryz.prog (ApN n) (.fn f a c) [.int .i64 x] (oI ko ex l :: R) (.bool (g x)) (oI ko ex l :: R)) (hl : l.length ≤ most) : Sim X0 Tryz.prog (ApN (n + 1)) (.fn 225 [] []) [.own 0, .fn f a c] (oI ko ex l :: R) (iA.put (S_IndexFuncI g l)) (oI ko ex l :: R) := by
 have lp : LpB n 225 0 (R.length + 1) (wOI f a c ko ex R l 0 []) (zOI f a c ko ex R l (runL (F_indexI g) l 0 ())).1 (zOI f a c ko ex R l (runL (F_indexI g) l 0 ())).2 :=
  eachE (st := fun i _ => wOI f a c ko ex R l i []) (0 : Int) (fun _ _ => True) (by kernel_rfl) hl LLm trivial (fun k s n hk _ ih => round hX ok0 (by kernel_rfl) (.b (lt_nat hk) (.o (inR_nat hk) (.k (hf (l.getD k (0 : Int)) (getD_mem hk)) (.ls (.ou nofun) (.nx (ih _ trivial))))))) (fun s _ => round hX ok0 (by kernel_rfl) (.b (lt_no l.length) (.ou nofun)))
 exact sim_is hX ok0 (first := []) (cap := []) (by kernel_rfl) (.szh (fun h => .w (exInl lp () h) .sr) (fun h => .w (exInr lp (0, 0, ()) h) .sr))
theorem qoC {n f : Nat} {a c : List (PV gam)} {ko ex : Bool} {R : List (PB gam)} {g : Int → Bool} (l : List Int) (hf : ∀ x ∈ l, Sim X0 Tryz.prog (ApN n) (.fn f a c) [.int .i64 x] (oI ko ex l :: R) (.bool (g x)) (oI ko ex l :: R)) (hl : l.length ≤ most) : Sim X0 Tryz.prog (ApN (n + 2)) (.fn 186 [] []) [.own 0, .fn f a c] (oI ko ex l :: R) (tA.put (l.any g)) (oI ko ex l :: R) := by
 have h1 := qoI l hf hl
 have h2 := containsI g l
 rw [← h2]
 exact sim_is hX ok0 (first := []) (cap := []) (by kernel_rfl) (.k h1 .sr)
abbrev Hk (k ex : Bool) (l : List Int) : List (PB gam) := [oI k ex l, .cells [.own 0]]
theorem qoA {n f : Nat} {ko ex : Bool} {g : Int → Bool} (l : List Int) (hf : ∀ x ∈ l, Sim X0 Tryz.prog (ApN n) (.fn f [] [.ptr 1 0 1]) [.int .i64 x] (Hk ko ex l) (tA.put (g x)) (Hk ko ex l)) (hl : l.length ≤ most) : Sim X0 Tryz.prog (ApN (n + 4)) (.fn 155 [] []) [.own 0, .fn f [] [.ptr 1 0 1]] (Hk ko ex l) (tA.put (l.all g)) (Hk ko ex l) := by
 have h1 : ∀ x ∈ l, Sim X0 Tryz.prog (ApN (n + 1)) (.fn 199 [] [.ptr 2 0 1]) [.int .i64 x] (Hk ko ex l ++ [.cells [.fn f [] [.ptr 1 0 1]]]) (tA.put (!(g x))) (Hk ko ex l ++ [.cells [.fn f [] [.ptr 1 0 1]]]) := fun x hx =>
  sim_is hX ok0 (first := []) (by kernel_rfl) (.fr [0, 1] (hf x hx) .sr)
 have h2 := qoC (R := [.cells [.own 0], .cells [.fn f [] [.ptr 1 0 1]]]) l h1 hl
 rw [← any_not l g]
 exact Sim.drop hX (sim_is hX ok0 (first := []) (cap := []) (H1 := Hk ko ex l ++ [.cells [.fn f [] [.ptr 1 0 1]]]) (by kernel_rfl) (.k h2 .sr)) rfl rfl
theorem qFlat {n : Nat} {ko ex : Bool} (l : List Int) (hl : l.length ≤ most) : Sim X0 Tryz.prog (ApN (n + 5)) (.fn 155 [] []) [.own 0, .fn 156 [] [.ptr 1 0 1]] (Hk ko ex l) (tA.put (l.all fun x => x == l.getD 0 0)) (Hk ko ex l) :=
 qoA (n := n + 1) l (fun x hx => sim_is hX ok0 (first := []) (by kernel_rfl) (.o (show inR 0 l.length from ⟨by omega, by have := List.length_pos_of_mem hx; omega⟩) .sr)) hl
theorem lits12 : ∀ l : List Int, l.length = 12 → ∃ a0 a1 a2 a3 a4 a5 a6 a7 a8 a9 a10 a11 : Int, l = [a0, a1, a2, a3, a4, a5, a6, a7, a8, a9, a10, a11]
 | [a0, a1, a2, a3, a4, a5, a6, a7, a8, a9, a10, a11], _ => ⟨a0, a1, a2, a3, a4, a5, a6, a7, a8, a9, a10, a11, rfl⟩
 | [], h => by simp at h
 | [_], h => by simp at h
 | [_, _], h => by simp at h
 | [_, _, _], h => by simp at h
 | [_, _, _, _], h => by simp at h
 | [_, _, _, _, _], h => by simp at h
 | [_, _, _, _, _, _], h => by simp at h
 | [_, _, _, _, _, _, _], h => by simp at h
 | [_, _, _, _, _, _, _, _], h => by simp at h
 | [_, _, _, _, _, _, _, _, _], h => by simp at h
 | [_, _, _, _, _, _, _, _, _, _], h => by simp at h
 | [_, _, _, _, _, _, _, _, _, _, _], h => by simp at h
 | _ :: _ :: _ :: _ :: _ :: _ :: _ :: _ :: _ :: _ :: _ :: _ :: _ :: _, h => by simp at h
abbrev Ky := Int × {l : List Int // l.length = 12}
abbrev Ky.l (x : Ky) : List Int := x.1 :: x.2.val
theorem plain_ints : ∀ l : List Int, plainCs (Γ := gam) (l.map fun x => PV.int .i64 x) = some (l.map fun x => TV.int .i64 x)
 | [] => rfl
 | a :: l => by simp only [List.map_cons, plainCs, plainC, plain_ints l]
theorem toCs_ints : ∀ l : List Int, TV.toCs (l.map fun x => TV.int .i64 x) = some (l.map fun x => Value.int .i64 x)
 | [] => rfl
 | a :: l => by simp only [List.map_cons, TV.toCs, TV.toC, toCs_ints l]
theorem uKey : Tryz.prog.underlying 206 = some (.struct #[⟨"choice", 3, 0, false, "", "mist/node", 0⟩, ⟨"kids", 204, 1, false, "", "mist/node", 8⟩]) := by kernel_rfl
theorem prKey (d : Nat) (a b : Ky) : pureRun Tryz.prog (Op.equalIn (d + 3) 206 (.agg (arrI .i64 a.l)) (.agg (arrI .i64 b.l))) = some (decide (a = b)) := by
 obtain ⟨a1, a2, ha⟩ := a
 obtain ⟨b1, b2, hb⟩ := b
 rw [pr_equalIn_struct (d + 2) 206 _ _ _ uKey (by kernel_rfl)]
 have gI : pureRun Tryz.prog (isAgg 3) = some false := by kernel_rfl
 have gA : pureRun Tryz.prog (isAgg 204) = some true := by kernel_rfl
 have sA : pureRun Tryz.prog (sizeOf 204) = some 12 := by kernel_rfl
 have sI : pureRun Tryz.prog (sizeOf 3) = some 1 := by kernel_rfl
 have p0 : ∀ x l, pureRun Tryz.prog (part 3 (arrI .i64 (x :: l)) 0) = some (.int .i64 x) := fun x l => pr_part_one gI (arrI_get (l := x :: l) (by simp))
 have p1 : ∀ x l, l.length = 12 → pureRun Tryz.prog (part 204 (arrI .i64 (x :: l)) 1) = some (.agg (arrI .i64 l)) := fun x l h => by
  obtain ⟨a0, a1, a2, a3, a4, a5, a6, a7, a8, a9, a10, a11, rfl⟩ := lits12 l h
  kernel_rfl
 have q1 := pr_eqFields_cons (f := ⟨"choice", 3, 0, false, "", "mist/node", 0⟩) (fs := [⟨"kids", 204, 1, false, "", "mist/node", 8⟩]) (by decide) (p0 a1 a2) (p0 b1 b2) (pr_equalIn_int (d + 1) _ .i64 _ a1 b1 uInt)
 have q2 := pr_eqFields_cons (f := ⟨"kids", 204, 1, false, "", "mist/node", 8⟩) (fs := []) (by decide) (p1 a1 a2 ha) (p1 b1 b2 hb) (pr_equalIn_arrI d (k := .i64) (t := 204) (by kernel_rfl) sI uInt gI ha hb)
 rw [q1, q2]
 rw [show pureRun Tryz.prog (Op.eqFields (d + 2) (arrI .i64 (a1 :: a2)) (arrI .i64 (b1 :: b2)) []) = some true from rfl]
 by_cases h1 : a1 = b1 <;> by_cases h2 : a2 = b2 <;> simp [h1, h2]
noncomputable def kK : KeyC X0 Tryz.prog 206 Ky where
 pv x := .agg (x.l.map fun i => .int .i64 i)
 tv x := .agg (x.l.map fun i => .int .i64 i)
 v x := .agg (arrI .i64 x.l)
 hp x := congrArg (Option.map TV.agg) (plain_ints x.l)
 ht x := congrArg (Option.map fun vs : List Value => Value.agg vs.toArray) (toCs_ints x.l)
 hc em x := by
  obtain ⟨c, l, h⟩ := x
  obtain ⟨a0, a1, a2, a3, a4, a5, a6, a7, a8, a9, a10, a11, rfl⟩ := lits12 l h
  kernel_rfl
 hf x l := wide_ok uKey (fun a b => prKey 9997 a b) x l
end Go.Proofs.YtmefgijobonklaaGreat
namespace Go.Proofs.YtmefgijobonklaaGreat
open Go Tw Pv Mist
def padK (l : List Int) : List Int := (l ++ [0, 0, 0, 0, 0, 0, 0, 0, 0, 0, 0, 0]).take 12
theorem padK_len (l : List Int) : (padK l).length = 12 := by unfold padK; simp
def kyOf (c : Int) (ks : List Int) : Ky := (c, ⟨padK ks, padK_len ks⟩)
abbrev kyB (b : Br) : Ky := kyOf b.var b.kids
noncomputable abbrev nmOf (nd : List Br) : List (Ky × PV X0.Γ) := nd.zipIdx.map fun e => (kyB e.1, .int .i64 (e.2 : Nat))
theorem nmOf_keys (nd : List Br) : (nmOf nd).map (·.1) = nd.map kyB := by
 unfold nmOf
 rw [List.map_map]
 show nd.zipIdx.map (kyB ∘ fun e => e.1) = _
 rw [← List.map_map]
 simp
theorem nmOf_app (nd : List Br) (b : Br) : nmOf (nd ++ [b]) = nmOf nd ++ [(kyB b, .int .i64 (nd.length : Nat))] := by
 unfold nmOf
 rw [List.zipIdx_append, List.map_append]
 simp
theorem nmOf_mem {nd : List Br} {k : Ky} (h : k ∈ nd.map kyB) : (k, (.int .i64 ((nd.map kyB).idxOf k : Nat) : PV X0.Γ)) ∈ nmOf nd := by
 have hl := List.idxOf_lt_length_iff.2 h
 have hl2 : (nd.map kyB).idxOf k < nd.length := by simpa using hl
 unfold nmOf
 rw [List.mem_map]
 refine ⟨(nd[(nd.map kyB).idxOf k], (nd.map kyB).idxOf k), by rw [List.mem_zipIdx_iff_getElem?]; simp [List.getElem?_eq_getElem hl2], ?_⟩
 have := List.getElem_idxOf hl
 rw [List.getElem_map] at this
 show (kyB _, _) = _
 rw [this]
def S_nodes (nd : List Br) (c : Int) (ks : List Int) : List Br := if (ks.all fun x => x == ks.getD 0 0) = true then nd else if kyOf c ks ∈ nd.map kyB then nd else nd ++ [⟨c, ks⟩]
def S_nodeR (nd : List Br) (c : Int) (ks : List Int) : Int := if (ks.all fun x => x == ks.getD 0 0) = true then ks.getD 0 0 else ((nd.map kyB).idxOf (kyOf c ks) : Nat)
noncomputable abbrev MN (a b : List Int) (E : List V) (nd : List Br) (r : Int) : List (PB gam) := MK a b E nd r (kK.es (nmOf nd))
noncomputable abbrev MNg (a b : List Int) (E : List V) (nd : List Br) (r : Int) (nm : List (PV gam × PV gam)) : List (PB gam) := [.list false false 3 a, .list false false 3 b, .map (kV.es (emOf E)), .map nm, mkC a b 8 9 r, .gone, .gone, .gone, lsV E, lsB nd]
noncomputable abbrev MN' (a b : List Int) (E : List V) (nd : List Br) (r : Int) : List (PB gam) := MNg a b E nd r (kK.es (nmOf nd))
theorem sNode1 {n : Nat} (hO : Ok (n + 5) oc176) {a b : List Int} {E : List V} {nd : List Br} {r : Int} (c : Int) (ks : List Int) (hk : 1 ≤ ks.length ∧ ks.length ≤ 12) (hf : (ks.all fun x => x == ks.getD 0 0) = true) : Sim X0 Tryz.prog (ApN (n + 6)) (.fn 111 [] []) [.ptr 4 0 9, .int .i64 c, .own 7] (MN a b E nd r ++ [oI true true ks]) (.int .i64 (ks.getD 0 0)) (MN' a b E nd r) := by
 have h1 := sim_ex hX hO (first := []) (cap := []) (xs := [.ptr 4 0 9, .int .i64 c, .own 7]) (H := MN a b E nd r ++ [oI true true ks]) (v := .int .i64 (ks.getD 0 0)) (H1 := MN a b E nd r ++ [oI true true ks, .cells [.own 7]]) (f := 111) (by kernel_rfl) (.fr [7, 8] (qFlat (n := n) (ko := true) (ex := true) ks (m12 hk.2)) (.b hf (.o (show inR 0 ks.length from ⟨by omega, by omega⟩) .er)))
 exact Sim.forget (Sim.gs hX h1 [.mv 5, .mv 6, .gc [9, 10]] rfl) 7
abbrev keyBox (c : Int) (ks : List Int) : PB gam := .cells ((Ky.l (kyOf c ks)).map fun i => .int .i64 i)
theorem sNode2 {n : Nat} (hO : Ok (n + 5) oc176) {a b : List Int} {E : List V} {nd : List Br} {r : Int} (c : Int) (ks : List Int) (hk : 1 ≤ ks.length ∧ ks.length ≤ 12) (hf : (ks.all fun x => x == ks.getD 0 0) = false) (hN : (nd.map kyB).Nodup) (hm : kyOf c ks ∈ nd.map kyB) : Sim X0 Tryz.prog (ApN (n + 6)) (.fn 111 [] []) [.ptr 4 0 9, .int .i64 c, .own 7] (MN a b E nd r ++ [oI true true ks]) (.int .i64 ((nd.map kyB).idxOf (kyOf c ks) : Nat)) (MN' a b E nd r) := by
 have hF : FoundP X0 Tryz.prog 206 (kK.es (nmOf nd)) (kK.tv (kyOf c ks)) (.int .i64 ((nd.map kyB).idxOf (kyOf c ks) : Nat)) := kK.found (by rw [nmOf_keys]; exact hN) (nmOf_mem hm)
 have h1 : Sim X0 Tryz.prog (ApN (n + 6)) (.fn 111 [] []) [.ptr 4 0 9, .int .i64 c, .own 7] (MN a b E nd r ++ [oI true true ks]) (.int .i64 ((nd.map kyB).idxOf (kyOf c ks) : Nat)) (MN a b E nd r ++ [oI true true ks, .cells [.own 7], keyBox c ks]) := by
  generalize (nd.map kyB).idxOf (kyOf c ks) = j at hF ⊢
  generalize nmOf nd = nm at hF ⊢
  obtain ⟨k1, k2⟩ := hk
  rcases ks with _ | ⟨x0, _ | ⟨x1, _ | ⟨x2, _ | ⟨x3, _ | ⟨x4, _ | ⟨x5, _ | ⟨x6, _ | ⟨x7, _ | ⟨x8, _ | ⟨x9, _ | ⟨x10, _ | ⟨x11, _ | ⟨x12, _⟩⟩⟩⟩⟩⟩⟩⟩⟩⟩⟩⟩⟩ <;> first | (exfalso; simp at k1; done) | (exfalso; simp at k2; omega) | (exact sim_ex hX hO (first := []) (cap := []) (by kernel_rfl) (.fr [7, 8] (qFlat (n := n) (ko := true) (ex := true) _ (m12 k2)) (.b hf (.c (.int .i64 (j : Nat)) [] hF (.b (rfl : (!true) = false) .er)))))
 exact Sim.forget (Sim.gs hX (Sim.forget h1 9) [.mv 5, .mv 6, .gc [10, 11]] rfl) 7
theorem sNode3 {n : Nat} (hO : Ok (n + 5) oc176) {a b : List Int} {E : List V} {nd : List Br} {r : Int} (c : Int) (ks : List Int) (hk : 1 ≤ ks.length ∧ ks.length ≤ 12) (hf : (ks.all fun x => x == ks.getD 0 0) = false) (hm : kyOf c ks ∉ nd.map kyB) (hl : nd.length + 1 ≤ most) : Sim X0 Tryz.prog (ApN (n + 6)) (.fn 111 [] []) [.ptr 4 0 9, .int .i64 c, .own 7] (MN a b E nd r ++ [oI true true ks]) (.int .i64 (nd.length : Nat)) (MN' a b E (nd ++ [⟨c, ks⟩]) r) := by
 have hF : FreshP X0 Tryz.prog 206 (kK.es (nmOf nd)) (kK.tv (kyOf c ks)) := kK.fresh (by rw [nmOf_keys]; exact hm)
 have hC := kK.ck (kyOf c ks)
 have hL : nd.length + ([⟨c, ks⟩] : List Br).length ≤ most := by simpa using hl
 have em : kK.es (nmOf (nd ++ [⟨c, ks⟩])) = kK.es (nmOf nd) ++ [(kK.pv (kyOf c ks), .int .i64 (nd.length : Nat))] := by rw [nmOf_app]; exact List.map_append ..
 show Sim X0 Tryz.prog _ _ _ _ _ (MNg a b E (nd ++ [⟨c, ks⟩]) r (kK.es (nmOf (nd ++ [⟨c, ks⟩]))))
 rw [em]
 have h1 : Sim X0 Tryz.prog (ApN (n + 6)) (.fn 111 [] []) [.ptr 4 0 9, .int .i64 c, .own 7] (MN a b E nd r ++ [oI true true ks]) (.int .i64 (nd.length : Nat)) [.list false false 3 a, .list false false 3 b, .map (kV.es (emOf E)), .map (kK.es (nmOf nd) ++ [(kK.pv (kyOf c ks), .int .i64 (nd.length : Nat))]), mkC a b 5 11 r, lsV E, .gone, .gone, .cells [.own 7], keyBox c ks, .list true true 73 [⟨c, ks⟩], lsB (nd ++ [⟨c, ks⟩])] := by
  generalize nmOf nd = nm at hF ⊢
  obtain ⟨k1, k2⟩ := hk
  rcases ks with _ | ⟨x0, _ | ⟨x1, _ | ⟨x2, _ | ⟨x3, _ | ⟨x4, _ | ⟨x5, _ | ⟨x6, _ | ⟨x7, _ | ⟨x8, _ | ⟨x9, _ | ⟨x10, _ | ⟨x11, _ | ⟨x12, _⟩⟩⟩⟩⟩⟩⟩⟩⟩⟩⟩⟩⟩ <;> first | (exfalso; simp at k1; done) | (exfalso; simp at k2; omega) | (exact sim_ex hX hO (first := []) (cap := []) (by kernel_rfl) (.fr [7, 8] (qFlat (n := n) (ko := true) (ex := true) _ (m12 k2)) (.b hf (.q (.bool false) hF (.b (rfl : (!false) = true) (.q (.bool false) hC (.o hF (.o hL .er))))))))
 exact Sim.gs hX (Sim.forget (Sim.forget h1 9) 10) [.mv 5, .gc [12, 11]] rfl
theorem sNode {n : Nat} (hO : Ok (n + 5) oc176) {a b : List Int} {E : List V} {nd : List Br} {r : Int} (c : Int) (ks : List Int) (hk : 1 ≤ ks.length ∧ ks.length ≤ 12) (hN : (nd.map kyB).Nodup) (hl : nd.length + 1 ≤ most) : Sim X0 Tryz.prog (ApN (n + 6)) (.fn 111 [] []) [.ptr 4 0 9, .int .i64 c, .own 7] (MN a b E nd r ++ [oI true true ks]) (.int .i64 (S_nodeR nd c ks)) (MN' a b E (S_nodes nd c ks) r) := by
 unfold S_nodeR S_nodes
 cases hf : ks.all fun x => x == ks.getD 0 0
 ·rw [if_neg (by simp), if_neg (by simp)]
  by_cases hm : kyOf c ks ∈ nd.map kyB
  ·rw [if_pos hm]; exact sNode2 hO c ks hk hf hN hm
  ·rw [if_neg hm, List.idxOf_eq_length hm, List.length_map]; exact sNode3 hO c ks hk hf hm hl
 ·rw [if_pos rfl, if_pos rfl]; exact sNode1 hO c ks hk hf
theorem S_nodes_nodup {nd : List Br} {c : Int} {ks : List Int} (h : (nd.map kyB).Nodup) : ((S_nodes nd c ks).map kyB).Nodup := by
 unfold S_nodes
 split
 ·exact h
 ·split
  ·exact h
  ·rename_i hn
   rw [List.map_append, List.nodup_append]
   exact ⟨h, by simp, fun x hx y hy => by simp at hy; subst hy; intro e; subst e; exact hn hx⟩
end Go.Proofs.YtmefgijobonklaaGreat
namespace Go.Proofs.YtmefgijobonklaaGreat
open Go Tw Pv Mist
theorem sNew {n : Nat} (hO : Ok n oc176) (a b : List Int) (ha : a.length ≤ most) (hb : b.length ≤ most) : Sim X0 Tryz.prog (ApN (n + 1)) (.fn 105 [] []) [.agg [.lst 3 a false, .lst 3 b false]] [] (.ptr 4 0 9) (MN a b [] [] 0) :=
 Sim.gs hX (sim_ex hX hO (first := []) (cap := []) (v := .ptr 4 0 9) (H1 := [.list false false 3 a, .list false false 3 b, .map [], .map [], .cells [.lst 3 a false, .lst 3 b false, .own 0, .own 1, .nil .slc, .nil .slc, .int .i64 0, .map 2, .map 3]]) (by kernel_rfl) (.o ha (.o hb .er))) [.nilH 4 4 58, .nilH 4 5 73] rfl
structure Cs where
 e : List V
 n : List Br
 k : List (Int × Int)
noncomputable abbrev knOf (k : List (Int × Int)) : List (Int × PV X0.Γ) := k.map fun p => (p.1, .int .i64 p.2)
abbrev pC : List (PV gam) := [.ptr 8 0 1, .ptr 7 0 7, .ptr 10 0 1, .ptr 11 0 1]
noncomputable abbrev tailC (l : Lo) (k : List (Int × Int)) : List (PB gam) := [.rcells l.ps, .rcells [.ptr 4 0 9], .map (kI.es (knOf k)), .rcells [.map 9], .rcells [.fn 224 [] pC]]
noncomputable abbrev HC (l : Lo) (x : Cs) : List (PB gam) := MN l.s l.o x.e x.n 0 ++ tailC l x.k
noncomputable abbrev HC' (l : Lo) (x : Cs) : List (PB gam) := [.list false false 3 l.s, .list false false 3 l.o, .map (kV.es (emOf x.e)), .map (kK.es (nmOf x.n)), mkC l.s l.o 12 13 0, .gone, .gone] ++ tailC l x.k ++ [lsV x.e, lsB x.n]
def endV (d : Dg) (r : Int) : V := d.ends.getD (IntKind.i64.wrap (-1 - r)).toNat V0
def knV (k : List (Int × Int)) (r : Int) : Int := ((k.find? fun p => p.1 == r).getD (0, 0)).2
def S_Cl (d : Dg) : Nat → Int → Cs → Int × Cs
 | 0, _, x => (0, x)
 | F + 1, r, x => if decide (r < 0) = true then (IntKind.i64.wrap (-1 - (x.e.idxOf (endV d r) : Nat)), ⟨S_ends x.e (endV d r), x.n, x.k⟩) else if decide (r ∈ x.k.map (·.1)) = true then (knV x.k r, x)
  else
   let y := foldN (fun j (y : List Int × Cs) => (y.1.set j (S_Cl d F ((nodeI d r).kids.getD j 0) y.2).1, (S_Cl d F ((nodeI d r).kids.getD j 0) y.2).2)) (nodeI d r).kids.length 0 (List.replicate (nodeI d r).kids.length 0, x)
   (S_nodeR y.2.n (nodeI d r).var y.1, ⟨y.2.e, S_nodes y.2.n (nodeI d r).var y.1, y.2.k ++ [(r, S_nodeR y.2.n (nodeI d r).var y.1)]⟩)
structure ClOk (d : Dg) (x : Cs) : Prop where
 e1 : x.e.Nodup
 e2 : ∀ v ∈ x.e, v ∈ d.ends
 n1 : (x.n.map kyB).Nodup
 n2 : x.n.length ≤ x.k.length
 k1 : (x.k.map (·.1)).Nodup
 k2 : ∀ a ∈ x.k.map (·.1), inR a d.nodes.length
theorem ClOk.klen {d : Dg} {x : Cs} (h : ClOk d x) : x.k.length ≤ d.nodes.length := by
 have := nodup_len _ _ h.k1 h.k2
 simpa using this
theorem ClOk.elen {d : Dg} {x : Cs} (h : ClOk d x) : x.e.length ≤ d.ends.length := List.Nodup.length_le_of_subset h.e1 h.e2
theorem S_nodes_len (nd : List Br) (c : Int) (ks : List Int) : (S_nodes nd c ks).length ≤ nd.length + 1 := by
 unfold S_nodes
 split
 ·omega
 ·split
  ·omega
  ·simp
theorem knV_mem {k : List (Int × Int)} {r : Int} (h : r ∈ k.map (·.1)) : (r, knV k r) ∈ k := by
 rw [List.mem_map] at h
 obtain ⟨p, hp, rfl⟩ := h
 unfold knV
 cases e : k.find? fun q => q.1 == p.1 with
 | none => have := List.find?_eq_none.1 e p hp; simp at this
 | some q =>
  have h1 := List.mem_of_find?_eq_some e
  have h2 := List.find?_some e
  simp at h2
  rw [← h2]
  exact h1
theorem endV_mem {d : Dg} {r : Int} (h : inR (IntKind.i64.wrap (-1 - r)) d.ends.length) : endV d r ∈ d.ends := by
 have h1 : (IntKind.i64.wrap (-1 - r)).toNat < d.ends.length := by have := h.1; have := h.2; omega
 unfold endV
 simp [List.getD, List.getElem?_eq_getElem h1]
theorem cl_fold {d : Dg} (P : Cs → Prop) {F : Nat} {r : Int} {x : Cs} (h : P x) (hs : ∀ j y, j < (nodeI d r).kids.length → P y → P (S_Cl d F ((nodeI d r).kids.getD j 0) y).2) :
  (foldN (fun j (y : List Int × Cs) => (y.1.set j (S_Cl d F ((nodeI d r).kids.getD j 0) y.2).1, (S_Cl d F ((nodeI d r).kids.getD j 0) y.2).2)) (nodeI d r).kids.length 0 (List.replicate (nodeI d r).kids.length 0, x)).1.length = (nodeI d r).kids.length ∧ P (foldN (fun j (y : List Int × Cs) => (y.1.set j (S_Cl d F ((nodeI d r).kids.getD j 0) y.2).1, (S_Cl d F ((nodeI d r).kids.getD j 0) y.2).2)) (nodeI d r).kids.length 0 (List.replicate (nodeI d r).kids.length 0, x)).2 :=
 foldN_inv (g := fun j (y : List Int × Cs) => (y.1.set j (S_Cl d F ((nodeI d r).kids.getD j 0) y.2).1, (S_Cl d F ((nodeI d r).kids.getD j 0) y.2).2)) (m := (nodeI d r).kids.length) (k := 0) (s := (List.replicate (nodeI d r).kids.length 0, x)) (fun _ y => y.1.length = (nodeI d r).kids.length ∧ P y.2) ⟨by simp, h⟩ (fun j y _ hj hy => ⟨by simp [hy.1], hs j y.2 (by omega) hy.2⟩)
theorem cl_no {d : Dg} : ∀ (F : Nat) (r s : Int) (x : Cs), r < s → s ∉ x.k.map (·.1) → 0 ≤ s → (∀ i, i < d.nodes.length → ∀ k, k < (ndK d i).kids.length → (ndK d i).kids.getD k 0 < i) → (0 ≤ r → inR r d.nodes.length) → s ∉ (S_Cl d F r x).2.k.map (·.1)
 | 0, _, _, _, _, h, _, _, _ => h
 | F + 1, r, s, x, hr, h, h0, hk, hn => by
  unfold S_Cl
  by_cases c : r < 0
  ·rw [if_pos (by simpa using c)]; exact h
  ·rw [if_neg (by simpa using c)]
   split
   ·exact h
   ·have hi := hn (by omega)
    have hn2 : ∀ k, k < (nodeI d r).kids.length → (nodeI d r).kids.getD k 0 < r := fun k hk2 => by
     obtain ⟨i1, i2⟩ := hi
     have h9 : (nodeI d r).kids.getD k 0 < (r.toNat : Int) := hk r.toNat (by omega) k hk2
     omega
    have := (cl_fold (d := d) (fun y => s ∉ y.k.map (·.1)) (F := F) (r := r) h (fun j y hj hy => cl_no F _ s y (by have := hn2 j hj; omega) hy h0 hk fun h5 => ⟨h5, by have := hi.2; have := hn2 j hj; omega⟩)).2
    simp only [List.map_append, List.mem_append, not_or]
    exact ⟨this, by simp; omega⟩
theorem cl_ok {d : Dg} (h : DgT d) : ∀ (F : Nat) (r : Int) (x : Cs), ClOk d x → RefOk d r d.nodes.length → ClOk d (S_Cl d F r x).2
 | 0, _, _, hx, _ => hx
 | F + 1, r, x, hx, hr => by
  unfold S_Cl
  by_cases c : r < 0
  ·rw [if_pos (by simpa using c)]
   refine ⟨S_ends_nodup hx.e1, fun v hv => ?_, hx.n1, hx.n2, hx.k1, hx.k2⟩
   have hv : v ∈ S_ends x.e (endV d r) := hv
   unfold S_ends at hv
   split at hv
   ·exact hx.e2 v hv
   ·rcases List.mem_append.1 hv with hv | hv
    ·exact hx.e2 v hv
    ·rw [List.mem_singleton.1 hv]; exact endV_mem (hr.2 c)
  ·rw [if_neg (by simpa using c)]
   split
   ·exact hx
   ·rename_i c2
    have hlt : r.toNat < d.nodes.length := by have := hr.1; omega
    have hkid : ∀ k, k < (nodeI d r).kids.length → (nodeI d r).kids.getD k 0 < r := fun k hk2 => by
     have h9 := (h.kid r.toNat hlt k hk2).1
     have h9 : (nodeI d r).kids.getD k 0 < (r.toNat : Int) := h9
     omega
    have hb := (cl_fold (d := d) (fun y => ClOk d y ∧ r ∉ y.k.map (·.1)) (F := F) (r := r) ⟨hx, by simpa using c2⟩ (fun j y hj hy => by
     have hrk : RefOk d ((nodeI d r).kids.getD j 0) d.nodes.length := ⟨by have := hkid j hj; have := hr.1; omega, (h.kid r.toNat hlt j hj).2⟩
     refine ⟨cl_ok h F _ y hy.1 hrk, cl_no F _ r y (hkid j hj) hy.2 (by omega) (fun i hi k hk => (h.kid i hi k hk).1) (fun h5 => ⟨h5, by have := hrk.1; omega⟩)⟩)).2
    obtain ⟨hb, hb2⟩ := hb
    refine ⟨hb.e1, hb.e2, S_nodes_nodup hb.n1, ?_, ?_, ?_⟩
    ·have := S_nodes_len (foldN (fun j (y : List Int × Cs) => (y.1.set j (S_Cl d F ((nodeI d r).kids.getD j 0) y.2).1, (S_Cl d F ((nodeI d r).kids.getD j 0) y.2).2)) (nodeI d r).kids.length 0 (List.replicate (nodeI d r).kids.length 0, x)).2.n (nodeI d r).var (foldN (fun j (y : List Int × Cs) => (y.1.set j (S_Cl d F ((nodeI d r).kids.getD j 0) y.2).1, (S_Cl d F ((nodeI d r).kids.getD j 0) y.2).2)) (nodeI d r).kids.length 0 (List.replicate (nodeI d r).kids.length 0, x)).1
     have := hb.n2
     simp only [List.length_append, List.length_singleton]
     omega
    ·simp only [List.map_append, List.map_cons, List.map_nil]
     exact nodup_snoc hb.k1 hb2
    ·intro a ha
     simp only [List.map_append, List.mem_append, List.map_cons, List.map_nil, List.mem_singleton] at ha
     rcases ha with ha | rfl
     ·exact hb.k2 a ha
     ·exact ⟨by omega, by omega⟩
end Go.Proofs.YtmefgijobonklaaGreat
namespace Go.Proofs.YtmefgijobonklaaGreat
open Go Tw Pv Mist
noncomputable abbrev hCl (l : Lo) (x : Cs) (ks : List Int) : List (PB gam) := HC' l x ++ [oI true true ks]
noncomputable abbrev wCl (l : Lo) (r : Int) (i : Int) (y : List Int × Cs) (x : List (Nat × PE gam)) : PSt gam := ⟨[(0, xi r), (1, .val (.ptr 8 0 1)), (3, .val (.ptr 10 0 1)), (4, .val (.ptr 11 0 1)), (9, .loc 0 0), (10, xo 14), (43, xL 3 (nodeI l.d r).kids), (44, xi (nodeI l.d r).kids.length), (45, xi i)] ++ x, [(nodeI l.d r).ps], hCl l y.2 y.1⟩
theorem lCl {M : Nat} (hO : Ok M oc176) {d : Dg} {F : Nat} {r : Int} (hk : (nodeI d r).kids.length ≤ 12) (Q : Cs → Prop) {x : Cs} (hx : Q x) (hq : ∀ j y, j < (nodeI d r).kids.length → Q y → Q (S_Cl d F ((nodeI d r).kids.getD j 0) y).2) (hs : ∀ j y, j < (nodeI d r).kids.length → Q y → Sim X0 Tryz.prog (ApN M) (.fn 224 [] pC) [.int .i64 ((nodeI d r).kids.getD j 0)] (HC (loD d) y) (.int .i64 (S_Cl d F ((nodeI d r).kids.getD j 0) y).1) (HC' (loD d) (S_Cl d F ((nodeI d r).kids.getD j 0) y).2)) :
  LpB M 224 0 12 (wCl (loD d) r 0 (List.replicate (nodeI d r).kids.length 0, x) []) (.exit 0) (wCl (loD d) r (nodeI d r).kids.length (foldN (fun j (y : List Int × Cs) => (y.1.set j (S_Cl d F ((nodeI d r).kids.getD j 0) y.2).1, (S_Cl d F ((nodeI d r).kids.getD j 0) y.2).2)) (nodeI d r).kids.length 0 (List.replicate (nodeI d r).kids.length 0, x)) [(46, xl false)]) := by
 refine foldL (σ := List Int × Cs) (N := (nodeI d r).kids.length) (g := fun j (y : List Int × Cs) => (y.1.set j (S_Cl d F ((nodeI d r).kids.getD j 0) y.2).1, (S_Cl d F ((nodeI d r).kids.getD j 0) y.2).2)) (s0 := (List.replicate (nodeI d r).kids.length 0, x)) (st := fun k y => wCl (loD d) r k y []) (fin := fun y => wCl (loD d) r (nodeI d r).kids.length y [(46, xl false)]) (fun _ y => y.1.length = (nodeI d r).kids.length ∧ Q y.2) (by kernel_rfl) (m12 hk) ⟨by simp, hx⟩ (fun j y hj hy => ⟨by simp [hy.1], hq j y.2 hj hy.2⟩) (fun j y hj hy m e p g => ?_) (fun y _ => round hX hO (by kernel_rfl) (.b (lt_no (nodeI d r).kids.length) .ex))
 have h1 := hs j y.2 hj hy.2
 have h2 : inR j y.1.length := inR_nat (by rw [hy.1]; exact hj)
 generalize S_Cl d F ((nodeI d r).kids.getD j 0) y.2 = z at h1 g
 obtain ⟨v, z⟩ := z
 exact round hX hO (by kernel_rfl) (.b (lt_nat hj) (.o (inR_nat hj) (.fr [0, 1, 2, 3, 4, 12, 13, 7, 8, 9, 10, 11] h1 (.o h2 (.goG [.gc [15, 16, 14]] g)))))
theorem knOf_keys (k : List (Int × Int)) : (knOf k).map (·.1) = k.map (·.1) := by
 unfold knOf
 rw [List.map_map]
 rfl
theorem qEnd {n : Nat} (hO : Ok n oc176) (k : Int) : Sim X0 Tryz.prog (ApN n) (.fn 154 [] []) [.int .i64 k] [] (iA.put (IntKind.i64.wrap (-1 - k))) [] :=
 Con.sim0 hX (hO 154 [.int .i64 k] (iA.put (IntKind.i64.wrap (-1 - k))) [] [] (by kernel_rfl) (fun q hq => by cases hq)) rfl rfl rfl rfl
theorem sCl {N : Nat} (hO : ∀ m, N ≤ m → Ok m oc176) {d : Dg} (h : DgT d) (he : d.ends.length + 1 ≤ most) (hn : d.nodes.length + 1 ≤ most) (h1k : ∀ i, i < d.nodes.length → 1 ≤ (ndK d i).kids.length) : ∀ (F : Nat) (r : Int) (x : Cs), r + 1 < F → ClOk d x → RefOk d r d.nodes.length → 1 ≤ F → Sim X0 Tryz.prog (ApN (N + F + 6)) (.fn 224 [] pC) [.int .i64 r] (HC (loD d) x) (.int .i64 (S_Cl d F r x).1) (HC' (loD d) (S_Cl d F r x).2)
 | 0, r, x, _, _, _, h1 => by omega
 | F + 1, r, x, hF, hx, hr, _ => by
  rw [show N + (F + 1) + 6 = N + F + 6 + 1 by omega]
  have hO1 := hO (N + F + 6) (by omega)
  have hO2 := hO (N + F + 5) (by omega)
  unfold S_Cl
  by_cases c : r < 0
  ·have t0 : decide (r < 0) = true := by simpa using c
   rw [if_pos t0]
   have hi : inR (IntKind.i64.wrap (-1 - r)) d.ends.length := hr.2 c
   have hs := sEnd hO2 (a := d.sizes) (b := d.order) (E := x.e) (nd := x.n) (r := 0) (nm := kK.es (nmOf x.n)) (endV d r) hx.e1 (by have := hx.elen; omega)
   exact sim_ex hX hO1 (first := []) (by kernel_rfl) (.b t0 (.fr [] (qEnd hO1 r) (.o hi (.fr [0, 1, 2, 3, 4, 5, 6] hs .er))))
  ·have t0 : decide (r < 0) = false := by simpa using c
   rw [if_neg (by rw [t0]; simp)]
   have hlt : r.toNat < d.nodes.length := by have := hr.1; omega
   by_cases c2 : r ∈ x.k.map (·.1)
   ·rw [if_pos (by simpa using c2)]
    have hf : FoundP X0 Tryz.prog 3 (kI.es (knOf x.k)) (kI.tv r) (.int .i64 (knV x.k r)) := kI.found (by rw [knOf_keys]; exact hx.k1) (List.mem_map.2 ⟨(r, knV x.k r), knV_mem c2, rfl⟩)
    generalize knV x.k r = v at hf ⊢
    exact Sim.gs hX (sim_ex hX hO1 (first := []) (H1 := HC (loD d) x) (v := .int .i64 v) (by kernel_rfl) (.b t0 (.c (.int .i64 v) [] hf (.b (rfl : true = true) .er)))) [.mv 5, .mv 6] rfl
   ·rw [if_neg (by simpa using c2)]
    have hkid : ∀ k, k < (nodeI d r).kids.length → (nodeI d r).kids.getD k 0 < r := fun k hk2 => by
     have h9 := (h.kid r.toNat hlt k hk2).1
     have h9 : (nodeI d r).kids.getD k 0 < (r.toNat : Int) := h9
     omega
    have hrk : ∀ j, j < (nodeI d r).kids.length → RefOk d ((nodeI d r).kids.getD j 0) d.nodes.length := fun j hj => ⟨by have := hkid j hj; have := hr.1; omega, (h.kid r.toNat hlt j hj).2⟩
    have hkl : (nodeI d r).kids.length ≤ 12 := h.klen r.toNat hlt
    have hq : ∀ j y, j < (nodeI d r).kids.length → (ClOk d y ∧ r ∉ y.k.map (·.1)) → ClOk d (S_Cl d F ((nodeI d r).kids.getD j 0) y).2 ∧ r ∉ (S_Cl d F ((nodeI d r).kids.getD j 0) y).2.k.map (·.1) := fun j y hj hy =>
     ⟨cl_ok h F _ y hy.1 (hrk j hj), cl_no F _ r y (hkid j hj) hy.2 (by omega) (fun i hi k hk => (h.kid i hi k hk).1) (fun h5 => ⟨h5, by have := (hrk j hj).1; omega⟩)⟩
    have hl := lCl hO1 (d := d) (F := F) (r := r) hkl (fun y => ClOk d y ∧ r ∉ y.k.map (·.1)) (x := x) ⟨hx, c2⟩ hq (fun j y hj hy => sCl hO h he hn h1k F _ y (by have := hkid j hj; omega) hy.1 (hrk j hj) (by omega))
    obtain ⟨g1, g2, g3⟩ := cl_fold (d := d) (fun y => ClOk d y ∧ r ∉ y.k.map (·.1)) (F := F) (r := r) (x := x) ⟨hx, c2⟩ hq
    generalize foldN (fun j (y : List Int × Cs) => (y.1.set j (S_Cl d F ((nodeI d r).kids.getD j 0) y.2).1, (S_Cl d F ((nodeI d r).kids.getD j 0) y.2).2)) (nodeI d r).kids.length 0 (List.replicate (nodeI d r).kids.length 0, x) = y at hl g1 g2 g3
    obtain ⟨ks, e, nd, kn⟩ := y
    have g1 : ks.length = (nodeI d r).kids.length := g1
    have hks : 1 ≤ ks.length ∧ ks.length ≤ 12 := by rw [g1]; exact ⟨h1k r.toNat hlt, hkl⟩
    have hN : nd.length + 1 ≤ most := by have := g2.klen; have := g2.n2; simp at *; omega
    have hs := sNode (n := N + F) hO2 (a := d.sizes) (b := d.order) (E := e) (nd := nd) (r := 0) (nodeI d r).var ks hks g2.n1 hN
    have f0 : FreshP X0 Tryz.prog 3 (kI.es (knOf x.k)) (kI.tv r) := kI.fresh (by rw [knOf_keys]; exact c2)
    have f1 : FreshP X0 Tryz.prog 3 (kI.es (knOf kn)) (kI.tv r) := kI.fresh (by rw [knOf_keys]; exact g3)
    have f2 := kI.ck r
    show Sim X0 Tryz.prog _ _ _ _ (.int .i64 (S_nodeR nd (nodeI d r).var ks)) (HC' (loD d) ⟨e, S_nodes nd (nodeI d r).var ks, kn ++ [(r, S_nodeR nd (nodeI d r).var ks)]⟩)
    generalize S_nodeR nd (nodeI d r).var ks = v at hs ⊢
    generalize S_nodes nd (nodeI d r).var ks = nd' at hs ⊢
    have em : kI.es (knOf (kn ++ [(r, v)])) = kI.es (knOf kn) ++ [(kI.pv r, .int .i64 v)] := by
     show List.map _ (List.map _ (kn ++ [(r, v)])) = _
     rw [List.map_append, List.map_append]; rfl
    have f3 : FoundP X0 Tryz.prog 3 (kI.es (knOf kn) ++ [(kI.pv r, .int .i64 v)]) (kI.tv r) (.int .i64 v) := by
     rw [← em]
     exact kI.found (by rw [knOf_keys, List.map_append]; exact nodup_snoc g2.k1 g3) (List.mem_map.2 ⟨(r, v), by simp, rfl⟩)
    have hi : inR r d.nodes.length := ⟨by omega, hr.1⟩
    have hm : ((nodeI d r).kids.length : Int) ≤ (most : Int) := by have := m12 hkl; omega
    show Sim X0 Tryz.prog _ _ _ _ _ ([_, _, _, _, _, _, _] ++ [_, _, .map (kI.es (knOf (kn ++ [(r, v)]))), _, _] ++ [_, _])
    rw [em]
    exact Sim.gs hX (sim_ex hX hO1 (first := []) (v := .int .i64 v) (H1 := [.list false false 3 d.sizes, .list false false 3 d.order, .map (kV.es (emOf e)), .map (kK.es (nmOf nd')), mkC d.sizes d.order 15 16 0, .gone, .gone, .rcells (loD d).ps, .rcells [.ptr 4 0 9], .map (kI.es (knOf kn) ++ [(kI.pv r, .int .i64 v)]), .rcells [.map 9], .rcells [.fn 224 [] pC], .gone, .gone, .gone, lsV e, lsB nd']) (by kernel_rfl) (.b t0 (.q (.bool false) f0 (.b (rfl : false = false) (.o hi (.o (show ((nodeI d r).kids.length : Int) = ((nodeI d r).kids.length : Int) from rfl) (.o (show (0 : Int) ≤ ((nodeI d r).kids.length : Int) by omega) (.o hm (.wG [.mv 5, .mv 6, .gc [13, 14, 12]] hl (.fr [0, 1, 2, 3, 4, 12, 13, 14] hs (.q (.bool false) f2 (.o f1 (.c (.int .i64 v) [] f3 .er))))))))))))) [.gc [15, 16]] rfl
end Go.Proofs.YtmefgijobonklaaGreat
namespace Go.Proofs.YtmefgijobonklaaGreat
open Go Tw Pv Mist
abbrev cSameV (a b : List V) (k : Nat) : Bool := !(decide (a.getD k V0 = b.getD k V0))
abbrev w160 (a b : List V) (i : Int) (x : List (Nat × PE gam)) : PSt gam := ⟨[(0, xL 58 a), (1, xL 58 b), (12, xi a.length), (13, xi i)] ++ x, [], []⟩
def z160 (a b : List V) : Unit ⊕ Nat → Ex × PSt gam
 | .inl _ => (.exit 0, w160 a b a.length [(14, xl false)])
 | .inr _ => (.ret, ⟨[(4, xl false)], [], []⟩)
theorem l160 {n : Nat} {orc : Orc gam} (hO : Ok n orc) (a b : List V) (hl : a.length ≤ most) (h : a.length = b.length) : Lp n 160 0 (w160 a b 0 []) (z160 a b (srch (cSameV a b) a.length)).1 (z160 a b (srch (cSameV a b) a.length)).2 :=
 searchL (st := fun i _ => w160 a b i []) (fun _ _ => True) (by kernel_rfl) hl trivial (fun k s m hk _ ih => round hX hO (by kernel_rfl) (.b (lt_nat hk) (.o (inR_nat hk) (.o (inR_nat (h ▸ hk)) (.q (.bool (!(decide (a.getD k V0 = b.getD k V0)))) (neV (.tmp 19) (.tmp 23) (a.getD k V0) (b.getD k V0)) (.ls (.ou nofun) (.nx (ih _ trivial)))))))) (fun s _ => round hX hO (by kernel_rfl) (.b (lt_no a.length) (.ou nofun)))
theorem eq_getV {a b : List V} (h : a.length = b.length) : a = b ↔ ∀ j, j < a.length → a.getD j V0 = b.getD j V0 := by
 constructor
 ·rintro rfl j _; rfl
 ·intro h2
  apply List.ext_getElem h
  intro j h3 h4
  have := h2 j h3
  simpa [List.getD, List.getElem?_eq_getElem h3, List.getElem?_eq_getElem h4] using this
theorem cSameV_iff {a b : List V} (h : a.length = b.length) : isL (srch (cSameV a b) a.length) = decide (a = b) := by
 rw [Bool.eq_iff_iff, srch_ok, decide_eq_true_eq, eq_getV h]
 simp [cSameV]
theorem len_neA {α : Type} [DecidableEq α] {a b : List α} (h : ((a.length : Int) != (b.length : Int)) = true) : decide (a = b) = false := by
 rw [decide_eq_false_iff_not]; rintro rfl; simp at h
noncomputable def oc160 : Orc gam := orcF 160 (a2 vsA vsA) tA (fun p => decide (p.1 = p.2)) (fun p => [p.1.length ≤ most]) oc176
theorem gc160 : Gd oc160 := gc176.add fun n hO p hp => fn_is hX hO (by kernel_rfl) (.s (fun h => .v false (len_neA h).symm) fun h => .z (c := isL (srch (cSameV p.1 p.2) p.1.length)) (fun h2 => .w (exInl (l160 hO p.1 p.2 (hp _ (.head _)) (len_eq h)) () h2) (.v true (by rw [← cSameV_iff (len_eq h), h2]))) fun h2 => .w (exInr (l160 hO p.1 p.2 (hp _ (.head _)) (len_eq h)) 0 h2) (.v false (by rw [← cSameV_iff (len_eq h), h2])))
def S_eqBr (x y : Br) : Bool := if (x.var == y.var) = true then decide (x.kids = y.kids) else false
noncomputable def oc222 : Orc gam := orcF 222 (a2 brA brA) tA (fun p => S_eqBr p.1 p.2) (fun p => [p.1.kids.length ≤ most]) oc160
theorem gc222 : Gd oc222 := gc160.add fun n hO p hp => fn_is hX hO (by kernel_rfl) (.ss (.o (hp _ (.head _)) .rr) .rr)
abbrev wEB (a b : List Br) (i : Int) (x : List (Nat × PE gam)) : PSt gam := ⟨[(1, xL 73 b), (2, .val (.fn 222 [] [])), (15, xL 73 a), (16, xi a.length), (17, xi i)] ++ x, [], []⟩
abbrev cEB (a b : List Br) (k : Nat) : Bool := !(S_eqBr (a.getD k Br0) (b.getD k Br0))
def zEB (a b : List Br) : Unit ⊕ Nat → Ex × PSt gam
 | .inl _ => (.exit 0, wEB a b a.length [(18, xl false)])
 | .inr k => (.ret, ⟨[(6, xl false)], [(a.getD k Br0).ps, (b.getD k Br0).ps], []⟩)
theorem lEB {n : Nat} (hO : Ok n oc222) (a b : List Br) (hl : a.length ≤ most) (h : a.length = b.length) (hk : ∀ k, k < a.length → (a.getD k Br0).kids.length ≤ most) : Lp n 223 0 (wEB a b 0 []) (zEB a b (srch (cEB a b) a.length)).1 (zEB a b (srch (cEB a b) a.length)).2 :=
 searchL (st := fun i _ => wEB a b i []) (fun _ _ => True) (by kernel_rfl) hl trivial (fun k s m hk2 _ ih => round hX hO (by kernel_rfl) (.b (lt_nat hk2) (.o (inR_nat hk2) (.o (inR_nat (h ▸ hk2)) (.o (hk k hk2) (.ls (.ou nofun) (.nx (ih _ trivial)))))))) (fun s _ => round hX hO (by kernel_rfl) (.b (lt_no a.length) (.ou nofun)))
def S_eqBrs (a b : List Br) : Bool := if ((a.length : Int) != (b.length : Int)) = true then false else if isL (srch (cEB a b) a.length) = true then true else false
noncomputable def oc223 : Orc gam := orcF 223 (a3 brsA brsA (fnA 222)) tA (fun p => S_eqBrs p.1 p.2.1) (fun p => [p.1.length ≤ most, ∀ k, k < p.1.length → (p.1.getD k Br0).kids.length ≤ most]) oc222
theorem gc223 : Gd oc223 := gc222.add fun n hO p hp => fn_is hX hO (by kernel_rfl) (.sh (fun _ => .rr) fun h => .zh (fun h2 => .w (exInl (lEB hO p.1 p.2.1 (hp _ (.head _)) (len_eq h) (hp (∀ k, k < p.1.length → (p.1.getD k Br0).kids.length ≤ most) (.tail _ (.head _)))) () h2) .rr) fun h2 => .w (exInr (lEB hO p.1 p.2.1 (hp _ (.head _)) (len_eq h) (hp (∀ k, k < p.1.length → (p.1.getD k Br0).kids.length ≤ most) (.tail _ (.head _)))) 0 h2) .rr)
def S_nEq (a b : Dg) : Bool := if decide (a.sizes = b.sizes) = true then (if decide (a.order = b.order) = true then (if decide (a.ends = b.ends) = true then (if S_eqBrs a.nodes b.nodes = true then a.root == b.root else false) else false) else false) else false
noncomputable def oc177 : Orc gam := orcF 177 (a2 dA dA) tA (fun p => S_nEq p.1 p.2) (fun p => [p.1.sizes.length ≤ most, p.1.order.length ≤ most, p.1.ends.length ≤ most, p.1.nodes.length ≤ most, ∀ k, k < p.1.nodes.length → (p.1.nodes.getD k Br0).kids.length ≤ most]) oc223
theorem gc177 : Gd oc177 := gc223.add fun n hO p hp => fn_is hX hO (by kernel_rfl) (.o (hp _ (.head _)) (.ss (.o (hp _ (.tail _ (.head _))) (.ss (.o (hp _ (.tail _ (.tail _ (.head _)))) (.ss (.o (hp _ (.tail _ (.tail _ (.tail _ (.head _))))) (.o (hp (∀ k, k < p.1.nodes.length → (p.1.nodes.getD k Br0).kids.length ≤ most) (.tail _ (.tail _ (.tail _ (.tail _ (.head _)))))) (.ss .rr .rr))) .rr)) .rr)) .rr))
theorem eqBr_iff {x y : Br} : S_eqBr x y = true ↔ x = y := by
 obtain ⟨a, b⟩ := x
 obtain ⟨c, e⟩ := y
 unfold S_eqBr
 simp only [Br.mk.injEq]
 by_cases h : a = c <;> simp [h]
theorem eqBrs_iff {a b : List Br} : S_eqBrs a b = true ↔ a = b := by
 unfold S_eqBrs
 by_cases h : a.length = b.length
 ·rw [if_neg (by simp; omega)]
  have e : isL (srch (cEB a b) a.length) = true ↔ a = b := by
   rw [srch_ok]
   constructor
   ·intro h1
    apply List.ext_getElem h
    intro j h3 h4
    have := h1 j h3
    simp only [cEB, Bool.not_eq_false'] at this
    have := eqBr_iff.1 this
    simpa [List.getD, List.getElem?_eq_getElem h3, List.getElem?_eq_getElem h4] using this
   ·rintro rfl j _
    simp only [cEB, Bool.not_eq_false']
    exact eqBr_iff.2 rfl
  rw [← e]
  cases isL (srch (cEB a b) a.length) <;> simp
 ·rw [if_pos (by simp; omega)]
  constructor
  ·intro h1; cases h1
  ·rintro rfl; exact absurd rfl h
theorem nEq_iff {a b : Dg} : S_nEq a b = true ↔ a = b := by
 obtain ⟨a1, a2, a3, a4, a5⟩ := a
 obtain ⟨b1, b2, b3, b4, b5⟩ := b
 unfold S_nEq
 simp only [Dg.mk.injEq]
 by_cases h1 : a1 = b1
 ·by_cases h2 : a2 = b2
  ·by_cases h3 : a3 = b3
   ·have h4 := eqBrs_iff (a := a4) (b := b4)
    cases e : S_eqBrs a4 b4
    ·rw [e] at h4; simp [h1, h2, h3]; intro h5; exact absurd h5 (by simpa using h4)
    ·rw [e] at h4; simp at h4; simp [h1, h2, h3, h4]
   ·simp [h3]
  ·simp [h2]
 ·simp [h1]
end Go.Proofs.YtmefgijobonklaaGreat
namespace Go.Proofs.YtmefgijobonklaaGreat
open Go Tw Pv Mist
def phi (s : List Int × List Int) (x : Int) : Int := if x < 0 then IntKind.i64.wrap (-1 - (s.2.idxOf (endI x) : Nat)) else (s.1.idxOf x : Nat)
def Cov (s : List Int × List Int) (x : Int) : Prop := (x < 0 → endI x ∈ s.2) ∧ (0 ≤ x → x ∈ s.1)
def KS (d : Dg) (s : List Int × List Int) : Cs := ⟨s.2.map fun e => d.ends.getD e.toNat V0, s.1.map fun o => ⟨(nodeI d o).var, (nodeI d o).kids.map (phi s)⟩, s.1.map fun o => (o, phi s o)⟩
def KidsIn (d : Dg) (s : List Int × List Int) : Prop := ∀ o ∈ s.1, ∀ k ∈ (nodeI d o).kids, Cov s k
theorem phi_end {s : List Int × List Int} {x : Int} (l : List Int) (h : Cov s x) : phi (s.1, s.2 ++ l) x = phi s x := by
 unfold phi
 split
 ·rename_i c
  rw [List.idxOf_append, if_pos (h.1 c)]
 ·rfl
theorem phi_node {s : List Int × List Int} {x : Int} (l : List Int) (h : Cov s x) : phi (s.1 ++ l, s.2) x = phi s x := by
 unfold phi
 split
 ·rfl
 ·rename_i c
  rw [List.idxOf_append, if_pos (h.2 (by omega))]
theorem ks_end {d : Dg} {s : List Int × List Int} (hk : KidsIn d s) (hn : ∀ o ∈ s.1, 0 ≤ o) (e : Int) : KS d (s.1, s.2 ++ [e]) = ⟨(KS d s).e ++ [d.ends.getD e.toNat V0], (KS d s).n, (KS d s).k⟩ := by
 unfold KS
 simp only [List.map_append, List.map_cons, List.map_nil, Cs.mk.injEq, true_and]
 constructor
 ·apply List.map_congr_left
  intro o ho
  congr 1
  apply List.map_congr_left
  intro k hk2
  exact phi_end [e] (hk o ho k hk2)
 ·apply List.map_congr_left
  intro o ho
  rw [phi_end [e] ⟨fun c => absurd (hn o ho) (by omega), fun _ => ho⟩]
theorem ks_node {d : Dg} {s : List Int × List Int} (hk : KidsIn d s) (hn : ∀ o ∈ s.1, 0 ≤ o) {r : Int} (h0 : 0 ≤ r) (hr : r ∉ s.1) (hrk : ∀ k ∈ (nodeI d r).kids, Cov s k) : KS d (s.1 ++ [r], s.2) = ⟨(KS d s).e, (KS d s).n ++ [⟨(nodeI d r).var, (nodeI d r).kids.map (phi s)⟩], (KS d s).k ++ [(r, (s.1.length : Int))]⟩ := by
 unfold KS
 simp only [List.map_append, List.map_cons, List.map_nil, Cs.mk.injEq, true_and]
 refine ⟨?_, ?_⟩
 ·congr 1
  ·apply List.map_congr_left
   intro o ho
   congr 1
   exact List.map_congr_left fun k hk2 => phi_node [r] (hk o ho k hk2)
  ·congr 2
   exact List.map_congr_left fun k hk2 => phi_node [r] (hrk k hk2)
 ·congr 1
  ·apply List.map_congr_left
   intro o ho
   rw [phi_node [r] ⟨fun c => absurd (hn o ho) (by omega), fun _ => ho⟩]
  ·congr 2
   unfold phi
   rw [if_neg (by omega)]
   simp [List.idxOf_append, hr]
theorem w_inj {a b : Nat} (ha : a ≤ 2 ^ 61) (hb : b ≤ 2 ^ 61) (h : IntKind.i64.wrap (-1 - (a : Int)) = IntKind.i64.wrap (-1 - (b : Int))) : a = b := by
 rw [wrap_nn (by omega) (by omega), wrap_nn (by omega) (by omega)] at h
 omega
theorem idx_inj {l : List Int} {a b : Int} (ha : a ∈ l) (hb : b ∈ l) (h : l.idxOf a = l.idxOf b) : a = b := by
 have h1 := List.getElem_idxOf (List.idxOf_lt_length_iff.2 ha)
 have h2 := List.getElem_idxOf (List.idxOf_lt_length_iff.2 hb)
 rw [← h1, ← h2]
 congr 1
theorem endI_inj {x y : Int} (hx : W64 x) (hy : W64 y) (cx : x < 0) (cy : y < 0) (h : endI x = endI y) : x = y := by
 unfold endI at h
 rw [w64_neg hx cx, w64_neg hy cy] at h
 omega
theorem phi_inj {s : List Int × List Int} (hs : s.2.length ≤ 2 ^ 61) {x y : Int} (hx : Cov s x) (hy : Cov s y) (wx : W64 x) (wy : W64 y) (h : phi s x = phi s y) : x = y := by
 have lt : ∀ z, z ∈ s.2 → s.2.idxOf z ≤ 2 ^ 61 := fun z hz => Nat.le_trans (Nat.le_of_lt (List.idxOf_lt_length_iff.2 hz)) hs
 unfold phi at h
 by_cases cx : x < 0
 ·rw [if_pos cx] at h
  by_cases cy : y < 0
  ·rw [if_pos cy] at h
   exact endI_inj wx wy cx cy (idx_inj (hx.1 cx) (hy.1 cy) (w_inj (lt _ (hx.1 cx)) (lt _ (hy.1 cy)) h))
  ·rw [if_neg cy] at h
   have := lt _ (hx.1 cx)
   rw [wrap_nn (by omega) (by omega)] at h
   omega
 ·rw [if_neg cx] at h
  by_cases cy : y < 0
  ·rw [if_pos cy] at h
   have := lt _ (hy.1 cy)
   rw [wrap_nn (by omega) (by omega)] at h
   omega
  ·rw [if_neg cy] at h
   exact idx_inj (hx.2 (by omega)) (hy.2 (by omega)) (by omega)
end Go.Proofs.YtmefgijobonklaaGreat
namespace Go.Proofs.YtmefgijobonklaaGreat
open Go Tw Pv Mist
def Ext (s t : List Int × List Int) : Prop := ∃ a b, t = (s.1 ++ a, s.2 ++ b)
theorem Ext.refl (s : List Int × List Int) : Ext s s := ⟨[], [], by simp⟩
theorem Ext.trans {s t u : List Int × List Int} (h : Ext s t) (h2 : Ext t u) : Ext s u := by
 obtain ⟨a, b, rfl⟩ := h
 obtain ⟨c, e, rfl⟩ := h2
 exact ⟨a ++ c, b ++ e, by simp⟩
theorem Cov.ext {s t : List Int × List Int} {x : Int} (h : Cov s x) (he : Ext s t) : Cov t x := by
 obtain ⟨a, b, rfl⟩ := he
 exact ⟨fun c => List.mem_append_left _ (h.1 c), fun c => List.mem_append_left _ (h.2 c)⟩
theorem phi_ext {s t : List Int × List Int} {x : Int} (h : Cov s x) (he : Ext s t) : phi t x = phi s x := by
 have hc := h
 obtain ⟨a, b, rfl⟩ := he
 have h2 : Cov (s.1, s.2 ++ b) x := ⟨fun c => List.mem_append_left _ (h.1 c), h.2⟩
 rw [← phi_end b h, ← phi_node a h2]
theorem foldN_rel {α β : Type} {g1 : Nat → α → α} {g2 : Nat → β → β} (R : Nat → α → β → Prop) : ∀ (m k : Nat) (a : α) (b : β), R k a b → (∀ j a b, k ≤ j → j < k + m → R j a b → R (j + 1) (g1 j a) (g2 j b)) → R (k + m) (foldN g1 m k a) (foldN g2 m k b)
 | 0, _, _, _, h, _ => h
 | m + 1, k, a, b, h, hs => by
  have := foldN_rel R m (k + 1) (g1 k a) (g2 k b) (hs k a b (Nat.le_refl _) (by omega) h) (fun j a b h1 h2 => hs j a b (by omega) (by omega))
  rw [show k + (m + 1) = k + 1 + m by omega]
  exact this
theorem idx_map {α β : Type} [BEq α] [LawfulBEq α] [BEq β] [LawfulBEq β] {f : α → β} {a : α} : ∀ {l : List α}, (∀ b ∈ l, f b = f a → b = a) → (l.map f).idxOf (f a) = l.idxOf a
 | [], _ => rfl
 | c :: l, h => by
  rw [List.map_cons, List.idxOf_cons, List.idxOf_cons, idx_map fun b hb => h b (List.mem_cons_of_mem _ hb)]
  by_cases hc : c = a
  ·subst hc; simp
  ·have : ¬(f c = f a) := fun e => hc (h c (.head _) e)
   rw [show (c == a) = false by simpa using hc, show (f c == f a) = false by simpa using this]
structure DgD (d : Dg) : Prop where
 ends : d.ends.Nodup
 nodes : ∀ i j, i < d.nodes.length → j < d.nodes.length → (ndK d i).var = (ndK d j).var → (ndK d i).kids = (ndK d j).kids → i = j
 flat : ∀ i, i < d.nodes.length → ((ndK d i).kids.all fun x => x == (ndK d i).kids.getD 0 0) = false
theorem getV_inj {d : Dg} (h : d.ends.Nodup) {a b : Int} (ha : inR a d.ends.length) (hb : inR b d.ends.length) (e : d.ends.getD a.toNat V0 = d.ends.getD b.toNat V0) : a = b := by
 have h1 : a.toNat < d.ends.length := by have := ha.1; have := ha.2; omega
 have h2 : b.toNat < d.ends.length := by have := hb.1; have := hb.2; omega
 simp only [List.getD, List.getElem?_eq_getElem h1, List.getElem?_eq_getElem h2, Option.getD_some] at e
 have := (List.getElem_inj h).1 e
 have := ha.1; have := hb.1
 omega
theorem cl_end {d : Dg} (hd : DgD d) {s : List Int × List Int} (hs : SrOk d s) {r : Int} (hr : inR (endI r) d.ends.length) : (KS d s).e.idxOf (endV d r) = s.2.idxOf (endI r) ∧ (endV d r ∈ (KS d s).e ↔ endI r ∈ s.2) := by
 have hi : ∀ b ∈ s.2, (fun e : Int => d.ends.getD e.toNat V0) b = (fun e : Int => d.ends.getD e.toNat V0) (endI r) → b = endI r := fun b hb e => getV_inj hd.ends (hs.e2 b hb) hr e
 refine ⟨idx_map (f := fun e : Int => d.ends.getD e.toNat V0) (a := endI r) hi, ?_⟩
 constructor
 ·intro h
  obtain ⟨b, hb, e⟩ := List.mem_map.1 h
  rw [← hi b hb e]; exact hb
 ·intro h
  exact List.mem_map.2 ⟨endI r, h, rfl⟩
theorem kn_phi {d : Dg} {s : List Int × List Int} {r : Int} (h : r ∈ s.1) : knV (KS d s).k r = phi s r := by
 have h1 : r ∈ (KS d s).k.map (·.1) := by
  unfold KS; rw [List.map_map]; exact List.mem_map.2 ⟨r, h, rfl⟩
 have h2 := knV_mem h1
 obtain ⟨o, _, e⟩ := List.mem_map.1 h2
 have e1 : o = r := congrArg Prod.fst e
 have e2 : phi s o = knV (KS d s).k r := congrArg Prod.snd e
 rw [← e2, e1]
theorem pad_inj {a b : List Int} (h : a.length = b.length) (ha : a.length ≤ 12) (e : padK a = padK b) : a = b := by
 unfold padK at e
 have := congrArg (List.take a.length) e
 rw [List.take_take, List.take_take, Nat.min_eq_left ha, List.take_append_of_le_length (Nat.le_refl _), List.take_append_of_le_length (by omega), List.take_length, h, List.take_length] at this
 exact this
theorem map_inj {α β : Type} {f : α → β} : ∀ {a b : List α}, (∀ x ∈ a, ∀ y ∈ b, f x = f y → x = y) → a.map f = b.map f → a = b
 | [], [], _, _ => rfl
 | [], _ :: _, _, h => by simp at h
 | _ :: _, [], _, h => by simp at h
 | x :: a, y :: b, hi, h => by
  simp only [List.map_cons, List.cons.injEq] at h
  rw [hi x (.head _) y (.head _) h.1, map_inj (fun u hu v hv => hi u (List.mem_cons_of_mem _ hu) v (List.mem_cons_of_mem _ hv)) h.2]
end Go.Proofs.YtmefgijobonklaaGreat
namespace Go.Proofs.YtmefgijobonklaaGreat
open Go Tw Pv Mist
structure Alk (d : Dg) (F : Nat) (r : Int) (s : List Int × List Int) : Prop where
 eq : S_Cl d F r (KS d s) = (phi (S_Sr d F r s) r, KS d (S_Sr d F r s))
 kids : KidsIn d (S_Sr d F r s)
 cov : Cov (S_Sr d F r s) r
 ext : Ext s (S_Sr d F r s)
theorem cl_sr {d : Dg} (h : DgT d) (hw : DgR d) (hd : DgD d) (he : d.ends.length ≤ 2 ^ 61) : ∀ (F : Nat) (r : Int) (s : List Int × List Int), r + 1 < F → SrOk d s → KidsIn d s → RefOk d r d.nodes.length → 1 ≤ F → Alk d F r s
 | 0, r, s, _, _, _, _, h1 => by omega
 | F + 1, r, s, hF, hs, hk, hr, _ => by
  have hn : ∀ o ∈ s.1, 0 ≤ o := fun o ho => (hs.n2 o ho).1
  by_cases c : r < 0
  ·have t0 : decide (r < 0) = true := by simpa using c
   obtain ⟨q1, q2⟩ := cl_end hd hs (hr.2 c)
   have e1 : S_Cl d (F + 1) r (KS d s) = (IntKind.i64.wrap (-1 - ((KS d s).e.idxOf (endV d r) : Nat)), ⟨S_ends (KS d s).e (endV d r), (KS d s).n, (KS d s).k⟩) := by unfold S_Cl; rw [if_pos t0]
   by_cases c2 : endI r ∈ s.2
   ·have e2 : S_Sr d (F + 1) r s = s := by unfold S_Sr; rw [if_pos t0, if_neg (by simpa using c2)]
    refine ⟨?_, by rw [e2]; exact hk, by rw [e2]; exact ⟨fun _ => c2, fun h0 => by omega⟩, by rw [e2]; exact .refl s⟩
    rw [e1, e2, q1, show S_ends (KS d s).e (endV d r) = (KS d s).e from if_pos (q2.2 c2)]
    unfold phi
    rw [if_pos c]
   ·have e2 : S_Sr d (F + 1) r s = (s.1, s.2 ++ [endI r]) := by unfold S_Sr; rw [if_pos t0, if_pos (by simpa using c2)]
    have hc : Cov (s.1, s.2 ++ [endI r]) r := ⟨fun _ => by simp, fun h0 => by omega⟩
    have hx : Ext s (s.1, s.2 ++ [endI r]) := ⟨[], [endI r], by simp⟩
    refine ⟨?_, by rw [e2]; exact fun o ho k hk2 => (hk o ho k hk2).ext hx, by rw [e2]; exact hc, by rw [e2]; exact hx⟩
    rw [e1, e2, q1, ks_end hk hn, show S_ends (KS d s).e (endV d r) = (KS d s).e ++ [endV d r] from if_neg (fun e => c2 (q2.1 e))]
    unfold phi
    rw [if_pos c]
    simp [List.idxOf_append, c2, List.idxOf_eq_length c2, endV]
  ·have t0 : ¬(decide (r < 0) = true) := by simpa using c
   have hkk : (KS d s).k.map (·.1) = s.1 := by unfold KS; rw [List.map_map]; exact List.map_id _
   by_cases c2 : r ∈ s.1
   ·have e2 : S_Sr d (F + 1) r s = s := by unfold S_Sr; rw [if_neg t0, if_pos (by simpa using c2)]
    have e1 : S_Cl d (F + 1) r (KS d s) = (knV (KS d s).k r, KS d s) := by unfold S_Cl; rw [if_neg t0, if_pos (by rw [hkk]; simpa using c2)]
    refine ⟨?_, by rw [e2]; exact hk, by rw [e2]; exact ⟨fun h0 => absurd h0 c, fun _ => c2⟩, by rw [e2]; exact .refl s⟩
    rw [e1, e2, kn_phi c2]
   ·have hlt : r.toNat < d.nodes.length := by have := hr.1; omega
    have hkid : ∀ k, k < (nodeI d r).kids.length → (nodeI d r).kids.getD k 0 < r := fun k hk2 => by
     have h9 := (h.kid r.toNat hlt k hk2).1
     have h9 : (nodeI d r).kids.getD k 0 < (r.toNat : Int) := h9
     omega
    have hrk : ∀ j, j < (nodeI d r).kids.length → RefOk d ((nodeI d r).kids.getD j 0) d.nodes.length := fun j hj => ⟨by have := hkid j hj; have := hr.1; omega, (h.kid r.toNat hlt j hj).2⟩
    have hrel := foldN_rel (g1 := fun j (y : List Int × Cs) => (y.1.set j (S_Cl d F ((nodeI d r).kids.getD j 0) y.2).1, (S_Cl d F ((nodeI d r).kids.getD j 0) y.2).2)) (g2 := fun k y => S_Sr d F ((nodeI d r).kids.getD k 0) y)
     (fun j (y : List Int × Cs) (t : List Int × List Int) => y = (((nodeI d r).kids.take j).map (phi t) ++ List.replicate ((nodeI d r).kids.length - j) 0, KS d t) ∧ SrOk d t ∧ KidsIn d t ∧ Ext s t ∧ r ∉ t.1 ∧ ∀ i, i < j → Cov t ((nodeI d r).kids.getD i 0)) (nodeI d r).kids.length 0 (List.replicate (nodeI d r).kids.length 0, KS d s) s ⟨by simp, hs, hk, .refl s, c2, fun i hi => by omega⟩ (fun j y t _ hj hy => by
      obtain ⟨rfl, y1, y2, y3, y4, y5⟩ := hy
      have hj : j < (nodeI d r).kids.length := by omega
      have ih := cl_sr h hw hd he F _ t (by have := hkid j hj; omega) y1 y2 (hrk j hj) (by omega)
      have hno := sr_no F ((nodeI d r).kids.getD j 0) r t (hkid j hj) y4 (by omega) (fun i hi k hk => (h.kid i hi k hk).1) (fun h5 => ⟨h5, by have := (hrk j hj).1; omega⟩)
      have hok := sr_ok h F ((nodeI d r).kids.getD j 0) t y1 (hrk j hj)
      obtain ⟨i1, i2, i3, i4⟩ := ih
      simp only [i1]
      generalize S_Sr d F ((nodeI d r).kids.getD j 0) t = u at i2 i3 i4 hno hok ⊢
      refine ⟨?_, hok, i2, y3.trans i4, hno, fun i hi => ?_⟩
      ·simp only [Prod.mk.injEq, and_true]
       have hl : (List.map (phi t) (List.take j (nodeI d r).kids)).length = j := by rw [List.length_map, List.length_take]; omega
       rw [show (nodeI d r).kids.length - j = ((nodeI d r).kids.length - (j + 1)) + 1 by omega, List.replicate_succ, List.set_append_right _ _ (by rw [hl]; exact Nat.le_refl j)]
       rw [hl, Nat.sub_self, List.set_cons_zero, List.take_succ_eq_append_getElem hj, List.map_append, List.append_assoc]
       congr 1
       ·apply List.map_congr_left
        intro x hx
        obtain ⟨i, hi, rfl⟩ := List.mem_iff_getElem.1 hx
        have hij : i < j := by simp at hi; omega
        have := y5 i hij
        rw [getD_el (l := (nodeI d r).kids) (show i < (nodeI d r).kids.length by omega)] at this
        rw [List.getElem_take]
        exact (phi_ext this i4).symm
       ·rw [getD_el hj]; rfl
      ·by_cases hij : i < j
       ·exact (y5 i hij).ext i4
       ·rw [show i = j by omega]; exact i3)
    have e1 : S_Cl d (F + 1) r (KS d s) = (S_nodeR (foldN (fun j (y : List Int × Cs) => (y.1.set j (S_Cl d F ((nodeI d r).kids.getD j 0) y.2).1, (S_Cl d F ((nodeI d r).kids.getD j 0) y.2).2)) (nodeI d r).kids.length 0 (List.replicate (nodeI d r).kids.length 0, KS d s)).2.n (nodeI d r).var (foldN (fun j (y : List Int × Cs) => (y.1.set j (S_Cl d F ((nodeI d r).kids.getD j 0) y.2).1, (S_Cl d F ((nodeI d r).kids.getD j 0) y.2).2)) (nodeI d r).kids.length 0 (List.replicate (nodeI d r).kids.length 0, KS d s)).1, ⟨(foldN (fun j (y : List Int × Cs) => (y.1.set j (S_Cl d F ((nodeI d r).kids.getD j 0) y.2).1, (S_Cl d F ((nodeI d r).kids.getD j 0) y.2).2)) (nodeI d r).kids.length 0 (List.replicate (nodeI d r).kids.length 0, KS d s)).2.e, S_nodes (foldN (fun j (y : List Int × Cs) => (y.1.set j (S_Cl d F ((nodeI d r).kids.getD j 0) y.2).1, (S_Cl d F ((nodeI d r).kids.getD j 0) y.2).2)) (nodeI d r).kids.length 0 (List.replicate (nodeI d r).kids.length 0, KS d s)).2.n (nodeI d r).var (foldN (fun j (y : List Int × Cs) => (y.1.set j (S_Cl d F ((nodeI d r).kids.getD j 0) y.2).1, (S_Cl d F ((nodeI d r).kids.getD j 0) y.2).2)) (nodeI d r).kids.length 0 (List.replicate (nodeI d r).kids.length 0, KS d s)).1, (foldN (fun j (y : List Int × Cs) => (y.1.set j (S_Cl d F ((nodeI d r).kids.getD j 0) y.2).1, (S_Cl d F ((nodeI d r).kids.getD j 0) y.2).2)) (nodeI d r).kids.length 0 (List.replicate (nodeI d r).kids.length 0, KS d s)).2.k ++ [(r, S_nodeR (foldN (fun j (y : List Int × Cs) => (y.1.set j (S_Cl d F ((nodeI d r).kids.getD j 0) y.2).1, (S_Cl d F ((nodeI d r).kids.getD j 0) y.2).2)) (nodeI d r).kids.length 0 (List.replicate (nodeI d r).kids.length 0, KS d s)).2.n (nodeI d r).var (foldN (fun j (y : List Int × Cs) => (y.1.set j (S_Cl d F ((nodeI d r).kids.getD j 0) y.2).1, (S_Cl d F ((nodeI d r).kids.getD j 0) y.2).2)) (nodeI d r).kids.length 0 (List.replicate (nodeI d r).kids.length 0, KS d s)).1)]⟩) := by
     rw [S_Cl, if_neg t0, if_neg (by rw [hkk]; simpa using c2)]
    have e2 : S_Sr d (F + 1) r s = ((foldN (fun k y => S_Sr d F ((nodeI d r).kids.getD k 0) y) (nodeI d r).kids.length 0 s).1 ++ [r], (foldN (fun k y => S_Sr d F ((nodeI d r).kids.getD k 0) y) (nodeI d r).kids.length 0 s).2) := by
     rw [S_Sr, if_neg t0, if_neg (by simpa using c2)]
    generalize foldN (fun j (y : List Int × Cs) => (y.1.set j (S_Cl d F ((nodeI d r).kids.getD j 0) y.2).1, (S_Cl d F ((nodeI d r).kids.getD j 0) y.2).2)) (nodeI d r).kids.length 0 (List.replicate (nodeI d r).kids.length 0, KS d s) = y at hrel e1
    generalize foldN (fun k y => S_Sr d F ((nodeI d r).kids.getD k 0) y) (nodeI d r).kids.length 0 s = t at hrel e2
    obtain ⟨rfl, f2, f3, f4, f5, f6⟩ := hrel
    rw [Nat.zero_add] at f6
    simp only [Nat.zero_add, List.take_length, Nat.sub_self, List.replicate_zero, List.append_nil] at e1
    have hcov : ∀ k ∈ (nodeI d r).kids, Cov t k := fun k hk2 => by
     obtain ⟨i, hi, rfl⟩ := List.mem_iff_getElem.1 hk2
     have := f6 i hi
     rwa [getD_el hi] at this
    have hW : ∀ o, 0 ≤ o → inR o d.nodes.length → ∀ k ∈ (nodeI d o).kids, W64 k := fun o _ ho k hk2 => by
     obtain ⟨i, hi, rfl⟩ := List.mem_iff_getElem.1 hk2
     have := hw.kid o.toNat (by have := ho.1; have := ho.2; omega) i hi
     rwa [getD_el hi] at this
    have hrI : inR r d.nodes.length := ⟨by omega, hr.1⟩
    have hel : t.2.length ≤ 2 ^ 61 := Nat.le_trans f2.len.2 he
    have hflat : ((nodeI d r).kids.map (phi t)).all (fun x => x == ((nodeI d r).kids.map (phi t)).getD 0 0) = false := by
     cases e : ((nodeI d r).kids.map (phi t)).all (fun x => x == ((nodeI d r).kids.map (phi t)).getD 0 0)
     ·rfl
     ·exfalso
      have hf := hd.flat r.toNat hlt
      rw [List.all_eq_false] at hf
      obtain ⟨x, hx, hx2⟩ := hf
      have hx : x ∈ (nodeI d r).kids := hx
      have h0 : 0 < (nodeI d r).kids.length := List.length_pos_of_mem hx
      rw [List.all_eq_true] at e
      have := e (phi t x) (List.mem_map.2 ⟨x, hx, rfl⟩)
      rw [getD_el (by simpa using h0), List.getElem_map] at this
      have h00 : (nodeI d r).kids[0] ∈ (nodeI d r).kids := List.getElem_mem h0
      have := phi_inj hel (hcov x hx) (hcov _ h00) (hW r (by omega) hrI x hx) (hW r (by omega) hrI _ h00) (by simpa using this)
      apply hx2
      have h9 : (ndK d r.toNat).kids.getD 0 0 = (nodeI d r).kids[0] := getD_el h0
      rw [h9, this]; simp
    have hnot : kyOf (nodeI d r).var ((nodeI d r).kids.map (phi t)) ∉ (KS d t).n.map kyB := by
     intro hm
     unfold KS at hm
     rw [List.map_map] at hm
     obtain ⟨o, ho, e⟩ := List.mem_map.1 hm
     have ho2 := f2.n2 o ho
     have hol : o.toNat < d.nodes.length := by have := ho2.1; have := ho2.2; omega
     have ev : (ndK d o.toNat).var = (ndK d r.toNat).var := congrArg Prod.fst e
     have ep : padK ((nodeI d o).kids.map (phi t)) = padK ((nodeI d r).kids.map (phi t)) := congrArg (fun z : Ky => z.2.val) e
     have hlen : ((ndK d o.toNat).kids.length : Int) = ((ndK d r.toNat).kids.length : Int) := by rw [h.ksz _ hol, h.ksz _ hlt, ev]
     have hlen : (nodeI d o).kids.length = (nodeI d r).kids.length := by exact_mod_cast hlen
     have em := pad_inj (by simpa using hlen) (by rw [List.length_map]; exact h.klen _ hol) ep
     have ek := map_inj (fun x hx y hy e => phi_inj hel (f3 o ho x hx) (hcov y hy) (hW o ho2.1 ho2 x hx) (hW r (by omega) hrI y hy) e) em
     have := hd.nodes _ _ hol hlt ev ek
     have : o = r := by have := ho2.1; omega
     exact f5 (this ▸ ho)
    have hnl : (KS d t).n.length = t.1.length := by unfold KS; simp
    have hR : S_nodeR (KS d t).n (nodeI d r).var ((nodeI d r).kids.map (phi t)) = (t.1.length : Int) := by
     unfold S_nodeR; rw [hflat, if_neg (by simp), List.idxOf_eq_length hnot, List.length_map, hnl]
    have hS : S_nodes (KS d t).n (nodeI d r).var ((nodeI d r).kids.map (phi t)) = (KS d t).n ++ [⟨(nodeI d r).var, (nodeI d r).kids.map (phi t)⟩] := by
     unfold S_nodes; rw [hflat, if_neg (by simp), if_neg hnot]
    have hx : Ext t (t.1 ++ [r], t.2) := ⟨[r], [], by simp⟩
    have hc : Cov (t.1 ++ [r], t.2) r := ⟨fun h0 => absurd h0 c, fun _ => by simp⟩
    refine ⟨?_, ?_, by rw [e2]; exact hc, by rw [e2]; exact f4.trans hx⟩
    ·rw [e1, e2, hR, hS, ks_node f3 (fun o ho => (f2.n2 o ho).1) (by omega) f5 hcov]
     unfold phi
     rw [if_neg c]
     simp [List.idxOf_append, f5]
    ·rw [e2]
     intro o ho k hk2
     rcases List.mem_append.1 ho with ho | ho
     ·exact (f3 o ho k hk2).ext hx
     ·rw [List.mem_singleton.1 ho] at hk2
      exact (hcov k hk2).ext hx
end Go.Proofs.YtmefgijobonklaaGreat
namespace Go.Proofs.YtmefgijobonklaaGreat
open Go Tw Pv Mist
theorem flat_all (b : Br) : S_Flat b = b.kids.all fun x => x == b.kids.getD 0 0 := by
 have e : isL (srchF (cFlat b) 1 (max 1 b.kids.length)) = true ↔ ∀ k, 1 ≤ k → k < b.kids.length → b.kids.getD k 0 = b.kids.getD 0 0 := by
  unfold srchF gS
  rw [cntN_isL (r := fun k => k)]
  constructor
  ·intro h k h1 h2
   simpa [cFlat] using h k h1 (by omega)
  ·intro h k h1 h2
   simpa [cFlat] using h k h1 (by omega)
 have e2 : (b.kids.all fun x => x == b.kids.getD 0 0) = true ↔ ∀ k, 1 ≤ k → k < b.kids.length → b.kids.getD k 0 = b.kids.getD 0 0 := by
  rw [List.all_eq_true]
  constructor
  ·intro h k _ h2
   have := h _ (getD_mem h2)
   simpa using this
  ·intro h x hx
   obtain ⟨k, hk, rfl⟩ := List.mem_iff_getElem.1 hx
   by_cases h0 : k = 0
   ·subst h0; rw [getD_el hk]; simp
   ·have := h k (by omega) hk
    rw [getD_el hk] at this
    rw [this]; simp
 have : S_Flat b = true ↔ (b.kids.all fun x => x == b.kids.getD 0 0) = true := by
  rw [e2, ← e]
  unfold S_Flat
  cases isL (srchF (cFlat b) 1 (max 1 b.kids.length)) <;> simp
 rw [Bool.eq_iff_iff]; exact this
theorem d0_iff {d : Dg} : isL (srch (cD0 d) d.ends.length) = true ↔ d.ends.Nodup := by
 rw [srch_ok]
 have h1 : ∀ i, cD0 d i = false ↔ ∀ j, j < i → d.ends.getD j V0 ≠ d.ends.getD i V0 := fun i => by
  have : isL (srch (cD1 d i) i) = true ↔ ∀ j, j < i → d.ends.getD j V0 ≠ d.ends.getD i V0 := by
   rw [srch_ok]; simp [cD1]
  rw [← this]
  unfold cD0
  cases isL (srch (cD1 d i) i) <;> simp
 have hg : ∀ j, (hj : j < d.ends.length) → d.ends.getD j V0 = d.ends[j] := fun j hj => by simp [List.getD, List.getElem?_eq_getElem hj]
 constructor
 ·intro h
  rw [List.nodup_iff_pairwise_ne, List.pairwise_iff_getElem]
  intro i j hi hj hij
  have := (h1 j).1 (h j hj) i hij
  rwa [hg i hi, hg j hj] at this
 ·intro h i hi
  rw [h1]
  intro j hj
  rw [List.nodup_iff_pairwise_ne, List.pairwise_iff_getElem] at h
  have := h j i (by omega) hi hj
  rwa [hg i hi, hg j (by omega)]
theorem d2_iff {d : Dg} : isL (srch (cD2 d) d.nodes.length) = true ↔ (∀ i j, i < d.nodes.length → j < d.nodes.length → (ndK d i).var = (ndK d j).var → (ndK d i).kids = (ndK d j).kids → i = j) ∧ ∀ i, i < d.nodes.length → ((ndK d i).kids.all fun x => x == (ndK d i).kids.getD 0 0) = false := by
 rw [srch_ok]
 have h1 : ∀ i, cD2 d i = false ↔ S_Flat (ndK d i) = false ∧ ∀ j, j < i → ¬((ndK d j).var = (ndK d i).var ∧ (ndK d j).kids = (ndK d i).kids) := fun i => by
  have h3 : ∀ j, cD3 d i j = false ↔ ¬((ndK d j).var = (ndK d i).var ∧ (ndK d j).kids = (ndK d i).kids) := fun j => by
   unfold cD3
   by_cases hv : (ndK d j).var = (ndK d i).var
   ·rw [if_pos (by rw [beq_iff_eq]; exact hv), decide_eq_false_iff_not]
    exact ⟨fun a b => a b.2, fun a b => a ⟨hv, b⟩⟩
   ·rw [if_neg (by rw [beq_iff_eq]; exact hv)]
    exact ⟨fun _ a => hv a.1, fun _ => rfl⟩
  have : isL (srch (cD3 d i) i) = true ↔ ∀ j, j < i → ¬((ndK d j).var = (ndK d i).var ∧ (ndK d j).kids = (ndK d i).kids) := by
   rw [srch_ok]
   exact forall_congr' fun j => forall_congr' fun _ => h3 j
  rw [← this]
  unfold cD2
  cases S_Flat (ndK d i)
  ·cases isL (srch (cD3 d i) i) <;> simp
  ·simp
 constructor
 ·intro h
  refine ⟨fun i j hi hj hv hk => ?_, fun i hi => by rw [← flat_all]; exact ((h1 i).1 (h i hi)).1⟩
  rcases Nat.lt_trichotomy i j with hij | hij | hij
  ·exact absurd ⟨hv, hk⟩ (((h1 j).1 (h j hj)).2 i hij)
  ·exact hij
  ·exact absurd ⟨hv.symm, hk.symm⟩ (((h1 i).1 (h i hi)).2 j hij)
 ·intro h i hi
  rw [h1]
  refine ⟨by rw [flat_all]; exact h.2 i hi, fun j hj hc => ?_⟩
  have := h.1 j i (by omega) hi hc.1 hc.2
  omega
theorem dgd_iff {d : Dg} : (isL (srch (cD0 d) d.ends.length) = true ∧ isL (srch (cD2 d) d.nodes.length) = true) ↔ DgD d := by
 rw [d0_iff, d2_iff]
 exact ⟨fun h => ⟨h.1, h.2.1, h.2.2⟩, fun h => ⟨h.ends, h.nodes, h.flat⟩⟩
theorem rising_iff {l : List Int} {m : Nat} : S_rising l m = true ↔ l = iotaI m := by
 unfold S_rising
 have e : isL (srch (cRis l) l.length) = true ↔ ∀ j, j < l.length → l.getD j 0 = (j : Int) := by
  rw [srch_ok]; simp [cRis]
 constructor
 ·intro h
  split at h
  ·rename_i h1
   have hl : (l.length : Int) = (m : Int) := by simpa using h
   have hl : l.length = m := by omega
   rw [eq_getD (d := 0) (by rw [iotaI_len, hl])]
   intro j hj
   rw [e.1 h1 j hj]
   have : j < m := by omega
   simp [iotaI, List.getD, this]
  ·cases h
 ·rintro rfl
  rw [if_pos (e.2 fun j hj => by rw [iotaI_len] at hj; simp [iotaI, List.getD, hj]), iotaI_len]
  simp
theorem diag_iff {d : Dg} : S_isDiag d = true ↔ DgD d ∧ srN d d.root = iotaI d.nodes.length ∧ srE d d.root = iotaI d.ends.length := by
 rw [← dgd_iff, ← rising_iff, ← rising_iff]
 unfold S_isDiag
 cases isL (srch (cD0 d) d.ends.length)
 ·simp
 ·cases isL (srch (cD2 d) d.nodes.length)
  ·simp
  ·cases S_rising (srN d d.root) (d.nodes.length : Int) <;> simp
end Go.Proofs.YtmefgijobonklaaGreat
namespace Go.Proofs.YtmefgijobonklaaGreat
open Go Tw Pv Mist
abbrev cl0 : Cs := ⟨[], [], []⟩
def S_clean (d : Dg) : Dg := ⟨d.sizes, d.order, (S_Cl d 6002 d.root cl0).2.e, (S_Cl d 6002 d.root cl0).2.n, (S_Cl d 6002 d.root cl0).1⟩
theorem cl0_ok {d : Dg} : ClOk d cl0 := ⟨List.nodup_nil, by simp, List.nodup_nil, by simp, List.nodup_nil, by simp⟩
abbrev flatB (b : Br) : Bool := b.kids.all fun x => x == b.kids.getD 0 0
theorem cl_flat {d : Dg} : ∀ (F : Nat) (r : Int) (x : Cs), (∀ b ∈ x.n, flatB b = false) → ∀ b ∈ (S_Cl d F r x).2.n, flatB b = false
 | 0, _, _, h => h
 | F + 1, r, x, h => by
  unfold S_Cl
  split
  ·exact h
  ·split
   ·exact h
   ·have hb := (cl_fold (d := d) (fun y => ∀ b ∈ y.n, flatB b = false) (F := F) (r := r) h (fun j y _ hy => cl_flat F _ y hy)).2
    intro b hbm
    simp only [S_nodes] at hbm
    split at hbm
    ·exact hb b hbm
    ·rename_i hf
     split at hbm
     ·exact hb b hbm
     ·rcases List.mem_append.1 hbm with hbm | hbm
      ·exact hb b hbm
      ·rw [List.mem_singleton.1 hbm]
       simpa using hf
theorem clean_dgd {d : Dg} (h : DgT d) (e : S_clean d = d) : DgD d := by
 have hc := cl_ok h 6002 d.root cl0 cl0_ok h.root
 have hf := cl_flat (d := d) 6002 d.root cl0 (by simp)
 have ee : (S_Cl d 6002 d.root cl0).2.e = d.ends := congrArg Dg.ends e
 have en : (S_Cl d 6002 d.root cl0).2.n = d.nodes := congrArg Dg.nodes e
 rw [en] at hf
 have hg : ∀ j, (hj : j < d.nodes.length) → ndK d j = d.nodes[j] := fun j hj => by simp [List.getD, List.getElem?_eq_getElem hj]
 refine ⟨ee ▸ hc.e1, fun i j hi hj hv hk => ?_, fun i hi => ?_⟩
 ·have hn : (d.nodes.map kyB).Nodup := en ▸ hc.n1
  have := (List.getElem_inj (i := i) (j := j) (h₀ := by simpa using hi) (h₁ := by simpa using hj) hn).1 (by
   rw [List.getElem_map, List.getElem_map, ← hg i hi, ← hg j hj]
   show kyOf _ _ = kyOf _ _
   rw [hv, hk])
  exact this
 ·have := hf (ndK d i) (by rw [hg i hi]; exact List.getElem_mem hi)
  exact this
theorem phi_iota {d : Dg} {n m : Nat} {x : Int} (hm : m ≤ 2 ^ 61) (hx : W64 x) (hc : Cov (iotaI n, iotaI m) x) : phi (iotaI n, iotaI m) x = x := by
 have hid : ∀ (n : Nat) (y : Int), y ∈ iotaI n → (((iotaI n).idxOf y : Nat) : Int) = y := fun n y hy => by
  have hl := List.idxOf_lt_length_iff.2 hy
  have h1 := List.getElem_idxOf hl
  rw [iotaI_len] at hl
  simp only [iotaI, List.getElem_map, List.getElem_range] at h1
  exact h1
 unfold phi
 by_cases c : x < 0
 ·rw [if_pos c]
  have h1 := hid m _ (hc.1 c)
  have h2 : endI x = -1 - x := w64_neg hx c
  have h3 := iota_in (hc.1 c)
  have h4 := h3.2
  rw [show ((((iotaI n, iotaI m) : List Int × List Int).2.idxOf (endI x) : Nat) : Int) = endI x from h1, h2, wrap_nn (by omega) (by omega)]
  omega
 ·rw [if_neg c]
  exact hid n _ (hc.2 (by omega))
theorem map_iota {α : Type} (l : List α) (f : Int → α) (h : ∀ j, (hj : j < l.length) → f j = l[j]) : (iotaI l.length).map f = l := by
 apply List.ext_getElem (by simp [iotaI])
 intro j h1 h2
 simp [iotaI, h j h2]
theorem getV_el {d : Dg} {j : Nat} (hj : j < d.ends.length) : d.ends.getD ((j : Nat) : Int).toNat V0 = d.ends[j] := by simp [List.getD, List.getElem?_eq_getElem hj]
theorem to_iota {l : List Int} {m : Nat} (hl : l.length = m) (h : ∀ j, (hj : j < l.length) → l[j] = (j : Int)) : l = iotaI m := by
 apply List.ext_getElem (by rw [iotaI_len, hl])
 intro j h1 h2
 rw [h j h1]; simp [iotaI]
theorem ks_iff {d : Dg} (h : DgT d) (hw : DgR d) (hd : DgD d) (he : d.ends.length ≤ 2 ^ 61) {t : List Int × List Int} (ht : SrOk d t) (hk : KidsIn d t) (hc : Cov t d.root) : ((KS d t).e = d.ends ∧ (KS d t).n = d.nodes ∧ phi t d.root = d.root) ↔ (t.1 = iotaI d.nodes.length ∧ t.2 = iotaI d.ends.length) := by
 have hW : ∀ o, inR o d.nodes.length → ∀ k ∈ (nodeI d o).kids, W64 k := fun o ho k hk2 => by
  obtain ⟨i, hi, rfl⟩ := List.mem_iff_getElem.1 hk2
  have := hw.kid o.toNat (by have := ho.1; have := ho.2; omega) i hi
  rwa [getD_el hi] at this
 have hg : ∀ j, (hj : j < d.nodes.length) → nodeI d (j : Nat) = d.nodes[j] := fun j hj => by simp [List.getD, List.getElem?_eq_getElem hj]
 constructor
 ·rintro ⟨h1, h2, h3⟩
  have l1 : t.2.length = d.ends.length := by have := congrArg List.length h1; simpa [KS] using this
  have l2 : t.1.length = d.nodes.length := by have := congrArg List.length h2; simpa [KS] using this
  have e2 : t.2 = iotaI d.ends.length := to_iota l1 fun j hj => by
   have hj2 : j < d.ends.length := by omega
   have : (KS d t).e[j]'(by rw [h1]; exact hj2) = d.ends[j] := by simp only [h1]
   unfold KS at this
   simp only [List.getElem_map] at this
   rw [← getV_el hj2] at this
   exact getV_inj hd.ends (ht.e2 _ (List.getElem_mem hj)) (inR_nat hj2) this
  have key : ∀ (N : Nat) (o : Int), o ∈ t.1 → o.toNat < N → phi t o = o := by
   intro N
   induction N with
   | zero => intro o _ hN; omega
   | succ N ih =>
    intro o ho hN
    have ho2 := ht.n2 o ho
    have hlt := List.idxOf_lt_length_iff.2 ho
    have hj2 : t.1.idxOf o < d.nodes.length := by omega
    have hel := List.getElem_idxOf hlt
    have : (KS d t).n[t.1.idxOf o]'(by rw [h2]; exact hj2) = d.nodes[t.1.idxOf o] := by simp only [h2]
    unfold KS at this
    simp only [List.getElem_map, hel] at this
    have hkm : (nodeI d o).kids.map (phi t) = (nodeI d o).kids := by
     conv => rhs; rw [← List.map_id (nodeI d o).kids]
     apply List.map_congr_left
     intro k hk2
     show phi t k = k
     have hcv := hk o ho k hk2
     by_cases c : k < 0
     ·have := phi_iota (d := d) (n := 0) (m := d.ends.length) he (hW o ho2 k hk2) ⟨fun c => by have := hcv.1 c; rwa [e2] at this, fun h0 => by omega⟩
      unfold phi at this ⊢
      rw [if_pos c] at this ⊢
      rw [e2]; exact this
     ·obtain ⟨i, hi, rfl⟩ := List.mem_iff_getElem.1 hk2
      have hlt3 : o.toNat < d.nodes.length := by have := ho2.1; have := ho2.2; omega
      have h9 := (h.kid o.toNat hlt3 i hi).1
      have h9 : (nodeI d o).kids.getD i 0 < (o.toNat : Int) := h9
      rw [getD_el hi] at h9
      exact ih _ (hcv.2 (by omega)) (by omega)
    rw [hkm] at this
    have hv : (ndK d (t.1.idxOf o)).var = (ndK d o.toNat).var := by rw [show ndK d (t.1.idxOf o) = d.nodes[t.1.idxOf o] from hg _ hj2, ← this]
    have hkk : (ndK d (t.1.idxOf o)).kids = (ndK d o.toNat).kids := by rw [show ndK d (t.1.idxOf o) = d.nodes[t.1.idxOf o] from hg _ hj2, ← this]
    have h8 := hd.nodes _ _ hj2 (by have := ho2.1; have := ho2.2; omega) hv hkk
    unfold phi
    rw [if_neg (by have := ho2.1; omega), h8]
    have := ho2.1
    omega
  refine ⟨to_iota l2 fun j hj => ?_, e2⟩
  have hm := List.getElem_mem hj
  have := key ((t.1[j]).toNat + 1) _ hm (by omega)
  unfold phi at this
  rw [if_neg (by have := (ht.n2 _ hm).1; omega)] at this
  rw [← this]
  have : t.1.idxOf t.1[j] = j := by
   have h5 := List.idxOf_lt_length_iff.2 hm
   exact (List.getElem_inj (i := t.1.idxOf t.1[j]) (j := j) (h₀ := h5) (h₁ := hj) ht.n1).1 (List.getElem_idxOf h5)
  rw [this]
 ·rintro ⟨h1, h2⟩
  obtain ⟨t1, t2⟩ := t
  simp only at h1 h2
  subst h1 h2
  refine ⟨?_, ?_, phi_iota (d := d) he hw.root hc⟩
  ·exact map_iota d.ends (fun e => d.ends.getD e.toNat V0) fun j hj => getV_el hj
  ·refine map_iota d.nodes _ fun j hj => ?_
   have hkm : (nodeI d (j : Nat)).kids.map (phi (iotaI d.nodes.length, iotaI d.ends.length)) = (nodeI d (j : Nat)).kids := by
    conv => rhs; rw [← List.map_id (nodeI d (j : Nat)).kids]
    apply List.map_congr_left
    intro k hk2
    exact phi_iota (d := d) he (hW _ (inR_nat hj) k hk2) (hk _ (by show (j : Int) ∈ iotaI _; unfold iotaI; rw [List.mem_map]; exact ⟨j, List.mem_range.2 hj, rfl⟩) k hk2)
   rw [hkm, hg j hj]
theorem clean_iff {d : Dg} (h : DgT d) (hw : DgR d) (he : d.ends.length ≤ 2 ^ 61) (hn : d.nodes.length ≤ 6000) : S_clean d = d ↔ S_isDiag d = true := by
 have main : DgD d → (S_clean d = d ↔ (srN d d.root = iotaI d.nodes.length ∧ srE d d.root = iotaI d.ends.length)) := fun hd => by
  have hr : d.root + 1 < 6002 := by have := h.root.1; omega
  have ha := cl_sr h hw hd he 6002 d.root ([], []) hr sr0 (fun o ho => by cases ho) h.root (by omega)
  have hs := sr_ok h 6002 d.root ([], []) sr0 h.root
  have hi := ks_iff h hw hd he hs ha.kids ha.cov
  have e0 : KS d ([], []) = cl0 := rfl
  have e1 := ha.eq
  rw [e0] at e1
  unfold srN srE
  rw [← hi]
  unfold S_clean
  rw [e1]
  obtain ⟨d1, d2, d3, d4, d5⟩ := d
  simp
 rw [diag_iff]
 constructor
 ·intro e
  have hd := clean_dgd h e
  exact ⟨hd, (main hd).1 e⟩
 ·rintro ⟨hd, h2⟩
  exact (main hd).2 h2
end Go.Proofs.YtmefgijobonklaaGreat
namespace Go.Proofs.YtmefgijobonklaaGreat
open Go Tw Pv Mist
noncomputable abbrev HCw (l : Lo) (x : Cs) : List (PB gam) := [.list false false 3 l.s, .list false false 3 l.o, .map (kV.es (emOf x.e)), .map (kK.es (nmOf x.n)), mkC l.s l.o 12 13 0, .gone, .gone, .cells l.ps, .cells [.ptr 4 0 9], .map (kI.es (knOf x.k)), .cells [.map 9], .cells [.fn 224 [] pC], lsV x.e, lsB x.n]
structure ClP (l : Lo) : Prop where
 s : l.s = l.d.sizes
 o : l.o = l.d.order
 t : DgT l.d
 e : l.d.ends.length + 1 ≤ most
 n : l.d.nodes.length ≤ 6000
 k : ∀ i, i < l.d.nodes.length → 1 ≤ (ndK l.d i).kids.length
 sl : l.d.sizes.length ≤ most
 ol : l.d.order.length ≤ most
noncomputable def oc178 : Orc gam := orcF 178 (a1 loA) dA (fun l => S_clean l.d) (fun l => [ClP l]) oc177
theorem gc178 : Gd oc178 := gc177.deep2 6010 gc176 fun n hn hO hOl l hp => by
 obtain ⟨n, rfl⟩ : ∃ k, n = k + 6009 := ⟨n - 6009, by omega⟩
 have h : ClP l := hp _ (.head _)
 obtain ⟨s, o, d⟩ := l
 obtain ⟨e1, e2, ht, he, hn6, hk, hsl, hol⟩ := h
 obtain rfl : s = d.sizes := e1
 obtain rfl : o = d.order := e2
 have hO' : ∀ m, n + 1 ≤ m → Ok m _ := fun m hm => hOl m (by omega)
 have he : d.ends.length + 1 ≤ most := he
 have hn6 : d.nodes.length ≤ 6000 := hn6
 have hr := ht.root.1
 have hr : d.root < (d.nodes.length : Int) := hr
 have hcl := sCl (N := n + 1) hO' ht he (by unfold most; omega) hk 6002 d.root cl0 (by omega) cl0_ok ht.root (by omega)
 have hnew := sNew (n := n + 6008) (hO' _ (by omega)) d.sizes d.order hsl hol
 show Con _ _ _ _ _ (dA.put (S_clean d)) _
 unfold S_clean
 generalize S_Cl d 6002 d.root cl0 = z at hcl ⊢
 obtain ⟨v, e, nd, k⟩ := z
 exact fn_is hX (hO (n + 6009) (by omega)) (by kernel_rfl) (.fr [] hnew (.frR (H2 := HCw (loD d) ⟨e, nd, k⟩) [1, 2, 3, 4, 5, 6, 7, 0, 8, 9, 10, 11] [7, 8, 10, 11] hcl .rr))
end Go.Proofs.YtmefgijobonklaaGreat
namespace Go.Proofs.YtmefgijobonklaaGreat
open Go Tw Pv Mist
theorem cl_kids {d : Dg} (h : DgT d) : ∀ (F : Nat) (r : Int) (x : Cs), (∀ b ∈ x.n, b.kids.length ≤ 12) → RefOk d r d.nodes.length → ∀ b ∈ (S_Cl d F r x).2.n, b.kids.length ≤ 12
 | 0, _, _, hx, _ => hx
 | F + 1, r, x, hx, hr => by
  unfold S_Cl
  by_cases c : r < 0
  ·rw [if_pos (by simpa using c)]; exact hx
  ·rw [if_neg (by simpa using c)]
   split
   ·exact hx
   ·have hlt : r.toNat < d.nodes.length := by have := hr.1; omega
    have hb := cl_fold (d := d) (fun y => ∀ b ∈ y.n, b.kids.length ≤ 12) (F := F) (r := r) hx (fun j y hj hy => cl_kids h F _ y hy (by
     have h9 := h.kid r.toNat hlt j hj
     have h8 := h9.1
     have h8 : (nodeI d r).kids.getD j 0 < (r.toNat : Int) := h8
     exact ⟨by have := hr.1; omega, h9.2⟩))
    intro b hbm
    simp only [S_nodes] at hbm
    split at hbm
    ·exact hb.2 b hbm
    ·split at hbm
     ·exact hb.2 b hbm
     ·rcases List.mem_append.1 hbm with hbm | hbm
      ·exact hb.2 b hbm
      ·rw [List.mem_singleton.1 hbm]
       show List.length _ ≤ 12
       rw [hb.1]
       exact h.klen r.toNat hlt
theorem oLoose_clp {d : Dg} (h : DgR d) (he : d.ends.length + 1 ≤ most) (hs : d.sizes.length ≤ most) (ho : d.order.length ≤ most) (h0 : (S_oLoose d).2 = 0) : (S_oLoose d).1 = loD d ∧ ClP (loD d) := by
 rw [oLoose_eq h (by omega)] at h0 ⊢
 have h0 : S_checkLoose d = 0 := h0
 have hc := checkLoose_ok ho (show d.ends.length ≤ most by omega) (by simp [h0])
 have hf : (S_frame d.sizes d.order != 0) = false := by
  cases e : S_frame d.sizes d.order != 0
  ·rfl
  ·unfold S_checkLoose at h0; rw [if_pos e] at h0; simp [h0] at e
 refine ⟨by rw [if_neg (by rw [hf]; simp)], rfl, rfl, hc.1, he, hc.2, fun i hi => ?_, hs, ho⟩
 have h1 := hc.1.ksz i hi
 have h2 := hc.1.var i hi
 have h3 := (frame_fine hf).sz _ (getD_mem (s := d.sizes) (k := (ndK d i).var.toNat) (by have := h2.2; have := h2.1; omega))
 have h1 : ((ndK d i).kids.length : Int) = d.sizes.getD (ndK d i).var.toNat 0 := h1
 show 1 ≤ (ndK d i).kids.length
 omega
def S_nOpen (d : Dg) : Lo × Int := if (S_oLoose d).2 == 0 then (if (!(S_nEq (S_clean (S_oLoose d).1.d) d)) = true then ((S_oLoose d).1, 4) else S_oLoose d) else S_oLoose d
theorem clean_lens {d : Dg} (h : DgT d) (hn : d.nodes.length ≤ 6000) : (S_clean d).ends.length ≤ d.ends.length ∧ (S_clean d).nodes.length ≤ 6000 ∧ ∀ b ∈ (S_clean d).nodes, b.kids.length ≤ 12 := by
 have hc := cl_ok h 6002 d.root cl0 cl0_ok h.root
 refine ⟨hc.elen, ?_, cl_kids h 6002 d.root cl0 (by simp) h.root⟩
 have h1 := hc.klen
 have h2 := hc.n2
 show (S_Cl d 6002 d.root cl0).2.n.length ≤ 6000
 omega
theorem nOpen_pre {d : Dg} (h : DgR d) (hs : d.sizes.length ≤ most) (ho : d.order.length ≤ 2 ^ 20) (he : d.ends.length + 1 ≤ most) (h0 : ((S_oLoose d).2 == 0) = true) : ClP (S_oLoose d).1 ∧ (S_clean (S_oLoose d).1.d).sizes.length ≤ most ∧ (S_clean (S_oLoose d).1.d).order.length ≤ most ∧ (S_clean (S_oLoose d).1.d).ends.length ≤ most ∧ (S_clean (S_oLoose d).1.d).nodes.length ≤ most ∧ ∀ k, k < (S_clean (S_oLoose d).1.d).nodes.length → ((S_clean (S_oLoose d).1.d).nodes.getD k Br0).kids.length ≤ most := by
 have ho : d.order.length ≤ most := by unfold most; omega
 obtain ⟨h1, h2⟩ := oLoose_clp h he hs ho (by simpa using h0)
 rw [h1]
 obtain ⟨a, b, c⟩ := clean_lens h2.t h2.n
 refine ⟨h2, hs, ho, ?_, ?_, fun k hk => ?_⟩
 ·have a : (S_clean d).ends.length ≤ d.ends.length := a
  show (S_clean d).ends.length ≤ most
  omega
 ·have b : (S_clean d).nodes.length ≤ 6000 := b
  show (S_clean d).nodes.length ≤ most
  unfold most; omega
 ·exact m12 (c _ (getB_mem hk))
noncomputable def oc130 : Orc gam := orcF 130 (a1 dA) (tupA (a2 loA iA)) (fun p => S_nOpen p) (fun p => [DgR p, p.sizes.length ≤ most, p.order.length ≤ 2 ^ 20, p.ends.length + 1 ≤ most]) oc178
theorem gc130 : Gd oc130 := gc178.add fun n hO p hp => fn_is hX hO (by kernel_rfl) (.o (hp _ (.tail _ (.head _))) (.o (hp _ (.tail _ (.tail _ (.head _)))) (.o (by have h9 : p.ends.length + 1 ≤ most := hp _ (.tail _ (.tail _ (.tail _ (.head _)))); show p.ends.length ≤ most; omega) (.sh (fun h => have q := nOpen_pre (hp _ (.head _)) (hp _ (.tail _ (.head _))) (hp _ (.tail _ (.tail _ (.head _)))) (hp _ (.tail _ (.tail _ (.tail _ (.head _))))) h; .o q.1 (.o q.2.1 (.o q.2.2.1 (.o q.2.2.2.1 (.o q.2.2.2.2.1 (.o q.2.2.2.2.2 (.ss .rr .rr))))))) fun _ => .rr))))
theorem nOpen_eq {d : Dg} (h : DgR d) (hs : d.sizes.length ≤ most) (ho : d.order.length ≤ most) (he : d.ends.length + 1 ≤ most) : S_nOpen d = (if (S_frame d.sizes d.order != 0) = true then lo0 else loD d, S_rDg d) := by
 have h9 := oLoose_eq h (show d.ends.length ≤ most by omega)
 unfold S_nOpen S_rDg
 by_cases h0 : (S_oLoose d).2 = 0
 ·obtain ⟨h1, h2⟩ := oLoose_clp h he hs ho h0
  have h3 := clean_iff h2.t h (show d.ends.length ≤ 2 ^ 61 by unfold most at he; omega) h2.n
  have h4 : S_checkLoose d = 0 := by rw [h9] at h0; exact h0
  rw [if_pos (show ((S_oLoose d).2 == 0) = true by simpa using h0), h1, h4, if_neg (show ¬ (((0 : Int) != 0) = true) by simp)]
  rw [h9] at h1
  show (if (!(S_nEq (S_clean d) d)) = true then (loD d, 4) else S_oLoose d) = _
  have h1 : (if (S_frame d.sizes d.order != 0) = true then lo0 else loD d) = loD d := h1
  rw [h9, h1]
  by_cases h5 : S_clean d = d
  ·rw [if_neg (show ¬ ((!(S_nEq (S_clean d) d)) = true) by rw [nEq_iff.2 h5]; simp), if_neg (show ¬ ((!(S_isDiag d)) = true) by rw [h3.1 h5]; simp), h4]
  ·have h6 : S_nEq (S_clean d) d = false := by
    cases e : S_nEq (S_clean d) d
    ·rfl
    ·exact absurd (nEq_iff.1 e) h5
   have h7 : S_isDiag d = false := by
    cases e : S_isDiag d
    ·rfl
    ·exact absurd (h3.2 e) h5
   rw [if_pos (show (!(S_nEq (S_clean d) d)) = true by rw [h6]; rfl), if_pos (show (!(S_isDiag d)) = true by rw [h7]; rfl)]
 ·have h4 : ¬ S_checkLoose d = 0 := by rw [h9] at h0; exact h0
  rw [if_neg (show ¬ (((S_oLoose d).2 == 0) = true) by simpa using h0), h9, if_pos (show (S_checkLoose d != 0) = true by simpa using h4)]
end Go.Proofs.YtmefgijobonklaaGreat
namespace Mist
def boxA : List Int → List Int → List Int → List (List Int)
 | f :: fs, t :: ts, x :: p => (boxA fs ts p).map (x :: ·) ++ (List.range (t - x).toNat).flatMap fun (k : Nat) => (boxA fs ts fs).map ((x + 1 + (k : Int)) :: ·)
 | _, _, _ => [[]]
def nextB : List Int → List Int → List Int → Option (List Int)
 | f :: fs, t :: ts, x :: p => match nextB fs ts p with
  | some q => some (x :: q)
  | none => if x = t then none else some ((x + 1) :: fs)
 | _, _, _ => none
def LeB : List Int → List Int → Prop
 | t :: ts, x :: p => x ≤ t ∧ LeB ts p
 | [], [] => True
 | _, _ => False
theorem LeB.len : ∀ {t p : List Int}, LeB t p → p.length = t.length
 | [], [], _ => rfl
 | t :: ts, x :: p, h => by simp [LeB.len h.2]
 | [], _ :: _, h => h.elim
 | _ :: _, [], h => h.elim
theorem LeB.next : ∀ {f t p q : List Int}, LeB t p → LeB t f → nextB f t p = some q → LeB t q
 | f :: fs, t :: ts, x :: p, q, h, hf, e => by
  simp only [nextB] at e
  split at e
  ·rename_i r h1; cases e; exact ⟨h.1, h.2.next hf.2 h1⟩
  ·split at e
   ·cases e
   ·cases e; exact ⟨by have := h.1; omega, hf.2⟩
 | [], _, _, _, _, _, e => by simp [nextB] at e
 | _ :: _, [], _, _, _, _, e => by simp [nextB] at e
 | _ :: _, _ :: _, [], _, _, _, e => by simp [nextB] at e
theorem boxA_next : ∀ {f t p : List Int}, LeB t p → LeB t f → boxA f t p = p :: (match nextB f t p with | some q => boxA f t q | none => [])
 | [], [], [], _, _ => rfl
 | f :: fs, t :: ts, x :: p, h, hf => by
  have ih := boxA_next h.2 hf.2
  simp only [boxA, nextB]
  rw [ih]
  cases hn : nextB fs ts p with
  | some q => rfl
  | none =>
   by_cases e : x = t
   ·subst e; simp
   ·have hx : x < t := by have := h.1; omega
    obtain ⟨m, hm⟩ : ∃ m, (t - x).toNat = m + 1 := ⟨(t - x).toNat - 1, by omega⟩
    rw [if_neg e, hm, List.range_succ_eq_map]
    simp only [List.map_cons, List.map_nil, List.cons_append, List.nil_append, List.flatMap_cons, List.flatMap_map]
    have e1 : ∀ k : Nat, x + 1 + ((Nat.succ k : Nat) : Int) = x + 1 + 1 + (k : Int) := fun k => by rw [Nat.succ_eq_add_one]; push_cast; omega
    show _ = (x :: p) :: boxA (f :: fs) (t :: ts) ((x + 1) :: fs)
    simp only [boxA]
    rw [show (t - (x + 1)).toNat = m by omega]
    simp only [e1]
    simp
 | [], _ :: _, _, _, hf => hf.elim
 | _ :: _, [], _, _, hf => hf.elim
 | [], [], _ :: _, h, _ => h.elim
 | _ :: _, _ :: _, [], h, _ => h.elim
theorem nextB_snoc : ∀ {f t p : List Int} (a b x : Int), t.length = f.length → p.length = f.length → nextB (f ++ [a]) (t ++ [b]) (p ++ [x]) = if x = b then (nextB f t p).map (· ++ [a]) else some (p ++ [x + 1])
 | [], [], [], a, b, x, _, _ => by simp only [List.nil_append, nextB]; split <;> rfl
 | f :: fs, t :: ts, y :: p, a, b, x, h1, h2 => by
  have ih := nextB_snoc (f := fs) (t := ts) (p := p) a b x (by simpa using h1) (by simpa using h2)
  simp only [List.cons_append, nextB, ih]
  by_cases e : x = b
  ·rw [if_pos e, if_pos e]
   cases hn : nextB fs ts p with
   | some q => rfl
   | none => simp only [Option.map_none]; split <;> rfl
  ·rw [if_neg e, if_neg e]
 | [], _ :: _, _, _, _, _, h, _ => by simp at h
 | [], [], _ :: _, _, _, _, _, h => by simp at h
 | _ :: _, [], _, _, _, _, h, _ => by simp at h
 | _ :: _, _ :: _, [], _, _, _, _, h => by simp at h
def car (f t : List Int) : Nat → List Int → Nat × List Int
 | 0, p => (0, p)
 | k + 1, p => if p.getD k 0 = t.getD k 0 then car f t k (p.set k (f.getD k 0)) else (k + 1, p)
def nextC (f t p : List Int) : Option (List Int) := if (car f t p.length p).1 = 0 then none else some ((car f t p.length p).2.set ((car f t p.length p).1 - 1) ((car f t p.length p).2.getD ((car f t p.length p).1 - 1) 0 + 1))
theorem car_next : ∀ (k : Nat) {f t p1 p2 : List Int}, t.length = f.length → p1.length = k → k ≤ f.length → (if (car f t k (p1 ++ p2)).1 = 0 then none else some ((car f t k (p1 ++ p2)).2.set ((car f t k (p1 ++ p2)).1 - 1) ((car f t k (p1 ++ p2)).2.getD ((car f t k (p1 ++ p2)).1 - 1) 0 + 1))) = (nextB (f.take k) (t.take k) p1).map (· ++ p2)
 | 0, f, t, p1, p2, h1, h2, h3 => by
  rw [List.eq_nil_of_length_eq_zero h2]
  simp [car, nextB]
 | k + 1, f, t, p1, p2, h1, h2, h3 => by
  obtain ⟨q, x, rfl⟩ : ∃ q x, p1 = q ++ [x] := by
   rcases List.eq_nil_or_concat p1 with rfl | ⟨q, x, e⟩
   ·cases h2
   ·exact ⟨q, x, by simpa using e⟩
  have hq : q.length = k := by simpa using h2
  have hf : f.take (k + 1) = f.take k ++ [f.getD k 0] := by rw [List.take_add_one, List.getElem?_eq_getElem (by omega)]; simp [List.getD, List.getElem?_eq_getElem (show k < f.length by omega)]
  have ht : t.take (k + 1) = t.take k ++ [t.getD k 0] := by rw [List.take_add_one, List.getElem?_eq_getElem (by omega)]; simp [List.getD, List.getElem?_eq_getElem (show k < t.length by omega)]
  have hg : (q ++ [x] ++ p2).getD k 0 = x := by simp [List.getD, ← hq]
  have hs : ∀ y, (q ++ [x] ++ p2).set k y = q ++ (y :: p2) := fun y => by rw [List.append_assoc, ← hq, List.set_append_right _ _ (Nat.le_refl _)]; simp
  rw [hf, ht, nextB_snoc _ _ _ (by simp; omega) (by simp; omega)]
  simp only [car, hg]
  by_cases e : x = t.getD k 0
  ·rw [if_pos e, if_pos e, hs, car_next k h1 hq (by omega), Option.map_map]
   congr 1
   funext r
   simp
  ·rw [if_neg e, if_neg e, if_neg (by omega)]
   simp only [Nat.add_sub_cancel, hg, hs, Option.map_some]
   simp
theorem nextC_eq {f t p : List Int} (h1 : t.length = f.length) (h2 : p.length = f.length) : nextC f t p = nextB f t p := by
 have := car_next f.length (f := f) (t := t) (p1 := p) (p2 := []) h1 h2 (Nat.le_refl _)
 unfold nextC
 rw [h2]
 rw [List.append_nil] at this
 rw [this, List.take_length, List.take_of_length_le (by omega)]
 cases hn : nextB f t p with
 | none => rfl
 | some q => simp
theorem places_all : ∀ {s : List Int}, SzOk s → boxA (s.map fun _ => 0) (s.map (· - 1)) (s.map fun _ => 0) = (List.range (cnt s)).map fun (k : Nat) => nthI s k
 | [], _ => rfl
 | a :: s, h => by
  have ih := places_all h.tail
  have ha := h a (List.mem_cons_self ..)
  have hp := prodI_pos h.tail
  have hc : ((cnt s : Nat) : Int) = prodI s := by show ((prodI s).toNat : Int) = _; omega
  obtain ⟨m, hm⟩ : ∃ m : Nat, a = m + 1 := ⟨(a - 1).toNat, by omega⟩
  subst hm
  have hcnt : cnt ((m + 1 : Int) :: s) = (m + 1) * cnt s := by
   show ((m + 1 : Int) * prodI s).toNat = _
   rw [← hc]
   have : ((m : Int) + 1) * ((cnt s : Nat) : Int) = (((m + 1) * cnt s : Nat) : Int) := by push_cast; rfl
   rw [this, Int.toNat_natCast]
  have hrow : ∀ k : Nat, k < m + 1 → (List.range (cnt s)).map (fun (j : Nat) => nthI ((m + 1 : Int) :: s) ((k * cnt s + j : Nat) : Int)) = ((List.range (cnt s)).map fun (j : Nat) => nthI s j).map ((k : Int) :: ·) := fun k hk => by
   rw [List.map_map]
   apply List.map_congr_left
   intro j hj
   have hj := List.mem_range.1 hj
   simp only [nthI, Function.comp]
   have e1 : (((k * cnt s + j : Nat) : Int)) = (k : Int) * prodI s + j := by rw [← hc]; push_cast; rfl
   have e2 : ((k : Int) * prodI s + j) / prodI s = k := by
    rw [Int.add_comm, Int.add_mul_ediv_right _ _ (by omega), Int.ediv_eq_zero_of_lt (by omega) (by omega)]; omega
   have e3 : ((k : Int) * prodI s + j) % prodI s = j := by
    rw [Int.add_comm, Int.add_mul_emod_self_right, Int.emod_eq_of_lt (by omega) (by omega)]
   rw [e1, e2, Int.emod_eq_of_lt (by omega) (by omega), ← nthI_mod _ h.tail, e3]
  have hall : ∀ n : Nat, n ≤ m + 1 → (List.range (n * cnt s)).map (fun (j : Nat) => nthI ((m + 1 : Int) :: s) j) = (List.range n).flatMap fun (k : Nat) => ((List.range (cnt s)).map fun (j : Nat) => nthI s j).map ((k : Int) :: ·) := by
   intro n
   induction n with
   | zero => intro _; simp
   | succ n ih2 =>
    intro hn
    rw [Nat.succ_mul, List.range_add, List.map_append, ih2 (by omega), List.range_succ, List.flatMap_append]
    rw [List.flatMap_cons, List.flatMap_nil, List.append_nil, ← hrow n (by omega), List.map_map]
    rfl
  rw [hcnt, hall (m + 1) (Nat.le_refl _), List.range_succ_eq_map]
  simp only [List.map_cons, boxA, ih, List.flatMap_cons, List.flatMap_map]
  rw [show ((m : Int) + 1 - 1 - 0).toNat = m by omega]
  congr 1
  congr 1
  funext k
  congr 1
  funext r
  congr 1
  omega
end Mist
namespace Pv
open Go Tw
def rangeIn : Code → Option (Code × Code)
 | .seq a b => match rangeIn a with
  | some r => some r
  | none => rangeIn b
 | .cond _ a b => match rangeIn a with
  | some r => some r
  | none => rangeIn b
 | .block _ b => rangeIn b
 | .loop b => rangeIn b
 | .rangeFunc _ _ a b => some (a, b)
 | _ => none
def rfAssign (P : Program) (f : Nat) : Code :=
 match fnT P f with
 | some t => match rangeIn t.body with
  | some (a, _) => a
  | none => .skip
 | none => .skip
def rfBody (P : Program) (f : Nat) : Code :=
 match fnT P f with
 | some t => match rangeIn t.body with
  | some (_, b) => b
  | none => .skip
 | none => .skip
end Pv
namespace Go.Proofs.YtmefgijobonklaaGreat
open Go Tw Pv Mist
noncomputable def oc181 : Orc gam := orcF 181 (a1 iA) (tupA nilA) (fun p => ()) np oc130
theorem gc181 : Gd oc181 := gc130.add fun n hO p hp => fn_is hX hO (by kernel_rfl) .rr
abbrev wWay (l : Lo) (p : List Int) (r : Int) (x : List (Nat × PE gam)) : PSt gam := ⟨[(1, xL 3 p), (2, .val (.fn 181 [] [])), (3, .loc 0 0), (7, xi r)] ++ x, [l.ps], []⟩
theorem lWay {n : Nat} (hO : Ok n oc181) {l : Lo} (h : DgT l.d) (hm : l.d.nodes.length ≤ 6000) {p : List Int} (hp : isPl l.d.sizes p = true) : Lp n 180 0 (wWay l p l.d.root []) (.exit 0) (wWay l p (atR l.d p) [(12, xl false)]) := by
 have h0 : l.d.root < (l.d.nodes.length : Int) := h.root.1
 have ha := atF_neg h hp 6001 l.d.root (by omega) h.root
 have hit := at_it 6001 l.d.root ha.1
 refine whileL (st := fun r => wWay l p r []) (g := gAt l.d p) (out := fun r => (.exit 0, wWay l p r [(12, xl false)])) (fun r => RefOk l.d r l.d.nodes.length) hit (by kernel_rfl) (by decide) h.root ?_ ?_
 ·intro r r1 hr e
  unfold gAt at e
  split at e
  ·rename_i c
   have c : 0 ≤ r := by simpa using c
   cases e
   have := (kid_at h hp (r := r) ⟨c, hr.1⟩).2.2
   have a3 : r < (l.d.nodes.length : Int) := hr.1
   obtain ⟨a1, a2⟩ := this
   exact ⟨by omega, a2⟩
  ·cases e
 ·intro r m r' hr ih
  by_cases c : 0 ≤ r
  ·have hk := kid_at h hp (r := r) ⟨c, hr.1⟩
   have t1 : decide (r ≥ 0) = true := by simpa using c
   have e : gAt l.d p r = .inl ((nodeI l.d r).kids.getD (p.getD (nodeI l.d r).var.toNat 0).toNat 0) := by unfold gAt; rw [if_pos t1]
   have g := ih _ e
   rw [e]
   have hr2 : inR r l.d.nodes.length := ⟨c, hr.1⟩
   exact round hX hO (by kernel_rfl) (.b t1 (.o hr2 (.o hr2 (.o hk.1 (.o hk.2.1 (.go g))))))
  ·have t1 : decide (r ≥ 0) = false := by simpa using c
   have e : gAt l.d p r = .inr r := by unfold gAt; rw [if_neg (by rw [t1]; simp)]
   rw [e]
   dsimp only [contW]
   exact round hX hO (by kernel_rfl) (.b t1 .ex)
noncomputable def oc180 : Orc gam := orcF 180 (a3 loA isA (fnA 181)) iA (fun p => endI (atR p.1.d p.2.1)) (fun p => [DgT p.1.d, p.1.d.nodes.length ≤ 6000, isPl p.1.d.sizes p.2.1 = true]) oc181
theorem gc180 : Gd oc180 := gc181.add fun n hO p hp => fn_is hX hO (by kernel_rfl) (.w (lWay hO (hp _ (.head _)) (hp _ (.tail _ (.head _))) (hp _ (.tail _ (.tail _ (.head _))))) .rr)
abbrev fPl (d : Dg) : PV gam := .fn 179 [.agg [.lst 3 d.sizes false, .lst 3 d.order false]] []
abbrev envL (d : Dg) : List (Nat × PE gam) := [(1, .val (.ptr 0 0 7)), (2, .val (.ptr 1 0 1)), (7, .val (fPl d))]
noncomputable abbrev LRL (d : Dg) (rd : Bool) (pend : Option Code) : PB gam := .loop rd 131 (ntP Tryz.prog 131) (envL d) [8, 9] (rfAssign Tryz.prog 131) (rfBody Tryz.prog 131) pend
noncomputable abbrev ML (d : Dg) (rd : Bool) (acc : List V) : List (PB gam) := [.cells (loD d).ps, .cells [.own 2], lsV acc, .mark, LRL d rd none]
noncomputable abbrev ML' (d : Dg) (p : List Int) (acc : List V) : List (PB gam) := [.cells (loD d).ps, .cells [.own 6], .gone, .mark, LRL d true none, oI true true p, lsV acc]
theorem yL {n : Nat} (hO : Ok n oc180) {d : Dg} (h : DgT d) (hm : d.nodes.length ≤ 6000) {p : List Int} (hp : isPl d.sizes p = true) (k : Int) (acc : List V) (hl : acc.length + 1 ≤ most) : Sim X0 Tryz.prog (ApN (n + 1)) (.yld 4) [.int .i64 k, .own 5] (ML d true acc ++ [oI true true p]) (.bool true) (ML' d p (acc ++ [S_at d p])) := by
 have q1 : ExecS X0 Tryz.prog T (ApN n) LL 131 true (ntP Tryz.prog 131) 6 (rfAssign Tryz.prog 131) ⟨pputAll (envL d) [8, 9] [.int .i64 k, .own 5], [], ML d true acc ++ [oI true true p]⟩ .norm ⟨[(1, .val (.ptr 0 0 7)), (2, .val (.ptr 1 0 1)), (4, .val (.own 5))], [], ML d true acc ++ [oI true true p]⟩ := exec_fp hX hO (by kernel_rfl) .xx
 have he : inR (endI (atR d p)) d.ends.length := atR_end h hm hp
 have hL : acc.length + ([S_at d p] : List V).length ≤ most := hl
 have q2 : ExecS X0 Tryz.prog T (ApN n) LL 131 true (ntP Tryz.prog 131) 6 (rfBody Tryz.prog 131) ⟨[(1, .val (.ptr 0 0 7)), (2, .val (.ptr 1 0 1)), (4, .val (.own 5))], [], ML d false acc ++ [oI true true p]⟩ .norm ⟨[], [], [.cells (loD d).ps, .cells [.own 7], .gone, .mark, LRL d false none, oI true true p, .list true true 58 [S_at d p], lsV (acc ++ [S_at d p])]⟩ := exec_fp hX hO (by kernel_rfl) (.o h (.o hm (.o hp (.o he (.o hL .xx)))))
 exact Sim.gs hX (yld_sim hX (l := 4) rfl rfl (by kernel_rfl) q1 rfl q2 rfl) [.gc [7]] rfl
noncomputable abbrev wPl (d : Dg) (num : Int) (p : List Int) (acc : List V) (x : List (Nat × PE gam)) : PSt gam := ⟨[(1, .val (.yld 4)), (2, .loc 0 0), (4, .val (.own 5)), (5, xi num)] ++ x, [[.lst 3 d.sizes false, .lst 3 d.order false]], ML' d p acc⟩
abbrev zsI (s : List Int) : List Int := s.map fun _ => (0 : Int)
abbrev esI (s : List Int) : List Int := s.map (· - 1)
def gInn (s : List Int) (x : Int × List Int) : (Int × List Int) ⊕ (Int × List Int) := if decide (x.1 ≥ 0) = true then (if (x.2.getD x.1.toNat 0 == IntKind.i64.wrap (s.getD x.1.toNat 0 - 1)) = true then .inl (IntKind.i64.wrap (x.1 - 1), x.2.set x.1.toNat 0) else .inr x) else .inr x
theorem sz_wrap {s : List Int} (hs : SzOk s) {k : Nat} (hk : k < s.length) : IntKind.i64.wrap (s.getD k 0 - 1) = (esI s).getD k 0 := by
 have h1 := hs _ (getD_mem hk)
 rw [wrap_nn (by omega) (by omega)]
 simp [List.getD, List.getElem?_eq_getElem hk]
theorem zsI_getD {s : List Int} {k : Nat} : (zsI s).getD k 0 = 0 := by
 simp only [List.getD, List.getElem?_map]
 cases s[k]? <;> rfl
theorem wdown {k : Nat} (hk : k ≤ 6) : IntKind.i64.wrap (((k + 1 : Nat) : Int) - 1 - 1) = (k : Int) - 1 := by rw [wrap_nn (by omega) (by omega)]; omega
theorem inn_it {s : List Int} (hs : SzOk s) (hl : s.length ≤ 6) : ∀ (k : Nat) (p : List Int), k ≤ s.length → itF (gInn s) (k + 1) ((k : Int) - 1, p) = some (((car (zsI s) (esI s) k p).1 : Int) - 1, (car (zsI s) (esI s) k p).2)
 | 0, p, _ => by
  simp only [itF, gInn, car]
  rw [if_neg (by simp)]
 | k + 1, p, h => by
  rw [itF]
  simp only [gInn, car]
  have hk : (((k + 1 : Nat) : Int) - 1).toNat = k := by omega
  rw [if_pos (decide_eq_true (by omega)), hk, sz_wrap hs (by omega), wdown (by omega)]
  by_cases e : p.getD k 0 = (esI s).getD k 0
  ·rw [if_pos (by simpa using e), if_pos e, zsI_getD]
   exact inn_it hs hl k _ (by omega)
  ·rw [if_neg (by simpa using e), if_neg e]
theorem lInn {n : Nat} (hO : Ok n oc180) {d : Dg} (hf : Fine d.sizes) (num : Int) {p : List Int} (hp : p.length = d.sizes.length) (acc : List V) : ExecS X0 Tryz.prog T (ApN n) LL 179 false (ntP Tryz.prog 179) 5 (.loop (bodyP Tryz.prog 179 1)) (wPl d num p acc [(6, xi ((p.length : Int) - 1))]) (.exit 2) (wPl d num (car (zsI d.sizes) (esI d.sizes) p.length p).2 acc [(6, xi (((car (zsI d.sizes) (esI d.sizes) p.length p).1 : Int) - 1)), (35, xl false)]) := by
 have hit := inn_it hf.sz hf.len p.length p (by omega)
 refine whileE (X := X0) (P := Tryz.prog) (T := T) (st := fun x => wPl d num x.2 acc [(6, xi x.1)]) (g := gInn d.sizes) (s := ((p.length : Int) - 1, p)) (out := fun x => (.exit 2, wPl d num x.2 acc [(6, xi x.1), (35, xl false)])) (fun x => x.2.length = d.sizes.length ∧ x.1 < d.sizes.length) hit (by kernel_rfl) (show p.length + 1 ≤ LL by have := hf.len; have := LLm; unfold most at this; omega) ⟨hp, by show (p.length : Int) - 1 < _; omega⟩ ?_ ?_
 ·rintro ⟨x, q⟩ ⟨y, r⟩ ⟨h1, h2⟩ e
  unfold gInn at e
  split at e
  ·rename_i c
   split at e
   ·cases e
    have c : x ≥ 0 := by simpa using c
    have h2 : x < (d.sizes.length : Int) := h2
    have := hf.len
    refine ⟨by simpa using h1, ?_⟩
    show IntKind.i64.wrap (x - 1) < _
    rw [wrap_nn (by omega) (by omega)]
    omega
   ·cases e
  ·cases e
 ·rintro ⟨x, q⟩ m r' ⟨h1, h2⟩ ih
  by_cases c : x ≥ 0
  ·have t1 : decide (x ≥ 0) = true := by simpa using c
   have i1 : inR x q.length := ⟨c, by show x < _; rw [h1]; exact h2⟩
   have i2 : inR x d.sizes.length := ⟨c, h2⟩
   cases t2 : q.getD x.toNat 0 == IntKind.i64.wrap (d.sizes.getD x.toNat 0 - 1)
   ·have e : gInn d.sizes (x, q) = .inr (x, q) := by unfold gInn; rw [if_pos t1, if_neg (by simp only []; rw [t2]; simp)]
    rw [e]
    dsimp only [contW]
    exact round hX hO (by kernel_rfl) (.b t1 (.o i1 (.o i2 (.b t2 .ex))))
   ·have e : gInn d.sizes (x, q) = .inl (IntKind.i64.wrap (x - 1), q.set x.toNat 0) := by unfold gInn; rw [if_pos t1, if_pos t2]
    have g := ih _ e
    rw [e]
    exact round hX hO (by kernel_rfl) (.b t1 (.o i1 (.o i2 (.b t2 (.o i1 (.go g))))))
  ·have t1 : decide (x ≥ 0) = false := by simpa using c
   have e : gInn d.sizes (x, q) = .inr (x, q) := by unfold gInn; rw [if_neg (by simp only []; rw [t1]; simp)]
   rw [e]
   dsimp only [contW]
   exact round hX hO (by kernel_rfl) (.b t1 .ex)
abbrev cr (s p : List Int) : Nat × List Int := car (zsI s) (esI s) p.length p
structure Pf where
 num : Int
 last : Int
 p : List Int
 acc : List V
def gPl (d : Dg) (x : Int × List Int × List V) : (Int × List Int × List V) ⊕ Pf := if decide ((((cr d.sizes x.2.1).1 : Nat) : Int) - 1 < 0) = true then .inr ⟨x.1, (((cr d.sizes x.2.1).1 : Nat) : Int) - 1, (cr d.sizes x.2.1).2, x.2.2 ++ [S_at d x.2.1]⟩
 else .inl (IntKind.i64.wrap (x.1 + 1), (cr d.sizes x.2.1).2.set ((((cr d.sizes x.2.1).1 : Nat) : Int) - 1).toNat (IntKind.i64.wrap ((cr d.sizes x.2.1).2.getD ((((cr d.sizes x.2.1).1 : Nat) : Int) - 1).toNat 0 + 1)), x.2.2 ++ [S_at d x.2.1])
theorem car_len {f t : List Int} : ∀ (k : Nat) (p : List Int), (car f t k p).1 ≤ k ∧ (car f t k p).2.length = p.length
 | 0, p => ⟨Nat.le_refl _, rfl⟩
 | k + 1, p => by
  simp only [car]
  split
  ·have := car_len (f := f) (t := t) k (p.set k (f.getD k 0))
   exact ⟨by omega, by simpa using this.2⟩
  ·exact ⟨Nat.le_refl _, rfl⟩
theorem car_dig {s : List Int} (hs : SzOk s) : ∀ (k : Nat) (p : List Int), isPl s p = true → isPl s (car (zsI s) (esI s) k p).2 = true
 | 0, p, h => h
 | k + 1, p, h => by
  simp only [car]
  split
  ·rw [zsI_getD]
   rcases Nat.lt_or_ge k s.length with hk | hk
   ·have h1 := hs _ (getD_mem hk)
    exact car_dig hs k _ (set_isPl (ch := (k : Int)) h (inR_nat hk) ⟨by omega, by rw [Int.toNat_natCast]; omega⟩)
   ·have hp := isPl_len h
    rw [List.set_eq_of_length_le (by omega)]
    exact car_dig hs k _ h
  ·exact h
theorem leB_pl : ∀ {s p : List Int}, isPl s p = true → LeB (esI s) p
 | [], [], _ => trivial
 | a :: s, x :: p, h => by
  simp only [isPl, Bool.and_eq_true, decide_eq_true_eq] at h
  exact ⟨by show x ≤ a - 1; omega, leB_pl h.2⟩
 | [], _ :: _, h => by simp [isPl] at h
 | _ :: _, [], h => by simp [isPl] at h
theorem pl_zero : ∀ {s : List Int}, SzOk s → isPl s (zsI s) = true
 | [], _ => rfl
 | a :: s, h => by
  have := h a (List.mem_cons_self ..)
  simp only [zsI, List.map_cons, isPl, Bool.and_eq_true, decide_eq_true_eq]
  exact ⟨by omega, pl_zero h.tail⟩
theorem gPl_eq {d : Dg} (hf : Fine d.sizes) {p : List Int} (hp : isPl d.sizes p = true) (num : Int) (acc : List V) : match nextB (zsI d.sizes) (esI d.sizes) p with
  | none => ∃ y : Pf, y.acc = acc ++ [S_at d p] ∧ gPl d (num, p, acc) = .inr y
  | some q => isPl d.sizes q = true ∧ gPl d (num, p, acc) = .inl (IntKind.i64.wrap (num + 1), q, acc ++ [S_at d p]) := by
 have hl := isPl_len hp
 have hc := car_len (f := zsI d.sizes) (t := esI d.sizes) p.length p
 have hd := car_dig hf.sz p.length p hp
 rw [← nextC_eq (by simp) (by simpa using hl)]
 unfold nextC
 by_cases c : (car (zsI d.sizes) (esI d.sizes) p.length p).1 = 0
 ·rw [if_pos c]
  refine ⟨⟨num, (((cr d.sizes p).1 : Nat) : Int) - 1, (cr d.sizes p).2, acc ++ [S_at d p]⟩, rfl, ?_⟩
  unfold gPl
  rw [if_pos (decide_eq_true (by show (((car (zsI d.sizes) (esI d.sizes) p.length p).1 : Nat) : Int) - 1 < 0; omega))]
 ·rw [if_neg c]
  have hk : (car (zsI d.sizes) (esI d.sizes) p.length p).1 - 1 < d.sizes.length := by omega
  have e1 : ((((car (zsI d.sizes) (esI d.sizes) p.length p).1 : Nat) : Int) - 1).toNat = (car (zsI d.sizes) (esI d.sizes) p.length p).1 - 1 := by omega
  have hz := hf.sz _ (getD_mem hk)
  have hdg := (isPl_iff.1 hd).2 _ hk
  have e2 : IntKind.i64.wrap ((car (zsI d.sizes) (esI d.sizes) p.length p).2.getD ((car (zsI d.sizes) (esI d.sizes) p.length p).1 - 1) 0 + 1) = (car (zsI d.sizes) (esI d.sizes) p.length p).2.getD ((car (zsI d.sizes) (esI d.sizes) p.length p).1 - 1) 0 + 1 := wrap_nn (by omega) (by omega)
  have hg : gPl d (num, p, acc) = .inl (IntKind.i64.wrap (num + 1), (car (zsI d.sizes) (esI d.sizes) p.length p).2.set ((car (zsI d.sizes) (esI d.sizes) p.length p).1 - 1) ((car (zsI d.sizes) (esI d.sizes) p.length p).2.getD ((car (zsI d.sizes) (esI d.sizes) p.length p).1 - 1) 0 + 1), acc ++ [S_at d p]) := by
   unfold gPl
   rw [if_neg (by rw [decide_eq_true_eq]; show ¬ ((((car (zsI d.sizes) (esI d.sizes) p.length p).1 : Nat) : Int) - 1 < 0); omega)]
   simp only [cr, e1, e2]
  refine ⟨?_, hg⟩
  have hcl : (car (zsI d.sizes) (esI d.sizes) p.length p).2.length = d.sizes.length := by rw [hc.2, hl]
  have hn : nextB (zsI d.sizes) (esI d.sizes) p = some ((car (zsI d.sizes) (esI d.sizes) p.length p).2.set ((car (zsI d.sizes) (esI d.sizes) p.length p).1 - 1) ((car (zsI d.sizes) (esI d.sizes) p.length p).2.getD ((car (zsI d.sizes) (esI d.sizes) p.length p).1 - 1) 0 + 1)) := by
   rw [← nextC_eq (by simp) (by simpa using hl)]
   unfold nextC
   rw [if_neg c]
  have hle := (leB_pl hp).next (leB_pl (pl_zero hf.sz)) hn
  refine isPl_iff.2 ⟨by simpa using hcl, fun j hj => ?_⟩
  have hj1 := (isPl_iff.1 hd).2 j hj
  have hj2 : ∀ {t q : List Int}, LeB t q → ∀ j, j < t.length → q.getD j 0 ≤ t.getD j 0 := by
   intro t
   induction t with
   | nil => intro q _ j h; simp at h
   | cons a t ih =>
    intro q h j hj
    cases q with
    | nil => exact h.elim
    | cons x q =>
     cases j with
     | zero => exact h.1
     | succ j => exact ih h.2 j (by simpa using hj)
  have h9 := hj2 hle j (by simpa using hj)
  have h8 : (esI d.sizes).getD j 0 = d.sizes.getD j 0 - 1 := by simp [List.getD, List.getElem?_eq_getElem hj]
  refine ⟨?_, by omega⟩
  rw [getD_set (by omega)]
  split
  ·omega
  ·exact hj1.1
theorem pl_it {d : Dg} (hf : Fine d.sizes) : ∀ (m : Nat) (p : List Int) (num : Int) (acc : List V), isPl d.sizes p = true → (boxA (zsI d.sizes) (esI d.sizes) p).length ≤ m → ∃ y : Pf, y.acc = acc ++ (boxA (zsI d.sizes) (esI d.sizes) p).map (S_at d) ∧ itF (gPl d) m (num, p, acc) = some y
 | 0, p, num, acc, hp, hm => by
  rw [boxA_next (leB_pl hp) (leB_pl (pl_zero hf.sz))] at hm
  simp at hm
 | m + 1, p, num, acc, hp, hm => by
  have hb := boxA_next (leB_pl hp) (leB_pl (pl_zero hf.sz))
  have hg := gPl_eq hf hp num acc
  cases hn : nextB (zsI d.sizes) (esI d.sizes) p with
  | none =>
   rw [hn] at hb hg
   obtain ⟨y, h1, h2⟩ := hg
   refine ⟨y, by rw [hb, h1]; rfl, by rw [itF, h2]⟩
  | some q =>
   rw [hn] at hb hg
   obtain ⟨h1, h2⟩ := hg
   rw [hb] at hm ⊢
   obtain ⟨y, h3, h4⟩ := pl_it hf m q (IntKind.i64.wrap (num + 1)) (acc ++ [S_at d p]) h1 (by simpa using hm)
   refine ⟨y, by rw [h3]; simp, by rw [itF, h2]; exact h4⟩
noncomputable abbrev oPl (d : Dg) (y : Pf) : Ex × PSt gam := (.ret, ⟨[(1, .val (.yld 4)), (2, .loc 0 0), (4, .val (.own 5)), (5, xi y.num), (6, xi y.last), (42, xl true)], [[.lst 3 d.sizes false, .lst 3 d.order false]], ML' d y.p y.acc⟩)
theorem lPl {n : Nat} (hO : ∀ m, n ≤ m → Ok m oc180) {d : Dg} (h : DgT d) (hm : d.nodes.length ≤ 6000) (y : Pf) (hit : itF (gPl d) (cnt d.sizes) (0, zsI d.sizes, []) = some y) (hb : (boxA (zsI d.sizes) (esI d.sizes) (zsI d.sizes)).length ≤ cnt d.sizes) : ExecS X0 Tryz.prog T (ApN (n + 1)) LL 179 false (ntP Tryz.prog 179) 5 (.loop (bodyP Tryz.prog 179 0)) (wPl d 0 (zsI d.sizes) [] []) (oPl d y).1 (oPl d y).2 := by
 have hf := h.fine
 refine whileE (X := X0) (P := Tryz.prog) (T := T) (st := fun x => wPl d x.1 x.2.1 x.2.2 []) (g := gPl d) (s := (0, zsI d.sizes, [])) (out := oPl d) (fun x => isPl d.sizes x.2.1 = true ∧ x.2.2.length + (boxA (zsI d.sizes) (esI d.sizes) x.2.1).length ≤ cnt d.sizes) hit (by kernel_rfl) (show cnt d.sizes ≤ LL by have := hf.cnt_most; have := LLm; omega) ⟨pl_zero hf.sz, by simpa using hb⟩ ?_ ?_
 ·rintro ⟨num, p, acc⟩ ⟨num', q, acc'⟩ ⟨h1, h2⟩ e
  have h1 : isPl d.sizes p = true := h1
  have h2 : acc.length + (boxA (zsI d.sizes) (esI d.sizes) p).length ≤ cnt d.sizes := h2
  have hg := gPl_eq hf h1 num acc
  rw [boxA_next (leB_pl h1) (leB_pl (pl_zero hf.sz))] at h2
  cases hn : nextB (zsI d.sizes) (esI d.sizes) p with
  | none => rw [hn] at hg; obtain ⟨y, _, e2⟩ := hg; rw [e2] at e; cases e
  | some r =>
   rw [hn] at hg h2
   obtain ⟨g1, g2⟩ := hg
   rw [g2] at e
   cases e
   exact ⟨g1, by simp at h2 ⊢; omega⟩
 ·rintro ⟨num, p, acc⟩ m r ⟨h1, h2⟩ ih
  have h1 : isPl d.sizes p = true := h1
  have h2 : acc.length + (boxA (zsI d.sizes) (esI d.sizes) p).length ≤ cnt d.sizes := h2
  rw [boxA_next (leB_pl h1) (leB_pl (pl_zero hf.sz))] at h2
  simp only [List.length_cons] at h2
  have hcm := hf.cnt_most
  have hp := isPl_len h1
  have hy := yL (hO n (Nat.le_refl _)) h hm h1 num acc (by omega)
  have hl := lInn (hO (n + 1) (by omega)) hf num hp (acc ++ [S_at d p])
  rw [show (p.length : Int) - 1 = IntKind.i64.wrap ((p.length : Int) - 1) by rw [wrap_nn (by omega) (by have := hf.len; omega)]] at hl
  have hc := car_len (f := zsI d.sizes) (t := esI d.sizes) p.length p
  have hgz : ∀ z : Nat × List Int, car (zsI d.sizes) (esI d.sizes) p.length p = z → gPl d (num, p, acc) = (if decide (((z.1 : Nat) : Int) - 1 < 0) = true then .inr ⟨num, ((z.1 : Nat) : Int) - 1, z.2, acc ++ [S_at d p]⟩ else .inl (IntKind.i64.wrap (num + 1), z.2.set (((z.1 : Nat) : Int) - 1).toNat (IntKind.i64.wrap (z.2.getD (((z.1 : Nat) : Int) - 1).toNat 0 + 1)), acc ++ [S_at d p])) := by rintro _ rfl; rfl
  obtain ⟨z, hz⟩ : ∃ z, car (zsI d.sizes) (esI d.sizes) p.length p = z := ⟨_, rfl⟩
  have hg := hgz z hz
  rw [hz] at hl hc
  obtain ⟨k, q⟩ := z
  have hc : k ≤ p.length ∧ q.length = p.length := hc
  have hg : gPl d (num, p, acc) = (if decide ((k : Int) - 1 < 0) = true then .inr ⟨num, (k : Int) - 1, q, acc ++ [S_at d p]⟩ else .inl (IntKind.i64.wrap (num + 1), q.set ((k : Int) - 1).toNat (IntKind.i64.wrap (q.getD ((k : Int) - 1).toNat 0 + 1)), acc ++ [S_at d p])) := hg
  cases t : decide (((k : Nat) : Int) - 1 < 0)
  ·have t' : ¬ (((k : Nat) : Int) - 1 < 0) := by simpa using t
   rw [if_neg (by rw [t]; simp)] at hg
   have hi : inR ((k : Int) - 1) q.length := ⟨by omega, by omega⟩
   have g := ih _ hg
   rw [hg]
   exact round hX (hO (n + 1) (by omega)) (by kernel_rfl) (.fr [0, 1, 6, 3, 4, 5] hy (.b (rfl : (!true) = false) (.wG [.gc [5, 7]] hl (.b t (.o hi (.o hi (.go g)))))))
  ·rw [if_pos t] at hg
   rw [hg]
   exact round hX (hO (n + 1) (by omega)) (by kernel_rfl) (.fr [0, 1, 6, 3, 4, 5] hy (.b (rfl : (!true) = false) (.wG [.gc [5, 7]] hl (.b t .re))))
theorem sPl {n : Nat} (hO : ∀ m, n ≤ m → Ok m oc180) {d : Dg} (h : DgT d) (hm : d.nodes.length ≤ 6000) : ∃ p, Sim X0 Tryz.prog (ApN (n + 2)) (fPl d) [.yld 4] (ML d true []) (.tup []) (ML' d p ((List.range (cnt d.sizes)).map fun (k : Nat) => S_at d (nthI d.sizes k))) := by
 have hf := h.fine
 have hall := places_all hf.sz
 have hb : (boxA (zsI d.sizes) (esI d.sizes) (zsI d.sizes)).length = cnt d.sizes := by rw [hall]; simp
 obtain ⟨y, h1, h2⟩ := pl_it hf (cnt d.sizes) (zsI d.sizes) 0 [] (pl_zero hf.sz) (by omega)
 have hl := lPl hO h hm y h2 (by omega)
 rw [hall, List.map_map, List.nil_append] at h1
 have h1 : y.acc = (List.range (cnt d.sizes)).map fun (k : Nat) => S_at d (nthI d.sizes k) := h1
 rw [← h1]
 refine ⟨y.p, ?_⟩
 have e0 : zsI d.sizes = List.replicate ((d.sizes.length : Nat) : Int).toNat 0 := by rw [Int.toNat_natCast]; exact List.map_const' ..
 rw [e0] at hl
 have hs : (d.sizes.length : Int) ≤ (most : Int) := by have := hf.lenM; omega
 exact sim_ex hX (hO (n + 1) (by omega)) (first := [.agg [.lst 3 d.sizes false, .lst 3 d.order false]]) (cap := []) (by kernel_rfl) (.o (rfl : (d.sizes.length : Int) = (d.sizes.length : Int)) (.o (show (0 : Int) ≤ (d.sizes.length : Int) by omega) (.o hs (.wG [.mv 2, .gc [5, 6]] hl .er))))
def cellsD (d : Dg) : List V := (List.range (cnt d.sizes)).map fun (k : Nat) => S_at d (nthI d.sizes k)
structure LsP (l : Lo) : Prop where
 s : l.s = l.d.sizes
 o : l.o = l.d.order
 t : DgT l.d
 n : l.d.nodes.length ≤ 6000
noncomputable def oc131 : Orc gam := orcF 131 (a1 loA) vsA (fun l => cellsD l.d) (fun l => [LsP l]) oc180
theorem gc131 : Gd oc131 := gc180.deep 3 fun n hn hO l hp => by
 obtain ⟨n, rfl⟩ : ∃ k, n = k + 2 := ⟨n - 2, by omega⟩
 have h : LsP l := hp _ (.head _)
 obtain ⟨s, o, d⟩ := l
 obtain ⟨e1, e2, ht, hm⟩ := h
 obtain rfl : s = d.sizes := e1
 obtain rfl : o = d.order := e2
 obtain ⟨p, hs⟩ := sPl (n := n) (fun m hm => hO m (by omega)) ht hm
 show Con _ _ _ _ _ (vsA.put (cellsD d)) _
 unfold cellsD
 generalize (List.range (cnt d.sizes)).map (fun (k : Nat) => S_at d (nthI d.sizes k)) = acc at hs ⊢
 have hr : ExecS X0 Tryz.prog T (ApN (n + 2)) LL 131 false (ntP Tryz.prog 131) 0 (.rangeFunc (.tmp 7) #[8, 9] (rfAssign Tryz.prog 131) (rfBody Tryz.prog 131)) ⟨envL d, [], [.cells (loD d).ps, .cells [.own 2], lsV []]⟩ .norm ⟨envL d, [], (ML' d p acc).set 4 (LRL d false (some .skip))⟩ := rf_exec hX (ps := ⟨envL d, [], [.cells (loD d).ps, .cells [.own 2], lsV []]⟩) rfl rfl hs rfl rfl
 exact fn_is hX (hO (n + 2) (by omega)) (by kernel_rfl) (.wG [.nilH 1 0 58] hr .rr)
theorem nList_ok {d : Dg} (h : DgR d) (hs : d.sizes.length ≤ most) (ho : d.order.length ≤ most) (he : d.ends.length + 1 ≤ most) (h0 : ((S_nOpen d).2 != 0) = false) : LsP (S_nOpen d).1 := by
 rw [nOpen_eq h hs ho he] at h0 ⊢
 have h0 : S_rDg d = 0 := by simpa using h0
 unfold S_rDg at h0
 split at h0
 ·rename_i h1; simp [h0] at h1
 ·rename_i h1
  have hc := checkLoose_ok ho (show d.ends.length ≤ most by omega) (by simpa using h1)
  have hf : (S_frame d.sizes d.order != 0) = false := by
   cases e : S_frame d.sizes d.order != 0
   ·rfl
   ·unfold S_checkLoose at h1; rw [if_pos e] at h1; exact absurd e h1
  refine ⟨?_, ?_, ?_, ?_⟩ <;> simp only [hf] <;> first | rfl | exact hc.1 | exact hc.2
def S_nList (p : Dg) : List V × Int := if ((S_nOpen p).2 != 0) = true then ([], (S_nOpen p).2) else (cellsD (S_nOpen p).1.d, 0)
noncomputable def oc89 : Orc gam := orcF 89 (a1 dA) (tupA (a2 vsA iA)) (fun p => S_nList p) (fun p => [DgR p, p.sizes.length ≤ most, p.order.length ≤ 2 ^ 20, p.ends.length + 1 ≤ most]) oc131
theorem gc89 : Gd oc89 := gc131.add fun n hO p hp => fn_is hX hO (by kernel_rfl) (.o (hp _ (.head _)) (.o (hp _ (.tail _ (.head _))) (.o (hp _ (.tail _ (.tail _ (.head _)))) (.o (hp _ (.tail _ (.tail _ (.tail _ (.head _))))) (.sh (fun _ => .rn (.tup [.nil .slc, .int .i64 (S_nOpen p).2]) rfl) fun h => .o (nList_ok (hp _ (.head _)) (hp _ (.tail _ (.head _))) (by have h9 : p.order.length ≤ 2 ^ 20 := hp _ (.tail _ (.tail _ (.head _))); unfold most; omega) (hp _ (.tail _ (.tail _ (.tail _ (.head _))))) h) .rr)))))
theorem nList_eq {d : Dg} (h : DgR d) (hs : d.sizes.length ≤ most) (ho : d.order.length ≤ most) (he : d.ends.length + 1 ≤ most) : S_nList d = if (S_rDg d != 0) = true then ([], S_rDg d) else (cellsD d, 0) := by
 unfold S_nList
 rw [nOpen_eq h hs ho he]
 by_cases c : (S_rDg d != 0) = true
 ·rw [if_pos c, if_pos c]
 ·rw [if_neg c, if_neg c]
  have hf : (S_frame d.sizes d.order != 0) = false := by
   cases e : S_frame d.sizes d.order != 0
   ·rfl
   ·exfalso
    apply c
    have : S_checkLoose d = S_frame d.sizes d.order := by unfold S_checkLoose; rw [if_pos e]
    unfold S_rDg
    rw [this, if_pos e]
    exact e
  rw [hf]
  rfl
end Go.Proofs.YtmefgijobonklaaGreat
namespace Go.Proofs.YtmefgijobonklaaGreat
open Go Tw Pv Mist
structure RT where
 r : Rw
 f : TV
 t : TV
def lbT : TV → List Nat
 | .slc b _ _ _ _ _ => [b]
 | _ => []
abbrev bsX (x : RT) : List Nat := lbT x.f ++ lbT x.t
def bsO (L : List RT) : List Nat := L.flatMap bsX
abbrev rowT (x : RT) : List TV := [x.f, x.t, .int .u8 x.r.cell.f, .int .i64 x.r.cell.n]
def flT (L : List RT) : List TV := L.flatMap rowT
abbrev intsV (l : List Int) : List TV := l.map fun n => TV.int .i64 n
inductive OwnL (h : List HB) : List Int → TV → Prop where
 | nil : OwnL h [] (.nil .slc)
 | some {l b k} : l ≠ [] → h[b]? = some (.cells k (intsV l)) → k ≠ .ro → OwnL h l (.slc b 0 l.length l.length 1 false)
structure RO (h : List HB) (lo : Nat) (L : List RT) : Prop where
 own : ∀ x ∈ L, OwnL h x.r.fr x.f ∧ OwnL h x.r.to x.t
 nd : (bsO L).Nodup
 lo : ∀ b ∈ bsO L, lo ≤ b
def Stay (h h' : List HB) (bs : List Nat) : Prop := h.length ≤ h'.length ∧ ∀ b, b < h.length → b ∉ bs → h'[b]? = h[b]?
theorem Stay.refl {h : List HB} {bs : List Nat} : Stay h h bs := ⟨Nat.le_refl _, fun _ _ _ => rfl⟩
theorem Stay.push {h : List HB} {x : HB} {bs : List Nat} : Stay h (h ++ [x]) bs := ⟨by simp, fun b hb _ => by rw [List.getElem?_append_left hb]⟩
theorem Stay.set {h : List HB} {x : HB} {b : Nat} : Stay h (h.set b x) [b] := ⟨by simp, fun c _ hc => by rw [List.getElem?_set_ne (fun e => hc (by simp [e]))]⟩
theorem Stay.trans {h h' h'' : List HB} {bs cs : List Nat} (a : Stay h h' bs) (b : Stay h' h'' cs) (hs : ∀ c ∈ cs, c ∈ bs ∨ h.length ≤ c) : Stay h h'' bs := ⟨Nat.le_trans a.1 b.1, fun c hc hn => by
 rw [b.2 c (by have := a.1; omega) (fun h1 => by rcases hs c h1 with h2 | h2; exact hn h2; omega), a.2 c hc hn]⟩
theorem Stay.mono {h h' : List HB} {bs cs : List Nat} (a : Stay h h' bs) (hs : ∀ c ∈ bs, c ∈ cs ∨ h.length ≤ c) : Stay h h' cs := ⟨a.1, fun c hc hn => a.2 c hc fun h1 => by rcases hs c h1 with h2 | h2; exact hn h2; omega⟩
theorem OwnL.lt {h : List HB} {l : List Int} {v : TV} (hv : OwnL h l v) {b : Nat} (hb : b ∈ lbT v) : b < h.length := by
 cases hv with
 | nil => cases hb
 | some _ h1 => simp [lbT] at hb; subst hb; exact (List.getElem?_eq_some_iff.1 h1).1
theorem OwnL.stay {h h' : List HB} {bs : List Nat} {l : List Int} {v : TV} (hv : OwnL h l v) (hs : Stay h h' bs) (hd : ∀ b ∈ lbT v, b ∉ bs) : OwnL h' l v := by
 cases hv with
 | nil => exact .nil
 | some h0 h1 h2 => exact .some h0 (by rw [hs.2 _ (List.getElem?_eq_some_iff.1 h1).1 (hd _ (by simp [lbT]))]; exact h1) h2
theorem RO.lt {h : List HB} {lo : Nat} {L : List RT} (hr : RO h lo L) {b : Nat} (hb : b ∈ bsO L) : b < h.length := by
 obtain ⟨x, hx, hb⟩ := List.mem_flatMap.1 hb
 rcases List.mem_append.1 hb with h1 | h1
 ·exact (hr.own x hx).1.lt h1
 ·exact (hr.own x hx).2.lt h1
theorem RO.stay {h h' : List HB} {bs : List Nat} {lo : Nat} {L : List RT} (hr : RO h lo L) (hs : Stay h h' bs) (hd : ∀ b ∈ bsO L, b ∉ bs) : RO h' lo L :=
 ⟨fun x hx => ⟨(hr.own x hx).1.stay hs fun b hb => hd b (List.mem_flatMap.2 ⟨x, hx, List.mem_append_left _ hb⟩), (hr.own x hx).2.stay hs fun b hb => hd b (List.mem_flatMap.2 ⟨x, hx, List.mem_append_right _ hb⟩)⟩, hr.nd, hr.lo⟩
theorem bsO_app (L O : List RT) : bsO (L ++ O) = bsO L ++ bsO O := List.flatMap_append ..
inductive OutL (h : List HB) : List RT → TV → Prop where
 | nil : OutL h [] (.nil .slc)
 | some {O b k} : O ≠ [] → h[b]? = some (.cells k (flT O)) → k ≠ .ro → OutL h O (.slc b 0 O.length O.length 4 false)
theorem OutL.lt {h : List HB} {O : List RT} {v : TV} (hv : OutL h O v) {b : Nat} (hb : b ∈ lbT v) : b < h.length := by
 cases hv with
 | nil => cases hb
 | some _ h1 => simp [lbT] at hb; subst hb; exact (List.getElem?_eq_some_iff.1 h1).1
theorem OutL.stay {h h' : List HB} {bs : List Nat} {O : List RT} {v : TV} (hv : OutL h O v) (hs : Stay h h' bs) (hd : ∀ b ∈ lbT v, b ∉ bs) : OutL h' O v := by
 cases hv with
 | nil => exact .nil
 | some h0 h1 h2 => exact .some h0 (by rw [hs.2 _ (List.getElem?_eq_some_iff.1 h1).1 (hd _ (by simp [lbT]))]; exact h1) h2
end Go.Proofs.YtmefgijobonklaaGreat
namespace Go.Proofs.YtmefgijobonklaaGreat
open Go Tw Pv Mist
theorem OwnL.inv {h : List HB} {a : Int} {l : List Int} {v : TV} (hv : OwnL h (a :: l) v) : ∃ b n, v = .slc b 0 n n 1 false := by
 cases hv with
 | some _ _ _ => exact ⟨_, _, rfl⟩
theorem OutL.inv {h : List HB} {O : List RT} {x : RT} {v : TV} (hv : OutL h (O ++ [x]) v) : ∃ b n, v = .slc b 0 n n 4 false := by
 generalize e : O ++ [x] = P at hv
 cases hv with
 | nil => simp at e
 | some _ _ _ => exact ⟨_, _, rfl⟩
structure InsR (h h' : List HB) (fl : Nat) (x y : RT) (vo vo' : TV) (O : List RT) : Prop where
 own : OwnL h' y.r.fr y.f ∧ OwnL h' y.r.to y.t
 out : OutL h' (O ++ [y]) vo'
 stay : Stay h h' (bsX x ++ lbT vo)
 bx : ∀ b ∈ bsX y, b ∈ bsX x ∨ h.length ≤ b
 nd : (bsX y).Nodup
 bo : ∀ b ∈ lbT vo', b ∈ lbT vo ∨ h.length ≤ b
 dis : ∀ b ∈ lbT vo', b ∉ bsX y
end Go.Proofs.YtmefgijobonklaaGreat
namespace Go.Proofs.YtmefgijobonklaaGreat
open Go Tw Pv Mist
theorem bsO_cons (x : RT) (L : List RT) : bsO (x :: L) = bsX x ++ bsO L := rfl
theorem RO.swap {h h' : List HB} {fl : Nat} {x y : RT} {vo vo' : TV} {O R : List RT} (hr : RO h fl (O ++ x :: R)) (hi : InsR h h' fl x y vo vo' O) (hv : ∀ b ∈ lbT vo, b ∉ bsO (O ++ x :: R)) (hfl : fl ≤ h.length) : RO h' fl (O ++ y :: R) := by
 have hb : bsO (O ++ x :: R) = bsO O ++ (bsX x ++ bsO R) := by rw [bsO_app, bsO_cons]
 have hb2 : bsO (O ++ y :: R) = bsO O ++ (bsX y ++ bsO R) := by rw [bsO_app, bsO_cons]
 have hnd := hr.nd
 rw [hb] at hnd hv
 obtain ⟨n1, n2, n3⟩ := List.nodup_append.1 hnd
 obtain ⟨n4, n5, n6⟩ := List.nodup_append.1 n2
 have hO : ∀ b ∈ bsO O, b ∉ bsX x ++ lbT vo := fun b hbO hb3 => by
  rcases List.mem_append.1 hb3 with h9 | h9
  ·exact n3 b hbO b (List.mem_append_left _ h9) rfl
  ·exact hv b h9 (List.mem_append_left _ hbO)
 have hR : ∀ b ∈ bsO R, b ∉ bsX x ++ lbT vo := fun b hbO hb3 => by
  rcases List.mem_append.1 hb3 with h9 | h9
  ·exact n6 b h9 b hbO rfl
  ·exact hv b h9 (List.mem_append_right _ (List.mem_append_right _ hbO))
 have hlt : ∀ b ∈ bsO O ++ bsO R, b < h.length := fun b h9 => hr.lt (by rw [hb]; rcases List.mem_append.1 h9 with h8 | h8; exact List.mem_append_left _ h8; exact List.mem_append_right _ (List.mem_append_right _ h8))
 refine ⟨fun z hz => ?_, ?_, fun b h9 => ?_⟩
 ·have key : ∀ z, z ∈ O ∨ z ∈ R → OwnL h' z.r.fr z.f ∧ OwnL h' z.r.to z.t := fun z hz => by
   have hzo := hr.own z (by rcases hz with h9 | h9 <;> simp [h9])
   have hd : ∀ b ∈ bsX z, b ∉ bsX x ++ lbT vo := fun b h9 => by
    rcases hz with h8 | h8
    ·exact hO b (List.mem_flatMap.2 ⟨z, h8, h9⟩)
    ·exact hR b (List.mem_flatMap.2 ⟨z, h8, h9⟩)
   exact ⟨hzo.1.stay hi.stay fun b h9 => hd b (List.mem_append_left _ h9), hzo.2.stay hi.stay fun b h9 => hd b (List.mem_append_right _ h9)⟩
  rcases List.mem_append.1 hz with h9 | h9
  ·exact key z (.inl h9)
  ·rcases List.mem_cons.1 h9 with rfl | h9
   ·exact hi.own
   ·exact key z (.inr h9)
 ·rw [hb2]
  refine List.nodup_append.2 ⟨n1, List.nodup_append.2 ⟨hi.nd, n5, fun a ha b hb e => ?_⟩, fun a ha b hb e => ?_⟩
  ·subst e
   rcases hi.bx a ha with h9 | h9
   ·exact n6 a h9 a hb rfl
   ·have := hlt a (List.mem_append_right _ hb); omega
  ·subst e
   rcases List.mem_append.1 hb with hb | hb
   ·rcases hi.bx a hb with h9 | h9
    ·exact n3 a ha a (List.mem_append_left _ h9) rfl
    ·have := hlt a (List.mem_append_left _ ha); omega
   ·exact n3 a ha a (List.mem_append_right _ hb) rfl
 ·rw [hb2] at h9
  rcases List.mem_append.1 h9 with h9 | h9
  ·exact hr.lo b (by rw [hb]; exact List.mem_append_left _ h9)
  ·rcases List.mem_append.1 h9 with h9 | h9
   ·rcases hi.bx b h9 with h8 | h8
    ·exact hr.lo b (by rw [hb]; exact List.mem_append_right _ (List.mem_append_left _ h8))
    ·omega
   ·exact hr.lo b (by rw [hb]; exact List.mem_append_right _ (List.mem_append_right _ h9))
end Go.Proofs.YtmefgijobonklaaGreat
namespace Go.Proofs.YtmefgijobonklaaGreat
open Go Tw Pv Mist
abbrev VRV (A : Nat → Prop) (h : List HB) (v : PV gam) (x : TV) : Prop := Pv.VR X0 Tryz.prog (AA A []) [] h v x
abbrev lstI (l : List Int) : PV gam := .lst 3 l false
theorem VRV.slc {A : Nat → Prop} {h : List HB} {t : Nat} {l : List (gam t)} {x : TV} {sz : Nat} (hz : sizeT Tryz.prog t = some sz) (hv : VRV A h (.lst t l false) x) (hl : l ≠ []) : ∃ b off cap ex, x = .slc b off l.length cap sz ex := by
 rcases lst_SlR hv hz with ⟨_, e⟩ | ⟨b, off, cap, ex, cs, e, _⟩
 ·exact absurd e hl
 ·exact ⟨_, _, _, _, e⟩
theorem VRV.stay {A : Nat → Prop} {h h' : List HB} {v : PV gam} {x : TV} (hv : VRV A h v x) (hs : Stay h h' []) : VRV A h' v x :=
 Pv.VR.step (m := []) (m' := []) ⟨hs.1, fun b hb _ => hs.2 b hb (by simp), fun b hb => .inl hb, fun b cs hc => ⟨cs, by rw [blkCells_same (hs.2 b (blkCells_lt hc) (by simp)), hc], Nat.le_refl _⟩⟩ (fun i mb hi => .inl hi) hv
theorem VRV.cut {A : Nat → Prop} {h : List HB} {t : TypeId} {e sz : Nat} (hA : ∀ b, h.length ≤ b → A b) {l : List (gam e)} {x : TV} (hv : VRV A h (.lst e l false) x) (hu : Tryz.prog.underlying t = some (.slice e)) (hz : sizeT Tryz.prog e = some sz) {a z : Int} (h0 : 0 ≤ a) (h1 : a ≤ z) (h2 : z ≤ l.length) : ∃ w, sliceT Tryz.prog t x (some (.int .i64 a)) (some (.int .i64 z)) none = some w ∧ VRV A h (.lst e ((l.take z.toNat).drop a.toNat) false) w :=
 Pv.slice_ok (X := X0) (P := Tryz.prog) (A := A) (m := []) (ps := ⟨[], [], []⟩) (ts := ⟨[], [], h, []⟩) ⟨⟨rfl, fun i b hb => by simp at hb, by simp [blks], hA, fun b hb => by simp [blks] at hb⟩, rfl, fun k cs hc => by simp at hc, .nil⟩ (lo := some (.int .i64 a)) (hi := some (.int .i64 z)) (mx := none) hv (tlo := some (.int .i64 a)) (thi := some (.int .i64 z)) (tmx := none) (Pv.VR.int .i64 a) (Pv.VR.int .i64 z) trivial (qs := [0 ≤ a, a ≤ z, z ≤ l.length]) (by simp only [pslice, hu, hz, endP, if_true]; rfl) (fun q hq => by
  rcases List.mem_cons.1 hq with rfl | hq
  ·exact h0
  rcases List.mem_cons.1 hq with rfl | hq
  ·exact h1
  rw [List.mem_singleton.1 hq]; exact h2)
end Go.Proofs.YtmefgijobonklaaGreat
namespace Go.Proofs.YtmefgijobonklaaGreat
open Go Tw Pv Mist
theorem VRV.rd {A : Nat → Prop} {h : List HB} {l : List Int} {b off n cap : Nat} {ex : Bool} (hv : VRV A h (lstI l) (.slc b off n cap 1 ex)) {j : Nat} (hj : j < l.length) : rdAt false 1 h b (off + j * 1) (off + cap * 1) = some (.int .i64 (l.getD j 0)) ∧ n = l.length := by
 rcases lst_SlR hv szInt with ⟨e, _⟩ | ⟨b', off', cap', ex', cs, e, h1, h2, h3, h4⟩
 ·cases e
 ·cases e
  have hne : l ≠ [] := fun e => by rw [e] at hj; simp at hj
  have h3 := h3 hne
  refine ⟨?_, rfl⟩
  unfold rdAt
  rw [h3]
  simp only []
  have h9 : l.length ≤ cap := h1
  have hlen := h4.2.1
  have hlen : off + l.length * 1 ≤ cs.length := hlen
  rw [if_pos (by omega)]
  simp only [Bool.false_eq_true, if_false, if_true]
  have hlt : off + j * 1 < cs.length := by omega
  have := h4.2.2 j (l.getD j 0) 0 (.int .i64 (l.getD j 0)) cs[off + j * 1] (by show l[j]? = some (l.getD j 0); rw [List.getD_eq_getElem?_getD, List.getElem?_eq_getElem hj]; rfl) rfl (by rw [Nat.add_zero]; exact List.getElem?_eq_getElem hlt)
  rw [List.getElem?_eq_getElem hlt, this.int_inv]
end Go.Proofs.YtmefgijobonklaaGreat
namespace Go.Proofs.YtmefgijobonklaaGreat
open Go Tw Pv Mist
abbrev Tr : Nat → Prop := fun _ => True
abbrev VRF (fl : Nat) (h : List HB) (v : PV gam) (x : TV) : Prop := Pv.VR X0 Tryz.prog (fun b => b < fl) [] h v x
theorem VRF.up {fl : Nat} {h : List HB} {v : PV gam} {x : TV} (hv : VRF fl h v x) : VRV Tr h v x := hv.mono fun b _ => ⟨trivial, by simp [blks]⟩
theorem VRF.stay {fl : Nat} {h h' : List HB} {v : PV gam} {x : TV} {bs : List Nat} (hv : VRF fl h v x) (hc : clos v = true) (hs : Stay h h' bs) (hb : ∀ b ∈ bs, fl ≤ b) : VRF fl h' v x :=
 hv.move hX (fun q cs h1 h2 => ⟨h1, hs.2 q (blkCells_lt h2) fun h3 => by have := hb q h3; omega⟩) hc
theorem VRV.tail {h : List HB} {a : Int} {s : List Int} {x : TV} (hv : VRV Tr h (lstI (a :: s)) x) : ∃ w, sliceT Tryz.prog 119 x (some (.int .i64 1)) none none = some w ∧ VRV Tr h (lstI s) w := by
 have := Pv.slice_ok (X := X0) (P := Tryz.prog) (A := Tr) (m := []) (ps := ⟨[], [], []⟩) (ts := ⟨[], [], h, []⟩) ⟨⟨rfl, fun i b hb => by simp at hb, by simp [blks], fun _ _ => trivial, fun b hb => by simp [blks] at hb⟩, rfl, fun k cs hc => by simp at hc, .nil⟩ (t := 119) (lo := some (.int .i64 1)) (hi := none) (mx := none) hv (tlo := some (.int .i64 1)) (thi := none) (tmx := none) (Pv.VR.int .i64 1) trivial trivial (v := lstI (((a :: s).take (((a :: s).length : Nat) : Int).toNat).drop (1 : Int).toNat)) (qs := [0 ≤ (1 : Int), (1 : Int) ≤ ((a :: s).length : Nat), (((a :: s).length : Nat) : Int) ≤ ((a :: s).length : Nat)]) (by kernel_rfl) (fun q hq => by
  rcases List.mem_cons.1 hq with rfl | hq
  ·omega
  rcases List.mem_cons.1 hq with rfl | hq
  ·simp only [List.length_cons]; omega
  rw [List.mem_singleton.1 hq]; exact Int.le_refl _)
 obtain ⟨w, h1, h2⟩ := this
 refine ⟨w, h1, ?_⟩
 rw [show ((a :: s).take (((a :: s).length : Nat) : Int).toNat).drop (1 : Int).toNat = s by rw [Int.toNat_natCast, List.take_length]; rfl] at h2
 exact h2
end Go.Proofs.YtmefgijobonklaaGreat
namespace Go.Proofs.YtmefgijobonklaaGreat
open Go Tw Pv Mist
abbrev w72 (a : List Int) (i : Int) (s : List Int) (x : List (Nat × PE gam)) : PSt gam := ⟨[(0, xL 3 a), (3, xo 0), (6, xi a.length), (7, xi i)] ++ x, [], [.list false false 3 s]⟩
theorem l72 {n : Nat} {orc : Orc gam} (hO : Ok n orc) (a : List Int) (hl : a.length ≤ most) : Lp n 72 0 (w72 a 0 [] []) (.exit 0) (w72 a a.length (iotaI a.length) [(8, xl false)]) := by
 rw [← iotaI_fold]
 exact foldE (s0 := ([] : List Int)) (g := fun k s => s ++ [(k : Int)]) (st := fun i s => w72 a i s []) (fin := fun s => w72 a a.length s [(8, xl false)]) (fun k s => s.length = k) (by kernel_rfl) hl LLm rfl (fun k s _ h => by simp [h]) (fun k s hk hi n e p h => round hX hO (by kernel_rfl) (.b (lt_nat hk) (.o (show s.length + 1 ≤ most by omega) (.goG [.gc [2]] h)))) (fun s _ => round hX hO (by kernel_rfl) (.b (lt_no a.length) .ex))
noncomputable def oc72 : Orc gam := orcF 72 (a1 isA) iA (fun p => S_sizes p) (fun p => [p.length ≤ most]) oc89
theorem gc72 : Gd oc72 := gc89.add fun n hO p hp => fn_is hX hO (by kernel_rfl) (.wG [.nilE 3 3] (l72 hO p (hp _ (.head _))) (.o (hp _ (.head _)) (.o (show (iotaI p.length).length ≤ 2 ^ 20 by rw [iotaI_len]; exact hp _ (.head _)) (.v _ (frame_iota p)))))
def prodW (s : List Int) : Int := foldN (fun k n => IntKind.i64.wrap (n * s.getD k 0)) s.length 0 1
abbrev w73 (a : List Int) (n i : Int) (x : List (Nat × PE gam)) : PSt gam := ⟨[(3, xi n), (6, xL 3 a), (7, xi a.length), (8, xi i)] ++ x, [], []⟩
theorem l73 {n : Nat} {orc : Orc gam} (hO : Ok n orc) (a : List Int) (hl : a.length ≤ most) : Lp n 73 0 (w73 a 1 0 []) (.exit 0) (w73 a (prodW a) a.length [(9, xl false)]) :=
 foldE (st := fun i n => w73 a n i []) (fin := fun n => w73 a n a.length [(9, xl false)]) (fun _ _ => True) (by kernel_rfl) hl LLm trivial (fun _ _ _ _ => trivial) (fun k s hk _ n e p h => round hX hO (by kernel_rfl) (.b (lt_nat hk) (.o (inR_nat hk) (.go h)))) (fun s _ => round hX hO (by kernel_rfl) (.b (lt_no a.length) .ex))
theorem prodW_eq {s : List Int} (hs : SzOk s) (hm : prodI s ≤ 2000) : prodW s = prodI s := by
 have := foldN_inv (g := fun k n => IntKind.i64.wrap (n * s.getD k 0)) (m := s.length) (k := 0) (s := (1 : Int)) (fun k n => n = prodI (s.take k)) rfl (fun j n _ hj hn => by
  have e : s.take (j + 1) = s.take j ++ [s.getD j 0] := by rw [List.take_add_one, List.getElem?_eq_getElem (by omega)]; simp [List.getD, List.getElem?_eq_getElem (show j < s.length by omega)]
  have e2 : prodI (s.take (j + 1)) = n * s.getD j 0 := by rw [e, prodI_app, hn]; simp [prodI]
  have h1 := prodI_take_le hs (j + 1)
  have h2 : 1 ≤ prodI (s.take (j + 1)) := prodI_pos fun b hb => hs b (List.mem_of_mem_take hb)
  rw [e2] at h1 h2 ⊢
  exact wrap_nn (by omega) (by omega))
 unfold prodW
 rw [this, Nat.zero_add, List.take_length]
noncomputable def oc73 : Orc gam := orcF 73 (a1 isA) iA (fun p => prodI p) (fun p => [Fine p]) oc72
theorem gc73 : Gd oc73 := gc72.add fun n hO p hp => fn_is hX hO (by kernel_rfl) (.w (l73 hO p (show Fine p from hp _ (.head _)).lenM) (.v _ (prodW_eq (show Fine p from hp _ (.head _)).sz (show Fine p from hp _ (.head _)).many)))
abbrev w86 (a b : List Int) (m i : Int) (x : List (Nat × PE gam)) : PSt gam := ⟨[(1, xL 3 b), (4, xi m), (7, xL 3 a), (8, xi a.length), (9, xi i)] ++ x, [], []⟩
theorem l86 {n : Nat} {orc : Orc gam} (hO : Ok n orc) (a b : List Int) (hl : a.length ≤ most) (h : b.length = a.length) : Lp n 86 0 (w86 a b 0 0 []) (.exit 0) (w86 a b (numW a b) a.length [(10, xl false)]) :=
 foldE (st := fun i m => w86 a b m i []) (fin := fun m => w86 a b m a.length [(10, xl false)]) (fun _ _ => True) (by kernel_rfl) hl LLm trivial (fun _ _ _ _ => trivial) (fun k s hk _ n e p g => round hX hO (by kernel_rfl) (.b (lt_nat hk) (.o (inR_nat hk) (.o (inR_nat (h ▸ hk)) (.go g))))) (fun s _ => round hX hO (by kernel_rfl) (.b (lt_no a.length) .ex))
noncomputable def oc86 : Orc gam := orcF 86 (a2 isA isA) iA (fun p => numI p.1 p.2) (fun p => [isPl p.1 p.2 = true, Fine p.1]) oc73
theorem gc86 : Gd oc86 := gc73.add fun n hO p hp => fn_is hX hO (by kernel_rfl) (.w (l86 hO p.1 p.2 (show Fine p.1 from hp _ (.tail _ (.head _))).lenM (isPl_len (hp _ (.head _)))) (.v _ (numW_eq (hp _ (.head _)) (show Fine p.1 from hp _ (.tail _ (.head _))).sz (show Fine p.1 from hp _ (.tail _ (.head _))).many)))
abbrev cPt (a b : List Int) (k : Nat) : Bool := if decide (b.getD k 0 < 0) = true then true else decide (b.getD k 0 ≥ a.getD k 0)
abbrev w102 (a b : List Int) (i : Int) (x : List (Nat × PE gam)) : PSt gam := ⟨[(0, xL 3 a), (12, xL 3 b), (13, xi b.length), (14, xi i)] ++ x, [], []⟩
def z102 (a b : List Int) : Unit ⊕ Nat → Ex × PSt gam
 | .inl _ => (.exit 0, w102 a b b.length [(15, xl false)])
 | .inr _ => (.ret, ⟨[(4, xl false)], [], []⟩)
theorem l102 {n : Nat} (hO : Ok n oc86) (a b : List Int) (hl : b.length ≤ most) (h : b.length = a.length) : Lp n 102 0 (w102 a b 0 []) (z102 a b (srch (cPt a b) b.length)).1 (z102 a b (srch (cPt a b) b.length)).2 :=
 eachN (st := fun i _ => w102 a b i []) (fun _ _ => True) (by kernel_rfl) hl LLm trivial (fun k s n hk _ ih => by
  unfold gS cPt
  cases e1 : decide (b.getD k 0 < 0)
  ·exact round hX hO (by kernel_rfl) (.b (lt_nat hk) (.o (inR_nat hk) (.b e1 (.o (inR_nat (show k < a.length by omega)) (.ls (.ou nofun) (.nx (ih _ trivial)))))))
  ·exact round hX hO (by kernel_rfl) (.b (lt_nat hk) (.o (inR_nat hk) (.b e1 (.ou nofun))))
  ) (fun s _ => round hX hO (by kernel_rfl) (.b (lt_no b.length) (.ou nofun)))
theorem cPt_iff {a b : List Int} (h : b.length = a.length) : isL (srch (cPt a b) b.length) = isPl a b := by
 rw [Bool.eq_iff_iff, srch_ok, isPl_iff, h]
 simp only [true_and]
 refine forall_congr' fun j => forall_congr' fun hj => ?_
 unfold cPt
 by_cases c : b.getD j 0 < 0
 ·rw [if_pos (by simpa using c)]
  constructor
  ·intro h; cases h
  ·rintro ⟨h1, _⟩; omega
 ·rw [if_neg (by simpa using c), decide_eq_false_iff_not]; omega
noncomputable def oc102 : Orc gam := orcF 102 (a2 isA isA) tA (fun p => isPl p.1 p.2) (fun p => [p.2.length ≤ most]) oc86
theorem gc102 : Gd oc102 := gc86.add fun n hO p hp => fn_is hX hO (by kernel_rfl) (.s (fun h => .v false (pl_len h).symm) fun h => .z (c := isL (srch (cPt p.1 p.2) p.2.length)) (fun h2 => .w (exInl (l102 hO p.1 p.2 (hp _ (.head _)) (len_eq h)) () h2) (.v true (by rw [← cPt_iff (len_eq h), h2]))) fun h2 => .w (exInr (l102 hO p.1 p.2 (hp _ (.head _)) (len_eq h)) 0 h2) (.v false (by rw [← cPt_iff (len_eq h), h2])))
def S_vCheck (v : V) : Int := if (!(S_isCell v)) = true then 2 else 0
noncomputable def oc114 : Orc gam := orcF 114 (a1 vA) iA (fun p => S_vCheck p) np oc102
theorem gc114 : Gd oc114 := gc102.add fun n hO p hp => fn_is hX hO (by kernel_rfl) (.ss .rr .rr)
noncomputable def oc75 : Orc gam := orcF 75 (a1 vA) tA (fun p => S_vCheck p == 0) np oc114
theorem gc75 : Gd oc75 := gc114.add fun n hO p hp => fn_is hX hO (by kernel_rfl) .rr
def S_opnd (c : Int) : Int := if (c == 5) = true then 1 else if (c == 6) = true then 1 else if decide (7 ≤ c) = true then (if decide (c ≤ 16) = true then 2 else if (c == 17) = true then 3 else 0) else if (c == 17) = true then 3 else 0
abbrev cFT (r : Rw) (k : Nat) : Bool := decide (r.fr.getD k 0 > r.to.getD k 0)
abbrev w117 (r : Rw) (i : Int) (x : List (Nat × PE gam)) : PSt gam := ⟨[(3, .loc 0 0), (26, xL 3 r.fr), (27, xi r.fr.length), (28, xi i)] ++ x, [r.ps], []⟩
def z117 (r : Rw) : Unit ⊕ Nat → Ex × PSt gam
 | .inl _ => (.exit 0, w117 r r.fr.length [(29, xl false)])
 | .inr _ => (.ret, ⟨[(4, xl false)], [r.ps], []⟩)
theorem l117 {n : Nat} {orc : Orc gam} (hO : Ok n orc) (r : Rw) (hl : r.fr.length ≤ most) (ht : r.to.length = r.fr.length) : Lp n 117 0 (w117 r 0 []) (z117 r (srch (cFT r) r.fr.length)).1 (z117 r (srch (cFT r) r.fr.length)).2 :=
 searchL (st := fun i _ => w117 r i []) (fun _ _ => True) (by kernel_rfl) hl trivial (fun k s m hk _ ih => round hX hO (by kernel_rfl) (.b (lt_nat hk) (.o (inR_nat hk) (.o (inR_nat (ht ▸ hk)) (.ls (.ou nofun) (.nx (ih _ trivial))))))) (fun s _ => round hX hO (by kernel_rfl) (.b (lt_no r.fr.length) (.ou nofun)))
def S_tRow (s : List Int) (r : Rw) : Bool := if (!(isPl s r.fr)) = true then false else if (!(isPl s r.to)) = true then false else if (!(S_vCheck r.cell == 0)) = true then false else if isL (srch (cFT r) r.fr.length) = true then true else false
theorem row_len {s : List Int} {a b : List Int} (h1 : (!(isPl s a)) = false) (h2 : (!(isPl s b)) = false) : b.length = a.length := by
 rw [isPl_len (s := s) (p := b) (by simpa using h2), isPl_len (s := s) (p := a) (by simpa using h1)]
noncomputable def oc117 : Orc gam := orcF 117 (a2 isA rwA) tA (fun p => S_tRow p.1 p.2) (fun p => [p.2.fr.length ≤ most, p.2.to.length ≤ most]) oc75
theorem gc117 : Gd oc117 := gc75.add fun n hO p hp => fn_is hX hO (by kernel_rfl) (.o (hp _ (.head _)) (.sh (fun _ => .rr) fun h1 => .o (hp _ (.tail _ (.head _))) (.sh (fun _ => .rr) fun h2 => .ss .rr (.zh (fun h => .w (exInl (l117 hO p.2 (hp _ (.head _)) (row_len h1 h2)) () h) .rr) fun h => .w (exInr (l117 hO p.2 (hp _ (.head _)) (row_len h1 h2)) 0 h) .rr))))
def S_tRes (c : Int) (l : V × V × V) : V := if (S_opnd c == 1) = true then (S_vOp1T c l.1).1 else if (S_opnd c == 2) = true then (S_vOp2T c l.1 l.2.1).1 else (S_vChoose l.1 l.2.1 l.2.2).1
abbrev w203 (f : Nat) (a c : List (PV gam)) (H : List (PB gam)) (l : List Rw) (i : Int) (x : List (Nat × PE gam)) : PSt gam := ⟨[(0, xL 95 l), (1, .val (.fn f a c)), (7, xi l.length), (8, xi i)] ++ x, [], H⟩
def z203 (f : Nat) (a c : List (PV gam)) (H : List (PB gam)) (l : List Rw) : Unit ⊕ Nat → Ex × PSt gam
 | .inl _ => (.exit 0, w203 f a c H l l.length [(9, xl false)])
 | .inr k => (.ret, ⟨[(4, xi k)], [], H⟩)
theorem q162 {n f : Nat} {a c : List (PV gam)} {H : List (PB gam)} {g : Rw → Bool} (l : List Rw) (hf : ∀ x ∈ l, Sim X0 Tryz.prog (ApN n) (.fn f a c) [.agg x.ps] H (.bool (g x)) H) (hl : l.length ≤ most) : Sim X0 Tryz.prog (ApN (n + 2)) (.fn 162 [] []) [.lst 95 l false, .fn f a c] H (tA.put (l.any g)) H := by
 have lp : LpB n 203 0 H.length (w203 f a c H l 0 []) (z203 f a c H l (srch (fun k => g (l.getD k Rw0)) l.length)).1 (z203 f a c H l (srch (fun k => g (l.getD k Rw0)) l.length)).2 :=
  eachN (st := fun i _ => w203 f a c H l i []) (fun _ _ => True) (by kernel_rfl) hl LLm trivial (fun k s n hk _ ih => round hX ok0 (by kernel_rfl) (.b (lt_nat hk) (.o (inR_nat hk) (.k (hf (l.getD k Rw0) (by simp [List.getD, List.getElem?_eq_getElem hk])) (.ls (.ou nofun) (.nx (ih _ trivial))))))) (fun s _ => round hX ok0 (by kernel_rfl) (.b (lt_no l.length) (.ou nofun)))
 have hs : isL (srch (fun k => g (l.getD k Rw0)) l.length) = !(l.any g) := by
  rw [Bool.eq_iff_iff, srch_ok]
  simp only [Bool.not_eq_true', List.any_eq_false]
  constructor
  ·intro h x hx
   obtain ⟨k, hk, rfl⟩ := List.mem_iff_getElem.1 hx
   have := h k hk
   simpa [List.getD, List.getElem?_eq_getElem hk] using this
  ·intro h k hk
   have := h l[k] (List.getElem_mem hk)
   simpa [List.getD, List.getElem?_eq_getElem hk] using this
 have h1 : Sim X0 Tryz.prog (ApN (n + 1)) (.fn 203 [] []) [.lst 95 l false, .fn f a c] H (iA.put (if isL (srch (fun k => g (l.getD k Rw0)) l.length) = true then -1 else ((getR 0 (srch (fun k => g (l.getD k Rw0)) l.length) : Nat) : Int))) H :=
  sim_is hX ok0 (first := []) (cap := []) (by kernel_rfl) (.szh (fun h => .w (exInl lp () h) .sr) (fun h => .w (exInr lp 0 h) .sr))
 have e : l.any g = decide ((if isL (srch (fun k => g (l.getD k Rw0)) l.length) = true then (-1 : Int) else ((getR 0 (srch (fun k => g (l.getD k Rw0)) l.length) : Nat) : Int)) ≥ 0) := by
  rw [hs]
  cases l.any g
  ·rfl
  ·simp
 rw [e]
 exact sim_is hX ok0 (first := []) (cap := []) (by kernel_rfl) (.k h1 .sr)
end Go.Proofs.YtmefgijobonklaaGreat
namespace Go.Proofs.YtmefgijobonklaaGreat
open Go Tw Pv Mist
noncomputable def oc129 : Orc gam := orcE 129 (a1 isA) (fun _ => .fn 175 [] [.ptr 0 0 1]) (fun s => [.cells [.lst 3 s false]]) np oc117
theorem gc129 : Gd oc129 := gc117.deepE 0 fun n _ hO p hp => fn_ex hX (hO n (by omega)) (by kernel_rfl) .er
abbrev envP (s : List Int) : List (Nat × PE gam) := [(3, .val (.ptr 0 0 1)), (4, .val (.nil .slc)), (5, .val (.ptr 2 0 1)), (12, .val (.fn 175 [] [.ptr 3 0 1]))]
noncomputable abbrev LRP (s : List Int) (rd : Bool) (pend : Option Code) : PB gam := .loop rd 85 (ntP Tryz.prog 85) (envP s) [13, 14] (rfAssign Tryz.prog 85) (rfBody Tryz.prog 85) pend
noncomputable abbrev MP (s : List Int) (rd : Bool) (x : Int × List Int) : List (PB gam) := [.cells [.int .i64 x.1], oI true true x.2, .cells [.own 1], .cells [.lst 3 s false], .mark, LRP s rd none]
theorem yP {n : Nat} (hO : Ok n oc129) {s : List Int} (x : Int × List Int) {k : Nat} (hk : k < x.2.length) (hz : s.getD k 0 ≠ 0) : Sim X0 Tryz.prog (ApN (n + 1)) (.yld 5) [.int .i64 k, .int .i64 (s.getD k 0)] (MP s true x) (.bool true) (MP s true (gNth s k x)) := by
 obtain ⟨m, o⟩ := x
 have hk : inR k o.length := inR_nat hk
 unfold gNth
 generalize s.getD k 0 = z at hz ⊢
 have q1 : ExecS X0 Tryz.prog T (ApN n) LL 85 true (ntP Tryz.prog 85) 6 (rfAssign Tryz.prog 85) ⟨pputAll (envP s) [13, 14] [.int .i64 k, .int .i64 z], [], MP s true (m, o)⟩ .norm ⟨[(3, .val (.ptr 0 0 1)), (5, .val (.ptr 2 0 1)), (6, xi k), (7, xi z)], [], MP s true (m, o)⟩ := exec_fp hX hO (by kernel_rfl) .xx
 have q2 : ExecS X0 Tryz.prog T (ApN n) LL 85 true (ntP Tryz.prog 85) 6 (rfBody Tryz.prog 85) ⟨[(3, .val (.ptr 0 0 1)), (5, .val (.ptr 2 0 1)), (6, xi k), (7, xi z)], [], MP s false (m, o)⟩ .norm ⟨[], [], MP s false (quoI .i64 m z, o.set k (remI .i64 m z))⟩ := exec_fp hX hO (by kernel_rfl) (.o hz (.o hz (.o hk .xx)))
 exact yld_sim hX (l := 5) rfl rfl (by kernel_rfl) q1 rfl q2 rfl
noncomputable abbrev wBk (s : List Int) (i : Int) (x : Int × List Int) (y : List (Nat × PE gam)) : PSt gam := ⟨[(0, .val (.yld 5)), (1, .val (.ptr 3 0 1)), (3, xi i)] ++ y, [], MP s true x⟩
theorem lBk {n : Nat} (hO : ∀ m, n ≤ m → Ok m oc129) {s : List Int} (hl : s.length ≤ most) (hs : SzOk s) (m : Int) : LpB (n + 1) 175 0 6 (wBk s (IntKind.i64.wrap ((s.length : Int) - 1)) (m, List.replicate s.length 0) []) (.exit 0) (wBk s (-1) (downN (gNth s) s.length (m, List.replicate s.length 0)) [(8, xl false)]) :=
 downE (X := X0) (P := Tryz.prog) (T := T) (st := fun i x => wBk s i x []) (fin := fun x => wBk s (-1) x [(8, xl false)]) (fun _ x => x.2.length = s.length) (by kernel_rfl) hl LLm (by simp) (fun k x _ h => by simp [gNth, h]) (fun k x hk hi q e p h => by
  have hy := yP (hO n (Nat.le_refl _)) (s := s) x (k := k) (by omega) (szk hs hk)
  generalize gNth s k x = y at hy h
  exact round hX (hO (n + 1) (by omega)) (by kernel_rfl) (.b (ge_nat k) (.o (inR_nat hk) (.k hy (.b (rfl : (!true) = false) (.go h)))))
  ) (fun x _ => round hX (hO (n + 1) (by omega)) (by kernel_rfl) (.b (rfl : decide ((-1 : Int) ≥ 0) = false) .ex))
theorem sBk {n : Nat} (hO : ∀ m, n ≤ m → Ok m oc129) {s : List Int} (hl : s.length ≤ most) (hs : SzOk s) (m : Int) : Sim X0 Tryz.prog (ApN (n + 2)) (.fn 175 [] [.ptr 3 0 1]) [.yld 5] (MP s true (m, List.replicate s.length 0)) (.tup []) (MP s true (downN (gNth s) s.length (m, List.replicate s.length 0))) := by
 have hb := lBk hO hl hs m
 generalize downN (gNth s) s.length (m, List.replicate s.length 0) = y at hb ⊢
 exact sim_ex hX (hO (n + 1) (by omega)) (first := []) (cap := [.ptr 3 0 1]) (by kernel_rfl) (.w hb .er)
structure PlP (p : List Int × Int) : Prop where
 len : p.1.length ≤ most
 sz : SzOk p.1
 lo : 0 ≤ p.2
 hi : p.2 < 2 ^ 62
noncomputable def oc85 : Orc gam := orcF 85 (a2 isA iA) isA (fun p => nthI p.1 p.2) (fun p => [PlP p]) oc129
theorem gc85 : Gd oc85 := gc129.deep 3 fun n hn hO p hp => by
 obtain ⟨n, rfl⟩ : ∃ k, n = k + 2 := ⟨n - 2, by omega⟩
 have h : PlP p := hp _ (.head _)
 obtain ⟨s, m⟩ := p
 have hb := sBk (n := n) (fun q hq => hO q (by omega)) h.len h.sz m
 have hv := nth_down (s := s) (n := m) h.sz h.lo h.hi (o := List.replicate s.length 0) (by simp)
 generalize downN (gNth s) s.length (m, List.replicate s.length 0) = y at hb hv
 have hl : (s.length : Int) ≤ (most : Int) := by have : s.length ≤ most := h.len; omega
 have hr : ExecS X0 Tryz.prog T (ApN (n + 2)) LL 85 false (ntP Tryz.prog 85) 0 (.rangeFunc (.tmp 12) #[13, 14] (rfAssign Tryz.prog 85) (rfBody Tryz.prog 85)) ⟨envP s, [], [.cells [.int .i64 m], oI true true (List.replicate s.length 0), .cells [.own 1], .cells [.lst 3 s false]]⟩ .norm ⟨envP s, [], (MP s true y).set 5 (LRP s false (some .skip))⟩ := rf_exec hX (ps := ⟨envP s, [], [.cells [.int .i64 m], oI true true (List.replicate s.length 0), .cells [.own 1], .cells [.lst 3 s false]]⟩) rfl rfl hb rfl rfl
 exact fn_is hX (hO (n + 2) (by omega)) (by kernel_rfl) (.o (rfl : (s.length : Int) = (s.length : Int)) (.o (show (0 : Int) ≤ (s.length : Int) by omega) (.o hl (.w hr (.v y.2 hv)))))
end Go.Proofs.YtmefgijobonklaaGreat
namespace Go.Proofs.YtmefgijobonklaaGreat
open Go Tw Pv Mist
def gMax (l : List Int) (k : Nat) (m : Int) : Int := if l.getD (IntKind.i64.wrap ((k : Int) + 1)).toNat 0 > m then l.getD (IntKind.i64.wrap ((k : Int) + 1)).toNat 0 else m
def S_lMax (l : List Int) : Int := foldN (gMax l) (l.length - 1) 0 (l.getD 0 0)
abbrev w120 (l : List Int) (m i : Int) (x : List (Nat × PE gam)) : PSt gam := ⟨[(0, xL 3 l), (3, xi m), (4, xi i)] ++ x, [], []⟩
theorem l120 {n : Nat} {orc : Orc gam} (hO : Ok n orc) (l : List Int) (hl : l.length ≤ most) (h0 : 0 < l.length) : Lp n 120 0 (w120 l (l.getD 0 0) 1 []) (.exit 0) (w120 l (S_lMax l) (IntKind.i64.wrap (((l.length - 1 : Nat) : Int) + 1)) [(15, xl false)]) := by
 refine foldE (X := X0) (P := Tryz.prog) (T := T) (g := gMax l) (s0 := l.getD 0 0) (N := l.length - 1) (st := fun i m => w120 l m (IntKind.i64.wrap (i + 1)) []) (fin := fun m => w120 l m (IntKind.i64.wrap (((l.length - 1 : Nat) : Int) + 1)) [(15, xl false)]) (fun _ _ => True) (by kernel_rfl) (by omega) LLm trivial (fun _ _ _ _ => trivial) (fun k s hk _ n e p h => ?_) (fun s _ => ?_)
 ·have e1 : IntKind.i64.wrap ((k : Int) + 1) = (k : Int) + 1 := wrap_nn (by omega) (by unfold most at hl; omega)
  have t1 : decide (IntKind.i64.wrap ((k : Int) + 1) < (l.length : Int)) = true := by rw [e1, decide_eq_true_eq]; omega
  have t2 : inR (IntKind.i64.wrap ((k : Int) + 1)) l.length := by rw [e1]; exact ⟨by omega, by omega⟩
  exact round hX hO (by kernel_rfl) (.b t1 (.o t2 (.go h)))
 ·have e1 : IntKind.i64.wrap (((l.length - 1 : Nat) : Int) + 1) = ((l.length - 1 : Nat) : Int) + 1 := wrap_nn (by omega) (by unfold most at hl; omega)
  have t1 : decide (IntKind.i64.wrap (((l.length - 1 : Nat) : Int) + 1) < (l.length : Int)) = false := by rw [e1, decide_eq_false_iff_not]; omega
  exact round hX hO (by kernel_rfl) (.b t1 .ex)
noncomputable def oc120 : Orc gam := orcF 120 (a1 isA) iA (fun p => S_lMax p) (fun p => [p.length ≤ most, 0 < p.length]) oc85
theorem gc120 : Gd oc120 := gc85.add fun n hO p hp => fn_is hX hO (by kernel_rfl) (.b (show decide ((p.length : Int) < 1) = false by have h : 0 < p.length := hp _ (.tail _ (.head _)); rw [decide_eq_false_iff_not]; omega) (.o (show inR 0 p.length by have h : 0 < p.length := hp _ (.tail _ (.head _)); exact ⟨by omega, by omega⟩) (.w (l120 hO p (hp _ (.head _)) (hp _ (.tail _ (.head _)))) .rr)))
def gMin (l : List Int) (k : Nat) (m : Int) : Int := if l.getD (IntKind.i64.wrap ((k : Int) + 1)).toNat 0 < m then l.getD (IntKind.i64.wrap ((k : Int) + 1)).toNat 0 else m
def S_lMin (l : List Int) : Int := foldN (gMin l) (l.length - 1) 0 (l.getD 0 0)
abbrev w121 (l : List Int) (m i : Int) (x : List (Nat × PE gam)) : PSt gam := ⟨[(0, xL 3 l), (3, xi m), (4, xi i)] ++ x, [], []⟩
theorem l121 {n : Nat} {orc : Orc gam} (hO : Ok n orc) (l : List Int) (hl : l.length ≤ most) (h0 : 0 < l.length) : Lp n 121 0 (w121 l (l.getD 0 0) 1 []) (.exit 0) (w121 l (S_lMin l) (IntKind.i64.wrap (((l.length - 1 : Nat) : Int) + 1)) [(15, xl false)]) := by
 refine foldE (X := X0) (P := Tryz.prog) (T := T) (g := gMin l) (s0 := l.getD 0 0) (N := l.length - 1) (st := fun i m => w121 l m (IntKind.i64.wrap (i + 1)) []) (fin := fun m => w121 l m (IntKind.i64.wrap (((l.length - 1 : Nat) : Int) + 1)) [(15, xl false)]) (fun _ _ => True) (by kernel_rfl) (by omega) LLm trivial (fun _ _ _ _ => trivial) (fun k s hk _ n e p h => ?_) (fun s _ => ?_)
 ·have e1 : IntKind.i64.wrap ((k : Int) + 1) = (k : Int) + 1 := wrap_nn (by omega) (by unfold most at hl; omega)
  have t1 : decide (IntKind.i64.wrap ((k : Int) + 1) < (l.length : Int)) = true := by rw [e1, decide_eq_true_eq]; omega
  have t2 : inR (IntKind.i64.wrap ((k : Int) + 1)) l.length := by rw [e1]; exact ⟨by omega, by omega⟩
  exact round hX hO (by kernel_rfl) (.b t1 (.o t2 (.go h)))
 ·have e1 : IntKind.i64.wrap (((l.length - 1 : Nat) : Int) + 1) = ((l.length - 1 : Nat) : Int) + 1 := wrap_nn (by omega) (by unfold most at hl; omega)
  have t1 : decide (IntKind.i64.wrap (((l.length - 1 : Nat) : Int) + 1) < (l.length : Int)) = false := by rw [e1, decide_eq_false_iff_not]; omega
  exact round hX hO (by kernel_rfl) (.b t1 .ex)
noncomputable def oc121 : Orc gam := orcF 121 (a1 isA) iA (fun p => S_lMin p) (fun p => [p.length ≤ most, 0 < p.length]) oc120
theorem gc121 : Gd oc121 := gc120.add fun n hO p hp => fn_is hX hO (by kernel_rfl) (.b (show decide ((p.length : Int) < 1) = false by have h : 0 < p.length := hp _ (.tail _ (.head _)); rw [decide_eq_false_iff_not]; omega) (.o (show inR 0 p.length by have h : 0 < p.length := hp _ (.tail _ (.head _)); exact ⟨by omega, by omega⟩) (.w (l121 hO p (hp _ (.head _)) (hp _ (.tail _ (.head _)))) .rr)))
theorem max_one {l : List Int} (h0 : 0 < l.length) (hl : l.length ≤ most) : decide (S_lMax l > 1) = l.any fun x => decide (x > 1) := by
 have h := foldN_inv (g := gMax l) (m := l.length - 1) (k := 0) (s := l.getD 0 0) (fun k m => decide (m > 1) = (l.take (k + 1)).any fun x => decide (x > 1)) (by cases l with | nil => simp at h0 | cons a l => simp) (fun k m _ hk hm => by
  have e1 : IntKind.i64.wrap ((k : Int) + 1) = ((k + 1 : Nat) : Int) := by rw [wrap_nn (by omega) (by unfold most at hl; omega)]; push_cast; rfl
  have e2 : l.take (k + 1 + 1) = l.take (k + 1) ++ [l.getD (k + 1) 0] := by rw [List.take_add_one, List.getElem?_eq_getElem (by omega)]; simp [List.getD, List.getElem?_eq_getElem (show k + 1 < l.length by omega)]
  simp only [gMax, e1, Int.toNat_natCast]
  rw [e2, List.any_append, ← hm]
  simp only [List.any_cons, List.any_nil, Bool.or_false]
  rw [Bool.eq_iff_iff]
  simp only [Bool.or_eq_true, decide_eq_true_eq]
  split <;> omega)
 have e : 0 + (l.length - 1) + 1 = l.length := by omega
 rw [e, List.take_length] at h
 exact h
theorem min_zero {l : List Int} (h0 : 0 < l.length) (hl : l.length ≤ most) (hn : ∀ x ∈ l, 0 ≤ x) : (S_lMin l == 0) = l.any fun x => x == 0 := by
 have h := foldN_inv (g := gMin l) (m := l.length - 1) (k := 0) (s := l.getD 0 0) (fun k m => 0 ≤ m ∧ (m == 0) = (l.take (k + 1)).any fun x => x == 0) (by cases l with | nil => simp at h0 | cons a l => simpa using hn a (List.mem_cons_self ..)) (fun k m _ hk hm => by
  have e1 : IntKind.i64.wrap ((k : Int) + 1) = ((k + 1 : Nat) : Int) := by rw [wrap_nn (by omega) (by unfold most at hl; omega)]; push_cast; rfl
  have e2 : l.take (k + 1 + 1) = l.take (k + 1) ++ [l.getD (k + 1) 0] := by rw [List.take_add_one, List.getElem?_eq_getElem (by omega)]; simp [List.getD, List.getElem?_eq_getElem (show k + 1 < l.length by omega)]
  have h9 := hn _ (getD_mem (show k + 1 < l.length by omega))
  simp only [gMin, e1, Int.toNat_natCast]
  rw [e2, List.any_append, ← hm.2]
  have h8 := hm.1
  simp only [List.any_cons, List.any_nil, Bool.or_false]
  refine ⟨by split <;> omega, ?_⟩
  rw [Bool.eq_iff_iff]
  simp only [Bool.or_eq_true, beq_iff_eq]
  split <;> omega)
 have e : 0 + (l.length - 1) + 1 = l.length := by omega
 rw [e, List.take_length] at h
 exact h.2
end Go.Proofs.YtmefgijobonklaaGreat
namespace Go.Proofs.YtmefgijobonklaaGreat
open Go Tw Pv Mist
noncomputable def oc119 : Orc gam := orcE 119 (a2 isA rwA) (fun _ => .fn 164 [] [.ptr 1 0 4, .ptr 0 0 1]) (fun p => [.cells [.lst 3 p.1 false], .cells p.2.ps]) np oc121
theorem gc119 : Gd oc119 := gc121.deepE 0 fun n _ hO p hp => fn_ex hX (hO n (by omega)) (by kernel_rfl) .er
structure Ly where
 s : List Int
 ts : List (List Rw)
 rows : List Rw
 r : Rw
 acc : List Ld
 i : Int
 k : Int
abbrev envY (y : Ly) : List (Nat × PE gam) := [(4, .val (.nil .slc)), (5, xi 0), (6, xL 3 y.s), (7, .val (.fn 117 [.lst 3 y.s false] [])), (9, xo 0), (12, .val (.ptr 3 0 2)), (13, .val (.ptr 5 0 1)), (15, .val (.ptr 6 0 4)), (25, xL 28 y.ts), (26, xi y.ts.length), (27, xi y.i), (49, xL 95 y.rows), (50, xi y.rows.length), (51, xi y.k), (57, .val (.fn 164 [] [.ptr 8 0 4, .ptr 7 0 1]))]
noncomputable abbrev LRY (y : Ly) (rd : Bool) (pend : Option Code) : PB gam := .loop rd 80 (ntP Tryz.prog 80) (envY y) [58] (rfAssign Tryz.prog 80) (rfBody Tryz.prog 80) pend
noncomputable abbrev MY0 (y : Ly) (x : List Int × List V) : List (PB gam) := [.list false false 124 y.acc, .cells [.lst 95 y.rows false], .list true true 58 x.2, .cells [.lst 3 y.s false, .own 2], oI true true x.1, .cells [.own 4], .cells y.r.ps, .cells [.lst 3 y.s false], .cells y.r.ps]
noncomputable abbrev MY (y : Ly) (rd : Bool) (x : List Int × List V) : List (PB gam) := MY0 y x ++ [.mark, LRY y rd none]
def stB (c : V) (x : List Int × List V) (q : Int) : List Int × List V := (x.1.set q.toNat (IntKind.i64.wrap (x.1.getD q.toNat 0 + 1)), x.2.set q.toNat c)
theorem yB {n : Nat} {orc : Orc gam} (hO : Ok n orc) (y : Ly) (x : List Int × List V) {q : Int} (h1 : inR q x.1.length) (h2 : inR q x.2.length) : Sim X0 Tryz.prog (ApN (n + 1)) (.yld 10) [.int .i64 q] (MY y true x) (.bool true) (MY y true (stB y.r.cell x q)) := by
 obtain ⟨a, b⟩ := x
 have h1 : inR q a.length := h1
 have h2 : inR q b.length := h2
 unfold stB
 have q1 : ExecS X0 Tryz.prog T (ApN n) LL 80 true (ntP Tryz.prog 80) 11 (rfAssign Tryz.prog 80) ⟨pputAll (envY y) [58] [.int .i64 q], [], MY y true (a, b)⟩ .norm ⟨[(12, .val (.ptr 3 0 2)), (13, .val (.ptr 5 0 1)), (15, .val (.ptr 6 0 4)), (16, xi q)], [], MY y true (a, b)⟩ := exec_fp hX hO (by kernel_rfl) .xx
 have q2 : ExecS X0 Tryz.prog T (ApN n) LL 80 true (ntP Tryz.prog 80) 11 (rfBody Tryz.prog 80) ⟨[(12, .val (.ptr 3 0 2)), (13, .val (.ptr 5 0 1)), (15, .val (.ptr 6 0 4)), (16, xi q)], [], MY y false (a, b)⟩ .norm ⟨[], [], MY y false (a.set q.toNat (IntKind.i64.wrap (a.getD q.toNat 0 + 1)), b.set q.toNat y.r.cell)⟩ := exec_fp hX hO (by kernel_rfl) (.o h1 (.o h1 (.o h2 .xx)))
 exact yld_sim hX (l := 10) rfl rfl (by kernel_rfl) q1 rfl q2 rfl
noncomputable abbrev wBx (y : Ly) (p : List Int) (x : List Int × List V) (z : List (Nat × PE gam)) : PSt gam := ⟨[(0, .val (.yld 10)), (1, .val (.ptr 8 0 4)), (2, .val (.ptr 7 0 1)), (4, .val (.own 11))] ++ z, [], MY y true x ++ [.list false false 3 p]⟩
def gIb (r : Rw) (x : Int × List Int) : (Int × List Int) ⊕ (Int × List Int) := if decide (x.1 ≥ 0) = true then (if (x.2.getD x.1.toNat 0 == r.to.getD x.1.toNat 0) = true then .inl (IntKind.i64.wrap (x.1 - 1), x.2.set x.1.toNat (r.fr.getD x.1.toNat 0)) else .inr x) else .inr x
theorem ib_it {r : Rw} : ∀ (k : Nat) (p : List Int), k ≤ 6 → itF (gIb r) (k + 1) ((k : Int) - 1, p) = some (((car r.fr r.to k p).1 : Int) - 1, (car r.fr r.to k p).2)
 | 0, p, _ => by
  simp only [itF, gIb, car]
  rw [if_neg (by simp)]
 | k + 1, p, h => by
  rw [itF]
  simp only [gIb, car]
  have hk : (((k + 1 : Nat) : Int) - 1).toNat = k := by omega
  rw [if_pos (decide_eq_true (by omega)), hk, wdown (by omega)]
  by_cases e : p.getD k 0 = r.to.getD k 0
  ·rw [if_pos (by simpa using e), if_pos e]
   exact ib_it k _ (by omega)
  ·rw [if_neg (by simpa using e), if_neg e]
theorem lIb {n : Nat} (hO : Ok n oc119) (y : Ly) {p : List Int} (hl : p.length ≤ 6) (hf : y.r.fr.length = p.length) (ht : y.r.to.length = p.length) (x : List Int × List V) : LpB n 164 1 11 (wBx y p x [(5, xi ((p.length : Int) - 1))]) (.exit 2) (wBx y (car y.r.fr y.r.to p.length p).2 x [(5, xi (((car y.r.fr y.r.to p.length p).1 : Int) - 1)), (31, xl false)]) := by
 have hit := ib_it (r := y.r) p.length p hl
 refine whileE (X := X0) (P := Tryz.prog) (T := T) (st := fun z => wBx y z.2 x [(5, xi z.1)]) (g := gIb y.r) (s := ((p.length : Int) - 1, p)) (out := fun z => (.exit 2, wBx y z.2 x [(5, xi z.1), (31, xl false)])) (fun z => z.2.length = p.length ∧ z.1 < p.length) hit (by kernel_rfl) (show p.length + 1 ≤ LL by have := LLm; unfold most at this; omega) ⟨rfl, by show (p.length : Int) - 1 < _; omega⟩ ?_ ?_
 ·rintro ⟨a, q⟩ ⟨b, r⟩ ⟨h1, h2⟩ e
  unfold gIb at e
  split at e
  ·rename_i c
   split at e
   ·cases e
    have c : a ≥ 0 := by simpa using c
    have h2 : a < (p.length : Int) := h2
    refine ⟨by simpa using h1, ?_⟩
    show IntKind.i64.wrap (a - 1) < _
    rw [wrap_nn (by omega) (by omega)]
    omega
   ·cases e
  ·cases e
 ·rintro ⟨a, q⟩ m r' ⟨h1, h2⟩ ih
  have h1 : q.length = p.length := h1
  have h2 : a < (p.length : Int) := h2
  by_cases c : a ≥ 0
  ·have t1 : decide (a ≥ 0) = true := by simpa using c
   have i1 : inR a q.length := ⟨c, by omega⟩
   have i2 : inR a y.r.to.length := ⟨c, by omega⟩
   have i3 : inR a y.r.fr.length := ⟨c, by omega⟩
   cases t2 : q.getD a.toNat 0 == y.r.to.getD a.toNat 0
   ·have e : gIb y.r (a, q) = .inr (a, q) := by unfold gIb; rw [if_pos t1, if_neg (by simp only []; rw [t2]; simp)]
    rw [e]
    dsimp only [contW]
    exact round hX hO (by kernel_rfl) (.b t1 (.o i1 (.o i2 (.b t2 .ex))))
   ·have e : gIb y.r (a, q) = .inl (IntKind.i64.wrap (a - 1), q.set a.toNat (y.r.fr.getD a.toNat 0)) := by unfold gIb; rw [if_pos t1, if_pos t2]
    have g := ih _ e
    rw [e]
    exact round hX hO (by kernel_rfl) (.b t1 (.o i1 (.o i2 (.b t2 (.o i3 (.o i1 (.go g)))))))
  ·have t1 : decide (a ≥ 0) = false := by simpa using c
   have e : gIb y.r (a, q) = .inr (a, q) := by unfold gIb; rw [if_neg (by simp only []; rw [t1]; simp)]
   rw [e]
   dsimp only [contW]
   exact round hX hO (by kernel_rfl) (.b t1 .ex)
structure RowIn (s : List Int) (r : Rw) : Prop where
 f : isPl s r.fr = true
 t : isPl s r.to = true
 le : LeB r.to r.fr
def gBx (y : Ly) (z : List Int × List Int × List V) : (List Int × List Int × List V) ⊕ (Int × List Int × List Int × List V) := if decide ((((car y.r.fr y.r.to z.1.length z.1).1 : Nat) : Int) - 1 < 0) = true then .inr ((((car y.r.fr y.r.to z.1.length z.1).1 : Nat) : Int) - 1, (car y.r.fr y.r.to z.1.length z.1).2, stB y.r.cell z.2 (numI y.s z.1))
 else .inl ((car y.r.fr y.r.to z.1.length z.1).2.set ((((car y.r.fr y.r.to z.1.length z.1).1 : Nat) : Int) - 1).toNat (IntKind.i64.wrap ((car y.r.fr y.r.to z.1.length z.1).2.getD ((((car y.r.fr y.r.to z.1.length z.1).1 : Nat) : Int) - 1).toNat 0 + 1)), stB y.r.cell z.2 (numI y.s z.1))
theorem car_pl {s f t : List Int} (hf : isPl s f = true) : ∀ (k : Nat) (p : List Int), isPl s p = true → isPl s (car f t k p).2 = true
 | 0, p, h => h
 | k + 1, p, h => by
  simp only [car]
  split
  ·rcases Nat.lt_or_ge k s.length with hk | hk
   ·have h1 := (isPl_iff.1 hf).2 k hk
    exact car_pl hf k _ (set_isPl (ch := (k : Int)) h (inR_nat hk) ⟨h1.1, by rw [Int.toNat_natCast]; omega⟩)
   ·have hp := isPl_len h
    rw [List.set_eq_of_length_le (by omega)]
    exact car_pl hf k _ h
  ·exact h
theorem leB_get : ∀ {t q : List Int}, LeB t q → ∀ j, j < t.length → q.getD j 0 ≤ t.getD j 0
 | [], _, _, j, h => by simp at h
 | _ :: _, [], h, _, _ => h.elim
 | _ :: _, _ :: _, h, 0, _ => h.1
 | _ :: _, _ :: _, h, j + 1, hj => leB_get h.2 j (by simpa using hj)
theorem gBx_eq {y : Ly} (hf : Fine y.s) (hr : RowIn y.s y.r) {p : List Int} (hp : isPl y.s p = true) (hq : LeB y.r.to p) (x : List Int × List V) : match nextB y.r.fr y.r.to p with
  | none => ∃ a q, q.length = p.length ∧ gBx y (p, x) = .inr (a, q, stB y.r.cell x (numI y.s p))
  | some q => isPl y.s q = true ∧ LeB y.r.to q ∧ gBx y (p, x) = .inl (q, stB y.r.cell x (numI y.s p)) := by
 have hl := isPl_len hp
 have hl1 := isPl_len hr.f
 have hl2 := isPl_len hr.t
 have hc := car_len (f := y.r.fr) (t := y.r.to) p.length p
 have hd := car_pl (t := y.r.to) hr.f p.length p hp
 have hne := nextC_eq (f := y.r.fr) (t := y.r.to) (p := p) (by omega) (by omega)
 unfold nextC at hne
 by_cases c : (car y.r.fr y.r.to p.length p).1 = 0
 ·rw [if_pos c] at hne
  rw [← hne]
  refine ⟨(((car y.r.fr y.r.to p.length p).1 : Nat) : Int) - 1, (car y.r.fr y.r.to p.length p).2, hc.2, ?_⟩
  unfold gBx
  rw [if_pos (decide_eq_true (by show (((car y.r.fr y.r.to p.length p).1 : Nat) : Int) - 1 < 0; omega))]
 ·rw [if_neg c] at hne
  have hk : (car y.r.fr y.r.to p.length p).1 - 1 < y.s.length := by omega
  have e1 : ((((car y.r.fr y.r.to p.length p).1 : Nat) : Int) - 1).toNat = (car y.r.fr y.r.to p.length p).1 - 1 := by omega
  have hz := hf.sz _ (getD_mem hk)
  have hdg := (isPl_iff.1 hd).2 _ hk
  have e2 : IntKind.i64.wrap ((car y.r.fr y.r.to p.length p).2.getD ((car y.r.fr y.r.to p.length p).1 - 1) 0 + 1) = (car y.r.fr y.r.to p.length p).2.getD ((car y.r.fr y.r.to p.length p).1 - 1) 0 + 1 := wrap_nn (by omega) (by omega)
  have hg : gBx y (p, x) = .inl ((car y.r.fr y.r.to p.length p).2.set ((car y.r.fr y.r.to p.length p).1 - 1) ((car y.r.fr y.r.to p.length p).2.getD ((car y.r.fr y.r.to p.length p).1 - 1) 0 + 1), stB y.r.cell x (numI y.s p)) := by
   unfold gBx
   rw [if_neg (by rw [decide_eq_true_eq]; show ¬ ((((car y.r.fr y.r.to p.length p).1 : Nat) : Int) - 1 < 0); omega)]
   simp only [e1, e2]
  rw [← hne]
  have hcl : (car y.r.fr y.r.to p.length p).2.length = y.s.length := by rw [hc.2, hl]
  have hle := hq.next hr.le hne.symm
  refine ⟨isPl_iff.2 ⟨by simpa using hcl, fun j hj => ?_⟩, hle, hg⟩
  have hj1 := (isPl_iff.1 hd).2 j hj
  have h9 := leB_get hle j (by omega)
  have h8 := (isPl_iff.1 hr.t).2 j hj
  refine ⟨?_, by omega⟩
  rw [getD_set (by omega)]
  split
  ·omega
  ·exact hj1.1
def outB (y : Ly) (p : List Int) (x : List Int × List V) : List Int × List V := (boxA y.r.fr y.r.to p).foldl (fun x p => stB y.r.cell x (numI y.s p)) x
theorem bx_it {y : Ly} (hf : Fine y.s) (hr : RowIn y.s y.r) : ∀ (m : Nat) (p : List Int) (x : List Int × List V), isPl y.s p = true → LeB y.r.to p → (boxA y.r.fr y.r.to p).length ≤ m → ∃ a q, itF (gBx y) m (p, x) = some (a, q, outB y p x)
 | 0, p, x, hp, hq, hm => by
  rw [boxA_next hq hr.le] at hm
  simp at hm
 | m + 1, p, x, hp, hq, hm => by
  have hb := boxA_next hq hr.le
  have hg := gBx_eq hf hr hp hq x
  cases hn : nextB y.r.fr y.r.to p with
  | none =>
   rw [hn] at hb hg
   obtain ⟨a, q, _, h2⟩ := hg
   refine ⟨a, q, by rw [itF, h2]; unfold outB; rw [hb]; rfl⟩
  | some q =>
   rw [hn] at hb hg
   obtain ⟨h1, h2, h3⟩ := hg
   rw [hb] at hm
   obtain ⟨a, q', h4⟩ := bx_it hf hr m q (stB y.r.cell x (numI y.s p)) h1 h2 (by simpa using hm)
   refine ⟨a, q', by rw [itF, h3]; unfold outB at h4 ⊢; rw [hb]; exact h4⟩
theorem boxA_len : ∀ {s f t p : List Int}, SzOk s → isPl s f = true → isPl s t = true → isPl s p = true → ((boxA f t p).length : Int) ≤ prodI s
 | [], [], [], [], _, _, _, _ => by simp [boxA, prodI]
 | a :: s, f :: fs, t :: ts, x :: p, hs, hf, ht, hp => by
  simp only [isPl, Bool.and_eq_true, decide_eq_true_eq] at hf ht hp
  have i1 := boxA_len hs.tail hf.2 ht.2 hp.2
  have i2 := boxA_len hs.tail hf.2 ht.2 hf.2
  simp only [boxA, prodI, List.length_append, List.length_map, List.length_flatMap, List.map_const', List.sum_replicate_nat, List.length_range]
  have e : (((t - x).toNat : Nat) : Int) ≤ a - 1 := by omega
  have h1 : 1 ≤ prodI s := prodI_pos hs.tail
  have h3 : (((t - x).toNat * (boxA fs ts fs).length : Nat) : Int) ≤ (a - 1) * prodI s := by
   push_cast
   exact Int.mul_le_mul e i2 (by omega) (by omega)
  have h4 : (a - 1) * prodI s = a * prodI s - prodI s := by rw [Int.sub_mul, Int.one_mul]
  push_cast at h3 ⊢
  omega
 | [], _ :: _, _, _, _, h, _, _ => by simp [isPl] at h
 | _ :: _, [], _, _, _, h, _, _ => by simp [isPl] at h
 | [], _, _ :: _, _, _, _, h, _ => by simp [isPl] at h
 | _ :: _, _, [], _, _, _, h, _ => by simp [isPl] at h
 | [], _, _, _ :: _, _, _, _, h => by simp [isPl] at h
 | _ :: _, _, _, [], _, _, _, h => by simp [isPl] at h
theorem sNum {n : Nat} (hO : Ok n oc119) {s p : List Int} (hp : isPl s p = true) (hf : Fine s) : Sim X0 Tryz.prog (ApN n) (.fn 86 [] []) [.lst 3 s false, .own 0] [.list false false 3 p] (.int .i64 (numI s p)) [.list false false 3 p] :=
 sim_orc hX hO (f := 86) (first := []) (xs := [.lst 3 s false, .own 0]) (cap := []) (v := .int .i64 (numI s p)) (H := [.list false false 3 p]) (vs := [.lst 3 s false, .lst 3 p false]) (ps := [isPl s p = true, Fine s]) rfl (by kernel_rfl) (List.forall_mem_cons.2 ⟨hp, List.forall_mem_singleton.2 hf⟩) rfl
noncomputable abbrev oBx (y : Ly) (z : Int × List Int × List Int × List V) : Ex × PSt gam := (.ret, wBx y z.2.1 z.2.2 [(5, xi z.1), (43, xl true)])
theorem lBx {n : Nat} (hO : ∀ m, n ≤ m → Ok m oc119) (y : Ly) (hf : Fine y.s) (hr : RowIn y.s y.r) (x : List Int × List V) (h1 : x.1.length = cnt y.s) (h2 : x.2.length = cnt y.s) {a : Int} {q : List Int} (hit : itF (gBx y) (cnt y.s) (y.r.fr, x) = some (a, q, outB y y.r.fr x)) : LpB (n + 1) 164 0 11 (wBx y y.r.fr x []) (oBx y (a, q, outB y y.r.fr x)).1 (oBx y (a, q, outB y y.r.fr x)).2 := by
 refine whileE (X := X0) (P := Tryz.prog) (T := T) (st := fun z => wBx y z.1 z.2 []) (g := gBx y) (s := (y.r.fr, x)) (out := oBx y) (fun z => isPl y.s z.1 = true ∧ LeB y.r.to z.1 ∧ z.2.1.length = cnt y.s ∧ z.2.2.length = cnt y.s) hit (by kernel_rfl) (show cnt y.s ≤ LL by have := hf.cnt_most; have := LLm; omega) ⟨hr.f, hr.le, h1, h2⟩ ?_ ?_
 ·rintro ⟨p, x⟩ ⟨q, x'⟩ ⟨h1, h2, h3, h4⟩ e
  have hg := gBx_eq hf hr h1 h2 x
  cases hn : nextB y.r.fr y.r.to p with
  | none => rw [hn] at hg; obtain ⟨y, _, _, e2⟩ := hg; rw [e2] at e; cases e
  | some r =>
   rw [hn] at hg
   obtain ⟨g1, g2, g3⟩ := hg
   rw [g3] at e
   cases e
   exact ⟨g1, g2, by simpa [stB] using h3, by simpa [stB] using h4⟩
 ·rintro ⟨p, x⟩ m r ⟨h1, h2, h3, h4⟩ ih
  have h1 : isPl y.s p = true := h1
  have h2 : LeB y.r.to p := h2
  have h3 : x.1.length = cnt y.s := h3
  have h4 : x.2.length = cnt y.s := h4
  have hp := isPl_len h1
  have hp1 := isPl_len hr.f
  have hp2 := isPl_len hr.t
  have hn := numI_rng h1 hf.sz
  have hi : inR (numI y.s p) (cnt y.s) := ⟨hn.1, by unfold cnt; omega⟩
  have hy := yB (hO n (Nat.le_refl _)) y x (h3 ▸ hi) (h4 ▸ hi)
  have hl := lIb (hO (n + 1) (by omega)) y (p := p) (by have := hf.len; omega) (by omega) (by omega) (stB y.r.cell x (numI y.s p))
  rw [show (p.length : Int) - 1 = IntKind.i64.wrap ((p.length : Int) - 1) by rw [wrap_nn (by omega) (by have := hf.len; omega)]] at hl
  have hc := car_len (f := y.r.fr) (t := y.r.to) p.length p
  have hgz : ∀ z : Nat × List Int, car y.r.fr y.r.to p.length p = z → gBx y (p, x) = (if decide (((z.1 : Nat) : Int) - 1 < 0) = true then .inr (((z.1 : Nat) : Int) - 1, z.2, stB y.r.cell x (numI y.s p)) else .inl (z.2.set (((z.1 : Nat) : Int) - 1).toNat (IntKind.i64.wrap (z.2.getD (((z.1 : Nat) : Int) - 1).toNat 0 + 1)), stB y.r.cell x (numI y.s p))) := by rintro _ rfl; rfl
  obtain ⟨z, hz⟩ : ∃ z, car y.r.fr y.r.to p.length p = z := ⟨_, rfl⟩
  have hg := hgz z hz
  rw [hz] at hl hc
  obtain ⟨k, q⟩ := z
  have hc : k ≤ p.length ∧ q.length = p.length := hc
  have hg : gBx y (p, x) = (if decide ((k : Int) - 1 < 0) = true then .inr ((k : Int) - 1, q, stB y.r.cell x (numI y.s p)) else .inl (q.set ((k : Int) - 1).toNat (IntKind.i64.wrap (q.getD ((k : Int) - 1).toNat 0 + 1)), stB y.r.cell x (numI y.s p))) := hg
  generalize stB y.r.cell x (numI y.s p) = x' at hy hl hg
  cases t : decide (((k : Nat) : Int) - 1 < 0)
  ·have t' : ¬ (((k : Nat) : Int) - 1 < 0) := by simpa using t
   rw [if_neg (by rw [t]; simp)] at hg
   have hi : inR ((k : Int) - 1) q.length := ⟨by omega, by omega⟩
   have g := ih _ hg
   rw [hg]
   exact round hX (hO (n + 1) (by omega)) (by kernel_rfl) (.fr [11] (sNum (hO (n + 1) (by omega)) h1 hf) (.fr [0, 1, 2, 3, 4, 5, 6, 7, 8, 9, 10] hy (.b (rfl : (!true) = false) (.w hl (.b t (.o hi (.o hi (.go g))))))))
  ·rw [if_pos t] at hg
   rw [hg]
   exact round hX (hO (n + 1) (by omega)) (by kernel_rfl) (.fr [11] (sNum (hO (n + 1) (by omega)) h1 hf) (.fr [0, 1, 2, 3, 4, 5, 6, 7, 8, 9, 10] hy (.b (rfl : (!true) = false) (.w hl (.b t .re)))))
theorem sBx {n : Nat} (hO : ∀ m, n ≤ m → Ok m oc119) (y : Ly) (hf : Fine y.s) (hr : RowIn y.s y.r) (x : List Int × List V) (h1 : x.1.length = cnt y.s) (h2 : x.2.length = cnt y.s) : Sim X0 Tryz.prog (ApN (n + 2)) (.fn 164 [] [.ptr 8 0 4, .ptr 7 0 1]) [.yld 10] (MY y true x) (.tup []) (MY y true (outB y y.r.fr x)) := by
 have hm := hf.cnt_most
 have hb := boxA_len (p := y.r.fr) hf.sz hr.f hr.t hr.f
 obtain ⟨a, q, hit⟩ := bx_it hf hr (cnt y.s) y.r.fr x hr.f hr.le (by unfold cnt; omega)
 have hl := lBx hO y hf hr x h1 h2 hit
 have hs : y.r.fr.length ≤ most := by have := isPl_len hr.f; have := hf.lenM; omega
 have := sim_ex hX (hO (n + 1) (by omega)) (f := 164) (first := []) (xs := [.yld 10]) (cap := [.ptr 8 0 4, .ptr 7 0 1]) (H := MY y true x) (v := .tup []) (H1 := MY y true (outB y y.r.fr x) ++ [.list false false 3 q]) (by kernel_rfl) (.o hs (.w hl .er))
 exact Sim.cut hX this rfl rfl rfl rfl
end Go.Proofs.YtmefgijobonklaaGreat
namespace Go.Proofs.YtmefgijobonklaaGreat
open Go Tw Pv Mist
noncomputable abbrev wRw (y : Ly) (x : List Int × List V) (z : List (Nat × PE gam)) : PSt gam := ⟨[(4, .val (.nil .slc)), (5, xi 0), (6, xL 3 y.s), (7, .val (.fn 117 [.lst 3 y.s false] [])), (9, xo 0), (12, .val (.ptr 3 0 2)), (13, .val (.ptr 5 0 1)), (25, xL 28 y.ts), (26, xi y.ts.length), (27, xi y.i), (49, xL 95 y.rows), (50, xi y.rows.length), (51, xi y.k)] ++ z, [], (MY0 y x).take 6⟩
theorem rfY {n : Nat} (hO : ∀ m, n ≤ m → Ok m oc119) (y : Ly) (hf : Fine y.s) (hr : RowIn y.s y.r) (x : List Int × List V) (h1 : x.1.length = cnt y.s) (h2 : x.2.length = cnt y.s) : ExecS X0 Tryz.prog T (ApN (n + 2)) LL 80 false (ntP Tryz.prog 80) 0 (.rangeFunc (.tmp 57) #[58] (rfAssign Tryz.prog 80) (rfBody Tryz.prog 80)) ⟨envY y, [], MY0 y x⟩ .norm ⟨envY y, [], (MY y true (outB y y.r.fr x)).set 10 (LRY y false (some .skip))⟩ :=
 rf_exec hX (ps := ⟨envY y, [], MY0 y x⟩) rfl rfl (sBx hO y hf hr x h1 h2) rfl rfl
def stR (s : List Int) (r : Rw) (x : List Int × List V) : List Int × List V := (boxA r.fr r.to r.fr).foldl (fun x p => stB r.cell x (numI s p)) x
abbrev Yk (y : Ly) (k : Nat) : Ly := ⟨y.s, y.ts, y.rows, y.rows.getD k Rw0, y.acc, y.i, k⟩
def gRw (y : Ly) (k : Nat) (x : List Int × List V) : List Int × List V := stR y.s (y.rows.getD k Rw0) x
theorem stR_len (s : List Int) (r : Rw) (x : List Int × List V) : (stR s r x).1.length = x.1.length ∧ (stR s r x).2.length = x.2.length := by
 unfold stR
 generalize boxA r.fr r.to r.fr = l
 induction l generalizing x with
 | nil => exact ⟨rfl, rfl⟩
 | cons p l ih =>
  have := ih (stB r.cell x (numI s p))
  simp only [List.foldl_cons]
  rw [this.1, this.2]
  exact ⟨by simp [stB], by simp [stB]⟩
theorem lLayR {n : Nat} (hO : ∀ m, n ≤ m → Ok m oc119) (y : Ly) (hf : Fine y.s) (hl : y.rows.length ≤ most) (hr : ∀ r ∈ y.rows, RowIn y.s r) (x : List Int × List V) (h1 : x.1.length = cnt y.s) (h2 : x.2.length = cnt y.s) : LpB (n + 2) 80 1 0 (wRw (Yk y 0) x []) (.exit 2) (wRw (Yk y y.rows.length) (foldN (gRw y) y.rows.length 0 x) [(52, xl false)]) := by
 refine foldE (X := X0) (P := Tryz.prog) (T := T) (g := gRw y) (s0 := x) (st := fun i x => wRw ⟨y.s, y.ts, y.rows, Rw0, y.acc, y.i, i⟩ x []) (fin := fun x => wRw (Yk y y.rows.length) x [(52, xl false)]) (fun _ x => x.1.length = cnt y.s ∧ x.2.length = cnt y.s) (by kernel_rfl) hl LLm ⟨h1, h2⟩ (fun k x _ h => ?_) (fun k x hk hx m e q p => ?_) (fun s _ => ?_)
 ·have := stR_len y.s (y.rows.getD k Rw0) x
  exact ⟨by show (stR _ _ _).1.length = _; rw [this.1, h.1], by show (stR _ _ _).2.length = _; rw [this.2, h.2]⟩
 ·have hm : y.rows.getD k Rw0 ∈ y.rows := by simp [List.getD, List.getElem?_eq_getElem hk]
  have h3 := rfY hO (Yk y k) hf (hr _ hm) x hx.1 hx.2
  exact round hX (hO (n + 2) (by omega)) (by kernel_rfl) (.b (lt_nat hk) (.o (inR_nat hk) (.w h3 (.goG [.gc [0, 1, 2, 3, 4, 5]] p))))
 ·exact round hX (hO (n + 2) (by omega)) (by kernel_rfl) (.b (lt_no y.rows.length) .ex)
noncomputable abbrev wTs (s : List Int) (ts : List (List Rw)) (acc : List Ld) (i : Int) (z : List (Nat × PE gam)) : PSt gam := ⟨[(4, .val (.nil .slc)), (5, xi 0), (6, xL 3 s), (7, .val (.fn 117 [.lst 3 s false] [])), (9, xo 0), (25, xL 28 ts), (26, xi ts.length), (27, xi i)] ++ z, [], [.list false false 124 acc]⟩
def x0 (s : List Int) : List Int × List V := (List.replicate (prodI s).toNat 0, List.replicate (prodI s).toNat V0)
def layX (s : List Int) (t : List Rw) : List Int × List V := foldN (fun k => stR s (t.getD k Rw0)) t.length 0 (x0 s)
def gT (s : List Int) (ts : List (List Rw)) (k : Nat) (acc : List Ld) : List Ld ⊕ Int := if decide (((ts.getD k []).length : Int) > 4000) = true then .inr 5 else if (!((ts.getD k []).all (S_tRow s))) = true then .inr 4 else if decide (S_lMax (layX s (ts.getD k [])).1 > 1) = true then .inr 6 else if (S_lMin (layX s (ts.getD k [])).1 == 0) = true then .inr 7 else .inl (acc ++ [⟨s, (layX s (ts.getD k [])).2⟩])
noncomputable def zT (s : List Int) (ts : List (List Rw)) : List Ld ⊕ Int → Ex × PSt gam
 | .inl acc => (.exit 0, wTs s ts acc ts.length [(28, xl false)])
 | .inr e => (.ret, ⟨[(4, .val (.nil .slc)), (5, xi e)], [], []⟩)
theorem leB_of : ∀ {t f : List Int}, f.length = t.length → (∀ j, j < f.length → f.getD j 0 ≤ t.getD j 0) → LeB t f
 | [], [], _, _ => trivial
 | a :: t, b :: f, h, hj => ⟨hj 0 (by simp), leB_of (by simpa using h) fun j h1 => by simpa using hj (j + 1) (by simpa using h1)⟩
 | [], _ :: _, h, _ => by simp at h
 | _ :: _, [], h, _ => by simp at h
theorem rowIn_of {s : List Int} {r : Rw} (h : S_tRow s r = true) : RowIn s r := by
 unfold S_tRow at h
 split at h
 ·cases h
 rename_i h1
 split at h
 ·cases h
 rename_i h2
 split at h
 ·cases h
 split at h
 ·rename_i h4
  have h1 : isPl s r.fr = true := by simpa using h1
  have h2 : isPl s r.to = true := by simpa using h2
  refine ⟨h1, h2, leB_of (by rw [isPl_len h1, isPl_len h2]) fun j hj => ?_⟩
  have := srch_ok.1 h4 j hj
  simpa [cFT] using this
 ·cases h
theorem layX_len (s : List Int) (t : List Rw) : (layX s t).1.length = (prodI s).toNat ∧ (layX s t).2.length = (prodI s).toNat := by
 refine foldN_inv (g := fun k => stR s (t.getD k Rw0)) (m := t.length) (k := 0) (s := x0 s) (fun _ x => x.1.length = (prodI s).toNat ∧ x.2.length = (prodI s).toNat) ⟨by simp [x0], by simp [x0]⟩ fun j x _ _ h => ?_
 have := stR_len s (t.getD j Rw0) x
 exact ⟨by rw [this.1, h.1], by rw [this.2, h.2]⟩
def RwsOk (t : List Rw) : Prop := ∀ r ∈ t, r.fr.length ≤ most ∧ r.to.length ≤ most
theorem qAll {n : Nat} (hO : Ok n oc119) (s : List Int) (l : List Rw) (hl : l.length ≤ most) (hr : ∀ r ∈ l, r.fr.length ≤ most ∧ r.to.length ≤ most) : Sim X0 Tryz.prog (ApN (n + 4)) (.fn 118 [] []) [.lst 95 l false, .fn 117 [.lst 3 s false] []] [] (tA.put (l.all (S_tRow s))) [] := by
 have h1 : ∀ x ∈ l, Sim X0 Tryz.prog (ApN (n + 1)) (.fn 163 [] [.ptr 0 0 1]) [.agg x.ps] (boxF 117 [.lst 3 s false]) (tA.put (!(S_tRow s x))) (boxF 117 [.lst 3 s false]) := fun x hx =>
  sim_is hX hO (first := []) (by kernel_rfl) (.o (hr x hx).1 (.o (hr x hx).2 .sr))
 have h2 := q162 (n := n + 1) (g := fun x => !(S_tRow s x)) l h1 hl
 rw [← any_not]
 exact Sim.drop hX (sim_is hX ok0 (first := []) (cap := []) (H1 := boxF 117 [.lst 3 s false]) (by kernel_rfl) (.k h2 .sr)) rfl rfl
theorem lLay {n : Nat} (hO : ∀ m, n ≤ m → Ok m oc119) {s : List Int} (hf : Fine s) {ts : List (List Rw)} (hl : ts.length ≤ most) (hr : ∀ t ∈ ts, RwsOk t) : ExecS X0 Tryz.prog T (ApN (n + 4)) LL 80 false (ntP Tryz.prog 80) 0 (.loop (bodyP Tryz.prog 80 0)) (wTs s ts [] 0 []) (zT s ts (cntN (gT s ts) ts.length 0 [])).1 (zT s ts (cntN (gT s ts) ts.length 0 [])).2 := by
 have hO4 := hO (n + 4) (by omega)
 refine eachN (X := X0) (P := Tryz.prog) (T := T) (st := fun i acc => wTs s ts acc i []) (g := gT s ts) (out := zT s ts) (fun k acc => acc.length = k) (by kernel_rfl) hl LLm rfl (fun k acc m hk ha ih => ?_) (fun acc _ => ?_)
 ·obtain ⟨t, ht⟩ : ∃ t, ts.getD k [] = t := ⟨_, rfl⟩
  have hm : t ∈ ts := by rw [← ht]; simp [List.getD, List.getElem?_eq_getElem hk]
  have h1 := lt_nat hk
  have h2 := inR_nat hk
  cases e1 : decide (((ts.getD k []).length : Int) > 4000)
  ·have ht4 : (ts.getD k []).length ≤ most := most4 e1
   have hq := qAll (n := n) (hO n (Nat.le_refl _)) s (ts.getD k []) ht4 (hr _ (ht ▸ hm))
   cases e2 : (ts.getD k []).all (S_tRow s)
   ·have e : gT s ts k acc = .inr 4 := by unfold gT; rw [if_neg (by rw [e1]; simp), if_pos (by rw [e2]; rfl)]
    rw [e]
    rw [e2] at hq
    exact round hX hO4 (by kernel_rfl) (.b h1 (.o h2 (.b e1 (.fr [] hq (.b (rfl : (!false) = true) (.ouG [.gc []] nofun))))))
   ·rw [e2] at hq
    have hf1 := hf.cnt_most
    have hn0 : 1 ≤ prodI s := prodI_pos hf.sz
    have hnm : prodI s ≤ (most : Int) := by unfold cnt at hf1; omega
    have hx := layX_len s (ts.getD k [])
    have hR : LpB (n + 2 + 2) 80 1 0 (wRw (Yk ⟨s, ts, ts.getD k [], Rw0, acc, k, 0⟩ 0) (x0 s) []) (.exit 2) (wRw (Yk ⟨s, ts, ts.getD k [], Rw0, acc, k, 0⟩ (ts.getD k []).length) (layX s (ts.getD k [])) [(52, xl false)]) := lLayR (n := n + 2) (fun m hm => hO m (by omega)) ⟨s, ts, ts.getD k [], Rw0, acc, k, 0⟩ hf ht4 (fun r hr => rowIn_of (List.all_eq_true.1 e2 r hr)) (x0 s) (by simp [x0, cnt]) (by simp [x0, cnt])
    have hxl : (layX s (ts.getD k [])).1.length ≤ most := by rw [hx.1]; omega
    have hx0 : 0 < (layX s (ts.getD k [])).1.length := by rw [hx.1]; omega
    have hal : acc.length + ([⟨s, (layX s (ts.getD k [])).2⟩] : List Ld).length ≤ most := by rw [ha]; show k + 1 ≤ most; omega
    have e0 : gT s ts k acc = if decide (S_lMax (layX s (ts.getD k [])).1 > 1) = true then .inr 6 else if (S_lMin (layX s (ts.getD k [])).1 == 0) = true then .inr 7 else .inl (acc ++ [⟨s, (layX s (ts.getD k [])).2⟩]) := by unfold gT; rw [if_neg (by rw [e1]; simp), if_neg (by rw [e2]; simp)]
    cases e3 : decide (S_lMax (layX s (ts.getD k [])).1 > 1)
    ·cases e4 : S_lMin (layX s (ts.getD k [])).1 == 0
     ·rw [if_neg (by rw [e3]; simp), if_neg (by rw [e4]; simp)] at e0
      rw [e0]
      exact round hX hO4 (by kernel_rfl) (.b h1 (.o h2 (.b e1 (.fr [] hq (.b (rfl : (!true) = false) (.o hf (.o (rfl : prodI s = prodI s) (.o (show 0 ≤ prodI s by omega) (.o hnm (.o hf (.o (rfl : prodI s = prodI s) (.o (show 0 ≤ prodI s by omega) (.o hnm (.w hR (.o hxl (.o hx0 (.b e3 (.o hxl (.o hx0 (.b e4 (.o hal (.nxG [.gc [7]] (ih _ (by simp [ha]))))))))))))))))))))))))
     ·rw [if_neg (by rw [e3]; simp), if_pos e4] at e0
      rw [e0]
      exact round hX hO4 (by kernel_rfl) (.b h1 (.o h2 (.b e1 (.fr [] hq (.b (rfl : (!true) = false) (.o hf (.o (rfl : prodI s = prodI s) (.o (show 0 ≤ prodI s by omega) (.o hnm (.o hf (.o (rfl : prodI s = prodI s) (.o (show 0 ≤ prodI s by omega) (.o hnm (.w hR (.o hxl (.o hx0 (.b e3 (.o hxl (.o hx0 (.b e4 (.ouG [.gc []] nofun)))))))))))))))))))))
    ·rw [if_pos e3] at e0
     rw [e0]
     exact round hX hO4 (by kernel_rfl) (.b h1 (.o h2 (.b e1 (.fr [] hq (.b (rfl : (!true) = false) (.o hf (.o (rfl : prodI s = prodI s) (.o (show 0 ≤ prodI s by omega) (.o hnm (.o hf (.o (rfl : prodI s = prodI s) (.o (show 0 ≤ prodI s by omega) (.o hnm (.w hR (.o hxl (.o hx0 (.b e3 (.ouG [.gc []] nofun))))))))))))))))))
  ·have e : gT s ts k acc = .inr 5 := by unfold gT; rw [if_pos e1]
   rw [e]
   exact round hX hO4 (by kernel_rfl) (.b h1 (.o h2 (.b e1 (.ouG [.gc []] nofun))))
 ·exact round hX hO4 (by kernel_rfl) (.b (lt_no ts.length) (.ou nofun))
def S_lay (s : List Int) (ts : List (List Rw)) : List Ld × Int := if (S_sizes s != 0) = true then ([], S_sizes s) else match cntN (gT s ts) ts.length 0 [] with
 | .inl acc => (acc, 0)
 | .inr e => ([], e)
noncomputable def oc80 : Orc gam := orcF 80 (a2 isA tbsA) (tupA (a2 ldsA iA)) (fun p => S_lay p.1 p.2) (fun p => [p.1.length ≤ most, p.2.length ≤ most, ∀ t ∈ p.2, RwsOk t]) oc119
theorem gc80 : Gd oc80 := gc119.deep 4 fun n hn hO p hp => by
 obtain ⟨n, rfl⟩ : ∃ k, n = k + 4 := ⟨n - 4, by omega⟩
 obtain ⟨s, ts⟩ := p
 have h1 : s.length ≤ most := hp _ (.head _)
 have h2 : ts.length ≤ most := hp _ (.tail _ (.head _))
 have h3 : ∀ t ∈ ts, RwsOk t := hp _ (.tail _ (.tail _ (.head _)))
 have hO4 := hO (n + 4) (by omega)
 show Con _ _ _ _ _ ((tupA (a2 ldsA iA)).put (S_lay s ts)) _
 cases e : S_sizes s != 0
 ·have hl := lLay (n := n) (fun m hm => hO m (by omega)) (fine_of e) h2 h3
  have e0 : S_lay s ts = match cntN (gT s ts) ts.length 0 [] with | .inl acc => (acc, 0) | .inr e => ([], e) := by unfold S_lay; rw [if_neg (by rw [e]; simp)]
  cases e2 : cntN (gT s ts) ts.length 0 [] with
  | inl acc =>
   rw [e2] at hl e0
   rw [e0]
   exact fn_is hX hO4 (by kernel_rfl) (.o h1 (.b e (.wG [.nilE 9 124] hl .rr)))
  | inr er =>
   rw [e2] at hl e0
   rw [e0]
   exact fn_is hX hO4 (by kernel_rfl) (.o h1 (.b e (.wG [.nilE 9 124] hl (.rn (.tup [.nil .slc, .int .i64 er]) rfl))))
 ·have e0 : S_lay s ts = ([], S_sizes s) := by unfold S_lay; rw [if_pos e]
  rw [e0]
  exact fn_is hX hO4 (by kernel_rfl) (.o h1 (.b e (.rn (.tup [.nil .slc, .int .i64 (S_sizes s)]) rfl)))
end Go.Proofs.YtmefgijobonklaaGreat
namespace Go.Proofs.YtmefgijobonklaaGreat
open Go Tw Pv Mist
abbrev lyE (s : List Int) (t : List Rw) : Int := (S_lay s [t]).2
abbrev lyL (s : List Int) (t : List Rw) : Ld := (S_lay s [t]).1.getD (Int.toNat 0) Ld0
theorem m1 (t : List Rw) : [t].length ≤ most := by unfold most; simp
theorem m2 {t : List Rw} (h : RwsOk t) : ∀ x ∈ [t], RwsOk x := List.forall_mem_singleton.2 h
def S_tErr (s : List Int) (t : List Rw) : Int := if (S_sizes s != 0) = true then S_sizes s else if decide ((t.length : Int) > 4000) = true then 5 else if (!(t.all (S_tRow s))) = true then 4 else if decide (S_lMax (layX s t).1 > 1) = true then 6 else if (S_lMin (layX s t).1 == 0) = true then 7 else 0
theorem lay1 (s : List Int) (t : List Rw) : S_lay s [t] = if (S_tErr s t != 0) = true then ([], S_tErr s t) else ([⟨s, (layX s t).2⟩], 0) := by
 unfold S_lay S_tErr
 by_cases c : (S_sizes s != 0) = true
 ·rw [if_pos c, if_pos c, if_pos c]
 ·rw [if_neg c, if_neg c]
  have e : gT s [t] 0 [] = if decide ((t.length : Int) > 4000) = true then .inr 5 else if (!(t.all (S_tRow s))) = true then .inr 4 else if decide (S_lMax (layX s t).1 > 1) = true then .inr 6 else if (S_lMin (layX s t).1 == 0) = true then .inr 7 else .inl [⟨s, (layX s t).2⟩] := rfl
  simp only [List.length_singleton, cntN]
  rw [e]
  by_cases c1 : decide ((t.length : Int) > 4000) = true
  ·rw [if_pos c1, if_pos c1]; rfl
  rw [if_neg c1, if_neg c1]
  by_cases c2 : (!(t.all (S_tRow s))) = true
  ·rw [if_pos c2, if_pos c2]; rfl
  rw [if_neg c2, if_neg c2]
  by_cases c3 : decide (S_lMax (layX s t).1 > 1) = true
  ·rw [if_pos c3, if_pos c3]; rfl
  rw [if_neg c3, if_neg c3]
  by_cases c4 : (S_lMin (layX s t).1 == 0) = true
  ·rw [if_pos c4, if_pos c4]; rfl
  rw [if_neg c4, if_neg c4]; rfl
theorem lyE_eq (s : List Int) (t : List Rw) : lyE s t = S_tErr s t := by
 unfold lyE
 rw [lay1]
 split
 ·rfl
 ·rename_i h; simpa using Eq.symm (by simpa using h)
theorem lyL_eq {s : List Int} {t : List Rw} (h : (lyE s t != 0) = false) : (S_lay s [t]).1 = [⟨s, (layX s t).2⟩] ∧ Fine s ∧ t.length ≤ most ∧ t.all (S_tRow s) = true := by
 rw [lyE_eq] at h
 refine ⟨by rw [lay1, if_neg (by rw [h]; simp)], ?_⟩
 have h : S_tErr s t = 0 := by simpa using h
 unfold S_tErr at h
 split at h
 ·rename_i c; simp [h] at c
 rename_i c
 split at h
 ·cases h
 rename_i c2
 split at h
 ·cases h
 rename_i c3
 exact ⟨fine_of (by simpa using c), most4 (by simpa using c2), by simpa using c3⟩
theorem lyL_in {s : List Int} {t : List Rw} (h : (lyE s t != 0) = false) : inR 0 (S_lay s [t]).1.length := by rw [(lyL_eq h).1]; exact ⟨by omega, by simp⟩
theorem lyL_of {s : List Int} {t : List Rw} (h : (lyE s t != 0) = false) : lyL s t = ⟨s, (layX s t).2⟩ := by unfold lyL; rw [(lyL_eq h).1]; rfl
theorem lyL_ok {s : List Int} {t : List Rw} (h : (lyE s t != 0) = false) : OfOk (lyL s t).s (lyL s t).cells := by
 rw [lyL_of h]
 have hf := (lyL_eq h).2.1
 have := prodI_pos hf.sz
 exact ⟨hf, by show ((layX s t).2.length : Int) = prodI s; rw [(layX_len s t).2]; omega⟩
theorem lyL_len {s : List Int} {t : List Rw} (h : (lyE s t != 0) = false) : (lyL s t).cells.length ≤ most := by
 rw [lyL_of h]
 have hf := (lyL_eq h).2.1
 have h1 := hf.cnt_most
 show (layX s t).2.length ≤ most
 rw [(layX_len s t).2]
 exact h1
theorem at_in {s q : List Int} {t : List Rw} (h : (lyE s t != 0) = false) (h2 : (!(isPl (lyL s t).s q)) = false) : inR (numI (lyL s t).s q) (lyL s t).cells.length := by
 have h3 := lyL_ok h
 have h4 := numI_rng (s := (lyL s t).s) (p := q) (by simpa using h2) h3.1.sz
 have h5 := h3.2
 exact ⟨h4.1, by omega⟩
end Go.Proofs.YtmefgijobonklaaGreat
namespace Go.Proofs.YtmefgijobonklaaGreat
open Go Tw Pv Mist
theorem lyL_cnt {s : List Int} {t : List Rw} (h : (lyE s t != 0) = false) : (lyL s t).cells.length = cnt s := by
 rw [lyL_of h]; exact (layX_len s t).2
end Go.Proofs.YtmefgijobonklaaGreat
namespace Go.Proofs.YtmefgijobonklaaGreat
open Go Tw Pv Mist
abbrev V3 := V × V × V
abbrev V3.vs (x : V3) : Array Value := #[.int .u8 x.1.f, .int .i64 x.1.n, .int .u8 x.2.1.f, .int .i64 x.2.1.n, .int .u8 x.2.2.f, .int .i64 x.2.2.n]
noncomputable abbrev kn (c : Int) (L : List V3) : List (V3 × PV X0.Γ) := L.map fun k => (k, .agg (S_tRes c k).ps)
theorem opnd_rng (c : Int) : 0 ≤ S_opnd c ∧ S_opnd c ≤ 3 := by
 unfold S_opnd
 split
 ·omega
 split
 ·omega
 split
 ·split
  ·omega
  ·split <;> omega
 ·split <;> omega
end Go.Proofs.YtmefgijobonklaaGreat
namespace Go.Proofs.YtmefgijobonklaaGreat
open Go Tw Pv Mist
abbrev wSm (cs : List V) (ld : List Ld) (l : List V) (i : Int) (x : List (Nat × PE gam)) : PSt gam := ⟨[(6, xL 58 cs), (8, xL 124 ld), (33, xL 58 l), (34, xi l.length), (35, xi i)] ++ x, [], []⟩
abbrev cSm (cs l : List V) (k : Nat) : Bool := !(decide (l.getD k V0 = cs.getD k V0))
def zSm (cs : List V) (ld : List Ld) (l : List V) : Unit ⊕ Nat → Ex × PSt gam
 | .inl _ => (.exit 0, wSm cs ld l l.length [(36, xl false)])
 | .inr k => (.ret, ⟨[(4, xL 3 (nthI (ld.getD (Int.toNat 0) Ld0).s k)), (5, xi 0)], [(l.getD k V0).ps], []⟩)
theorem lSm {n : Nat} (hO : Ok n oc80) (cs : List V) (ld : List Ld) (l : List V) (lc : List (List (PV gam))) (hl : l.length ≤ most) (hc : cs.length = l.length) (h0 : inR 0 ld.length) (hf : Fine (ld.getD (Int.toNat 0) Ld0).s) : Lp n 43 0 ⟨(wSm cs ld l 0 []).env, lc, []⟩ (zSm cs ld l (srch (cSm cs l) l.length)).1 (zSm cs ld l (srch (cSm cs l) l.length)).2 := by
 refine eachN (X := X0) (P := Tryz.prog) (T := T) (st := fun i _ => wSm cs ld l i []) (g := gS (cSm cs l)) (out := zSm cs ld l) (fun _ _ => True) (by kernel_rfl) hl LLm trivial (fun k u m hk _ ih => ?_) (fun _ _ => ?_)
 ·have h1 := lt_nat hk
  have h2 := inR_nat hk
  have h3 : inR (k : Int) cs.length := inR_nat (show k < cs.length by omega)
  have hp : PlP ((ld.getD (Int.toNat 0) Ld0).s, (k : Int)) := ⟨hf.lenM, hf.sz, nn k, nm (show k ≤ most by omega)⟩
  cases e1 : decide (l.getD k V0 = cs.getD k V0)
  ·have e : gS (cSm cs l) k u = .inr k := by unfold gS cSm; rw [e1]; rfl
   rw [e]
   exact round hX hO (by kernel_rfl) (.b h1 (.o h2 (.o h3 (.q (.bool (decide (l.getD k V0 = cs.getD k V0))) (eqV (.tmp 40) (.tmp 44) (l.getD k V0) (cs.getD k V0)) (.b e1 (.o h0 (.o hp (.ou nofun))))))))
  ·have e : gS (cSm cs l) k u = .inl () := by unfold gS cSm; rw [e1]; rfl
   rw [e]
   exact round hX hO (by kernel_rfl) (.b h1 (.o h2 (.o h3 (.q (.bool (decide (l.getD k V0 = cs.getD k V0))) (eqV (.tmp 40) (.tmp 44) (l.getD k V0) (cs.getD k V0)) (.b e1 (.nx (ih _ trivial)))))))
 ·exact round hX hO (by kernel_rfl) (.b (lt_no l.length) (.ou nofun))
def S_tSame (t : List Rw) (d : Dg) : List Int × Int := if ((S_nList d).2 != 0) = true then ([], (S_nList d).2) else if (lyE d.sizes t != 0) = true then ([], lyE d.sizes t) else if isL (srch (cSm (S_nList d).1 (lyL d.sizes t).cells) (lyL d.sizes t).cells.length) = true then ([], 7) else (nthI (lyL d.sizes t).s ((getR 0 (srch (cSm (S_nList d).1 (lyL d.sizes t).cells) (lyL d.sizes t).cells.length) : Nat) : Int), 0)
theorem nList_len {d : Dg} (h : DgR d) (hs : d.sizes.length ≤ most) (ho : d.order.length ≤ 2 ^ 20) (he : d.ends.length + 1 ≤ most) (h0 : ((S_nList d).2 != 0) = false) : (S_nList d).1.length = cnt d.sizes := by
 have e := nList_eq h hs (by unfold most; omega) he
 rw [e] at h0 ⊢
 by_cases c : (S_rDg d != 0) = true
 ·rw [if_pos c] at h0; rw [c] at h0; cases h0
 ·rw [if_neg c]; simp [cellsD]
theorem lSm' {n : Nat} (hO : Ok n oc80) (lc : List (List (PV gam))) {t : List Rw} {d : Dg} (h : DgR d) (hs : d.sizes.length ≤ most) (ho : d.order.length ≤ 2 ^ 20) (he : d.ends.length + 1 ≤ most) (h0 : ((S_nList d).2 != 0) = false) (h2 : (lyE d.sizes t != 0) = false) : Lp n 43 0 ⟨(wSm (S_nList d).1 (S_lay d.sizes [t]).1 (lyL d.sizes t).cells 0 []).env, lc, []⟩ (zSm (S_nList d).1 (S_lay d.sizes [t]).1 (lyL d.sizes t).cells (srch (cSm (S_nList d).1 (lyL d.sizes t).cells) (lyL d.sizes t).cells.length)).1 (zSm (S_nList d).1 (S_lay d.sizes [t]).1 (lyL d.sizes t).cells (srch (cSm (S_nList d).1 (lyL d.sizes t).cells) (lyL d.sizes t).cells.length)).2 :=
 lSm hO _ _ _ lc (lyL_len h2) (by rw [nList_len h hs ho he h0, lyL_cnt h2]) (lyL_in h2) (lyL_ok h2).1
noncomputable def oc43 : Orc gam := orcF 43 (a2 tbA dA) (tupA (a2 isA iA)) (fun p => S_tSame p.1 p.2) (fun p => [DgR p.2, p.2.sizes.length ≤ most, p.2.order.length ≤ 2 ^ 20, p.2.ends.length + 1 ≤ most, RwsOk p.1]) oc80
theorem gc43 : Gd oc43 := gc80.deep 0 fun n hn hO p hp => by
 obtain ⟨t, d⟩ := p
 have hD : DgR d := hp _ (.head _)
 have hs : d.sizes.length ≤ most := hp _ (.tail _ (.head _))
 have ho : d.order.length ≤ 2 ^ 20 := hp _ (.tail _ (.tail _ (.head _)))
 have he : d.ends.length + 1 ≤ most := hp _ (.tail _ (.tail _ (.tail _ (.head _))))
 have hr : RwsOk t := hp _ (.tail _ (.tail _ (.tail _ (.tail _ (.head _)))))
 have hO := hO n (by omega)
 show Con _ _ _ _ _ ((tupA (a2 isA iA)).put (S_tSame t d)) _
 exact fn_is hX hO (by kernel_rfl) (.o hD (.o hs (.o ho (.o he (.sh (fun _ => .rn (.tup [.nil .slc, .int .i64 (S_nList d).2]) rfl) fun h => .o hs (.o (m1 t) (.o (m2 hr) (.sh (fun _ => .rn (.tup [.nil .slc, .int .i64 (lyE d.sizes t)]) rfl) fun h2 => .o (lyL_in h2) (.zh (fun h3 => .wG [.gc []] (exInl (lSm' hO [[lRw t], d.ps] hD hs ho he h h2) () h3) (.rn (.tup [.nil .slc, .int .i64 7]) rfl)) fun h3 => .wG [.gc []] (exInr (lSm' hO [[lRw t], d.ps] hD hs ho he h h2) 0 h3) .rr)))))))))
end Go.Proofs.YtmefgijobonklaaGreat
namespace Mist
def inB : List Int → List Int → List Int → Prop
 | f :: fs, t :: ts, y :: q => f ≤ y ∧ y ≤ t ∧ inB fs ts q
 | [], [], [] => True
 | _, _, _ => False
theorem box_cons {f t : Int} {fs ts : List Int} (h : f ≤ t) : boxA (f :: fs) (t :: ts) (f :: fs) = (List.range (t - f + 1).toNat).flatMap fun (k : Nat) => (boxA fs ts fs).map ((f + (k : Int)) :: ·) := by
 have e : (t - f + 1).toNat = (t - f).toNat + 1 := by omega
 rw [e, List.range_succ_eq_map]
 simp only [boxA, List.flatMap_cons, List.flatMap_map]
 congr 1
 ·simp
 ·congr 1
  funext k
  have e1 : f + 1 + (k : Int) = f + ((Nat.succ k : Nat) : Int) := by push_cast; omega
  rw [e1]
theorem mem_box : ∀ {f t q : List Int}, LeB t f → (q ∈ boxA f t f ↔ inB f t q)
 | [], [], [], _ => by simp [boxA, inB]
 | [], [], _ :: _, _ => by simp [boxA, inB]
 | f :: fs, t :: ts, [], h => by
  rw [box_cons h.1]
  simp [inB]
 | f :: fs, t :: ts, y :: q, h => by
  have ih := mem_box (q := q) h.2
  rw [box_cons h.1]
  simp only [List.mem_flatMap, List.mem_range, List.mem_map, inB, ← ih]
  constructor
  ·rintro ⟨k, hk, q', hq, e⟩
   cases e
   exact ⟨by omega, by omega, hq⟩
  ·rintro ⟨h1, h2, h3⟩
   exact ⟨(y - f).toNat, by omega, q, h3, by rw [show f + (((y - f).toNat : Nat) : Int) = y by omega]⟩
 | [], _ :: _, _, h => h.elim
 | _ :: _, [], _, h => h.elim
theorem nodup_box : ∀ {f t : List Int}, LeB t f → (boxA f t f).Nodup
 | [], [], _ => by simp [boxA]
 | f :: fs, t :: ts, h => by
  have ih := nodup_box h.2
  rw [box_cons h.1]
  unfold List.Nodup
  rw [List.pairwise_flatMap]
  refine ⟨fun k _ => ?_, ?_⟩
  ·rw [List.pairwise_map]
   exact ih.imp fun h e => h (List.cons.inj e).2
  ·refine List.pairwise_lt_range.imp fun {a b} hab x hx y hy e => ?_
   obtain ⟨x', _, rfl⟩ := List.mem_map.1 hx
   obtain ⟨y', _, rfl⟩ := List.mem_map.1 hy
   have := (List.cons.inj e).1
   omega
 | [], _ :: _, h => h.elim
 | _ :: _, [], h => h.elim
theorem inB_iff : ∀ {f t q : List Int}, inB f t q ↔ f.length = q.length ∧ t.length = q.length ∧ ∀ j, j < q.length → f.getD j 0 ≤ q.getD j 0 ∧ q.getD j 0 ≤ t.getD j 0
 | [], [], [] => by simp [inB]
 | f :: fs, t :: ts, y :: q => by
  have ih := inB_iff (f := fs) (t := ts) (q := q)
  simp only [inB, ih, List.length_cons]
  constructor
  ·rintro ⟨h1, h2, h3, h4, h5⟩
   refine ⟨by omega, by omega, fun j hj => ?_⟩
   cases j with
   | zero => exact ⟨h1, h2⟩
   | succ j => exact h5 j (by omega)
  ·rintro ⟨h1, h2, h3⟩
   have h0 := h3 0 (by omega)
   exact ⟨h0.1, h0.2, by omega, by omega, fun j hj => h3 (j + 1) (by omega)⟩
 | [], _ :: _, q => by cases q <;> simp [inB] <;> (intro h1 h2; omega)
 | _ :: _, [], q => by cases q <;> simp [inB] <;> (intro h1 h2; omega)
 | [], [], _ :: _ => by simp [inB]
 | _ :: _, _ :: _, [] => by simp [inB]
end Mist
namespace Go.Proofs.YtmefgijobonklaaGreat
open Go Tw Pv Mist
theorem fold_on {α γ : Type} {st : α → Nat → α} {get : α → Nat → γ} {up : γ → γ} (I : α → Prop) (N : Nat) (hI : ∀ x n, I x → I (st x n)) (h1 : ∀ x n, I x → n < N → get (st x n) n = up (get x n)) (h2 : ∀ x n m, n ≠ m → get (st x n) m = get x m) : ∀ (l : List Nat) (x : α) (m : Nat), I x → (∀ n ∈ l, n < N) → l.Nodup → get (l.foldl st x) m = if m ∈ l then up (get x m) else get x m
 | [], x, m, _, _, _ => by simp
 | a :: l, x, m, hx, hl, h => by
  rw [List.nodup_cons] at h
  rw [List.foldl_cons, fold_on I N hI h1 h2 l _ m (hI _ _ hx) (fun n hn => hl n (List.mem_cons_of_mem _ hn)) h.2]
  by_cases e : a = m
  ·subst e
   rw [if_neg h.1, if_pos (List.mem_cons_self ..), h1 _ _ hx (hl a (List.mem_cons_self ..))]
  ·rw [h2 x a m e]
   have : m ∈ a :: l ↔ m ∈ l := List.mem_cons.trans (or_iff_right fun h => e h.symm)
   simp only [this]
theorem inB_pl : ∀ {s f t q : List Int}, isPl s f = true → isPl s t = true → inB f t q → isPl s q = true := by
 intro s f t q hf ht h
 obtain ⟨h1, h2, h3⟩ := inB_iff.1 h
 have hf := isPl_iff.1 hf
 have ht := isPl_iff.1 ht
 refine isPl_iff.2 ⟨by omega, fun j hj => ?_⟩
 have a1 := h3 j (by omega)
 have a2 := hf.2 j hj
 have a3 := ht.2 j hj
 omega
def nmR (s : List Int) (r : Rw) : List Nat := (boxA r.fr r.to r.fr).map fun p => (numI s p).toNat
theorem nmR_nodup {s : List Int} (hs : SzOk s) {r : Rw} (hr : RowIn s r) : (nmR s r).Nodup := by
 unfold nmR List.Nodup
 rw [List.pairwise_map]
 refine List.Pairwise.imp_of_mem ?_ (nodup_box hr.le)
 intro a b ha hb hab e
 have pa := inB_pl hr.f hr.t ((mem_box hr.le).1 ha)
 have pb := inB_pl hr.f hr.t ((mem_box hr.le).1 hb)
 have ra := numI_rng pa hs
 have rb := numI_rng pb hs
 have : numI s a = numI s b := by omega
 exact hab (by rw [← nth_num pa hs, ← nth_num pb hs, this])
theorem nmR_mem {s : List Int} (hs : SzOk s) {r : Rw} (hr : RowIn s r) {n : Nat} (hn : n < cnt s) : n ∈ nmR s r ↔ inB r.fr r.to (nthI s n) := by
 unfold nmR
 rw [List.mem_map]
 constructor
 ·rintro ⟨p, hp, e⟩
  have hb := (mem_box hr.le).1 hp
  have pp := inB_pl hr.f hr.t hb
  have rp := numI_rng pp hs
  have : ((n : Nat) : Int) = numI s p := by omega
  rw [this, nth_num pp hs]
  exact hb
 ·intro h
  exact ⟨nthI s n, (mem_box hr.le).2 h, by rw [num_nth hs (by omega) (by unfold cnt at hn; omega)]; simp⟩
theorem nmR_lt {s : List Int} (hs : SzOk s) {r : Rw} (hr : RowIn s r) : ∀ n ∈ nmR s r, n < cnt s := by
 intro n h
 obtain ⟨p, hp, rfl⟩ := List.mem_map.1 h
 have rp := numI_rng (inB_pl hr.f hr.t ((mem_box hr.le).1 hp)) hs
 unfold cnt
 omega
theorem has_iff {s : List Int} {r : Rw} (hr : RowIn s r) {p : List Int} (hp : p.length = s.length) : hasR r p = true ↔ inB r.fr r.to p := by
 unfold hasR
 rw [srch_ok, inB_iff, isPl_len hr.f, isPl_len hr.t, hp]
 simp only [true_and]
 refine forall_congr' fun j => forall_congr' fun hj => ?_
 unfold cHas
 by_cases c : p.getD j 0 < r.fr.getD j 0
 ·rw [if_pos (by simpa using c)]
  constructor
  ·intro h; cases h
  ·rintro ⟨h1, _⟩; omega
 ·rw [if_neg (by simpa using c), decide_eq_false_iff_not]; omega
def stN (c : V) (x : List Int × List V) (n : Nat) : List Int × List V := (x.1.set n (IntKind.i64.wrap (x.1.getD n 0 + 1)), x.2.set n c)
theorem stR_nm (s : List Int) (r : Rw) (x : List Int × List V) : stR s r x = (nmR s r).foldl (stN r.cell) x := by
 unfold stR nmR
 rw [List.foldl_map]
 rfl
theorem stR_at {s : List Int} (hs : SzOk s) {r : Rw} (hr : RowIn s r) {x : List Int × List V} (h1 : x.1.length = cnt s) (h2 : x.2.length = cnt s) {n : Nat} (hn : n < cnt s) : (stR s r x).1.getD n 0 = (if hasR r (nthI s n) = true then IntKind.i64.wrap (x.1.getD n 0 + 1) else x.1.getD n 0) ∧ (stR s r x).2.getD n V0 = if hasR r (nthI s n) = true then r.cell else x.2.getD n V0 := by
 have hm : n ∈ nmR s r ↔ hasR r (nthI s n) = true := by rw [nmR_mem hs hr hn, has_iff hr (nthI_len s n)]
 rw [stR_nm]
 have a1 := fold_on (st := stN r.cell) (get := fun x n => x.1.getD n 0) (up := fun z => IntKind.i64.wrap (z + 1)) (fun x => x.1.length = cnt s ∧ x.2.length = cnt s) (cnt s) (fun x n h => by simpa [stN] using h) (fun x n h hn => by simp [stN, List.getD, List.getElem?_set, h.1, hn]) (fun x n m e => by simp [stN, List.getD, List.getElem?_set, e]) (nmR s r) x n ⟨h1, h2⟩ (nmR_lt hs hr) (nmR_nodup hs hr)
 have a2 := fold_on (st := stN r.cell) (get := fun x n => x.2.getD n V0) (up := fun _ => r.cell) (fun x => x.1.length = cnt s ∧ x.2.length = cnt s) (cnt s) (fun x n h => by simpa [stN] using h) (fun x n h hn => by simp [stN, List.getD, List.getElem?_set, h.2, hn]) (fun x n m e => by simp [stN, List.getD, List.getElem?_set, e]) (nmR s r) x n ⟨h1, h2⟩ (nmR_lt hs hr) (nmR_nodup hs hr)
 simp only [hm] at a1 a2
 exact ⟨a1, a2⟩
def cellI (t : List Rw) (i : Int) : V := if i < 0 then V0 else (t.getD i.toNat Rw0).cell
theorem layX_own {s : List Int} (hs : SzOk s) {t : List Rw} (hr : ∀ r ∈ t, RowIn s r) {n : Nat} (hn : n < cnt s) : (layX s t).1.getD n 0 = (S_Owners t (nthI s n)).1 ∧ (layX s t).2.getD n V0 = cellI t (S_Owners t (nthI s n)).2 := by
 have key : ∀ m, m ≤ t.length → (foldN (fun k => stR s (t.getD k Rw0)) m 0 (x0 s)).1.length = cnt s ∧ (foldN (fun k => stR s (t.getD k Rw0)) m 0 (x0 s)).2.length = cnt s ∧ (foldN (fun k => stR s (t.getD k Rw0)) m 0 (x0 s)).1.getD n 0 = (foldN (gOwn t (nthI s n)) m 0 (0, -1)).1 ∧ (foldN (fun k => stR s (t.getD k Rw0)) m 0 (x0 s)).2.getD n V0 = cellI t (foldN (gOwn t (nthI s n)) m 0 (0, -1)).2 := by
  intro m
  induction m with
  | zero =>
   intro _
   refine ⟨by simp [foldN, x0, cnt], by simp [foldN, x0, cnt], ?_, ?_⟩
   ·simp only [foldN, x0, List.getD, List.getElem?_replicate]; split <;> rfl
   ·simp only [foldN, x0, List.getD, List.getElem?_replicate]; split <;> rfl
  | succ m ih =>
   intro hm
   obtain ⟨i1, i2, i3, i4⟩ := ih (by omega)
   rw [foldN_succ, foldN_succ, Nat.zero_add]
   generalize foldN (fun k => stR s (t.getD k Rw0)) m 0 (x0 s) = x at i1 i2 i3 i4 ⊢
   generalize foldN (gOwn t (nthI s n)) m 0 (0, -1) = y at i3 i4 ⊢
   have hrow := hr (t.getD m Rw0) (by simp [List.getD, List.getElem?_eq_getElem (show m < t.length by omega)])
   have hl := stR_len s (t.getD m Rw0) x
   have ha := stR_at hs hrow i1 i2 hn
   refine ⟨by rw [hl.1, i1], by rw [hl.2, i2], ?_, ?_⟩
   ·rw [ha.1, i3]
    unfold gOwn
    split <;> rfl
   ·rw [ha.2, i4]
    unfold gOwn
    split
    ·show _ = cellI t ((m : Nat) : Int)
     unfold cellI
     rw [if_neg (by omega), Int.toNat_natCast]
    ·rfl
 exact ⟨(key t.length (Nat.le_refl _)).2.2.1, (key t.length (Nat.le_refl _)).2.2.2⟩
end Go.Proofs.YtmefgijobonklaaGreat
namespace Go.Proofs.YtmefgijobonklaaGreat
open Go Tw Pv Mist
theorem cell_vIs {v : V} (h : 0 ≤ v.f) : (S_vCheck v == 0) = vIs v := by
 have e1 : (S_vCheck v == 0) = S_isCell v := by unfold S_vCheck; cases S_isCell v <;> rfl
 have e2 : S_withinV [v.n] (-9999) 9999 = S_rIn v.n (-9999) 9999 := by
  rw [Bool.eq_iff_iff, rIn_iff]
  simp only [S_withinV, S_within1V, List.any_cons, List.any_nil, Bool.or_false, Bool.not_eq_true']
  by_cases c : v.n < -9999
  ·rw [if_pos (by simpa using c)]; simp; omega
  ·rw [if_neg (by simpa using c), decide_eq_false_iff_not]; omega
 rw [e1]
 unfold S_isCell vIs
 rw [e2]
 by_cases c : v.f = 0
 ·rw [if_pos (by simpa using c), if_neg (by simp [c])]
 ·rw [if_neg (by simpa using c), if_pos (show decide (v.f > 0) = true by rw [decide_eq_true_eq]; omega)]
theorem tRow_iff {s : List Int} {r : Rw} : S_tRow s r = true ↔ isPl s r.fr = true ∧ isPl s r.to = true ∧ (S_vCheck r.cell == 0) = true ∧ isL (srch (cFT r) r.fr.length) = true := by
 unfold S_tRow
 cases isPl s r.fr <;> cases isPl s r.to <;> cases (S_vCheck r.cell == 0) <;> cases isL (srch (cFT r) r.fr.length) <;> simp
theorem isRow_iff {s : List Int} {r : Rw} : S_isRow21 s r = true ↔ r.fr.length = s.length ∧ r.to.length = s.length ∧ vIs r.cell = true ∧ isL (srch (cRow s r) s.length) = true := by
 unfold S_isRow21
 by_cases c1 : r.fr.length = s.length
 ·by_cases c2 : r.to.length = s.length
  ·rw [if_neg (by simp [c1]), if_neg (by simp [c2])]
   cases vIs r.cell <;> cases isL (srch (cRow s r) s.length) <;> simp [c1, c2]
  ·rw [if_neg (by simp [c1]), if_pos (by simp; omega)]
   simp [c2]
 ·rw [if_pos (by simp; omega)]
  simp [c1]
theorem row_eq {s : List Int} {r : Rw} (h : 0 ≤ r.cell.f) : S_tRow s r = S_isRow21 s r := by
 rw [Bool.eq_iff_iff, tRow_iff, isRow_iff, cell_vIs h, isPl_iff, isPl_iff, srch_ok, srch_ok]
 constructor
 ·rintro ⟨⟨a1, a2⟩, ⟨b1, b2⟩, c, d⟩
  refine ⟨a1, b1, c, fun j hj => ?_⟩
  have x1 := a2 j hj
  have x2 := b2 j hj
  have x3 := d j (by omega)
  simp only [cFT, decide_eq_false_iff_not] at x3
  simp only [cRow]
  rw [if_neg (by rw [decide_eq_true_eq]; omega), if_neg (by rw [decide_eq_true_eq]; omega), decide_eq_false_iff_not]
  omega
 ·rintro ⟨a1, b1, c, d⟩
  have key : ∀ j, j < s.length → 0 ≤ r.fr.getD j 0 ∧ r.fr.getD j 0 ≤ r.to.getD j 0 ∧ r.to.getD j 0 < s.getD j 0 := fun j hj => by
   have x := d j hj
   simp only [cRow] at x
   split at x
   ·cases x
   rename_i y1
   split at x
   ·cases x
   rename_i y2
   rw [decide_eq_true_eq] at y1 y2
   rw [decide_eq_false_iff_not] at x
   omega
  refine ⟨⟨a1, fun j hj => ?_⟩, ⟨b1, fun j hj => ?_⟩, c, fun j hj => ?_⟩
  ·have := key j hj; omega
  ·have := key j hj; omega
  ·have := key j (by omega)
   simp only [cFT, decide_eq_false_iff_not]
   omega
abbrev ownN (s : List Int) (t : List Rw) (n : Nat) : Int := (S_Owners t (nthI s n)).1
theorem none_cnt {s : List Int} {t : List Rw} : ∀ (m k : Nat) (b : Bool), cntN (gNone s t) m k b = if ((List.range' k m).any fun j => decide (ownN s t j > 1)) = true then .inr () else .inl (b || (List.range' k m).any fun j => ownN s t j == 0)
 | 0, k, b => by simp [cntN]
 | m + 1, k, b => by
  rw [List.range'_succ]
  simp only [cntN, List.any_cons]
  by_cases c : decide (ownN s t k > 1) = true
  ·have e : gNone s t k b = .inr () := by unfold gNone; rw [if_pos c]
   rw [e]
   simp only [c, Bool.true_or, if_true]
  ·have c' : decide (ownN s t k > 1) = false := by simpa using c
   have e : gNone s t k b = .inl (b || (ownN s t k == 0)) := by
    unfold gNone
    rw [if_neg c]
    cases b <;> rfl
   rw [e]
   show cntN (gNone s t) m (k + 1) _ = _
   rw [none_cnt m (k + 1)]
   simp only [c', Bool.false_or, Bool.or_assoc]
theorem own_inv {t : List Rw} (ht : t.length ≤ 4000) (p : List Int) : 0 ≤ (S_Owners t p).1 ∧ (1 ≤ (S_Owners t p).1 → inR (S_Owners t p).2 t.length) := by
 have := foldN_inv (g := gOwn t p) (m := t.length) (k := 0) (s := (0, -1)) (fun k x => 0 ≤ x.1 ∧ x.1 ≤ (k : Int) ∧ (1 ≤ x.1 → inR x.2 t.length)) ⟨by simp, by simp, fun h => by simp at h⟩ (fun j x _ hj h => by
  obtain ⟨h1, h2, h3⟩ := h
  unfold gOwn
  split
  ·have e : IntKind.i64.wrap (x.1 + 1) = x.1 + 1 := wrap_nn (by omega) (by omega)
   refine ⟨by show 0 ≤ IntKind.i64.wrap (x.1 + 1); omega, by show IntKind.i64.wrap (x.1 + 1) ≤ _; push_cast; omega, fun _ => inR_nat (by omega)⟩
  ·exact ⟨h1, by push_cast; omega, h3⟩)
 exact ⟨this.1, this.2.2⟩
theorem layX_had {s : List Int} (hs : SzOk s) {t : List Rw} (hr : ∀ r ∈ t, RowIn s r) : (layX s t).1 = (List.range (cnt s)).map (ownN s t) := by
 refine List.ext_getElem (by rw [(layX_len s t).1]; simp [cnt]) fun n h1 h2 => ?_
 have hn : n < cnt s := by simpa using h2
 have := (layX_own hs hr hn).1
 rw [List.getD, List.getElem?_eq_getElem h1] at this
 simpa using this
theorem err_eq {s : List Int} {t : List Rw} (hc : ∀ r ∈ t, 0 ≤ r.cell.f) : S_tErr s t = S_rTab s t := by
 unfold S_tErr S_rTab
 by_cases c0 : (S_sizes s != 0) = true
 ·rw [if_pos c0, if_pos c0]
 rw [if_neg c0, if_neg c0]
 by_cases c1 : decide ((t.length : Int) > 4000) = true
 ·rw [if_pos c1, if_pos c1]
 rw [if_neg c1, if_neg c1]
 have e : t.all (S_tRow s) = isL (srch (cRows s t) t.length) := by
  rw [Bool.eq_iff_iff, srch_ok, List.all_eq_true]
  have h := all_getD (l := t) (d := Rw0) (p := fun r => S_tRow s r = true)
  rw [← h]
  refine forall_congr' fun j => forall_congr' fun hj => ?_
  have hm : t.getD j Rw0 ∈ t := by simp [List.getD, List.getElem?_eq_getElem hj]
  rw [row_eq (hc _ hm)]
  simp [cRows]
 cases c2 : isL (srch (cRows s t) t.length)
 ·rw [if_pos (by rw [e, c2]; rfl), if_neg (by simp)]
 rw [if_neg (by rw [e, c2]; simp), if_pos rfl]
 have hf := fine_of (s := s) (by simpa using c0)
 have hr : ∀ r ∈ t, RowIn s r := fun r h => rowIn_of (List.all_eq_true.1 (e.trans c2) r h)
 have hl : (layX s t).1.length = cnt s := (layX_len s t).1
 have hcm := hf.cnt_most
 have h0 : 0 < cnt s := by have := prodI_pos hf.sz; unfold cnt; omega
 have ht : t.length ≤ 4000 := by simp at c1; omega
 have hM := max_one (l := (layX s t).1) (by omega) (by omega)
 have hm := min_zero (l := (layX s t).1) (by omega) (by omega) (fun x hx => by
  rw [layX_had hf.sz hr] at hx
  obtain ⟨n, _, rfl⟩ := List.mem_map.1 hx
  exact (own_inv ht _).1)
 rw [layX_had hf.sz hr] at hM hm
 rw [List.any_map] at hM hm
 have hn := none_cnt (s := s) (t := t) (cnt s) 0 false
 rw [← List.range_eq_range', Bool.false_or] at hn
 rw [layX_had hf.sz hr, hM, hm, hn]
 by_cases c3 : ((List.range (cnt s)).any fun j => decide (ownN s t j > 1)) = true
 ·rw [if_pos (show ((List.range (cnt s)).any ((fun x => decide (x > 1)) ∘ ownN s t)) = true from c3), if_pos c3]
  rfl
 ·rw [if_neg (show ¬ ((List.range (cnt s)).any ((fun x => decide (x > 1)) ∘ ownN s t)) = true from c3), if_neg c3]
  rfl
theorem lyE_rTab {s : List Int} {t : List Rw} (hc : ∀ r ∈ t, 0 ≤ r.cell.f) : lyE s t = S_rTab s t := by rw [lyE_eq, err_eq hc]
theorem lyL_list {s : List Int} {t : List Rw} (h : (lyE s t != 0) = false) : (lyL s t).cells = S_List s t := by
 rw [lyL_of h]
 obtain ⟨_, hf, _, ha⟩ := lyL_eq h
 have hr : ∀ r ∈ t, RowIn s r := fun r h => rowIn_of (List.all_eq_true.1 ha r h)
 have hE : S_tErr s t = 0 := by have := lyE_eq s t; rw [this] at h; simpa using h
 have hl : (layX s t).1.length = cnt s := (layX_len s t).1
 have hcm := hf.cnt_most
 have h0 : 0 < cnt s := by have := prodI_pos hf.sz; unfold cnt; omega
 unfold S_tErr at hE
 split at hE
 ·rename_i c; rw [hE] at c; cases c
 split at hE
 ·cases hE
 rename_i c1
 have ht : t.length ≤ 4000 := by simp at c1; omega
 split at hE
 ·cases hE
 split at hE
 ·cases hE
 split at hE
 ·cases hE
 rename_i c4
 have hm := min_zero (l := (layX s t).1) (by omega) (by omega) (fun x hx => by
  rw [layX_had hf.sz hr] at hx
  obtain ⟨n, _, rfl⟩ := List.mem_map.1 hx
  exact (own_inv ht _).1)
 have c4 : (S_lMin (layX s t).1 == 0) = false := by simpa using c4
 rw [c4, layX_had hf.sz hr] at hm
 show (layX s t).2 = _
 unfold S_List
 refine List.ext_getElem (by rw [(layX_len s t).2]; simp [cnt]) fun n h1 h2 => ?_
 have hn : n < cnt s := by simpa using h2
 have h3 := (layX_own hf.sz hr hn).2
 rw [List.getD, List.getElem?_eq_getElem h1] at h3
 have h4 := List.any_eq_false.1 hm.symm (ownN s t n) (List.mem_map.2 ⟨n, by simpa using hn, rfl⟩)
 have h5 := own_inv ht (nthI s n)
 have h6 : 1 ≤ (S_Owners t (nthI s n)).1 := by
  have : ¬ ((S_Owners t (nthI s n)).1 = 0) := by simpa using h4
  omega
 have h7 := h5.2 h6
 have h3 : (layX s t).2[n] = cellI t (S_Owners t (nthI s n)).2 := by simpa using h3
 rw [h3]
 simp only [List.getElem_map, List.getElem_range, atN, S_At, cellI]
 rw [if_neg (by have := h7.1; omega)]
end Go.Proofs.YtmefgijobonklaaGreat
namespace Go.Proofs.YtmefgijobonklaaGreat
open Go Tw Pv Mist
noncomputable def oc18 : Orc gam := orcF 18 (a1 isA) isA (fun p => p) (fun p => [p.length ≤ most]) oc43
theorem gc18 : Gd oc18 := gc43.add fun n hO p hp => fn_is hX hO (by kernel_rfl) (.o (hp _ (.head _)) .rr)
noncomputable def oc19 : Orc gam := orcF 19 (a1 vsA) vsA (fun p => p) (fun p => [p.length ≤ most]) oc18
theorem gc19 : Gd oc19 := gc18.add fun n hO p hp => fn_is hX hO (by kernel_rfl) (.o (hp _ (.head _)) .rr)
def S_thinS (s : List Int) : Bool := if decide ((s.length : Int) ≤ 8) = true then (if (S_sizes s != 0) = true then true else decide (prodC s ≤ 60)) else false
theorem most8 {n : Nat} (h : decide ((n : Int) ≤ 8) = true) : n ≤ most := by rw [decide_eq_true_eq] at h; unfold most; omega
noncomputable def oc15 : Orc gam := orcF 15 (a1 isA) tA (fun p => S_thinS p) np oc19
theorem gc15 : Gd oc15 := gc19.add fun n hO p hp => fn_is hX hO (by kernel_rfl) (.sh (fun h => .o (most8 h) (.ss .rr (.o (most8 h) .rr))) fun _ => .rr)
noncomputable abbrev wCp (t acc : List Rw) (i : Int) (x : List (Nat × PE gam)) : PSt gam := ⟨[(1, .loc 0 0), (2, .loc 1 0), (3, .loc 2 0), (4, xi i)] ++ x, [[lRw t], [.nil .slc], [.own 0]], [.list false false 95 acc]⟩
theorem lCp {n : Nat} {t : List Rw} (hO : Ok n oc15) (hl : t.length ≤ most) (hr : RwsOk t) : Lp n 28 0 (wCp t [] 0 []) (.exit 0) (wCp t t t.length [(10, xl false)]) := by
 have e : foldN (fun k (a : List Rw) => a ++ [t.getD k Rw0]) t.length 0 [] = t := by
  rw [map_fold, map_range t Rw0 fun r => r, List.map_id']
 rw [show wCp t t t.length [(10, xl false)] = wCp t (foldN (fun k (a : List Rw) => a ++ [t.getD k Rw0]) t.length 0 []) t.length [(10, xl false)] by rw [e]]
 refine foldL (σ := List Rw) (N := t.length) (g := fun k (a : List Rw) => a ++ [t.getD k Rw0]) (s0 := ([] : List Rw)) (st := fun i a => wCp t a i []) (fin := fun a => wCp t a t.length [(10, xl false)]) (fun k a => a.length = k) (by kernel_rfl) hl rfl (fun k a _ h => by simp [h]) (fun k a hk ha m e p h => ?_) (fun a _ => ?_)
 ·have hm := hr (t.getD k Rw0) (by simp [List.getD, List.getElem?_eq_getElem hk])
  have hal : a.length + 1 ≤ most := by have : a.length = k := ha; omega
  exact round hX hO (by kernel_rfl) (.b (lt_nat hk) (.o (inR_nat hk) (.o hm.1 (.o hm.2 (.o hal (.goG [.gc [2]] h))))))
 ·exact round hX hO (by kernel_rfl) (.b (lt_no t.length) .ex)
noncomputable def oc28 : Orc gam := orcF 28 (a1 tbA) tbA (fun p => p) (fun p => [p.length ≤ most, RwsOk p]) oc15
theorem gc28 : Gd oc28 := gc15.add fun n hO p hp => fn_is hX hO (by kernel_rfl) (.wG [.nilL 2 0 95] (lCp hO (hp _ (.head _)) (hp _ (.tail _ (.head _)))) .rr)
abbrev cTh (t : List Rw) (k : Nat) : Bool := if decide (((t.getD k Rw0).fr.length : Int) > 8) = true then true else decide (((t.getD k Rw0).to.length : Int) > 8)
abbrev wTh (t : List Rw) (i : Int) (x : List (Nat × PE gam)) : PSt gam := ⟨[(1, .loc 0 0), (3, xi i)] ++ x, [[lRw t]], []⟩
def zTh (t : List Rw) : Unit ⊕ Nat → Ex × PSt gam
 | .inl _ => (.exit 0, wTh t t.length [(12, xl false)])
 | .inr _ => (.ret, ⟨[(2, xl false)], [[lRw t]], []⟩)
theorem lTh {n : Nat} (hO : Ok n oc28) (t : List Rw) (hl : t.length ≤ most) : Lp n 31 0 (wTh t 0 []) (zTh t (srch (cTh t) t.length)).1 (zTh t (srch (cTh t) t.length)).2 := by
 refine eachN (X := X0) (P := Tryz.prog) (T := T) (st := fun i _ => wTh t i []) (g := gS (cTh t)) (out := zTh t) (fun _ _ => True) (by kernel_rfl) hl LLm trivial (fun k u m hk _ ih => ?_) (fun _ _ => ?_)
 ·unfold gS cTh
  cases e1 : decide (((t.getD k Rw0).fr.length : Int) > 8)
  ·exact round hX hO (by kernel_rfl) (.b (lt_nat hk) (.o (inR_nat hk) (.b e1 (.o (inR_nat hk) (.ls (.ou nofun) (.nx (ih _ trivial)))))))
  ·exact round hX hO (by kernel_rfl) (.b (lt_nat hk) (.o (inR_nat hk) (.b e1 (.ou nofun))))
 ·exact round hX hO (by kernel_rfl) (.b (lt_no t.length) (.ou nofun))
def S_thinT (t : List Rw) : Bool := if decide ((t.length : Int) > 70) = true then false else if isL (srch (cTh t) t.length) = true then true else false
theorem most70 {n : Nat} (h : decide ((n : Int) > 70) = false) : n ≤ most := by rw [decide_eq_false_iff_not] at h; unfold most; omega
noncomputable def oc31 : Orc gam := orcF 31 (a1 tbA) tA (fun p => S_thinT p) np oc28
theorem gc31 : Gd oc31 := gc28.add fun n hO p hp => fn_is hX hO (by kernel_rfl) (.sh (fun _ => .rr) fun h => .zh (fun h2 => .w (exInl (lTh hO p (most70 h)) () h2) .rr) fun h2 => .w (exInr (lTh hO p (most70 h)) 0 h2) .rr)
end Go.Proofs.YtmefgijobonklaaGreat
namespace Go.Proofs.YtmefgijobonklaaGreat
open Go Tw Pv Mist
noncomputable abbrev wGv (d : Dg) (acc : List Br) (i : Int) (x : List (Nat × PE gam)) : PSt gam := ⟨[(1, .loc 0 0), (2, .loc 1 0), (3, .loc 2 0), (4, xi i)] ++ x, [d.ps, [.nil .slc, .nil .slc, .nil .slc, .nil .slc, .int .i64 0], [.lst 3 d.sizes false, .lst 3 d.order false, .lst 58 d.ends false, .own 0, .int .i64 d.root]], [.list false false 73 acc]⟩
noncomputable abbrev Br0' : Br := X0.d0 73
theorem lGv {n : Nat} {d : Dg} (hO : Ok n oc31) (hl : d.nodes.length ≤ most) (hr : ∀ b ∈ d.nodes, b.kids.length ≤ most) : Lp n 44 0 (wGv d [] 0 []) (.exit 0) (wGv d d.nodes d.nodes.length [(21, xl false)]) := by
 have e : foldN (fun k (a : List Br) => a ++ [d.nodes.getD k Br0']) d.nodes.length 0 [] = d.nodes := by
  rw [map_fold, map_range d.nodes Br0' fun r => r, List.map_id']
 rw [show wGv d d.nodes d.nodes.length [(21, xl false)] = wGv d (foldN (fun k (a : List Br) => a ++ [d.nodes.getD k Br0']) d.nodes.length 0 []) d.nodes.length [(21, xl false)] by rw [e]]
 refine foldL (σ := List Br) (N := d.nodes.length) (g := fun k (a : List Br) => a ++ [d.nodes.getD k Br0']) (s0 := ([] : List Br)) (st := fun i a => wGv d a i []) (fin := fun a => wGv d a d.nodes.length [(21, xl false)]) (fun k a => a.length = k) (by kernel_rfl) hl rfl (fun k a _ h => by simp [h]) (fun k a hk ha m e p h => ?_) (fun a _ => ?_)
 ·have hm := hr (d.nodes.getD k Br0') (by simp [List.getD, List.getElem?_eq_getElem hk])
  have hal : a.length + 1 ≤ most := by have : a.length = k := ha; omega
  exact round hX hO (by kernel_rfl) (.b (lt_nat hk) (.o (inR_nat hk) (.o (inR_nat hk) (.o hm (.o hal (.goG [.gc [2]] h))))))
 ·exact round hX hO (by kernel_rfl) (.b (lt_no d.nodes.length) .ex)
noncomputable def oc44 : Orc gam := orcF 44 (a1 dA) dA (fun p => p) (fun p => [p.sizes.length ≤ most, p.order.length ≤ most, p.ends.length ≤ most, p.nodes.length ≤ most, ∀ b ∈ p.nodes, b.kids.length ≤ most]) oc31
theorem gc44 : Gd oc44 := gc31.add fun n hO p hp => fn_is hX hO (by kernel_rfl) (.o (hp _ (.head _)) (.o (hp _ (.tail _ (.head _))) (.o (hp _ (.tail _ (.tail _ (.head _)))) (.wG [.nilL 2 3 73] (lGv hO (hp _ (.tail _ (.tail _ (.tail _ (.head _))))) (hp _ (.tail _ (.tail _ (.tail _ (.tail _ (.head _))))))) .rr))))
end Go.Proofs.YtmefgijobonklaaGreat
namespace Go.Proofs.YtmefgijobonklaaGreat
open Go Tw Pv Mist
theorem con_aw {n : Nat} : Con X0 Tryz.prog (ApN (n + 1)) 16 ((nilA : Args Unit).put ()) ((tA : Arg Bool).put true) [] := by
 intro A h first args cap hup hv
 have e := hv.inv0
 have e1 : first = [] := by cases first with | nil => rfl | cons => cases e
 subst e1
 have e2 : args = [] := by cases args with | nil => rfl | cons => cases e
 subst e2
 have e3 : cap = [] := by cases cap with | nil => rfl | cons => cases e
 subst e3
 exact ⟨.bool true, h, [], rfl, ⟨rfl, fun i b hb => by simp at hb, by simp [blks], hup, fun b hb => by simp [blks] at hb⟩, .bool _, .refl⟩
noncomputable def oc16 : Orc gam := orcF 16 nilA tA (fun _ => true) np oc44
theorem gc16 : Gd oc16 := gc44.deep 0 fun n hn hO p hp => con_aw
theorem thinS_len {s : List Int} (h : S_thinS s = true) : s.length ≤ most := by
 unfold S_thinS at h
 split at h
 ·rename_i h2; exact most8 h2
 ·cases h
theorem ne0 {a : Int} (h : (a == 0) = true) : (a != 0) = false := by simp at *; exact h
theorem ne0' {a : Int} (h : (a == 0) = false) : (a != 0) = true := by simp at *; exact h
end Go.Proofs.YtmefgijobonklaaGreat
namespace Go.Proofs.YtmefgijobonklaaGreat
open Go Tw Pv Mist
theorem laid_of {s : List Int} {t : List Rw} (h : (S_rTab s t != 0) = false) : Laid s t := by
 have h0 : S_rTab s t = 0 := by simpa using h
 unfold S_rTab at h0
 split at h0
 ·rename_i c; rw [h0] at c; simp at c
 rename_i c1
 split at h0
 ·cases h0
 rename_i c2
 split at h0
 ·rename_i c3
  split at h0
  ·rename_i c4
   split at h0
   ·cases h0
   ·rename_i c5
    have hf := fine_of (s := s) (by simpa using c1)
    have hl : t.length ≤ 4000 := by simp at c2; omega
    refine ⟨hf, hl, rowsL_of c3, fun p hp => ?_⟩
    rw [none_cnt] at c4 c5
    split at c4
    ·cases c4
    rename_i c6
    rw [if_neg c6] at c5
    simp only [Bool.false_or] at c5
    have hr := numI_rng hp hf.sz
    have hn : (numI s p).toNat < cnt s := by unfold cnt; omega
    have e : (((numI s p).toNat : Nat) : Int) = numI s p := by omega
    have hk : ownN s t (numI s p).toNat ≠ 0 := fun e0 => c5 (by
     show List.any _ _ = true
     rw [List.any_eq_true]
     exact ⟨(numI s p).toNat, by rw [List.mem_range']; exact ⟨(numI s p).toNat, hn, by omega⟩, by rw [e0]; rfl⟩)
    unfold ownN at hk
    rw [e, nth_num hp hf.sz] at hk
    obtain ⟨a1, a2⟩ := own_inv hl p
    exact a2 (by omega)
  ·cases h0
 ·cases h0
end Go.Proofs.YtmefgijobonklaaGreat
namespace Go.Proofs.YtmefgijobonklaaGreat
open Go Tw Pv Mist
theorem vIs_good {v : V} (h : vIs v = true) (h0 : 0 ≤ v.f) : VGood v := by
 unfold vIs at h
 split at h
 ·rename_i c
  split at h
  ·rename_i c2
   rw [decide_eq_true_eq] at c c2
   exact ⟨h0, c2, fun e => by omega, fun _ => by simpa using h⟩
  ·cases h
 ·rename_i c
  rw [decide_eq_true_eq] at c
  exact ⟨h0, by omega, fun _ => rIn_iff.1 h, fun e => by omega⟩
theorem laid_row {s : List Int} {t : List Rw} (h : (S_rTab s t != 0) = false) : ∀ r ∈ t, S_isRow21 s r = true := by
 have h0 : S_rTab s t = 0 := by simpa using h
 unfold S_rTab at h0
 split at h0
 ·rename_i c; rw [h0] at c; simp at c
 split at h0
 ·cases h0
 split at h0
 ·rename_i c3
  have := srch_ok.1 c3
  intro r hr
  have := (all_getD (l := t) (d := Rw0) (p := fun r => S_isRow21 s r = true)).1 (fun j hj => by have := this j hj; simpa [cRows] using this)
  exact this r hr
 ·cases h0
def erL (s : List Int) : List (List Rw) → Int → Int
 | [], w => w
 | t :: ts, w => if (w == 0) = true then erL s ts (S_rTab s t) else w
theorem erL_no {s : List Int} : ∀ {ts : List (List Rw)} {w : Int}, w ≠ 0 → erL s ts w = w
 | [], _, _ => rfl
 | t :: ts, w, h => by rw [erL, if_neg (by simpa using h)]
theorem erL_ok {s : List Int} : ∀ {ts : List (List Rw)}, erL s ts 0 = 0 → ∀ t ∈ ts, S_rTab s t = 0
 | [], _, t, ht => by cases ht
 | t :: ts, h, t', ht => by
  rw [erL, if_pos (show ((0 : Int) == 0) = true from rfl)] at h
  by_cases c : S_rTab s t = 0
  ·rw [c] at h
   rcases List.mem_cons.1 ht with rfl | ht
   ·exact c
   ·exact erL_ok h t' ht
  ·rw [erL_no c] at h; exact absurd h c
def wantO (s : List Int) (c : Int) (ts : List (List Rw)) : Int := if (S_sizes s != 0) = true then S_sizes s else if ((ts.length : Int) == 0) = true then 2 else if (S_Tables c != (ts.length : Int)) = true then 2 else erL s ts 0
theorem want_ok {s : List Int} {c : Int} {ts : List (List Rw)} (hf : ∀ t ∈ ts, ∀ r ∈ t, 0 ≤ r.cell.f) (h : (wantO s c ts != 0) = false) : OpOk s ts := by
 have h : wantO s c ts = 0 := by simpa using h
 unfold wantO at h
 split at h
 ·rename_i c1; rw [h] at c1; simp at c1
 rename_i c1
 split at h
 ·cases h
 rename_i c2
 split at h
 ·cases h
 rename_i c3
 have hok := erL_ok h
 have c3' : (ts.length : Int) = S_opnd c := by rw [show S_Tables c = S_opnd c from rfl] at c3; simp at c3; omega
 have := opnd_rng c
 refine ⟨fine_of (by simpa using c1), fun t ht => laid_of (by rw [hok t ht]; rfl), fun t ht r hr => ?_, ?_⟩
 ·have hg := vIs_good (isRow_iff.1 (laid_row (by rw [hok t ht]; rfl) r hr)).2.2.1 (hf t ht r hr)
  by_cases e : r.cell.f = 0
  ·have := hg.n e; exact ⟨by omega, by omega⟩
  ·have := hg.z e; exact ⟨by omega, by omega⟩
 ·have c2' : (ts.length : Int) ≠ 0 := fun e => c2 (by rw [e]; rfl)
  omega
theorem thinT_ok {t : List Rw} (h : S_thinT t = true) : t.length ≤ most ∧ RwsOk t := by
 unfold S_thinT at h
 split at h
 ·cases h
 ·rename_i c
  split at h
  ·rename_i c2
   refine ⟨most70 (by simpa using c), ?_⟩
   have := srch_ok.1 c2
   refine (all_getD (l := t) (d := Rw0) (p := fun r => r.fr.length ≤ most ∧ r.to.length ≤ most)).1 fun j hj => ?_
   have := this j hj
   unfold cTh at this
   split at this
   ·cases this
   ·rename_i c3
    rw [decide_eq_true_eq] at c3
    rw [decide_eq_false_iff_not] at this
    unfold most
    omega
  ·cases h
end Go.Proofs.YtmefgijobonklaaGreat
namespace Go.Proofs.YtmefgijobonklaaGreat
open Go Tw Pv Mist
theorem cntN_cg {σ ρ : Type} {g h : Nat → σ → σ ⊕ ρ} : ∀ (m k : Nat) (s : σ), (∀ j s, k ≤ j → j < k + m → g j s = h j s) → cntN g m k s = cntN h m k s
 | 0, _, _, _ => rfl
 | m + 1, k, s, e => by
  simp only [cntN]
  rw [e k s (Nat.le_refl _) (by omega)]
  cases h k s with
  | inl s1 => exact cntN_cg m (k + 1) s1 fun j s h1 h2 => e j s (by omega) (by omega)
  | inr r => rfl
theorem srch_cg {c d : Nat → Bool} {n : Nat} (h : ∀ k, k < n → c k = d k) : srch c n = srch d n := by
 unfold srch
 refine cntN_cg n 0 () fun j s _ hj => ?_
 unfold gS
 rw [h j (by omega)]
theorem tsame_eq {t : List Rw} {d : Dg} (h : DgR d) (hs : d.sizes.length ≤ most) (ho : d.order.length ≤ 2 ^ 20) (he : d.ends.length + 1 ≤ most) (hc : ∀ r ∈ t, 0 ≤ r.cell.f) : S_tSame t d = if (S_rDg d != 0) = true then ([], S_rDg d) else if (S_rTab d.sizes t != 0) = true then ([], S_rTab d.sizes t) else if (S_Differ t d).2 = true then ((S_Differ t d).1, 0) else ([], 7) := by
 have e := nList_eq h hs (by unfold most; omega) he
 unfold S_tSame
 by_cases c : (S_rDg d != 0) = true
 ·rw [if_pos c] at e
  rw [e, if_pos c, if_pos c]
 ·rw [if_neg c] at e
  rw [e, if_neg (by simp), if_neg c]
  by_cases a : (lyE d.sizes t != 0) = true
  ·rw [if_pos a, lyE_rTab hc] at *
   rw [if_pos a]
  ·have a' : (lyE d.sizes t != 0) = false := by simpa using a
   have e1 := lyL_list a'
   have e2 : (lyL d.sizes t).s = d.sizes := by rw [lyL_of a']
   rw [if_neg a, e1, e2]
   rw [lyE_rTab hc] at a
   rw [if_neg a]
   have e3 : (S_List d.sizes t).length = cnt d.sizes := by simp [S_List]
   rw [e3]
   have e4 : srch (cSm (cellsD d) (S_List d.sizes t)) (cnt d.sizes) = srch (cDf t d) (cnt d.sizes) := srch_cg fun k hk => by
    unfold cSm S_List cellsD
    simp only [List.getD, List.getElem?_map, List.getElem?_range hk, Option.map_some, Option.getD_some]
   rw [show ((cellsD d, (0 : Int)).1) = cellsD d from rfl, e4]
   unfold S_Differ
   by_cases b : isL (srch (cDf t d) (cnt d.sizes)) = true
   ·rw [if_pos b, if_pos b]; rfl
   ·rw [if_neg b, if_neg b]; rfl
end Go.Proofs.YtmefgijobonklaaGreat
namespace Go.Proofs.YtmefgijobonklaaGreat
open Go Tw Pv Mist
abbrev cTS (d : Dg) (k : Nat) : Bool := decide (((d.nodes.getD k Br0).kids.length : Int) > 12)
abbrev wTS (t : List Rw) (d : Dg) (i : Int) (x : List (Nat × PE gam)) : PSt gam := ⟨[(2, .loc 0 0), (3, .loc 1 0), (5, xi i)] ++ x, [[lRw t], d.ps], []⟩
def zTS (t : List Rw) (d : Dg) : Unit ⊕ Nat → Ex × PSt gam
 | .inl _ => (.exit 0, wTS t d d.nodes.length [(43, xl false)])
 | .inr _ => (.ret, ⟨[(4, xt true)], [[lRw t], d.ps], []⟩)
theorem lTS {n : Nat} (hO : Ok n oc16) (t : List Rw) (d : Dg) (hl : d.nodes.length ≤ most) : Lp n 8 0 (wTS t d 0 []) (zTS t d (srch (cTS d) d.nodes.length)).1 (zTS t d (srch (cTS d) d.nodes.length)).2 := by
 refine eachN (X := X0) (P := Tryz.prog) (T := T) (st := fun i _ => wTS t d i []) (g := gS (cTS d)) (out := zTS t d) (fun _ _ => True) (by kernel_rfl) hl LLm trivial (fun k u m hk _ ih => ?_) (fun _ _ => ?_)
 ·exact round hX hO (by kernel_rfl) (.b (lt_nat hk) (.o (inR_nat hk) (.ls (.ou nofun) (.nx (ih _ trivial)))))
 ·exact round hX hO (by kernel_rfl) (.b (lt_no d.nodes.length) (.ou nofun))
noncomputable def oc8 : Orc gam := orcF 8 (a2 tbA dA) tA (fun _ => true) (fun p => [∀ r ∈ p.1, 0 ≤ r.cell.f, DgR p.2]) oc16
theorem gc8 : Gd oc8 := gc16.add fun n hO p hp => by
 obtain ⟨t, d⟩ := p
 have hc : ∀ r ∈ t, 0 ≤ r.cell.f := hp _ (.head _)
 have hR : DgR d := hp _ (.tail _ (.head _))
 show Con _ _ _ _ _ ((tA : Arg Bool).put true) _
 cases c1 : S_thinS d.sizes
 ·exact fn_is hX hO (by kernel_rfl) (.b (show (!(S_thinS d.sizes)) = true by rw [c1]; rfl) .rr)
 have t1 : (!(S_thinS d.sizes)) = false := by rw [c1]; rfl
 have h1 : d.sizes.length ≤ most := thinS_len c1
 cases c2 : S_thinT t
 ·exact fn_is hX hO (by kernel_rfl) (.b t1 (.b (show (!(S_thinT t)) = true by rw [c2]; rfl) .rr))
 have t2 : (!(S_thinT t)) = false := by rw [c2]; rfl
 obtain ⟨h2, h3⟩ := thinT_ok c2
 cases c3 : decide ((d.order.length : Int) > 8)
 rotate_left
 ·exact fn_is hX hO (by kernel_rfl) (.b t1 (.b t2 (.b c3 .rr)))
 cases c4 : decide ((d.ends.length : Int) > 62)
 rotate_left
 ·exact fn_is hX hO (by kernel_rfl) (.b t1 (.b t2 (.b c3 (.b c4 .rr))))
 cases c5 : decide ((d.nodes.length : Int) > 70)
 rotate_left
 ·exact fn_is hX hO (by kernel_rfl) (.b t1 (.b t2 (.b c3 (.b c4 (.b c5 .rr)))))
 rw [decide_eq_false_iff_not] at c3 c4 c5
 have g1 : d.order.length ≤ most := by unfold most; omega
 have g2 : d.ends.length ≤ most := by unfold most; omega
 have g3 : d.nodes.length ≤ most := by unfold most; omega
 have g4 : d.order.length ≤ 2 ^ 20 := by omega
 have g5 : d.ends.length + 1 ≤ most := by unfold most; omega
 have t3 : decide ((d.order.length : Int) > 8) = false := by rw [decide_eq_false_iff_not]; exact c3
 have t4 : decide ((d.ends.length : Int) > 62) = false := by rw [decide_eq_false_iff_not]; exact c4
 have t5 : decide ((d.nodes.length : Int) > 70) = false := by rw [decide_eq_false_iff_not]; exact c5
 have l0 := lTS hO t d g3
 cases c6 : isL (srch (cTS d) d.nodes.length)
 ·exact fn_is hX hO (by kernel_rfl) (.b t1 (.b t2 (.b t3 (.b t4 (.b t5 (.w (exInr l0 0 c6) .rr))))))
 have g6 : ∀ b ∈ d.nodes, b.kids.length ≤ most := by
  have := srch_ok.1 c6
  refine (all_getD (l := d.nodes) (d := Br0) (p := fun b => b.kids.length ≤ most)).1 fun j hj => ?_
  have := this j hj
  simp only [cTS, decide_eq_false_iff_not] at this
  unfold most; omega
 have e := tsame_eq (t := t) hR h1 g4 g5 hc
 cases c7 : S_rDg d == 0
 ·have n7 := ne0' c7
  rw [if_pos n7] at e
  exact fn_is hX hO (by kernel_rfl) (.b t1 (.b t2 (.b t3 (.b t4 (.b t5 (.w (exInl l0 () c6) (.o h2 (.o h3 (.o h1 (.o g1 (.o g2 (.o g3 (.o g6 (.o hR (.o h1 (.o g4 (.o g5 (.o h3 (.o g1 (.o g2 (.b c7 (.b n7 (.b (show ((S_tSame t d).2 == S_rDg d) = true by rw [e]; simp) (.b (show (((S_tSame t d).1.length : Int) == 0) = true by rw [e]; rfl) .rr))))))))))))))))))))))))
 have n7 := ne0 c7
 rw [if_neg (by rw [n7]; simp)] at e
 cases c8 : S_rTab d.sizes t != 0
 rotate_left
 ·rw [if_pos c8] at e
  exact fn_is hX hO (by kernel_rfl) (.b t1 (.b t2 (.b t3 (.b t4 (.b t5 (.w (exInl l0 () c6) (.o h2 (.o h3 (.o h1 (.o g1 (.o g2 (.o g3 (.o g6 (.o hR (.o h1 (.o g4 (.o g5 (.o h3 (.o g1 (.o g2 (.b c7 (.o h1 (.b c8 (.b (show ((S_tSame t d).2 == S_rTab d.sizes t) = true by rw [e]; simp) (.b (show (((S_tSame t d).1.length : Int) == 0) = true by rw [e]; rfl) .rr)))))))))))))))))))))))))
 rw [if_neg (by rw [c8]; simp)] at e
 have hL := laid_of c8
 have hU : DgU d := DgU.of g1 g2 (by
  unfold S_rDg at n7
  split at n7
  ·rename_i c; rw [c] at n7; cases n7
  ·rename_i c; simpa using c)
 cases c9 : (S_Differ t d).2
 ·rw [if_neg (by rw [c9]; simp)] at e
  exact fn_is hX hO (by kernel_rfl) (.b t1 (.b t2 (.b t3 (.b t4 (.b t5 (.w (exInl l0 () c6) (.o h2 (.o h3 (.o h1 (.o g1 (.o g2 (.o g3 (.o g6 (.o hR (.o h1 (.o g4 (.o g5 (.o h3 (.o g1 (.o g2 (.b c7 (.o h1 (.b c8 (.o hL (.o hU (.b (show (!(S_Differ t d).2) = true by rw [c9]; rfl) (.b (show ((S_tSame t d).2 == 7) = true by rw [e]; rfl) (.b (show (((S_tSame t d).1.length : Int) == 0) = true by rw [e]; rfl) .rr))))))))))))))))))))))))))))
 rw [if_pos c9] at e
 have hlen : (S_tSame t d).1.length ≤ most := by
  rw [e]
  unfold S_Differ
  split
  ·exact Nat.zero_le _
  ·show (nthI _ _).length ≤ most
   rw [nthI_len]; exact h1
 exact fn_is hX hO (by kernel_rfl) (.b t1 (.b t2 (.b t3 (.b t4 (.b t5 (.w (exInl l0 () c6) (.o h2 (.o h3 (.o h1 (.o g1 (.o g2 (.o g3 (.o g6 (.o hR (.o h1 (.o g4 (.o g5 (.o h3 (.o g1 (.o g2 (.b c7 (.o h1 (.b c8 (.o hL (.o hU (.b (show (!(S_Differ t d).2) = false by rw [c9]; rfl) (.b (show ((S_tSame t d).2 == 0) = true by rw [e]; rfl) (.o hlen (.b (show (decide ((S_tSame t d).1 = (S_Differ t d).1)) = true by rw [e]; simp) .rr)))))))))))))))))))))))))))))
end Go.Proofs.YtmefgijobonklaaGreat
namespace Tw
open Go Go.ChangeShapes Go.WideShapes Go.RowKit
theorem trodAll_n {H : Type} {enc : TypeId × Value → H} {P : Program} {w : World} {t : TypeId} {ts : List TypeId} {vs : List Value} {ds : List (DataW H)} {ps : List MemPlace} (h : DataW.TrodAll enc P w 0 (fun _ => true) true (t :: ts) vs ds ps) : ∃ d e, ds = d :: e ∧ Rd enc P w t d ∧ ∃ vs ps, DataW.TrodAll enc P w 0 (fun _ => true) true ts vs e ps := by
 obtain ⟨v, vs', d, ds', p, q, rfl, rfl, rfl, ⟨fuel, hd⟩, hrest⟩ := trodAll_cons h
 exact ⟨d, ds', rfl, ⟨_, fuel, p, hd⟩, _, _, hrest⟩
section
variable {H : Type} {P : Program} {g : Nat} {t : TypeId} {ts : List TypeId} {d : DataW H} {ds : List (DataW H)} {h h1 h2 : List HB} {xs : List TV}
theorem encA_a {cs : List TV} (ha : isAggT P t = some true) (he : encT P g t d h = some (cs, h1)) (hr : encA P g ts ds h1 = some (xs, h2)) : encA P g (t :: ts) (d :: ds) h = some (.agg cs :: xs, h2) := by
 simp only [encA, he, ha, hr]
theorem encA_0 : encA (H := H) P g [] [] h = some ([], h) := rfl
end
end Tw
namespace Pv
open Go Tw
section
variable {X : Cod} {P : Program} {H : Type} {encH : TypeId × Value → H} {w : World}
abbrev AT : Nat → Prop := fun _ => True
def RdP (encH : TypeId × Value → H) (X : Cod) (P : Program) (w : World) (g t : Nat) {α : Type} (ps : α → List (PV X.Γ)) (Q : α → Prop) : Prop :=
 ∀ d, Rd encH P w t d → ∃ a, Q a ∧ ∀ h, ∃ xs ext, encT P g t d h = some (xs, h ++ ext) ∧ ∀ e, VRs X P AT [] (h ++ ext ++ e) (ps a) xs
theorem rdp_int {t g : Nat} {k : IntKind} (ht : P.underlying t = some (.int k)) : RdP encH X P w (g + 1) t (fun n : Int => [.int k n]) (fun n => (Lit.int k n).wf = true) := fun d hd => by
 obtain ⟨n, rfl, hn⟩ := rd_int ht hd
 exact ⟨n, hn, fun h => ⟨[.int k n], [], by simp [encT, ht], fun e => .cons (.int _ _) .nil⟩⟩
theorem encL_rows {e g sz : Nat} {Q : X.Γ e → Prop} (hlen : ∀ a, (X.enc e a).length = sz) (hr : RdP encH X P w g e (X.enc e) Q) : ∀ (ds : List (DataW H)), (∀ y ∈ ds, Rd encH P w e y) →
  ∃ l : List (X.Γ e), l.length = ds.length ∧ (∀ a ∈ l, Q a) ∧ ∀ h, ∃ cs ext, encL (encT P g e) sz ds h = some (cs, h ++ ext) ∧ cs.length = l.length * sz ∧ ∀ e2 (j : Nat) a (i : Nat) c v, l[j]? = some a → (X.enc e a)[i]? = some c → cs[j * sz + i]? = some v → VR X P AT [] (h ++ ext ++ e2) c v
 | [], _ => ⟨[], rfl, by simp, fun h => ⟨[], [], by simp [encL], by simp, fun e2 j a i c v h1 => by simp at h1⟩⟩
 | d :: ds, hd => by
  obtain ⟨a, qa, ha⟩ := hr d (hd d (List.mem_cons_self ..))
  obtain ⟨l, l1, l2, l3⟩ := encL_rows hlen hr ds fun y hy => hd y (List.mem_cons_of_mem _ hy)
  refine ⟨a :: l, by simp [l1], fun b hb => (List.mem_cons.1 hb).elim (fun e => e ▸ qa) (l2 b), fun h => ?_⟩
  obtain ⟨xs, e1, h1, v1⟩ := ha h
  obtain ⟨cs, e2, h2, c2, v2⟩ := l3 (h ++ e1)
  have hx : xs.length = sz := by rw [← (v1 []).1]; exact hlen a
  refine ⟨xs ++ cs, e1 ++ e2, ?_, by simp only [List.length_append, List.length_cons, hx, c2, Nat.add_mul]; omega, fun e3 j b i c v hj hi hv => ?_⟩
  ·simp only [encL, h1, hx, if_true, h2, List.append_assoc]
  ·cases j with
   | zero =>
    simp only [List.getElem?_cons_zero, Option.some.injEq] at hj
    subst hj
    have hi2 : i < sz := by rw [← hlen a]; exact (List.getElem?_eq_some_iff.1 hi).1
    rw [Nat.zero_mul, Nat.zero_add, List.getElem?_append_left (by omega)] at hv
    have := (v1 (e2 ++ e3)).2 i c v hi hv
    simp only [List.append_assoc] at this ⊢
    exact this
   | succ j =>
    rw [List.getElem?_cons_succ] at hj
    rw [List.getElem?_append_right (by rw [hx, Nat.add_mul]; omega), hx, show (j + 1) * sz + i - sz = j * sz + i by rw [Nat.add_mul]; omega] at hv
    have := v2 e3 j b i c v hj hi hv
    simp only [List.append_assoc] at this ⊢
    exact this
theorem rdp_list {t e g sz : Nat} {Q : X.Γ e → Prop} (ht : P.underlying t = some (.slice e)) (hsz : P.cellsOf e = sz) (hz : sizeT P e = some sz) (h0 : 0 < sz) (hlen : ∀ a, (X.enc e a).length = sz) (hr : RdP encH X P w g e (X.enc e) Q) : RdP encH X P w (g + 1) t (fun l : List (X.Γ e) => [.lst e l false]) (fun l => ∀ a ∈ l, Q a) := fun d hd => by
 rcases rd_slice ht hd with rfl | ⟨xs, ys, rfl, hy⟩
 ·exact ⟨[], by simp, fun h => ⟨[.nil .slc], [], by simp [encT, ht], fun e => .cons .lstN .nil⟩⟩
 ·obtain ⟨l, l1, l2, l3⟩ := encL_rows hlen hr (xs ++ ys) hy
  have hl : xs.length ≤ l.length := by rw [l1, List.length_append]; omega
  refine ⟨l.take xs.length, fun a ha => l2 a (List.mem_of_mem_take ha), fun h => ?_⟩
  obtain ⟨cs, e1, h1, c1, v1⟩ := l3 h
  refine ⟨[.slc (h ++ e1).length 0 xs.length (xs.length + ys.length) sz true], e1 ++ [.cells .ro cs], ?_, fun e2 => .cons ?_ .nil⟩
  ·have hne : ¬ sz = 0 := by omega
   simp only [encT, ht, hsz, h1, hne, if_false, List.append_assoc]
  ·have hln : (l.take xs.length).length = xs.length := by rw [List.length_take, Nat.min_eq_left hl]
   have hb : (h ++ (e1 ++ [HB.cells .ro cs]) ++ e2)[(h ++ e1).length]? = some (.cells .ro cs) := by
    rw [show h ++ (e1 ++ [HB.cells .ro cs]) ++ e2 = (h ++ e1) ++ (HB.cells .ro cs :: e2) by simp, List.getElem?_append_right (Nat.le_refl _), Nat.sub_self]; rfl
   have hcap : (l.take xs.length).length ≤ xs.length + ys.length := by omega
   have hj2 : ∀ (j : Nat) a, (l.take xs.length)[j]? = some a → l[j]? = some a := fun j a hj => by
    rw [List.getElem?_take] at hj
    split at hj
    ·exact hj
    ·cases hj
   have hle : (l.take xs.length).length * sz ≤ cs.length := by rw [c1, hln]; exact Nat.mul_le_mul_right sz hl
   generalize xs.length + ys.length = cp at hcap ⊢
   generalize l.take xs.length = l' at hcap hj2 hle hln ⊢
   rw [← hln]
   exact VR.lst (X := X) (P := P) (A := AT) (m := []) (t := e) (l := l') (fu := false) (b := (h ++ e1).length) (off := 0) (cap := cp) (sz := sz) (ex := true) (cs := cs) trivial (by unfold blkCells; rw [hb]) (fun _ => by unfold blkLim; rw [hb]; simp) hz h0 (by omega) hcap (by simp) (fun j a _ => hlen a) (fun j a i c v hj hi hv => by
    rw [Nat.zero_add] at hv
    have := v1 ([HB.cells .ro cs] ++ e2) j a i c v (hj2 j a hj) hi hv
    simp only [List.append_assoc] at this ⊢
    exact this)
def RdF (encH : TypeId × Value → H) (X : Cod) (P : Program) (w : World) (g o : Nat) (fs : List Field) {α : Type} (ps : α → List (PV X.Γ)) (Q : α → Prop) : Prop :=
 ∀ ds : List (DataW H), ds.length = fs.length → (∀ (i : Nat) f d, fs[i]? = some f → ds[i]? = some d → Rd encH P w f.type d) → ∃ a, Q a ∧ ∀ h, ∃ xs ext, encF P (encT P g) o fs ds h = some (xs, h ++ ext) ∧ ∀ e, VRs X P AT [] (h ++ ext ++ e) (ps a) xs
theorem rdf_nil {g o : Nat} : RdF encH X P w g o [] (fun _ : Unit => []) (fun _ => True) := fun ds hl _ => by
 have := List.eq_nil_of_length_eq_zero hl
 subst this
 exact ⟨(), trivial, fun h => ⟨[], [], by simp [encF], fun e => .nil⟩⟩
theorem rdf_cons {g o n : Nat} {f : Field} {fs : List Field} {α β : Type} {p1 : α → List (PV X.Γ)} {p2 : β → List (PV X.Γ)} {Q1 : α → Prop} {Q2 : β → Prop} (ho : f.offset = o) (hc : P.cellsOf f.type = n) (hn : ∀ a, (p1 a).length = n) (h1 : RdP encH X P w g f.type p1 Q1) (h2 : RdF encH X P w g (o + n) fs p2 Q2) : RdF encH X P w g o (f :: fs) (fun x : α × β => p1 x.1 ++ p2 x.2) (fun x => Q1 x.1 ∧ Q2 x.2) := fun ds hl hd => by
 cases ds with
 | nil => cases hl
 | cons d ds =>
  obtain ⟨a, qa, ha⟩ := h1 d (hd 0 f d rfl rfl)
  obtain ⟨b, qb, hb⟩ := h2 ds (by simpa using hl) fun i f' d' e1 e2 => hd (i + 1) f' d' e1 e2
  refine ⟨(a, b), ⟨qa, qb⟩, fun h => ?_⟩
  obtain ⟨xs, e1, g1, v1⟩ := ha h
  obtain ⟨ys, e2, g2, v2⟩ := hb (h ++ e1)
  have hx : xs.length = n := by rw [← (v1 []).1]; exact hn a
  refine ⟨xs ++ ys, e1 ++ e2, ?_, fun e => ?_⟩
  ·simp only [encF, g1, ho, hx, hc, and_self, if_true, g2, List.append_assoc]
  ·have w1 := v1 (e2 ++ e)
   have w2 := v2 e
   simp only [List.append_assoc] at w1 w2 ⊢
   exact w1.app w2
theorem rdp_struct {t g n : Nat} {fs : Array Field} {α : Type} {ps : α → List (PV X.Γ)} {Q : α → Prop} (ht : P.underlying t = some (.struct fs)) (hc : P.cellsOf t = n) (hn : ∀ a, (ps a).length = n) (hf : RdF encH X P w g 0 fs.toList ps Q) : RdP encH X P w (g + 1) t ps Q := fun d hd => by
 obtain ⟨ds, rfl, hl, hat⟩ := rd_struct ht hd
 obtain ⟨a, qa, ha⟩ := hf ds (by simpa using hl) fun i f d e1 e2 => hat i f d (by simpa using e1) e2
 refine ⟨a, qa, fun h => ?_⟩
 obtain ⟨xs, e1, g1, v1⟩ := ha h
 have hx : xs.length = n := by rw [← (v1 []).1]; exact hn a
 refine ⟨xs, e1, ?_, v1⟩
 rw [encT_struct ht, g1]
 simp [hx, hc]
theorem RdP.iso {t g : Nat} {α β : Type} {ps : α → List (PV X.Γ)} {Q : α → Prop} (h : RdP encH X P w g t ps Q) (f : α → β) {p2 : β → List (PV X.Γ)} {Q2 : β → Prop} (hp : ∀ a, p2 (f a) = ps a) (hq : ∀ a, Q a → Q2 (f a)) : RdP encH X P w g t p2 Q2 := fun d hd => by
 obtain ⟨a, qa, ha⟩ := h d hd
 exact ⟨f a, hq a qa, fun h => by rw [hp]; exact ha h⟩
theorem run_of {T : Tab} {L n f : Nat} {vs : List (PV X.Γ)} {xs : List TV} {h : List HB} (hc : Con X P (apN P T L (n + 1)) f vs (PV.bool true) []) (hv : VRs X P AT [] h vs xs) : ∃ h', apN P T L (n + 1) (TV.fn f [] []) xs h = some (TV.bool true, h', []) := by
 obtain ⟨x, h', m', c1, _, c3, _⟩ := hc AT h [] xs [] (fun _ _ => trivial) (by simpa using hv)
 have : x = TV.bool true := by
  cases c3 with
  | bool => rfl
  | gone hi _ _ => simp [idOf] at hi
 subst this
 exact ⟨h', c1⟩
end
end Pv
namespace Go.Proofs.YtmefgijobonklaaGreat
open Go Tw Pv
section
variable {H : Type} {encH : TypeId × Value → H} {w : World}
abbrev RdX (encH : TypeId × Value → H) (w : World) (g t : Nat) {α : Type} (ps : α → List (PV gam)) (Q : α → Prop) : Prop := RdP encH X0 Tryz.prog w g t ps Q
theorem ccInt : Tryz.prog.cellsOf 3 = 1 := by kernel_rfl
theorem ccU8 : Tryz.prog.cellsOf 5 = 1 := by kernel_rfl
theorem ccVal : Tryz.prog.cellsOf 58 = 2 := by kernel_rfl
theorem zI0 : sizeT Tryz.prog 3 = some 1 := by kernel_rfl
theorem rInt {g : Nat} : RdX encH w (g + 1) 3 (fun n : Int => [.int .i64 n]) (fun n => (Lit.int .i64 n).wf = true) := rdp_int Tryz.underlying3
theorem rU8 {g : Nat} : RdX encH w (g + 1) 5 (fun n : Int => [.int .u8 n]) (fun n => 0 ≤ n ∧ n ≤ 255) := (rdp_int Tryz.underlying5).iso id (fun _ => rfl) fun n h => by
 simp only [Lit.wf, Bool.and_eq_true, decide_eq_true_eq] at h
 exact h
theorem rInts {g : Nat} : RdX encH w (g + 2) 22 (fun l : List Int => [lI l]) (fun l => ∀ a ∈ l, (Lit.int .i64 a).wf = true) := rdp_list (e := 3) Tryz.underlying22 ccInt zI0 (by decide) (fun _ => rfl) rInt
theorem rVal {g : Nat} : RdX encH w (g + 2) 58 V.ps (fun v => 0 ≤ v.f ∧ v.f ≤ 255) :=
 (rdp_struct Tryz.underlying58 ccVal (fun _ => rfl) (rdf_cons rfl ccU8 (fun _ => rfl) rU8 (rdf_cons rfl ccInt (fun _ => rfl) rInt rdf_nil))).iso (fun x => ⟨x.1, x.2.1⟩) (fun _ => rfl) fun _ h => h.1
theorem zVal0 : sizeT Tryz.prog 58 = some 2 := by kernel_rfl
theorem rVals {g : Nat} : RdX encH w (g + 3) 23 (fun l : List V => [lV l]) (fun l => ∀ v ∈ l, 0 ≤ v.f ∧ v.f ≤ 255) := rdp_list (e := 58) Tryz.underlying23 ccVal zVal0 (by decide) (fun _ => rfl) rVal
theorem ccIs : Tryz.prog.cellsOf 22 = 1 := by kernel_rfl
theorem ccRow : Tryz.prog.cellsOf 95 = 4 := by kernel_rfl
theorem zRow0 : sizeT Tryz.prog 95 = some 4 := by kernel_rfl
theorem ccRows : Tryz.prog.cellsOf 26 = 1 := by kernel_rfl
theorem ccTab : Tryz.prog.cellsOf 28 = 1 := by kernel_rfl
theorem rRow {g : Nat} : RdX encH w (g + 3) 95 Rw.ps (fun r => 0 ≤ r.cell.f) :=
 (rdp_struct Tryz.underlying95 ccRow (fun _ => rfl) (rdf_cons rfl ccIs (fun _ => rfl) rInts (rdf_cons rfl ccIs (fun _ => rfl) rInts (rdf_cons rfl ccVal (fun _ => rfl) rVal rdf_nil)))).iso (fun x => ⟨x.1, x.2.1, x.2.2.1⟩) (fun _ => rfl) fun _ h => h.2.2.1.1
theorem rRows {g : Nat} : RdX encH w (g + 4) 26 (fun l : List Rw => [lRw l]) (fun l => ∀ r ∈ l, 0 ≤ r.cell.f) := rdp_list (e := 95) Tryz.underlying26 ccRow zRow0 (by decide) (fun _ => rfl) rRow
theorem rTab {g : Nat} : RdX encH w (g + 5) 28 (fun l : List Rw => [lRw l]) (fun l => ∀ r ∈ l, 0 ≤ r.cell.f) :=
 (rdp_struct Tryz.underlying28 ccTab (fun _ => rfl) (rdf_cons rfl ccRows (fun _ => rfl) rRows rdf_nil)).iso (fun x => x.1) (fun _ => rfl) fun _ h => h.1
end
end Go.Proofs.YtmefgijobonklaaGreat
namespace Go.Proofs.YtmefgijobonklaaGreat
open Go Tw Pv Mist
section
variable {H : Type} {encH : TypeId × Value → H} {w : World}
theorem ccBr : Tryz.prog.cellsOf 73 = 2 := by kernel_rfl
theorem zBr0 : sizeT Tryz.prog 73 = some 2 := by kernel_rfl
theorem ccBrs : Tryz.prog.cellsOf 69 = 1 := by kernel_rfl
theorem ccVs : Tryz.prog.cellsOf 23 = 1 := by kernel_rfl
theorem ccDg : Tryz.prog.cellsOf 71 = 5 := by kernel_rfl
theorem rBr {g : Nat} : RdX encH w (g + 3) 73 Br.ps (fun b => ∀ a ∈ b.kids, (Lit.int .i64 a).wf = true) :=
 (rdp_struct Tryz.underlying73 ccBr (fun _ => rfl) (rdf_cons rfl ccInt (fun _ => rfl) rInt (rdf_cons rfl ccIs (fun _ => rfl) rInts rdf_nil))).iso (fun x => ⟨x.1, x.2.1⟩) (fun _ => rfl) fun _ h => h.2.1
theorem rBrs {g : Nat} : RdX encH w (g + 4) 69 (fun l : List Br => [lBr l]) (fun l => ∀ b ∈ l, ∀ a ∈ b.kids, (Lit.int .i64 a).wf = true) := rdp_list (e := 73) Tryz.underlying69 ccBr zBr0 (by decide) (fun _ => rfl) rBr
theorem w64_of {a : Int} (h : (Lit.int .i64 a).wf = true) : W64 a := by
 simp only [Lit.wf, Bool.and_eq_true, decide_eq_true_eq] at h
 obtain ⟨h1, h2⟩ := h
 have e1 : IntKind.i64.min = -(2 ^ 63) := by decide
 have e2 : IntKind.i64.max = 2 ^ 63 - 1 := by decide
 exact ⟨by omega, by omega⟩
theorem rDg {g : Nat} : RdX encH w (g + 5) 71 Dg.ps DgR :=
 (rdp_struct Tryz.underlying71 ccDg (fun _ => rfl) (rdf_cons rfl ccIs (fun _ => rfl) rInts (rdf_cons rfl ccIs (fun _ => rfl) rInts (rdf_cons rfl ccVs (fun _ => rfl) rVals (rdf_cons rfl ccBrs (fun _ => rfl) rBrs (rdf_cons rfl ccInt (fun _ => rfl) rInt rdf_nil)))))).iso (fun x => ⟨x.1, x.2.1, x.2.2.1, x.2.2.2.1, x.2.2.2.2.1⟩) (fun _ => rfl) fun x h => by
  obtain ⟨_, _, h3, h4, h5, _⟩ := h
  refine ⟨fun i hi k hk => ?_, w64_of h5, fun v hv => (h3 v hv).1⟩
  have hb : ndK ⟨x.1, x.2.1, x.2.2.1, x.2.2.2.1, x.2.2.2.2.1⟩ i ∈ x.2.2.2.1 := by
   show (x.2.2.2.1).getD i Br0 ∈ _
   rw [List.getD, List.getElem?_eq_getElem hi]
   exact List.getElem_mem _
  refine w64_of (h4 _ hb _ ?_)
  rw [List.getD, List.getElem?_eq_getElem hk]
  exact List.getElem_mem _
end
end Go.Proofs.YtmefgijobonklaaGreat
namespace Tw
open Go
def renT (g : Nat → Option Nat) : TV → Option TV
 | .ptr b o l => (g b).map fun b => .ptr b o l
 | .slc b o n c z e => (g b).map fun b => .slc b o n c z e
 | .map r => (g r).map .map
 | .yld _ => none
 | .fn f a c => match renTs g a, renTs g c with
  | some a, some c => some (.fn f a c)
  | _, _ => none
 | .agg cs => (renTs g cs).map .agg
 | .tup cs => (renTs g cs).map .tup
 | .bool b => some (.bool b)
 | .int k n => some (.int k n)
 | .str s => some (.str s)
 | .nil k => some (.nil k)
where
 renTs (g : Nat → Option Nat) : List TV → Option (List TV)
 | [] => some []
 | c :: cs => match renT g c, renTs g cs with
  | some v, some vs => some (v :: vs)
  | _, _ => none
theorem renTs_at {g : Nat → Option Nat} : ∀ {az as' : List TV}, renT.renTs g az = some as' → az.length = as'.length ∧ ∀ (i : Nat) c', as'[i]? = some c' → ∃ c, az[i]? = some c ∧ renT g c = some c'
 | [], as', h => by cases h; exact ⟨rfl, fun i c h => by simp at h⟩
 | a :: az, as', h => by
  simp only [renT.renTs] at h
  split at h
  ·rename_i v vs e1 e2
   cases h
   obtain ⟨h1, h2⟩ := renTs_at e2
   refine ⟨by simp [h1], fun i c' hi => ?_⟩
   cases i with
   | zero => simp at hi; subst hi; exact ⟨a, rfl, e1⟩
   | succ i => exact h2 i c' (by simpa using hi)
  ·cases h
section
variable {g : Nat → Option Nat} {N N' : Np}
theorem renT_ok (hg : ∀ b b', g b = some b' → N' b' = N b) {v : TV} {x : Value} (h : VR N v x) : ∀ {v'}, renT g v = some v' → VR N' v' x := by
 have lst : ∀ {az : List TV} {xs : List Value}, az.length = xs.length → (∀ (i : Nat) (c : TV) (v : Value), az[i]? = some c → xs[i]? = some v → ∀ {v'}, renT g c = some v' → VR N' v' v) → ∀ {as'}, renT.renTs g az = some as' → as'.length = xs.length ∧ ∀ (i : Nat) (c : TV) (v : Value), as'[i]? = some c → xs[i]? = some v → VR N' c v := by
  intro az xs hl ha as' hr
  obtain ⟨h1, h2⟩ := renTs_at hr
  exact ⟨by rw [← h1, hl], fun i c v e1 e2 => by obtain ⟨c0, f1, f2⟩ := h2 i c e1; exact ha i c0 v f1 e2 f2⟩
 induction h with
 | bool b => intro v' h; cases h; exact .bool b
 | int k n => intro v' h; cases h; exact .int k n
 | str s => intro v' h; cases h; exact .str s
 | nptr => intro v' h; cases h; exact .nptr
 | nslc => intro v' h; cases h; exact .nslc
 | nmap => intro v' h; cases h; exact .nmap
 | nfn => intro v' h; cases h; exact .nfn
 | nifc => intro v' h; cases h; exact .nifc
 | ptr hb hp h ht =>
  intro v' hr
  simp only [renT, Option.map_eq_some_iff] at hr
  obtain ⟨b', e, rfl⟩ := hr
  exact .ptr (by rw [hg _ _ e]; exact hb) hp h ht
 | slc hb hp h hl hc hx ha hk =>
  intro v' hr
  simp only [renT, Option.map_eq_some_iff] at hr
  obtain ⟨b', e, rfl⟩ := hr
  exact .slc (by rw [hg _ _ e]; exact hb) hp h hl hc hx ha hk
 | map h =>
  intro v' hr
  simp only [renT, Option.map_eq_some_iff] at hr
  obtain ⟨b', e, rfl⟩ := hr
  exact .map (by rw [hg _ _ e]; exact h)
 | yld h => intro v' hr; simp [renT] at hr
 | fn h1 h2 h3 h4 i2 i4 =>
  intro v' hr
  simp only [renT] at hr
  split at hr
  ·rename_i a c e1 e2
   cases hr
   obtain ⟨p1, p2⟩ := lst h1 i2 e1
   obtain ⟨q1, q2⟩ := lst h3 i4 e2
   exact .fn p1 p2 q1 q2
  ·cases hr
 | agg h1 h2 i2 =>
  intro v' hr
  simp only [renT, Option.map_eq_some_iff] at hr
  obtain ⟨a, e, rfl⟩ := hr
  obtain ⟨p1, p2⟩ := lst h1 i2 e
  exact .agg p1 p2
 | tup h1 h2 i2 =>
  intro v' hr
  simp only [renT, Option.map_eq_some_iff] at hr
  obtain ⟨a, e, rfl⟩ := hr
  obtain ⟨p1, p2⟩ := lst h1 i2 e
  exact .tup p1 p2
def renEs (g : Nat → Option Nat) : List (TV × TV) → Option (List (TV × TV))
 | [] => some []
 | (k, v) :: r => match renT g k, renT g v, renEs g r with
  | some k, some v, some r => some ((k, v) :: r)
  | _, _, _ => none
theorem renEs_at : ∀ {az as' : List (TV × TV)}, renEs g az = some as' → az.length = as'.length ∧ ∀ (i : Nat) c', as'[i]? = some c' → ∃ c, az[i]? = some c ∧ renT g c.1 = some c'.1 ∧ renT g c.2 = some c'.2
 | [], as', h => by cases h; exact ⟨rfl, fun i c h => by simp at h⟩
 | (k, v) :: az, as', h => by
  simp only [renEs] at h
  split at h
  ·rename_i k' v' vs e0 e1 e2
   cases h
   obtain ⟨h1, h2⟩ := renEs_at e2
   refine ⟨by simp [h1], fun i c' hi => ?_⟩
   cases i with
   | zero => simp at hi; subst hi; exact ⟨(k, v), rfl, e0, e1⟩
   | succ i => exact h2 i c' (by simpa using hi)
  ·cases h
def renHB (g : Nat → Option Nat) : HB → Option HB
 | .cells k cs => (renT.renTs g cs).map (.cells k)
 | .map es => (renEs g es).map .map
 | .mark => some .mark
 | .loop .. => none
theorem ren_oneT {v v' : TV} (h : renT g v = some v') : oneT v' = oneT v := by
 cases v <;> simp only [renT, Option.map_eq_some_iff, Option.some.injEq] at h
 all_goals first
  | (obtain ⟨b, _, rfl⟩ := h; rfl)
  | (subst h; rfl)
  | (split at h <;> cases h; rfl)
  | cases h
theorem renHB_ok (hg : ∀ b b', g b = some b' → N' b' = N b) {w : World} {b b' : HB} {l : Lc} (h : okBlk N w b l) (hr : renHB g b = some b') : okBlk N' w b' l := by
 cases b with
 | cells k cs =>
  cases l with
  | obj r => exact h.elim
  | cells ls =>
   simp only [renHB, Option.map_eq_some_iff] at hr
   obtain ⟨cs', e, rfl⟩ := hr
   obtain ⟨h1, h2⟩ := renTs_at e
   refine ⟨fun c hc => ?_, fun p hp => ?_, fun hk => by rw [← h1]; exact h.2.2.1 hk, fun hk => by rw [← h1]; exact h.2.2.2 hk⟩
   ·obtain ⟨i, hi⟩ := List.mem_iff_getElem?.1 hc
    obtain ⟨c0, f1, f2⟩ := h2 i c hi
    rw [ren_oneT f2]
    exact h.1 c0 (List.mem_of_getElem? f1)
   ·obtain ⟨⟨arr, ty, fz, a1, a2, a3, a4⟩, b1, b2, b3⟩ := h.2.1 p hp
    exact ⟨⟨arr, ty, fz, a1, a2, a3, fun hk i c v hi hc hv => by obtain ⟨c0, f1, f2⟩ := h2 i c hc; exact renT_ok hg (a4 (by rw [h1]; exact hk) i c0 v hi f1 hv) f2⟩, b1, by rw [← h1]; exact b2, b3⟩
 | map es =>
  cases l with
  | cells ls => exact h.elim
  | obj r =>
   simp only [renHB, Option.map_eq_some_iff] at hr
   obtain ⟨es', e, rfl⟩ := hr
   obtain ⟨h1, h2⟩ := renEs_at e
   obtain ⟨xs, ck, a1, a2, a3⟩ := h
   exact ⟨xs, ck, a1, by rw [← h1]; exact a2, fun i c x hc hx => by obtain ⟨c0, f1, f2, f3⟩ := h2 i c hc; exact ⟨renT_ok hg (a3 i c0 x f1 hx).1 f2, renT_ok hg (a3 i c0 x f1 hx).2 f3⟩⟩
 | mark => simp only [renHB, Option.some.injEq] at hr; subst hr; cases l <;> exact h
 | loop => simp [renHB] at hr
theorem ren_wr {b b' : HB} (h : renHB g b = some b') : wr b' = wr b := by
 cases b with
 | cells k cs => simp only [renHB, Option.map_eq_some_iff] at h; obtain ⟨_, _, rfl⟩ := h; cases k <;> rfl
 | map es => simp only [renHB, Option.map_eq_some_iff] at h; obtain ⟨_, _, rfl⟩ := h; rfl
 | mark => simp only [renHB, Option.some.injEq] at h; subst h; rfl
 | loop => simp [renHB] at h
end
def posF : List Nat → Nat → Option Nat
 | [], _ => none
 | a :: l, i => match Nat.beq a i with
  | true => some 0
  | false => (posF l i).map (· + 1)
theorem posF_at : ∀ {l : List Nat} {i p : Nat}, posF l i = some p → l[p]? = some i
 | [], i, p, h => by cases h
 | a :: l, i, p, h => by
  simp only [posF] at h
  split at h
  ·rename_i e; cases h; rw [Nat.eq_of_beq_eq_true e]; rfl
  ·simp only [Option.map_eq_some_iff] at h
   obtain ⟨q, e, rfl⟩ := h
   rw [List.getElem?_cons_succ]; exact posF_at e
def renG (fl : Nat) (keep : List Nat) (b : Nat) : Option Nat := match Nat.blt b fl with
 | true => some b
 | false => (posF keep b).map (· + fl)
def pickG (g : Nat → Option Nat) (h : List HB) : List Nat → Option (List HB)
 | [] => some []
 | b :: l => match h[b]? with
  | some x => match renHB g x, pickG g h l with
   | some y, some r => some (y :: r)
   | _, _ => none
  | none => none
theorem pickG_at {g : Nat → Option Nat} {h : List HB} : ∀ {l : List Nat} {bs : List HB}, pickG g h l = some bs → l.length = bs.length ∧ ∀ (i : Nat) y, bs[i]? = some y → ∃ c x, l[i]? = some c ∧ h[c]? = some x ∧ renHB g x = some y
 | [], bs, e => by cases e; exact ⟨rfl, fun i y h => by simp at h⟩
 | b :: l, bs, e => by
  simp only [pickG] at e
  split at e
  ·rename_i x hx
   split at e
   ·rename_i y r e1 e2
    cases e
    obtain ⟨h1, h2⟩ := pickG_at e2
    refine ⟨by simp [h1], fun i y' hi => ?_⟩
    cases i with
    | zero => simp at hi; subst hi; exact ⟨b, x, rfl, hx, e1⟩
    | succ i => exact h2 i y' (by simpa using hi)
   ·cases e
  ·cases e
theorem CallR.gc {M : Mp} {h h' bs : List HB} {w w' : World} {v v' : TV} {y : Value} {keep : List Nat} (hV : Valid M allK (ctH h) w) (hl : ∀ k, M (.l k) = none) (hR : CallR M h w v h' [] y w') (hn : keep.Nodup) (hk : ∀ b ∈ keep, h.length ≤ b) (hv : renT (renG h.length keep) v = some v') (hb : pickG (renG h.length keep) h' keep = some bs) : CallR M h w v' (h ++ bs) [] y w' := by
 obtain ⟨M', hV', hl', hX, hv'⟩ := hR
 have hdom : ∀ b l, M (.h b) = some l → b < h.length := fun b l hb => by
  have := hV.has hb
  simp only [ctH, St.get] at this
  rcases Nat.lt_or_ge b h.length with h1 | h1
  ·exact h1
  ·rw [List.getElem?_eq_none h1] at this; simp at this
 have hold : ∀ b, b < h.length → M' (.h b) = M (.h b) := fun b hb => hX.keepM (.h b) (.inl (by simp [ctH, St.get, hb])) (by simp)
 have hoc : ∀ b, b < h.length → ctH h' (.h b) = ctH h (.h b) := fun b hb => hX.keep (.h b) (by simp [ctH, St.get, hb]) (by simp)
 obtain ⟨p1, p2⟩ := pickG_at hb
 let κ : Nat → Option Nat := fun b => if b < h.length then some b else keep[b - h.length]?
 let M2 : Mp := fun k => match k with
  | .l _ => none
  | .h b => match κ b with
   | some c => M' (.h c)
   | none => none
 have hκ : ∀ b c, κ b = some c → M2 (.h b) = M' (.h c) := fun b c e => by show (match κ b with | some c => M' (.h c) | none => none) = _; rw [e]
 have hκn : ∀ b, κ b = none → M2 (.h b) = none := fun b e => by show (match κ b with | some c => M' (.h c) | none => none) = _; rw [e]
 have hM2 : ∀ b l, M2 (.h b) = some l → ∃ c, κ b = some c ∧ M' (.h c) = some l := fun b l e => by
  cases e2 : κ b with
  | none => rw [hκn b e2] at e; cases e
  | some c => rw [hκ b c e2] at e; exact ⟨c, rfl, e⟩
 have klt : ∀ b, b < h.length → κ b = some b := fun b hb => by simp only [κ, if_pos hb]
 have kge : ∀ b, ¬ b < h.length → κ b = keep[b - h.length]? := fun b hb => by simp only [κ, if_neg hb]
 have hg : ∀ b b', renG h.length keep b = some b' → M2.h b' = M'.h b := fun b b' e => by
  unfold renG at e
  split at e
  ·rename_i hlt
   have hlt : b < h.length := Nat.le_of_ble_eq_true hlt
   cases e
   exact hκ _ _ (klt b hlt)
  ·simp only [Option.map_eq_some_iff] at e
   obtain ⟨p, e1, rfl⟩ := e
   exact hκ _ _ (by rw [kge _ (by omega), Nat.add_sub_cancel]; exact posF_at e1)
 have hle : Mle M.h M2.h := fun b l e => ⟨l, by show M2 (.h b) = some l; rw [hκ b b (klt b (hdom b l e)), hold b (hdom b l e)]; exact e, .refl l⟩
 have hfr : ∀ c, c < w.heap.size → w'.heap[c]? = w.heap[c]? := fun c hc => hX.frame c hc (by simp)
 have hC : ∀ b, b < h.length → ctH (h ++ bs) (.h b) = ctH h (.h b) := fun b hb => by simp only [ctH, St.get]; rw [List.getElem?_append_left hb]
 have hC2 : ∀ b, ¬ b < h.length → ctH (h ++ bs) (.h b) = bs[b - h.length]? := fun b hb => by simp only [ctH, St.get]; rw [List.getElem?_append_right (by omega)]
 refine ⟨M2, ⟨fun k l hk2 _ => ?_, fun k k' l l' b hne h1 h2 _ hc hw => ?_, fun k l hk2 => ?_⟩, fun _ => rfl, ⟨fun k l e => ?_, fun c hc _ => hfr c hc, fun k hs _ => ?_, fun k hs _ => ?_, fun k l e c hc hs => ?_, hX.size, fun k hs => ?_, by simp, by simp, hX.os, hX.output, hX.tape⟩, renT_ok hg hv' hv⟩
 ·cases k with
  | l k => cases hk2
  | h b =>
   obtain ⟨c, e1, e2⟩ := hM2 b l hk2
   by_cases hb2 : b < h.length
   ·have := klt b hb2
    rw [this] at e1; cases e1
    rw [hold b hb2] at e2
    obtain ⟨x, f1, f2⟩ := hV.ok _ l e2 trivial
    exact ⟨x, by rw [hC b hb2]; exact f1, f2.mono hle fun c hc => hfr c (hV.inb _ l e2 c hc)⟩
   ·rw [kge b hb2] at e1
    have hlt : b - h.length < bs.length := by rw [← p1]; exact (List.getElem?_eq_some_iff.1 e1).1
    obtain ⟨c', x, f1, f2, f3⟩ := p2 _ _ (List.getElem?_eq_getElem hlt)
    rw [e1] at f1; cases f1
    obtain ⟨x', g1, g2⟩ := hV'.ok _ l e2 trivial
    have g1 : h'[c]? = some x' := g1
    rw [f2] at g1; cases g1
    exact ⟨_, by rw [hC2 b hb2]; exact List.getElem?_eq_getElem hlt, renHB_ok hg g2 f3⟩
 ·cases k with
  | l k => cases h1
  | h b1 =>
   cases k' with
   | l k => cases h2
   | h b2 =>
    obtain ⟨c1, e1, e2⟩ := hM2 b1 l h1
    obtain ⟨c2, e3, e4⟩ := hM2 b2 l' h2
    have hcc : c1 ≠ c2 := fun e => by
     subst e
     by_cases q1 : b1 < h.length <;> by_cases q2 : b2 < h.length
     ·rw [klt _ q1] at e1; rw [klt _ q2] at e3; cases e1; cases e3; exact hne rfl
     ·rw [klt _ q1] at e1; rw [kge _ q2] at e3; cases e1; have := hk _ (List.mem_of_getElem? e3); omega
     ·rw [kge _ q1] at e1; rw [klt _ q2] at e3; cases e3; have := hk _ (List.mem_of_getElem? e1); omega
     ·rw [kge _ q1] at e1; rw [kge _ q2] at e3
      have i1 := (List.getElem?_eq_some_iff.1 e1)
      have i2 := (List.getElem?_eq_some_iff.1 e3)
      have := (List.getElem_inj hn (h₀ := i1.1) (h₁ := i2.1)).1 (i1.2.trans i2.2.symm)
      exact hne (by rw [show b1 = b2 by omega])
    obtain ⟨x, g1, g2⟩ : ∃ x, ctH h' (.h c1) = some x ∧ wr x = true := by
     by_cases q1 : b1 < h.length
     ·rw [klt _ q1] at e1; cases e1
      exact ⟨b, by rw [hoc _ q1, ← hC _ q1]; exact hc, hw⟩
     ·rw [hC2 _ q1] at hc
      obtain ⟨c', x, f1, f2, f3⟩ := p2 _ _ hc
      rw [kge _ q1, f1] at e1; cases e1
      exact ⟨x, f2, by rw [← ren_wr f3]; exact hw⟩
    exact hV'.own (.h c1) (.h c2) l l' x (fun e => hcc (by cases e; rfl)) e2 e4 trivial g1 g2
 ·cases k with
  | l k => cases hk2
  | h b => obtain ⟨c, e1, e2⟩ := hM2 b l hk2; exact hV'.inb _ l e2
 ·cases k with
  | l k => rw [hl k] at e; cases e
  | h b => exact hle b l e
 ·cases k with
  | l k => simp [ctH, St.get] at hs
  | h b =>
   refine hC b ?_
   simp only [ctH, St.get] at hs
   rcases Nat.lt_or_ge b h.length with h1 | h1
   ·exact h1
   ·rw [List.getElem?_eq_none h1] at hs; simp at hs
 ·cases k with
  | l k => rw [hl k]
  | h b =>
   by_cases hb2 : b < h.length
   ·rw [hκ b b (klt b hb2), hold b hb2]
   ·have h1 : M (.h b) = none := by
     cases e : M (.h b) with
     | none => rfl
     | some l => exact absurd (hdom b l e) hb2
    rw [h1]
    refine hκn b ?_
    rw [kge b hb2]
    rcases hs with hs | hs
    ·simp only [ctH, St.get] at hs
     rw [List.getElem?_eq_none (by omega)] at hs
     simp at hs
    ·rw [hC2 b hb2] at hs
     rw [List.getElem?_eq_none_iff] at hs ⊢
     omega
 ·cases k with
  | l k => cases e
  | h b =>
   obtain ⟨c', e1, e2⟩ := hM2 b l e
   obtain ⟨l0, f1, f2⟩ := hX.fresh _ l e2 c hc hs
   have := hdom _ _ f1
   by_cases hb2 : b < h.length
   ·rw [klt b hb2] at e1; cases e1; exact ⟨l0, f1, f2⟩
   ·rw [kge b hb2] at e1
    have := hk _ (List.mem_of_getElem? e1)
    omega
 ·cases k with
  | l k => simp [ctH, St.get] at hs
  | h b =>
   simp only [ctH, St.get] at hs ⊢
   rcases Nat.lt_or_ge b h.length with h1 | h1
   ·simp [List.getElem?_append_left h1, h1]
   ·rw [List.getElem?_eq_none h1] at hs; simp at hs
def refT : TV → List Nat → List Nat
 | .ptr b _ _, l => b :: l
 | .slc b _ _ _ _ _, l => b :: l
 | .map b, l => b :: l
 | .fn _ a c, l => refTs a (refTs c l)
 | .agg cs, l => refTs cs l
 | .tup cs, l => refTs cs l
 | _, l => l
where
 refTs : List TV → List Nat → List Nat
 | [], l => l
 | c :: cs, l => refT c (refTs cs l)
def refH : Option HB → List Nat → List Nat
 | some (.cells _ cs), l => refT.refTs cs l
 | some (.map es), l => refEs es l
 | _, l => l
where
 refEs : List (TV × TV) → List Nat → List Nat
 | [], l => l
 | e :: es, l => refT e.1 (refT e.2 (refEs es l))
def memF (b : Nat) : List Nat → Bool
 | [] => false
 | a :: l => match Nat.beq a b with
  | true => true
  | false => memF b l
theorem memF_no : ∀ {l : List Nat} {b : Nat}, memF b l = false → b ∉ l
 | [], b, _ => by simp
 | a :: l, b, h => by
  simp only [memF] at h
  split at h
  ·cases h
  ·rename_i e
   rw [List.mem_cons]
   rintro (rfl | h2)
   ·rw [Nat.beq_refl] at e; cases e
   ·exact memF_no h h2
def reachF (h : List HB) (fl : Nat) : Nat → List Nat → List Nat → List Nat
 | 0, _, acc => acc
 | _ + 1, [], acc => acc
 | n + 1, b :: t, acc => match Nat.blt b fl || memF b acc with
  | true => reachF h fl n t acc
  | false => reachF h fl n (refH h[b]? t) (b :: acc)
theorem reachF_ok {h : List HB} {fl : Nat} : ∀ (n : Nat) (t acc : List Nat), acc.Nodup → (∀ b ∈ acc, fl ≤ b) → (reachF h fl n t acc).Nodup ∧ ∀ b ∈ reachF h fl n t acc, fl ≤ b
 | 0, _, _, h1, h2 => ⟨h1, h2⟩
 | _ + 1, [], _, h1, h2 => ⟨h1, h2⟩
 | n + 1, b :: t, acc, h1, h2 => by
  simp only [reachF]
  split
  ·exact reachF_ok n t acc h1 h2
  ·rename_i e
   simp only [Bool.or_eq_false_iff] at e
   have e1 : fl ≤ b := by
    rcases Nat.lt_or_ge b fl with h3 | h3
    ·rw [show Nat.blt b fl = true from Nat.ble_eq_true_of_le h3] at e; cases e.1
    ·exact h3
   exact reachF_ok n _ _ (List.nodup_cons.2 ⟨memF_no e.2, h1⟩) fun c hc => by
    rcases List.mem_cons.1 hc with rfl | hc
    ·exact e1
    ·exact h2 c hc
def gcR (h : List HB) : Option (TV × List HB × List Nat) → Option (TV × List HB × List Nat)
 | some (v, h', []) => match reachF h' h.length 5000 (refT v []) [] with
  | keep => match renT (renG h.length keep) v, pickG (renG h.length keep) h' keep with
   | some v', some [] => some (v', h, [])
   | some v', some bs => some (v', h ++ bs, [])
   | _, _ => some (v, h', [])
 | r => r
theorem gcR_ok {P : Program} {M : Mp} {h h2 : List HB} {w : World} {v2 : TV} {ws2 : List Nat} {r : Option (TV × List HB × List Nat)} (hV : Valid M allK (ctH h) w) (hl : ∀ k, M (.l k) = none) (hr : gcR h r = some (v2, h2, ws2)) : ∃ v h' ws, r = some (v, h', ws) ∧ ∀ y w', CallR M h w v h' ws y w' → CallR M h w v2 h2 ws2 y w' := by
 unfold gcR at hr
 split at hr
 ·rename_i v h'
  refine ⟨v, h', [], rfl, fun y w' hR => ?_⟩
  simp only at hr
  obtain ⟨k1, k2⟩ := reachF_ok (h := h') (fl := h.length) 5000 (refT v []) [] .nil (by simp)
  split at hr
  ·rename_i v' e1 e2
   cases hr
   have := hR.gc hV hl k1 k2 e1 e2
   rw [List.append_nil] at this
   exact this
  ·rename_i v' bs _ e1 e2
   cases hr
   exact hR.gc hV hl k1 k2 e1 e2
  ·cases hr; exact hR
 ·exact ⟨v2, h2, ws2, hr, fun _ _ h => h⟩
end Tw
