/- Part 5 of a proof: the contracts of the functions that the statements on reaches (mistlaw13) call, and the laws of their rules. -/
import Derived.Test.YtfhiejgoemcelaaGreatPd
set_option linter.constructorNameAsVariable false
set_option linter.unusedVariables false
set_option linter.unusedSimpArgs false
set_option linter.unusedSectionVars false
namespace Go.Proofs.YtfhiejgoemcelaaGreat
open Go Tw Pv
abbrev w35 (l : List B) (i : Int) (acc : List Int) (x : List (Nat × PE gam)) : PSt gam := ⟨[(6, .val (.own 0)), (19, xL 38 l), (20, xi l.length), (21, xi i)] ++ x, [], [.list false false 3 acc]⟩
abbrev w35i (l : List B) (r : B) (i : Int) (acc : List Int) (s : Int × Int) (x : List (Nat × PE gam)) : PSt gam := ⟨[(6, .val (.own 0)), (8, .loc 0 0), (9, xi s.1), (10, xi s.2), (19, xL 38 l), (20, xi l.length), (21, xi i)] ++ x, [r.ps], [.list false false 3 acc]⟩
def gWid (r : B) (s : Int × Int) : (Int × Int) ⊕ (Bool × Int × Int) :=
 if decide (r.lo ≤ r.hi) = true then
  if decide (IntKind.i64.wrap (0 - s.2) ≤ r.lo) = true then
   if decide (r.hi < s.2) = true then .inr (true, s.1, s.2) else .inl (IntKind.i64.wrap (s.1 + 1), IntKind.i64.wrap (s.2 * 2))
  else .inl (IntKind.i64.wrap (s.1 + 1), IntKind.i64.wrap (s.2 * 2))
 else .inr (false, s.1, s.2)
theorem gWid_it (r : B) : ∀ (f : Nat) (w half : Int), itF (gWid r) f (w, half) = widthF f r w half
 | 0, _, _ => rfl
 | f + 1, w, half => by
  have ih := gWid_it r f (IntKind.i64.wrap (w + 1)) (IntKind.i64.wrap (half * 2))
  simp only [itF, gWid, widthF]
  cases decide (r.lo ≤ r.hi)
  ·rfl
  ·cases decide (IntKind.i64.wrap (0 - half) ≤ r.lo)
   ·exact ih
   ·cases decide (r.hi < half)
    ·exact ih
    ·rfl
def z35i (l : List B) (r : B) (i : Int) (acc : List Int) : Bool × Int × Int → Ex × PSt gam
 | (true, w, half) => (.exit 2, w35i l r i acc (IntKind.i64.wrap (w + 1), half) [(42, xl true)])
 | (false, w, half) => (.exit 2, w35i l r i acc (w, half) [(27, xl false)])
theorem l35i {n : Nat} (hO : Ok n oc32) (l : List B) (r : B) (i : Int) (acc : List Int) {v : Bool × Int × Int} (hv : widthF 64 r 0 1 = some v) : Lp n 35 1 (w35i l r i acc (0, 1) []) (z35i l r i acc v).1 (z35i l r i acc v).2 :=
 whileE (st := fun s => w35i l r i acc s []) (g := gWid r) (out := z35i l r i acc) (fun _ => True) (k := 64) (by rw [gWid_it]; exact hv) (by kernel_rfl) (by decide) trivial (fun _ _ _ _ => trivial)
  (fun s n v _ ih => round hX hO (by kernel_rfl) (.lh (fun h0 => .lh (fun h1 => .lh (fun _ => .ou nofun) fun h2 => .nx (ih _ (by unfold gWid; rw [if_pos h0, if_pos h1, if_neg (by rw [h2]; simp)]))) fun h1 => .nx (ih _ (by unfold gWid; rw [if_pos h0, if_neg (by rw [h1]; simp)]))) fun _ => .ou nofun))
theorem l35 {n : Nat} (hO : Ok n oc32) (l : List B) (hl : l.length ≤ most) (hv : ∀ r ∈ l, (widthF 64 r 0 1).isSome = true) (lc : List (List (PV gam))) : Lp n 35 0 { w35 l 0 [] [] with loc := lc } (.exit 0) (w35 l l.length (l.map S_width) [(22, xl false)]) := by
 have e : l.map S_width = bld (fun _ _ r => [S_width r]) l 0 [] := by
  have : ∀ (l : List B) (i : Nat) (a : List Int), bld (fun _ _ r => [S_width r]) l i a = a ++ l.map S_width := by
   intro l
   induction l with
   | nil => intro i a; simp [bld]
   | cons r l ih => intro i a; simp [bld, ih]
  rw [this]; rfl
 rw [e]
 refine eachB (β := Int) B0 (l := l) (s0 := ([] : List Int)) (g := fun _ _ r => [S_width r]) (st := fun i a => w35 l i a []) (fin := fun a => w35 l l.length a [(22, xl false)]) (fun k a => a.length = k) (by kernel_rfl) hl LLm rfl (fun k s h hi => by simp [hi]) (fun k s h hi m e p hr => ?_) (fun s _ => round hX hO (by kernel_rfl) (.b (lt_no l.length) .ex))
 have hm : s.length + 1 ≤ most := by rw [hi]; omega
 have hb := hv (l.getD k B0) (by rw [List.getD_eq_getElem?_getD, List.getElem?_eq_getElem h]; exact List.getElem_mem h)
 obtain ⟨⟨b, w, hf⟩, hw⟩ := Option.isSome_iff_exists.1 hb
 cases b with
 | true =>
  rw [show S_width (l.getD k B0) = IntKind.i64.wrap (w + 1) by simp only [S_width, hw]] at hr
  exact round hX hO (by kernel_rfl) (.b (lt_nat h) <| .o (inR_nat h) <| .w (l35i hO l (l.getD k B0) k s hw) <| .o hm <| .goG [.gc [2]] hr)
 | false =>
  rw [show S_width (l.getD k B0) = w by simp only [S_width, hw]] at hr
  exact round hX hO (by kernel_rfl) (.b (lt_nat h) <| .o (inR_nat h) <| .w (l35i hO l (l.getD k B0) k s hw) <| .o hm <| .goG [.gc [2]] hr)
noncomputable def oc35 : Orc gam := orcF 35 (a1 cA) (tupA (a2 isA iA)) (fun p => S_Widths p) (fun p => [(S_Of p).1.length ≤ most, ∀ r ∈ (S_Of p).1, (widthF 64 r 0 1).isSome = true]) oc32
theorem gc35 : Gd oc35 := gc32.add fun n hO p hp => fn_is hX hO (by kernel_rfl) (.sh (fun _ => .rn (.tup [.nil .slc, .int .i64 (S_Of p).2]) rfl) fun _ => .wG [.nilE 6 3] (l35 hO (S_Of p).1 (hp _ (.head _)) (hp _ (.tail _ (.head _))) [xC p]) .rr)
def gBits (r : B) (k : Int) : Int ⊕ Int := if (!(S_rFits r k)) = true then .inl (IntKind.i64.wrap (k + 1)) else .inr k
theorem gBits_it (r : B) : ∀ (f : Nat) (k : Int), itF (gBits r) f k = bitsF f r k
 | 0, _ => rfl
 | f + 1, k => by
  have ih := gBits_it r f (IntKind.i64.wrap (k + 1))
  simp only [itF, gBits, bitsF]
  cases S_rFits r k
  ·exact ih
  ·rfl
abbrev w36 (r : B) (k : Int) (x : List (Nat × PE gam)) : PSt gam := ⟨[(1, .loc 0 0), (3, xi k)] ++ x, [r.ps], []⟩
theorem l36 {n : Nat} (hO : Ok n oc35) (r : B) {v : Int} (hv : bitsF 64 r 0 = some v) : Lp n 36 0 (w36 r 0 []) (.exit 0) (w36 r v [(7, xl false)]) :=
 whileE (st := fun k => w36 r k []) (g := gBits r) (out := fun v => (.exit 0, w36 r v [(7, xl false)])) (fun _ => True) (k := 64) (by rw [gBits_it]; exact hv) (by kernel_rfl) (by decide) trivial (fun _ _ _ _ => trivial)
  (fun s n v _ ih => round hX hO (by kernel_rfl) (.lh (fun h0 => .nx (ih _ (by unfold gBits; rw [if_pos h0]))) fun _ => .ou nofun))
noncomputable def oc36 : Orc gam := orcF 36 (a1 bA) iA (fun p => (bitsF 64 p 0).getD 0) (fun p => [(bitsF 64 p 0).isSome = true]) oc35
theorem gc36 : Gd oc36 := gc35.add fun n hO p hp => by
 obtain ⟨v, hv⟩ := Option.isSome_iff_exists.1 (show (bitsF 64 p 0).isSome = true from hp _ (.head _))
 have : Con X0 Tryz.prog (ApN (n + 1)) 36 ((a1 bA).put p) (iA.put v) [] := fn_is hX hO (by kernel_rfl) (.w (l36 hO p hv) .rr)
 rw [hv]; exact this
end Go.Proofs.YtfhiejgoemcelaaGreat
namespace Go.Proofs.YtfhiejgoemcelaaGreat
open Go Tw
def S_to (lo : Int) (hi : Int) (f : Int) : B :=
 (⟨lo, hi, f⟩ : B)
def S_example1 (code : Int) (a : Int) (b : Int) : O :=
 (⟨code, a, b, 0, 0⟩ : O)
def F_same (lb : List B) (i : Nat) (x : B) (s : Unit) : (Unit) ⊕ (Nat × B × (Unit)) :=
 if (!decide (x = (lb.getD (((i : Nat) : Int)).toNat B0))) = true then .inr (i, x, s) else .inl ()
def S_same (la lb : List B)  : Bool :=
 if (((la.length : Nat) : Int) != ((lb.length : Nat) : Int)) = true then false else if (isL (runL (F_same lb) la 0 ())) = true then true else false
def S_Thin (c : C)  : Bool :=
 if (decide (((c.cs.length : Nat) : Int) > 8)) = true then false else if (decide (((c.os.length : Nat) : Int) > 60)) = true then false else if (decide (((c.rs.length : Nat) : Int) > 60)) = true then false else if ((S_rCheck c) != 0) = true then true else decide ((S_rMany c) ≤ 200)
end Go.Proofs.YtfhiejgoemcelaaGreat
namespace Tw
open Go
section
variable {P : Program} {α : Type} {H : List HB} {x : TV} {sz : Nat} {enc : α → List TV} {l : List α}
theorem SV.three (hs : SV H x sz enc l) (hz : ∀ a, (enc a).length = sz) : (x = .nil .slc ∧ l = []) ∨ (∃ b off cap ex, x = .slc b off 0 cap sz ex ∧ l = [] ∧ ∃ cs, blkCells H b = some cs ∧ off ≤ cs.length) ∨ ∃ b off cap ex, x = .slc b off l.length cap sz ex ∧ l ≠ [] ∧ srcCells sz H x = some (l.length, (l.map enc).flatten) := by
 rcases hs with h | ⟨b, off, cap, ex, rfl, hr, all, h1, h2⟩
 ·exact .inl h
 ·cases l with
  | nil =>
   refine .inr (.inl ⟨b, off, cap, ex, rfl, rfl, all, h1, ?_⟩)
   unfold sub at h2
   split at h2
   ·rename_i h; simp only [List.map_nil, List.length_nil, Nat.zero_mul, Nat.add_zero] at h; exact h
   ·cases h2
  | cons a t =>
   refine .inr (.inr ⟨b, off, cap, ex, rfl, by simp, ?_⟩)
   simp only [srcCells, if_true, h1]
   rw [List.length_map] at h2
   rw [h2]; rfl
variable {st xt e : TypeId} {b : Nat}
end
end Tw

namespace Tw
open Go
def rangeIn : Code → Option (Code × Code)
 | .seq a b => match rangeIn a with
  | some r => some r
  | none => rangeIn b
 | .cond _ a b => match rangeIn a with
  | some r => some r
  | none => rangeIn b
 | .block _ b => rangeIn b
 | .rangeFunc _ _ a b => some (a, b)
 | _ => none
def rfAssign (P : Program) (f : Nat) : Code :=
 match fnT P f with
 | some t => match rangeIn t.body with
  | some (a, _) => a
  | none => .skip
 | none => .skip
def rfBody (P : Program) (f : Nat) : Code :=
 match fnT P f with
 | some t => match rangeIn t.body with
  | some (_, b) => b
  | none => .skip
 | none => .skip
end Tw
namespace Tw
open Go
def findRg (id : Nat) : Code → Option (List Oper)
 | .region i ops _ => if i = id then some ops.toList else none
 | .seq a b => (findRg id a).or (findRg id b)
 | .cond _ a b => (findRg id a).or (findRg id b)
 | .block _ b => findRg id b
 | .loop b => findRg id b
 | .rangeFunc _ _ a b => (findRg id a).or (findRg id b)
 | _ => none
def regOps (P : Program) (f id : Nat) : List Oper :=
 match fnT P f with
 | some t => (findRg id t.body).getD []
 | none => []
end Tw

namespace Go.Proofs.YtfhiejgoemcelaaGreat
open Go Tw
def KX (bo l : Nat) (H H' : List HB) : Prop := H.length ≤ H'.length ∧ ∀ b, b < H.length → b ≠ bo → b ≠ l → H'[b]? = H[b]?
theorem KX.refl {bo l : Nat} {H : List HB} : KX bo l H H := ⟨Nat.le_refl _, fun _ _ _ _ => rfl⟩
theorem KX.trans {bo l : Nat} {A B C : List HB} (h : KX bo l A B) (g : KX bo l B C) : KX bo l A C :=
 ⟨Nat.le_trans h.1 g.1, fun b hb h1 h2 => (g.2 b (Nat.lt_of_lt_of_le hb h.1) h1 h2).trans (h.2 b hb h1 h2)⟩
theorem KX.rd {bo l : Nat} {A B : List HB} (h : KX bo l A B) {agg : Bool} {n b off lim : Nat} {v : TV} (hr : rdAt agg n A b off lim = some v) (h1 : b ≠ bo) (h2 : b ≠ l) : rdAt agg n B b off lim = some v := by
 have hb : b < A.length := by
  rcases Nat.lt_or_ge b A.length with h | h
  ·exact h
  ·simp [rdAt, blkCells, List.getElem?_eq_none h] at hr
 simpa [rdAt, blkCells, h.2 b hb h1 h2] using hr
theorem Ilen (w : List Int) : (w.map I.tvs).flatten.length = w.length := by
 have := flat_len (enc := I.tvs) (sz := 1) (fun _ => rfl) w
 omega
def Wd (bo l : Nat) (H : List HB) (x : TV) (w : List Int) : Prop :=
 (x = .nil .slc ∧ w = []) ∨ ∃ b ex k, x = .slc b 0 w.length w.length 1 ex ∧ w ≠ [] ∧ b ≠ bo ∧ b ≠ l ∧ H[b]? = some (.cells k (w.map I.tvs).flatten)
theorem Wd.sv {bo l : Nat} {H : List HB} {x : TV} {w : List Int} (h : Wd bo l H x w) : SV H x 1 I.tvs w := by
 rcases h with h | ⟨b, ex, k, rfl, _, _, _, h4⟩
 ·exact .inl h
 ·refine .inr ⟨b, 0, _, _, rfl, by simp, (w.map I.tvs).flatten, by simp [blkCells, h4], ?_⟩
  unfold sub
  rw [List.length_map, if_pos (by rw [Ilen]; omega), List.drop_zero, List.take_of_length_le (by rw [Ilen]; omega)]
theorem Wd.kx {bo l : Nat} {H H' : List HB} {x : TV} {w : List Int} (h : Wd bo l H x w) (hk : KX bo l H H') : Wd bo l H' x w := by
 rcases h with h | ⟨b, ex, k, h0, h1, h2, h3, h4⟩
 ·exact .inl h
 ·have hb : b < H.length := by
   rcases Nat.lt_or_ge b H.length with h | h
   ·exact h
   ·rw [List.getElem?_eq_none h] at h4; cases h4
  exact .inr ⟨b, ex, k, h0, h1, h2, h3, (hk.2 b hb h2 h3).trans h4⟩
theorem Wd.app {bo l : Nat} {h0 H : List HB} {x : TV} {w : List Int} (h : App h0 H x 1 I.tvs w) (h1 : bo < h0.length) (h2 : l < h0.length) : Wd bo l H x w := by
 obtain ⟨_, h | ⟨b, k, h3, h4, h5, h6, h7⟩⟩ := h
 ·exact .inl h
 ·exact .inr ⟨b, false, k, h3, h5, by omega, by omega, h7⟩
theorem addKs_mem {fl : Nat} : ∀ {wsc ws : List Nat} {b : Nat}, b ∈ addKs fl (wsc.map .h) ws ↔ b ∈ ws ∨ (b ∈ wsc ∧ b < fl)
 | [], ws, b => by simp [addKs]
 | c :: wsc, ws, b => by
  simp only [List.map_cons, addKs]
  rw [addKs_mem]
  simp only [addW]
  by_cases h : c < fl
  ·rw [if_pos h]
   by_cases h2 : ws.contains c = true
   ·rw [if_pos h2]
    have : c ∈ ws := by simpa using h2
    constructor
    ·rintro (h | h)
     ·exact .inl h
     ·exact .inr ⟨List.mem_cons_of_mem _ h.1, h.2⟩
    ·rintro (h3 | ⟨h3, h4⟩)
     ·exact .inl h3
     ·rcases List.mem_cons.mp h3 with rfl | h3
      ·exact .inl this
      ·exact .inr ⟨h3, h4⟩
   ·rw [if_neg h2]
    constructor
    ·rintro (h3 | h3)
     ·rcases List.mem_cons.mp h3 with rfl | h3
      ·exact .inr ⟨List.mem_cons_self .., h⟩
      ·exact .inl h3
     ·exact .inr ⟨List.mem_cons_of_mem _ h3.1, h3.2⟩
    ·rintro (h3 | ⟨h3, h4⟩)
     ·exact .inl (List.mem_cons_of_mem _ h3)
     ·rcases List.mem_cons.mp h3 with rfl | h3
      ·exact .inl (List.mem_cons_self ..)
      ·exact .inr ⟨h3, h4⟩
  ·rw [if_neg h]
   constructor
   ·rintro (h3 | h3)
    ·exact .inl h3
    ·exact .inr ⟨List.mem_cons_of_mem _ h3.1, h3.2⟩
   ·rintro (h3 | ⟨h3, h4⟩)
    ·exact .inl h3
    ·rcases List.mem_cons.mp h3 with rfl | h3
     ·exact (h h4).elim
     ·exact .inr ⟨h3, h4⟩
def wFr {σ : Type} (f : Int → σ → σ) : Int → Nat → σ → σ
 | _, 0, s => s
 | k, m + 1, s => wFr f (k + 1) m (f k s)
def wF {σ : Type} (Y : σ → List Int → σ) : List K → List Int → σ → σ
 | [], w, s => Y s w
 | k :: ks, w, s => wFr (fun x s => wF Y ks (w ++ [x]) s) k.lo (k.hi - k.lo + 1).toNat s
def okW (cs : List K) (w : List Int) : Prop := ∀ (i : Nat) (x : Int) (k : K), w[i]? = some x → cs[i]? = some k → k.lo ≤ x ∧ x ≤ k.hi
end Go.Proofs.YtfhiejgoemcelaaGreat
namespace Go.Proofs.YtfhiejgoemcelaaGreat
open Go Tw
def met (x : V) (ob : B) : B := if decide (x.f > 0) = true then S_hull ob (S_with ⟨1, 0, 0⟩ [S_bit x.f]) true else S_hull ob ⟨x.n, x.n, 0⟩ true
def metStep (s : List B) (i : Nat) (x : V) : List B := s.set i (met x (s.getD i B0))
def metAll (s : List B) (vs : List V) : List B := (vs.foldl (fun (p : List B × Nat) a => (metStep p.1 p.2 a, p.2 + 1)) (s, 0)).1
theorem metFold_len : ∀ (vs : List V) (s : List B) (i : Nat), (vs.foldl (fun (p : List B × Nat) a => (metStep p.1 p.2 a, p.2 + 1)) (s, i)).1.length = s.length
 | [], _, _ => rfl
 | v :: vs, s, i => by
  simp only [List.foldl_cons]
  rw [metFold_len vs]
  simp [metStep]
theorem metAll_len {s : List B} {vs : List V} : (metAll s vs).length = s.length := metFold_len vs s 0
end Go.Proofs.YtfhiejgoemcelaaGreat
namespace Go.Proofs.YtfhiejgoemcelaaGreat
open Go Tw
theorem addW_mem {fl l b : Nat} {ws : List Nat} : b ∈ addW fl l ws ↔ b ∈ ws ∨ (b = l ∧ l < fl) := by
 unfold addW
 split
 ·rename_i h1
  split
  ·rename_i h2
   have : l ∈ ws := by simpa using h2
   constructor
   ·exact fun h => .inl h
   ·rintro (h | ⟨rfl, _⟩)
    ·exact h
    ·exact this
  ·constructor
   ·intro h
    rcases List.mem_cons.mp h with rfl | h
    ·exact .inr ⟨rfl, h1⟩
    ·exact .inl h
   ·rintro (h | ⟨rfl, _⟩)
    ·exact List.mem_cons_of_mem _ h
    ·exact List.mem_cons_self ..
 ·rename_i h1
  constructor
  ·exact fun h => .inl h
  ·rintro (h | h)
   ·exact h
   ·exact (h1 h.2).elim
theorem isWorld_ok {c : C} {w : List Int} (hl : w.length = c.cs.length) (hw : okW c.cs w) : S_isWorld c w = true := by
 unfold S_isWorld S_EqualFunc
 rw [if_neg (by simp [hl])]
 have key : ∀ (t : List K) (i : Nat), c.cs.drop i = t → isL (runL (F_isWorld w) t i ()) = true := by
  intro t
  induction t with
  | nil => intro i _; rfl
  | cons k t ih =>
   intro i hd
   have hk : c.cs[i]? = some k := by
    have := congrArg (·[0]?) hd
    simpa using this
   have hd' : c.cs.drop (i + 1) = t := by
    have := congrArg List.tail hd
    simpa using this
   have hi : i < w.length := by
    rcases Nat.lt_or_ge i c.cs.length with h | h
    ·omega
    ·rw [List.getElem?_eq_none h] at hk; cases hk
   have hx : w[i]? = some (w.getD i 0) := by simp [List.getD, List.getElem?_eq_getElem hi]
   obtain ⟨h1, h2⟩ := hw i _ k hx hk
   have hin : S_isWorld1 k (w.getD i 0) = true := by
    unfold S_isWorld1
    rw [within_iff]
    intro y hy
    simp only [List.mem_singleton] at hy
    subst hy
    exact ⟨h1, h2⟩
   simp only [runL, F_isWorld, Int.toNat_natCast]
   rw [if_neg (by rw [hin]; simp)]
   exact ih (i + 1) hd'
 rw [key c.cs 0 rfl]
 rfl
end Go.Proofs.YtfhiejgoemcelaaGreat
namespace Go.Proofs.YtfhiejgoemcelaaGreat
open Go Tw
def S_Mul64 (x : Int) (y : Int) : Int × Int :=
 (IntKind.u64.wrap ((IntKind.u64.wrap ((IntKind.u64.wrap ((shrI .u64 (x) 32) * (shrI .u64 (y) 32))) + (shrI .u64 (IntKind.u64.wrap ((IntKind.u64.wrap ((shrI .u64 (x) 32) * (andI .u64 (y) 4294967295))) + (shrI .u64 (IntKind.u64.wrap ((andI .u64 (x) 4294967295) * (andI .u64 (y) 4294967295))) 32))) 32))) + (shrI .u64 (IntKind.u64.wrap ((andI .u64 (IntKind.u64.wrap ((IntKind.u64.wrap ((shrI .u64 (x) 32) * (andI .u64 (y) 4294967295))) + (shrI .u64 (IntKind.u64.wrap ((andI .u64 (x) 4294967295) * (andI .u64 (y) 4294967295))) 32))) 4294967295) + (IntKind.u64.wrap ((andI .u64 (x) 4294967295) * (shrI .u64 (y) 32))))) 32)), IntKind.u64.wrap ((x) * (y)))
def S_Mul (x : Int) (y : Int) : Int × Int :=
 ((S_Mul64 x y).1, (S_Mul64 x y).2)
end Go.Proofs.YtfhiejgoemcelaaGreat
namespace Go.Proofs.YtfhiejgoemcelaaGreat
open Go Tw
def rep (r : B) (k n : Nat) : List B := List.replicate k r ++ List.replicate (n - k) B0
theorem rep_len {r : B} {k n : Nat} (h : k ≤ n) : (rep r k n).length = n := by simp [rep]; omega
end Go.Proofs.YtfhiejgoemcelaaGreat
namespace Go.Proofs.YtfhiejgoemcelaaGreat
open Go Tw
theorem wrapu_small {z : Int} (h0 : 0 ≤ z) (h1 : z < 2 ^ 63) : IntKind.u64.wrap z = z := by
 simp only [IntKind.wrap, IntKind.bits, IntKind.signed]
 have : z % (2 ^ 64 : Int) = z := Int.emod_eq_of_lt h0 (by omega)
 simp only [this]
 simp
theorem and_small {z : Int} (h0 : 0 ≤ z) (h1 : z < 2 ^ 32) : andI .u64 z 4294967295 = z := by
 have e : (BitVec.ofInt 64 z &&& BitVec.ofInt 64 4294967295).toNat = z.toNat := by
  rw [BitVec.toNat_and, BitVec.toNat_ofInt, BitVec.toNat_ofInt]
  have h2 : (z % ((2 ^ 64 : Nat) : Int)).toNat = z.toNat := by rw [Int.emod_eq_of_lt h0 (by omega)]
  have h3 : ((4294967295 : Int) % ((2 ^ 64 : Nat) : Int)).toNat = 2 ^ 32 - 1 := by decide
  rw [h2, h3, Nat.and_two_pow_sub_one_eq_mod]
  exact Nat.mod_eq_of_lt (by omega)
 show IntKind.u64.wrap ((BitVec.ofInt 64 z &&& BitVec.ofInt 64 4294967295).toNat : Nat) = z
 rw [e, wrapu_small (by omega) (by omega)]
 omega
theorem shr_small {z : Int} (h0 : 0 ≤ z) (h1 : z < 2 ^ 32) : shrI .u64 z 32 = 0 := by
 show z.fdiv (2 ^ (min (32 : Int).toNat 64)) = 0
 rw [show min (32 : Int).toNat 64 = 32 from rfl, Int.fdiv_eq_ediv_of_nonneg _ (by decide)]
 exact Int.ediv_eq_zero_of_lt h0 h1
theorem Mul_one {q : Int} (h0 : 0 ≤ q) (h1 : q ≤ 5000) : S_Mul 1 q = (0, q) := by
 unfold S_Mul S_Mul64
 simp only [and_small h0 (show q < 2 ^ 32 by omega), shr_small h0 (show q < 2 ^ 32 by omega), show shrI .u64 1 32 = 0 from rfl, show andI .u64 1 4294967295 = 1 from rfl, Int.zero_mul, Int.mul_zero, Int.one_mul, wrapu_small h0 (show q < 2 ^ 63 by omega), show IntKind.u64.wrap 0 = 0 from rfl, Int.add_zero, Int.zero_add, show andI .u64 0 4294967295 = 0 from rfl, show shrI .u64 0 32 = 0 from rfl]
end Go.Proofs.YtfhiejgoemcelaaGreat
namespace Go.Proofs.YtfhiejgoemcelaaGreat
open Go Tw Pv
noncomputable def xA : Arg Int := intA .u64
noncomputable def oc137 : Orc gam := orcF 137 (a2 xA xA) (tupA (a2 xA xA)) (fun p => S_Mul64 p.1 p.2) np oc36
theorem n32 : (0 : Int) ≤ 32 := by decide
theorem gc137 : Gd oc137 := gc36.add fun n hO p hp => fn_is hX hO (by kernel_rfl) (.o n32 (.o n32 (.o n32 (.o n32 (.o n32 .rr)))))
noncomputable def oc107 : Orc gam := orcF 107 (a2 xA xA) (tupA (a2 xA xA)) (fun p => S_Mul p.1 p.2) np oc137
theorem gc107 : Gd oc107 := gc137.add fun n hO p hp => fn_is hX hO (by kernel_rfl) .rr
noncomputable def oc107' : Orc gam := orcF 107 (a2 xA xA) (tupA (a2 xA xA)) (fun p => (0, p.2)) (fun p => [S_Mul p.1 p.2 = (0, p.2)]) oc107
theorem Ok.mul1 {n : Nat} (hO : Ok n oc107) : Ok n oc107' := OrcOk.as hO fun x hx => by
 have h := hO 107 ((a2 xA xA).put x) ((tupA (a2 xA xA)).put (S_Mul x.1 x.2)) [] [] rfl (by simp)
 rw [hx _ (.head _)] at h
 exact h
abbrev w66 (k : Int) (l : List B) (x : List (Nat × PE gam)) : PSt gam := ⟨[(7, .val (.own 0)), (8, xi k)] ++ x, [], [.list true true 38 l]⟩
def g66 (N : Nat) (k : Nat) : Nat ⊕ Unit := if k < N then .inl (k + min k (N - k)) else .inr ()
theorem g66_it (N : Nat) : ∀ (m k : Nat), N - k < m → (1 ≤ k ∨ N = 0) → itF (g66 N) m k = some ()
 | 0, k, h, _ => by omega
 | m + 1, k, h, h1 => by
  simp only [itF, g66]
  by_cases hk : k < N
  ·rw [if_pos hk]; exact g66_it N m _ (by omega) (by omega)
  ·rw [if_neg hk]
theorem put_rep {r : B} {k m N : Nat} (h : k + m ≤ N) (hm : m ≤ k) : putL (rep r k N) k m (((rep r k N).drop 0).take (k - 0)) = rep r (k + m) N := by
 unfold putL rep
 simp only [List.drop_zero, Nat.sub_zero]
 rw [List.take_append_of_le_length (by simp), List.take_of_length_le (by simp), List.take_replicate, Nat.min_eq_left hm, List.drop_append, List.drop_of_length_le (by simp)]
 simp only [List.length_replicate, Nat.add_sub_cancel_left, List.nil_append, List.drop_replicate]
 rw [← List.replicate_append_replicate (n := k) (m := m)]
 simp only [List.append_assoc]
 congr 3
 omega
abbrev w66n (r : B) (N k : Nat) : PSt gam := w66 (IntKind.i64.wrap ((k : Int) + ((min (((rep r k N).drop 0).take (k - 0)).length ((rep r k N).length - k) : Nat) : Int))) (putL (rep r k N) k (min (((rep r k N).drop 0).take (k - 0)).length ((rep r k N).length - k)) (((rep r k N).drop 0).take (k - 0))) []
theorem w66n_eq {r : B} {N k : Nat} (hN : N ≤ most) (hk : k ≤ N) : w66n r N k = w66 ((k + min k (N - k) : Nat) : Int) (rep r (k + min k (N - k)) N) [] := by
 have h1 := rep_len (r := r) hk
 have h2 : (((rep r k N).drop 0).take (k - 0)).length = k := by simp [h1, hk]
 unfold w66n
 rw [h1, h2, put_rep (by omega) (by omega), show ((k : Int) + ((min k (N - k) : Nat) : Int)) = ((k + min k (N - k) : Nat) : Int) by omega, wrap_small (by omega) (by unfold most at hN; omega)]
def z66 (r : B) (N : Nat) : Unit → Ex × PSt gam := fun _ => (.exit 0, w66 N (rep r N N) [(37, xl false)])
theorem l66 {n : Nat} (hO : Ok n oc107) (r : B) (N : Nat) (hN : N ≤ most) (k0 : Nat) (hk0 : k0 ≤ N) (h1 : 1 ≤ k0 ∨ N = 0) : Lp n 66 0 (w66 k0 (rep r k0 N) []) (.exit 0) (w66 N (rep r N N) [(37, xl false)]) := by
 refine whileE (X := X0) (P := Tryz.prog) (T := T) (st := fun (k : Nat) => w66 k (rep r k N) []) (g := g66 N) (out := z66 r N) (r := ()) (fun k => k ≤ N ∧ (1 ≤ k ∨ N = 0)) (k := N + 1) (g66_it N (N + 1) k0 (by omega) h1) (by kernel_rfl) (by unfold most at hN; show N + 1 ≤ 2 ^ 24; omega) ⟨hk0, h1⟩ (fun s s1 hi hs => ?_) (fun k m u hi ih => ?_)
 ·unfold g66 at hs
  split at hs
  ·cases hs; omega
  ·cases hs
 ·have hl := rep_len (r := r) hi.1
  by_cases hk : k < N
  ·have hg : g66 N k = .inl (k + min k (N - k)) := if_pos hk
   have h2 := ih _ hg
   rw [← w66n_eq hN hi.1] at h2
   rw [hg]
   have hlt : decide ((k : Int) < ((rep r k N).length : Int)) = true := by rw [hl]; simp; omega
   have hle : (k : Int) ≤ ((rep r k N).length : Int) := by rw [hl]; omega
   exact round hX hO (by kernel_rfl) (.b hlt (.o (Int.natCast_nonneg k) (.o hle (.o (Int.le_refl ((rep r k N).length : Int)) (.o nn (.o (Int.natCast_nonneg k) (.o hle (.nx h2))))))))
  ·have hkN : k = N := by omega
   subst hkN
   have hg : g66 k k = .inr () := if_neg hk
   rw [hg]
   have hlt : decide ((k : Int) < ((rep r k k).length : Int)) = false := by rw [hl]; simp
   exact round hX hO (by kernel_rfl) (.b hlt (.ou nofun))
noncomputable def oc66 : Orc gam := orcE 66 (a2 bsA iA) (fun _ => .own 0) (fun p => [.list true true 38 (List.replicate p.2.toNat (p.1.getD 0 B0))]) (fun p => [p.1.length = 1, 0 ≤ p.2, p.2 ≤ 5000]) oc107
theorem gc66 : Gd oc66 := gc107.deepE 0 fun n _ hO p hp => by
 have hO := hO n (by omega)
 obtain ⟨l, z⟩ := p
 have h1 : l.length = 1 := hp _ (.head _)
 have h2 : 0 ≤ z := hp _ (.tail _ (.head _))
 have h3 : z ≤ 5000 := hp _ (.tail _ (.tail _ (.head _)))
 obtain ⟨r, rfl⟩ : ∃ r, l = [r] := by
  match l, h1 with
  | [r], _ => exact ⟨r, rfl⟩
 obtain ⟨N, rfl⟩ : ∃ N : Nat, z = N := ⟨z.toNat, by omega⟩
 have e1 : IntKind.u64.wrap (N : Int) = N := wrapu_small (by omega) (by omega)
 have e2 : IntKind.i64.wrap (IntKind.u64.wrap (N : Int)) = N := by rw [e1]; exact wrap_small (by omega) (by omega)
 have hm : S_Mul 1 (IntKind.u64.wrap (N : Int)) = (0, IntKind.u64.wrap (N : Int)) := by rw [e1]; exact Mul_one (by omega) h3
 have hc : decide (IntKind.u64.wrap (N : Int) > 9223372036854775807) = false := by rw [e1]; simp; omega
 have hlp := l66 (n := n) hO r N (by unfold most; omega) (min 1 N) (by omega) (by omega)
 have hr : rep r N N = List.replicate N r := by simp [rep]
 have h0 : w66 ((min 1 N : Nat) : Int) (rep r (min 1 N) N) [] = w66 ((min 1 (List.replicate (IntKind.i64.wrap (IntKind.u64.wrap (N : Int))).toNat B0).length : Nat) : Int) (putL (List.replicate (IntKind.i64.wrap (IntKind.u64.wrap (N : Int))).toNat B0) 0 (min 1 (List.replicate (IntKind.i64.wrap (IntKind.u64.wrap (N : Int))).toNat B0).length) [r]) [] := by
  rw [e2]
  simp only [Int.toNat_natCast, List.length_replicate]
  congr 3
  rcases Nat.eq_zero_or_pos N with rfl | hN
  ·rfl
  ·rw [Nat.min_eq_left hN]
   unfold rep putL
   simp only [List.take_zero, List.nil_append, Nat.zero_add, List.drop_replicate]
   rfl
 rw [h0] at hlp
 have : Con X0 Tryz.prog (ApN (n + 1)) 66 ((a2 bsA iA).put ([r], (N : Int))) (.own 0) [.list true true 38 (rep r N N)] := fn_ex hX (Ok.mul1 hO) (by kernel_rfl) (.b (show decide ((N : Int) < 0) = false by simp) (.o hm (.b (rfl : false = false) (.b hc (.o (rfl : IntKind.i64.wrap (IntKind.u64.wrap (N : Int)) = IntKind.i64.wrap (IntKind.u64.wrap (N : Int))) (.o (show 0 ≤ IntKind.i64.wrap (IntKind.u64.wrap (N : Int)) by rw [e2]; omega) (.o (show IntKind.i64.wrap (IntKind.u64.wrap (N : Int)) ≤ (most : Int) by rw [e2]; unfold most; omega) (.w hlp .er))))))))
 rw [hr] at this
 exact this
end Go.Proofs.YtfhiejgoemcelaaGreat
namespace Pv
open Go Tw
section
variable {X : Cod} {P : Program}
theorem Sim.frame (hX : CodOk X P) {call : CallT} {ks : List Nat} {H' Hp H H1 H1r : List (PB X.Γ)} {fv fv' v v' : PV X.Γ} {xs xs' : List (PV X.Γ)} (hs : Sim X P call fv xs H v H1)
  (hnd : ks.Nodup) (hp : pickB H' ks = some Hp) (hH : renBs (posN ks) Hp = some H) (hf : renV (posN ks) fv' = some fv) (hx : renV.renVs (posN ks) xs' = some xs)
  (hv : renV (bk ks H'.length) v = some v') (hH1 : renBs (bk ks H'.length) H1 = some H1r) :
  Sim X P call fv' xs' H' v' (putAt ks H1r H' ++ H1r.drop ks.length) := fun A m' h tf txs hr hf' hx' => by
 obtain ⟨w, h1, ws, m1, c1, c2, c3, c4, c5, c6⟩ := frame_use hX hs hnd hp hH hf hx hv hH1 A m' h tf txs hr hf' hx'
 exact ⟨w, h1, ws, m1, c1, c2, c3, c4, c5, fun b hb => by obtain ⟨k, _, mb, h8, h9⟩ := c6 b hb; exact own_mem h8 h9⟩
end
end Pv
namespace Go.Proofs.YtfhiejgoemcelaaGreat
open Go Tw
def manyStep (m : Int) (x : K) : Int := IntKind.i64.wrap (m * (IntKind.i64.wrap ((IntKind.i64.wrap (x.hi - x.lo)) + 1)))
def S_many (cs : List K) : Int := cs.foldl manyStep 1
theorem Check_cs {c : C} (h : ((S_Check c) != 0) = false) : ∀ k ∈ c.cs, -9999 ≤ k.lo ∧ k.lo ≤ k.hi ∧ k.hi ≤ 9999 ∧ k.hi - k.lo + 1 ≤ 12 := by
 have hany : (c.cs.any (fun x => S_isNoChoice x)) = false := by
  unfold S_Check at h
  split at h
  ·simp at h
  ·split at h
   ·simp at h
   ·split at h
    ·simp at h
    ·split at h
     ·simp at h
     ·rename_i hx; simpa using hx
 intro k hk
 have := List.any_eq_false.mp hany k hk
 unfold S_isNoChoice at this
 split at this
 ·simp at this
 ·rename_i h1
  simp only [Bool.not_eq_true, Bool.not_eq_false'] at h1 this
  rw [within_iff] at h1 this
  have a := h1 k.lo (by simp)
  have b := h1 k.hi (by simp)
  have d := this _ (List.mem_singleton_self _)
  rw [wrap_small (z := k.hi - k.lo) (by omega) (by omega), wrap_small (by omega) (by omega)] at d
  omega
def none0 (n : Nat) : List B := List.replicate n ⟨1, 0, 0⟩
def S_TightL (c : C) : List B := wF (fun s w => metAll s (S_AllL c w)) c.cs [] (none0 c.os.length)
def S_Tight (c : C) : List B × Int :=
 if ((S_check c) != 0) = true then ([], S_check c) else if (decide (S_many c.cs > 2000)) = true then ([], 5) else (S_TightL c, 0)
end Go.Proofs.YtfhiejgoemcelaaGreat
namespace Pv
open Go Tw
section
variable {X : Cod} {P : Program}
theorem Sim.cut (hX : CodOk X P) {call : CallT} {fv : PV X.Γ} {xs : List (PV X.Γ)} {H H1 H2 : List (PB X.Γ)} {v : PV X.Γ} (hs : Sim X P call fv xs H v H1) (h1 : H1.take H.length = H2) (hb : renBs (gB H.length) H2 = some H2) (hl : decide (H.length ≤ H1.length) = true) (hv : renV (gB H.length) v = some v) : Sim X P call fv xs H v H2 := by
 intro A m h tf txs hr hf hx
 obtain ⟨w, h', ws, m1, c1, c2, c3, c4, c5, c6⟩ := hs A m h tf txs hr hf hx
 have hl := of_decide_eq_true hl
 have hg : gsteps H.length [.gc []] (⟨[(0, .val v)], [], H1⟩ : PSt X.Γ) = some ⟨[(0, .val v)], [], H2⟩ := by
  have e : renEs (gB H.length) [(0, PE.val v)] = some [(0, .val v)] := by simp only [renEs, renE, hv, Option.map_some]
  have hb' : renBs (fun i => if i < H.length then some i else (posN [] i).map (· + H.length)) H2 = some H2 := hb
  have e' : renEs (fun i => if i < H.length then some i else (posN [] i).map (· + H.length)) [(0, PE.val v)] = some [(0, .val v)] := e
  simp only [gsteps, gstep, List.all_nil, List.nodup_nil, decide_true, Bool.and_self, Bool.true_and, hl, if_true, e', renL, h1, hb', pickB, renBs, List.append_nil]
 obtain ⟨m2, q1, q2, q3⟩ := gsteps_ok hX hg A (fun _ => True) 0 m1 ⟨[(0, .val w)], [], h', []⟩ ⟨⟨c2, rfl, fun k cs hk => by simp at hk, .cons c3 .nil⟩, fun b _ => .inl trivial, fun b hb => (by cases hb), Nat.zero_le _⟩
 obtain ⟨w', e1, e2⟩ := look_some q1.st.env (t := 0) (v := .val v) rfl
 simp only [lookE, if_true, Option.some.injEq] at e1
 subst e1
 refine ⟨w, h', ws, m2, c1, q1.st.heap, e2, c4.trans q2, fun i mb hi => ?_, c6⟩
 have hlt : i < H.length := by rw [← hr.len]; exact (List.getElem?_eq_some_iff.1 hi).1
 rcases c5 i mb hi with g | g
 ·exact q3 i mb hlt g
 ·rcases q3 i _ hlt g with g | g <;> exact .inr g
end
end Pv
namespace Go.Proofs.YtfhiejgoemcelaaGreat
open Go Tw Pv
theorem s110 {n : Nat} (k ex : Bool) (w : List Int) (hw : w ≠ []) (hl : w.length ≤ most) : Sim X0 Tryz.prog (ApN (n + 1)) (.fn 110 [] []) [.own 0] [.list k ex 3 w] (.own 2) [.list k ex 3 w, .gone, .list true false 3 w] :=
 sim_ex hX ok0 (first := []) (cap := []) (by kernel_rfl) (.o hw (.b (rfl : false = false) (.o (show ([] : List Int).length + w.length ≤ most by simpa using hl) .er)))
theorem s110n {n : Nat} : Sim X0 Tryz.prog (ApN (n + 1)) (.fn 110 [] []) [.nil .slc] [] (.nil .slc) [] :=
 sim_ex hX ok0 (first := []) (cap := []) (by kernel_rfl) (.b (rfl : true = true) .er)
noncomputable def oc68 : Orc gam := orcE 68 (a1 ksA) (fun _ => .fn 108 [] [.ptr 0 0 1]) (fun p => [.cells [.lst 62 p false]]) np oc66
theorem gc68 : Gd oc68 := gc66.deepE 0 fun n _ hO p hp => fn_ex hX (hO n (by omega)) (by kernel_rfl) .er
end Go.Proofs.YtfhiejgoemcelaaGreat
namespace Pv
open Go Tw
section
variable {X : Cod} {P : Program} {T : Tab} {L f nt B : Nat} {rnd : Bool} {call : CallT} {orc : Orc X.Γ}
theorem exec_fp (hX : CodOk X P) (hO : OrcOk X P call orc) {c : Code} {ps ps1 : PSt X.Γ} {an : PT X.Γ} {e : Ex} {o : OT (Ex × PSt X.Γ)}
  (hk : pexecK X P T orc (Sim X P call) (ExecS X P T call L f rnd nt B) B L f rnd nt c ps an endE = o) (ht : Fp (fun y => y = (e, ps1)) an o) : ExecS X P T call L f rnd nt B c ps e ps1 := by
 obtain ⟨y, h1, rfl⟩ := ht.ends
 rw [← hk] at h1
 exact execS_of hX hO h1
theorem Fp.xx {y : Ex × PSt X.Γ} : Fp (fun z => z = y) (.n : PT X.Γ) (.ret y) := .r rfl
end
end Pv
namespace Go.Proofs.YtfhiejgoemcelaaGreat
open Go Tw Pv
abbrev envT : List (Nat × PE gam) := [(1, .val (.ptr 0 0 3)), (2, .val (.ptr 1 0 1)), (3, .val (.ptr 2 0 1)), (8, .val (.ptr 5 0 1)), (47, .val (.fn 108 [] [.ptr 6 0 1]))]
noncomputable abbrev LRT (rd : Bool) (pend : Option Code) : PB gam := .loop rd 29 (ntP Tryz.prog 29) envT [48] (rfAssign Tryz.prog 29) (rfBody Tryz.prog 29) pend
noncomputable abbrev MB0 (c : C) (rd : Bool) (s : List B) : List (PB gam) := [.cells (xC c), .cells [.nil .slc], .cells [.int .i64 0], .gone, .list true true 38 s, .cells [.own 4], .cells [.lst 62 c.cs false], .mark, LRT rd none]
abbrev fE : PV gam := .fn 109 [] [.ptr 6 0 1, .ptr 9 0 1, .ptr 10 0 1]
noncomputable abbrev MT (c : C) (s : List B) : List (PB gam) := MB0 c true s ++ [.cells [.yld 8], .cells [fE]]
def gMet (k : Nat) (v : V) (s : List B) : List B ⊕ Empty := .inl (metStep s k v)
theorem gMet_run : ∀ (vs : List V) (k : Nat) (s : List B), getE (runL gMet vs k s) = (vs.foldl (fun (p : List B × Nat) a => (metStep p.1 p.2 a, p.2 + 1)) (s, k)).1
 | [], _, _ => rfl
 | v :: vs, k, s => by simp only [runL, gMet, List.foldl_cons]; exact gMet_run vs _ _
theorem AllL_len (c : C) (w : List Int) : (S_AllL c w).length = c.os.length := by
 have : ∀ (os : List O) (i : Nat) (l : List V), (bld (fun l _ o => [S_cell l w o]) os i l).length = l.length + os.length := by
  intro os
  induction os with
  | nil => intro i l; simp [bld]
  | cons o os ih => intro i l; simp only [bld]; rw [ih]; simp; omega
 have h := this c.os 0 []
 simpa [S_AllL] using h
theorem gMet_all (vs : List V) (s : List B) : getE (runL gMet vs 0 s) = metAll s vs := gMet_run vs 0 s
theorem metStep_len (s : List B) (k : Nat) (v : V) : (metStep s k v).length = s.length := by simp [metStep]
noncomputable abbrev wTW (c : C) (vs : List V) (s : List B) (i : Int) (x : List (Nat × PE gam)) : PSt gam := ⟨[(8, .val (.ptr 5 0 1)), (58, xL 78 vs), (59, xi vs.length), (60, xi i)] ++ x, [], MB0 c false s ++ [.gone]⟩
noncomputable def zTW (c : C) (vs : List V) (r : List B ⊕ Empty) : Ex × PSt gam := (.exit 4, wTW c vs (getE r) vs.length [(61, xl false)])
theorem lTW {n : Nat} (hO : Ok n oc68) (c : C) (vs : List V) (hv : vs.length ≤ most) (s : List B) (hs : s.length = vs.length) : ExecS X0 Tryz.prog T (ApN n) LL 29 true (ntP Tryz.prog 29) 10 (.loop (bodyP Tryz.prog 29 1)) (wTW c vs s 0 []) (zTW c vs (runL gMet vs 0 s)).1 (zTW c vs (runL gMet vs 0 s)).2 :=
 eachE (st := fun i s => wTW c vs s i []) V0 (fun _ s => s.length = vs.length) (by kernel_rfl) hv LLm hs (fun j s n hk hi ih => by
  have hj : inR j s.length := by rw [hi]; exact inR_nat hk
  have ih := ih (metStep s j (vs.getD j V0)) (by rw [metStep_len]; exact hi)
  cases hd : decide ((vs.getD j V0).f > 0)
  ·rw [show metStep s j (vs.getD j V0) = s.set j (S_hull (s.getD j B0) ⟨(vs.getD j V0).n, (vs.getD j V0).n, 0⟩ true) by simp only [metStep, met, hd]; rfl] at ih
   rw [show gMet j (vs.getD j V0) s = .inl (s.set j (S_hull (s.getD j B0) ⟨(vs.getD j V0).n, (vs.getD j V0).n, 0⟩ true)) by simp only [gMet, metStep, met, hd]; rfl]
   exact round hX hO (by kernel_rfl) (.b (lt_nat hk) (.o (inR_nat hk) (.b hd (.o hj (.o hj (.goG [.gc []] ih))))))
  ·rw [show metStep s j (vs.getD j V0) = s.set j (S_hull (s.getD j B0) (S_with ⟨1, 0, 0⟩ [S_bit (vs.getD j V0).f]) true) by simp only [metStep, met, hd]; rfl] at ih
   rw [show gMet j (vs.getD j V0) s = .inl (s.set j (S_hull (s.getD j B0) (S_with ⟨1, 0, 0⟩ [S_bit (vs.getD j V0).f]) true)) by simp only [gMet, metStep, met, hd]; rfl]
   exact round hX hO (by kernel_rfl) (.b (lt_nat hk) (.o (inR_nat hk) (.b hd (.o le1 (.o hj (.o hj (.goG [.gc []] ih))))))))
  (fun s _ => round hX hO (by kernel_rfl) (.b (lt_no vs.length) (.ou nofun)))
theorem yW {n : Nat} (hO : Ok n oc68) (c : C) (k ex : Bool) (w : List Int) (s : List B) (hA : S_All c w = (S_AllL c w, 0)) (hv : c.os.length ≤ most) (hs : s.length = c.os.length) : Sim X0 Tryz.prog (ApN (n + 1)) (.yld 8) [.own 9] (MB0 c true s ++ [.list k ex 3 w]) (.bool true) (MB0 c true (metAll s (S_AllL c w)) ++ [.gone]) := by
 have hl : (S_All c w).1.length = c.os.length := by rw [hA]; exact AllL_len c w
 have h2 := lTW hO c (S_All c w).1 (by rw [hl]; exact hv) s (by rw [hl, hs])
 have e1 : metAll s (S_AllL c w) = getE (runL gMet (S_All c w).1 0 s) := by rw [gMet_all, hA]
 have h0 : ((S_All c w).2 != 0) = false := by rw [hA]; rfl
 rw [e1]
 have q1 : ExecS X0 Tryz.prog T (ApN n) LL 29 true (ntP Tryz.prog 29) 10 (rfAssign Tryz.prog 29) ⟨pputAll envT [48] [.own 9], [], MB0 c true s ++ [.list k ex 3 w]⟩ .norm ⟨[(1, .val (.ptr 0 0 3)), (2, .val (.ptr 1 0 1)), (3, .val (.ptr 2 0 1)), (8, .val (.ptr 5 0 1)), (9, .val (.own 9))], [], MB0 c true s ++ [.list k ex 3 w]⟩ := exec_fp hX hO (by kernel_rfl) .xx
 have q2 : ExecS X0 Tryz.prog T (ApN n) LL 29 true (ntP Tryz.prog 29) 10 (rfBody Tryz.prog 29) ⟨[(1, .val (.ptr 0 0 3)), (2, .val (.ptr 1 0 1)), (3, .val (.ptr 2 0 1)), (8, .val (.ptr 5 0 1)), (9, .val (.own 9))], [], MB0 c false s ++ [.list k ex 3 w]⟩ .norm (wTW c (S_All c w).1 (getE (runL gMet (S_All c w).1 0 s)) (S_All c w).1.length [(61, xl false)]) := exec_fp hX hO (by kernel_rfl) (.b h0 (.w h2 .xx))
 exact yld_sim hX (l := 8) rfl rfl (by kernel_rfl) q1 rfl q2 rfl
noncomputable abbrev wTN (c : C) (vs : List V) (s : List B) (i : Int) (x : List (Nat × PE gam)) : PSt gam := ⟨[(8, .val (.ptr 5 0 1)), (58, xL 78 vs), (59, xi vs.length), (60, xi i)] ++ x, [], MB0 c false s⟩
noncomputable def zTN (c : C) (vs : List V) (r : List B ⊕ Empty) : Ex × PSt gam := (.exit 4, wTN c vs (getE r) vs.length [(61, xl false)])
theorem lTN {n : Nat} (hO : Ok n oc68) (c : C) (vs : List V) (hv : vs.length ≤ most) (s : List B) (hs : s.length = vs.length) : ExecS X0 Tryz.prog T (ApN n) LL 29 true (ntP Tryz.prog 29) 9 (.loop (bodyP Tryz.prog 29 1)) (wTN c vs s 0 []) (zTN c vs (runL gMet vs 0 s)).1 (zTN c vs (runL gMet vs 0 s)).2 :=
 eachE (st := fun i s => wTN c vs s i []) V0 (fun _ s => s.length = vs.length) (by kernel_rfl) hv LLm hs (fun j s n hk hi ih => by
  have hj : inR j s.length := by rw [hi]; exact inR_nat hk
  have ih := ih (metStep s j (vs.getD j V0)) (by rw [metStep_len]; exact hi)
  cases hd : decide ((vs.getD j V0).f > 0)
  ·rw [show metStep s j (vs.getD j V0) = s.set j (S_hull (s.getD j B0) ⟨(vs.getD j V0).n, (vs.getD j V0).n, 0⟩ true) by simp only [metStep, met, hd]; rfl] at ih
   rw [show gMet j (vs.getD j V0) s = .inl (s.set j (S_hull (s.getD j B0) ⟨(vs.getD j V0).n, (vs.getD j V0).n, 0⟩ true)) by simp only [gMet, metStep, met, hd]; rfl]
   exact round hX hO (by kernel_rfl) (.b (lt_nat hk) (.o (inR_nat hk) (.b hd (.o hj (.o hj (.goG [.gc []] ih))))))
  ·rw [show metStep s j (vs.getD j V0) = s.set j (S_hull (s.getD j B0) (S_with ⟨1, 0, 0⟩ [S_bit (vs.getD j V0).f]) true) by simp only [metStep, met, hd]; rfl] at ih
   rw [show gMet j (vs.getD j V0) s = .inl (s.set j (S_hull (s.getD j B0) (S_with ⟨1, 0, 0⟩ [S_bit (vs.getD j V0).f]) true)) by simp only [gMet, metStep, met, hd]; rfl]
   exact round hX hO (by kernel_rfl) (.b (lt_nat hk) (.o (inR_nat hk) (.b hd (.o le1 (.o hj (.o hj (.goG [.gc []] ih))))))))
  (fun s _ => round hX hO (by kernel_rfl) (.b (lt_no vs.length) (.ou nofun)))
theorem yN {n : Nat} (hO : Ok n oc68) (c : C) (s : List B) (hA : S_All c ([] : List Int) = (S_AllL c ([] : List Int), 0)) (hv : c.os.length ≤ most) (hs : s.length = c.os.length) : Sim X0 Tryz.prog (ApN (n + 1)) (.yld 8) [.nil .slc] (MB0 c true s) (.bool true) (MB0 c true (metAll s (S_AllL c ([] : List Int)))) := by
 have hl : (S_All c ([] : List Int)).1.length = c.os.length := by rw [hA]; exact AllL_len c ([] : List Int)
 have h2 := lTN hO c (S_All c ([] : List Int)).1 (by rw [hl]; exact hv) s (by rw [hl, hs])
 have e1 : metAll s (S_AllL c ([] : List Int)) = getE (runL gMet (S_All c ([] : List Int)).1 0 s) := by rw [gMet_all, hA]
 have h0 : ((S_All c ([] : List Int)).2 != 0) = false := by rw [hA]; rfl
 rw [e1]
 have q1 : ExecS X0 Tryz.prog T (ApN n) LL 29 true (ntP Tryz.prog 29) 9 (rfAssign Tryz.prog 29) ⟨pputAll envT [48] [.nil .slc], [], MB0 c true s⟩ .norm ⟨[(1, .val (.ptr 0 0 3)), (2, .val (.ptr 1 0 1)), (3, .val (.ptr 2 0 1)), (8, .val (.ptr 5 0 1)), (9, .val (.nil .slc))], [], MB0 c true s⟩ := exec_fp hX hO (by kernel_rfl) .xx
 have q2 : ExecS X0 Tryz.prog T (ApN n) LL 29 true (ntP Tryz.prog 29) 9 (rfBody Tryz.prog 29) ⟨[(1, .val (.ptr 0 0 3)), (2, .val (.ptr 1 0 1)), (3, .val (.ptr 2 0 1)), (8, .val (.ptr 5 0 1)), (9, .val (.nil .slc))], [], MB0 c false s⟩ .norm (wTN c (S_All c ([] : List Int)).1 (getE (runL gMet (S_All c ([] : List Int)).1 0 s)) (S_All c ([] : List Int)).1.length [(61, xl false)]) := exec_fp hX hO (by kernel_rfl) (.b h0 (.w h2 .xx))
 exact yld_sim hX (l := 8) rfl rfl (by kernel_rfl) q1 rfl q2 rfl
end Go.Proofs.YtfhiejgoemcelaaGreat
namespace Pv
open Go Tw
theorem Sim.forget {X : Cod} {P : Program} {call : CallT} {fv : PV X.Γ} {xs : List (PV X.Γ)} {H H1 : List (PB X.Γ)} {v : PV X.Γ} (hs : Sim X P call fv xs H v H1) (i : Nat) : Sim X P call fv xs H v (H1.set i .gone) := by
 intro A m h tf txs hr hf hx
 obtain ⟨w, h', ws, m1, c1, c2, c3, c4, c5, c6⟩ := hs A m h tf txs hr hf hx
 have hg := c2.goneAll [i]
 have hf2 := fr_goneM (h := h') [i] m1
 exact ⟨w, h', ws, _, c1, hg, c3.step hf2.1 hf2.2, c4.trans hf2.1, c5.trans hf2.2, c6⟩
end Pv
namespace Go.Proofs.YtfhiejgoemcelaaGreat
open Go Tw Pv
abbrev Yw (c : C) (s : List B) (w : List Int) : List B := metAll s (S_AllL c w)
def g109 (c : C) (ks : List K) (w : List Int) (hi : Int) (p : Int × List B) : (Int × List B) ⊕ List B := if decide (p.1 ≤ hi) = true then .inl (p.1 + 1, wF (Yw c) ks (w ++ [p.1]) p.2) else .inr p.2
theorem g109_it (c : C) (ks : List K) (w : List Int) (hi : Int) : ∀ (m : Nat) (x : Int) (s : List B), x + m = hi + 1 → itF (g109 c ks w hi) (m + 1) (x, s) = some (wFr (fun x s => wF (Yw c) ks (w ++ [x]) s) x m s)
 | 0, x, s, h => by
  simp only [itF, g109, wFr]
  rw [if_neg (by simp; omega)]
 | m + 1, x, s, h => by
  rw [itF]
  simp only [g109]
  rw [if_pos (by simp; omega)]
  exact g109_it c ks w hi m (x + 1) _ (by omega)
theorem wFr_len {f : Int → List B → List B} {n : Nat} (hf : ∀ x s, s.length = n → (f x s).length = n) : ∀ (m : Nat) (x : Int) (s : List B), s.length = n → (wFr f x m s).length = n
 | 0, _, _, h => h
 | m + 1, x, s, h => wFr_len hf m _ _ (hf x s h)
theorem wF_len (c : C) (n : Nat) : ∀ (ks : List K) (w : List Int) (s : List B), s.length = n → (wF (Yw c) ks w s).length = n
 | [], w, s, h => by simp only [wF]; rw [metAll_len]; exact h
 | k :: ks, w, s, h => by simp only [wF]; exact wFr_len (fun x s hs => wF_len c n ks _ s hs) _ _ _ h
theorem All_ok {c : C} (hok : ((S_check c) != 0) = false) {w : List Int} (hl : w.length = c.cs.length) (hw : okW c.cs w) : S_All c w = (S_AllL c w, 0) := by
 have h1 := (check_ok hok).1
 have h2 : (c.os.any fun o => S_isParam o) = false := by
  have : S_check c = 0 := by simpa using hok
  unfold S_check at this
  rw [if_neg (by rw [h1]; simp)] at this
  cases h : c.os.any fun o => S_check1 o
  ·exact h
  ·rw [h] at this; simp at this
 unfold S_All
 rw [if_neg (by rw [h1]; simp), if_neg (by rw [h2]; simp), if_neg (by rw [isWorld_ok hl hw]; simp)]
theorem okW_app {cs : List K} {w : List Int} {x : Int} {k : K} (hw : okW cs w) (hk : cs[w.length]? = some k) (h1 : k.lo ≤ x) (h2 : x ≤ k.hi) : okW cs (w ++ [x]) := by
 intro i y k' hy hk'
 rcases Nat.lt_or_ge i w.length with hi | hi
 ·rw [List.getElem?_append_left hi] at hy; exact hw i y k' hy hk'
 ·rw [List.getElem?_append_right hi] at hy
  have : i - w.length = 0 := by
   rcases Nat.eq_zero_or_pos (i - w.length) with h | h
   ·exact h
   ·rw [List.getElem?_eq_none (by simp; omega)] at hy; cases hy
  rw [this] at hy
  simp only [List.getElem?_cons_zero, Option.some.injEq] at hy
  subst hy
  rw [show i = w.length by omega, hk] at hk'
  cases hk'
  exact ⟨h1, h2⟩
noncomputable abbrev w109W (c : C) (k ex : Bool) (w : List Int) (p : Int × List B) (x : List (Nat × PE gam)) : PSt gam := ⟨[(0, .val (.own 11)), (3, .val (.ptr 10 0 1)), (6, .loc 0 0), (7, xi p.1)] ++ x, [K.ps (c.cs.getD w.length K0)], MT c p.2 ++ [.list k ex 3 w]⟩
noncomputable def z109W (c : C) (k ex : Bool) (w : List Int) (s : List B) : Ex × PSt gam := (.exit 0, w109W c k ex w ((c.cs.getD w.length K0).hi + 1, s) [(26, xl false)])
theorem l109W {n : Nat} (c : C) (k ex : Bool) (w : List Int) (ks : List K) (hk9 : (c.cs.getD w.length K0).hi ≤ 9999) (hk0 : -9999 ≤ (c.cs.getD w.length K0).lo) (hne : w ≠ []) (hwl : w.length + 1 ≤ most) (hlh : (c.cs.getD w.length K0).lo ≤ (c.cs.getD w.length K0).hi) (hsm : (c.cs.getD w.length K0).hi - (c.cs.getD w.length K0).lo + 1 ≤ 12)
  (ih : ∀ (x : Int) (s : List B), (c.cs.getD w.length K0).lo ≤ x → x ≤ (c.cs.getD w.length K0).hi → s.length = c.os.length → Sim X0 Tryz.prog (ApN (n + 1)) fE [.own 11] (MT c s ++ [.list false false 3 (w ++ [x])]) (.bool true) (MT c (wF (Yw c) ks (w ++ [x]) s) ++ [.gone])) (s0 : List B) (hs0 : s0.length = c.os.length) :
  LpB (n + 1) 109 0 12 (w109W c k ex w ((c.cs.getD w.length K0).lo, s0) []) (z109W c k ex w (wFr (fun x s => wF (Yw c) ks (w ++ [x]) s) (c.cs.getD w.length K0).lo ((c.cs.getD w.length K0).hi - (c.cs.getD w.length K0).lo + 1).toNat s0)).1 (z109W c k ex w (wFr (fun x s => wF (Yw c) ks (w ++ [x]) s) (c.cs.getD w.length K0).lo ((c.cs.getD w.length K0).hi - (c.cs.getD w.length K0).lo + 1).toNat s0)).2 := by
 refine whileE (X := X0) (P := Tryz.prog) (T := T) (st := fun p => w109W c k ex w p []) (g := g109 c ks w (c.cs.getD w.length K0).hi) (out := z109W c k ex w) (fun p => (c.cs.getD w.length K0).lo ≤ p.1 ∧ p.1 ≤ (c.cs.getD w.length K0).hi + 1 ∧ p.2.length = c.os.length) (g109_it c ks w _ _ _ s0 (by omega)) (by kernel_rfl) (by show _ ≤ 2 ^ 24; omega) ⟨Int.le_refl _, by omega, hs0⟩ (fun s s1 hi hs => ?_) (fun s m r hi ih2 => ?_)
 ·unfold g109 at hs
  split at hs
  ·rename_i hx; rw [decide_eq_true_eq] at hx; cases hs; exact ⟨by simp only; omega, by simp only; omega, wF_len c _ _ _ _ hi.2.2⟩
  ·cases hs
 ·cases hd : decide (s.1 ≤ (c.cs.getD w.length K0).hi)
  ·have hx : ¬ s.1 ≤ (c.cs.getD w.length K0).hi := by simpa using hd
   obtain ⟨x, s⟩ := s
   have hx2 : x = (c.cs.getD w.length K0).hi + 1 := by simp only at hx hi; omega
   subst hx2
   rw [show g109 c ks w (c.cs.getD w.length K0).hi ((c.cs.getD w.length K0).hi + 1, s) = .inr s by unfold g109; rw [if_neg (by rw [hd]; simp)]]
   exact round hX ok0 (by kernel_rfl) (.b hd (.ou nofun))
  ·have hx : s.1 ≤ (c.cs.getD w.length K0).hi := by simpa using hd
   have hg : g109 c ks w (c.cs.getD w.length K0).hi s = .inl (s.1 + 1, wF (Yw c) ks (w ++ [s.1]) s.2) := by unfold g109; rw [if_pos hd]
   have h3 := ih2 _ hg
   rw [hg]
   have h4 : IntKind.i64.wrap (s.1 + 1) = s.1 + 1 := wrap_small (by omega) (by omega)
   rw [← h4] at h3
   exact round hX ok0 (by kernel_rfl) (.b hd (.fr [11] (s110 (n := n) k ex w hne (Nat.le_of_succ_le hwl)) (.o (show w.length + [s.1].length ≤ most by simp; omega) (.fr [0, 1, 2, 3, 4, 5, 6, 7, 8, 9, 10, 15] (ih s.1 s.2 hi.1 hx hi.2.2) (.b (rfl : false = false) (.goG [.gc []] h3))))))
noncomputable abbrev w109N (c : C) (p : Int × List B) (x : List (Nat × PE gam)) : PSt gam := ⟨[(0, .val (.nil .slc)), (3, .val (.ptr 10 0 1)), (6, .loc 0 0), (7, xi p.1)] ++ x, [K.ps (c.cs.getD ([] : List Int).length K0)], MT c p.2⟩
noncomputable def z109N (c : C) (s : List B) : Ex × PSt gam := (.exit 0, w109N c ((c.cs.getD ([] : List Int).length K0).hi + 1, s) [(26, xl false)])
theorem l109N {n : Nat} (c : C) (ks : List K) (hk9 : (c.cs.getD ([] : List Int).length K0).hi ≤ 9999) (hk0 : -9999 ≤ (c.cs.getD ([] : List Int).length K0).lo) (hlh : (c.cs.getD ([] : List Int).length K0).lo ≤ (c.cs.getD ([] : List Int).length K0).hi) (hsm : (c.cs.getD ([] : List Int).length K0).hi - (c.cs.getD ([] : List Int).length K0).lo + 1 ≤ 12)
  (ih : ∀ (x : Int) (s : List B), (c.cs.getD ([] : List Int).length K0).lo ≤ x → x ≤ (c.cs.getD ([] : List Int).length K0).hi → s.length = c.os.length → Sim X0 Tryz.prog (ApN (n + 1)) fE [.own 11] (MT c s ++ [.list true false 3 (([] : List Int) ++ [x])]) (.bool true) (MT c (wF (Yw c) ks (([] : List Int) ++ [x]) s) ++ [.gone])) (s0 : List B) (hs0 : s0.length = c.os.length) :
  LpB (n + 1) 109 0 11 (w109N c ((c.cs.getD ([] : List Int).length K0).lo, s0) []) (z109N c (wFr (fun x s => wF (Yw c) ks (([] : List Int) ++ [x]) s) (c.cs.getD ([] : List Int).length K0).lo ((c.cs.getD ([] : List Int).length K0).hi - (c.cs.getD ([] : List Int).length K0).lo + 1).toNat s0)).1 (z109N c (wFr (fun x s => wF (Yw c) ks (([] : List Int) ++ [x]) s) (c.cs.getD ([] : List Int).length K0).lo ((c.cs.getD ([] : List Int).length K0).hi - (c.cs.getD ([] : List Int).length K0).lo + 1).toNat s0)).2 := by
 refine whileE (X := X0) (P := Tryz.prog) (T := T) (st := fun p => w109N c p []) (g := g109 c ks ([] : List Int) (c.cs.getD ([] : List Int).length K0).hi) (out := z109N c ) (fun p => (c.cs.getD ([] : List Int).length K0).lo ≤ p.1 ∧ p.1 ≤ (c.cs.getD ([] : List Int).length K0).hi + 1 ∧ p.2.length = c.os.length) (g109_it c ks ([] : List Int) _ _ _ s0 (by omega)) (by kernel_rfl) (by show _ ≤ 2 ^ 24; omega) ⟨Int.le_refl _, by omega, hs0⟩ (fun s s1 hi hs => ?_) (fun s m r hi ih2 => ?_)
 ·unfold g109 at hs
  split at hs
  ·rename_i hx; rw [decide_eq_true_eq] at hx; cases hs; exact ⟨by simp only; omega, by simp only; omega, wF_len c _ _ _ _ hi.2.2⟩
  ·cases hs
 ·cases hd : decide (s.1 ≤ (c.cs.getD ([] : List Int).length K0).hi)
  ·have hx : ¬ s.1 ≤ (c.cs.getD ([] : List Int).length K0).hi := by simpa using hd
   obtain ⟨x, s⟩ := s
   have hx2 : x = (c.cs.getD ([] : List Int).length K0).hi + 1 := by simp only at hx hi; omega
   subst hx2
   rw [show g109 c ks ([] : List Int) (c.cs.getD ([] : List Int).length K0).hi ((c.cs.getD ([] : List Int).length K0).hi + 1, s) = .inr s by unfold g109; rw [if_neg (by rw [hd]; simp)]]
   exact round hX ok0 (by kernel_rfl) (.b hd (.ou nofun))
  ·have hx : s.1 ≤ (c.cs.getD ([] : List Int).length K0).hi := by simpa using hd
   have hg : g109 c ks ([] : List Int) (c.cs.getD ([] : List Int).length K0).hi s = .inl (s.1 + 1, wF (Yw c) ks (([] : List Int) ++ [s.1]) s.2) := by unfold g109; rw [if_pos hd]
   have h3 := ih2 _ hg
   rw [hg]
   have h4 : IntKind.i64.wrap (s.1 + 1) = s.1 + 1 := wrap_small (by omega) (by omega)
   rw [← h4] at h3
   exact round hX ok0 (by kernel_rfl) (.b hd (.fr [] (s110n (n := n)) (.o (show [s.1].length ≤ most from le1) (.fr [0, 1, 2, 3, 4, 5, 6, 7, 8, 9, 10, 12] (ih s.1 s.2 hi.1 hx hi.2.2) (.b (rfl : false = false) (.goG [.gc []] h3))))))
theorem s109 {N : Nat} (hO : ∀ n, N ≤ n → Ok n oc68) (c : C) (hok : ((S_check c) != 0) = false) (hg : ∀ k ∈ c.cs, -9999 ≤ k.lo ∧ k.lo ≤ k.hi ∧ k.hi ≤ 9999 ∧ k.hi - k.lo + 1 ≤ 12) : ∀ (ks : List K) (pre : List K) (_ : c.cs = pre ++ ks) (w : List Int) (_ : w.length = pre.length) (_ : w ≠ []) (_ : okW c.cs w) (n : Nat) (_ : N + ks.length ≤ n) (s : List B) (_ : s.length = c.os.length) (k ex : Bool),
  Sim X0 Tryz.prog (ApN (n + 2)) fE [.own 11] (MT c s ++ [.list k ex 3 w]) (.bool true) (MT c (wF (Yw c) ks w s) ++ [.gone])
 | [], pre, hcs, w, hw, hne, hWo, n, hn, s, hs, k, ex => by
  have hlen : w.length = c.cs.length := by rw [hcs, hw]; simp
  have hy := yW (n := n) (hO n (by omega)) c k ex w s (All_ok hok hlen hWo) (ok3000 (check_ok hok).2.2.2.1) hs
  exact sim_is (r := tA) (s := true) hX ok0 (first := []) (by kernel_rfl) (.b (show ((w.length : Int) == (c.cs.length : Int)) = true by rw [hlen]; simp) (.fr [0, 1, 2, 3, 4, 5, 6, 7, 8, 11] hy .sr))
 | k0 :: ks, pre, hcs, w, hw, hne, hWo, n, hn, s, hs, k, ex => by
  obtain ⟨n, rfl⟩ : ∃ j, n = j + 1 := ⟨n - 1, by simp at hn; omega⟩
  have hget : c.cs[w.length]? = some k0 := by rw [hcs, hw]; simp
  have hgd : c.cs.getD w.length K0 = k0 := by rw [List.getD_eq_getElem?_getD, hget]; rfl
  have hm := hg k0 (by rw [hcs]; simp)
  have hlt : w.length < c.cs.length := (List.getElem?_eq_some_iff.1 hget).1
  have h6 := (check_ok hok).2.2.1
  have hl := l109W (n := n + 1) c k ex w ks (by rw [hgd]; omega) (by rw [hgd]; omega) hne (by unfold most; omega) (by rw [hgd]; omega) (by rw [hgd]; omega)
   (fun x s h1 h2 hs => s109 hO c hok hg ks (pre ++ [k0]) (by rw [hcs]; simp) (w ++ [x]) (by simp [hw]) (by simp) (okW_app hWo hget (by rw [hgd] at h1; exact h1) (by rw [hgd] at h2; exact h2)) n (by simp at hn; omega) s hs false false) s hs
  have e : wF (Yw c) (k0 :: ks) w s = wFr (fun x s => wF (Yw c) ks (w ++ [x]) s) (c.cs.getD w.length K0).lo ((c.cs.getD w.length K0).hi - (c.cs.getD w.length K0).lo + 1).toNat s := by rw [hgd]; rfl
  rw [e]
  have hne2 : ((w.length : Int) == (c.cs.length : Int)) = false := by simp; omega
  exact (sim_is (r := tA) (s := true) (H1 := MT c (wFr (fun x s => wF (Yw c) ks (w ++ [x]) s) (c.cs.getD w.length K0).lo ((c.cs.getD w.length K0).hi - (c.cs.getD w.length K0).lo + 1).toNat s) ++ [.list k ex 3 w]) hX ok0 (first := []) (by kernel_rfl) (.b hne2 (.o (inR_nat hlt) (.w hl .sr)))).forget 11
theorem s109n {N : Nat} (hO : ∀ n, N ≤ n → Ok n oc68) (c : C) (hok : ((S_check c) != 0) = false) (hg : ∀ k ∈ c.cs, -9999 ≤ k.lo ∧ k.lo ≤ k.hi ∧ k.hi ≤ 9999 ∧ k.hi - k.lo + 1 ≤ 12) (n : Nat) (hn : N + c.cs.length ≤ n) (s : List B) (hs : s.length = c.os.length) : Sim X0 Tryz.prog (ApN (n + 2)) fE [.nil .slc] (MT c s) (.bool true) (MT c (wF (Yw c) c.cs [] s)) := by
 match hcs : c.cs with
 | [] =>
  have hlen : ([] : List Int).length = c.cs.length := by rw [hcs]; rfl
  have hy := yN (n := n) (hO n (by omega)) c s (All_ok hok hlen (fun i x k h => by simp at h)) (ok3000 (check_ok hok).2.2.2.1) hs
  exact sim_is (r := tA) (s := true) hX ok0 (first := []) (by kernel_rfl) (.b (show ((0 : Int) == (c.cs.length : Int)) = true by rw [← hlen]; rfl) (.fr [0, 1, 2, 3, 4, 5, 6, 7, 8] hy .sr))
 | k0 :: ks =>
  obtain ⟨n, rfl⟩ : ∃ j, n = j + 1 := ⟨n - 1, by rw [hcs] at hn; simp at hn; omega⟩
  have hget : c.cs[([] : List Int).length]? = some k0 := by rw [hcs]; rfl
  have hgd : c.cs.getD ([] : List Int).length K0 = k0 := by rw [List.getD_eq_getElem?_getD, hget]; rfl
  have hm := hg k0 (by rw [hcs]; simp)
  have hlt : ([] : List Int).length < c.cs.length := (List.getElem?_eq_some_iff.1 hget).1
  have hl := l109N (n := n + 1) c ks (by rw [hgd]; omega) (by rw [hgd]; omega) (by rw [hgd]; omega) (by rw [hgd]; omega)
   (fun x s h1 h2 hs => s109 hO c hok hg ks [k0] (by rw [hcs]; rfl) [x] rfl (by simp) (okW_app (w := []) (fun i x k h => by simp at h) hget (by rw [hgd] at h1; exact h1) (by rw [hgd] at h2; exact h2)) n (by rw [hcs] at hn; simp at hn; omega) s hs true false) s hs
  have e : wF (Yw c) (k0 :: ks) [] s = wFr (fun x s => wF (Yw c) ks ([] ++ [x]) s) (c.cs.getD ([] : List Int).length K0).lo ((c.cs.getD ([] : List Int).length K0).hi - (c.cs.getD ([] : List Int).length K0).lo + 1).toNat s := by rw [hgd]; rfl
  rw [e]
  have hne2 : ((0 : Int) == (c.cs.length : Int)) = false := by simp at hlt ⊢; omega
  exact sim_is (r := tA) (s := true) hX ok0 (first := []) (by kernel_rfl) (.b hne2 (.o (show inR 0 c.cs.length from inR_nat hlt) (.w hl .sr)))
theorem s108 {N : Nat} (hO : ∀ n, N ≤ n → Ok n oc68) (c : C) (hok : ((S_check c) != 0) = false) (hg : ∀ k ∈ c.cs, -9999 ≤ k.lo ∧ k.lo ≤ k.hi ∧ k.hi ≤ 9999 ∧ k.hi - k.lo + 1 ≤ 12) (n : Nat) (hn : N + c.cs.length ≤ n) (s : List B) (hs : s.length = c.os.length) : Sim X0 Tryz.prog (ApN (n + 3)) (.fn 108 [] [.ptr 6 0 1]) [.yld 8] (MB0 c true s) (.tup []) (MT c (wF (Yw c) c.cs [] s)) :=
 sim_ex hX ok0 (first := []) (by kernel_rfl) (.k (s109n hO c hok hg n hn s hs) .er)
end Go.Proofs.YtfhiejgoemcelaaGreat
namespace Go.Proofs.YtfhiejgoemcelaaGreat
open Go Tw Pv
abbrev w29 (c : C) (m : Int) (i : Int) (x : List (Nat × PE gam)) : PSt gam := ⟨[(1, .val (.ptr 0 0 3)), (2, .val (.ptr 1 0 1)), (3, .val (.ptr 2 0 1)), (5, xi m), (21, xL 62 c.cs), (22, xi c.cs.length), (23, xi i)] ++ x, [], [.cells (xC c), .cells [.nil .slc], .cells [.int .i64 0]]⟩
theorem l29 {n : Nat} (hO : Ok n oc68) (c : C) (hl : c.cs.length ≤ most) : Lp n 29 0 (w29 c 1 0 []) (.exit 0) (w29 c (S_many c.cs) c.cs.length [(24, xl false)]) :=
 eachF (σ := Int) K0 (l := c.cs) (s0 := (1 : Int)) (st := fun i m => w29 c m i []) (g := manyStep) (fin := fun m => w29 c m c.cs.length [(24, xl false)]) (by kernel_rfl) hl LLm
  (fun k s hk _ n e p h => round hX hO (by kernel_rfl) (.b (lt_nat hk) (.o (inR_nat hk) (.goG [.gc [0, 1, 2]] h))))
  (fun s _ => round hX hO (by kernel_rfl) (.b (lt_no c.cs.length) .ex))
noncomputable abbrev H7 (c : C) (s : List B) : List (PB gam) := [.cells (xC c), .cells [.nil .slc], .cells [.int .i64 0], .gone, .list true true 38 s, .cells [.own 4], .cells [.lst 62 c.cs false]]
theorem r29 {N : Nat} (hO : ∀ n, N ≤ n → Ok n oc68) (c : C) (hok : ((S_check c) != 0) = false) (n : Nat) (hn : N + c.cs.length ≤ n) (s : List B) (hs : s.length = c.os.length) :
  ExecS X0 Tryz.prog T (ApN (n + 3)) LL 29 false (ntP Tryz.prog 29) 0 (.rangeFunc (.tmp 47) #[48] (rfAssign Tryz.prog 29) (rfBody Tryz.prog 29)) ⟨envT, [], H7 c s⟩ .norm ⟨envT, [], (MT c (wF (Yw c) c.cs [] s)).set 8 (.loop false 29 (ntP Tryz.prog 29) envT [48] (rfAssign Tryz.prog 29) (rfBody Tryz.prog 29) (some .skip))⟩ :=
 rf_exec hX (ps := ⟨envT, [], H7 c s⟩) rfl rfl (s108 hO c hok (Check_cs (check_ok hok).1) n hn s hs) rfl rfl
noncomputable def oc29 : Orc gam := orcF 29 (a1 cA) (tupA (a2 bsA iA)) (fun p => S_Tight p) np oc68
theorem gc29 : Gd oc29 := gc68.deep 9 fun n hn hO p hp => by
 obtain ⟨n, rfl⟩ : ∃ k, n = k + 9 := ⟨n - 9, by omega⟩
 have h9 := hO (n + 9) (by omega)
 refine fn_is hX h9 (by kernel_rfl) (.sh (fun _ => .rn (.tup [.nil .slc, .int .i64 (S_check p)]) rfl) fun h0 => .w (l29 h9 p (ok3000 (Nat.le_trans (check_ok h0).2.2.1 (by decide)))) (.sh (fun _ => .rn (.tup [.nil .slc, .int .i64 5]) rfl) fun h1 =>
  .o (rfl : [(⟨1, 0, 0⟩ : B)].length = 1) (.o (Int.natCast_nonneg p.os.length) (.o (show (p.os.length : Int) ≤ 5000 by have := (check_ok h0).2.2.2.1; omega) (.w (r29 (N := n) (fun m hm => hO m (by omega)) p h0 (n + 6) (by have := (check_ok h0).2.2.1; omega) (none0 p.os.length) (by simp [none0])) .rr)))))
end Go.Proofs.YtfhiejgoemcelaaGreat
namespace Tw
open Go
def trip (ops : Array Oper) (o : Oper) : Option Nat × List Nat × List Nat :=
 (o.dst, Oper.looksAt ops o, (o.after.toList.filter (Region.binds .any)).map (·.on))
def farD (d : Option Nat) (l : List Nat) : Bool := match d with | some d => !l.contains d | none => true
def farT (a b : Option Nat × List Nat × List Nat) : Bool :=
 farD a.1 b.2.1 && farD b.1 a.2.1 && (match a.1 with | some d => b.1 != some d | none => true)
def pairT (j : Nat) (b : Option Nat × List Nat × List Nat) : Nat → List (Option Nat × List Nat × List Nat) → Bool
 | _, [] => true
 | i, a :: l => if Nat.blt i j then (b.2.2.contains i || farT a b) && pairT j b (i + 1) l else true
def quickT (all : List (Option Nat × List Nat × List Nat)) : Nat → List (Option Nat × List Nat × List Nat) → Bool
 | _, [] => true
 | j, b :: l => b.2.2.all (fun k => Nat.blt k j) && (pairT j b 0 all && quickT all (j + 1) l)
theorem pairT_at {j : Nat} {b : Option Nat × List Nat × List Nat} : ∀ {l : List (Option Nat × List Nat × List Nat)} {i : Nat}, pairT j b i l = true → ∀ k a, l[k]? = some a → i + k < j →
  b.2.2.contains (i + k) = true ∨ farT a b = true
 | [], i, _, k, a, hk, _ => by simp at hk
 | c :: l, i, h, k, a, hk, hj => by
  simp only [pairT] at h
  rw [if_pos (by simp only [Nat.blt_eq]; omega)] at h
  simp only [Bool.and_eq_true, Bool.or_eq_true] at h
  cases k with
  | zero => simp only [List.getElem?_cons_zero, Option.some.injEq] at hk; subst hk; exact h.1
  | succ k =>
   simp only [List.getElem?_cons_succ] at hk
   have := pairT_at h.2 k a hk (by omega)
   rwa [show i + 1 + k = i + (k + 1) by omega] at this
theorem quickT_at {all : List (Option Nat × List Nat × List Nat)} : ∀ {l : List (Option Nat × List Nat × List Nat)} {j : Nat}, quickT all j l = true → ∀ k b, l[k]? = some b →
  (∀ x ∈ b.2.2, x < j + k) ∧ pairT (j + k) b 0 all = true
 | [], _, _, k, b, hk => by simp at hk
 | c :: l, j, h, k, b, hk => by
  simp only [quickT, Bool.and_eq_true, List.all_eq_true, Nat.blt_eq] at h
  cases k with
  | zero => simp only [List.getElem?_cons_zero, Option.some.injEq] at hk; subst hk; exact ⟨fun x hx => h.1 x hx, h.2.1⟩
  | succ k =>
   simp only [List.getElem?_cons_succ] at hk
   have := quickT_at h.2.2 k b hk
   rwa [show j + 1 + k = j + (k + 1) by omega] at this
theorem addNew_mem : ∀ {l acc : List Nat} {x : Nat}, (x ∈ l ∨ x ∈ acc) → x ∈ addNew l acc
 | [], acc, x, h => by simpa [addNew] using h
 | y :: l, acc, x, h => by
  simp only [addNew]
  apply addNew_mem
  rcases h with h | h
  ·rcases List.mem_cons.mp h with rfl | h
   ·right; split
    ·rename_i hc; simpa using hc
    ·exact List.mem_cons_self ..
   ·exact .inl h
  ·right; split
   ·exact h
   ·exact List.mem_cons_of_mem _ h
theorem foldl_pred {acc : List (List Nat)} : ∀ {es : List Edge} {l : List Nat} {x : Nat}, (x ∈ l ∨ ∃ e ∈ es, Region.binds .any e = true ∧ e.on = x) →
  x ∈ es.foldl (fun l e => if Region.binds .any e then addNew (e.on :: acc.getD e.on []) l else l) l
 | [], l, x, h => by
  rcases h with h | ⟨e, he, _⟩
  ·exact h
  ·cases he
 | e :: es, l, x, h => by
  simp only [List.foldl_cons]
  apply foldl_pred
  rcases h with h | ⟨e', he, hb, rfl⟩
  ·left; split
   ·exact addNew_mem (.inr h)
   ·exact h
  ·rcases List.mem_cons.mp he with rfl | he
   ·left; rw [if_pos hb]; exact addNew_mem (.inl (List.mem_cons_self ..))
   ·exact .inr ⟨e', he, hb, rfl⟩
theorem far_apart {ops : Array Oper} {a b : Oper} (h : farT (trip ops a) (trip ops b) = true) : a.apart ops b = true ∧ b.apart ops a = true := by
 simp only [farT, trip, Bool.and_eq_true] at h
 obtain ⟨⟨h1, h2⟩, h3⟩ := h
 simp only [farD] at h1 h2
 refine ⟨?_, ?_⟩
 ·simp only [Oper.apart]
  cases ha : a.dst with
  | none => cases hb : b.dst with
   | none => rfl
   | some e => simp only [hb] at h2; simpa using h2
  | some d => cases hb : b.dst with
   | none => simp only [ha] at h1; simpa using h1
   | some e => simp only [ha, hb] at h1 h2 h3; simp_all
 ·simp only [Oper.apart]
  cases ha : a.dst with
  | none => cases hb : b.dst with
   | none => rfl
   | some e => simp only [hb] at h2; simpa using h2
  | some d => cases hb : b.dst with
   | none => simp only [ha] at h1; simpa using h1
   | some e =>
    simp only [ha, hb] at h1 h2 h3
    simp_all only [Bool.not_eq_true', bne_iff_ne, ne_eq, Option.some.injEq, Bool.and_eq_true, Bool.not_eq_eq_eq_not, Bool.not_true, and_true, true_and]
    exact fun x => h3 x.symm
theorem static_of {ops : List Oper} (L : List (Option Nat × List Nat × List Nat)) (h1 : ops.map (trip ops.toArray) = L) (h2 : quickT L 0 L = true) : staticOk ops = true := by
 subst h1
 have hat : ∀ k b, ops[k]? = some b → (∀ x ∈ (trip ops.toArray b).2.2, x < k) ∧ pairT k (trip ops.toArray b) 0 (ops.map (trip ops.toArray)) = true := by
  intro k b hk
  have := quickT_at h2 k (trip ops.toArray b) (by rw [List.getElem?_map, hk]; rfl)
  simpa using this
 simp only [staticOk, Bool.and_eq_true, List.all_eq_true]
 refine ⟨?_, ?_⟩
 ·rintro ⟨o, i⟩ hm
  rw [Array.all_eq_true_iff_forall_mem]
  intro e he
  have hk := List.mem_zipIdx_iff_getElem?.mp hm
  simp only at hk
  cases hb : Region.binds .any e with
  | false => rfl
  | true =>
   have := (hat i o hk).1 e.on (by
    simp only [trip, List.mem_map, List.mem_filter]
    exact ⟨e, ⟨Array.mem_toList_iff.mpr he, hb⟩, rfl⟩)
   simp [this]
 ·rintro ⟨i, j⟩ hm
  simp only [openPairs, List.mem_flatMap, List.mem_map, List.mem_filter, List.mem_range, Prod.mk.injEq] at hm
  obtain ⟨j, hj, i, ⟨hi, hn⟩, rfl, rfl⟩ := hm
  have hb : ops[j]? = some (ops[j]'hj) := List.getElem?_eq_getElem hj
  have hil : i < ops.length := by omega
  have ha : ops[i]? = some (ops[i]'hil) := List.getElem?_eq_getElem hil
  simp only [ha, hb, Bool.and_eq_true]
  apply far_apart
  have := pairT_at (hat j _ hb).2 i (trip ops.toArray (ops[i]'hil)) (by rw [List.getElem?_map, ha]; rfl) (by omega)
  rcases this with h | h
  ·exfalso
   simp only [Nat.zero_add, trip, List.contains_iff_mem, List.mem_map, List.mem_filter] at h
   obtain ⟨e, ⟨he, hbn⟩, hon⟩ := h
   have hg := preds_get ops [] j _ hb
   simp only [List.length_nil, Nat.zero_add] at hg
   have : i ∈ (preds ops []).getD j [] := by
    rw [List.getD_eq_getElem?_getD, hg]
    simp only [Option.getD_some]
    exact foldl_pred (.inr ⟨e, he, hbn, hon⟩)
   rw [List.contains_iff_mem.mpr this] at hn; cases hn
  ·exact h
end Tw
namespace Go.Proofs.YtfhiejgoemcelaaGreat
open Go Tw
theorem st_18_7 : staticOk (regOps Tryz.prog 18 7) = true :=
 static_of [(some 45, [2], []), (some 46, [45], [0]), (some 47, [46], [1]), (some 48, [1, 47], [2]), (some 49, [47], [2, 2]), (some 50, [48, 49, 47], [3, 4, 4, 2]), (some 51, [47, 50], [2, 5]), (some 52, [51], [6, 5]), (some 53, [4, 52], [7]), (some 54, [53, 52], [8, 7]), (some 55, [52, 54], [7, 9]), (some 56, [55], [10, 7]), (some 57, [56], [11, 11]), (some 58, [56], [12, 11]), (some 59, [57, 58, 56], [12, 13, 13, 11]), (some 60, [56, 59], [11, 14]), (some 61, [60], [15, 14]), (some 62, [6, 61], [16]), (some 63, [62, 61], [17, 16]), (some 64, [61, 63], [16, 18]), (some 65, [64], [19, 16]), (some 66, [5, 65], [20]), (some 67, [66, 65], [21, 20]), (some 68, [67, 65], [22, 20]), (some 69, [65, 68], [20, 23]), (some 70, [69], [24, 20]), (some 71, [5, 70], [25]), (some 72, [71, 70], [26, 25]), (some 73, [72, 70], [27, 25]), (some 74, [70], [25, 25]), (some 75, [73, 74, 70], [28, 29, 25]), (some 76, [70, 75], [25, 30]), (some 77, [76], [31, 29]), (some 78, [5, 77], [32]), (some 79, [78, 77], [33, 32]), (some 80, [79, 77], [34, 32]), (some 81, [77], [32, 32]), (some 82, [80, 81, 77], [35, 36, 32]), (some 83, [77, 82], [32, 37]), (some 84, [83], [38, 36]), (some 85, [5, 84], [39]), (some 86, [85, 84], [40, 39]), (some 87, [86, 84], [41, 39]), (some 88, [84], [39, 39]), (some 89, [87, 88, 84], [42, 43, 39]), (some 90, [84, 89], [39, 44]), (some 91, [90], [45, 43]), (some 92, [8, 91], [46]), (some 93, [92, 91], [47, 46]), (some 94, [91, 93], [46, 48]), (some 95, [94], [49, 46]), (some 96, [7, 95], [50]), (some 97, [96, 95], [51, 50]), (some 98, [95, 97], [50, 52]), (some 99, [98], [53, 50]), (some 100, [10, 99], [54]), (some 101, [100, 99], [55, 54]), (some 102, [99, 101], [54, 56]), (some 103, [102], [57, 54]), (some 104, [9, 103], [58]), (some 105, [104, 103], [59, 58]), (some 106, [105, 103], [60, 58]), (some 107, [103, 106], [58, 61]), (some 108, [107], [62, 58]), (some 109, [9, 108], [63]), (some 110, [109, 108], [64, 63]), (some 111, [110, 108], [65, 63]), (some 112, [108], [63, 63]), (some 113, [111, 112, 108], [66, 67, 63]), (some 114, [108, 113], [63, 68]), (some 115, [114], [69, 67]), (some 116, [9, 115], [70]), (some 117, [116, 115], [71, 70]), (some 118, [117, 115], [72, 70]), (some 119, [115], [70, 70]), (some 120, [118, 119, 115], [73, 74, 70]), (some 121, [115, 120], [70, 75]), (some 122, [121], [76, 74]), (some 123, [9, 122], [77]), (some 124, [123, 122], [78, 77]), (some 125, [124, 122], [79, 77]), (some 126, [122], [77, 77]), (some 127, [125, 126, 122], [80, 81, 77]), (some 128, [122, 127], [77, 82]), (some 129, [128], [83, 81]), (some 130, [12, 129], [84]), (some 131, [130, 129], [85, 84]), (some 132, [129, 131], [84, 86]), (some 133, [132], [87, 84]), (some 134, [11, 133], [88]), (some 135, [134, 133], [89, 88]), (some 136, [135, 133], [90, 88]), (some 137, [133, 136], [88, 91]), (some 138, [137], [92, 88]), (some 139, [11, 138], [93]), (some 140, [139, 138], [94, 93]), (some 141, [140, 138], [95, 93]), (some 142, [141, 138], [96, 93]), (some 143, [138, 142], [93, 97]), (some 144, [143], [98, 93]), (some 145, [11, 144], [99]), (some 146, [145, 144], [100, 99]), (some 147, [146, 144], [101, 99]), (some 148, [147, 144], [102, 99]), (some 149, [144, 148], [99, 103]), (some 0, [149], [104, 99, 0, 1, 2, 3, 4, 5, 6, 7, 8, 9, 10, 11, 12, 13, 14, 15, 16, 17, 18, 19, 20, 21, 22, 23, 24, 25, 26, 27, 28, 29, 30, 31, 32, 33, 34, 35, 36, 37, 38, 39, 40, 41, 42, 43, 44, 45, 46, 47, 48, 49, 50, 51, 52, 53, 54, 55, 56, 57, 58, 59, 60, 61, 62, 63, 64, 65, 66, 67, 68, 69, 70, 71, 72, 73, 74, 75, 76, 77, 78, 79, 80, 81, 82, 83, 84, 85, 86, 87, 88, 89, 90, 91, 92, 93, 94, 95, 96, 97, 98, 99, 100, 101, 102, 103, 104])] (by kernel_rfl) (by kernel_rfl)
end Go.Proofs.YtfhiejgoemcelaaGreat
namespace Go.Proofs.YtfhiejgoemcelaaGreat
open Go Tw
def exC : C := ⟨[⟨(⟨#[120]⟩ : ByteArray), (-2), 3⟩, ⟨(⟨#[121]⟩ : ByteArray), 0, 2⟩], [⟨3, 0, 0, 0, 0⟩, ⟨3, 0, 0, 0, 1⟩, ⟨7, 0, 1, 0, 0⟩, ⟨9, 0, 1, 0, 0⟩, ⟨10, 0, 1, 0, 0⟩, ⟨11, 0, 1, 0, 0⟩, ⟨13, 0, 1, 0, 0⟩, ⟨17, 6, 2, 3, 0⟩, ⟨1, 0, 0, 0, 9000⟩, ⟨9, 8, 2, 0, 0⟩, ⟨15, 6, 4, 0, 0⟩], [7, 9, 10]⟩
def knL : List B := [⟨(-2), 3, 0⟩, ⟨0, 2, 0⟩, ⟨(-2), 5, 0⟩, ⟨(-4), 6, 0⟩, ⟨(-2), 3, 1⟩, ⟨0, 1, 1⟩, ⟨0, 1, 0⟩, ⟨(-4), 6, 0⟩, ⟨9000, 9000, 0⟩, ⟨(-9999), 9999, 2⟩, ⟨(-2), 3, 1⟩]
def tiL : List B := [⟨-2, 3, 0⟩, ⟨0, 2, 0⟩, ⟨-2, 5, 0⟩, ⟨-4, 6, 0⟩, ⟨-2, 3, 1⟩, ⟨0, 1, 1⟩, ⟨0, 1, 0⟩, ⟨-2, 6, 0⟩, ⟨9000, 9000, 0⟩, ⟨-9000, 9000, 2⟩, ⟨-2, 0, 1⟩]
def clL : List B := [⟨-2, 3, 0⟩, ⟨0, 2, 0⟩, ⟨-2, 5, 0⟩, ⟨-4, 6, 0⟩, ⟨-2, 3, 1⟩, ⟨0, 1, 1⟩, ⟨1, 1, 0⟩, ⟨-2, 5, 0⟩, ⟨9000, 9000, 0⟩, ⟨-9999, 9999, 2⟩, ⟨-2, 3, 1⟩]
def wiL : List Int := [3, 3, 4, 4, 3, 2, 2, 4, 15, 15, 3]
end Go.Proofs.YtfhiejgoemcelaaGreat
namespace Go.Proofs.YtfhiejgoemcelaaGreat
open Go Tw
theorem of_ex : S_Of exC = (knL, 0) := by kernel_rfl
theorem weak_ex : S_Weak exC knL = (0, 7) := by kernel_rfl
theorem prove_ex : S_Prove exC knL = true := by kernel_rfl
theorem tight_ex : S_Tight exC = (tiL, 0) := by kernel_rfl
theorem never_ex : M_Never exC 9 = (13, 0) := by kernel_rfl
theorem clip_ex : S_Clip exC 6 ⟨1, 1, 0⟩ = (clL, 0) := by kernel_rfl
theorem widths_ex : S_Widths exC = (wiL, 0) := by kernel_rfl
theorem width_some_ex : ∀ r ∈ (S_Of exC).1, (widthF 64 r 0 1).isSome = true := by rw [of_ex]; decide
theorem same_ex : S_same knL knL = true := by kernel_rfl
end Go.Proofs.YtfhiejgoemcelaaGreat
namespace Go.Proofs.YtfhiejgoemcelaaGreat
open Go Tw Pv
theorem le11 : 11 ≤ most := by decide
noncomputable def oc38 : Orc gam := orcF 38 (a3 iA iA uA) bA (fun p => S_to p.1 p.2.1 p.2.2) np oc29
theorem gc38 : Gd oc38 := gc29.add fun n hO p hp => fn_is hX hO (by kernel_rfl) .rr
noncomputable def oc37 : Orc gam := orcF 37 nilA bsA (fun p => knL) np oc38
theorem gc37 : Gd oc37 := gc38.add fun n hO p hp => fn_is hX hO (by kernel_rfl) .rr
noncomputable def oc79 : Orc gam := orcF 79 (a3 uA iA iA) oA (fun p => S_example1 p.1 p.2.1 p.2.2) np oc37
theorem gc79 : Gd oc79 := gc37.add fun n hO p hp => fn_is hX hO (by kernel_rfl) .rr
noncomputable def oc39 : Orc gam := orcF 39 nilA cA (fun p => exC) np oc79
theorem gc39 : Gd oc39 := gc79.add fun n hO p hp => fn_is hX hO (by kernel_rfl) .rr
noncomputable def oc20 : Orc gam := orcF 20 (a1 cA) cA (fun p => p) (fun p => [p.cs.length ≤ most, p.os.length ≤ most, p.rs.length ≤ most]) oc39
theorem gc20 : Gd oc20 := gc39.add fun n hO p hp => fn_is hX hO (by kernel_rfl) (.o (show ([] : List K).length + p.cs.length ≤ most by simpa using hp _ (.head _)) (.o (show ([] : List O).length + p.os.length ≤ most by simpa using hp _ (.tail _ (.head _))) (.o (show ([] : List Int).length + p.rs.length ≤ most by simpa using hp _ (.tail _ (.tail _ (.head _)))) .rr)))
noncomputable def oc25 : Orc gam := orcF 25 (a1 bsA) bsA (fun p => p) (fun p => [p.length ≤ most]) oc20
theorem gc25 : Gd oc25 := gc20.add fun n hO p hp => fn_is hX hO (by kernel_rfl) (.o (show ([] : List B).length + p.length ≤ most by simpa using hp _ (.head _)) .rr)
end Go.Proofs.YtfhiejgoemcelaaGreat
namespace Go.Proofs.YtfhiejgoemcelaaGreat
open Go Tw Pv
abbrev w22 (la lb : List B) (i : Int) (x : List (Nat × PE gam)) : PSt gam := ⟨[(0, xL 38 la), (1, xL 38 lb), (5, xi i)] ++ x, [], []⟩
def z22 (la lb : List B) : Unit ⊕ (Nat × B × Unit) → Ex × PSt gam
 | .inl _ => (.exit 0, w22 la lb la.length [(14, xl false)])
 | .inr _ => (.ret, ⟨[(4, xl false)], [], []⟩)
theorem l22 {n : Nat} (hO : Ok n oc25) (la lb : List B) (hl : la.length ≤ most) (hb : la.length = lb.length) : Lp n 22 0 (w22 la lb 0 []) (z22 la lb (runL (F_same lb) la 0 ())).1 (z22 la lb (runL (F_same lb) la 0 ())).2 :=
 eachE (st := fun i _ => w22 la lb i []) B0 (fun _ _ => True) (by kernel_rfl) hl LLm trivial (fun k s n hk _ ih => round hX hO (by kernel_rfl) (.b (lt_nat hk) (.o (inR_nat hk) (.o (show inR k lb.length by rw [← hb]; exact inR_nat hk) (.q (.bool (!decide (la.getD k B0 = lb.getD k B0))) (ne_B38 (.tmp 20) (.tmp 24) (la.getD k B0) (lb.getD k B0)) (.ls (.ou nofun) (.nx (ih _ trivial)))))))) (fun s _ => round hX hO (by kernel_rfl) (.b (lt_no la.length) (.ou nofun)))
noncomputable def oc22 : Orc gam := orcF 22 (a2 bsA bsA) tA (fun p => S_same p.1 p.2) (fun p => [p.1.length ≤ most]) oc25
theorem gc22 : Gd oc22 := gc25.add fun n hO p hp => fn_is hX hO (by kernel_rfl) (.sh (fun _ => .rr) fun h0 => .zh (fun h => .w (exInl (l22 hO p.1 p.2 (hp _ (.head _)) (by have := h0; simp at this; omega)) () h) .rr) (fun h => .w (exInr (l22 hO p.1 p.2 (hp _ (.head _)) (by have := h0; simp at this; omega)) (0, B0, ()) h) .rr))
theorem eqT38 (x y : Operand) (a : B) : binT Tryz.prog .eql 38 x y (B.tv a) (B.tv a) = some (.bool true) := by rw [eq_B38]; simp
theorem inR_dec {i : Int} {n : Nat} (h : (decide (0 ≤ i) && decide (i < (n : Int))) = true) : inR i n := by simp at h; exact h
noncomputable def exO : Orc gam := orcF 19 (a1 cA) (tupA (a2 bsA iA)) (fun _ => (knL, 0)) (fun p => [S_Of p = (knL, 0)])
 (orcF 24 (a2 cA bsA) (tupA (a2 iA iA)) (fun _ => (0, 7)) (fun p => [S_Weak p.1 p.2 = (0, 7), p.2.length ≤ most])
 (orcF 29 (a1 cA) (tupA (a2 bsA iA)) (fun _ => (tiL, 0)) (fun p => [S_Tight p = (tiL, 0)])
 (orcF 31 (a2 cA iA) (tupA (a2 uA iA)) (fun _ => (13, 0)) (fun p => [M_Never p.1 p.2 = (13, 0)])
 (orcF 32 (a3 cA iA bA) (tupA (a2 bsA iA)) (fun _ => (clL, 0)) (fun p => [S_Clip p.1 p.2.1 p.2.2 = (clL, 0)])
 (orcF 35 (a1 cA) (tupA (a2 isA iA)) (fun _ => (wiL, 0)) (fun p => [S_Widths p = (wiL, 0), (S_Of p).1.length ≤ most, ∀ r ∈ (S_Of p).1, (widthF 64 r 0 1).isSome = true])
 (orcF 26 (a2 cA bsA) tA (fun _ => true) (fun p => [S_Prove p.1 p.2 = true, p.2.length ≤ most])
 (orcF 22 (a2 bsA bsA) tA (fun _ => true) (fun p => [S_same p.1 p.2 = true, p.1.length ≤ most]) oc22)))))))
theorem Ok.ex {n : Nat} (hO : Ok n oc22) : Ok n exO :=
 OrcOk.as (OrcOk.as (OrcOk.as (OrcOk.as (OrcOk.as (OrcOk.as (OrcOk.as (OrcOk.as hO
  (fun x hx => by have h := hO 22 ((a2 bsA bsA).put x) (tA.put (S_same x.1 x.2)) [] [x.1.length ≤ most] rfl (fun p hp => hx p (.tail _ hp)); rw [hx _ (.head _)] at h; exact h))
  (fun x hx => by have h := hO 26 ((a2 cA bsA).put x) (tA.put (S_Prove x.1 x.2)) [] [x.2.length ≤ most] rfl (fun p hp => hx p (.tail _ hp)); rw [hx _ (.head _)] at h; exact h))
  (fun x hx => by have h := hO 35 ((a1 cA).put x) ((tupA (a2 isA iA)).put (S_Widths x)) [] [(S_Of x).1.length ≤ most, ∀ r ∈ (S_Of x).1, (widthF 64 r 0 1).isSome = true] rfl (fun p hp => hx p (.tail _ hp)); rw [hx _ (.head _)] at h; exact h))
  (fun x hx => by have h := hO 32 ((a3 cA iA bA).put x) ((tupA (a2 bsA iA)).put (S_Clip x.1 x.2.1 x.2.2)) [] [] rfl (by simp); rw [hx _ (.head _)] at h; exact h))
  (fun x hx => by have h := hO 31 ((a2 cA iA).put x) ((tupA (a2 uA iA)).put (M_Never x.1 x.2)) [] [] rfl (by simp); rw [hx _ (.head _)] at h; exact h))
  (fun x hx => by have h := hO 29 ((a1 cA).put x) ((tupA (a2 bsA iA)).put (S_Tight x)) [] [] rfl (by simp); rw [hx _ (.head _)] at h; exact h))
  (fun x hx => by have h := hO 24 ((a2 cA bsA).put x) ((tupA (a2 iA iA)).put (S_Weak x.1 x.2)) [] [x.2.length ≤ most] rfl (fun p hp => hx p (.tail _ hp)); rw [hx _ (.head _)] at h; exact h))
  (fun x hx => by have h := hO 19 ((a1 cA).put x) ((tupA (a2 bsA iA)).put (S_Of x)) [] [] rfl (by simp); rw [hx _ (.head _)] at h; exact h)
theorem kn_most : knL.length ≤ most := le11
theorem of_most : (S_Of exC).1.length ≤ most := by rw [of_ex]; exact le11
noncomputable def oc18 : Orc gam := orcF 18 nilA tA (fun _ => true) np oc22
theorem gc18 : Gd oc18 := gc22.add fun n hO p hp => fn_is hX (Ok.ex hO) (by kernel_rfl) (.o of_ex (.o weak_ex (.o kn_most (.o tight_ex (.o never_ex (.o clip_ex (.o widths_ex (.o of_most (.o width_some_ex (.b (rfl : true = true) (.o same_ex (.o kn_most (.b (rfl : true = true) (.b (rfl : true = true) (.o prove_ex (.o kn_most (.b (rfl : true = true) (.b (rfl : true = true) (.b (rfl : true = true) (.o (inR_dec rfl : inR 7 tiL.length) (.q (.bool true) (eqT38 (.tmp 73) (.tmp 74) (tiL.getD 7 B0)) (.b (rfl : true = true) (.o (inR_dec rfl : inR 9 tiL.length) (.q (.bool true) (eqT38 (.tmp 80) (.tmp 81) (tiL.getD 9 B0)) (.b (rfl : true = true) (.o (inR_dec rfl : inR 10 tiL.length) (.q (.bool true) (eqT38 (.tmp 87) (.tmp 88) (tiL.getD 10 B0)) (.b (rfl : true = true) (.b (rfl : true = true) (.b (rfl : true = true) (.b (rfl : true = true) (.b (rfl : true = true) (.o (inR_dec rfl : inR 6 clL.length) (.q (.bool true) (eqT38 (.tmp 111) (.tmp 112) (clL.getD 6 B0)) (.b (rfl : true = true) (.o (inR_dec rfl : inR 7 clL.length) (.q (.bool true) (eqT38 (.tmp 118) (.tmp 119) (clL.getD 7 B0)) (.b (rfl : true = true) (.o (inR_dec rfl : inR 10 clL.length) (.q (.bool true) (eqT38 (.tmp 125) (.tmp 126) (clL.getD 10 B0)) (.b (rfl : true = true) (.b (rfl : true = true) (.b (rfl : true = true) (.o (inR_dec rfl : inR 2 wiL.length) (.b (rfl : true = true) (.o (inR_dec rfl : inR 9 wiL.length) (.a .calm (.o st_18_7 .rr))))))))))))))))))))))))))))))))))))))))))))))))
end Go.Proofs.YtfhiejgoemcelaaGreat
namespace Go.Proofs.YtfhiejgoemcelaaGreat
open Go Tw Pv
noncomputable def oc17 : Orc gam := orcF 17 (a1 cA) tA (fun p => S_Thin p) np oc18
theorem gc17 : Gd oc17 := gc18.add fun n hO p hp => fn_is hX hO (by kernel_rfl) (.sh (fun _ => .rr) fun h0 => .sh (fun _ => .rr) fun _ => .sh (fun _ => .rr) fun _ => .ss .rr (.o (show p.cs.length ≤ most by simp at h0; unfold most; omega) .rr))
end Go.Proofs.YtfhiejgoemcelaaGreat
namespace Go.Proofs.YtfhiejgoemcelaaGreat
open Go Tw Pv
abbrev szK (k : K) : Int := IntKind.i64.wrap (IntKind.i64.wrap (k.hi - k.lo) + 1)
def nthL (cs : List K) : Nat → Int → List Int → List Int
 | 0, _, out => out
 | j + 1, n, out => nthL cs j (quoI .i64 n (szK (cs.getD j K0))) (out.set j (IntKind.i64.wrap ((cs.getD j K0).lo + remI .i64 n (szK (cs.getD j K0)))))
def jI : Nat → Int
 | 0 => -1
 | j + 1 => j
theorem jI_dec (j : Nat) (h : j ≤ most) : IntKind.i64.wrap ((j : Int) - 1) = jI j := by
 cases j with
 | zero => rfl
 | succ j => simp only [jI]; rw [wrap_small (by omega) (by unfold most at h; omega)]; omega
abbrev w49 (c : C) (s : Nat × Int × List Int) (x : List (Nat × PE gam)) : PSt gam := ⟨[(1, xi s.2.1), (2, .loc 0 0), (5, .val (.own 0)), (6, xi (jI s.1))] ++ x, [xC c], [.list true true 3 s.2.2]⟩
def g49 (c : C) (s : Nat × Int × List Int) : (Nat × Int × List Int) ⊕ (Int × List Int) := match s with
 | (0, n, out) => .inr (n, out)
 | (j + 1, n, out) => .inl (j, quoI .i64 n (szK (c.cs.getD j K0)), out.set j (IntKind.i64.wrap ((c.cs.getD j K0).lo + remI .i64 n (szK (c.cs.getD j K0)))))
def nthN (cs : List K) : Nat → Int → Int
 | 0, n => n
 | j + 1, n => nthN cs j (quoI .i64 n (szK (cs.getD j K0)))
theorem g49_it (c : C) : ∀ (j : Nat) (n : Int) (out : List Int), itF (g49 c) (j + 1) (j, n, out) = some (nthN c.cs j n, nthL c.cs j n out)
 | 0, n, out => rfl
 | j + 1, n, out => by
  rw [itF]
  simp only [g49]
  exact g49_it c j _ _
def z49 (c : C) (r : Int × List Int) : Ex × PSt gam := (.exit 0, w49 c (0, r.1, r.2) [(16, xl false)])
theorem l49 {n : Nat} (hO : Ok n oc17) (c : C) (hl : c.cs.length ≤ most) (hz : ∀ k ∈ c.cs, szK k ≠ 0) (v : Int) (out : List Int) (ho : out.length = c.cs.length) : Lp n 49 0 (w49 c (c.cs.length, v, out) []) (z49 c (nthN c.cs c.cs.length v, nthL c.cs c.cs.length v out)).1 (z49 c (nthN c.cs c.cs.length v, nthL c.cs c.cs.length v out)).2 := by
 refine whileE (X := X0) (P := Tryz.prog) (T := T) (st := fun s => w49 c s []) (g := g49 c) (out := z49 c) (fun s => s.1 ≤ c.cs.length ∧ s.2.2.length = c.cs.length) (g49_it c c.cs.length v out) (by kernel_rfl) (by show _ ≤ 2 ^ 24; unfold most at hl; omega) ⟨Nat.le_refl _, ho⟩ (fun s s1 hi hs => ?_) (fun s m r hi ih => ?_)
 ·obtain ⟨j, n, out⟩ := s
  cases j with
  | zero => cases hs
  | succ j => cases hs; exact ⟨by simp only at hi ⊢; omega, by simp only [List.length_set]; exact hi.2⟩
 ·obtain ⟨j, n, out⟩ := s
  cases j with
  | zero => exact round hX hO (by kernel_rfl) (.b (rfl : false = false) (.ou nofun))
  | succ j =>
   have h2 := ih _ rfl
   have hj : j < c.cs.length := by simp only at hi; omega
   have hj2 : j < out.length := by have := hi.2; simp only at this; omega
   have hne : szK (c.cs.getD j K0) ≠ 0 := hz _ (by rw [List.getD_eq_getElem?_getD, List.getElem?_eq_getElem hj]; exact List.getElem_mem hj)
   simp only [w49, ← jI_dec j (show j ≤ most by omega)] at h2
   exact round hX hO (by kernel_rfl) (.b (show decide ((j : Int) ≥ 0) = true by simp) (.o (inR_nat hj) (.o (inR_nat hj) (.o (inR_nat hj) (.o hne (.o (inR_nat hj2) (.o hne (.nx h2))))))))
noncomputable def oc49 : Orc gam := orcF 49 (a2 cA iA) isA (fun p => nthL p.1.cs p.1.cs.length p.2 (List.replicate p.1.cs.length 0)) (fun p => [p.1.cs.length ≤ most, ∀ k ∈ p.1.cs, szK k ≠ 0]) oc17
theorem gc49 : Gd oc49 := gc17.add fun n hO p hp => by
 have h1 : p.1.cs.length ≤ most := hp _ (.head _)
 have hl := l49 hO p.1 h1 (hp _ (.tail _ (.head _))) p.2 (List.replicate p.1.cs.length 0) (by simp)
 unfold w49 at hl
 rw [show jI (p.1.cs.length, p.2, List.replicate p.1.cs.length (0 : Int)).1 = IntKind.i64.wrap (((List.replicate ((p.1.cs.length : Nat) : Int).toNat (0 : Int)).length : Int) - 1) by simp only [Int.toNat_natCast, List.length_replicate]; exact (jI_dec _ h1).symm] at hl
 exact fn_is hX hO (by kernel_rfl) (.o (rfl : ((p.1.cs.length : Nat) : Int) = ((p.1.cs.length : Nat) : Int)) (.o (Int.natCast_nonneg p.1.cs.length) (.o (show ((p.1.cs.length : Nat) : Int) ≤ (most : Int) by omega) (.w hl .rr))))
end Go.Proofs.YtfhiejgoemcelaaGreat
namespace Go.Proofs.YtfhiejgoemcelaaGreat
open Go Tw Pv
abbrev w30 (c : C) (i : Int) (s : List B) (x : List (Nat × PE gam)) : PSt gam := ⟨[(1, .loc 0 0), (3, .val (.own 0)), (4, xi i)] ++ x, [xC c], [.list true true 38 s]⟩
def g30 (k : Nat) (_ : Unit) (s : List B) : List B ⊕ Empty := .inl (s.set k S_rNone)
def z30 (c : C) (n : Nat) (r : List B ⊕ Empty) : Ex × PSt gam := (.exit 0, w30 c n (getE r) [(15, xl false)])
theorem l30 {m : Nat} (hO : Ok m oc49) (c : C) (n : Nat) (hn : n ≤ most) (s : List B) (hs : s.length = n) : Lp m 30 0 (w30 c 0 s []) (z30 c n (runL g30 (List.replicate n ()) 0 s)).1 (z30 c n (runL g30 (List.replicate n ()) 0 s)).2 := by
 have hl : (List.replicate n ()).length = n := List.length_replicate ..
 have := eachE (X := X0) (P := Tryz.prog) (T := T) (call := ApN m) (L := LL) (f := 30) (rnd := false) (nt := ntP Tryz.prog 30) (B := 0) (b := bodyP Tryz.prog 30 0) (l := List.replicate n ()) (st := fun i s => w30 c i s []) (g := g30) (out := z30 c n) (s0 := s) (w := w30 c 0 s []) () (fun _ s => s.length = n) (by kernel_rfl) (by rw [hl]; exact hn) LLm hs
  (fun k s j hk hi ih => round hX hO (by kernel_rfl) (.b (show decide ((k : Int) < (s.length : Int)) = true by rw [hi]; rw [hl] at hk; simp; exact hk) (.o (show inR k s.length by rw [hi]; rw [hl] at hk; exact inR_nat hk) (.goG [] (ih (s.set k S_rNone) (by rw [List.length_set]; exact hi))))))
  (fun s hi => by
   rw [hl]
   exact round hX hO (by kernel_rfl) (.b (show decide ((n : Int) < (s.length : Int)) = false by rw [hi]; simp) .ex))
 exact this
def gTk (k : Nat) (v : V) (s : List B) : List B ⊕ Empty := .inl (s.set k (S_rTake (s.getD k B0) v))
def takeAll (s : List B) (vs : List V) : List B := getE (runL gTk vs 0 s)
abbrev w30k (c : C) (n : Int) (vs : List V) (i : Int) (s : List B) (x : List (Nat × PE gam)) : PSt gam := ⟨[(1, .loc 0 0), (3, .val (.own 0)), (5, xi n), (6, xL 78 vs), (7, xi i)] ++ x, [xC c], [.list true true 38 s]⟩
def zTk (c : C) (n : Int) (vs : List V) (r : List B ⊕ Empty) : Ex × PSt gam := (.exit 4, w30k c n vs vs.length (getE r) [(36, xl false)])
theorem l30k {m : Nat} (hO : Ok m oc49) (c : C) (n : Int) (vs : List V) (hv : vs.length ≤ most) (s : List B) (hs : s.length = vs.length) : Lp m 30 2 (w30k c n vs 0 s []) (zTk c n vs (runL gTk vs 0 s)).1 (zTk c n vs (runL gTk vs 0 s)).2 :=
 eachE (st := fun i s => w30k c n vs i s []) V0 (fun _ s => s.length = vs.length) (by kernel_rfl) hv LLm hs
  (fun k s j hk hi ih => round hX hO (by kernel_rfl) (.b (show decide ((k : Int) < (s.length : Int)) = true by rw [hi]; simp; exact hk) (.o (show inR k s.length by rw [hi]; exact inR_nat hk) (.o (inR_nat hk) (.o (show inR k s.length by rw [hi]; exact inR_nat hk) (.goG [] (ih (s.set k (S_rTake (s.getD k B0) (vs.getD k V0))) (by rw [List.length_set]; exact hi))))))))
  (fun s hi => round hX hO (by kernel_rfl) (.b (show decide ((vs.length : Int) < (s.length : Int)) = false by rw [hi]; simp) .ex))
abbrev nthW (c : C) (n : Int) : List Int := nthL c.cs c.cs.length n (List.replicate c.cs.length 0)
abbrev w30n (c : C) (i : Int) (s : List B) (x : List (Nat × PE gam)) : PSt gam := ⟨[(1, .loc 0 0), (3, .val (.own 0)), (5, xi i)] ++ x, [xC c], [.list true true 38 s]⟩
def g30n (c : C) (k : Nat) (_ : Unit) (s : List B) : List B ⊕ Empty := .inl (takeAll s (S_rAll c (nthW c k)))
def z30n (c : C) (n : Nat) (r : List B ⊕ Empty) : Ex × PSt gam := (.exit 2, w30n c n (getE r) [(25, xl false)])
theorem rAll_len (c : C) (w : List Int) : (S_rAll c w).length = c.os.length := by
 have : ∀ (os : List O) (i : Nat) (l : List V), (bld (fun l _ o => [S_rCell l w o]) os i l).length = l.length + os.length := by
  intro os
  induction os with
  | nil => intro i l; simp [bld]
  | cons o os ih => intro i l; simp only [bld]; rw [ih]; simp; omega
 have h := this c.os 0 []
 simpa [S_rAll] using h
theorem gTk_len : ∀ (vs : List V) (k : Nat) (s : List B), (getE (runL gTk vs k s)).length = s.length
 | [], _, _ => rfl
 | v :: vs, k, s => by simp only [runL, gTk]; rw [gTk_len vs]; simp
theorem l30n {m : Nat} (hO : Ok m oc49) (c : C) (n : Nat) (hn : n ≤ most) (hM : S_rMany c = n) (hcs : c.cs.length ≤ most) (hos : c.os.length ≤ most) (hz : ∀ k ∈ c.cs, szK k ≠ 0) (hA : ∀ k : Nat, k < n → AllOk c (nthW c k)) (s : List B) (hs : s.length = c.os.length) : Lp m 30 1 (w30n c 0 s []) (z30n c n (runL (g30n c) (List.replicate n ()) 0 s)).1 (z30n c n (runL (g30n c) (List.replicate n ()) 0 s)).2 := by
 have hl : (List.replicate n ()).length = n := List.length_replicate ..
 have := eachE (X := X0) (P := Tryz.prog) (T := T) (call := ApN m) (L := LL) (f := 30) (rnd := false) (nt := ntP Tryz.prog 30) (B := 0) (b := bodyP Tryz.prog 30 1) (l := List.replicate n ()) (st := fun i s => w30n c i s []) (g := g30n c) (out := z30n c n) (s0 := s) (w := w30n c 0 s []) () (fun _ s => s.length = c.os.length) (by kernel_rfl) (by rw [hl]; exact hn) LLm hs
  (fun k s j hk hi ih => by
   rw [hl] at hk
   have hr := rAll_len c (nthW c k)
   have h2 := l30k hO c k (S_rAll c (nthW c k)) (by rw [hr]; exact hos) s (by rw [hr, hi])
   have h3 := ih (takeAll s (S_rAll c (nthW c k))) (by unfold takeAll; rw [gTk_len]; exact hi)
   exact round hX hO (by kernel_rfl) (.o hcs (.b (show decide ((k : Int) < S_rMany c) = true by rw [hM]; simp; exact hk) (.o hcs (.o hz (.o (hA k hk) (.w h2 (.goG [] h3))))))))
  (fun s hi => by
   rw [hl]
   exact round hX hO (by kernel_rfl) (.o hcs (.b (show decide ((n : Int) < S_rMany c) = false by rw [hM]; simp) .ex)))
 exact this
def S_rTightN (c : C) (n : Nat) : List B := getE (runL (g30n c) (List.replicate n ()) 0 (getE (runL g30 (List.replicate c.os.length ()) 0 (List.replicate c.os.length B0))))
noncomputable def oc30 : Orc gam := orcF 30 (a1 cA) bsA (fun p => S_rTightN p (S_rMany p).toNat) (fun p => [p.os.length ≤ most, p.cs.length ≤ most, 0 ≤ S_rMany p, S_rMany p ≤ 2001, ∀ k ∈ p.cs, szK k ≠ 0, ∀ k : Nat, (k : Int) < S_rMany p → AllOk p (nthW p k)]) oc49
theorem g30_len : ∀ (us : List Unit) (k : Nat) (s : List B), (getE (runL g30 us k s)).length = s.length
 | [], _, _ => rfl
 | v :: vs, k, s => by simp only [runL, g30]; rw [g30_len vs]; simp
theorem gc30 : Gd oc30 := gc49.add fun n hO p hp => by
 have h1 : p.os.length ≤ most := hp _ (.head _)
 have h2 : p.cs.length ≤ most := hp _ (.tail _ (.head _))
 have h3 : 0 ≤ S_rMany p := hp _ (.tail _ (.tail _ (.head _)))
 have h4 : S_rMany p ≤ 2001 := hp _ (.tail _ (.tail _ (.tail _ (.head _))))
 have h5 : ∀ k ∈ p.cs, szK k ≠ 0 := hp _ (.tail _ (.tail _ (.tail _ (.tail _ (.head _)))))
 have h6 : ∀ k : Nat, (k : Int) < S_rMany p → AllOk p (nthW p k) := hp _ (.tail _ (.tail _ (.tail _ (.tail _ (.tail _ (.head _))))))
 have q1 := l30 hO p p.os.length h1 (List.replicate p.os.length B0) (by simp)
 have q2 := l30n hO p (S_rMany p).toNat (by unfold most; omega) (by omega) h2 h1 h5 (fun k hk => h6 k (by omega)) (getE (runL g30 (List.replicate p.os.length ()) 0 (List.replicate p.os.length B0))) (by rw [g30_len]; simp)
 exact fn_is hX hO (by kernel_rfl) (.o (rfl : ((p.os.length : Nat) : Int) = ((p.os.length : Nat) : Int)) (.o (Int.natCast_nonneg p.os.length) (.o (show ((p.os.length : Nat) : Int) ≤ (most : Int) by omega) (.w q1 (.w q2 .rr)))))
end Go.Proofs.YtfhiejgoemcelaaGreat
namespace Go.Proofs.YtfhiejgoemcelaaGreat
open Go Tw
def bv (x : Int) : BitVec 8 := BitVec.ofInt 8 x
theorem bv_nat (v : BitVec 8) : bv ((v.toNat : Nat) : Int) = v := by
 unfold bv
 rw [BitVec.ofInt_natCast]
 exact BitVec.ofNat_toNat 8 v ▸ by simp
theorem wrap_bv (v : BitVec 8) : IntKind.u8.wrap ((v.toNat : Nat) : Int) = ((v.toNat : Nat) : Int) := by
 have := v.isLt
 simp only [IntKind.wrap, IntKind.signed, IntKind.bits, Bool.false_and, Bool.false_eq_true, if_false]
 omega
theorem or8_bv (x y : Int) : orI .u8 x y = (((bv x ||| bv y).toNat : Nat) : Int) := wrap_bv _
theorem and8_bv (x y : Int) : andI .u8 x y = (((bv x &&& bv y).toNat : Nat) : Int) := wrap_bv _
theorem andn8_bv (x y : Int) : andnI .u8 x y = (((bv x &&& ~~~bv y).toNat : Nat) : Int) := wrap_bv _
theorem bv_good {f : Int} (h0 : 0 ≤ f) (h1 : f ≤ 255) : f = (((bv f).toNat : Nat) : Int) := by
 unfold bv
 simp only [BitVec.toNat_ofInt]
 omega
theorem or8_0 {f : Int} (h0 : 0 ≤ f) (h1 : f ≤ 255) : orI .u8 0 f = f := by
 rw [or8_bv, show bv 0 = 0#8 from rfl, BitVec.zero_or]; exact (bv_good h0 h1).symm
theorem or8_0' {f : Int} (h0 : 0 ≤ f) (h1 : f ≤ 255) : orI .u8 f 0 = f := by
 rw [or8_bv, show bv 0 = 0#8 from rfl, BitVec.or_zero]; exact (bv_good h0 h1).symm
theorem or8_comm (x y : Int) : orI .u8 x y = orI .u8 y x := by rw [or8_bv, or8_bv, BitVec.or_comm]
theorem or8_assoc (x y z : Int) : orI .u8 (orI .u8 x y) z = orI .u8 x (orI .u8 y z) := by
 simp only [or8_bv, bv_nat, BitVec.or_assoc]
theorem or8_00 (x y : Int) : orI .u8 (orI .u8 0 x) y = orI .u8 x y := by
 simp only [or8_bv, bv_nat, show bv 0 = 0#8 from rfl, BitVec.zero_or]
theorem or8_range (x y : Int) : 0 ≤ orI .u8 x y ∧ orI .u8 x y ≤ 255 := by
 rw [or8_bv]; have := (bv x ||| bv y).isLt; omega
theorem bv_15 {f : Int} (h0 : 0 ≤ f) (h1 : f ≤ 15) : (bv f).toNat < 2 ^ 4 := by
 have := bv_good h0 (by omega); omega
theorem or8_15 {x y : Int} (h0 : 0 ≤ x) (h1 : x ≤ 15) (h2 : 0 ≤ y) (h3 : y ≤ 15) : 0 ≤ orI .u8 x y ∧ orI .u8 x y ≤ 15 := by
 rw [or8_bv, BitVec.toNat_or]
 have := Nat.or_lt_two_pow (bv_15 h0 h1) (bv_15 h2 h3)
 omega
theorem and8_15 {x y : Int} (h0 : 0 ≤ x) (h1 : x ≤ 15) : 0 ≤ andI .u8 x y ∧ andI .u8 x y ≤ 15 := by
 rw [and8_bv, BitVec.toNat_and]
 have := Nat.and_lt_two_pow (n := 4) (bv y).toNat (bv_15 h0 h1)
 have h : (bv x).toNat &&& (bv y).toNat ≤ (bv x).toNat := Nat.and_le_left
 have := bv_15 h0 h1
 omega
def Can (r : B) : Prop := r.lo ≤ r.hi ∨ r.lo = 1 ∧ r.hi = 0
structure Good (r : B) : Prop where
 num : -9999 ≤ r.lo ∧ r.lo ≤ r.hi ∧ r.hi ≤ 9999 ∨ r.lo = 1 ∧ r.hi = 0
 f0 : 0 ≤ r.f
 f1 : r.f ≤ 15
theorem Good.can {r : B} (h : Good r) : Can r := by rcases h.num with h | h; exact .inl h.2.1; exact .inr h
theorem hull_eq {b x : B} (hb : Can b) (hx : Can x) : S_hull b x true = S_rHull b x := by
 obtain ⟨bl, bh, bf⟩ := b
 obtain ⟨xl, xh, xf⟩ := x
 simp only [Can] at hb hx
 simp only [S_hull, S_rHull, S_with, ors, Bool.not_true, Bool.false_eq_true, if_false, Bool.not_eq_true', decide_eq_false_iff_not, or8_00]
 split
 ·rename_i h
  split
  ·simp only [B.mk.injEq, and_true]; omega
  ·rfl
 ·split
  ·rw [or8_comm]
  ·rfl
theorem hull_no (b x : B) : S_hull b x false = b := rfl
theorem Can.none {f : Int} : Can ⟨1, 0, f⟩ := .inr ⟨rfl, rfl⟩
theorem Can.pt {k f : Int} : Can ⟨k, k, f⟩ := .inl (Int.le_refl k)
theorem Can.hull {b x : B} (hb : Can b) (hx : Can x) : Can (S_rHull b x) := by
 obtain ⟨bl, bh, bf⟩ := b
 obtain ⟨xl, xh, xf⟩ := x
 simp only [Can] at hb hx ⊢
 simp only [S_rHull, Bool.not_eq_true', decide_eq_false_iff_not, minI, maxI]
 split
 ·exact hx
 ·split
  ·exact hb
  ·left; simp only; repeat' split
   all_goals omega
theorem Can.with {b : B} (hb : Can b) (k : Int) : Can (S_rWith b k) := hb.hull .pt
theorem hull_with {b : B} (hb : Can b) (k : Int) : S_hull b ⟨k, k, 0⟩ true = S_rWith b k := hull_eq hb .pt
theorem hull_f {a b : B} : (S_rHull a b).f = orI .u8 a.f b.f := by
 unfold S_rHull; split
 ·rfl
 ·split <;> rfl
theorem with_f {b : B} {k : Int} (h0 : 0 ≤ b.f) (h1 : b.f ≤ 255) : (S_rWith b k).f = b.f := by
 rw [S_rWith, hull_f]; exact or8_0' h0 h1
theorem mayBe0_eq (r : B) : S_mayBe0 r = S_rMayBe0 r := rfl
theorem mayBeOther_eq (r : B) : S_mayBeOther r = S_rMayBeOther r := rfl
theorem fault_eq (k : Int) : S_bit k = S_rFault k := rfl
theorem bit_1 : S_bit 1 = 1 := by decide
theorem bit_2 : S_bit 2 = 2 := by decide
end Go.Proofs.YtfhiejgoemcelaaGreat
namespace Go.Proofs.YtfhiejgoemcelaaGreat
open Go Tw
def ptsB (b : B) (l : List Int) : B := l.foldl S_rWith b
def IsHull (r : B) (l : List Int) : Prop := r.f = 0 ∧ ((l = [] ∧ r.lo = 1 ∧ r.hi = 0) ∨ (r.lo ∈ l ∧ r.hi ∈ l ∧ ∀ x ∈ l, r.lo ≤ x ∧ x ≤ r.hi))
theorem IsHull.le {r : B} {l : List Int} (h : IsHull r l) (hl : l ≠ []) : r.lo ≤ r.hi := by
 rcases h.2 with h | h
 ·exact absurd h.1 hl
 ·exact (h.2.2 _ h.1).2
theorem isHull_with {r : B} {l : List Int} (h : IsHull r l) (k : Int) : IsHull (S_rWith r k) (l ++ [k]) := by
 obtain ⟨h0, h⟩ := h
 refine ⟨by rw [with_f (by omega) (by omega), h0], .inr ?_⟩
 obtain ⟨rl, rh, rf⟩ := r
 simp only at h0 h
 rcases h with ⟨rfl, rfl, rfl⟩ | ⟨h1, h2, h3⟩
 ·simp [S_rWith, S_rHull]
 ·have hle := (h3 _ h1).2
  simp only [S_rWith, S_rHull, minI, maxI, Bool.not_eq_true', decide_eq_false_iff_not, hle, not_true_eq_false, if_false, Int.le_refl]
  refine ⟨?_, ?_, ?_⟩
  ·split <;> simp [h1]
  ·split <;> simp [h2]
  ·intro x hx
   rcases List.mem_append.mp hx with hx | hx
   ·have := h3 x hx
    constructor <;> split <;> omega
   ·simp only [List.mem_singleton] at hx; subst hx
    constructor <;> split <;> omega
theorem isHull_pts : ∀ (l l0 : List Int) {r : B}, IsHull r l0 → IsHull (ptsB r l) (l0 ++ l)
 | [], l0, r, h => by simpa [ptsB] using h
 | x :: l, l0, r, h => by
  have := isHull_pts l (l0 ++ [x]) (isHull_with h x)
  simpa [ptsB] using this
theorem isHull_nil : IsHull ⟨1, 0, 0⟩ [] := ⟨rfl, .inl ⟨rfl, rfl, rfl⟩⟩
theorem isHull_eq {r s : B} {l m : List Int} (hr : IsHull r l) (hs : IsHull s m) (h : ∀ x, x ∈ l ↔ x ∈ m) : r = s := by
 obtain ⟨rl, rh, rf⟩ := r
 obtain ⟨sl, sh, sf⟩ := s
 obtain ⟨h0, hr⟩ := hr
 obtain ⟨g0, hs⟩ := hs
 simp only at h0 g0 hr hs
 subst h0; subst g0
 rcases hr with ⟨rfl, rfl, rfl⟩ | ⟨a1, a2, a3⟩
 ·rcases hs with ⟨rfl, rfl, rfl⟩ | ⟨b1, b2, b3⟩
  ·rfl
  ·exact absurd ((h _).mpr b1) (by simp)
 ·rcases hs with ⟨rfl, rfl, rfl⟩ | ⟨b1, b2, b3⟩
  ·exact absurd ((h _).mp a1) (by simp)
  ·have c1 := b3 _ ((h _).mp a1)
   have c2 := b3 _ ((h _).mp a2)
   have c3 := a3 _ ((h _).mpr b1)
   have c4 := a3 _ ((h _).mpr b2)
   simp only [B.mk.injEq, and_true]
   omega
def cornB (g : Int → Int → Int) (a b : B) : B := ptsB ⟨1, 0, 0⟩ [g a.lo b.lo, g a.lo b.hi, g a.hi b.lo, g a.hi b.hi]
theorem cornB_hull (g : Int → Int → Int) (a b : B) :
  S_hull (S_hull (S_hull (S_hull ((⟨1, 0, 0⟩ : B)) ((⟨g (a.lo) (b.lo), g (a.lo) (b.lo), 0⟩ : B)) true) ((⟨g (a.lo) (b.hi), g (a.lo) (b.hi), 0⟩ : B)) true) ((⟨g (a.hi) (b.lo), g (a.hi) (b.lo), 0⟩ : B)) true) ((⟨g (a.hi) (b.hi), g (a.hi) (b.hi), 0⟩ : B)) true = cornB g a b := by
 rw [hull_with .none, hull_with (Can.none.with _), hull_with ((Can.none.with _).with _), hull_with (((Can.none.with _).with _).with _)]
 rfl
theorem cut_eq {m : B} (hf : m.f = 0) (hle : m.lo ≤ m.hi) : (if S_inside m ⟨-9999, 9999, 0⟩ = true then m else S_with (S_common m ⟨-9999, 9999, 0⟩) [S_bit 2]) = S_rCut m := by
 obtain ⟨l, h, f⟩ := m
 simp only at hf hle
 subst hf
 simp only [S_inside, S_rCut, S_common, S_with, ors, bit_2, show S_rFault 2 = 2 from by decide, Bool.not_eq_true', decide_eq_false_iff_not, hle, not_true_eq_false, if_false, if_true, decide_true, Bool.not_true, Bool.false_eq_true,
  show (andnI .u8 0 0 == 0) = true from by decide, show orI .u8 0 2 = 2 from by decide, show andI .u8 0 0 = 0 from by decide, show orI .u8 0 0 = 0 from by decide, show ((-9999 : Int) ≤ 9999) from by decide, decide_eq_true_eq]
 by_cases h1 : l < -9999
 ·have hx : maxI l (-9999) = -9999 := by unfold maxI; rw [if_pos h1]
  have n1 : ¬ -9999 ≤ l := by omega
  by_cases h2 : h < -9999
  ·have hm : minI h 9999 = h := by unfold minI; rw [if_neg (by omega)]
   have n2 : ¬ -9999 ≤ h := by omega
   simp [hx, hm, h1, n1, h2, n2, show orI .u8 0 2 = 2 from by decide]
  ·have n2 : -9999 ≤ h := by omega
   by_cases h3 : 9999 < h
   ·have hm : minI h 9999 = 9999 := by unfold minI; rw [if_pos h3]
    simp [hx, hm, h1, n1, show orI .u8 0 2 = 2 from by decide]
   ·have hm : minI h 9999 = h := by unfold minI; rw [if_neg h3]
    simp [hx, hm, h1, n1, h2, n2, show orI .u8 0 2 = 2 from by decide]
 ·have n1 : -9999 ≤ l := by omega
  have hx : maxI l (-9999) = l := by unfold maxI; rw [if_neg h1]
  by_cases h3 : 9999 < h
  ·have hm : minI h 9999 = 9999 := by unfold minI; rw [if_pos h3]
   have n3 : ¬ h ≤ 9999 := by omega
   by_cases h4 : 9999 < l
   ·have n4 : ¬ l ≤ 9999 := by omega
    simp [hx, hm, h1, n1, h3, n3, h4, n4, show orI .u8 0 2 = 2 from by decide]
   ·have n4 : l ≤ 9999 := by omega
    simp [hx, hm, h1, n1, h3, n3, h4, n4, show orI .u8 0 2 = 2 from by decide]
  ·have n3 : h ≤ 9999 := by omega
   have hm : minI h 9999 = h := by unfold minI; rw [if_neg h3]
   have n5 : ¬ h < l := by omega
   simp [hx, hm, h1, n1, h3, n3, n5]
theorem corners_eq (g : Int → Int → Int) (a b : B) : S_corners g a b = S_rCut (cornB g a b) := by
 unfold S_corners
 rw [cornB_hull]
 have h := isHull_pts [g a.lo b.lo, g a.lo b.hi, g a.hi b.lo, g a.hi b.hi] [] isHull_nil
 exact cut_eq h.1 (h.le (by simp))
theorem run_counted {z code : Int} : ∀ (l : List Int) (i : Nat) (s : B), getE (runL (F_rCounted z code) l i s) = ptsB s (l.map (S_rResult code z))
 | [], _, _ => rfl
 | x :: l, i, s => by
  simp only [runL, F_rCounted, List.map_cons]
  exact run_counted l (i + 1) _
theorem pts_app (b : B) (l m : List Int) : ptsB (ptsB b l) m = ptsB b (l ++ m) := (List.foldl_append ..).symm
theorem counted_eq {code : Int} (hc : code ≠ 10) (a b : B) : S_rCounted code a b = S_rCut (cornB (S_rResult code) a b) := by
 unfold S_rCounted
 rw [if_neg (by simpa using hc)]
 simp only [run_counted, pts_app]
 rfl
theorem run_div {b y : B} : ∀ (l : List Int) (i : Nat) {s : B}, Can s → getE (runL (F_div b y) l i s) = ptsB s ((l.filter (isDiv y)).flatMap fun x => [S_quotient b.lo x, S_quotient b.hi x])
 | [], _, _, _ => rfl
 | x :: l, i, s, hs => by
  simp only [runL, F_div]
  by_cases h0 : (x == 0) = true
  ·have : isDiv y x = false := by simp only [isDiv, bne, h0, Bool.not_true, Bool.false_and]
   rw [if_pos h0, List.filter_cons_of_neg (by simp [this])]
   exact run_div l _ hs
  ·rw [if_neg h0]
   by_cases h1 : S_has y x = true
   ·have : isDiv y x = true := by
     simp only [isDiv, bne, Bool.not_eq_true] at h0 ⊢
     simp only [S_has] at h1
     simp only [h0, Bool.not_false, Bool.true_and]
     split at h1
     ·rename_i h2; simp only [h2, h1, Bool.and_self]
     ·cases h1
    rw [if_neg (by simp [h1]), List.filter_cons_of_pos this, hull_with hs, hull_with (hs.with _)]
    simp only [List.flatMap_cons]
    rw [run_div l _ ((hs.with _).with _), ← pts_app]
    rfl
   ·have : isDiv y x = false := by
     simp only [isDiv, bne, Bool.not_eq_true] at h0 ⊢
     simp only [S_has] at h1
     simp only [h0, Bool.not_false, Bool.true_and]
     split at h1
     ·rename_i h2; simp only [h2, Bool.true_and]; simpa using h1
     ·rename_i h2; simp only [Bool.not_eq_true] at h2; simp only [h2, Bool.false_and]
    rw [if_pos (by simp [h1]), List.filter_cons_of_neg (by simp [this])]
    exact run_div l _ hs
theorem quot_bound {a b : Int} (h0 : -9999 ≤ a) (h1 : a ≤ 9999) (hb : b ≠ 0) (hb0 : -9999 ≤ b) (hb1 : b ≤ 9999) : -9999 ≤ S_quotient a b ∧ S_quotient a b ≤ 9999 := by
 have hw : ∀ z : Int, -100000 ≤ z → z ≤ 100000 → IntKind.i64.wrap z = z := by
  intro z h1 h2
  exact wrap_small (by omega) (by omega)
 have hna : (a.tdiv b).natAbs ≤ a.natAbs := by
  rw [Int.natAbs_tdiv]; exact Nat.div_le_self _ _
 have hq : quoI .i64 a b = a.tdiv b := hw _ (by omega) (by omega)
 have hm := Int.mul_tdiv_add_tmod a b
 unfold S_quotient
 rw [hq]
 split
 ·rename_i hr
  split
  ·rename_i hs
   rw [hw _ (by omega) (by omega)]
   refine ⟨?_, by omega⟩
   by_cases hb1 : b.natAbs = 1
   ·exfalso
    have : b = 1 ∨ b = -1 := by omega
    rcases this with rfl | rfl <;> simp [remI] at hr
   ·have : (a.tdiv b).natAbs ≤ a.natAbs / 2 := by
     rw [Int.natAbs_tdiv]; exact Nat.div_le_div_left (by omega) (by omega)
    omega
  ·omega
 ·omega
theorem floor_eq (z x : Int) : S_rResult 10 z x = S_quotient z x := by
 unfold S_rResult
 rw [if_neg (by decide), if_neg (by decide), if_neg (by decide)]
 rfl
theorem cut_in {m : B} (hf : m.f = 0) (h : (m.lo = 1 ∧ m.hi = 0) ∨ (-9999 ≤ m.lo ∧ m.lo ≤ m.hi ∧ m.hi ≤ 9999)) : S_rCut m = m := by
 obtain ⟨l, h', f⟩ := m
 simp only at hf h
 subst hf
 rcases h with ⟨rfl, rfl⟩ | ⟨h1, h2, h3⟩
 ·rfl
 ·simp only [S_rCut, Bool.not_eq_true', decide_eq_false_iff_not, h2, not_true_eq_false, if_false, minI, maxI]
  rw [if_neg (by simp; omega), if_neg (by simp; omega), if_neg (by simp; omega)]
  simp only [B.mk.injEq, and_true]; omega
theorem div_pts {b y : B} (hb : -9999 ≤ b.lo ∧ b.lo ≤ b.hi ∧ b.hi ≤ 9999) (hy : -9999 ≤ y.lo ∧ y.lo ≤ y.hi ∧ y.hi ≤ 9999) :
  S_rCounted 10 b y = getE (runL (F_div b y) (([y.lo, y.hi, -1, 1] : List Int)) 0 ((⟨1, 0, 0⟩ : B))) ∧ Good (S_rCounted 10 b y) ∧ (S_rCounted 10 b y).f = 0 := by
 rw [run_div _ _ .none]
 have e1 : S_rCounted 10 b y = S_rCut (ptsB ⟨1, 0, 0⟩ ((S_rDivisors y).map (S_quotient b.lo) ++ (S_rDivisors y).map (S_quotient b.hi))) := by
  unfold S_rCounted
  rw [if_pos (by decide)]
  simp only [run_counted, pts_app]
  rw [show S_rResult 10 b.lo = S_quotient b.lo from funext fun x => floor_eq _ x, show S_rResult 10 b.hi = S_quotient b.hi from funext fun x => floor_eq _ x]
 have hA := isHull_pts ((S_rDivisors y).map (S_quotient b.lo) ++ (S_rDivisors y).map (S_quotient b.hi)) [] isHull_nil
 have hB := isHull_pts (((([y.lo, y.hi, -1, 1] : List Int)).filter (isDiv y)).flatMap fun x => [S_quotient b.lo x, S_quotient b.hi x]) [] isHull_nil
 simp only [List.nil_append] at hA hB
 have hbd : ∀ x ∈ S_rDivisors y, ∀ z, (z = b.lo ∨ z = b.hi) → -9999 ≤ S_quotient z x ∧ S_quotient z x ≤ 9999 := by
  intro x hx z hz
  simp only [S_rDivisors, List.mem_filter, isDiv, Bool.and_eq_true, bne_iff_ne, ne_eq, decide_eq_true_eq] at hx
  exact quot_bound (by rcases hz with rfl | rfl <;> omega) (by rcases hz with rfl | rfl <;> omega) hx.2.1 (by omega) (by omega)
 have hin : ((ptsB ⟨1, 0, 0⟩ ((S_rDivisors y).map (S_quotient b.lo) ++ (S_rDivisors y).map (S_quotient b.hi))).lo = 1 ∧ (ptsB ⟨1, 0, 0⟩ ((S_rDivisors y).map (S_quotient b.lo) ++ (S_rDivisors y).map (S_quotient b.hi))).hi = 0) ∨
   (-9999 ≤ (ptsB ⟨1, 0, 0⟩ ((S_rDivisors y).map (S_quotient b.lo) ++ (S_rDivisors y).map (S_quotient b.hi))).lo ∧ (ptsB ⟨1, 0, 0⟩ ((S_rDivisors y).map (S_quotient b.lo) ++ (S_rDivisors y).map (S_quotient b.hi))).lo ≤ (ptsB ⟨1, 0, 0⟩ ((S_rDivisors y).map (S_quotient b.lo) ++ (S_rDivisors y).map (S_quotient b.hi))).hi ∧ (ptsB ⟨1, 0, 0⟩ ((S_rDivisors y).map (S_quotient b.lo) ++ (S_rDivisors y).map (S_quotient b.hi))).hi ≤ 9999) := by
  rcases hA.2 with h | h
  ·exact .inl h.2
  ·right
   have hm : ∀ z ∈ (S_rDivisors y).map (S_quotient b.lo) ++ (S_rDivisors y).map (S_quotient b.hi), -9999 ≤ z ∧ z ≤ 9999 := by
    intro z hz
    rcases List.mem_append.mp hz with hz | hz <;> obtain ⟨x, hx, rfl⟩ := List.mem_map.mp hz
    ·exact hbd x hx _ (.inl rfl)
    ·exact hbd x hx _ (.inr rfl)
   exact ⟨(hm _ h.1).1, (h.2.2 _ h.1).2, (hm _ h.2.1).2⟩
 rw [e1, cut_in hA.1 hin]
 refine ⟨isHull_eq hA hB fun x => ?_, ⟨?_, by rw [hA.1]; decide, by rw [hA.1]; decide⟩, hA.1⟩
 ·simp only [S_rDivisors, List.mem_append, List.mem_map, List.mem_flatMap, List.mem_cons, List.not_mem_nil, or_false]
  constructor
  ·rintro (⟨d, hd, rfl⟩ | ⟨d, hd, rfl⟩)
   ·exact ⟨d, hd, .inl rfl⟩
   ·exact ⟨d, hd, .inr rfl⟩
  ·rintro ⟨d, hd, rfl | rfl⟩
   ·exact .inl ⟨d, hd, rfl⟩
   ·exact .inr ⟨d, hd, rfl⟩
 ·rcases hin with h | h
  ·exact .inr h
  ·exact .inl h
end Go.Proofs.YtfhiejgoemcelaaGreat
namespace Go.Proofs.YtfhiejgoemcelaaGreat
open Go Tw
theorem or_0 {f : Int} (h0 : 0 ≤ f) (h1 : f ≤ 15) : orI .u8 0 f = f := or8_0 h0 (by omega)
theorem S_with2 (m : B) (x y : Int) : S_with m [x, y] = ⟨m.lo, m.hi, orI .u8 m.f (orI .u8 x y)⟩ := by
 simp only [S_with, ors, or8_assoc]
theorem rest_eq (a b : B) : S_mod a b = S_with (S_rRest a b) [S_by0 b] := by
 unfold S_mod S_rRest
 rw [mayBeOther_eq]
 repeat' split
 all_goals rfl
theorem truth_eq (a b : Bool) : S_verdict a b = S_rTruth a b := rfl
theorem truth_f (a b : Bool) : (S_rTruth a b).f = 0 := by unfold S_rTruth; split; rfl; split <;> rfl
theorem eq_eq (a b : B) : S_eq a b = (if ((a.lo) == (a.hi)) = true then if ((b.lo) == (b.hi)) = true then if (decide ((a.hi) < (b.lo))) = true then S_rTruth ((a.lo) == (b.lo)) true else S_rTruth ((a.lo) == (b.lo)) (decide ((b.hi) < (a.lo))) else if (decide ((a.hi) < (b.lo))) = true then S_rTruth false true else S_rTruth false (decide ((b.hi) < (a.lo))) else if (decide ((a.hi) < (b.lo))) = true then S_rTruth false true else S_rTruth false (decide ((b.hi) < (a.lo)))) := rfl
theorem by0_1 (b : B) : S_by0 b = if S_rMayBe0 b = true then 1 else 0 := by
 unfold S_by0; rw [mayBe0_eq, bit_1]
def pairM (code : Int) (a b : B) : B :=
 if code = 11 then S_rRest a b else if code = 12 then S_eq a b else if code = 13 then S_lt a b else if code = 14 then S_le a b else S_rCounted code a b
theorem rPair_eq {code : Int} (a b : B) : S_rPair code a b =
  if a.f = a.f ∧ ¬ (b.lo ≤ b.hi) then ⟨1, 0, orI .u8 a.f b.f⟩ else
  if (code = 10 ∨ code = 11) ∧ S_rMayBe0 b = true then ⟨(pairM code a b).lo, (pairM code a b).hi, orI .u8 (orI .u8 (pairM code a b).f 1) (orI .u8 a.f b.f)⟩
  else ⟨(pairM code a b).lo, (pairM code a b).hi, orI .u8 (pairM code a b).f (orI .u8 a.f b.f)⟩ := by
 unfold S_rPair
 simp only [true_and, show S_rFault 1 = 1 from by decide]
 by_cases hb : b.lo ≤ b.hi
 ·simp only [hb, decide_true, Bool.not_true, Bool.false_eq_true, if_false, not_true_eq_false, beq_iff_eq]
  by_cases h11 : code = 11
  ·subst h11
   simp only [if_true, pairM, show ¬ (11 : Int) = 10 from by decide, if_false, or_true, true_and]
  ·by_cases h12 : code = 12
   ·subst h12
    simp only [if_true, pairM, eq_eq, beq_iff_eq, show ¬ (12 : Int) = 10 from by decide, show ¬ (12 : Int) = 11 from by decide, if_false, or_false, false_and]
    repeat' split
    all_goals rfl
   ·by_cases h13 : code = 13
    ·subst h13
     simp only [if_true, pairM, S_lt, truth_eq, show ¬ (13 : Int) = 10 from by decide, show ¬ (13 : Int) = 11 from by decide, show ¬ (13 : Int) = 12 from by decide, if_false, or_false, false_and]
    ·by_cases h14 : code = 14
     ·subst h14
      simp only [if_true, pairM, S_le, truth_eq, show ¬ (14 : Int) = 10 from by decide, show ¬ (14 : Int) = 11 from by decide, show ¬ (14 : Int) = 12 from by decide, show ¬ (14 : Int) = 13 from by decide, if_false, or_false, false_and]
     ·by_cases h10 : code = 10
      ·subst h10
       simp only [if_true, pairM, show ¬ (10 : Int) = 11 from by decide, show ¬ (10 : Int) = 12 from by decide, show ¬ (10 : Int) = 13 from by decide, show ¬ (10 : Int) = 14 from by decide, if_false, or_false, true_and]
      ·simp only [h11, h12, h13, h14, h10, if_false, pairM, or_false, false_and]
 ·simp only [hb, decide_false, Bool.not_false, if_true, not_false_eq_true]
theorem both1_eq {code : Int} {g : B → B → B} {a b : B} (hb : Good b) (hg : b.lo ≤ b.hi → g a b = if (code = 10 ∨ code = 11) ∧ S_rMayBe0 b = true then ⟨(pairM code a b).lo, (pairM code a b).hi, orI .u8 (pairM code a b).f 1⟩ else pairM code a b) :
  S_both1 g a b ⟨0, 0, 0⟩ = S_rPair code a b := by
 rw [rPair_eq]
 unfold S_both1
 simp only [true_and, decide_eq_true_eq]
 by_cases h : b.lo ≤ b.hi
 ·simp only [h, if_true, not_true_eq_false, if_false]
  rw [hg h, S_with2]
  split
  ·rfl
  ·rfl
 ·simp only [h, if_false, not_false_eq_true, if_true]
  rw [S_with2]
  simp only [or8_0 (or8_range a.f b.f).1 (or8_range a.f b.f).2]
theorem cut_f15 {m : B} (hf : m.f = 0) : (S_rCut m).f = 0 ∨ (S_rCut m).f = 2 := by
 obtain ⟨l, h, f⟩ := m
 simp only at hf; subst hf
 unfold S_rCut
 simp only [show orI .u8 0 (S_rFault 2) = 2 from by decide]
 repeat' split
 all_goals first | exact .inl rfl | exact .inr rfl
theorem cut_num {m : B} (hc : Can m) : (-9999 ≤ (S_rCut m).lo ∧ (S_rCut m).lo ≤ (S_rCut m).hi ∧ (S_rCut m).hi ≤ 9999) ∨ ((S_rCut m).lo = 1 ∧ (S_rCut m).hi = 0) := by
 obtain ⟨l, h, f⟩ := m
 simp only [Can] at hc
 unfold S_rCut
 simp only [Bool.not_eq_true', decide_eq_false_iff_not, decide_eq_true_eq, minI, maxI]
 by_cases hle : l ≤ h
 ·simp only [hle, not_true_eq_false, if_false]
  repeat' split
  all_goals first | exact .inr ⟨rfl, rfl⟩ | (left; simp only; omega)
 ·simp only [hle, not_false_eq_true, if_true]; omega
theorem cut_good {m : B} (hf : m.f = 0) (hc : Can m) : Good (S_rCut m) :=
 ⟨cut_num hc, by rcases cut_f15 hf with h | h <;> rw [h] <;> decide, by rcases cut_f15 hf with h | h <;> rw [h] <;> decide⟩
theorem corn_can (g : Int → Int → Int) (a b : B) : Can (cornB g a b) ∧ (cornB g a b).f = 0 := by
 have h := isHull_pts [g a.lo b.lo, g a.lo b.hi, g a.hi b.lo, g a.hi b.hi] [] isHull_nil
 exact ⟨.inl (h.le (by simp)), h.1⟩
theorem truth_good (a b : Bool) : Good (S_rTruth a b) := by
 unfold S_rTruth
 split
 ·exact ⟨.inl (by decide), by decide, by decide⟩
 ·split <;> exact ⟨.inl (by decide), by decide, by decide⟩
theorem rest_good {a b : B} (ha : -9999 ≤ a.lo ∧ a.lo ≤ a.hi ∧ a.hi ≤ 9999) (hb : -9999 ≤ b.lo ∧ b.lo ≤ b.hi ∧ b.hi ≤ 9999) : Good (S_rRest a b) ∧ (S_rRest a b).f = 0 := by
 have w1 : ∀ z : Int, -100000 ≤ z → z ≤ 100000 → IntKind.i64.wrap z = z := fun z h1 h2 => wrap_small (by omega) (by omega)
 have e1 := w1 (b.lo + 1) (by omega) (by omega)
 have e2 := w1 (b.hi - 1) (by omega) (by omega)
 have hm : S_rMayBeOther b = true → b.lo ≠ 0 ∨ b.hi ≠ 0 := by
  unfold S_rMayBeOther
  intro h
  split at h
  ·split at h
   ·rename_i h2; left; simpa using h2
   ·right; simpa using h
  ·cases h
 unfold S_rRest
 simp only [e1, e2, Bool.not_eq_true', decide_eq_true_eq, minI]
 split
 ·exact ⟨⟨.inr ⟨rfl, rfl⟩, by decide, by decide⟩, rfl⟩
 ·rename_i ho
  have ho := hm (by simpa using ho)
  repeat' split
  all_goals (refine ⟨⟨.inl ?_, Int.le_refl _, (by decide : (0 : Int) ≤ 15)⟩, rfl⟩; simp only; omega)
theorem pairM_good {code : Int} {a b : B} (ha : -9999 ≤ a.lo ∧ a.lo ≤ a.hi ∧ a.hi ≤ 9999) (hb : -9999 ≤ b.lo ∧ b.lo ≤ b.hi ∧ b.hi ≤ 9999) : Good (pairM code a b) := by
 unfold pairM
 split
 ·exact (rest_good ha hb).1
 ·split
  ·rw [eq_eq]; repeat' split
   all_goals exact truth_good _ _
  ·split
   ·exact truth_good _ _
   ·split
    ·exact truth_good _ _
    ·by_cases h : code = 10
     ·subst h; exact (div_pts ha hb).2.1
     ·rw [counted_eq h]
      exact cut_good (corn_can _ a b).2 (corn_can _ a b).1
theorem rPair_good {code : Int} {a b : B} (ha : -9999 ≤ a.lo ∧ a.lo ≤ a.hi ∧ a.hi ≤ 9999) (fa : 0 ≤ a.f ∧ a.f ≤ 15) (hb : Good b) : Good (S_rPair code a b) := by
 rw [rPair_eq]
 have ho := or8_15 fa.1 fa.2 hb.f0 hb.f1
 simp only [true_and]
 split
 ·exact ⟨.inr ⟨rfl, rfl⟩, ho.1, ho.2⟩
 ·rename_i h
  have hb' : -9999 ≤ b.lo ∧ b.lo ≤ b.hi ∧ b.hi ≤ 9999 := by rcases hb.num with h1 | h1 <;> omega
  have hp := pairM_good (code := code) ha hb'
  have h1 := or8_15 hp.f0 hp.f1 (show (0 : Int) ≤ 1 by decide) (show (1 : Int) ≤ 15 by decide)
  split
  ·have h2 := or8_15 h1.1 h1.2 ho.1 ho.2
   exact ⟨hp.num, h2.1, h2.2⟩
  ·have h2 := or8_15 hp.f0 hp.f1 ho.1 ho.2
   exact ⟨hp.num, h2.1, h2.2⟩
theorem apply_7 (a b z : B) : S_apply 7 a b z = S_both1 S_sums a b ⟨0, 0, 0⟩ := by
 unfold S_apply
 rw [if_neg (by decide)]; rw [if_neg (by decide)]; rw [if_pos rfl]
theorem apply_8 (a b z : B) : S_apply 8 a b z = S_both1 S_differences a b ⟨0, 0, 0⟩ := by
 unfold S_apply
 rw [if_neg (by decide)]; rw [if_neg (by decide)]; rw [if_neg (by decide)]; rw [if_pos rfl]
theorem apply_9 (a b z : B) : S_apply 9 a b z = S_both1 S_products a b ⟨0, 0, 0⟩ := by
 unfold S_apply
 rw [if_neg (by decide)]; rw [if_neg (by decide)]; rw [if_neg (by decide)]; rw [if_neg (by decide)]; rw [if_pos rfl]
theorem apply_10 (a b z : B) : S_apply 10 a b z = S_both1 S_div a b ⟨0, 0, 0⟩ := by
 unfold S_apply
 rw [if_neg (by decide)]; rw [if_neg (by decide)]; rw [if_neg (by decide)]; rw [if_neg (by decide)]; rw [if_neg (by decide)]; rw [if_pos rfl]
theorem apply_11 (a b z : B) : S_apply 11 a b z = S_both1 S_mod a b ⟨0, 0, 0⟩ := by
 unfold S_apply
 rw [if_neg (by decide)]; rw [if_neg (by decide)]; rw [if_neg (by decide)]; rw [if_neg (by decide)]; rw [if_neg (by decide)]; rw [if_neg (by decide)]; rw [if_pos rfl]
theorem apply_12 (a b z : B) : S_apply 12 a b z = S_both1 S_eq a b ⟨0, 0, 0⟩ := by
 unfold S_apply
 rw [if_neg (by decide)]; rw [if_neg (by decide)]; rw [if_neg (by decide)]; rw [if_neg (by decide)]; rw [if_neg (by decide)]; rw [if_neg (by decide)]; rw [if_neg (by decide)]; rw [if_pos rfl]
theorem apply_13 (a b z : B) : S_apply 13 a b z = S_both1 S_lt a b ⟨0, 0, 0⟩ := by
 unfold S_apply
 rw [if_neg (by decide)]; rw [if_neg (by decide)]; rw [if_neg (by decide)]; rw [if_neg (by decide)]; rw [if_neg (by decide)]; rw [if_neg (by decide)]; rw [if_neg (by decide)]; rw [if_neg (by decide)]; rw [if_pos rfl]
theorem apply_14 (a b z : B) : S_apply 14 a b z = S_both1 S_le a b ⟨0, 0, 0⟩ := by
 unfold S_apply
 rw [if_neg (by decide)]; rw [if_neg (by decide)]; rw [if_neg (by decide)]; rw [if_neg (by decide)]; rw [if_neg (by decide)]; rw [if_neg (by decide)]; rw [if_neg (by decide)]; rw [if_neg (by decide)]; rw [if_neg (by decide)]; rw [if_pos rfl]
theorem pairM_c {code : Int} (h1 : code ≠ 11) (h2 : code ≠ 12) (h3 : code ≠ 13) (h4 : code ≠ 14) (a b : B) : pairM code a b = S_rCounted code a b := by
 unfold pairM; rw [if_neg h1, if_neg h2, if_neg h3, if_neg h4]
theorem res_7 : S_rResult 7 = S_sums1 := by
 funext x y
 unfold S_rResult S_sums1
 rw [if_pos (by decide)]
theorem res_8 : S_rResult 8 = S_differences1 := by
 funext x y
 unfold S_rResult S_differences1
 rw [if_neg (by decide)]; rw [if_pos (by decide)]
theorem res_9 : S_rResult 9 = S_products1 := by
 funext x y
 unfold S_rResult S_products1
 rw [if_neg (by decide)]; rw [if_neg (by decide)]; rw [if_pos (by decide)]
theorem pair_7 {a b : B} (ha : -9999 ≤ a.lo ∧ a.lo ≤ a.hi ∧ a.hi ≤ 9999) (hb : Good b) (z : B) : S_apply 7 a b z = S_rPair 7 a b := by
 have hbn : b.lo ≤ b.hi → -9999 ≤ b.lo ∧ b.lo ≤ b.hi ∧ b.hi ≤ 9999 := fun h => by rcases hb.num with h1 | h1 <;> omega
 rw [apply_7]
 refine both1_eq (code := 7) (g := S_sums) hb fun _ => ?_
 rw [if_neg (fun h => absurd h.1 (by decide)), S_sums, corners_eq]
 rw [pairM_c (by decide) (by decide) (by decide) (by decide), counted_eq (by decide), res_7]
theorem pair_8 {a b : B} (ha : -9999 ≤ a.lo ∧ a.lo ≤ a.hi ∧ a.hi ≤ 9999) (hb : Good b) (z : B) : S_apply 8 a b z = S_rPair 8 a b := by
 have hbn : b.lo ≤ b.hi → -9999 ≤ b.lo ∧ b.lo ≤ b.hi ∧ b.hi ≤ 9999 := fun h => by rcases hb.num with h1 | h1 <;> omega
 rw [apply_8]
 refine both1_eq (code := 8) (g := S_differences) hb fun _ => ?_
 rw [if_neg (fun h => absurd h.1 (by decide)), S_differences, corners_eq]
 rw [pairM_c (by decide) (by decide) (by decide) (by decide), counted_eq (by decide), res_8]
theorem pair_9 {a b : B} (ha : -9999 ≤ a.lo ∧ a.lo ≤ a.hi ∧ a.hi ≤ 9999) (hb : Good b) (z : B) : S_apply 9 a b z = S_rPair 9 a b := by
 have hbn : b.lo ≤ b.hi → -9999 ≤ b.lo ∧ b.lo ≤ b.hi ∧ b.hi ≤ 9999 := fun h => by rcases hb.num with h1 | h1 <;> omega
 rw [apply_9]
 refine both1_eq (code := 9) (g := S_products) hb fun _ => ?_
 rw [if_neg (fun h => absurd h.1 (by decide)), S_products, corners_eq]
 rw [pairM_c (by decide) (by decide) (by decide) (by decide), counted_eq (by decide), res_9]
theorem pair_10 {a b : B} (ha : -9999 ≤ a.lo ∧ a.lo ≤ a.hi ∧ a.hi ≤ 9999) (hb : Good b) (z : B) : S_apply 10 a b z = S_rPair 10 a b := by
 have hbn : b.lo ≤ b.hi → -9999 ≤ b.lo ∧ b.lo ≤ b.hi ∧ b.hi ≤ 9999 := fun h => by rcases hb.num with h1 | h1 <;> omega
 rw [apply_10]
 refine both1_eq (code := 10) (g := S_div) hb fun h => ?_
 have hd := div_pts ha (hbn h)
 simp only [true_or, true_and, show pairM 10 a b = S_rCounted 10 a b from rfl]
 unfold S_div
 rw [← hd.1, by0_1]
 split
 ·rfl
 ·simp only [S_with, ors]
  rw [or8_0' hd.2.1.f0 (by have := hd.2.1.f1; omega)]
theorem pair_11 {a b : B} (ha : -9999 ≤ a.lo ∧ a.lo ≤ a.hi ∧ a.hi ≤ 9999) (hb : Good b) (z : B) : S_apply 11 a b z = S_rPair 11 a b := by
 have hbn : b.lo ≤ b.hi → -9999 ≤ b.lo ∧ b.lo ≤ b.hi ∧ b.hi ≤ 9999 := fun h => by rcases hb.num with h1 | h1 <;> omega
 rw [apply_11]
 refine both1_eq (code := 11) (g := S_mod) hb fun h => ?_
 have hd := rest_good ha (hbn h)
 simp only [or_true, true_and, show pairM 11 a b = S_rRest a b from rfl]
 rw [rest_eq, by0_1]
 split
 ·rfl
 ·simp only [S_with, ors]
  rw [or8_0' hd.1.f0 (by have := hd.1.f1; omega)]
theorem pair_12 {a b : B} (ha : -9999 ≤ a.lo ∧ a.lo ≤ a.hi ∧ a.hi ≤ 9999) (hb : Good b) (z : B) : S_apply 12 a b z = S_rPair 12 a b := by
 have hbn : b.lo ≤ b.hi → -9999 ≤ b.lo ∧ b.lo ≤ b.hi ∧ b.hi ≤ 9999 := fun h => by rcases hb.num with h1 | h1 <;> omega
 rw [apply_12]
 exact both1_eq (code := 12) (g := S_eq) hb fun _ => by rw [if_neg (fun h => absurd h.1 (by decide))]; rfl
theorem pair_13 {a b : B} (ha : -9999 ≤ a.lo ∧ a.lo ≤ a.hi ∧ a.hi ≤ 9999) (hb : Good b) (z : B) : S_apply 13 a b z = S_rPair 13 a b := by
 have hbn : b.lo ≤ b.hi → -9999 ≤ b.lo ∧ b.lo ≤ b.hi ∧ b.hi ≤ 9999 := fun h => by rcases hb.num with h1 | h1 <;> omega
 rw [apply_13]
 exact both1_eq (code := 13) (g := S_lt) hb fun _ => by rw [if_neg (fun h => absurd h.1 (by decide))]; rfl
theorem pair_14 {a b : B} (ha : -9999 ≤ a.lo ∧ a.lo ≤ a.hi ∧ a.hi ≤ 9999) (hb : Good b) (z : B) : S_apply 14 a b z = S_rPair 14 a b := by
 have hbn : b.lo ≤ b.hi → -9999 ≤ b.lo ∧ b.lo ≤ b.hi ∧ b.hi ≤ 9999 := fun h => by rcases hb.num with h1 | h1 <;> omega
 rw [apply_14]
 exact both1_eq (code := 14) (g := S_le) hb fun _ => by rw [if_neg (fun h => absurd h.1 (by decide))]; rfl
theorem pair_cases {code : Int} (h7 : 7 ≤ code) (h14 : code ≤ 14) {a b : B} (ha : -9999 ≤ a.lo ∧ a.lo ≤ a.hi ∧ a.hi ≤ 9999) (hb : Good b) (z : B) : S_apply code a b z = S_rPair code a b := by
 have : code = 7 ∨ code = 8 ∨ code = 9 ∨ code = 10 ∨ code = 11 ∨ code = 12 ∨ code = 13 ∨ code = 14 := by omega
 rcases this with rfl | rfl | rfl | rfl | rfl | rfl | rfl | rfl
 ·exact pair_7 ha hb z
 ·exact pair_8 ha hb z
 ·exact pair_9 ha hb z
 ·exact pair_10 ha hb z
 ·exact pair_11 ha hb z
 ·exact pair_12 ha hb z
 ·exact pair_13 ha hb z
 ·exact pair_14 ha hb z
end Go.Proofs.YtfhiejgoemcelaaGreat
namespace Go.Proofs.YtfhiejgoemcelaaGreat
open Go Tw
theorem with_hull {r x : B} (hr : Can r) (f : Int) : S_with (S_rHull r x) [f] = S_rHull (S_with r [f]) x := by
 obtain ⟨rl, rh, rf⟩ := r
 obtain ⟨xl, xh, xf⟩ := x
 have e : orI .u8 (orI .u8 rf xf) f = orI .u8 (orI .u8 rf f) xf := by rw [or8_assoc, or8_comm xf, ← or8_assoc]
 simp only [S_with, ors, S_rHull]
 by_cases h1 : rl ≤ rh <;> by_cases h2 : xl ≤ xh <;> simp [h1, h2, e]
theorem hull_swap {f : Int} {p q : B} (hp : Can p) (hq : Can q) : S_rHull (S_rHull ⟨1, 0, f⟩ p) q = S_rHull (S_rHull ⟨1, 0, f⟩ q) p := by
 obtain ⟨pl, ph, pf⟩ := p
 obtain ⟨ql, qh, qf⟩ := q
 have e : orI .u8 (orI .u8 f pf) qf = orI .u8 (orI .u8 f qf) pf := by rw [or8_assoc, or8_comm pf, ← or8_assoc]
 simp only [Can] at hp hq
 have n : ¬ (1 : Int) ≤ 0 := by decide
 simp only [S_rHull, n, decide_false, Bool.not_false, if_true, Bool.not_eq_true', decide_eq_false_iff_not]
 by_cases h1 : pl ≤ ph <;> by_cases h2 : ql ≤ qh
 ·simp only [h1, h2, not_true_eq_false, if_false, e, minI, maxI, B.mk.injEq, and_true]
  constructor <;> split <;> split <;> omega
 ·simp only [h1, h2, not_true_eq_false, if_false, not_false_eq_true, if_true, e]
 ·simp only [h1, h2, not_true_eq_false, if_false, not_false_eq_true, if_true, e]
 ·simp only [h1, h2, not_false_eq_true, if_true, e, B.mk.injEq, and_true]
  omega
theorem pick_eq {f : Int} (h0 : 0 ≤ f) (h1 : f ≤ 15) {p q : B} (hp : Can p) (hq : Can q) (c1 c2 : Bool) :
  S_with (S_hull (S_hull ⟨1, 0, 0⟩ p c1) q c2) [f] = (if c2 = true then if c1 = true then S_rHull (S_rHull ⟨1, 0, f⟩ p) q else S_rHull ⟨1, 0, f⟩ q else if c1 = true then S_rHull ⟨1, 0, f⟩ p else ⟨1, 0, f⟩) := by
 have e : S_with (⟨1, 0, 0⟩ : B) [f] = ⟨1, 0, f⟩ := by simp only [S_with, ors, or_0 h0 h1]
 cases c1 <;> cases c2
 ·simp only [hull_no, e, Bool.false_eq_true, if_false]
 ·simp only [hull_no, hull_eq .none hq, with_hull .none, e, Bool.false_eq_true, if_false, if_true]
 ·simp only [hull_no, hull_eq .none hp, with_hull .none, e, Bool.false_eq_true, if_false, if_true]
 ·simp only [hull_eq .none hp, hull_eq (Can.none.hull hp) hq, with_hull (Can.none.hull hp), with_hull .none, e, if_true]
theorem good_getD {l : List B} (hl : ∀ b ∈ l, Good b) (k : Nat) : Good (l.getD k B0) := by
 rw [List.getD_eq_getElem?_getD]
 cases h : l[k]? with
 | none => exact ⟨.inl (by decide), by decide, by decide⟩
 | some b => exact hl b (List.mem_of_getElem? h)
theorem good_num {b : B} (h : Good b) (hn : b.lo ≤ b.hi) : -9999 ≤ b.lo ∧ b.lo ≤ b.hi ∧ b.hi ≤ 9999 := by rcases h.num with h1 | h1 <;> omega
theorem good_hull {a b : B} (ha : Good a) (hb : Good b) : Good (S_rHull a b) := by
 have hf := or8_15 ha.f0 ha.f1 hb.f0 hb.f1
 refine ⟨?_, by rw [hull_f]; exact hf.1, by rw [hull_f]; exact hf.2⟩
 have h1 := ha.num
 have h2 := hb.num
 unfold S_rHull
 simp only [Bool.not_eq_true', decide_eq_false_iff_not, minI, maxI]
 split
 ·exact h2
 ·split
  ·exact h1
  ·simp only
   rcases h1 with h1 | h1 <;> rcases h2 with h2 | h2
   ·left; constructor
    ·split <;> omega
    ·constructor <;> split <;> (try split) <;> omega
   ·omega
   ·omega
   ·omega
theorem good_e {f : Int} (h0 : 0 ≤ f) (h1 : f ≤ 15) : Good ⟨1, 0, f⟩ := ⟨.inr ⟨rfl, rfl⟩, h0, h1⟩
theorem good_0 : Good ⟨0, 0, 0⟩ := ⟨.inl (by decide), by decide, by decide⟩
theorem good_1 : Good ⟨1, 1, 0⟩ := ⟨.inl (by decide), by decide, by decide⟩
def KGood (k : K) : Prop := -9999 ≤ k.lo ∧ k.lo ≤ k.hi ∧ k.hi ≤ 9999
structure OGood (o : O) (nc : Nat) : Prop where
 one : o.code = 1 → -9999 ≤ o.n ∧ o.n ≤ 9999
 two : o.code = 2 → 1 ≤ o.n ∧ o.n ≤ 4
 three : o.code = 3 → 0 ≤ o.n ∧ o.n < nc
theorem wrap_u8 {z : Int} (h0 : 0 ≤ z) (h1 : z < 256) : IntKind.u8.wrap z = z := by
 simp only [IntKind.wrap, IntKind.signed, IntKind.bits, Bool.false_and, Bool.false_eq_true, if_false]
 exact Int.emod_eq_of_lt h0 h1
theorem bit_range {n : Int} (h0 : 1 ≤ n) (h1 : n ≤ 4) : 0 ≤ S_bit (IntKind.u8.wrap n) ∧ S_bit (IntKind.u8.wrap n) ≤ 15 := by
 have : n = 1 ∨ n = 2 ∨ n = 3 ∨ n = 4 := by omega
 rcases this with rfl | rfl | rfl | rfl <;> decide
theorem not_eq {a : B} (ha : Good a) : S_not a ⟨0, 0, 0⟩ ⟨0, 0, 0⟩ = (if (S_rMayBeOther a) = true then if (S_rMayBe0 a) = true then S_rHull (S_rHull ((⟨1, 0, a.f⟩ : B)) ((⟨0, 0, 0⟩ : B))) ((⟨1, 1, 0⟩ : B)) else S_rHull ((⟨1, 0, a.f⟩ : B)) ((⟨0, 0, 0⟩ : B)) else if (S_rMayBe0 a) = true then S_rHull ((⟨1, 0, a.f⟩ : B)) ((⟨1, 1, 0⟩ : B)) else (⟨1, 0, a.f⟩ : B)) := by
 unfold S_not
 rw [pick_eq ha.f0 ha.f1 .pt .pt, mayBe0_eq, mayBeOther_eq, hull_swap .pt .pt]
theorem and_eq {a b z : B} (ha : Good a) (hb : Good b) : S_and a b z = (if (S_rMayBeOther a) = true then if (S_rMayBe0 a) = true then S_rHull (S_rHull ((⟨1, 0, a.f⟩ : B)) b) ((⟨0, 0, 0⟩ : B)) else S_rHull ((⟨1, 0, a.f⟩ : B)) b else if (S_rMayBe0 a) = true then S_rHull ((⟨1, 0, a.f⟩ : B)) ((⟨0, 0, 0⟩ : B)) else (⟨1, 0, a.f⟩ : B)) := by
 unfold S_and
 rw [pick_eq ha.f0 ha.f1 .pt hb.can, mayBe0_eq, mayBeOther_eq, hull_swap .pt hb.can]
theorem or_eq {a b z : B} (ha : Good a) (hb : Good b) : S_or a b z = (if (S_rMayBeOther a) = true then if (S_rMayBe0 a) = true then S_rHull (S_rHull ((⟨1, 0, a.f⟩ : B)) ((⟨1, 1, 0⟩ : B))) b else S_rHull ((⟨1, 0, a.f⟩ : B)) ((⟨1, 1, 0⟩ : B)) else if (S_rMayBe0 a) = true then S_rHull ((⟨1, 0, a.f⟩ : B)) b else (⟨1, 0, a.f⟩ : B)) := by
 unfold S_or
 rw [pick_eq ha.f0 ha.f1 hb.can .pt, mayBe0_eq, mayBeOther_eq, hull_swap hb.can .pt]
theorem choose_eq {a b c : B} (ha : Good a) (hb : Good b) (hc : Good c) : S_choose a b c = (if (S_rMayBeOther a) = true then if (S_rMayBe0 a) = true then S_rHull (S_rHull ((⟨1, 0, a.f⟩ : B)) b) c else S_rHull ((⟨1, 0, a.f⟩ : B)) b else if (S_rMayBe0 a) = true then S_rHull ((⟨1, 0, a.f⟩ : B)) c else (⟨1, 0, a.f⟩ : B)) := by
 unfold S_choose
 rw [pick_eq ha.f0 ha.f1 hb.can hc.can, mayBe0_eq, mayBeOther_eq]
 cases S_rMayBeOther a <;> cases S_rMayBe0 a <;> rfl
theorem rRule_pair {c : C} {l : List B} {o : O} (h7 : 7 ≤ o.code) (h14 : o.code ≤ 14) : S_rRule c l o = if (!(decide ((l.getD o.a.toNat B0).lo ≤ (l.getD o.a.toNat B0).hi))) = true then ⟨1, 0, (l.getD o.a.toNat B0).f⟩ else S_rPair o.code (l.getD o.a.toNat B0) (l.getD o.b.toNat B0) := by
 have n1 : ¬ o.code = 1 := by omega
 have n2 : ¬ o.code = 2 := by omega
 have n3 : ¬ o.code = 3 := by omega
 have n5 : o.code ≥ 7 := by omega
 unfold S_rRule
 simp only [beq_iff_eq, n1, n2, n3, n5, h14, decide_true, if_true, if_false]
theorem rule_eq {c : C} {l : List B} {o : O} (hk : RuleOk o l.length c.cs.length) (hl : ∀ b ∈ l, Good b) (hc : ∀ k ∈ c.cs, KGood k) (ho : OGood o c.cs.length) :
  S_rule c.cs l o = S_rRule c l o ∧ Good (S_rRule c l o) := by
 have ga := good_getD hl o.a.toNat
 have gb := good_getD hl o.b.toNat
 have gc := good_getD hl o.c.toNat
 have k1 := hk.lo
 have k2 := hk.hi
 have k3 := hk.no
 by_cases h1 : o.code = 1
 ·have := ho.one h1
  unfold S_rule S_rRule
  rw [if_pos h1, if_pos (by simpa using h1)]
  exact ⟨rfl, .inl (by simp only; omega), Int.le_refl _, (by decide : (0 : Int) ≤ 15)⟩
 by_cases h2 : o.code = 2
 ·have := ho.two h2
  have hb := bit_range this.1 this.2
  unfold S_rule S_rRule
  simp only [beq_iff_eq, h1, h2, if_true, if_false, show ¬ (2 : Int) = 1 from by decide]
  rw [← fault_eq]
  exact ⟨by simp only [S_with, ors, or_0 hb.1 hb.2], .inr ⟨rfl, rfl⟩, hb.1, hb.2⟩
 by_cases h3 : o.code = 3
 ·have hn := ho.three h3
  have hg : KGood (c.cs.getD o.n.toNat K0) := by
   rw [List.getD_eq_getElem?_getD]
   have : o.n.toNat < c.cs.length := by omega
   rw [List.getElem?_eq_getElem this]
   exact hc _ (List.getElem_mem _)
  unfold S_rule S_rRule
  simp only [beq_iff_eq, h1, h2, h3, if_true, if_false, show ¬ (3 : Int) = 1 from by decide, show ¬ (3 : Int) = 2 from by decide]
  exact ⟨trivial, .inl hg, Int.le_refl _, (by decide : (0 : Int) ≤ 15)⟩
 have hs : S_rule c.cs l o = if (!(decide ((l.getD o.a.toNat B0).lo ≤ (l.getD o.a.toNat B0).hi))) = true then ⟨1, 0, (l.getD o.a.toNat B0).f⟩ else S_apply o.code (l.getD o.a.toNat B0) (l.getD o.b.toNat B0) (l.getD o.c.toNat B0) := by
  unfold S_rule
  simp only [h1, h2, h3, if_false, S_with, ors, or_0 ga.f0 ga.f1]
 rw [hs]
 by_cases h14 : 7 ≤ o.code ∧ o.code ≤ 14
 ·rw [rRule_pair h14.1 h14.2]
  by_cases hn : (l.getD o.a.toNat B0).lo ≤ (l.getD o.a.toNat B0).hi
  ·rw [if_neg (by simp only [hn, decide_true, decide_false, Bool.not_true, Bool.not_false, Bool.false_eq_true, not_false_eq_true]), if_neg (by simp only [hn, decide_true, decide_false, Bool.not_true, Bool.not_false, Bool.false_eq_true, not_false_eq_true])]
   exact ⟨pair_cases h14.1 h14.2 (good_num ga hn) gb _, rPair_good (good_num ga hn) ⟨ga.f0, ga.f1⟩ gb⟩
  ·rw [if_pos (by simp only [hn, decide_true, decide_false, Bool.not_true, Bool.not_false, Bool.false_eq_true, not_false_eq_true]), if_pos (by simp only [hn, decide_true, decide_false, Bool.not_true, Bool.not_false, Bool.false_eq_true, not_false_eq_true])]
   exact ⟨rfl, good_e ga.f0 ga.f1⟩
 have hcode : o.code = 5 ∨ o.code = 6 ∨ o.code = 15 ∨ o.code = 16 ∨ o.code = 17 := by omega
 by_cases hn : (l.getD o.a.toNat B0).lo ≤ (l.getD o.a.toNat B0).hi
 ·rw [if_neg (by simp only [hn, decide_true, decide_false, Bool.not_true, Bool.not_false, Bool.false_eq_true, not_false_eq_true])]
  have hna := good_num ga hn
  rcases hcode with h | h | h | h | h
  ·have e1 : IntKind.i64.wrap (0 - (l.getD o.a.toNat B0).hi) = 0 - (l.getD o.a.toNat B0).hi := wrap_small (by omega) (by omega)
   have e2 : IntKind.i64.wrap (0 - (l.getD o.a.toNat B0).lo) = 0 - (l.getD o.a.toNat B0).lo := wrap_small (by omega) (by omega)
   have er : S_rRule c l o = ⟨IntKind.i64.wrap (0 - (l.getD o.a.toNat B0).hi), IntKind.i64.wrap (0 - (l.getD o.a.toNat B0).lo), (l.getD o.a.toNat B0).f⟩ := by
    unfold S_rRule
    simp only [beq_iff_eq, h, hn, show ¬ (5 : Int) = 1 from by decide, show ¬ (5 : Int) = 2 from by decide, show ¬ (5 : Int) = 3 from by decide, show ¬ (5 : Int) ≥ 7 from by decide, decide_true, decide_false, Bool.not_true, Bool.false_eq_true, if_true, if_false]
   rw [er, h]
   refine ⟨?_, ?_⟩
   ·unfold S_apply
    rw [if_pos rfl]
    simp only [S_neg, S_with, ors, or_0 ga.f0 ga.f1]
   ·rw [e1, e2]; exact ⟨.inl (by simp only; omega), ga.f0, ga.f1⟩
  ·have er : S_rRule c l o = S_not (l.getD o.a.toNat B0) ⟨0, 0, 0⟩ ⟨0, 0, 0⟩ := by
    rw [not_eq ga]
    unfold S_rRule
    simp only [beq_iff_eq, h, hn, show ¬ (6 : Int) = 1 from by decide, show ¬ (6 : Int) = 2 from by decide, show ¬ (6 : Int) = 3 from by decide, show ¬ (6 : Int) = 5 from by decide, show ¬ (6 : Int) ≥ 7 from by decide, decide_true, decide_false, Bool.not_true, Bool.false_eq_true, if_true, if_false]
   rw [er, h]
   refine ⟨?_, ?_⟩
   ·unfold S_apply
    rw [if_neg (by decide), if_pos rfl]
   ·rw [not_eq ga]
    cases S_rMayBeOther (l.getD o.a.toNat B0) <;> cases S_rMayBe0 (l.getD o.a.toNat B0) <;> first | exact good_e ga.f0 ga.f1 | exact good_hull (good_e ga.f0 ga.f1) good_0 | exact good_hull (good_e ga.f0 ga.f1) good_1 | exact good_hull (good_hull (good_e ga.f0 ga.f1) good_0) good_1
  ·have er : S_rRule c l o = S_and (l.getD o.a.toNat B0) (l.getD o.b.toNat B0) (l.getD o.c.toNat B0) := by
    rw [and_eq ga gb]
    unfold S_rRule
    simp only [beq_iff_eq, h, hn, show ¬ (15 : Int) = 1 from by decide, show ¬ (15 : Int) = 2 from by decide, show ¬ (15 : Int) = 3 from by decide, show ¬ (15 : Int) = 5 from by decide, show ¬ (15 : Int) = 6 from by decide, show (15 : Int) ≥ 7 from by decide, show ¬ (15 : Int) ≤ 14 from by decide, decide_true, decide_false, Bool.not_true, Bool.false_eq_true, if_true, if_false]
   rw [er, h]
   refine ⟨?_, ?_⟩
   ·unfold S_apply
    iterate 10 rw [if_neg (by decide)]
    rw [if_pos rfl]; rfl
   ·rw [and_eq ga gb]
    cases S_rMayBeOther (l.getD o.a.toNat B0) <;> cases S_rMayBe0 (l.getD o.a.toNat B0) <;> first | exact good_e ga.f0 ga.f1 | exact good_hull (good_e ga.f0 ga.f1) good_0 | exact good_hull (good_e ga.f0 ga.f1) gb | exact good_hull (good_hull (good_e ga.f0 ga.f1) gb) good_0
  ·have er : S_rRule c l o = S_or (l.getD o.a.toNat B0) (l.getD o.b.toNat B0) (l.getD o.c.toNat B0) := by
    rw [or_eq ga gb]
    unfold S_rRule
    simp only [beq_iff_eq, h, hn, show ¬ (16 : Int) = 1 from by decide, show ¬ (16 : Int) = 2 from by decide, show ¬ (16 : Int) = 3 from by decide, show ¬ (16 : Int) = 5 from by decide, show ¬ (16 : Int) = 6 from by decide, show ¬ (16 : Int) = 15 from by decide, show (16 : Int) ≥ 7 from by decide, show ¬ (16 : Int) ≤ 14 from by decide, decide_true, decide_false, Bool.not_true, Bool.false_eq_true, if_true, if_false]
   rw [er, h]
   refine ⟨?_, ?_⟩
   ·unfold S_apply
    iterate 11 rw [if_neg (by decide)]
    rw [if_pos rfl]; rfl
   ·rw [or_eq ga gb]
    cases S_rMayBeOther (l.getD o.a.toNat B0) <;> cases S_rMayBe0 (l.getD o.a.toNat B0) <;> first | exact good_e ga.f0 ga.f1 | exact good_hull (good_e ga.f0 ga.f1) good_1 | exact good_hull (good_e ga.f0 ga.f1) gb | exact good_hull (good_hull (good_e ga.f0 ga.f1) good_1) gb
  ·have er : S_rRule c l o = S_choose (l.getD o.a.toNat B0) (l.getD o.b.toNat B0) (l.getD o.c.toNat B0) := by
    rw [choose_eq ga gb gc]
    unfold S_rRule
    simp only [beq_iff_eq, h, hn, show ¬ (17 : Int) = 1 from by decide, show ¬ (17 : Int) = 2 from by decide, show ¬ (17 : Int) = 3 from by decide, show ¬ (17 : Int) = 5 from by decide, show ¬ (17 : Int) = 6 from by decide, show ¬ (17 : Int) = 15 from by decide, show ¬ (17 : Int) = 16 from by decide, show (17 : Int) ≥ 7 from by decide, show ¬ (17 : Int) ≤ 14 from by decide, decide_true, decide_false, Bool.not_true, Bool.false_eq_true, if_true, if_false]
   rw [er, h]
   refine ⟨?_, ?_⟩
   ·unfold S_apply
    iterate 12 rw [if_neg (by decide)]
   ·rw [choose_eq ga gb gc]
    cases S_rMayBeOther (l.getD o.a.toNat B0) <;> cases S_rMayBe0 (l.getD o.a.toNat B0) <;> first | exact good_e ga.f0 ga.f1 | exact good_hull (good_e ga.f0 ga.f1) gc | exact good_hull (good_e ga.f0 ga.f1) gb | exact good_hull (good_hull (good_e ga.f0 ga.f1) gb) gc
 ·rw [if_pos (by simp only [hn, decide_true, decide_false, Bool.not_true, Bool.not_false, Bool.false_eq_true, not_false_eq_true])]
  have : S_rRule c l o = ⟨1, 0, (l.getD o.a.toNat B0).f⟩ := by
   unfold S_rRule
   simp only [beq_iff_eq, h1, h2, h3, if_false, hn, decide_false, Bool.not_false, if_true]
  rw [this]
  exact ⟨rfl, good_e ga.f0 ga.f1⟩
end Go.Proofs.YtfhiejgoemcelaaGreat
namespace Go.Proofs.YtfhiejgoemcelaaGreat
open Go Tw
theorem within1_eq (x lo hi : Int) : (!S_within1 x lo hi) = S_rIn x lo hi := by
 unfold S_within1 S_rIn
 by_cases h1 : x < lo <;> by_cases h2 : x > hi <;> simp [h1, h2] <;> omega
theorem within_eq (l : List Int) (lo hi : Int) : S_within l lo hi = l.all (fun x => S_rIn x lo hi) := by
 unfold S_within
 induction l with
 | nil => rfl
 | cons a l ih => simp only [List.any_cons, List.all_cons, Bool.not_or, ih, within1_eq]
theorem rIn_0 (x : Int) : S_rIn x 0 0 = (x == 0) := by
 unfold S_rIn
 rw [Bool.eq_iff_iff]
 by_cases h1 : x ≥ 0
 ·simp only [h1, decide_true, if_true, decide_eq_true_eq, beq_iff_eq]; omega
 ·simp only [h1, decide_false, Bool.false_eq_true, if_false, beq_iff_eq, false_iff]; omega
theorem number_eq (c : C) (o : O) (h1 : 1 ≤ o.code) (h2 : o.code ≤ 17) : S_isNumber c o = S_rIn o.n (S_rOperands o.code c.cs.length).2.1 (S_rOperands o.code c.cs.length).2.2 := by
 have : o.code = 1 ∨ o.code = 2 ∨ o.code = 3 ∨ o.code = 4 ∨ o.code = 5 ∨ o.code = 6 ∨ (7 ≤ o.code ∧ o.code ≤ 16) ∨ o.code = 17 := by omega
 unfold S_isNumber S_rOperands
 rcases this with h | h | h | h | h | h | h | h
 ·simp [h, within_eq]
 ·simp [h, within_eq]
 ·simp [h, within_eq]
 ·simp [h, within_eq]
 ·simp [h, rIn_0]
 ·simp [h, rIn_0]
 ·have e1 : ¬ o.code = 1 := by omega
  have e2 : ¬ o.code = 2 := by omega
  have e3 : ¬ o.code = 3 := by omega
  have e4 : ¬ o.code = 4 := by omega
  have e5 : ¬ o.code = 5 := by omega
  have e6 : ¬ o.code = 6 := by omega
  simp [e1, e2, e3, e4, e5, e6, h.1, h.2, rIn_0]
 ·simp [h, rIn_0]
def opnd (num m : Int) (j : Nat) (x : Int) : Bool := if (j : Int) < m then S_rIn x 0 (IntKind.i64.wrap (num - 1)) else x == 0
theorem step_opnd {num m x : Int} {j : Nat} : isL (F_rIsOp num m j x ()) = opnd num m j x := by
 unfold F_rIsOp opnd
 by_cases h : (j : Int) < m
 ·have n : ¬ ((j : Int) ≥ m) := by omega
  cases h2 : S_rIn x 0 (IntKind.i64.wrap (num - 1)) <;> simp [h, n, isL]
 ·have n : ((j : Int) ≥ m) := by omega
  by_cases h2 : x = 0 <;> simp [h, n, h2, isL, bne]
theorem isL_cons {α ρ : Type} {F : Nat → α → Unit → Unit ⊕ ρ} (a : α) (l : List α) (i : Nat) : isL (runL F (a :: l) i ()) = (isL (F i a ()) && isL (runL F l (i + 1) ())) := by
 simp only [runL]
 cases F i a () with
 | inl s => simp [isL]
 | inr r => simp [isL]
theorem isL_all {α ρ : Type} {F : Nat → α → Unit → Unit ⊕ ρ} : ∀ (l : List α) (i : Nat), isL (runL F l i ()) = true ↔ ∀ k x, l[k]? = some x → isL (F (i + k) x ()) = true
 | [], i => by simp [runL, isL]
 | a :: l, i => by
  rw [isL_cons, Bool.and_eq_true, isL_all l (i + 1)]
  constructor
  ·rintro ⟨h1, h2⟩ k x hk
   cases k with
   | zero => simp only [List.getElem?_cons_zero, Option.some.injEq] at hk; subst hk; exact h1
   | succ k => simp only [List.getElem?_cons_succ] at hk; have := h2 k x hk; rwa [show i + 1 + k = i + (k + 1) by omega] at this
  ·intro h
   refine ⟨h 0 a rfl, fun k x hk => ?_⟩
   have := h (k + 1) x (by simpa using hk)
   rwa [show i + (k + 1) = i + 1 + k by omega] at this
theorem rIsOp_eq (o : O) (i nc : Int) : S_rIsOp o i nc = (S_rIn o.n (S_rOperands o.code nc).2.1 (S_rOperands o.code nc).2.2 && (opnd i (S_rOperands o.code nc).1 0 o.a && (opnd i (S_rOperands o.code nc).1 1 o.b && opnd i (S_rOperands o.code nc).1 2 o.c))) := by
 unfold S_rIsOp
 have e : isL (runL (F_rIsOp i ((S_rOperands o.code nc).1)) (([o.a, o.b, o.c] : List Int)) 0 ()) = (opnd i (S_rOperands o.code nc).1 0 o.a && (opnd i (S_rOperands o.code nc).1 1 o.b && opnd i (S_rOperands o.code nc).1 2 o.c)) := by
  rw [isL_cons, isL_cons, isL_cons, step_opnd, step_opnd, step_opnd]
  simp [runL, isL]
 rw [e]
 cases S_rIn o.n (S_rOperands o.code nc).2.1 (S_rOperands o.code nc).2.2
 ·simp
 ·cases (opnd i (S_rOperands o.code nc).1 0 o.a && (opnd i (S_rOperands o.code nc).1 1 o.b && opnd i (S_rOperands o.code nc).1 2 o.c))
  ·simp
  ·simp
theorem operands_many (code nc : Int) (h1 : 1 ≤ code) (h2 : code ≤ 17) : (S_rOperands code nc).1 = S_arity code := by
 have : code = 1 ∨ code = 2 ∨ code = 3 ∨ code = 4 ∨ code = 5 ∨ code = 6 ∨ (7 ≤ code ∧ code ≤ 16) ∨ code = 17 := by omega
 unfold S_rOperands S_arity
 rcases this with h | h | h | h | h | h | h | h
 ·simp [h]
 ·simp [h]
 ·simp [h]
 ·simp [h]
 ·simp [h]
 ·simp [h]
 ·have e1 : ¬ code = 1 := by omega
  have e2 : ¬ code = 2 := by omega
  have e3 : ¬ code = 3 := by omega
  have e4 : ¬ code = 4 := by omega
  have e5 : ¬ code = 5 := by omega
  have e6 : ¬ code = 6 := by omega
  have e7 : ¬ code ≤ 4 := by omega
  have e8 : ¬ code ≤ 6 := by omega
  simp [e1, e2, e3, e4, e5, e6, e7, e8, h.1, h.2]
 ·simp [h]
theorem isOp_eq (c : C) (i : Int) (o : O) : S_isOp c i o = S_rIsOp o i c.cs.length := by
 rw [rIsOp_eq]
 unfold S_isOp
 by_cases h1 : o.code < 1
 ·have : S_rOperands o.code c.cs.length = (-1, 0, -1) := by
   unfold S_rOperands
   have e1 : ¬ o.code = 1 := by omega
   have e2 : ¬ o.code = 2 := by omega
   have e3 : ¬ o.code = 3 := by omega
   have e4 : ¬ o.code = 4 := by omega
   have e5 : ¬ o.code = 5 := by omega
   have e6 : ¬ o.code = 6 := by omega
   have e7 : ¬ 7 ≤ o.code := by omega
   have e8 : ¬ o.code = 17 := by omega
   simp [e1, e2, e3, e4, e5, e6, e7, e8]
  rw [this]
  have : S_rIn o.n 0 (-1) = false := by
   unfold S_rIn; by_cases h : o.n ≥ 0 <;> simp [h] <;> omega
  simp [h1, this]
 ·by_cases h2 : o.code > 17
  ·have : S_rOperands o.code c.cs.length = (-1, 0, -1) := by
    unfold S_rOperands
    have e1 : ¬ o.code = 1 := by omega
    have e2 : ¬ o.code = 2 := by omega
    have e3 : ¬ o.code = 3 := by omega
    have e4 : ¬ o.code = 4 := by omega
    have e5 : ¬ o.code = 5 := by omega
    have e6 : ¬ o.code = 6 := by omega
    have e7 : 7 ≤ o.code := by omega
    have e8 : ¬ o.code = 17 := by omega
    have e9 : ¬ o.code ≤ 16 := by omega
    simp [e1, e2, e3, e4, e5, e6, e7, e8, e9]
   rw [this]
   have : S_rIn o.n 0 (-1) = false := by
    unfold S_rIn; by_cases h : o.n ≥ 0 <;> simp [h] <;> omega
   simp [h1, h2, this]
  ·rw [if_neg (by simpa using h1), if_neg (by simpa using h2)]
   unfold S_isOpA
   rw [number_eq c o (by omega) (by omega), operands_many o.code _ (by omega) (by omega)]
   cases S_rIn o.n (S_rOperands o.code c.cs.length).2.1 (S_rOperands o.code c.cs.length).2.2
   ·simp
   ·simp only [within_eq, Bool.not_true, Bool.false_eq_true, if_false, Bool.true_and]
    rcases arity_cases o.code (by omega) (by omega) with ⟨_, h⟩ | ⟨_, _, h⟩ | ⟨_, _, h⟩ | ⟨_, h⟩ <;> rw [h]
    ·simp [opnd, rIn_0, Bool.and_assoc]
    ·simp only [show (1 : Int).toNat = 1 from rfl, List.take, List.drop, List.all_cons, List.all_nil, opnd, rIn_0]
     cases S_rIn o.a 0 (IntKind.i64.wrap (i - 1)) <;> simp
    ·simp only [show (2 : Int).toNat = 2 from rfl, List.take, List.drop, List.all_cons, List.all_nil, opnd, rIn_0]
     cases S_rIn o.a 0 (IntKind.i64.wrap (i - 1)) <;> cases S_rIn o.b 0 (IntKind.i64.wrap (i - 1)) <;> simp
    ·simp only [show (3 : Int).toNat = 3 from rfl, List.take, List.drop, List.all_cons, List.all_nil, opnd]
     cases S_rIn o.a 0 (IntKind.i64.wrap (i - 1)) <;> cases S_rIn o.b 0 (IntKind.i64.wrap (i - 1)) <;> simp
theorem noChoice_eq (i : Nat) (x : K) : S_isNoChoice x = !isL (F_rCheckK i x ()) := by
 unfold S_isNoChoice F_rCheckK
 simp only [within_eq, List.all_cons, List.all_nil, Bool.and_true]
 by_cases h1 : -9999 ≤ x.lo ∧ x.lo ≤ x.hi
 ·have a1 : S_rIn x.lo (-9999) x.hi = true := by unfold S_rIn; simp [h1.1, h1.2]
  by_cases h2 : x.hi ≤ 9999
  ·have w1 : IntKind.i64.wrap (x.hi - x.lo) = x.hi - x.lo := wrap_small (by omega) (by omega)
   have w2 : IntKind.i64.wrap (x.hi - x.lo + 1) = x.hi - x.lo + 1 := wrap_small (by omega) (by omega)
   have a2 : S_rIn x.lo (-9999) 9999 = true := by unfold S_rIn; simp [h1.1]; omega
   have a3 : S_rIn x.hi (-9999) 9999 = true := by unfold S_rIn; simp [h2]; omega
   have n : ¬ x.hi > 9999 := by omega
   rw [w1, w2]
   simp only [a1, a2, a3, n, Bool.and_self, Bool.not_true, Bool.false_eq_true, if_false, decide_false]
   by_cases h3 : x.hi - x.lo ≥ 12
   ·have : S_rIn (x.hi - x.lo + 1) 1 12 = false := by unfold S_rIn; simp; omega
    simp [h3, this, isL]
   ·have : S_rIn (x.hi - x.lo + 1) 1 12 = true := by
     unfold S_rIn; rw [if_pos (by simp; omega)]; simp; omega
    simp [h3, this, isL]
  ·have a3 : S_rIn x.hi (-9999) 9999 = false := by unfold S_rIn; simp [h2]
   have n : x.hi > 9999 := by omega
   simp [a1, a3, n, isL]
 ·have a1 : S_rIn x.lo (-9999) x.hi = false := by
   unfold S_rIn
   by_cases h : x.lo ≥ -9999
   ·simp [h]; omega
   ·simp [h]
  have e : isL (if (!S_rIn x.lo (-9999) x.hi) = true then Sum.inr (0, i, x, ()) else if decide (x.hi > 9999) = true then Sum.inr (1, i, x, ()) else if decide (IntKind.i64.wrap (x.hi - x.lo) ≥ 12) = true then Sum.inr (2, i, x, ()) else (.inl () : Unit ⊕ (Nat × Nat × K × Unit))) = false := by simp [a1, isL]
  rw [e]
  by_cases hA : S_rIn x.lo (-9999) 9999 = true ∧ S_rIn x.hi (-9999) 9999 = true
  ·have b1 : -9999 ≤ x.lo ∧ x.lo ≤ 9999 := by
    have := hA.1; unfold S_rIn at this; split at this
    ·rename_i h; simp at h this; omega
    ·cases this
   have b2 : -9999 ≤ x.hi ∧ x.hi ≤ 9999 := by
    have := hA.2; unfold S_rIn at this; split at this
    ·rename_i h; simp at h this; omega
    ·cases this
   have w1 : IntKind.i64.wrap (x.hi - x.lo) = x.hi - x.lo := wrap_small (by omega) (by omega)
   have w2 : IntKind.i64.wrap (x.hi - x.lo + 1) = x.hi - x.lo + 1 := wrap_small (by omega) (by omega)
   have : S_rIn (x.hi - x.lo + 1) 1 12 = false := by
    unfold S_rIn; rw [if_neg (by simp; omega)]
   rw [w1, w2]
   simp [hA.1, hA.2, this]
  ·have : (S_rIn x.lo (-9999) 9999 && S_rIn x.hi (-9999) 9999) = false := by
    cases ha : S_rIn x.lo (-9999) 9999 <;> cases hb : S_rIn x.hi (-9999) 9999 <;> simp_all
   simp [this]
theorem any_isL {α ρ : Type} {F : Nat → α → Unit → Unit ⊕ ρ} {g : α → Bool} (h : ∀ i x, g x = !isL (F i x ())) : ∀ (l : List α) (i : Nat), l.any g = !isL (runL F l i ())
 | [], _ => by simp [runL, isL]
 | a :: l, i => by rw [isL_cons, List.any_cons, any_isL h l (i + 1), h i a, Bool.not_and]
theorem isL_cong {α ρ ρ' : Type} {F : Nat → α → Unit → Unit ⊕ ρ} {G : Nat → α → Unit → Unit ⊕ ρ'} (h : ∀ i x, isL (F i x ()) = isL (G i x ())) : ∀ (l : List α) (i : Nat), isL (runL F l i ()) = isL (runL G l i ())
 | [], _ => rfl
 | a :: l, i => by rw [isL_cons, isL_cons, isL_cong h l (i + 1), h i a]
theorem roots_eq (c : C) : ∀ (l : List Int) (i : Nat), S_within l 0 (IntKind.i64.wrap (((c.os.length : Nat) : Int) - 1)) = isL (runL (F_rCheckR c) l i ())
 | [], i => by simp [within_eq, runL, isL]
 | a :: l, i => by
  have := roots_eq c l (i + 1)
  rw [isL_cons, ← this, within_eq, within_eq, List.all_cons]
  congr 1
  unfold F_rCheckR
  cases S_rIn a 0 (IntKind.i64.wrap (((c.os.length : Nat) : Int) - 1)) <;> simp [isL]
theorem check11_eq (c : C) : S_rCheck11 c = S_Check c := by
 unfold S_rCheck11 S_Check
 by_cases h1 : ((c.cs.length : Nat) : Int) > 6
 ·simp [h1]
 ·by_cases h2 : ((c.os.length : Nat) : Int) > 3000
  ·simp [h1, h2]
  ·by_cases h3 : ((c.rs.length : Nat) : Int) > 3000
   ·simp [h1, h2, h3]
   ·simp only [h1, h2, h3, decide_false, Bool.false_eq_true, if_false]
    rw [any_isL (F := F_rCheckK) noChoice_eq c.cs 0, roots_eq c c.rs 0]
    have e : isL (runL (F_Check c) c.os 0 ()) = isL (runL (F_rCheckO c) c.os 0 ()) := by
     apply isL_cong
     intro i x
     unfold F_Check F_rCheckO
     rw [isOp_eq]
    rw [e]
    cases isL (runL F_rCheckK c.cs 0 ())
    ·simp
    ·cases isL (runL (F_rCheckO c) c.os 0 ()) <;> cases isL (runL (F_rCheckR c) c.rs 0 ()) <;> rfl
theorem check_eq (c : C) : S_rCheck c = S_check c := by
 unfold S_rCheck S_check
 rw [check11_eq, any_isL (F := F_rCheckP) (g := fun o => S_check1 o) (fun i x => by
  unfold S_check1 F_rCheckP
  cases (x.code == 4) <;> rfl) c.os 0]
 cases isL (runL F_rCheckP c.os 0 ()) <;> simp
theorem core_ok {c : C} (h : ((S_check c) != 0) = false) : (∀ k ∈ c.cs, KGood k) ∧ ∀ (i : Nat) (o : O), c.os[i]? = some o → RuleOk o i c.cs.length ∧ OGood o c.cs.length := by
 have hk := check_ok h
 refine ⟨fun k hk' => ?_, fun i o ho => ⟨(hk.2.1 i o ho).1, ?_⟩⟩
 ·have := Check_cs hk.1 k hk'
  exact ⟨this.1, this.2.1, this.2.2.1⟩
 ·have hi : i < 4000 := by
   have : i < c.os.length := by
    rcases Nat.lt_or_ge i c.os.length with h | h
    ·exact h
    ·rw [List.getElem?_eq_none h] at ho; cases ho
   have := hk.2.2.2.1
   omega
  have h2 := (isOp_ok hi (by have := hk.2.2.1; omega) (hk.2.1 i o ho).2).2.2.1
  have hr := (hk.2.1 i o ho).1
  refine ⟨fun e => ?_, fun e => ?_, fun e => hr.ch e⟩
  ·unfold S_isNumber at h2
   rw [if_pos (by simpa using e), within_eq] at h2
   simp only [List.all_cons, List.all_nil, Bool.and_true, S_rIn] at h2
   split at h2
   ·rename_i h; simp at h h2; omega
   ·cases h2
  ·unfold S_isNumber at h2
   rw [if_neg (by simp [e]), if_pos (by simpa using e), within_eq] at h2
   simp only [List.all_cons, List.all_nil, Bool.and_true, S_rIn] at h2
   split at h2
   ·rename_i h; simp at h h2; omega
   ·cases h2
theorem reach_bld {c : C} {kn : B} (hc : ∀ k ∈ c.cs, KGood k) : ∀ (os : List O) (l : List B), (∀ (i : Nat) (o : O), os[i]? = some o → RuleOk o (l.length + i) c.cs.length ∧ OGood o c.cs.length) → (∀ b ∈ l, Good b) →
  (reachS (fun (_ : Unit) _ b => ((), b)) c.cs os () l).2 = bld (gOf c (-1) kn) os l.length l ∧ ∀ b ∈ bld (gOf c (-1) kn) os l.length l, Good b
 | [], l, _, hl => ⟨rfl, hl⟩
 | o :: os, l, ho, hl => by
  have h0 := ho 0 o rfl
  have hr := rule_eq (c := c) (l := l) h0.1 hl hc h0.2
  have hg : gOf c (-1) kn l l.length o = [S_rRule c l o] := by
   unfold gOf
   rw [if_neg (by simp)]
  have ih := reach_bld (kn := kn) hc os (l ++ [S_rRule c l o]) (fun i o' ho' => by
   have := ho (i + 1) o' (by simpa using ho')
   rw [List.length_append, List.length_singleton, show l.length + 1 + i = l.length + (i + 1) by omega]
   exact this) (fun b hb => by
    rcases List.mem_append.mp hb with hb | hb
    ·exact hl b hb
    ·simp only [List.mem_singleton] at hb; subst hb; exact hr.2)
  simp only [reachS, bld, hg, hr.1]
  rw [List.length_append, List.length_singleton] at ih
  exact ih
theorem of_eq {c : C} (h : ((S_check c) != 0) = false) (kn : B) : reachL c.cs c.os = S_rOf c (-1) kn ∧ ∀ b ∈ S_rOf c (-1) kn, Good b := by
 have hk := core_ok h
 have := reach_bld (kn := kn) hk.1 c.os [] (fun i o ho => by simpa using hk.2 i o ho) (by simp)
 exact this
theorem same_refl (l : List B) : S_same l l = true := by
 unfold S_same
 rw [if_neg (by simp)]
 have : isL (runL (F_same l) l 0 ()) = true := by
  rw [isL_all]
  intro k x hk
  unfold F_same
  rw [Nat.zero_add, List.getD_eq_getElem?_getD, Int.toNat_natCast, hk]
  simp [isL]
 rw [this]; rfl
end Go.Proofs.YtfhiejgoemcelaaGreat
namespace Go.Proofs.YtfhiejgoemcelaaGreat
open Go Tw
theorem valid_eq {r : B} (h0 : 0 ≤ r.f) (h1 : r.f ≤ 255) : S_valid r = S_rValid r := by
 obtain ⟨l, u, f⟩ := r
 simp only at h0 h1
 simp only [S_valid, S_rValid, S_with, ors, or8_0 h0 h1, B.mk.injEq, and_true, decide_eq_true_eq, beq_iff_eq]
 by_cases a : l = 1
 ·subst a
  by_cases b : u = 0
  ·subst b; simp
  ·simp [b]
 ·simp [a]
theorem inside_eq (b x : B) : S_inside b x = S_rInside b x := by
 simp only [S_inside, S_rInside, Bool.not_eq_true', decide_eq_false_iff_not, decide_eq_true_eq]
 split
 ·split
  ·rfl
  ·rename_i h
   split
   ·rfl
   ·rename_i h2
    split
    ·symm; simp only [decide_eq_false_iff_not]; omega
    ·rfl
 ·rfl
theorem valid_good {r : B} (h0 : 0 ≤ r.f) (h : S_rValid r = true) : Good r := by
 obtain ⟨l, u, f⟩ := r
 simp only [S_rValid, decide_eq_true_eq, beq_iff_eq] at h
 simp only at h0
 split at h
 ·cases h
 ·rename_i hf
  refine ⟨?_, h0, by simp only; omega⟩
  simp only
  split at h
  ·split at h
   ·right; omega
   ·split at h
    ·split at h
     ·simp only [decide_eq_true_eq] at h; left; omega
     ·cases h
    ·cases h
  ·split at h
   ·split at h
    ·simp only [decide_eq_true_eq] at h; left; omega
    ·cases h
   ·cases h
theorem common_eq (b x : B) : S_common b x = S_rBoth b x := by
 have h := and8_bv b.f x.f
 have h2 : ∀ y : Int, orI .u8 0 (andI .u8 b.f x.f) = andI .u8 b.f x.f := fun _ => or8_0 (by rw [h]; omega) (by rw [h]; have := (bv b.f &&& bv x.f).isLt; omega)
 simp only [S_common, S_rBoth, S_with, ors, h2 0, Bool.not_eq_true', decide_eq_false_iff_not, decide_eq_true_eq, Int.not_le, gt_iff_lt]
theorem good_both {a b : B} (ha : Good a) (hb : Good b) : Good (S_rBoth a b) := by
 have hf := and8_15 (y := b.f) ha.f0 ha.f1
 obtain ⟨al, ah, af⟩ := a
 obtain ⟨bl, bh, bf⟩ := b
 have na := ha.num
 have nb := hb.num
 simp only at na nb hf
 unfold S_rBoth
 simp only
 split
 ·exact ⟨.inr ⟨rfl, rfl⟩, hf.1, hf.2⟩
 ·split
  ·exact ⟨.inr ⟨rfl, rfl⟩, hf.1, hf.2⟩
  ·split
   ·exact ⟨.inr ⟨rfl, rfl⟩, hf.1, hf.2⟩
   ·rename_i h1 h2 h3
    simp only [Bool.not_eq_true', decide_eq_false_iff_not, decide_eq_true_eq] at h1 h2 h3
    refine ⟨.inl ?_, hf.1, hf.2⟩
    simp only [maxI, minI] at h3 ⊢
    revert h3
    by_cases c1 : al < bl <;> by_cases c2 : bh < ah <;> simp only [c1, c2, if_true, if_false] <;> omega
theorem clip_bld {c : C} {op : Int} {kn : B} (hc : ∀ k ∈ c.cs, KGood k) (hn : Good kn) : ∀ (os : List O) (s : Bool × Bool) (l : List B), (∀ (i : Nat) (o : O), os[i]? = some o → RuleOk o (l.length + i) c.cs.length ∧ OGood o c.cs.length) → (∀ b ∈ l, Good b) →
  (reachS (gClip op kn) c.cs os s l).2 = bld (gOf c op kn) os l.length l ∧ (∀ b ∈ bld (gOf c op kn) os l.length l, Good b) ∧
  (∀ j : Nat, l.length ≤ j → (j : Int) = op → j < l.length + os.length → (reachS (gClip op kn) c.cs os s l).1.1 = !decide ((bld (gOf c op kn) os l.length l).getD j B0 = ⟨1, 0, 0⟩)) ∧
  (op < l.length → (reachS (gClip op kn) c.cs os s l).1 = s) ∧ (∀ j, j < l.length → (bld (gOf c op kn) os l.length l).getD j B0 = l.getD j B0)
 | [], s, l, _, hl => ⟨rfl, hl, fun j h1 _ h3 => by simp only [List.length_nil] at h3; omega, fun _ => rfl, fun _ _ => rfl⟩
 | o :: os, s, l, ho, hl => by
  have h0 := ho 0 o rfl
  have hr := rule_eq (c := c) (l := l) h0.1 hl hc h0.2
  have hg : gOf c op kn l l.length o = [if ((l.length : Int) == op) = true then S_rBoth (S_rRule c l o) kn else S_rRule c l o] := rfl
  have hs : gClip op kn s l.length (S_rRule c l o) = (if ((l.length : Int) == op) = true then ((!decide (S_rBoth (S_rRule c l o) kn = ⟨1, 0, 0⟩), true), S_rBoth (S_rRule c l o) kn) else (s, S_rRule c l o)) := by
   unfold gClip; rw [common_eq]
   by_cases e : (l.length : Int) = op
   ·rw [if_neg (by simp [e]), if_pos (by simp [e])]
   ·rw [if_pos (by simp [e]), if_neg (by simp [e])]
  have hG : Good (if ((l.length : Int) == op) = true then S_rBoth (S_rRule c l o) kn else S_rRule c l o) := by
   split
   ·exact good_both hr.2 hn
   ·exact hr.2
  simp only [reachS, bld, hg, hr.1, hs]
  have e2 : (if ((l.length : Int) == op) = true then ((!decide (S_rBoth (S_rRule c l o) kn = ⟨1, 0, 0⟩), true), S_rBoth (S_rRule c l o) kn) else (s, S_rRule c l o)).2 = (if ((l.length : Int) == op) = true then S_rBoth (S_rRule c l o) kn else S_rRule c l o) := by split <;> rfl
  rw [e2]
  generalize hx : (if ((l.length : Int) == op) = true then S_rBoth (S_rRule c l o) kn else S_rRule c l o) = x at hG ⊢
  generalize hy : (if ((l.length : Int) == op) = true then ((!decide (S_rBoth (S_rRule c l o) kn = ⟨1, 0, 0⟩), true), S_rBoth (S_rRule c l o) kn) else (s, S_rRule c l o)).1 = y
  have ih := clip_bld (op := op) hc hn os y (l ++ [x]) (fun i o' ho' => by
   have := ho (i + 1) o' (by simpa using ho')
   rw [List.length_append, List.length_singleton, show l.length + 1 + i = l.length + (i + 1) by omega]
   exact this) (fun b hb => by
    rcases List.mem_append.mp hb with hb | hb
    ·exact hl b hb
    ·simp only [List.mem_singleton] at hb; subst hb; exact hG)
  rw [List.length_append, List.length_singleton] at ih
  refine ⟨ih.1, ih.2.1, fun j h1 h2 h3 => ?_, fun hop => ?_, fun j hj => ?_⟩
  ·by_cases hj : j = l.length
   ·subst hj
    rw [ih.2.2.2.1 (by omega), ih.2.2.2.2 _ (by omega)]
    rw [if_pos (by simpa using h2)] at hx hy
    subst hy; subst hx
    simp [List.getD_eq_getElem?_getD]
   ·exact ih.2.2.1 j (by omega) h2 (by simp only [List.length_cons] at h3; omega)
  ·rw [ih.2.2.2.1 (by omega), ← hy, if_neg (by simp; omega)]
  ·rw [ih.2.2.2.2 j (by omega)]
   simp only [List.getD_eq_getElem?_getD, List.getElem?_append_left hj]
theorem clip_eq {c : C} {op : Int} {kn : B} (hk : ((S_check c) != 0) = false) (hn : Good kn) (h0 : 0 ≤ op) (h1 : op < c.os.length) :
  (reachS (gClip op kn) c.cs c.os (true, false) []).2 = S_rOf c op kn ∧ (∀ b ∈ S_rOf c op kn, Good b) ∧ (reachS (gClip op kn) c.cs c.os (true, false) []).1.1 = !S_rEmpty ((S_rOf c op kn).getD op.toNat B0) := by
 have hc := core_ok hk
 have := clip_bld (op := op) hc.1 hn c.os (true, false) [] (fun i o ho => by simpa using hc.2 i o ho) (by simp)
 refine ⟨this.1, this.2.1, ?_⟩
 have h3 := this.2.2.1 op.toNat (by simp) (by omega) (by simp; omega)
 rw [h3]
 have hg := good_getD this.2.1 op.toNat
 show (!decide ((S_rOf c op kn).getD op.toNat B0 = ⟨1, 0, 0⟩)) = _
 change Good ((S_rOf c op kn).getD op.toNat B0) at hg
 generalize (S_rOf c op kn).getD op.toNat B0 = z at hg
 obtain ⟨zl, zh, zf⟩ := z
 have hz := hg.num
 simp only at hz
 congr 1
 simp only [S_rEmpty, B.mk.injEq, Bool.not_eq_true', decide_eq_false_iff_not]
 split
 ·have : zl = 1 ∧ zh = 0 := by omega
  simp [this, Bool.beq_eq_decide_eq]
 ·simp only [decide_eq_false_iff_not]; omega
theorem runL_cong {α ρ : Type} {F G : Nat → α → Unit → Unit ⊕ ρ} : ∀ (l : List α) (i : Nat), (∀ k x, l[k]? = some x → F (i + k) x () = G (i + k) x ()) → runL F l i () = runL G l i ()
 | [], _, _ => rfl
 | a :: l, i, h => by
  have h0 := h 0 a rfl
  simp only [Nat.add_zero] at h0
  simp only [runL, h0]
  cases G i a () with
  | inl s => exact runL_cong l (i + 1) fun k x hx => by have := h (k + 1) x (by simpa using hx); rwa [show i + (k + 1) = i + 1 + k by omega] at this
  | inr r => rfl
theorem weak_run {c : C} {l : List B} (hk : ((S_check c) != 0) = false) (hl : ∀ b ∈ l, Good b) (hlen : c.os.length ≤ l.length) : runL (F_Weak c l) c.os 0 () = runL (F_rWeak c l) c.os 0 () := by
 have hc := core_ok hk
 refine runL_cong _ _ fun k x hx => ?_
 have h := hc.2 k x hx
 have hlt : k < c.os.length := by
  rcases Nat.lt_or_ge k c.os.length with h | h
  ·exact h
  ·rw [List.getElem?_eq_none h] at hx; cases hx
 unfold F_Weak F_rWeak
 rw [(rule_eq (c := c) (l := l) (h.1.mono (by omega)) hl hc.1 h.2).1, inside_eq]
theorem all_eq {l : List B} (hw : ∀ b ∈ l, 0 ≤ b.f ∧ b.f ≤ 255) : S_all l = isL (runL F_rAre l 0 ()) := by
 have h1 : S_all l = !(l.any fun x => !S_rValid x) := by
  unfold S_all
  congr 1
  induction l with
  | nil => rfl
  | cons a l ih =>
   have := valid_eq (hw a List.mem_cons_self).1 (hw a List.mem_cons_self).2
   simp only [List.any_cons, S_all1, S_Weak1, this]
   congr 1
   exact ih fun b hb => hw b (List.mem_cons_of_mem _ hb)
 rw [h1, any_isL (F := F_rAre) (g := fun x => !S_rValid x) (fun i x => by unfold F_rAre; cases S_rValid x <;> rfl) l 0]
 cases isL (runL F_rAre l 0 ()) <;> rfl
theorem are_valid {l : List B} (h : isL (runL F_rAre l 0 ()) = true) : ∀ b ∈ l, S_rValid b = true := by
 intro b hb
 obtain ⟨k, hk⟩ := List.getElem?_of_mem hb
 have := (isL_all l 0).mp h k b hk
 unfold F_rAre at this
 cases hv : S_rValid b with
 | true => rfl
 | false => rw [hv] at this; cases this
end Go.Proofs.YtfhiejgoemcelaaGreat
namespace Go.Proofs.YtfhiejgoemcelaaGreat
open Go Tw Pv
structure VGood (v : V) : Prop where
 f0 : 0 ≤ v.f
 f1 : v.f ≤ 4
 n : v.f = 0 → -9999 ≤ v.n ∧ v.n ≤ 9999
 z : v.f ≠ 0 → v.n = 0
theorem withinV1 (k : Int) : S_withinV [k] (-9999) 9999 = (decide (-9999 ≤ k) && decide (k ≤ 9999)) := by
 simp only [S_withinV, S_within1V, List.any_cons, List.any_nil, Bool.or_false]
 by_cases h : k < -9999
 ·simp [h]; omega
 ·by_cases h2 : k > 9999 <;> simp [h, h2] <;> omega
theorem isCell_good {v : V} (h : VGood v) : S_isCell v = true := by
 obtain ⟨f, n⟩ := v
 have h0 := h.f0; have h1 := h.f1; have h2 := h.n; have h3 := h.z
 simp only at h0 h1 h2 h3
 unfold S_isCell
 simp only [withinV1, beq_iff_eq]
 by_cases hf : f = 0
 ·subst hf; simp; exact h2 rfl
 ·simp [hf, h1, h3 hf]
theorem are2 {a b : V} (ha : VGood a) (hb : VGood b) : (!(S_areCells [a, b])) = false := by simp [S_areCells, S_are1, isCell_good ha, isCell_good hb]
theorem are3 {a b c : V} (ha : VGood a) (hb : VGood b) (hc : VGood c) : (!(S_areCells [a, b, c])) = false := by simp [S_areCells, S_are1, isCell_good ha, isCell_good hb, isCell_good hc]
theorem first1 (a : V) : S_firstFault [a] = if a.f ≠ 0 then (a, true) else (⟨0, 0⟩, false) := by
 by_cases h : a.f = 0
 ·simp [S_firstFault, S_IndexFuncV, runL, F_indexV, S_first1, isL, getR, h]
 ·simp [S_firstFault, S_IndexFuncV, runL, F_indexV, S_first1, isL, getR, h]
theorem first2 (a b : V) : S_firstFault [a, b] = if a.f ≠ 0 then (a, true) else if b.f ≠ 0 then (b, true) else (⟨0, 0⟩, false) := by
 by_cases h : a.f = 0
 ·by_cases h2 : b.f = 0
  ·simp [S_firstFault, S_IndexFuncV, runL, F_indexV, S_first1, isL, getR, h, h2]
  ·simp [S_firstFault, S_IndexFuncV, runL, F_indexV, S_first1, isL, getR, h, h2]
 ·simp [S_firstFault, S_IndexFuncV, runL, F_indexV, S_first1, isL, getR, h]
theorem make_eq (k : Int) : S_vMake k = S_rMake k := by
 unfold S_vMake S_rMake S_vfault S_rFaultV S_rNumber
 rw [withinV1]
 by_cases h : k < -9999
 ·rw [if_pos (by simp; omega), if_pos (by simpa using h)]
 ·rw [if_neg (c := decide (k < -9999) = true) (by simpa using h)]
  by_cases h2 : k > 9999
  ·rw [if_pos (by simp; omega), if_pos (by simpa using h2)]
  ·rw [if_neg (by simp; omega), if_neg (by simpa using h2)]
theorem make_good (k : Int) : VGood (S_rMake k) := by
 unfold S_rMake S_rFaultV S_rNumber
 split
 ·exact ⟨by decide, by decide, by simp, by simp⟩
 ·split
  ·exact ⟨by decide, by decide, by simp, by simp⟩
  ·rename_i h1 h2
   simp at h1 h2
   exact ⟨by simp, by simp, fun _ => by simp only; omega, by simp⟩
theorem vtruth_eq (b : Bool) : S_vtruth b = S_rBool b := by cases b <;> rfl
theorem bool_good (b : Bool) : VGood (S_rBool b) := by cases b <;> exact ⟨by decide, by decide, fun _ => by decide, by decide⟩
theorem quot_rest {a b : Int} (hb : b ≠ 0) : a.tmod b = 0 ∨ True → (S_quot a b = (if a.tmod b ≠ 0 ∧ (decide (a.tmod b < 0) != decide (b < 0)) = true then a.tdiv b - 1 else a.tdiv b)) ∧ a - b * S_quot a b = (if a.tmod b ≠ 0 ∧ (decide (a.tmod b < 0) != decide (b < 0)) = true then a.tmod b + b else a.tmod b) ∧ (a - b * S_quot a b).natAbs < b.natAbs := by
 intro _
 have hq := @Int.tdiv_eq_ediv a b
 have hr := @Int.tmod_eq_emod a b
 have hm := Int.mul_ediv_add_emod a b
 have h0 := Int.emod_nonneg a hb
 have h1 := Int.emod_lt a hb
 have hd : b ∣ a ↔ a % b = 0 := ⟨Int.emod_eq_zero_of_dvd, Int.dvd_of_emod_eq_zero⟩
 generalize a.tdiv b = T at *
 generalize a.tmod b = R at *
 generalize hE : a / b = e at *
 generalize hM : a % b = m at *
 unfold S_quot
 have cT : 0 ≤ a ∨ b ∣ a → T = e ∧ R = m := fun h => by rw [if_pos h] at hq hr; omega
 rcases Int.lt_or_gt_of_ne hb with hb0 | hb0
 ·rw [if_pos hb0]
  have hsg : b.sign = -1 := Int.sign_eq_neg_one_of_neg hb0
  have hna : (b.natAbs : Int) = -b := by omega
  have cF : ¬ (0 ≤ a ∨ b ∣ a) → T = e - 1 ∧ R = m + b := fun h => by rw [if_neg h] at hq hr; omega
  rw [hna] at h1
  by_cases hm0 : m = 0
  ·have u := (Int.ediv_emod_unique (a := -a) (b := -b) (r := 0) (q := e) (by omega)).2 ⟨by rw [Int.neg_mul]; omega, by omega, by omega⟩
   rw [u.1]
   obtain ⟨c1, c2⟩ := cT (.inr (hd.2 hm0))
   subst c1; subst c2
   rw [if_neg (by simp [hm0]), if_neg (by simp [hm0])]
   omega
  ·have hnd : ¬ b ∣ a := fun h => hm0 (hd.1 h)
   have e1 : b * (e - 1) = b * e - b := by rw [Int.mul_sub, Int.mul_one]
   have u := (Int.ediv_emod_unique (a := -a) (b := -b) (r := -b - m) (q := e - 1) (by omega)).2 ⟨by rw [Int.neg_mul, e1]; omega, by omega, by omega⟩
   rw [u.1, e1]
   by_cases ha : 0 ≤ a
   ·obtain ⟨c1, c2⟩ := cT (.inl ha)
    subst c1; subst c2
    have hc : (R ≠ 0 ∧ (decide (R < 0) != decide (b < 0)) = true) := ⟨hm0, by simp [hb0]; omega⟩
    rw [if_pos hc, if_pos hc]
    omega
   ·obtain ⟨c1, c2⟩ := cF (by simp [ha, hnd])
    have hc : ¬ (R ≠ 0 ∧ (decide (R < 0) != decide (b < 0)) = true) := fun h => by
     have := h.2; simp [hb0] at this; omega
    rw [if_neg hc, if_neg hc]
    omega
 ·rw [if_neg (by omega), hE]
  have hsg : b.sign = 1 := Int.sign_eq_one_of_pos hb0
  have hna : (b.natAbs : Int) = b := by omega
  have cF : ¬ (0 ≤ a ∨ b ∣ a) → T = e + 1 ∧ R = m - b := fun h => by rw [if_neg h] at hq hr; omega
  rw [hna] at h1
  by_cases hc0 : 0 ≤ a ∨ b ∣ a
  ·obtain ⟨c1, c2⟩ := cT hc0
   have hc : ¬ (R ≠ 0 ∧ (decide (R < 0) != decide (b < 0)) = true) := fun h => by
    have := h.2; simp at this; omega
   rw [if_neg hc, if_neg hc]
   omega
  ·obtain ⟨c1, c2⟩ := cF hc0
   have hm0 : m ≠ 0 := fun h => hc0 (.inr (hd.2 h))
   have hc : (R ≠ 0 ∧ (decide (R < 0) != decide (b < 0)) = true) := ⟨by omega, by simp; omega⟩
   rw [if_pos hc, if_pos hc]
   omega
end Go.Proofs.YtfhiejgoemcelaaGreat
namespace Go.Proofs.YtfhiejgoemcelaaGreat
open Go Tw Pv
theorem wr {z : Int} (h1 : -1000000000 ≤ z) (h2 : z ≤ 1000000000) : IntKind.i64.wrap z = z := wrap_small (by omega) (by omega)
theorem vquot_eq {a b : Int} (a0 : -9999 ≤ a) (a1 : a ≤ 9999) (b0 : -9999 ≤ b) (b1 : b ≤ 9999) (hb : b ≠ 0) : S_vquotient a b = (S_quot a b, a - b * S_quot a b) ∧ (-9999 ≤ S_quot a b ∧ S_quot a b ≤ 9999) ∧ (-9999 ≤ a - b * S_quot a b ∧ a - b * S_quot a b ≤ 9999) ∧ IntKind.i64.wrap (a - IntKind.i64.wrap (b * S_quot a b)) = a - b * S_quot a b := by
 obtain ⟨h1, h2, h3⟩ := quot_rest (a := a) hb (.inr trivial)
 have hna : (a.tdiv b).natAbs ≤ a.natAbs := by rw [Int.natAbs_tdiv]; exact Nat.div_le_self _ _
 have hq : quoI .i64 a b = a.tdiv b := wr (by omega) (by omega)
 have hp : (b * S_quot a b).natAbs = b.natAbs * (S_quot a b).natAbs := Int.natAbs_mul _ _
 have hQ : (S_quot a b).natAbs ≤ 9999 := by
  rcases Nat.lt_or_ge 9999 (S_quot a b).natAbs with h | h
  ·have := Nat.mul_le_mul_left b.natAbs (show 10000 ≤ (S_quot a b).natAbs from h)
   generalize b * S_quot a b = p at *
   generalize b.natAbs * (S_quot a b).natAbs = r at *
   omega
  ·exact h
 refine ⟨?_, by omega, by generalize b * S_quot a b = p at *; omega, ?_⟩
 ·unfold S_vquotient remI
  rw [hq]
  have hw1 : IntKind.i64.wrap (a.tdiv b - 1) = a.tdiv b - 1 := wr (by omega) (by omega)
  have hrb : (a.tmod b).natAbs ≤ 9999 := by rw [Int.natAbs_tmod]; exact Nat.le_trans (Nat.mod_le _ _) (by omega)
  have hw2 : IntKind.i64.wrap (a.tmod b + b) = a.tmod b + b := wr (by omega) (by omega)
  rw [h2, h1, hw1, hw2]
  by_cases c1 : a.tmod b = 0
  ·rw [if_neg (by simp [c1]), if_neg (by simp [c1]), if_neg (by simp [c1])]
  ·rw [if_pos (by simpa using c1)]
   by_cases c2 : (decide (a.tmod b < 0) != decide (b < 0)) = true
   ·rw [if_pos c2, if_pos ⟨c1, c2⟩, if_pos ⟨c1, c2⟩]
   ·rw [if_neg c2, if_neg (fun h => c2 h.2), if_neg (fun h => c2 h.2)]
 ·rw [wr (z := b * S_quot a b) (by generalize b * S_quot a b = p at *; omega) (by generalize b * S_quot a b = p at *; omega)]
  exact wr (by generalize b * S_quot a b = p at *; omega) (by generalize b * S_quot a b = p at *; omega)
theorem rMake_in {k : Int} (h1 : -9999 ≤ k) (h2 : k ≤ 9999) : S_rMake k = S_rNumber k := by
 unfold S_rMake
 rw [if_neg (by simp; omega), if_neg (by simp; omega)]
theorem op2_of {g : Int → Int → V} {a b : V} (ha : VGood a) (hb : VGood b) : (if (!(S_areCells [a, b])) = true then ((⟨0, 0⟩ : V), (2 : Int)) else if (S_firstFault [a, b]).2 = true then ((S_firstFault [a, b]).1, 0) else (g a.n b.n, 0)).1 = if a.f ≠ 0 then a else if b.f ≠ 0 then b else g a.n b.n := by
 rw [are2 ha hb, first2]
 by_cases h : a.f = 0
 ·by_cases h2 : b.f = 0 <;> simp [h, h2]
 ·simp [h]
theorem op1_of {g : Int → V} {a : V} (ha : VGood a) : (if (!(S_isCell a)) = true then ((⟨0, 0⟩ : V), (2 : Int)) else if (S_firstFault [a]).2 = true then ((S_firstFault [a]).1, 0) else (g a.n, 0)).1 = if a.f ≠ 0 then a else g a.n := by
 rw [isCell_good ha, first1]
 by_cases h : a.f = 0 <;> simp [h]
theorem fpos {a : V} (ha : VGood a) (h : a.f ≠ 0) : decide (a.f > 0) = true := by have := ha.f0; simp; omega
theorem fzero {a : V} (h : a.f = 0) : decide (a.f > 0) = false := by simp [h]
theorem num_good {k : Int} (h1 : -9999 ≤ k) (h2 : k ≤ 9999) : VGood (S_rNumber k) := ⟨by simp [S_rNumber], by simp [S_rNumber], fun _ => ⟨h1, h2⟩, fun h => by simp [S_rNumber] at h⟩
theorem div_eq {a b : V} (ha : VGood a) (hb : VGood b) (h : a.f = 0) (h2 : b.f = 0) : S_divided1 S_duo4 a.n b.n = (if (b.n == 0) = true then S_rFaultV 1 else S_rNumber (S_quot a.n b.n)) ∧ VGood (if (b.n == 0) = true then S_rFaultV 1 else S_rNumber (S_quot a.n b.n)) := by
 have a9 := ha.n h; have b9 := hb.n h2
 unfold S_divided1 S_duo4
 by_cases hz : b.n = 0
 ·rw [if_pos (by simpa using hz), if_pos (by simpa using hz)]; exact ⟨rfl, ⟨by decide, by decide, by decide, by decide⟩⟩
 ·obtain ⟨q1, q2, _, _⟩ := vquot_eq a9.1 a9.2 b9.1 b9.2 hz
  rw [if_neg (by simpa using hz), if_neg (by simpa using hz), q1, make_eq, rMake_in q2.1 q2.2]
  exact ⟨rfl, num_good q2.1 q2.2⟩
theorem mod_eq {a b : V} (ha : VGood a) (hb : VGood b) (h : a.f = 0) (h2 : b.f = 0) : S_divided1 S_duo5 a.n b.n = (if (b.n == 0) = true then S_rFaultV 1 else S_rNumber (IntKind.i64.wrap (a.n - IntKind.i64.wrap (b.n * S_quot a.n b.n)))) ∧ VGood (if (b.n == 0) = true then S_rFaultV 1 else S_rNumber (IntKind.i64.wrap (a.n - IntKind.i64.wrap (b.n * S_quot a.n b.n)))) := by
 have a9 := ha.n h; have b9 := hb.n h2
 unfold S_divided1 S_duo5
 by_cases hz : b.n = 0
 ·rw [if_pos (by simpa using hz), if_pos (by simpa using hz)]; exact ⟨rfl, ⟨by decide, by decide, by decide, by decide⟩⟩
 ·obtain ⟨q1, _, q3, q4⟩ := vquot_eq a9.1 a9.2 b9.1 b9.2 hz
  rw [if_neg (by simpa using hz), if_neg (by simpa using hz), q1, make_eq, q4, rMake_in q3.1 q3.2]
  exact ⟨rfl, num_good q3.1 q3.2⟩
theorem cmp_eq (a b : Int) : S_compared1 S_duo6 a b = S_rBool (a == b) ∧ S_compared1 S_duo7 a b = S_rBool (decide (a < b)) ∧ S_compared1 S_duo8 a b = S_rBool (decide (a ≤ b)) := by
 unfold S_compared1 S_duo6 S_duo7 S_duo8 S_Compare
 simp only [vtruth_eq]
 rcases Int.lt_trichotomy a b with h | h | h
 ·have : (a == b) = false := by simp; omega
  simp [h, this, Int.le_of_lt h]
 ·subst h; simp
 ·have h1 : ¬ a < b := by omega
  have h2 : (a == b) = false := by simp; omega
  have h3 : ¬ a ≤ b := by omega
  simp [h, h1, h2, h3]
theorem op2_eq {k : Int} (h7 : 7 ≤ k ∧ k ≤ 16) {a b : V} (ha : VGood a) (hb : VGood b) : S_vOp2 k a b = S_rOp2 k a b ∧ VGood (S_rOp2 k a b) := by
 have e15 : a.f = 0 → S_vOp2 15 a b = S_rOp2 15 a b ∧ VGood (S_rOp2 15 a b) := fun h => by
  rw [show S_vOp2 15 a b = (S_vOp2_15 a b).1 from rfl, show S_rOp2 15 a b = (if (a.n == 0) = true then a else b) by simp [S_rOp2, h]]
  unfold S_vOp2_15 S_vChoose; rw [are3 ha hb (make_eq 0 ▸ make_good 0)]
  by_cases hz : a.n = 0
  ·have : a = ⟨0, 0⟩ := by obtain ⟨f, n⟩ := a; simp only at h hz; rw [h, hz]
   subst this
   exact ⟨rfl, ha⟩
  ·simp [h, hz]; exact hb
 have e16 : a.f = 0 → S_vOp2 16 a b = S_rOp2 16 a b ∧ VGood (S_rOp2 16 a b) := fun h => by
  rw [show S_vOp2 16 a b = (S_vOp2_16 a b).1 from rfl, show S_rOp2 16 a b = (if (a.n != 0) = true then S_rNumber 1 else b) by simp [S_rOp2, h]]
  unfold S_vOp2_16 S_vChoose; rw [are3 ha (make_eq 1 ▸ make_good 1) hb]
  by_cases hz : a.n = 0
  ·simp [h, hz]; exact hb
  ·simp [h, hz]; exact ⟨rfl, num_good (by decide) (by decide)⟩
 by_cases h : a.f = 0
 ·by_cases h2 : b.f = 0
  ·have d := div_eq ha hb h h2
   have m := mod_eq ha hb h h2
   have c := cmp_eq a.n b.n
   rcases nine h7 with rfl | rfl | rfl | rfl | rfl | rfl | rfl | rfl | rfl | rfl
   ·rw [show S_vOp2 7 a b = (S_vOp2_7 a b).1 from rfl, show S_rOp2 7 a b = S_rMake (IntKind.i64.wrap (a.n + b.n)) by simp [S_rOp2, h, h2]]
    unfold S_vOp2_7; rw [op2_of (g := fun x y => S_duo1 x y) ha hb]; simp only [h, h2, ne_eq, not_true, if_false, S_duo1, make_eq]; exact ⟨trivial, make_good _⟩
   ·rw [show S_vOp2 8 a b = (S_vOp2_8 a b).1 from rfl, show S_rOp2 8 a b = S_rMake (IntKind.i64.wrap (a.n - b.n)) by simp [S_rOp2, h, h2]]
    unfold S_vOp2_8; rw [op2_of (g := fun x y => S_duo2 x y) ha hb]; simp only [h, h2, ne_eq, not_true, if_false, S_duo2, make_eq]; exact ⟨trivial, make_good _⟩
   ·rw [show S_vOp2 9 a b = (S_vOp2_9 a b).1 from rfl, show S_rOp2 9 a b = S_rMake (IntKind.i64.wrap (a.n * b.n)) by simp [S_rOp2, h, h2]]
    unfold S_vOp2_9; rw [op2_of (g := fun x y => S_duo3 x y) ha hb]; simp only [h, h2, ne_eq, not_true, if_false, S_duo3, make_eq]; exact ⟨trivial, make_good _⟩
   ·rw [show S_vOp2 10 a b = (S_vOp2_10 a b).1 from rfl, show S_rOp2 10 a b = (if (b.n == 0) = true then S_rFaultV 1 else S_rNumber (S_quot a.n b.n)) by simp [S_rOp2, h, h2]]
    unfold S_vOp2_10; rw [op2_of (g := fun x y => S_divided1 S_duo4 x y) ha hb]; simp only [h, h2, ne_eq, not_true, if_false]; exact d
   ·rw [show S_vOp2 11 a b = (S_vOp2_11 a b).1 from rfl, show S_rOp2 11 a b = (if (b.n == 0) = true then S_rFaultV 1 else S_rNumber (IntKind.i64.wrap (a.n - IntKind.i64.wrap (b.n * S_quot a.n b.n)))) by simp [S_rOp2, h, h2]]
    unfold S_vOp2_11; rw [op2_of (g := fun x y => S_divided1 S_duo5 x y) ha hb]; simp only [h, h2, ne_eq, not_true, if_false]; exact m
   ·rw [show S_vOp2 12 a b = (S_vOp2_12 a b).1 from rfl, show S_rOp2 12 a b = S_rBool (a.n == b.n) by simp [S_rOp2, h, h2]]
    unfold S_vOp2_12; rw [op2_of (g := fun x y => S_compared1 S_duo6 x y) ha hb]; simp only [h, h2, ne_eq, not_true, if_false]; exact ⟨c.1, bool_good _⟩
   ·rw [show S_vOp2 13 a b = (S_vOp2_13 a b).1 from rfl, show S_rOp2 13 a b = S_rBool (decide (a.n < b.n)) by simp [S_rOp2, h, h2]]
    unfold S_vOp2_13; rw [op2_of (g := fun x y => S_compared1 S_duo7 x y) ha hb]; simp only [h, h2, ne_eq, not_true, if_false]; exact ⟨c.2.1, bool_good _⟩
   ·rw [show S_vOp2 14 a b = (S_vOp2_14 a b).1 from rfl, show S_rOp2 14 a b = S_rBool (decide (a.n ≤ b.n)) by simp [S_rOp2, h, h2]]
    unfold S_vOp2_14; rw [op2_of (g := fun x y => S_compared1 S_duo8 x y) ha hb]; simp only [h, h2, ne_eq, not_true, if_false]; exact ⟨c.2.2, bool_good _⟩
   ·exact e15 h
   ·exact e16 h
  ·rcases nine h7 with rfl | rfl | rfl | rfl | rfl | rfl | rfl | rfl | rfl | rfl
   ·rw [show S_vOp2 7 a b = (S_vOp2_7 a b).1 from rfl, show S_rOp2 7 a b = b by simp [S_rOp2, h, fpos hb h2]]
    unfold S_vOp2_7; rw [op2_of (g := fun x y => S_duo1 x y) ha hb]; simp only [h, h2, ne_eq, not_true, not_false_eq_true, if_false, if_true]; exact ⟨trivial, hb⟩
   ·rw [show S_vOp2 8 a b = (S_vOp2_8 a b).1 from rfl, show S_rOp2 8 a b = b by simp [S_rOp2, h, fpos hb h2]]
    unfold S_vOp2_8; rw [op2_of (g := fun x y => S_duo2 x y) ha hb]; simp only [h, h2, ne_eq, not_true, not_false_eq_true, if_false, if_true]; exact ⟨trivial, hb⟩
   ·rw [show S_vOp2 9 a b = (S_vOp2_9 a b).1 from rfl, show S_rOp2 9 a b = b by simp [S_rOp2, h, fpos hb h2]]
    unfold S_vOp2_9; rw [op2_of (g := fun x y => S_duo3 x y) ha hb]; simp only [h, h2, ne_eq, not_true, not_false_eq_true, if_false, if_true]; exact ⟨trivial, hb⟩
   ·rw [show S_vOp2 10 a b = (S_vOp2_10 a b).1 from rfl, show S_rOp2 10 a b = b by simp [S_rOp2, h, fpos hb h2]]
    unfold S_vOp2_10; rw [op2_of (g := fun x y => S_divided1 S_duo4 x y) ha hb]; simp only [h, h2, ne_eq, not_true, not_false_eq_true, if_false, if_true]; exact ⟨trivial, hb⟩
   ·rw [show S_vOp2 11 a b = (S_vOp2_11 a b).1 from rfl, show S_rOp2 11 a b = b by simp [S_rOp2, h, fpos hb h2]]
    unfold S_vOp2_11; rw [op2_of (g := fun x y => S_divided1 S_duo5 x y) ha hb]; simp only [h, h2, ne_eq, not_true, not_false_eq_true, if_false, if_true]; exact ⟨trivial, hb⟩
   ·rw [show S_vOp2 12 a b = (S_vOp2_12 a b).1 from rfl, show S_rOp2 12 a b = b by simp [S_rOp2, h, fpos hb h2]]
    unfold S_vOp2_12; rw [op2_of (g := fun x y => S_compared1 S_duo6 x y) ha hb]; simp only [h, h2, ne_eq, not_true, not_false_eq_true, if_false, if_true]; exact ⟨trivial, hb⟩
   ·rw [show S_vOp2 13 a b = (S_vOp2_13 a b).1 from rfl, show S_rOp2 13 a b = b by simp [S_rOp2, h, fpos hb h2]]
    unfold S_vOp2_13; rw [op2_of (g := fun x y => S_compared1 S_duo7 x y) ha hb]; simp only [h, h2, ne_eq, not_true, not_false_eq_true, if_false, if_true]; exact ⟨trivial, hb⟩
   ·rw [show S_vOp2 14 a b = (S_vOp2_14 a b).1 from rfl, show S_rOp2 14 a b = b by simp [S_rOp2, h, fpos hb h2]]
    unfold S_vOp2_14; rw [op2_of (g := fun x y => S_compared1 S_duo8 x y) ha hb]; simp only [h, h2, ne_eq, not_true, not_false_eq_true, if_false, if_true]; exact ⟨trivial, hb⟩
   ·exact e15 h
   ·exact e16 h
 ·rcases nine h7 with rfl | rfl | rfl | rfl | rfl | rfl | rfl | rfl | rfl | rfl
  ·rw [show S_vOp2 7 a b = (S_vOp2_7 a b).1 from rfl, show S_rOp2 7 a b = a by simp [S_rOp2, fpos ha h]]
   unfold S_vOp2_7; rw [op2_of (g := fun x y => S_duo1 x y) ha hb]; simp only [h, ne_eq, not_true, not_false_eq_true, if_true]; exact ⟨trivial, ha⟩
  ·rw [show S_vOp2 8 a b = (S_vOp2_8 a b).1 from rfl, show S_rOp2 8 a b = a by simp [S_rOp2, fpos ha h]]
   unfold S_vOp2_8; rw [op2_of (g := fun x y => S_duo2 x y) ha hb]; simp only [h, ne_eq, not_true, not_false_eq_true, if_true]; exact ⟨trivial, ha⟩
  ·rw [show S_vOp2 9 a b = (S_vOp2_9 a b).1 from rfl, show S_rOp2 9 a b = a by simp [S_rOp2, fpos ha h]]
   unfold S_vOp2_9; rw [op2_of (g := fun x y => S_duo3 x y) ha hb]; simp only [h, ne_eq, not_true, not_false_eq_true, if_true]; exact ⟨trivial, ha⟩
  ·rw [show S_vOp2 10 a b = (S_vOp2_10 a b).1 from rfl, show S_rOp2 10 a b = a by simp [S_rOp2, fpos ha h]]
   unfold S_vOp2_10; rw [op2_of (g := fun x y => S_divided1 S_duo4 x y) ha hb]; simp only [h, ne_eq, not_true, not_false_eq_true, if_true]; exact ⟨trivial, ha⟩
  ·rw [show S_vOp2 11 a b = (S_vOp2_11 a b).1 from rfl, show S_rOp2 11 a b = a by simp [S_rOp2, fpos ha h]]
   unfold S_vOp2_11; rw [op2_of (g := fun x y => S_divided1 S_duo5 x y) ha hb]; simp only [h, ne_eq, not_true, not_false_eq_true, if_true]; exact ⟨trivial, ha⟩
  ·rw [show S_vOp2 12 a b = (S_vOp2_12 a b).1 from rfl, show S_rOp2 12 a b = a by simp [S_rOp2, fpos ha h]]
   unfold S_vOp2_12; rw [op2_of (g := fun x y => S_compared1 S_duo6 x y) ha hb]; simp only [h, ne_eq, not_true, not_false_eq_true, if_true]; exact ⟨trivial, ha⟩
  ·rw [show S_vOp2 13 a b = (S_vOp2_13 a b).1 from rfl, show S_rOp2 13 a b = a by simp [S_rOp2, fpos ha h]]
   unfold S_vOp2_13; rw [op2_of (g := fun x y => S_compared1 S_duo7 x y) ha hb]; simp only [h, ne_eq, not_true, not_false_eq_true, if_true]; exact ⟨trivial, ha⟩
  ·rw [show S_vOp2 14 a b = (S_vOp2_14 a b).1 from rfl, show S_rOp2 14 a b = a by simp [S_rOp2, fpos ha h]]
   unfold S_vOp2_14; rw [op2_of (g := fun x y => S_compared1 S_duo8 x y) ha hb]; simp only [h, ne_eq, not_true, not_false_eq_true, if_true]; exact ⟨trivial, ha⟩
  ·rw [show S_vOp2 15 a b = (S_vOp2_15 a b).1 from rfl, show S_rOp2 15 a b = a by simp [S_rOp2, fpos ha h]]
   unfold S_vOp2_15 S_vChoose; rw [are3 ha hb (make_eq 0 ▸ make_good 0)]; simp [h]; exact ha
  ·rw [show S_vOp2 16 a b = (S_vOp2_16 a b).1 from rfl, show S_rOp2 16 a b = a by simp [S_rOp2, fpos ha h]]
   unfold S_vOp2_16 S_vChoose; rw [are3 ha (make_eq 1 ▸ make_good 1) hb]; simp [h]; exact ha
end Go.Proofs.YtfhiejgoemcelaaGreat
namespace Go.Proofs.YtfhiejgoemcelaaGreat
open Go Tw Pv
theorem ilt (a : Int) : a < 0 ∨ 0 ≤ a := by omega
theorem mul_btw {lo hi x y m M : Int} (h1 : lo ≤ x) (h2 : x ≤ hi) (a : m ≤ lo * y) (b : m ≤ hi * y) (c : lo * y ≤ M) (d : hi * y ≤ M) : m ≤ x * y ∧ x * y ≤ M := by
 rcases Int.le_total 0 y with h | h
 ·have := Int.mul_le_mul_of_nonneg_right h1 h
  have := Int.mul_le_mul_of_nonneg_right h2 h
  omega
 ·have := Int.mul_le_mul_of_nonpos_right h1 h
  have := Int.mul_le_mul_of_nonpos_right h2 h
  omega
theorem mul_box {al ah bl bh x y m M : Int} (h1 : al ≤ x) (h2 : x ≤ ah) (h3 : bl ≤ y) (h4 : y ≤ bh) (hm : ∀ p, p = al ∨ p = ah → ∀ q, q = bl ∨ q = bh → m ≤ p * q ∧ p * q ≤ M) : m ≤ x * y ∧ x * y ≤ M := by
 have k : ∀ q, q = bl ∨ q = bh → m ≤ x * q ∧ x * q ≤ M := fun q hq => mul_btw h1 h2 (hm _ (.inl rfl) q hq).1 (hm _ (.inr rfl) q hq).1 (hm _ (.inl rfl) q hq).2 (hm _ (.inr rfl) q hq).2
 have k1 := k _ (.inl rfl)
 have k2 := k _ (.inr rfl)
 rw [Int.mul_comm x] at k1 k2 ⊢
 exact mul_btw h3 h4 k1.1 k2.1 k1.2 k2.2
theorem ediv_down {a d e : Int} (h0 : 0 ≤ a) (hd : 0 < d) (h : d ≤ e) : a / e ≤ a / d := by
 have he : 0 < e := by omega
 refine Int.le_ediv_of_mul_le hd ?_
 have h1 : 0 ≤ a / e := Int.ediv_nonneg h0 (by omega)
 have h2 := Int.mul_le_mul_of_nonneg_left h h1
 have h3 := Int.ediv_mul_le a (b := e) (by omega)
 omega
theorem ediv_up {a d e : Int} (h0 : a < 0) (hd : 0 < d) (h : d ≤ e) : a / d ≤ a / e := by
 have he : 0 < e := by omega
 refine Int.le_ediv_of_mul_le he ?_
 have h1 : a / d < 0 := Int.ediv_neg_of_neg_of_pos h0 hd
 have h2 := Int.mul_le_mul_of_nonpos_left (show a / d ≤ 0 by omega) h
 have h3 := Int.ediv_mul_le a (b := d) (by omega)
 omega
theorem div_btw {al ah x d e y m M : Int} (h1 : al ≤ x) (h2 : x ≤ ah) (hd : 0 < d) (h3 : d ≤ y) (h4 : y ≤ e) (hm : ∀ p, p = al ∨ p = ah → ∀ q, q = d ∨ q = e → m ≤ p / q ∧ p / q ≤ M) : m ≤ x / y ∧ x / y ≤ M := by
 have k : ∀ p, p = al ∨ p = ah → m ≤ p / y ∧ p / y ≤ M := fun p hp => by
  have k1 := hm p hp d (.inl rfl)
  have k2 := hm p hp e (.inr rfl)
  rcases ilt p with h | h
  ·have := ediv_up h hd h3
   have := ediv_up h (show 0 < y by omega) h4
   omega
  ·have := ediv_down h hd h3
   have := ediv_down h (show 0 < y by omega) h4
   omega
 have k1 := k _ (.inl rfl)
 have k2 := k _ (.inr rfl)
 have := Int.ediv_le_ediv (show 0 < y by omega) h1
 have := Int.ediv_le_ediv (show 0 < y by omega) h2
 omega
theorem quot_btw {al ah bl bh x y m M : Int} (h1 : al ≤ x) (h2 : x ≤ ah) (h3 : bl ≤ y) (h4 : y ≤ bh) (hy : y ≠ 0) (hm : ∀ p, p = al ∨ p = ah → ∀ q, q = bl ∨ q = bh ∨ q = -1 ∨ q = 1 → q ≠ 0 → bl ≤ q → q ≤ bh → m ≤ S_quot p q ∧ S_quot p q ≤ M) : m ≤ S_quot x y ∧ S_quot x y ≤ M := by
 rcases ilt y with h | h
 ·have e : ∀ p q : Int, q < 0 → S_quot p q = (-p) / (-q) := fun p q h => by unfold S_quot; rw [if_pos h]
  rw [e x y h]
  refine div_btw (al := -ah) (ah := -al) (d := if bh < 0 then -bh else 1) (e := -bl) (by omega) (by omega) (by split <;> omega) (by split <;> omega) (by omega) fun p hp q hq => ?_
  have hq2 : q > 0 ∧ ((-q) = bl ∨ (-q) = bh ∨ (-q) = -1 ∨ (-q) = 1) ∧ bl ≤ -q ∧ -q ≤ bh := by
   rcases hq with rfl | rfl
   ·split <;> omega
   ·omega
  have := hm (-p) (by omega) (-q) hq2.2.1 (by omega) hq2.2.2.1 hq2.2.2.2
  rw [e (-p) (-q) (by omega), Int.neg_neg, Int.neg_neg] at this
  exact this
 ·have e : ∀ p q : Int, ¬ q < 0 → S_quot p q = p / q := fun p q h => by unfold S_quot; rw [if_neg h]
  rw [e x y (by omega)]
  refine div_btw (al := al) (ah := ah) (d := if bl > 0 then bl else 1) (e := bh) h1 h2 (by split <;> omega) (by split <;> omega) h4 fun p hp q hq => ?_
  have hq2 : q > 0 ∧ (q = bl ∨ q = bh ∨ q = -1 ∨ q = 1) ∧ bl ≤ q ∧ q ≤ bh := by
   rcases hq with rfl | rfl
   ·split <;> omega
   ·omega
  have := hm p hp q hq2.2.1 (by omega) hq2.2.2.1 hq2.2.2.2
  rw [e p q (by omega)] at this
  exact this
theorem tmod_sign {a b : Int} (h : a.tmod b ≠ 0) : decide (a.tmod b < 0) = decide (a < 0) := by
 rcases ilt a with h0 | h0
 ·have : (-a).tmod b ≥ 0 := Int.tmod_nonneg _ (by omega)
  rw [Int.neg_tmod] at this
  have h1 : a.tmod b < 0 := by omega
  simp [h0, h1]
 ·have := Int.tmod_nonneg b h0
  have h1 : ¬ a.tmod b < 0 := by omega
  have h2 : ¬ a < 0 := by omega
  simp [h1, h2]
theorem quotient_q {a b : Int} (a0 : -9999 ≤ a) (a1 : a ≤ 9999) (hb : b ≠ 0) : S_quotient a b = S_quot a b := by
 obtain ⟨h1, _, _⟩ := quot_rest (a := a) hb (.inr trivial)
 have hna : (a.tdiv b).natAbs ≤ a.natAbs := by rw [Int.natAbs_tdiv]; exact Nat.div_le_self _ _
 have hq : quoI .i64 a b = a.tdiv b := wr (by omega) (by omega)
 have hw1 : IntKind.i64.wrap (a.tdiv b - 1) = a.tdiv b - 1 := wr (by omega) (by omega)
 unfold S_quotient remI
 rw [hq, h1, hw1]
 by_cases c1 : a.tmod b = 0
 ·rw [if_neg (by simp [c1]), if_neg (by simp [c1])]
 ·rw [if_pos (by simpa using c1), tmod_sign c1]
  by_cases c2 : (decide (a < 0) != decide (b < 0)) = true
  ·rw [if_pos c2, if_pos ⟨c1, c2⟩]
  ·rw [if_neg c2, if_neg (fun h => c2 h.2)]
end Go.Proofs.YtfhiejgoemcelaaGreat
namespace Go.Proofs.YtfhiejgoemcelaaGreat
open Go Tw Pv
theorem good_V0 : VGood V0 := ⟨by decide, by decide, fun _ => by decide, fun h => by simp at h⟩
theorem vgood_at {l : List V} (hl : ∀ v ∈ l, VGood v) (k : Nat) : VGood (l.getD k V0) := by
 rw [List.getD_eq_getElem?_getD]
 cases h : l[k]? with
 | none => exact good_V0
 | some v => exact hl v (List.mem_of_getElem? h)
theorem op1_eq {k : Int} (hk : k = 5 ∨ k = 6) {a : V} (ha : VGood a) : S_vOp1 k a = S_rOp1 k a ∧ VGood (S_rOp1 k a) := by
 by_cases h : a.f = 0
 ·have a9 := ha.n h
  have hw : IntKind.i64.wrap (0 - a.n) = 0 - a.n := wr (by omega) (by omega)
  rcases hk with rfl | rfl
  ·rw [show S_vOp1 5 a = (S_vOp1_5 a).1 from rfl, show S_rOp1 5 a = S_rNumber (IntKind.i64.wrap (0 - a.n)) by simp [S_rOp1, h]]
   unfold S_vOp1_5; rw [op1_of (g := fun x => S_solo1 x) ha]
   simp only [h, ne_eq, not_true, if_false, S_solo1, make_eq]
   rw [hw, rMake_in (by omega) (by omega)]
   exact ⟨rfl, num_good (by omega) (by omega)⟩
  ·rw [show S_vOp1 6 a = (S_vOp1_6 a).1 from rfl, show S_rOp1 6 a = S_rBool (a.n == 0) by simp [S_rOp1, h]]
   unfold S_vOp1_6; rw [op1_of (g := fun x => S_solo2 x) ha]
   simp only [h, ne_eq, not_true, if_false, S_solo2, vtruth_eq]
   exact ⟨trivial, bool_good _⟩
 ·rcases hk with rfl | rfl
  ·rw [show S_vOp1 5 a = (S_vOp1_5 a).1 from rfl, show S_rOp1 5 a = a by simp [S_rOp1, fpos ha h]]
   unfold S_vOp1_5; rw [op1_of (g := fun x => S_solo1 x) ha]
   simp only [h, ne_eq, not_false_eq_true, if_true]; exact ⟨trivial, ha⟩
  ·rw [show S_vOp1 6 a = (S_vOp1_6 a).1 from rfl, show S_rOp1 6 a = a by simp [S_rOp1, fpos ha h]]
   unfold S_vOp1_6; rw [op1_of (g := fun x => S_solo2 x) ha]
   simp only [h, ne_eq, not_false_eq_true, if_true]; exact ⟨trivial, ha⟩
theorem choose_rv {a b c : V} (ha : VGood a) (hb : VGood b) (hc : VGood c) : (S_vChoose a b c).1 = S_rChoose a b c ∧ VGood (S_rChoose a b c) := by
 unfold S_vChoose S_rChoose
 rw [are3 ha hb hc]
 by_cases h : a.f = 0
 ·by_cases hz : a.n = 0
  ·simp [h, hz]; exact hc
  ·simp [h, hz]; exact hb
 ·have := fpos ha h
  simp only [decide_eq_true_eq] at this
  simp [h, this]; exact ha
theorem cellR_eq {o : O} {l : List V} {w : List Int} (hk : RuleOk o l.length w.length) (ho : OGood o w.length) (hw : ∀ x ∈ w, -9999 ≤ x ∧ x ≤ 9999) (hl : ∀ v ∈ l, VGood v) : S_cell l w o = S_rCell l w o ∧ VGood (S_rCell l w o) := by
 have g1 := hk.lo; have g2 := hk.hi; have g3 := hk.no; have g4 := hk.ch; have q1 := ho.one; have q2 := ho.two
 obtain ⟨k, a, b, c, n⟩ := o
 simp only at g1 g2 g3 g4 q1 q2
 have va := vgood_at hl a.toNat; have vb := vgood_at hl b.toNat; have vc := vgood_at hl c.toNat
 have : k = 1 ∨ k = 2 ∨ k = 3 ∨ k = 5 ∨ k = 6 ∨ (7 ≤ k ∧ k ≤ 16) ∨ k = 17 := by omega
 rcases this with rfl | rfl | rfl | rfl | rfl | h | rfl
 ·have h := q1 rfl
  rw [show S_cell l w ⟨1, a, b, c, n⟩ = S_vMake n by simp [S_cell], show S_rCell l w ⟨1, a, b, c, n⟩ = S_rNumber n by simp [S_rCell]]
  rw [make_eq, rMake_in h.1 h.2]; exact ⟨rfl, num_good h.1 h.2⟩
 ·have h := q2 rfl
  rw [show S_cell l w ⟨2, a, b, c, n⟩ = ⟨IntKind.u8.wrap n, 0⟩ by simp [S_cell], show S_rCell l w ⟨2, a, b, c, n⟩ = ⟨IntKind.u8.wrap n, 0⟩ by simp [S_rCell, S_rFaultV]]
  rw [wrap_u8 (by omega) (by omega)]
  exact ⟨rfl, ⟨by simp only; omega, h.2, fun h0 => by simp only at h0; omega, fun _ => rfl⟩⟩
 ·have h := g4 rfl
  have hx : w.getD n.toNat 0 ∈ w := by
   rw [List.getD_eq_getElem?_getD, List.getElem?_eq_getElem (by omega)]; exact List.getElem_mem _
  have h9 := hw _ hx
  rw [show S_cell l w ⟨3, a, b, c, n⟩ = S_vMake (w.getD n.toNat 0) by simp [S_cell], show S_rCell l w ⟨3, a, b, c, n⟩ = S_rNumber (w.getD n.toNat 0) by simp [S_rCell]]
  rw [make_eq, rMake_in h9.1 h9.2]; exact ⟨rfl, num_good h9.1 h9.2⟩
 ·rw [show S_cell l w ⟨5, a, b, c, n⟩ = S_vOp1 5 (l.getD a.toNat V0) by simp [S_cell], show S_rCell l w ⟨5, a, b, c, n⟩ = S_rOp1 5 (l.getD a.toNat V0) by simp [S_rCell]]; exact op1_eq (.inl rfl) va
 ·rw [show S_cell l w ⟨6, a, b, c, n⟩ = S_vOp1 6 (l.getD a.toNat V0) by simp [S_cell], show S_rCell l w ⟨6, a, b, c, n⟩ = S_rOp1 6 (l.getD a.toNat V0) by simp [S_rCell]]; exact op1_eq (.inr rfl) va
 ·have e1 : S_cell l w ⟨k, a, b, c, n⟩ = S_vOp2 k (l.getD a.toNat V0) (l.getD b.toNat V0) := by
   rcases nine h with rfl | rfl | rfl | rfl | rfl | rfl | rfl | rfl | rfl | rfl <;> simp [S_cell]
  have e2 : S_rCell l w ⟨k, a, b, c, n⟩ = S_rOp2 k (l.getD a.toNat V0) (l.getD b.toNat V0) := by
   rcases nine h with rfl | rfl | rfl | rfl | rfl | rfl | rfl | rfl | rfl | rfl <;> simp [S_rCell]
  rw [e1, e2]; exact op2_eq h va vb
 ·rw [show S_cell l w ⟨17, a, b, c, n⟩ = (S_vChoose (l.getD a.toNat V0) (l.getD b.toNat V0) (l.getD c.toNat V0)).1 by simp [S_cell], show S_rCell l w ⟨17, a, b, c, n⟩ = S_rChoose (l.getD a.toNat V0) (l.getD b.toNat V0) (l.getD c.toNat V0) by simp [S_rCell]]; exact choose_rv va vb vc
theorem allR_eq {c : C} {w : List Int} (hw : ∀ x ∈ w, -9999 ≤ x ∧ x ≤ 9999) : ∀ (os : List O) (i : Nat) (l : List V), (∀ (j : Nat) (o : O), os[j]? = some o → RuleOk o (l.length + j) w.length ∧ OGood o w.length) → (∀ v ∈ l, VGood v) →
  bld (fun l _ o => [S_cell l w o]) os i l = bld (fun l _ o => [S_rCell l w o]) os i l ∧ ∀ v ∈ bld (fun l _ o => [S_rCell l w o]) os i l, VGood v
 | [], i, l, _, hl => ⟨rfl, hl⟩
 | o :: os, i, l, ho, hl => by
  have h0 := ho 0 o rfl
  have hc := cellR_eq h0.1 h0.2 hw hl
  simp only [bld, hc.1]
  exact allR_eq (c := c) hw os (i + 1) (l ++ [S_rCell l w o]) (fun j o' hj => by
   have := ho (j + 1) o' (by simpa using hj)
   rw [List.length_append, List.length_singleton, show l.length + 1 + j = l.length + (j + 1) by omega]; exact this) (fun v hv => by
    rcases List.mem_append.1 hv with h | h
    ·exact hl v h
    ·rw [List.mem_singleton] at h; subst h; exact hc.2)
end Go.Proofs.YtfhiejgoemcelaaGreat
namespace Go.Proofs.YtfhiejgoemcelaaGreat
open Go Tw Pv
def FB (x f : Int) : Prop := (bv x).getLsbD (f - 1).toNat = true
theorem fb_or {x y f : Int} : FB (orI .u8 x y) f ↔ FB x f ∨ FB y f := by unfold FB; rw [or8_bv, bv_nat, BitVec.getLsbD_or]; simp
theorem fb_and {x y f : Int} : FB (andI .u8 x y) f ↔ FB x f ∧ FB y f := by unfold FB; rw [and8_bv, bv_nat, BitVec.getLsbD_and]; simp
theorem fb_0 {f : Int} : ¬ FB 0 f := by unfold FB; rw [show bv 0 = 0#8 from rfl]; simp
theorem four {g : Int} (h1 : 1 ≤ g) (h2 : g ≤ 4) : g = 1 ∨ g = 2 ∨ g = 3 ∨ g = 4 := by omega
theorem fb_bit {g f : Int} (g1 : 1 ≤ g) (g2 : g ≤ 4) (f1 : 1 ≤ f) (f2 : f ≤ 4) : FB (S_bit g) f ↔ f = g := by
 unfold FB
 rcases four g1 g2 with rfl | rfl | rfl | rfl <;> rcases four f1 f2 with rfl | rfl | rfl | rfl <;> decide
theorem bv_eq0 {x : BitVec 8} : ((x.toNat : Nat) : Int) = 0 ↔ ∀ i, i < 8 → x.getLsbD i = false := by
 constructor
 ·intro h i _
  have : x = 0#8 := BitVec.eq_of_toNat_eq (by simp; omega)
  rw [this]; simp
 ·intro h
  have : x = 0#8 := BitVec.eq_of_getLsbD_eq fun i hi => by rw [h i hi]; simp
  rw [this]; rfl
theorem bv_top {x : Int} (h0 : 0 ≤ x) (h1 : x ≤ 15) {i : Nat} (hi : 4 ≤ i) : (bv x).getLsbD i = false := by
 rw [BitVec.getLsbD]
 exact Nat.testBit_lt_two_pow (Nat.lt_of_lt_of_le (bv_15 h0 h1) (Nat.pow_le_pow_right (by decide) hi))
theorem andn_0 {x y : Int} (h0 : 0 ≤ x) (h1 : x ≤ 15) : andnI .u8 x y = 0 ↔ ∀ f, 1 ≤ f → f ≤ 4 → FB x f → FB y f := by
 rw [andn8_bv, bv_eq0]
 constructor
 ·intro h f f1 f2 hx
  have := h (f - 1).toNat (by omega)
  unfold FB at hx ⊢
  rw [BitVec.getLsbD_and, BitVec.getLsbD_not, hx] at this
  cases hy : (bv y).getLsbD (f - 1).toNat with
  | true => rfl
  | false => rw [hy, decide_eq_true (show (f - 1).toNat < 8 by omega)] at this; cases this
 ·intro h i hi
  rw [BitVec.getLsbD_and, BitVec.getLsbD_not]
  by_cases h4 : i < 4
  ·have := h ((i : Int) + 1) (by omega) (by omega)
   unfold FB at this
   rw [show ((i : Int) + 1 - 1).toNat = i by omega] at this
   cases hx : (bv x).getLsbD i with
   | false => simp
   | true => rw [this hx]; simp
  ·rw [bv_top h0 h1 (by omega)]; simp
theorem and_bit {x f : Int} (f1 : 1 ≤ f) (f2 : f ≤ 4) : (andI .u8 x (S_bit f) != 0) = true ↔ FB x f := by
 rw [bne_iff_ne, ne_eq, and8_bv, bv_eq0]
 constructor
 ·intro h
  cases hx : (bv x).getLsbD (f - 1).toNat with
  | true => exact hx
  | false =>
   refine absurd (fun i hi => ?_) h
   rw [BitVec.getLsbD_and]
   by_cases e : i = (f - 1).toNat
   ·rw [e, hx]; simp
   ·have hb := fb_bit f1 f2 (f := (i : Int) + 1) (by omega)
    by_cases h4 : i < 4
    ·have hb := hb (by omega)
     unfold FB at hb
     rw [show ((i : Int) + 1 - 1).toNat = i by omega] at hb
     cases hy : (bv (S_bit f)).getLsbD i with
     | false => simp
     | true => have := hb.1 hy; omega
    ·rw [bv_top (x := S_bit f) (by rcases four f1 f2 with rfl | rfl | rfl | rfl <;> decide) (by rcases four f1 f2 with rfl | rfl | rfl | rfl <;> decide) (by omega)]; simp
 ·intro h h2
  have h3 := (fb_bit f1 f2 f1 f2).2 rfl
  have := h2 (f - 1).toNat (by omega)
  unfold FB at h h3
  rw [BitVec.getLsbD_and, h, h3] at this
  cases this
structure Mem (r : B) (v : V) : Prop where
 n : v.f = 0 → r.lo ≤ v.n ∧ v.n ≤ r.hi
 f : v.f ≠ 0 → FB r.f v.f
structure Le (r s : B) : Prop where
 n : r.lo ≤ r.hi → s.lo ≤ r.lo ∧ r.hi ≤ s.hi
 f : ∀ f, 1 ≤ f → f ≤ 4 → FB r.f f → FB s.f f
theorem Le.refl (r : B) : Le r r := ⟨fun _ => by omega, fun _ _ _ h => h⟩
theorem Le.trans {r s t : B} (h : Le r s) (g : Le s t) : Le r t := ⟨fun hn => by have := h.n hn; have := g.n (by omega); omega, fun f h1 h2 hf => g.f f h1 h2 (h.f f h1 h2 hf)⟩
theorem Le.mem {r s : B} {v : V} (h : Le r s) (hv : VGood v) (m : Mem r v) : Mem s v := by
 refine ⟨fun h0 => ?_, fun h0 => ?_⟩
 ·have := m.n h0; have := h.n (by omega); omega
 ·have := hv.f0; have := hv.f1; exact h.f _ (by omega) (by omega) (m.f h0)
theorem inside_le {r s : B} (hr : Good r) : S_rInside r s = true ↔ Le r s := by
 unfold S_rInside
 have hf := andn_0 (y := s.f) hr.f0 hr.f1
 by_cases h : andnI .u8 r.f s.f = 0
 ·rw [if_pos (by rw [h]; rfl)]
  have hf := hf.1 h
  by_cases hn : r.lo ≤ r.hi
  ·rw [if_neg (by simp [hn])]
   constructor
   ·intro g
    split at g
    ·rename_i g1; simp at g g1; exact ⟨fun _ => ⟨g1, g⟩, hf⟩
    ·cases g
   ·intro g; have := g.n hn; rw [if_pos (by simp; omega)]; simp; omega
  ·rw [if_pos (by simp; omega)]
   exact ⟨fun _ => ⟨fun h => absurd h hn, hf⟩, fun _ => rfl⟩
 ·rw [if_neg (by simpa using h)]
  exact ⟨fun h => (by cases h), fun g => absurd (hf.2 g.f) h⟩
theorem le_anti {r s : B} (hr : Good r) (hs : Good s) (h : Le r s) (g : Le s r) : r = s := by
 have hf : r.f = s.f := by
  rw [bv_good hr.f0 (by have := hr.f1; omega), bv_good hs.f0 (by have := hs.f1; omega)]
  have : bv r.f = bv s.f := BitVec.eq_of_getLsbD_eq fun i hi => by
   by_cases h4 : i < 4
   ·have h1 := h.f ((i : Int) + 1) (by omega) (by omega)
    have h2 := g.f ((i : Int) + 1) (by omega) (by omega)
    unfold FB at h1 h2
    rw [show ((i : Int) + 1 - 1).toNat = i by omega] at h1 h2
    cases e1 : (bv r.f).getLsbD i with
    | true => rw [h1 e1]
    | false => cases e2 : (bv s.f).getLsbD i with
     | false => rfl
     | true => rw [h2 e2] at e1; cases e1
   ·rw [bv_top hr.f0 hr.f1 (by omega), bv_top hs.f0 hs.f1 (by omega)]
  rw [this]
 have hn := h.n
 have gn := g.n
 have := hr.num
 have := hs.num
 obtain ⟨a, b, c⟩ := r
 obtain ⟨a', b', c'⟩ := s
 simp only at *
 subst hf
 simp only [B.mk.injEq, and_true]
 omega
theorem hull_f' {a b : B} {f : Int} : FB (S_rHull a b).f f ↔ FB a.f f ∨ FB b.f f := by rw [hull_f, fb_or]
theorem hull_n (a b : B) : ((S_rHull a b).lo = a.lo ∧ (S_rHull a b).hi = a.hi ∧ ¬ b.lo ≤ b.hi ∧ a.lo ≤ a.hi) ∨ ((S_rHull a b).lo = b.lo ∧ (S_rHull a b).hi = b.hi ∧ ¬ a.lo ≤ a.hi) ∨ (a.lo ≤ a.hi ∧ b.lo ≤ b.hi ∧ (S_rHull a b).lo = min a.lo b.lo ∧ (S_rHull a b).hi = max a.hi b.hi) := by
 unfold S_rHull
 by_cases h1 : a.lo ≤ a.hi
 ·by_cases h2 : b.lo ≤ b.hi
  ·right; right
   refine ⟨h1, h2, ?_⟩
   simp only [h1, h2, decide_true, Bool.not_true, Bool.false_eq_true, if_false, minI, maxI]
   constructor <;> split <;> omega
  ·left; simp [h1, h2]
 ·right; left; simp [h1]
theorem le_hull1 {a b : B} : Le a (S_rHull a b) := ⟨fun h => by have := hull_n a b; omega, fun f _ _ h => hull_f'.2 (.inl h)⟩
theorem le_hull2 {a b : B} : Le b (S_rHull a b) := ⟨fun h => by have := hull_n a b; omega, fun f _ _ h => hull_f'.2 (.inr h)⟩
theorem hull_le {a b c : B} (h : Le a c) (g : Le b c) : Le (S_rHull a b) c := ⟨fun hn => by
 have := hull_n a b
 have h1 := h.n
 have h2 := g.n
 omega, fun f h1 h2 hf => (hull_f'.1 hf).elim (h.f f h1 h2) (g.f f h1 h2)⟩
theorem both_n (a b : B) : (a.lo ≤ a.hi ∧ b.lo ≤ b.hi ∧ (S_rBoth a b).lo = max a.lo b.lo ∧ (S_rBoth a b).hi = min a.hi b.hi ∧ (S_rBoth a b).lo ≤ (S_rBoth a b).hi) ∨ ((¬ a.lo ≤ a.hi ∨ ¬ b.lo ≤ b.hi ∨ max a.lo b.lo > min a.hi b.hi) ∧ (S_rBoth a b).lo = 1 ∧ (S_rBoth a b).hi = 0) := by
 unfold S_rBoth
 by_cases h1 : a.lo ≤ a.hi
 ·by_cases h2 : b.lo ≤ b.hi
  ·have e1 : maxI a.lo b.lo = max a.lo b.lo := by unfold maxI; split <;> omega
   have e2 : minI a.hi b.hi = min a.hi b.hi := by unfold minI; split <;> omega
   rw [e1, e2]
   by_cases h3 : max a.lo b.lo > min a.hi b.hi
   ·right
    rw [if_neg (by simpa using h1), if_neg (by simpa using h2), if_pos (by simpa using h3)]
    exact ⟨.inr (.inr h3), rfl, rfl⟩
   ·left
    rw [if_neg (by simpa using h1), if_neg (by simpa using h2), if_neg (by simpa using h3)]
    exact ⟨h1, h2, rfl, rfl, by simp only; omega⟩
  ·right; simp [h1, h2]
 ·right; simp [h1]
theorem both_f (a b : B) : (S_rBoth a b).f = andI .u8 a.f b.f := by
 unfold S_rBoth
 repeat' split
 all_goals rfl
theorem both_le (a b : B) : Le (S_rBoth a b) a ∧ Le (S_rBoth a b) b := by
 have := both_n a b
 refine ⟨⟨fun h => by omega, fun f _ _ h => ?_⟩, ⟨fun h => by omega, fun f _ _ h => ?_⟩⟩
 ·rw [both_f, fb_and] at h; exact h.1
 ·rw [both_f, fb_and] at h; exact h.2
theorem both_mem {a b : B} {v : V} (h : Mem a v) (g : Mem b v) : Mem (S_rBoth a b) v := by
 refine ⟨fun h0 => ?_, fun h0 => ?_⟩
 ·have := both_n a b; have := h.n h0; have := g.n h0; omega
 ·rw [both_f, fb_and]; exact ⟨h.f h0, g.f h0⟩
theorem mayBe0_n {a : B} : S_rMayBe0 a = true ↔ a.lo ≤ 0 ∧ 0 ≤ a.hi := by
 unfold S_rMayBe0
 split
 ·rename_i h; simp at h ⊢; omega
 ·rename_i h; simp at h ⊢; omega
theorem mayBeOther_n {a : B} : S_rMayBeOther a = true ↔ a.lo ≤ a.hi ∧ (a.lo ≠ 0 ∨ a.hi ≠ 0) := by
 unfold S_rMayBeOther
 split
 ·rename_i h
  simp at h
  split
  ·rename_i h2; simp at h2; simp; omega
  ·rename_i h2; simp at h2; simp; omega
 ·rename_i h; simp at h ⊢; omega
def pickM (a p q : B) : B := if (S_rMayBeOther a) = true then if (S_rMayBe0 a) = true then S_rHull (S_rHull ((⟨1, 0, a.f⟩ : B)) p) q else S_rHull ((⟨1, 0, a.f⟩ : B)) p else if (S_rMayBe0 a) = true then S_rHull ((⟨1, 0, a.f⟩ : B)) q else (⟨1, 0, a.f⟩ : B)
theorem none_le {f : Int} {c : B} (h : ∀ g, 1 ≤ g → g ≤ 4 → FB f g → FB c.f g) : Le ⟨1, 0, f⟩ c := ⟨fun h => by simp at h, h⟩
theorem pick_0 {a p q : B} : Le ⟨1, 0, a.f⟩ (pickM a p q) := by
 unfold pickM
 split
 ·split
  ·exact le_hull1.trans le_hull1
  ·exact le_hull1
 ·split
  ·exact le_hull1
  ·exact Le.refl _
theorem pick_1 {a p q : B} (h : S_rMayBeOther a = true) : Le p (pickM a p q) := by
 unfold pickM
 rw [if_pos h]
 split
 ·exact le_hull2.trans le_hull1
 ·exact le_hull2
theorem pick_2 {a p q : B} (h : S_rMayBe0 a = true) : Le q (pickM a p q) := by
 unfold pickM
 split
 ·first | exact le_hull2 | (rw [if_pos h]; exact le_hull2)
 ·first | exact le_hull2 | (rw [if_pos h]; exact le_hull2)
theorem pick_le {a p q c : B} (h0 : Le ⟨1, 0, a.f⟩ c) (h1 : S_rMayBeOther a = true → Le p c) (h2 : S_rMayBe0 a = true → Le q c) : Le (pickM a p q) c := by
 unfold pickM
 split
 ·rename_i e
  split
  ·rename_i e2; exact hull_le (hull_le h0 (h1 e)) (h2 e2)
  ·exact hull_le h0 (h1 e)
 ·split
  ·rename_i e2; exact hull_le h0 (h2 e2)
  ·exact h0
theorem pick_mono {a p q a' p' q' : B} (h : Le a a') (h1 : Le p p') (h2 : Le q q') : Le (pickM a p q) (pickM a' p' q') := by
 refine pick_le ((none_le h.f : Le ⟨1, 0, a.f⟩ ⟨1, 0, a'.f⟩).trans pick_0) (fun e => ?_) (fun e => ?_)
 ·refine h1.trans (pick_1 ?_)
  rw [mayBeOther_n] at e ⊢; have := h.n e.1; omega
 ·refine h2.trans (pick_2 ?_)
  rw [mayBe0_n] at e ⊢; have := h.n (by omega); omega
end Go.Proofs.YtfhiejgoemcelaaGreat
namespace Go.Proofs.YtfhiejgoemcelaaGreat
open Go Tw Pv
def Sm (a : B) : Prop := -9999 ≤ a.lo ∧ a.lo ≤ a.hi ∧ a.hi ≤ 9999
theorem Good.sm {a : B} (h : Good a) (hn : a.lo ≤ a.hi) : Sm a := good_num h hn
def nOp (k x y : Int) : Int := if k = 7 then x + y else if k = 8 then x - y else if k = 9 then x * y else S_quot x y
theorem mul_sml {x y : Int} (x0 : -9999 ≤ x) (x1 : x ≤ 9999) (y0 : -9999 ≤ y) (y1 : y ≤ 9999) : -99980001 ≤ x * y ∧ x * y ≤ 99980001 :=
 mul_box (al := -9999) (ah := 9999) (bl := -9999) (bh := 9999) x0 x1 y0 y1 fun p hp q hq => by
  rcases hp with rfl | rfl <;> rcases hq with rfl | rfl <;> decide
theorem res_n {k x y : Int} (hk : k = 7 ∨ k = 8 ∨ k = 9 ∨ k = 10) (x0 : -9999 ≤ x) (x1 : x ≤ 9999) (y0 : -9999 ≤ y) (y1 : y ≤ 9999) (hy : k = 10 → y ≠ 0) : S_rResult k x y = nOp k x y := by
 have := mul_sml x0 x1 y0 y1
 rcases hk with rfl | rfl | rfl | rfl
 ·exact wr (by omega) (by omega)
 ·exact wr (by omega) (by omega)
 ·exact wr (by omega) (by omega)
 ·rw [floor_eq, quotient_q x0 x1 (hy rfl)]; rfl
theorem nOp_box {k al ah bl bh x y m M : Int} (hk : k = 7 ∨ k = 8 ∨ k = 9 ∨ k = 10) (h1 : al ≤ x) (h2 : x ≤ ah) (h3 : bl ≤ y) (h4 : y ≤ bh) (hy : k = 10 → y ≠ 0)
  (hm : ∀ p, p = al ∨ p = ah → ∀ q, (q = bl ∨ q = bh ∨ k = 10 ∧ (q = -1 ∨ q = 1)) → (k = 10 → q ≠ 0) → bl ≤ q → q ≤ bh → m ≤ nOp k p q ∧ nOp k p q ≤ M) : m ≤ nOp k x y ∧ nOp k x y ≤ M := by
 rcases hk with rfl | rfl | rfl | rfl
 ·have a1 := hm al (.inl rfl) bl (.inl rfl) (by omega) (by omega) (by omega)
  have a2 := hm ah (.inr rfl) bh (.inr (.inl rfl)) (by omega) (by omega) (by omega)
  simp only [nOp, if_true] at *
  omega
 ·have a1 := hm al (.inl rfl) bh (.inr (.inl rfl)) (by omega) (by omega) (by omega)
  have a2 := hm ah (.inr rfl) bl (.inl rfl) (by omega) (by omega) (by omega)
  simp only [nOp, show ¬ (8 : Int) = 7 by decide, if_true, if_false] at *
  omega
 ·exact mul_box h1 h2 h3 h4 fun p hp q hq => hm p hp q (by rcases hq with h | h; exact .inl h; exact .inr (.inl h)) (by omega) (by omega) (by omega)
 ·exact quot_btw h1 h2 h3 h4 (hy rfl) fun p hp q hq h0 hb1 hb2 => hm p hp q (by rcases hq with h | h | h | h; exact .inl h; exact .inr (.inl h); exact .inr (.inr ⟨rfl, .inl h⟩); exact .inr (.inr ⟨rfl, .inr h⟩)) (fun _ => h0) hb1 hb2
theorem isDiv_n {b : B} {x : Int} : isDiv b x = true ↔ x ≠ 0 ∧ b.lo ≤ x ∧ x ≤ b.hi := by
 unfold isDiv
 simp only [Bool.and_eq_true, bne_iff_ne, ne_eq, decide_eq_true_eq]
theorem counted_m {k : Int} {a b : B} (hk : k = 7 ∨ k = 8 ∨ k = 9 ∨ k = 10) (ha : Sm a) (hb : Sm b) : ∃ m : B, S_rCounted k a b = S_rCut m ∧ m.f = 0 ∧
  (∀ x y, a.lo ≤ x → x ≤ a.hi → b.lo ≤ y → y ≤ b.hi → (k = 10 → y ≠ 0) → m.lo ≤ nOp k x y ∧ nOp k x y ≤ m.hi) ∧
  (m.lo = 1 ∧ m.hi = 0 ∨ (∃ x y, a.lo ≤ x ∧ x ≤ a.hi ∧ b.lo ≤ y ∧ y ≤ b.hi ∧ (k = 10 → y ≠ 0) ∧ m.lo = nOp k x y) ∧ (∃ x y, a.lo ≤ x ∧ x ≤ a.hi ∧ b.lo ≤ y ∧ y ≤ b.hi ∧ (k = 10 → y ≠ 0) ∧ m.hi = nOp k x y)) := by
 obtain ⟨a0, a1, a2⟩ := ha
 obtain ⟨b0, b1, b2⟩ := hb
 by_cases h10 : k = 10
 ·subst h10
  have e1 : S_rCounted 10 a b = S_rCut (ptsB ⟨1, 0, 0⟩ ((S_rDivisors b).map (S_quotient a.lo) ++ (S_rDivisors b).map (S_quotient a.hi))) := by
   unfold S_rCounted
   rw [if_pos (by decide)]
   simp only [run_counted, pts_app]
   rw [show S_rResult 10 a.lo = S_quotient a.lo from funext fun x => floor_eq _ x, show S_rResult 10 a.hi = S_quotient a.hi from funext fun x => floor_eq _ x]
  have hA := isHull_pts ((S_rDivisors b).map (S_quotient a.lo) ++ (S_rDivisors b).map (S_quotient a.hi)) [] isHull_nil
  rw [List.nil_append] at hA
  have mem : ∀ z, z ∈ (S_rDivisors b).map (S_quotient a.lo) ++ (S_rDivisors b).map (S_quotient a.hi) ↔ ∃ q, (q = b.lo ∨ q = b.hi ∨ q = -1 ∨ q = 1) ∧ q ≠ 0 ∧ b.lo ≤ q ∧ q ≤ b.hi ∧ (z = S_quot a.lo q ∨ z = S_quot a.hi q) := by
   intro z
   have hd : ∀ q, q ∈ S_rDivisors b ↔ (q = b.lo ∨ q = b.hi ∨ q = -1 ∨ q = 1) ∧ q ≠ 0 ∧ b.lo ≤ q ∧ q ≤ b.hi := fun q => by
    unfold S_rDivisors
    rw [List.mem_filter, isDiv_n]
    simp
   rw [List.mem_append, List.mem_map, List.mem_map]
   constructor
   ·rintro (⟨q, hq, rfl⟩ | ⟨q, hq, rfl⟩)
    ·have := (hd q).1 hq; exact ⟨q, this.1, this.2.1, this.2.2.1, this.2.2.2, .inl (quotient_q (by omega) (by omega) this.2.1)⟩
    ·have := (hd q).1 hq; exact ⟨q, this.1, this.2.1, this.2.2.1, this.2.2.2, .inr (quotient_q (by omega) (by omega) this.2.1)⟩
   ·rintro ⟨q, h1, h2, h3, h4, h5 | h5⟩
    ·exact .inl ⟨q, (hd q).2 ⟨h1, h2, h3, h4⟩, by rw [h5]; exact quotient_q (by omega) (by omega) h2⟩
    ·exact .inr ⟨q, (hd q).2 ⟨h1, h2, h3, h4⟩, by rw [h5]; exact quotient_q (by omega) (by omega) h2⟩
  refine ⟨_, e1, hA.1, ?_, ?_⟩
  ·intro x y h1 h2 h3 h4 hy
   refine nOp_box (.inr (.inr (.inr rfl))) h1 h2 h3 h4 hy fun p hp q hq q0 q1 q2 => ?_
   have hz := (mem (S_quot p q)).2 ⟨q, (by omega), q0 rfl, q1, q2, (by rcases hp with rfl | rfl; exact .inl rfl; exact .inr rfl)⟩
   rcases hA.2 with h | h
   ·rw [h.1] at hz; cases hz
   ·exact h.2.2 _ hz
  ·rcases hA.2 with h | h
   ·exact .inl ⟨h.2.1, h.2.2⟩
   ·obtain ⟨q, _, g2, g3, g4, g5⟩ := (mem _).1 h.1
    obtain ⟨r, _, i2, i3, i4, i5⟩ := (mem _).1 h.2.1
    refine .inr ⟨?_, ?_⟩
    ·rcases g5 with g | g
     ·exact ⟨a.lo, q, by omega, by omega, g3, g4, fun _ => g2, g⟩
     ·exact ⟨a.hi, q, by omega, by omega, g3, g4, fun _ => g2, g⟩
    ·rcases i5 with g | g
     ·exact ⟨a.lo, r, by omega, by omega, i3, i4, fun _ => i2, g⟩
     ·exact ⟨a.hi, r, by omega, by omega, i3, i4, fun _ => i2, g⟩
 ·have e1 := counted_eq h10 a b
  have hA := isHull_pts [S_rResult k a.lo b.lo, S_rResult k a.lo b.hi, S_rResult k a.hi b.lo, S_rResult k a.hi b.hi] [] isHull_nil
  rw [List.nil_append] at hA
  have hr : ∀ x y, a.lo ≤ x → x ≤ a.hi → b.lo ≤ y → y ≤ b.hi → S_rResult k x y = nOp k x y := fun x y _ _ _ _ => res_n hk (by omega) (by omega) (by omega) (by omega) (fun h => absurd h h10)
  rw [hr _ _ (by omega) (by omega) (by omega) (by omega), hr _ _ (by omega) (by omega) (by omega) (by omega), hr _ _ (by omega) (by omega) (by omega) (by omega), hr _ _ (by omega) (by omega) (by omega) (by omega)] at hA
  have e2 : cornB (S_rResult k) a b = ptsB ⟨1, 0, 0⟩ [nOp k a.lo b.lo, nOp k a.lo b.hi, nOp k a.hi b.lo, nOp k a.hi b.hi] := by
   unfold cornB
   rw [hr _ _ (by omega) (by omega) (by omega) (by omega), hr _ _ (by omega) (by omega) (by omega) (by omega), hr _ _ (by omega) (by omega) (by omega) (by omega), hr _ _ (by omega) (by omega) (by omega) (by omega)]
  rw [e2] at e1
  refine ⟨_, e1, hA.1, ?_, ?_⟩
  ·intro x y h1 h2 h3 h4 hy
   refine nOp_box hk h1 h2 h3 h4 hy fun p hp q hq q0 q1 q2 => ?_
   rcases hA.2 with h | h
   ·simp at h
   ·refine h.2.2 _ ?_
    have hq : q = b.lo ∨ q = b.hi := by omega
    rcases hp with rfl | rfl <;> rcases hq with rfl | rfl <;> simp
  ·rcases hA.2 with h | h
   ·simp at h
   ·have f : ∀ z, z ∈ [nOp k a.lo b.lo, nOp k a.lo b.hi, nOp k a.hi b.lo, nOp k a.hi b.hi] → ∃ x y, a.lo ≤ x ∧ x ≤ a.hi ∧ b.lo ≤ y ∧ y ≤ b.hi ∧ (k = 10 → y ≠ 0) ∧ z = nOp k x y := fun z hz => by
     simp only [List.mem_cons, List.not_mem_nil, or_false] at hz
     rcases hz with g | g | g | g
     ·exact ⟨_, _, by omega, by omega, by omega, by omega, fun h => absurd h h10, g⟩
     ·exact ⟨_, _, by omega, by omega, by omega, by omega, fun h => absurd h h10, g⟩
     ·exact ⟨_, _, by omega, by omega, by omega, by omega, fun h => absurd h h10, g⟩
     ·exact ⟨_, _, by omega, by omega, by omega, by omega, fun h => absurd h h10, g⟩
    exact .inr ⟨f _ h.1, f _ h.2.1⟩
theorem cut_n {m : B} (hf : m.f = 0) : ((m.lo ≤ m.hi ∧ (((S_rCut m).lo = max m.lo (-9999) ∧ (S_rCut m).hi = min m.hi 9999 ∧ max m.lo (-9999) ≤ min m.hi 9999) ∨ ((S_rCut m).lo = 1 ∧ (S_rCut m).hi = 0 ∧ max m.lo (-9999) > min m.hi 9999))) ∨ (¬ m.lo ≤ m.hi ∧ S_rCut m = m)) ∧ ∀ f, 1 ≤ f → f ≤ 4 → (FB (S_rCut m).f f ↔ f = 2 ∧ m.lo ≤ m.hi ∧ (m.lo < -9999 ∨ 9999 < m.hi)) := by
 have e1 : maxI m.lo (-9999) = max m.lo (-9999) := by unfold maxI; split <;> omega
 have e2 : minI m.hi 9999 = min m.hi 9999 := by unfold minI; split <;> omega
 have h2 : ∀ f, 1 ≤ f → f ≤ 4 → (FB (orI .u8 0 (S_rFault 2)) f ↔ f = 2) := fun f f1 f2 => by
  rw [fb_or, ← fault_eq, fb_bit (by decide) (by decide) f1 f2]
  exact ⟨fun h => h.elim (fun h => absurd h fb_0) id, .inr⟩
 unfold S_rCut
 rw [e1, e2, hf]
 by_cases h : m.lo ≤ m.hi
 ·rw [if_neg (by simpa using h)]
  split
  ·rename_i g; simp only [decide_eq_true_eq] at g
   split
   ·rename_i g2; simp only [decide_eq_true_eq] at g2
    exact ⟨.inl ⟨h, .inr ⟨rfl, rfl, g2⟩⟩, fun f f1 f2 => (h2 f f1 f2).trans ⟨fun e => ⟨e, h, .inl g⟩, fun e => e.1⟩⟩
   ·rename_i g2; simp only [decide_eq_true_eq] at g2
    exact ⟨.inl ⟨h, .inl ⟨rfl, rfl, by omega⟩⟩, fun f f1 f2 => (h2 f f1 f2).trans ⟨fun e => ⟨e, h, .inl g⟩, fun e => e.1⟩⟩
  ·rename_i g; simp only [decide_eq_true_eq] at g
   split
   ·rename_i k; simp only [decide_eq_true_eq] at k
    split
    ·rename_i g2; simp only [decide_eq_true_eq] at g2
     exact ⟨.inl ⟨h, .inr ⟨rfl, rfl, g2⟩⟩, fun f f1 f2 => (h2 f f1 f2).trans ⟨fun e => ⟨e, h, .inr k⟩, fun e => e.1⟩⟩
    ·rename_i g2; simp only [decide_eq_true_eq] at g2
     exact ⟨.inl ⟨h, .inl ⟨rfl, rfl, by omega⟩⟩, fun f f1 f2 => (h2 f f1 f2).trans ⟨fun e => ⟨e, h, .inr k⟩, fun e => e.1⟩⟩
   ·rename_i k; simp only [decide_eq_true_eq] at k
    split
    ·rename_i g2; simp only [decide_eq_true_eq] at g2
     exact ⟨.inl ⟨h, .inr ⟨rfl, rfl, g2⟩⟩, fun f f1 f2 => ⟨fun e => absurd e fb_0, fun e => by omega⟩⟩
    ·rename_i g2; simp only [decide_eq_true_eq] at g2
     exact ⟨.inl ⟨h, .inl ⟨rfl, rfl, by omega⟩⟩, fun f f1 f2 => ⟨fun e => absurd e fb_0, fun e => by omega⟩⟩
 ·rw [if_pos (by simp; omega)]
  exact ⟨.inr ⟨h, rfl⟩, fun f _ _ => ⟨fun g => absurd (hf ▸ g) fb_0, fun g => absurd g.2.1 h⟩⟩
theorem cut_make {m : B} (hf : m.f = 0) {z : Int} (h1 : m.lo ≤ z) (h2 : z ≤ m.hi) : Mem (S_rCut m) (S_rMake z) := by
 obtain ⟨hn, hb⟩ := cut_n hf
 unfold S_rMake
 split
 ·rename_i h; simp at h
  exact ⟨fun h0 => by simp [S_rFaultV] at h0, fun _ => (hb 2 (by decide) (by decide)).2 ⟨rfl, by omega, .inl (by omega)⟩⟩
 ·split
  ·rename_i h; simp at h
   exact ⟨fun h0 => by simp [S_rFaultV] at h0, fun _ => (hb 2 (by decide) (by decide)).2 ⟨rfl, by omega, .inr (by omega)⟩⟩
  ·rename_i h3 h4; simp at h3 h4
   exact ⟨fun _ => by simp only [S_rNumber]; omega, fun h0 => by simp [S_rNumber] at h0⟩
theorem cut_mono {m m' : B} (hf : m.f = 0) (hf' : m'.f = 0) (h : m.lo ≤ m.hi → m'.lo ≤ m.lo ∧ m.hi ≤ m'.hi) : Le (S_rCut m) (S_rCut m') := by
 obtain ⟨hn, hb⟩ := cut_n hf
 obtain ⟨hn', hb'⟩ := cut_n hf'
 refine ⟨fun hl => ?_, fun f f1 f2 g => ?_⟩
 ·rcases hn with ⟨h1, h2⟩ | ⟨h1, h2⟩
  ·have := h h1
   rcases hn' with ⟨g1, g2⟩ | ⟨g1, g2⟩
   ·omega
   ·omega
  ·rw [h2] at hl; exact absurd hl h1
 ·obtain ⟨rfl, g1, g2⟩ := (hb f f1 f2).1 g
  have := h g1
  exact (hb' 2 f1 f2).2 ⟨rfl, by omega, by omega⟩
theorem rest_n {a b : B} (hb : Sm b) (h : S_rMayBeOther b = true) : (S_rRest a b).lo = (if b.lo < 0 then b.lo + 1 else 0) ∧ (S_rRest a b).hi = (if 0 ≤ a.lo ∧ 0 ≤ b.lo then min (if 0 < b.hi then b.hi - 1 else 0) a.hi else if 0 < b.hi then b.hi - 1 else 0) ∧ (S_rRest a b).f = 0 := by
 obtain ⟨b0, b1, b2⟩ := hb
 have w1 : IntKind.i64.wrap (b.lo + 1) = b.lo + 1 := wr (by omega) (by omega)
 have w2 : IntKind.i64.wrap (b.hi - 1) = b.hi - 1 := wr (by omega) (by omega)
 have m1 : ∀ x y, minI x y = min x y := fun x y => by unfold minI; split <;> omega
 unfold S_rRest
 rw [if_neg (by rw [h]; simp), w1, w2]
 simp only [m1, decide_eq_true_eq, ge_iff_le, gt_iff_lt]
 by_cases h1 : b.lo < 0
 ·have h4 : ¬ 0 ≤ b.lo := by omega
  by_cases h2 : 0 < b.hi <;> by_cases h3 : 0 ≤ a.lo <;> simp only [h1, h2, h3, h4, if_true, if_false, and_false, and_self]
 ·have h4 : 0 ≤ b.lo := by omega
  by_cases h2 : 0 < b.hi <;> by_cases h3 : 0 ≤ a.lo <;> simp only [h1, h2, h3, h4, if_true, if_false, and_true, and_self]
theorem rest_in {x y : Int} (hy : y ≠ 0) : (0 < y → 0 ≤ x - y * S_quot x y ∧ x - y * S_quot x y ≤ y - 1 ∧ (0 ≤ x → x - y * S_quot x y ≤ x)) ∧ (y < 0 → y + 1 ≤ x - y * S_quot x y ∧ x - y * S_quot x y ≤ 0) := by
 constructor
 ·intro h
  have e : S_quot x y = x / y := by unfold S_quot; rw [if_neg (by omega)]
  have h1 := Int.emod_nonneg x hy
  have h2 := Int.emod_lt_of_pos x h
  have h3 := Int.mul_ediv_add_emod x y
  rw [e]
  refine ⟨by omega, by omega, fun h0 => ?_⟩
  have : 0 ≤ y * (x / y) := Int.mul_nonneg (by omega) (Int.ediv_nonneg h0 (by omega))
  omega
 ·intro h
  have e : S_quot x y = (-x) / (-y) := by unfold S_quot; rw [if_pos h]
  have h1 := Int.emod_nonneg (-x) (b := -y) (by omega)
  have h2 := Int.emod_lt_of_pos (-x) (b := -y) (by omega)
  have h3 := Int.mul_ediv_add_emod (-x) (-y)
  rw [e]
  rw [Int.neg_mul] at h3
  omega
end Go.Proofs.YtfhiejgoemcelaaGreat
namespace Go.Proofs.YtfhiejgoemcelaaGreat
open Go Tw Pv
theorem pair_none {k : Int} {a b : B} (h : ¬ b.lo ≤ b.hi) : S_rPair k a b = ⟨1, 0, orI .u8 a.f b.f⟩ := by rw [rPair_eq, if_pos ⟨rfl, h⟩]
theorem pair_some {k : Int} {a b : B} (h : b.lo ≤ b.hi) : (S_rPair k a b).lo = (pairM k a b).lo ∧ (S_rPair k a b).hi = (pairM k a b).hi ∧ ∀ f, 1 ≤ f → f ≤ 4 → (FB (S_rPair k a b).f f ↔ FB (pairM k a b).f f ∨ ((k = 10 ∨ k = 11) ∧ S_rMayBe0 b = true ∧ f = 1) ∨ FB a.f f ∨ FB b.f f) := by
 rw [rPair_eq, if_neg (fun g => g.2 h)]
 split
 ·rename_i g
  refine ⟨rfl, rfl, fun f f1 f2 => ?_⟩
  have h1 : FB 1 f ↔ f = 1 := by have := fb_bit (g := 1) (by decide) (by decide) f1 f2; rwa [bit_1] at this
  simp only [fb_or, h1]
  constructor
  ·rintro ((h | h) | h)
   ·exact .inl h
   ·exact .inr (.inl ⟨g.1, g.2, h⟩)
   ·exact .inr (.inr h)
  ·rintro (h | h | h)
   ·exact .inl (.inl h)
   ·exact .inl (.inr h.2.2)
   ·exact .inr h
 ·rename_i g
  refine ⟨rfl, rfl, fun f f1 f2 => ?_⟩
  simp only [fb_or]
  constructor
  ·rintro (h | h)
   ·exact .inl h
   ·exact .inr (.inr h)
  ·rintro (h | h | h)
   ·exact .inl h
   ·exact absurd ⟨h.1, h.2.1⟩ g
   ·exact .inr h
theorem pair_mem {k : Int} {a b : B} {v : V} (h : b.lo ≤ b.hi) (hv : VGood v) (m : Mem (pairM k a b) v) : Mem (S_rPair k a b) v := by
 obtain ⟨h1, h2, h3⟩ := pair_some (k := k) (a := a) h
 exact ⟨fun h0 => by rw [h1, h2]; exact m.n h0, fun h0 => (h3 _ (by have := hv.f0; omega) hv.f1).2 (.inl (m.f h0))⟩
theorem eq_truth (a b : B) : S_eq a b = S_rTruth ((a.lo == a.hi) && ((b.lo == b.hi) && (a.lo == b.lo))) (decide (a.hi < b.lo) || decide (b.hi < a.lo)) := by
 unfold S_eq
 cases (a.lo == a.hi) <;> cases (b.lo == b.hi) <;> cases decide (a.hi < b.lo) <;> simp [truth_eq]
theorem truth_mem {p q t : Bool} (h1 : p = true → t = true) (h2 : q = true → t = false) : Mem (S_rTruth p q) (S_rBool t) := by
 cases p with
 | true => rw [h1 rfl]; exact ⟨fun _ => ⟨Int.le_refl 1, Int.le_refl 1⟩, fun h => by simp [S_rBool, S_rNumber] at h⟩
 | false => cases q with
  | true => rw [h2 rfl]; exact ⟨fun _ => ⟨by decide, by decide⟩, fun h => by simp [S_rBool, S_rNumber] at h⟩
  | false => cases t <;> exact ⟨fun _ => ⟨by decide, by decide⟩, fun h => by simp [S_rBool, S_rNumber] at h⟩
theorem truth_le {p q p' q' : Bool} (h1 : p' = true → p = true) (h2 : q' = true → q = true) (h3 : p = true → q = true → False) : Le (S_rTruth p q) (S_rTruth p' q') := by
 have z : ∀ a b : Bool, (S_rTruth a b).f = 0 := truth_f
 refine ⟨fun _ => ?_, fun f _ _ h => absurd (z p q ▸ h) fb_0⟩
 cases p <;> cases q <;> cases p' <;> cases q' <;> first | decide | exact absurd (h1 rfl) (by decide) | exact absurd (h2 rfl) (by decide) | exact (h3 rfl rfl).elim
theorem num_mem {r : B} {z : Int} (h1 : r.lo ≤ z) (h2 : z ≤ r.hi) : Mem r (S_rNumber z) := ⟨fun _ => ⟨h1, h2⟩, fun h => by simp [S_rNumber] at h⟩
theorem op2_7 (x y : Int) : S_rOp2 7 ⟨0, x⟩ ⟨0, y⟩ = S_rMake (IntKind.i64.wrap (x + y)) := by simp [S_rOp2]
theorem op2_8 (x y : Int) : S_rOp2 8 ⟨0, x⟩ ⟨0, y⟩ = S_rMake (IntKind.i64.wrap (x - y)) := by simp [S_rOp2]
theorem op2_9 (x y : Int) : S_rOp2 9 ⟨0, x⟩ ⟨0, y⟩ = S_rMake (IntKind.i64.wrap (x * y)) := by simp [S_rOp2]
theorem op2_10 (x y : Int) : S_rOp2 10 ⟨0, x⟩ ⟨0, y⟩ = if y = 0 then S_rFaultV 1 else S_rNumber (S_quot x y) := by simp [S_rOp2]
theorem op2_11 (x y : Int) : S_rOp2 11 ⟨0, x⟩ ⟨0, y⟩ = if y = 0 then S_rFaultV 1 else S_rNumber (IntKind.i64.wrap (x - IntKind.i64.wrap (y * S_quot x y))) := by simp [S_rOp2]
theorem op2_12 (x y : Int) : S_rOp2 12 ⟨0, x⟩ ⟨0, y⟩ = S_rBool (x == y) := by simp [S_rOp2]
theorem op2_13 (x y : Int) : S_rOp2 13 ⟨0, x⟩ ⟨0, y⟩ = S_rBool (decide (x < y)) := by simp [S_rOp2]
theorem op2_14 (x y : Int) : S_rOp2 14 ⟨0, x⟩ ⟨0, y⟩ = S_rBool (decide (x ≤ y)) := by simp [S_rOp2]
theorem fault1_mem {r : B} (h : FB r.f 1) : Mem r (S_rFaultV 1) := ⟨fun g => by simp [S_rFaultV] at g, fun _ => h⟩
theorem pair_sound {k : Int} (h7 : 7 ≤ k) (h14 : k ≤ 14) {a b : B} {v u : V} (ha : Good a) (hb : Good b) (hv : VGood v) (hu : VGood u) (mv : Mem a v) (mu : Mem b u) (hr : VGood (S_rOp2 k v u)) : Mem (S_rPair k a b) (S_rOp2 k v u) := by
 by_cases fv : v.f = 0
 ·have nv := mv.n fv
  have bv := hv.n fv
  by_cases fu : u.f = 0
  ·have nu := mu.n fu
   have bu := hu.n fu
   have hsb := hb.sm (by omega)
   have hsa := ha.sm (by omega)
   have hbn : b.lo ≤ b.hi := by omega
   obtain ⟨vf, x⟩ := v
   obtain ⟨uf, y⟩ := u
   simp only at fv fu nv nu bv bu
   subst fv; subst fu
   have hm := mul_sml bv.1 bv.2 bu.1 bu.2
   have cnt : ∀ (z : Int), (k = 7 ∨ k = 8 ∨ k = 9 ∨ k = 10) → (k = 10 → y ≠ 0) → S_rOp2 k ⟨0, x⟩ ⟨0, y⟩ = S_rMake z → z = nOp k x y → Mem (S_rPair k a b) (S_rOp2 k ⟨0, x⟩ ⟨0, y⟩) := fun z hk hy e ez => by
    refine pair_mem hbn hr ?_
    obtain ⟨m, e1, e2, e3, _⟩ := counted_m hk hsa hsb
    rw [pairM_c (by omega) (by omega) (by omega) (by omega), e1, e, ez]
    exact cut_make e2 (e3 x y nv.1 nv.2 nu.1 nu.2 hy).1 (e3 x y nv.1 nv.2 nu.1 nu.2 hy).2
   have hk : k = 7 ∨ k = 8 ∨ k = 9 ∨ k = 10 ∨ k = 11 ∨ k = 12 ∨ k = 13 ∨ k = 14 := by omega
   rcases hk with rfl | rfl | rfl | rfl | rfl | rfl | rfl | rfl
   ·exact cnt _ (by decide) (fun h => absurd h (by decide)) (op2_7 x y) (wr (z := x + y) (by omega) (by omega))
   ·exact cnt _ (by decide) (fun h => absurd h (by decide)) (op2_8 x y) (wr (z := x - y) (by omega) (by omega))
   ·exact cnt _ (by decide) (fun h => absurd h (by decide)) (op2_9 x y) (wr (z := x * y) (by omega) (by omega))
   ·by_cases hy : y = 0
    ·subst hy
     obtain ⟨_, _, h3⟩ := pair_some (k := 10) (a := a) hbn
     rw [op2_10, if_pos rfl]
     exact fault1_mem ((h3 1 (by decide) (by decide)).2 (.inr (.inl ⟨.inl rfl, mayBe0_n.2 nu, rfl⟩)))
    ·obtain ⟨_, q1, _⟩ := vquot_eq bv.1 bv.2 bu.1 bu.2 hy
     refine cnt (S_quot x y) (by decide) (fun _ => hy) ?_ rfl
     rw [rMake_in q1.1 q1.2, op2_10, if_neg hy]
   ·by_cases hy : y = 0
    ·subst hy
     obtain ⟨_, _, h3⟩ := pair_some (k := 11) (a := a) hbn
     rw [op2_11, if_pos rfl]
     exact fault1_mem ((h3 1 (by decide) (by decide)).2 (.inr (.inl ⟨.inr rfl, mayBe0_n.2 nu, rfl⟩)))
    ·obtain ⟨_, _, q2, q3⟩ := vquot_eq bv.1 bv.2 bu.1 bu.2 hy
     have e : S_rOp2 11 ⟨0, x⟩ ⟨0, y⟩ = S_rNumber (x - y * S_quot x y) := by
      rw [op2_11, if_neg hy, q3]
     refine pair_mem hbn hr ?_
     rw [e, show pairM 11 a b = S_rRest a b from rfl]
     obtain ⟨r1, r2, _⟩ := rest_n (a := a) hsb (mayBeOther_n.2 (by omega))
     obtain ⟨i1, i2⟩ := rest_in (x := x) hy
     refine num_mem ?_ ?_
     ·rw [r1]
      split
      ·rcases ilt y with h | h
       ·have := i2 h; omega
       ·have := i1 (by omega); omega
      ·have := i1 (by omega); omega
     ·rw [r2]
      rcases ilt y with h | h
      ·have := i2 h
       rw [if_neg (by omega)]
       split <;> omega
      ·have := i1 (by omega)
       rw [if_pos (show 0 < b.hi by omega)]
       split
       ·omega
       ·omega
   ·refine pair_mem hbn hr ?_
    rw [op2_12, show pairM 12 a b = S_eq a b from rfl, eq_truth]
    exact truth_mem (fun h => by simp at h ⊢; omega) (fun h => by simp at h ⊢; omega)
   ·refine pair_mem hbn hr ?_
    rw [op2_13, show pairM 13 a b = S_rTruth (decide (a.hi < b.lo)) (decide (a.lo ≥ b.hi)) from rfl]
    exact truth_mem (fun h => by simp at h ⊢; omega) (fun h => by simp at h ⊢; omega)
   ·refine pair_mem hbn hr ?_
    rw [op2_14, show pairM 14 a b = S_rTruth (decide (a.hi ≤ b.lo)) (decide (a.lo > b.hi)) from rfl]
    exact truth_mem (fun h => by simp at h ⊢; omega) (fun h => by simp at h ⊢; omega)
  ·have e : S_rOp2 k v u = u := by
    unfold S_rOp2
    rw [if_neg (by simp [fv]), if_neg (by simp; omega), if_neg (by simp; omega), if_pos (fpos hu fu)]
   rw [e]
   have hf := mu.f fu
   refine ⟨fun h => absurd h fu, fun _ => ?_⟩
   by_cases hbn : b.lo ≤ b.hi
   ·exact ((pair_some hbn).2.2 _ (by have := hu.f0; omega) hu.f1).2 (.inr (.inr (.inr hf)))
   ·rw [pair_none hbn]; exact fb_or.2 (.inr hf)
 ·have e : S_rOp2 k v u = v := by
   unfold S_rOp2
   rw [if_pos (fpos hv fv)]
  rw [e]
  have hf := mv.f fv
  refine ⟨fun h => absurd h fv, fun _ => ?_⟩
  by_cases hbn : b.lo ≤ b.hi
  ·exact ((pair_some hbn).2.2 _ (by have := hv.f0; omega) hv.f1).2 (.inr (.inr (.inl hf)))
  ·rw [pair_none hbn]; exact fb_or.2 (.inl hf)
theorem pairM_le {k : Int} (h7 : 7 ≤ k) (h14 : k ≤ 14) {a b a' b' : B} (ha : Sm a) (hb : Sm b) (ha' : Sm a') (hb' : Sm b') (la : Le a a') (lb : Le b b') : Le (pairM k a b) (pairM k a' b') := by
 have na := la.n ha.2.1
 have nb := lb.n hb.2.1
 have hk : (k = 7 ∨ k = 8 ∨ k = 9 ∨ k = 10) ∨ k = 11 ∨ k = 12 ∨ k = 13 ∨ k = 14 := by omega
 rcases hk with hk | rfl | rfl | rfl | rfl
 ·rw [pairM_c (by omega) (by omega) (by omega) (by omega), pairM_c (by omega) (by omega) (by omega) (by omega)]
  obtain ⟨m, e1, e2, e3, e4⟩ := counted_m hk ha hb
  obtain ⟨m', e1', e2', e3', _⟩ := counted_m hk ha' hb'
  rw [e1, e1']
  refine cut_mono e2 e2' fun hn => ?_
  rcases e4 with h | ⟨⟨x, y, x1, x2, y1, y2, y3, e⟩, ⟨x', y', x1', x2', y1', y2', y3', e'⟩⟩
  ·omega
  ·have := e3' x y (by omega) (by omega) (by omega) (by omega) y3
   have := e3' x' y' (by omega) (by omega) (by omega) (by omega) y3'
   omega
 ·show Le (S_rRest a b) (S_rRest a' b')
  by_cases h : S_rMayBeOther b = true
  ·have hn := mayBeOther_n.1 h
   have h' : S_rMayBeOther b' = true := mayBeOther_n.2 (by omega)
   obtain ⟨r1, r2, r3⟩ := rest_n (a := a) hb h
   obtain ⟨r1', r2', r3'⟩ := rest_n (a := a') hb' h'
   obtain ⟨a0, a1, a2⟩ := ha
   refine ⟨fun _ => ?_, fun f _ _ g => absurd (r3 ▸ g) fb_0⟩
   rw [r1, r2, r1', r2']
   constructor
   ·split <;> split <;> omega
   ·by_cases c1 : 0 ≤ a'.lo ∧ 0 ≤ b'.lo
    ·rw [if_pos c1, if_pos (by omega)]
     split <;> split <;> omega
    ·rw [if_neg c1]
     split <;> split <;> split <;> omega
  ·have e : S_rRest a b = ⟨1, 0, 0⟩ := by unfold S_rRest; rw [if_pos (by simpa using h)]
   rw [e]
   exact none_le fun g _ _ h => absurd h fb_0
 ·show Le (S_eq a b) (S_eq a' b')
  obtain ⟨a0, a1, a2⟩ := ha
  obtain ⟨b0, b1, b2⟩ := hb
  rw [eq_truth, eq_truth]
  exact truth_le (fun h => by simp at h ⊢; omega) (fun h => by simp at h ⊢; omega) (fun h g => by simp at h g; omega)
 ·obtain ⟨a0, a1, a2⟩ := ha
  obtain ⟨b0, b1, b2⟩ := hb
  exact truth_le (p := decide (a.hi < b.lo)) (q := decide (a.lo ≥ b.hi)) (fun h => by simp at h ⊢; omega) (fun h => by simp at h ⊢; omega) (fun h g => by simp at h g; omega)
 ·obtain ⟨a0, a1, a2⟩ := ha
  obtain ⟨b0, b1, b2⟩ := hb
  exact truth_le (p := decide (a.hi ≤ b.lo)) (q := decide (a.lo > b.hi)) (fun h => by simp at h ⊢; omega) (fun h => by simp at h ⊢; omega) (fun h g => by simp at h g; omega)
theorem pair_le {k : Int} (h7 : 7 ≤ k) (h14 : k ≤ 14) {a b a' b' : B} (ha : Good a) (hb : Good b) (ha' : Good a') (hb' : Good b') (hn : a.lo ≤ a.hi) (la : Le a a') (lb : Le b b') : Le (S_rPair k a b) (S_rPair k a' b') := by
 have na := la.n hn
 have fs : ∀ f, 1 ≤ f → f ≤ 4 → FB a.f f ∨ FB b.f f → FB (S_rPair k a' b').f f := fun f f1 f2 h => by
  have h' : FB a'.f f ∨ FB b'.f f := h.imp (la.f f f1 f2) (lb.f f f1 f2)
  by_cases hbn : b'.lo ≤ b'.hi
  ·exact ((pair_some hbn).2.2 f f1 f2).2 (.inr (.inr h'))
  ·rw [pair_none hbn]; exact fb_or.2 h'
 by_cases hbn : b.lo ≤ b.hi
 ·have nb := lb.n hbn
  have hbn' : b'.lo ≤ b'.hi := by omega
  obtain ⟨p1, p2, p3⟩ := pair_some (k := k) (a := a) hbn
  obtain ⟨q1, q2, q3⟩ := pair_some (k := k) (a := a') hbn'
  have hM := pairM_le h7 h14 (ha.sm hn) (hb.sm hbn) (ha'.sm (by omega)) (hb'.sm hbn') la lb
  refine ⟨fun h => by rw [p1, p2] at h ⊢; rw [q1, q2]; exact hM.n h, fun f f1 f2 h => ?_⟩
  rcases (p3 f f1 f2).1 h with h | h | h
  ·exact (q3 f f1 f2).2 (.inl (hM.f f f1 f2 h))
  ·refine (q3 f f1 f2).2 (.inr (.inl ⟨h.1, ?_, h.2.2⟩))
   have := mayBe0_n.1 h.2.1
   exact mayBe0_n.2 (by omega)
  ·exact fs f f1 f2 h
 ·rw [pair_none hbn]
  exact none_le fun f f1 f2 h => fs f f1 f2 (fb_or.1 h)
end Go.Proofs.YtfhiejgoemcelaaGreat
namespace Go.Proofs.YtfhiejgoemcelaaGreat
open Go Tw Pv
section
variable {c : C} {l : List B} {o : O}
abbrev La (l : List B) (o : O) : B := l.getD o.a.toNat B0
abbrev Lb (l : List B) (o : O) : B := l.getD o.b.toNat B0
abbrev Lc (l : List B) (o : O) : B := l.getD o.c.toNat B0
theorem rr_1 (h : o.code = 1) : S_rRule c l o = ⟨o.n, o.n, 0⟩ := by obtain ⟨k, x, y, z, n⟩ := o; subst h; rfl
theorem rr_2 (h : o.code = 2) : S_rRule c l o = ⟨1, 0, S_bit (IntKind.u8.wrap o.n)⟩ := by obtain ⟨k, x, y, z, n⟩ := o; subst h; rfl
theorem rr_3 (h : o.code = 3) : S_rRule c l o = ⟨(c.cs.getD o.n.toNat K0).lo, (c.cs.getD o.n.toNat K0).hi, 0⟩ := by obtain ⟨k, x, y, z, n⟩ := o; subst h; rfl
theorem rr_n (h : 5 ≤ o.code) (hn : ¬ (La l o).lo ≤ (La l o).hi) : S_rRule c l o = ⟨1, 0, (La l o).f⟩ := by
 unfold S_rRule
 rw [if_neg (by simp; omega), if_neg (by simp; omega), if_neg (by simp; omega), if_pos (by simpa using hn)]
theorem rr_5 (h : o.code = 5) (hn : (La l o).lo ≤ (La l o).hi) : S_rRule c l o = ⟨IntKind.i64.wrap (0 - (La l o).hi), IntKind.i64.wrap (0 - (La l o).lo), (La l o).f⟩ := by
 unfold S_rRule
 rw [if_neg (by simp; omega), if_neg (by simp; omega), if_neg (by simp; omega), if_neg (by simpa using hn), if_neg (by simp; omega), if_pos (by simpa using h)]
theorem rr_6 (h : o.code = 6) (hn : (La l o).lo ≤ (La l o).hi) : S_rRule c l o = pickM (La l o) ⟨0, 0, 0⟩ ⟨1, 1, 0⟩ := by
 unfold S_rRule
 rw [if_neg (by simp; omega), if_neg (by simp; omega), if_neg (by simp; omega), if_neg (by simpa using hn), if_neg (by simp; omega), if_neg (by simp; omega), if_pos (by simpa using h)]
 rfl
theorem rr_15 (h : o.code = 15) (hn : (La l o).lo ≤ (La l o).hi) : S_rRule c l o = pickM (La l o) (Lb l o) ⟨0, 0, 0⟩ := by
 unfold S_rRule
 rw [if_neg (by simp; omega), if_neg (by simp; omega), if_neg (by simp; omega), if_neg (by simpa using hn), if_pos (by simp; omega), if_neg (by simp; omega), if_neg (by simp; omega), if_neg (by simp; omega), if_pos (by simpa using h)]
 rfl
theorem rr_16 (h : o.code = 16) (hn : (La l o).lo ≤ (La l o).hi) : S_rRule c l o = pickM (La l o) ⟨1, 1, 0⟩ (Lb l o) := by
 unfold S_rRule
 rw [if_neg (by simp; omega), if_neg (by simp; omega), if_neg (by simp; omega), if_neg (by simpa using hn), if_pos (by simp; omega), if_neg (by simp; omega), if_neg (by simp; omega), if_neg (by simp; omega), if_neg (by simp; omega), if_pos (by simpa using h)]
 rfl
theorem rr_17 (h : o.code = 17) (hn : (La l o).lo ≤ (La l o).hi) : S_rRule c l o = pickM (La l o) (Lb l o) (Lc l o) := by
 unfold S_rRule
 rw [if_neg (by simp; omega), if_neg (by simp; omega), if_neg (by simp; omega), if_neg (by simpa using hn), if_pos (by simp; omega), if_neg (by simp; omega), if_neg (by simp; omega), if_neg (by simp; omega), if_neg (by simp; omega), if_neg (by simp; omega)]
 rfl
theorem rr_p (h7 : 7 ≤ o.code) (h14 : o.code ≤ 14) (hn : (La l o).lo ≤ (La l o).hi) : S_rRule c l o = S_rPair o.code (La l o) (Lb l o) := by
 rw [rRule_pair h7 h14, if_neg (by simpa using hn)]
theorem code_cases {k : Int} (h1 : 1 ≤ k) (h2 : k ≤ 17) (h3 : k ≠ 4) : k = 1 ∨ k = 2 ∨ k = 3 ∨ k = 5 ∨ k = 6 ∨ (7 ≤ k ∧ k ≤ 14) ∨ k = 15 ∨ k = 16 ∨ k = 17 := by omega
theorem rule_loc {l' : List B} {i nc : Nat} (hk : RuleOk o i nc) (he : ∀ j, j < i → l.getD j B0 = l'.getD j B0) : S_rRule c l o = S_rRule c l' o := by
 have ea : 5 ≤ o.code → La l o = La l' o := fun h => he _ (by have := hk.a h; omega)
 have eb : 7 ≤ o.code → Lb l o = Lb l' o := fun h => he _ (by have := hk.b h; omega)
 have ec : o.code = 17 → Lc l o = Lc l' o := fun h => he _ (by have := hk.c h; omega)
 have hkk := code_cases hk.lo hk.hi hk.no
 rcases hkk with h | h | h | h
 ·rw [rr_1 h, rr_1 h]
 ·rw [rr_2 h, rr_2 h]
 ·rw [rr_3 h, rr_3 h]
 ·have h5 : 5 ≤ o.code := by omega
  by_cases hn : (La l o).lo ≤ (La l o).hi
  ·have hn' : (La l' o).lo ≤ (La l' o).hi := by rw [← ea h5]; exact hn
   rcases h with h | h | h | h | h | h
   ·rw [rr_5 h hn, rr_5 h hn', ea h5]
   ·rw [rr_6 h hn, rr_6 h hn', ea h5]
   ·rw [rr_p h.1 h.2 hn, rr_p h.1 h.2 hn', ea h5, eb h.1]
   ·rw [rr_15 h hn, rr_15 h hn', ea h5, eb (by omega)]
   ·rw [rr_16 h hn, rr_16 h hn', ea h5, eb (by omega)]
   ·rw [rr_17 h hn, rr_17 h hn', ea h5, eb (by omega), ec h]
  ·rw [rr_n h5 hn, rr_n h5 (by rw [← ea h5]; exact hn), ea h5]
theorem pick_mem {a p q : B} {v u : V} (ma : Mem a v) (hu : VGood u) (h1 : v.f ≠ 0 → u = v) (h2 : v.f = 0 → v.n ≠ 0 → Mem p u) (h3 : v.f = 0 → v.n = 0 → Mem q u) : Mem (pickM a p q) u := by
 by_cases fv : v.f = 0
 ·have nv := ma.n fv
  by_cases h0 : v.n = 0
  ·exact (pick_2 (mayBe0_n.2 (by omega))).mem hu (h3 fv h0)
  ·exact (pick_1 (mayBeOther_n.2 (by omega))).mem hu (h2 fv h0)
 ·rw [h1 fv] at hu ⊢
  exact pick_0.mem hu ⟨fun h => absurd h fv, fun h => ma.f h⟩
theorem rule_sound {vs : List V} {w : List Int} {i : Nat} (hk : RuleOk o i c.cs.length) (ho : OGood o c.cs.length) (hl : ∀ j, j < i → Good (l.getD j B0)) (hv : ∀ j, j < i → VGood (vs.getD j V0)) (hm : ∀ j, j < i → Mem (l.getD j B0) (vs.getD j V0))
  (hw : ∀ j, j < c.cs.length → (c.cs.getD j K0).lo ≤ w.getD j 0 ∧ w.getD j 0 ≤ (c.cs.getD j K0).hi) (hr : VGood (S_rCell vs w o)) : Mem (S_rRule c l o) (S_rCell vs w o) := by
 have a5 : 5 ≤ o.code → o.a.toNat < i := fun h => by have := hk.a h; omega
 have b7 : 7 ≤ o.code → o.b.toNat < i := fun h => by have := hk.b h; omega
 have c17 : o.code = 17 → o.c.toNat < i := fun h => by have := hk.c h; omega
 have cell : ∀ k, o.code = k → S_rCell vs w o = S_rCell vs w ⟨k, o.a, o.b, o.c, o.n⟩ := fun k h => by obtain ⟨k', x, y, z, n⟩ := o; simp only at h; subst h; rfl
 rcases code_cases hk.lo hk.hi hk.no with h | h | h | h
 ·rw [rr_1 h, cell 1 h]; exact num_mem (Int.le_refl _) (Int.le_refl _)
 ·rw [rr_2 h, cell 2 h]
  have h2 := ho.two h
  have e : IntKind.u8.wrap o.n = o.n := wrap_u8 (by omega) (by omega)
  show Mem _ (S_rFaultV (IntKind.u8.wrap o.n))
  rw [e]
  exact ⟨fun h => by simp [S_rFaultV] at h; omega, fun _ => (fb_bit h2.1 h2.2 h2.1 h2.2).2 rfl⟩
 ·rw [rr_3 h, cell 3 h]
  have h2 := ho.three h
  have := hw o.n.toNat (by omega)
  exact num_mem this.1 this.2
 ·have h5 : 5 ≤ o.code := by omega
  have ga : Good (La l o) := hl _ (a5 h5)
  have va := hv _ (a5 h5)
  have ma : Mem (La l o) (vs.getD o.a.toNat V0) := hm _ (a5 h5)
  have fault : (vs.getD o.a.toNat V0).f ≠ 0 → S_rCell vs w o = vs.getD o.a.toNat V0 := fun hf => by
   have hp := fpos va hf
   unfold S_rCell
   rw [if_neg (by simp; omega), if_neg (by simp; omega), if_neg (by simp; omega)]
   split
   ·unfold S_rChoose; rw [if_pos hp]
   ·split
    ·unfold S_rOp1; rw [if_pos hp]
    ·split
     ·unfold S_rOp1; rw [if_pos hp]
     ·unfold S_rOp2; rw [if_pos hp]
  by_cases hn : (La l o).lo ≤ (La l o).hi
  ·have fz : (vs.getD o.a.toNat V0).f = 0 → decide ((vs.getD o.a.toNat V0).f > 0) = false := fzero
   rcases h with h | h | h | h | h | h
   ·rw [rr_5 h hn]
    have gs := ga.sm hn
    obtain ⟨g1, g2, g3⟩ := gs
    rw [wr (z := 0 - (La l o).hi) (by omega) (by omega), wr (z := 0 - (La l o).lo) (by omega) (by omega)]
    by_cases hf : (vs.getD o.a.toNat V0).f = 0
    ·have hz := fz hf
     have e : S_rCell vs w o = S_rNumber (0 - (vs.getD o.a.toNat V0).n) := by
      rw [cell 5 h]
      show S_rOp1 5 (vs.getD o.a.toNat V0) = _
      have := va.n hf
      unfold S_rOp1
      rw [hz, if_neg (by simp), if_pos (by decide), wr (by omega) (by omega)]
     rw [e]
     have := ma.n hf
     exact num_mem (by simp only; omega) (by simp only; omega)
    ·rw [fault hf]; exact ⟨fun g => absurd g hf, fun g => ma.f g⟩
   ·rw [rr_6 h hn]
    have e : (vs.getD o.a.toNat V0).f = 0 → S_rCell vs w o = S_rBool ((vs.getD o.a.toNat V0).n == 0) := fun hf => by
     rw [cell 6 h]
     show S_rOp1 6 (vs.getD o.a.toNat V0) = _
     unfold S_rOp1
     rw [fz hf, if_neg (by simp), if_neg (by decide)]
    refine pick_mem ma hr fault (fun hf h0 => ?_) (fun hf h0 => ?_)
    ·rw [e hf, show ((vs.getD o.a.toNat V0).n == 0) = false by simpa using h0]; exact num_mem (by decide) (by decide)
    ·rw [e hf, h0]; exact num_mem (by decide) (by decide)
   ·rw [rr_p h.1 h.2 hn]
    have e : S_rCell vs w o = S_rOp2 o.code (vs.getD o.a.toNat V0) (vs.getD o.b.toNat V0) := by
     unfold S_rCell
     rw [if_neg (by simp; omega), if_neg (by simp; omega), if_neg (by simp; omega), if_neg (by simp; omega), if_neg (by simp; omega), if_neg (by simp; omega)]
    rw [e] at hr ⊢
    exact pair_sound h.1 h.2 ga (hl _ (b7 h.1)) va (hv _ (b7 h.1)) ma (hm _ (b7 h.1)) hr
   ·rw [rr_15 h hn]
    have mb := hm _ (b7 (by omega))
    refine pick_mem ma hr fault (fun hf h0 => ?_) (fun hf h0 => ?_)
    ·have e : S_rCell vs w o = vs.getD o.b.toNat V0 := by
      rw [cell 15 h]
      show S_rOp2 15 (vs.getD o.a.toNat V0) (vs.getD o.b.toNat V0) = _
      unfold S_rOp2
      rw [fz hf, if_neg (by simp), if_pos (by decide), if_neg (by simpa using h0), if_neg (by decide)]
     rw [e]; exact mb
    ·have e : S_rCell vs w o = vs.getD o.a.toNat V0 := by
      rw [cell 15 h]
      show S_rOp2 15 (vs.getD o.a.toNat V0) (vs.getD o.b.toNat V0) = _
      unfold S_rOp2
      rw [fz hf, if_neg (by simp), if_pos (by decide), if_pos (by simpa using h0)]
     rw [e]; exact ⟨fun _ => by simp only; omega, fun g => absurd hf g⟩
   ·rw [rr_16 h hn]
    have mb := hm _ (b7 (by omega))
    refine pick_mem ma hr fault (fun hf h0 => ?_) (fun hf h0 => ?_)
    ·have e : S_rCell vs w o = S_rNumber 1 := by
      rw [cell 16 h]
      show S_rOp2 16 (vs.getD o.a.toNat V0) (vs.getD o.b.toNat V0) = _
      unfold S_rOp2
      rw [fz hf, if_neg (by simp), if_neg (by decide), if_pos (by decide), if_pos (by simpa using h0)]
     rw [e]; exact num_mem (by decide) (by decide)
    ·have e : S_rCell vs w o = vs.getD o.b.toNat V0 := by
      rw [cell 16 h]
      show S_rOp2 16 (vs.getD o.a.toNat V0) (vs.getD o.b.toNat V0) = _
      unfold S_rOp2
      rw [fz hf, if_neg (by simp), if_neg (by decide), if_pos (by decide), if_neg (by simpa using h0)]
     rw [e]; exact mb
   ·rw [rr_17 h hn]
    have mb := hm _ (b7 (by omega))
    have mc := hm _ (c17 h)
    refine pick_mem ma hr fault (fun hf h0 => ?_) (fun hf h0 => ?_)
    ·have e : S_rCell vs w o = vs.getD o.b.toNat V0 := by
      rw [cell 17 h]
      show S_rChoose (vs.getD o.a.toNat V0) (vs.getD o.b.toNat V0) (vs.getD o.c.toNat V0) = _
      unfold S_rChoose
      rw [fz hf, if_neg (by simp), if_neg (by simpa using h0)]
     rw [e]; exact mb
    ·have e : S_rCell vs w o = vs.getD o.c.toNat V0 := by
      rw [cell 17 h]
      show S_rChoose (vs.getD o.a.toNat V0) (vs.getD o.b.toNat V0) (vs.getD o.c.toNat V0) = _
      unfold S_rChoose
      rw [fz hf, if_neg (by simp), if_pos (by simpa using h0)]
     rw [e]; exact mc
  ·rw [rr_n h5 hn]
   have hf : (vs.getD o.a.toNat V0).f ≠ 0 := fun hf => hn (by have := ma.n hf; omega)
   rw [fault hf]
   exact ⟨fun g => absurd g hf, fun g => ma.f g⟩
theorem rule_le {c' : C} {l' : List B} {i : Nat} (hk : RuleOk o i c.cs.length) (hl : ∀ j, j < i → Good (l.getD j B0)) (hl' : ∀ j, j < i → Good (l'.getD j B0)) (hh : ∀ j, j < i → Le (l.getD j B0) (l'.getD j B0))
  (hc : ∀ j, j < c.cs.length → (c'.cs.getD j K0).lo ≤ (c.cs.getD j K0).lo ∧ (c.cs.getD j K0).hi ≤ (c'.cs.getD j K0).hi) : Le (S_rRule c l o) (S_rRule c' l' o) := by
 have a5 : 5 ≤ o.code → o.a.toNat < i := fun h => by have := hk.a h; omega
 have b7 : 7 ≤ o.code → o.b.toNat < i := fun h => by have := hk.b h; omega
 have c17 : o.code = 17 → o.c.toNat < i := fun h => by have := hk.c h; omega
 rcases code_cases hk.lo hk.hi hk.no with h | h | h | h
 ·rw [rr_1 h, rr_1 h]; exact Le.refl _
 ·rw [rr_2 h, rr_2 h]; exact Le.refl _
 ·rw [rr_3 h, rr_3 h]
  have := hk.ch h
  have := hc o.n.toNat (by omega)
  exact ⟨fun _ => this, fun _ _ _ h => h⟩
 ·have h5 : 5 ≤ o.code := by omega
  have la : Le (La l o) (La l' o) := hh _ (a5 h5)
  have ga : Good (La l o) := hl _ (a5 h5)
  have ga' : Good (La l' o) := hl' _ (a5 h5)
  have inc : ∀ f, 1 ≤ f → f ≤ 4 → FB (La l' o).f f → FB (S_rRule c' l' o).f f := fun f f1 f2 g => by
   by_cases hn : (La l' o).lo ≤ (La l' o).hi
   ·rcases h with h | h | h | h | h | h
    ·rw [rr_5 h hn]; exact g
    ·rw [rr_6 h hn]; exact pick_0.f f f1 f2 g
    ·rw [rr_p h.1 h.2 hn]
     by_cases hb : (Lb l' o).lo ≤ (Lb l' o).hi
     ·exact ((pair_some hb).2.2 f f1 f2).2 (.inr (.inr (.inl g)))
     ·rw [pair_none hb]; exact fb_or.2 (.inl g)
    ·rw [rr_15 h hn]; exact pick_0.f f f1 f2 g
    ·rw [rr_16 h hn]; exact pick_0.f f f1 f2 g
    ·rw [rr_17 h hn]; exact pick_0.f f f1 f2 g
   ·rw [rr_n h5 hn]; exact g
  by_cases hn : (La l o).lo ≤ (La l o).hi
  ·have na := la.n hn
   have hn' : (La l' o).lo ≤ (La l' o).hi := by omega
   rcases h with h | h | h | h | h | h
   ·rw [rr_5 h hn, rr_5 h hn']
    obtain ⟨g1, g2, g3⟩ := ga.sm hn
    obtain ⟨k1, k2, k3⟩ := ga'.sm hn'
    rw [wr (z := 0 - (La l o).hi) (by omega) (by omega), wr (z := 0 - (La l o).lo) (by omega) (by omega), wr (z := 0 - (La l' o).hi) (by omega) (by omega), wr (z := 0 - (La l' o).lo) (by omega) (by omega)]
    exact ⟨fun _ => by simp only; omega, la.f⟩
   ·rw [rr_6 h hn, rr_6 h hn']; exact pick_mono la (Le.refl _) (Le.refl _)
   ·rw [rr_p h.1 h.2 hn, rr_p h.1 h.2 hn']
    exact pair_le h.1 h.2 ga (hl _ (b7 h.1)) ga' (hl' _ (b7 h.1)) hn la (hh _ (b7 h.1))
   ·rw [rr_15 h hn, rr_15 h hn']; exact pick_mono la (hh _ (b7 (by omega))) (Le.refl _)
   ·rw [rr_16 h hn, rr_16 h hn']; exact pick_mono la (Le.refl _) (hh _ (b7 (by omega)))
   ·rw [rr_17 h hn, rr_17 h hn']; exact pick_mono la (hh _ (b7 (by omega))) (hh _ (c17 h))
  ·rw [rr_n h5 hn]
   exact none_le fun f f1 f2 g => inc f f1 f2 (la.f f f1 f2 g)
end
end Go.Proofs.YtfhiejgoemcelaaGreat
namespace Go.Proofs.YtfhiejgoemcelaaGreat
open Go Tw Pv
theorem bld_ln {α β : Type} (g : List β → Nat → α → β) : ∀ (os : List α) (i : Nat) (l : List β), (bld (fun l i a => [g l i a]) os i l).length = l.length + os.length
 | [], i, l => rfl
 | o :: os, i, l => by simp only [bld]; rw [bld_ln g os]; simp; omega
theorem bld_pre {α β : Type} (g : List β → Nat → α → β) : ∀ (os : List α) (i : Nat) (l : List β), (bld (fun l i a => [g l i a]) os i l).take l.length = l
 | [], i, l => by simp [bld]
 | o :: os, i, l => by
  have h := bld_pre g os (i + 1) (l ++ [g l i o])
  simp only [bld]
  have h2 := congrArg (List.take l.length) h
  rw [List.take_take, List.take_left' rfl, show min l.length (l ++ [g l i o]).length = l.length by simp] at h2
  exact h2
theorem bld_nth {α β : Type} (g : List β → Nat → α → β) (d : β) : ∀ (os : List α) (i : Nat) (l : List β) (j : Nat) (o : α), os[j]? = some o → (bld (fun l i a => [g l i a]) os i l).getD (l.length + j) d = g ((bld (fun l i a => [g l i a]) os i l).take (l.length + j)) (i + j) o
 | [], _, _, _, _, h => by cases h
 | o :: os, i, l, 0, o', h => by
  cases h
  have h := bld_pre g os (i + 1) (l ++ [g l i o])
  have h0 := bld_pre g (o :: os) i l
  simp only [bld] at h0 ⊢
  show (bld (fun l i a => [g l i a]) os (i + 1) (l ++ [g l i o])).getD l.length d = g ((bld (fun l i a => [g l i a]) os (i + 1) (l ++ [g l i o])).take l.length) i o
  rw [h0]
  have : (bld (fun l i a => [g l i a]) os (i + 1) (l ++ [g l i o]))[l.length]? = some (g l i o) := by
   have h3 := congrArg (fun x => x[l.length]?) h
   simp only [List.length_append, List.length_singleton] at h3
   rw [List.getElem?_take, if_pos (by omega)] at h3
   rw [h3]; simp
  rw [List.getD_eq_getElem?_getD, this]; rfl
 | o :: os, i, l, j + 1, o', h => by
  have h := bld_nth g d os (i + 1) (l ++ [g l i o]) j o' h
  simp only [bld]
  rw [show (l ++ [g l i o]).length + j = l.length + (j + 1) by simp; omega, show i + 1 + j = i + (j + 1) by omega] at h
  exact h
theorem bld_at {α β : Type} (g : List β → Nat → α → β) (d : β) {os : List α} {j : Nat} {o : α} (h : os[j]? = some o) : (bld (fun l i a => [g l i a]) os 0 []).getD j d = g ((bld (fun l i a => [g l i a]) os 0 []).take j) j o := by
 have := bld_nth g d os 0 [] j o h
 simpa using this
theorem take_at {α : Type} (l : List α) (d : α) {i j : Nat} (h : j < i) : (l.take i).getD j d = l.getD j d := by
 rw [List.getD_eq_getElem?_getD, List.getElem?_take, if_pos h, ← List.getD_eq_getElem?_getD]
theorem cell_loc {o : O} {l l' : List V} {w : List Int} {i nc : Nat} (hk : RuleOk o i nc) (he : ∀ j, j < i → l.getD j V0 = l'.getD j V0) : S_rCell l w o = S_rCell l' w o := by
 have ea : 5 ≤ o.code → l.getD o.a.toNat V0 = l'.getD o.a.toNat V0 := fun h => he _ (by have := hk.a h; omega)
 have eb : 7 ≤ o.code → l.getD o.b.toNat V0 = l'.getD o.b.toNat V0 := fun h => he _ (by have := hk.b h; omega)
 have ec : o.code = 17 → l.getD o.c.toNat V0 = l'.getD o.c.toNat V0 := fun h => he _ (by have := hk.c h; omega)
 unfold S_rCell
 by_cases h1 : o.code < 5
 ·have := hk.lo; have := hk.no
  have h : o.code = 1 ∨ o.code = 2 ∨ o.code = 3 := by omega
  rcases h with h | h | h <;> simp [h]
 ·rw [ea (by omega)]
  by_cases h5 : o.code = 5
  ·simp [h5]
  ·by_cases h6 : o.code = 6
   ·simp [h6]
   ·rw [eb (by omega)]
    by_cases h17 : o.code = 17
    ·rw [ec h17]
    ·have e : (o.code == 17) = false := by simpa using h17
     simp only [e, Bool.false_eq_true, if_false]
structure Cw (c : C) (w : List Int) : Prop where
 rule : ∀ (i : Nat) (o : O), c.os[i]? = some o → RuleOk o i c.cs.length ∧ OGood o c.cs.length
 ch : ∀ k ∈ c.cs, KGood k
 len : w.length = c.cs.length
 inn : ∀ x ∈ w, -9999 ≤ x ∧ x ≤ 9999
 w : ∀ j, j < c.cs.length → (c.cs.getD j K0).lo ≤ w.getD j 0 ∧ w.getD j 0 ≤ (c.cs.getD j K0).hi
section
variable {c : C} {w : List Int}
theorem rOf_ln {op : Int} {kn : B} : (S_rOf c op kn).length = c.os.length := by
 exact (bld_ln (fun l (i : Nat) o => if ((i : Int) == op) = true then S_rBoth (S_rRule c l o) kn else S_rRule c l o) c.os 0 []).trans (by simp)
theorem all_at (hw : Cw c w) {i : Nat} {o : O} (ho : c.os[i]? = some o) : (S_rAll c w).getD i V0 = S_rCell (S_rAll c w) w o := by
 have := bld_at (fun l (_ : Nat) o => S_rCell l w o) V0 ho
 refine Eq.trans this ?_
 exact cell_loc (hw.rule i o ho).1 fun j hj => take_at _ _ hj
theorem of_at (hc : ∀ (i : Nat) (o : O), c.os[i]? = some o → RuleOk o i c.cs.length ∧ OGood o c.cs.length) {op : Int} {kn : B} {i : Nat} {o : O} (ho : c.os[i]? = some o) : (S_rOf c op kn).getD i B0 = if ((i : Int) == op) = true then S_rBoth (S_rRule c (S_rOf c op kn) o) kn else S_rRule c (S_rOf c op kn) o := by
 have := bld_at (fun l (i : Nat) o => if ((i : Int) == op) = true then S_rBoth (S_rRule c l o) kn else S_rRule c l o) B0 ho
 refine Eq.trans this ?_
 have e : S_rRule c ((S_rOf c op kn).take i) o = S_rRule c (S_rOf c op kn) o := rule_loc (hc i o ho).1 fun j hj => take_at _ _ hj
 show (if ((i : Int) == op) = true then S_rBoth (S_rRule c ((S_rOf c op kn).take i) o) kn else S_rRule c ((S_rOf c op kn).take i) o) = _
 rw [e]
theorem vgood_all (hw : Cw c w) : ∀ v ∈ S_rAll c w, VGood v := (allR_eq (c := c) hw.inn c.os 0 [] (fun j o h => by have := hw.rule j o h; rw [hw.len]; simpa using this) (by simp)).2
theorem mem_all (hw : Cw c w) {l : List B} (hl : ∀ b ∈ l, Good b) (h : ∀ (i : Nat) (o : O), c.os[i]? = some o → (∀ v, VGood v → v = (S_rAll c w).getD i V0 → Mem (S_rRule c l o) v → Mem (l.getD i B0) v)) : ∀ i, i < c.os.length → Mem (l.getD i B0) ((S_rAll c w).getD i V0) := by
 intro i
 induction i using Nat.strongRecOn with
 | ind i ih =>
  intro hi
  have ho := getD_at hi O0
  have hk := hw.rule i _ ho
  have hv : ∀ j, VGood ((S_rAll c w).getD j V0) := vgood_at (vgood_all hw)
  refine h i _ ho _ (hv i) rfl ?_
  have e := all_at hw ho
  have hvi := hv i
  rw [e] at hvi ⊢
  exact rule_sound hk.1 hk.2 (fun j _ => good_getD hl j) (fun j _ => hv j) (fun j hj => ih j hj (by omega)) hw.w hvi
theorem mem_of (hw : Cw c w) {op : Int} {kn : B} (hl : ∀ b ∈ S_rOf c op kn, Good b) (hm : ∀ i : Nat, (i : Int) = op → i < c.os.length → Mem kn ((S_rAll c w).getD i V0)) : ∀ i, i < c.os.length → Mem ((S_rOf c op kn).getD i B0) ((S_rAll c w).getD i V0) :=
 mem_all hw hl fun i o ho v _ hv m => by
  rw [of_at hw.rule ho]
  split
  ·rename_i h
   have hi : i < c.os.length := (List.getElem?_eq_some_iff.1 ho).1
   exact both_mem m (hv ▸ hm i (by simpa using h) hi)
  ·exact m
def Proof (c : C) (l : List B) : Prop := l.length = c.os.length ∧ (∀ b ∈ l, Good b) ∧ ∀ (i : Nat) (o : O), c.os[i]? = some o → Le (S_rRule c l o) (l.getD i B0)
theorem mem_proof (hw : Cw c w) {l : List B} (hp : Proof c l) : ∀ i, i < c.os.length → Mem (l.getD i B0) ((S_rAll c w).getD i V0) :=
 mem_all hw hp.2.1 fun i o ho v hv _ m => (hp.2.2 i o ho).mem hv m
end
structure Cc (c : C) : Prop where
 rule : ∀ (i : Nat) (o : O), c.os[i]? = some o → RuleOk o i c.cs.length ∧ OGood o c.cs.length
 ch : ∀ k ∈ c.cs, KGood k
theorem rule_good {c : C} (hc : Cc c) {l : List B} (hl : ∀ b ∈ l, Good b) {i : Nat} {o : O} (ho : c.os[i]? = some o) (hi : i ≤ l.length) : Good (S_rRule c l o) := by
 have hk := hc.rule i o ho
 have e : S_rRule c l o = S_rRule c (l.take i) o := rule_loc hk.1 fun j hj => (take_at _ _ hj).symm
 rw [e]
 exact (rule_eq (by rw [List.length_take, Nat.min_eq_left hi]; exact hk.1) (fun b hb => hl b (List.mem_of_mem_take hb)) hc.ch hk.2).2
theorem le_all {c c' : C} (hc : Cc c) {l l' : List B} (hl : ∀ b ∈ l, Good b) (hl' : ∀ b ∈ l', Good b) (hcc : ∀ j, j < c.cs.length → (c'.cs.getD j K0).lo ≤ (c.cs.getD j K0).lo ∧ (c.cs.getD j K0).hi ≤ (c'.cs.getD j K0).hi)
  (h : ∀ (i : Nat) (o : O), c.os[i]? = some o → Le (S_rRule c l o) (S_rRule c' l' o) → Le (l.getD i B0) (l'.getD i B0)) : ∀ i, i < c.os.length → Le (l.getD i B0) (l'.getD i B0) := by
 intro i
 induction i using Nat.strongRecOn with
 | ind i ih =>
  intro hi
  have ho := getD_at hi O0
  exact h i _ ho (rule_le (hc.rule i _ ho).1 (fun j _ => good_getD hl j) (fun j _ => good_getD hl' j) (fun j hj => ih j hj (by omega)) hcc)
theorem same_cs (c : C) : ∀ j, j < c.cs.length → (c.cs.getD j K0).lo ≤ (c.cs.getD j K0).lo ∧ (c.cs.getD j K0).hi ≤ (c.cs.getD j K0).hi := fun _ _ => ⟨Int.le_refl _, Int.le_refl _⟩
theorem no_op {i : Nat} : ((i : Int) == (-1 : Int)) = false := by simp
theorem of_at1 {c : C} (hc : Cc c) {kn : B} {i : Nat} {o : O} (ho : c.os[i]? = some o) : (S_rOf c (-1) kn).getD i B0 = S_rRule c (S_rOf c (-1) kn) o := by
 have e2 := of_at hc.rule ho (op := -1) (kn := kn)
 rw [no_op] at e2
 exact e2
theorem of_proof {c : C} (hc : Cc c) {kn : B} (hl : ∀ b ∈ S_rOf c (-1) kn, Good b) : Proof c (S_rOf c (-1) kn) :=
 ⟨rOf_ln, hl, fun i o ho => by rw [of_at1 hc ho]; exact Le.refl _⟩
theorem of_least {c : C} (hc : Cc c) {kn : B} (hl : ∀ b ∈ S_rOf c (-1) kn, Good b) {l : List B} (hp : Proof c l) : ∀ i, i < c.os.length → Le ((S_rOf c (-1) kn).getD i B0) (l.getD i B0) :=
 le_all hc hl hp.2.1 (same_cs c) fun i o ho h => by
  rw [of_at1 hc ho]
  exact h.trans (hp.2.2 i o ho)
theorem clip_le {c : C} (hc : Cc c) {op : Int} {kn kn0 : B} (hl : ∀ b ∈ S_rOf c op kn, Good b) (hl' : ∀ b ∈ S_rOf c (-1) kn0, Good b) : ∀ i, i < c.os.length → Le ((S_rOf c op kn).getD i B0) ((S_rOf c (-1) kn0).getD i B0) :=
 le_all hc hl hl' (same_cs c) fun i o ho h => by
  have e2 := of_at1 hc ho (kn := kn0)
  rw [of_at hc.rule ho, e2]
  split
  ·exact (both_le _ _).1.trans h
  ·exact h
theorem both_same {r kn : B} (hr : Good r) (hn : Good kn) (h : Le r kn) : S_rBoth r kn = r := by
 refine le_anti (good_both hr hn) hr (both_le _ _).1 ⟨fun hle => ?_, fun f f1 f2 g => ?_⟩
 ·have := h.n hle; have := both_n r kn; omega
 ·rw [both_f, fb_and]; exact ⟨g, h.f f f1 f2 g⟩
theorem ext_B {l l' : List B} (h : l.length = l'.length) (hd : ∀ i, i < l.length → l.getD i B0 = l'.getD i B0) : l = l' := by
 refine List.ext_getElem h fun i h1 h2 => ?_
 have := hd i h1
 rwa [List.getD_eq_getElem?_getD, List.getD_eq_getElem?_getD, List.getElem?_eq_getElem h1, List.getElem?_eq_getElem h2] at this
theorem clip_same {c : C} (hc : Cc c) {op : Int} {kn kn0 : B} (hn : Good kn) (hl : ∀ b ∈ S_rOf c op kn, Good b) (hl' : ∀ b ∈ S_rOf c (-1) kn0, Good b) (h : ∀ i : Nat, (i : Int) = op → Le ((S_rOf c (-1) kn0).getD i B0) kn) : S_rOf c op kn = S_rOf c (-1) kn0 := by
 refine ext_B (by rw [rOf_ln, rOf_ln]) fun i hi => ?_
 rw [rOf_ln] at hi
 induction i using Nat.strongRecOn with
 | ind i ih =>
  have ho := getD_at hi O0
  have e : S_rRule c (S_rOf c op kn) (c.os.getD i O0) = S_rRule c (S_rOf c (-1) kn0) (c.os.getD i O0) := rule_loc (hc.rule i _ ho).1 fun j hj => ih j hj (by omega)
  have e2 := of_at1 hc ho (kn := kn0)
  rw [of_at hc.rule ho, e, ← e2]
  split
  ·rename_i g
   exact both_same (good_getD hl' i) hn (h i (by simpa using g))
  ·rfl
end Go.Proofs.YtfhiejgoemcelaaGreat
namespace Go.Proofs.YtfhiejgoemcelaaGreat
open Go Tw Pv
theorem bit_r {f : Int} (h0 : 1 ≤ f) (h1 : f ≤ 4) : 0 ≤ S_bit f ∧ S_bit f ≤ 15 := by
 have := bit_range h0 h1
 rwa [wrap_u8 (by omega) (by omega)] at this
theorem met_eq {b : B} (hb : Can b) {v : V} (hv : VGood v) : met v b = S_rTake b v ∧ Can (S_rTake b v) := by
 unfold met S_rTake
 by_cases h : v.f = 0
 ·rw [if_neg (by simp [h]), if_neg (by simp [h])]
  exact ⟨hull_with hb v.n, hb.with v.n⟩
 ·have h0 := hv.f0; have h1 := hv.f1
  rw [if_pos (fpos hv h), if_pos (by simpa using h)]
  have hr := bit_r (f := v.f) (by omega) h1
  refine ⟨?_, hb⟩
  simp only [S_hull, S_with, ors, Bool.not_true, Bool.false_eq_true, if_false]
  rw [or8_0 hr.1 (by omega)]
  simp only [Int.reduceLE, decide_false, Bool.not_false, if_true]
  rfl
theorem take_eq : ∀ (vs : List V) (k : Nat) (s : List B), (∀ v ∈ vs, VGood v) → (∀ b ∈ s, Can b) → k + vs.length ≤ s.length → getE (runL gMet vs k s) = getE (runL gTk vs k s) ∧ ∀ b ∈ getE (runL gTk vs k s), Can b
 | [], _, _, _, hs, _ => ⟨rfl, hs⟩
 | v :: vs, k, s, hv, hs, hl => by
  simp only [List.length_cons] at hl
  have hk : k < s.length := by omega
  have hc : Can (s.getD k B0) := by
   rw [List.getD_eq_getElem?_getD, List.getElem?_eq_getElem hk]; exact hs _ (List.getElem_mem hk)
  have hm := met_eq hc (hv v (List.mem_cons_self ..))
  simp only [runL, gMet, gTk, metStep, hm.1]
  refine take_eq vs (k + 1) _ (fun v h => hv v (List.mem_cons_of_mem _ h)) (fun b hb => ?_) (by rw [List.length_set]; omega)
  rcases List.mem_or_eq_of_mem_set hb with h | h
  ·exact hs b h
  ·rw [h]; exact hm.2
theorem wFr_fold {σ : Type} (f : Int → σ → σ) : ∀ (m : Nat) (x : Int) (s : σ), wFr f x m s = (List.range m).foldl (fun s (i : Nat) => f (x + i) s) s := by
 have key : ∀ (m : Nat) (x : Int) (s : σ), wFr f x (m + 1) s = f (x + m) (wFr f x m s) := by
  intro m
  induction m with
  | zero => intro x s; simp [wFr]
  | succ m ih =>
   intro x s
   have e : ∀ (m : Nat) (x : Int) (s : σ), wFr f x (m + 1) s = wFr f (x + 1) m (f x s) := fun _ _ _ => rfl
   rw [e (m + 1), ih (x + 1), e m x, show x + 1 + (m : Int) = x + ((m + 1 : Nat) : Int) by omega]
 intro m
 induction m with
 | zero => intro x s; rfl
 | succ m ih => intro x s; rw [key, ih, List.range_succ, List.foldl_append]; rfl
def szN (k : K) : Nat := (k.hi - k.lo + 1).toNat
theorem wF_snoc {σ : Type} (Y : σ → List Int → σ) (k : K) : ∀ (ini : List K) (w : List Int) (s : σ), wF Y (ini ++ [k]) w s = wF (fun s v => wFr (fun x s => Y s (v ++ [x])) k.lo (szN k) s) ini w s
 | [], w, s => rfl
 | k0 :: ini, w, s => by
  simp only [List.cons_append, wF]
  congr 1
  funext x s
  exact wF_snoc Y k ini _ s
def nthR : List K → Nat → List Int
 | [], _ => []
 | k :: rs, n => nthR rs (n / szN k) ++ [k.lo + ((n % szN k : Nat) : Int)]
def prodR : List K → Nat
 | [] => 1
 | k :: rs => prodR rs * szN k
theorem fold_two {σ : Type} (F : σ → Nat → σ) (z : Nat) : ∀ (q : Nat) (s : σ), (List.range (q * z)).foldl F s = (List.range q).foldl (fun s i => (List.range z).foldl (fun s r => F s (i * z + r)) s) s
 | 0, s => by simp
 | q + 1, s => by
  rw [Nat.succ_mul, List.range_add, List.foldl_append, fold_two F z q s, List.range_succ, List.foldl_append, List.foldl_map]
  rfl
theorem wF_fold {σ : Type} : ∀ (rs : List K) (_ : ∀ k ∈ rs, 0 < szN k) (Y : σ → List Int → σ) (w : List Int) (s : σ), wF Y rs.reverse w s = (List.range (prodR rs)).foldl (fun s n => Y s (w ++ nthR rs n)) s
 | [], _, Y, w, s => by simp [wF, prodR, nthR]
 | k :: rs, hp, Y, w, s => by
  have hz := hp k (List.mem_cons_self ..)
  rw [List.reverse_cons, wF_snoc, wF_fold rs (fun k h => hp k (List.mem_cons_of_mem _ h))]
  simp only [prodR]
  rw [fold_two]
  congr 1
  funext s q
  rw [wFr_fold]
  have : ∀ (l : List Nat) (s : σ), (∀ r ∈ l, r < szN k) → l.foldl (fun s (i : Nat) => Y s (w ++ nthR rs q ++ [k.lo + (i : Int)])) s = l.foldl (fun s r => Y s (w ++ nthR (k :: rs) (q * szN k + r))) s := by
   intro l
   induction l with
   | nil => intro s _; rfl
   | cons r l ih =>
    intro s hl
    have hr := hl r (List.mem_cons_self ..)
    have e1 : (q * szN k + r) / szN k = q := by rw [Nat.mul_comm, Nat.mul_add_div hz, Nat.div_eq_of_lt hr]; rfl
    have e2 : (q * szN k + r) % szN k = r := by rw [Nat.mul_comm, Nat.mul_add_mod, Nat.mod_eq_of_lt hr]
    simp only [List.foldl_cons]
    rw [show nthR (k :: rs) (q * szN k + r) = nthR rs q ++ [k.lo + (r : Int)] by simp only [nthR, e1, e2], ih _ fun r h => hl r (List.mem_cons_of_mem _ h), List.append_assoc]
  exact this _ _ fun r hr => List.mem_range.1 hr
end Go.Proofs.YtfhiejgoemcelaaGreat
namespace Go.Proofs.YtfhiejgoemcelaaGreat
open Go Tw Pv
structure KOk (k : K) : Prop where
 lo : -9999 ≤ k.lo
 le : k.lo ≤ k.hi
 hi : k.hi ≤ 9999
 sz : k.hi - k.lo + 1 ≤ 12
theorem KOk.n {k : K} (h : KOk k) : szK k = szN k ∧ 0 < szN k ∧ szN k ≤ 12 := by
 have := h.le; have := h.sz; have := h.lo; have := h.hi
 unfold szK szN
 rw [wr (z := k.hi - k.lo) (by omega) (by omega), wr (by omega) (by omega)]
 omega
theorem nthL_app (cs rest : List K) : ∀ (j : Nat) (n : Int) (out tl : List Int), j ≤ cs.length → out.length = cs.length → nthL (cs ++ rest) j n (out ++ tl) = nthL cs j n out ++ tl
 | 0, _, _, _, _, _ => rfl
 | j + 1, n, out, tl, hj, ho => by
  have e : (cs ++ rest).getD j K0 = cs.getD j K0 := by
   rw [List.getD_eq_getElem?_getD, List.getD_eq_getElem?_getD, List.getElem?_append_left (by omega)]
  simp only [nthL, e]
  rw [List.set_append_left _ _ (by omega)]
  exact nthL_app cs rest j _ _ tl (by omega) (by rw [List.length_set]; exact ho)
theorem nthL_len (cs : List K) : ∀ (j : Nat) (n : Int) (out : List Int), (nthL cs j n out).length = out.length
 | 0, _, _ => rfl
 | j + 1, n, out => by simp only [nthL]; rw [nthL_len]; simp
theorem nthL_eq : ∀ (rs : List K) (_ : ∀ k ∈ rs, KOk k) (n : Nat) (_ : n ≤ 1000000), nthL rs.reverse rs.length n (List.replicate rs.length 0) = nthR rs n
 | [], _, _, _ => rfl
 | k :: rs, hk, n, hn => by
  obtain ⟨e1, e2, e3⟩ := (hk k (List.mem_cons_self ..)).n
  have h0 := hk k (List.mem_cons_self ..)
  have l0 := h0.lo; have l1 := h0.le; have l2 := h0.hi
  have hd : (n / szN k : Nat) ≤ n := Nat.div_le_self _ _
  have hm : n % szN k < szN k := Nat.mod_lt _ e2
  rw [List.reverse_cons, List.length_cons]
  have e : (rs.reverse ++ [k]).getD rs.length K0 = k := by
   rw [List.getD_eq_getElem?_getD, List.getElem?_append_right (by simp), List.length_reverse, Nat.sub_self]; rfl
  simp only [nthL, e, e1]
  have q1 : quoI .i64 (n : Int) (szN k : Int) = ((n / szN k : Nat) : Int) := by
   show IntKind.i64.wrap ((n : Int).tdiv (szN k : Int)) = _
   rw [show (n : Int).tdiv (szN k : Int) = ((n / szN k : Nat) : Int) from rfl]
   generalize n / szN k = q at hd
   exact wr (by omega) (by omega)
  have q2 : remI .i64 (n : Int) (szN k : Int) = ((n % szN k : Nat) : Int) := rfl
  rw [q1, q2, wr (z := k.lo + _) (by omega) (by omega)]
  have q3 : (List.replicate (rs.length + 1) (0 : Int)).set rs.length (k.lo + ((n % szN k : Nat) : Int)) = List.replicate rs.length 0 ++ [k.lo + ((n % szN k : Nat) : Int)] := by
   rw [List.replicate_succ', List.set_append_right _ _ (by simp)]
   simp
  rw [q3, nthL_app _ _ _ _ _ _ (by simp) (by simp)]
  simp only [nthR]
  rw [nthL_eq rs (fun k h => hk k (List.mem_cons_of_mem _ h)) _ (by omega)]
theorem nthW_eq (c : C) (hk : ∀ k ∈ c.cs, KOk k) (n : Nat) (hn : n ≤ 1000000) : nthW c n = nthR c.cs.reverse n := by
 have := nthL_eq c.cs.reverse (fun k h => hk k (List.mem_reverse.1 h)) n hn
 rw [List.reverse_reverse, List.length_reverse] at this
 exact this
theorem nthR_len : ∀ (rs : List K) (n : Nat), (nthR rs n).length = rs.length
 | [], _ => rfl
 | k :: rs, n => by simp only [nthR, List.length_append, nthR_len rs, List.length_cons, List.length_nil]
theorem nthR_in : ∀ (rs : List K) (_ : ∀ k ∈ rs, KOk k) (n : Nat), ∀ x ∈ nthR rs n, -9999 ≤ x ∧ x ≤ 9999
 | [], _, _ => by simp [nthR]
 | k :: rs, hk, n => by
  intro x hx
  simp only [nthR, List.mem_append, List.mem_singleton] at hx
  rcases hx with hx | rfl
  ·exact nthR_in rs (fun k h => hk k (List.mem_cons_of_mem _ h)) _ x hx
  ·have h0 := hk k (List.mem_cons_self ..)
   have := h0.lo; have := h0.le; have := h0.hi
   have hm : n % szN k < szN k := Nat.mod_lt _ h0.n.2.1
   unfold szN at hm ⊢
   omega
def foldP (cs : List K) (s : Nat) : Nat := cs.foldl (fun s k => s * szN k) s
theorem foldP_rev (rs : List K) : foldP rs.reverse 1 = prodR rs := by
 unfold foldP
 rw [List.foldl_reverse]
 induction rs with
 | nil => rfl
 | cons k rs ih => simp only [List.foldr_cons, ih, prodR]
theorem rMany_eq : ∀ (cs : List K) (_ : ∀ k ∈ cs, KOk k) (i a : Nat) (s : Int), s = ((min 2001 a : Nat) : Int) → getE (runL F_rMany cs i s) = ((min 2001 (foldP cs a) : Nat) : Int)
 | [], _, _, _, _, h => h
 | k :: cs, hk, i, a, s, h => by
  obtain ⟨e1, e2, e3⟩ := (hk k (List.mem_cons_self ..)).n
  simp only [runL, F_rMany]
  rw [show foldP (k :: cs) a = foldP cs (a * szN k) from rfl]
  refine rMany_eq cs (fun k h => hk k (List.mem_cons_of_mem _ h)) (i + 1) (a * szN k) _ ?_
  rw [show IntKind.i64.wrap (IntKind.i64.wrap (k.hi - k.lo) + 1) = (szN k : Int) from e1, h]
  have hb : min 2001 a * szN k ≤ 2001 * 12 := Nat.mul_le_mul (Nat.min_le_left _ _) e3
  rw [show ((min 2001 a : Nat) : Int) * (szN k : Int) = ((min 2001 a * szN k : Nat) : Int) by simp, wr (by omega) (by omega)]
  have : min 2001 (min 2001 a * szN k) = min 2001 (a * szN k) := by
   rcases Nat.le_total a 2001 with h1 | h1
   ·rw [Nat.min_eq_right h1]
   ·rw [Nat.min_eq_left h1]
    have g1 : 2001 * 1 ≤ 2001 * szN k := Nat.mul_le_mul_left _ e2
    have g2 : 2001 * 1 ≤ a * szN k := Nat.mul_le_mul h1 e2
    omega
  rw [← this]
  unfold minI
  split <;> omega
theorem many_eq : ∀ (cs : List K) (_ : ∀ k ∈ cs, KOk k) (s : Nat), s * 12 ^ cs.length ≤ 10000000 → cs.foldl manyStep (s : Int) = (foldP cs s : Nat)
 | [], _, _, _ => rfl
 | k :: cs, hk, s, h => by
  obtain ⟨e1, e2, e3⟩ := (hk k (List.mem_cons_self ..)).n
  simp only [List.foldl_cons]
  rw [show foldP (k :: cs) s = foldP cs (s * szN k) from rfl]
  have hb : s * szN k ≤ s * 12 := Nat.mul_le_mul_left _ e3
  have hp : 1 ≤ 12 ^ cs.length := Nat.one_le_pow _ _ (by decide)
  rw [List.length_cons, Nat.pow_succ, Nat.mul_comm (12 ^ cs.length) 12, ← Nat.mul_assoc] at h
  have hs : s * 12 * 1 ≤ s * 12 * 12 ^ cs.length := Nat.mul_le_mul_left _ hp
  have e : manyStep (s : Int) k = ((s * szN k : Nat) : Int) := by
   unfold manyStep
   rw [show IntKind.i64.wrap (IntKind.i64.wrap (k.hi - k.lo) + 1) = (szN k : Int) from e1, show (s : Int) * (szN k : Int) = ((s * szN k : Nat) : Int) by simp, wr (by omega) (by omega)]
  rw [e]
  exact many_eq cs (fun k h => hk k (List.mem_cons_of_mem _ h)) (s * szN k) (Nat.le_trans (Nat.mul_le_mul_right _ hb) h)
end Go.Proofs.YtfhiejgoemcelaaGreat
namespace Go.Proofs.YtfhiejgoemcelaaGreat
open Go Tw Pv
theorem fold_congr {α σ : Type} {f g : σ → α → σ} (Inv : σ → Prop) : ∀ (l : List α) (s : σ), Inv s → (∀ a ∈ l, ∀ s, Inv s → f s a = g s a ∧ Inv (g s a)) → l.foldl f s = l.foldl g s ∧ Inv (l.foldl g s)
 | [], s, hs, _ => ⟨rfl, hs⟩
 | a :: l, s, hs, h => by
  have h0 := h a (List.mem_cons_self ..) s hs
  simp only [List.foldl_cons, h0.1]
  exact fold_congr Inv l _ h0.2 fun b hb => h b (List.mem_cons_of_mem _ hb)
theorem run30n (c : C) : ∀ (m i : Nat) (s : List B), getE (runL (g30n c) (List.replicate m ()) i s) = (List.range m).foldl (fun s n => takeAll s (S_rAll c (nthW c ((i + n : Nat) : Int)))) s
 | 0, _, _ => rfl
 | m + 1, i, s => by
  rw [List.replicate_succ, List.range_succ_eq_map, List.foldl_cons, List.foldl_map]
  simp only [runL, g30n]
  rw [run30n c m (i + 1)]
  congr 1
  funext s n
  rw [show i + 1 + n = i + Nat.succ n by omega]
theorem run30 : ∀ (n k : Nat), getE (runL g30 (List.replicate n ()) k (List.replicate k S_rNone ++ List.replicate n B0)) = List.replicate (k + n) S_rNone
 | 0, k => by simp [runL, getE]
 | n + 1, k => by
  rw [List.replicate_succ, List.replicate_succ]
  simp only [runL, g30]
  have e : (List.replicate k S_rNone ++ B0 :: List.replicate n B0).set k S_rNone = List.replicate (k + 1) S_rNone ++ List.replicate n B0 := by
   rw [List.set_append_right _ _ (by simp)]
   simp [List.replicate_succ', List.append_assoc]
  rw [e, run30 n (k + 1)]
  congr 1
  omega
theorem core_k {c : C} (hok : ((S_check c) != 0) = false) : ∀ k ∈ c.cs, KOk k := fun k hk => by
 have := Check_cs (check_ok hok).1 k hk
 exact ⟨this.1, this.2.1, this.2.2.1, this.2.2.2⟩
theorem prod_pos : ∀ (rs : List K) (_ : ∀ k ∈ rs, KOk k), 0 < prodR rs
 | [], _ => Nat.one_pos
 | k :: rs, hk => Nat.mul_pos (prod_pos rs fun k h => hk k (List.mem_cons_of_mem _ h)) (hk k (List.mem_cons_self ..)).n.2.1
theorem tight_eq {c : C} (hok : ((S_check c) != 0) = false) (hm : S_rMany c ≤ 200) : S_Tight c = (S_rTightN c (S_rMany c).toNat, 0) ∧ 0 ≤ S_rMany c := by
 have hk := core_k hok
 have hcore := core_ok hok
 have h1 : S_rMany c = ((min 2001 (foldP c.cs 1) : Nat) : Int) := rMany_eq c.cs hk 0 1 1 rfl
 have hP : foldP c.cs 1 = prodR c.cs.reverse := by rw [← foldP_rev, List.reverse_reverse]
 have hM : S_rMany c = (prodR c.cs.reverse : Nat) := by rw [h1, hP]; rw [h1, hP] at hm; omega
 have hp : prodR c.cs.reverse ≤ 200 := by omega
 have h6 := (check_ok hok).2.2.1
 have hmany : S_many c.cs = (prodR c.cs.reverse : Nat) := by
  rw [← hP]
  refine many_eq c.cs hk 1 ?_
  have : 12 ^ c.cs.length ≤ 12 ^ 6 := Nat.pow_le_pow_right (by decide) h6
  omega
 refine ⟨?_, by omega⟩
 unfold S_Tight
 rw [if_neg (by rw [hok]; simp), if_neg (by rw [hmany]; simp; omega)]
 congr 1
 unfold S_rTightN
 rw [hM, Int.toNat_natCast, run30n]
 have e0 := run30 c.os.length 0
 simp only [List.replicate_zero, List.nil_append, Nat.zero_add] at e0
 rw [e0]
 unfold S_TightL
 rw [show c.cs = c.cs.reverse.reverse by rw [List.reverse_reverse], wF_fold c.cs.reverse (fun k h => (hk k (List.mem_reverse.1 h)).n.2.1)]
 rw [List.reverse_reverse]
 refine (fold_congr (fun s => (∀ b ∈ s, Can b) ∧ s.length = c.os.length) _ _ ⟨fun b hb => ?_, by simp [none0]⟩ fun n hn s hs => ?_).1
 ·rw [List.eq_of_mem_replicate hb]; exact .none
 ·have hn := List.mem_range.1 hn
  have ew : nthW c ((0 + n : Nat) : Int) = nthR c.cs.reverse n := by rw [Nat.zero_add]; exact nthW_eq c hk n (by omega)
  have hin := nthR_in c.cs.reverse (fun k h => hk k (List.mem_reverse.1 h)) n
  have hlen : (nthR c.cs.reverse n).length = c.cs.length := by rw [nthR_len, List.length_reverse]
  have ha := allR_eq (c := c) (w := nthR c.cs.reverse n) hin c.os 0 [] (fun j o hj => by
   have := hcore.2 j o hj
   rw [hlen, List.length_nil, Nat.zero_add]; exact this) (by simp)
  have e1 : S_AllL c (nthR c.cs.reverse n) = S_rAll c (nthR c.cs.reverse n) := ha.1
  rw [ew, List.nil_append, e1]
  have hl := rAll_len c (nthR c.cs.reverse n)
  have ht := take_eq (S_rAll c (nthR c.cs.reverse n)) 0 s ha.2 hs.1 (by omega)
  rw [← gMet_all]
  exact ⟨ht.1, ht.2, by unfold takeAll; rw [gTk_len]; exact hs.2⟩
end Go.Proofs.YtfhiejgoemcelaaGreat
namespace Go.Proofs.YtfhiejgoemcelaaGreat
open Go Tw Pv
theorem quot_b {a b : Int} (a0 : -10000 ≤ a) (a1 : a ≤ 10000) (b0 : -10000 ≤ b) (b1 : b ≤ 10000) (hb : b ≠ 0) : (-10000 ≤ S_quot a b ∧ S_quot a b ≤ 10000) ∧ -10000 ≤ IntKind.i64.wrap (a - IntKind.i64.wrap (b * S_quot a b)) ∧ IntKind.i64.wrap (a - IntKind.i64.wrap (b * S_quot a b)) ≤ 10000 := by
 obtain ⟨_, _, h3⟩ := quot_rest (a := a) hb (.inr trivial)
 have hp : (b * S_quot a b).natAbs = b.natAbs * (S_quot a b).natAbs := Int.natAbs_mul _ _
 have hQ : (S_quot a b).natAbs ≤ 10000 := by
  rcases Nat.lt_or_ge 10000 (S_quot a b).natAbs with h | h
  ·have := Nat.mul_le_mul_left b.natAbs (show 10001 ≤ (S_quot a b).natAbs from h)
   generalize b * S_quot a b = p at *
   generalize b.natAbs * (S_quot a b).natAbs = r at *
   omega
  ·exact h
 refine ⟨by omega, ?_⟩
 generalize b * S_quot a b = p at *
 rw [wr (z := p) (by omega) (by omega), wr (by omega) (by omega)]
 omega
theorem vb_n {k : Int} (h1 : -10000 ≤ k) (h2 : k ≤ 10000) : VB (S_rNumber k) := ⟨h1, h2⟩
theorem vb_make (k : Int) : VB (S_rMake k) := by
 have h := make_good k
 by_cases hf : (S_rMake k).f = 0
 ·have := h.n hf; exact ⟨by omega, by omega⟩
 ·have := h.z hf; exact ⟨by omega, by omega⟩
theorem vb_bool (b : Bool) : VB (S_rBool b) := by cases b <;> exact ⟨by decide, by decide⟩
theorem vb_f (f : Int) : VB (S_rFaultV f) := ⟨by simp [S_rFaultV], by simp [S_rFaultV]⟩
theorem vb_ite {c : Prop} [Decidable c] {x y : V} (hx : VB x) (hy : VB y) : VB (if c then x else y) := by split <;> assumption
theorem vb_op2 {k : Int} {a b : V} (ha : VB a) (hb : VB b) : VB (S_rOp2 k a b) := by
 unfold S_rOp2
 have h1 := vb_n (k := 1) (by decide) (by decide)
 have hq : ¬ (b.n == 0) = true → VB (S_rNumber (S_quot a.n b.n)) ∧ VB (S_rNumber (IntKind.i64.wrap (a.n - IntKind.i64.wrap (b.n * S_quot a.n b.n)))) := fun h => by
  have hb0 : b.n ≠ 0 := by simpa using h
  obtain ⟨q1, q2⟩ := quot_b ha.1 ha.2 hb.1 hb.2 hb0
  exact ⟨vb_n q1.1 q1.2, vb_n q2.1 q2.2⟩
 have last : VB (if (b.n == 0) = true then S_rFaultV 1 else if (k == 10) = true then S_rNumber (S_quot a.n b.n) else S_rNumber (IntKind.i64.wrap (a.n - IntKind.i64.wrap (b.n * S_quot a.n b.n)))) := by
  by_cases hz : (b.n == 0) = true
  ·rw [if_pos hz]; exact vb_f _
  ·rw [if_neg hz]; exact vb_ite (hq hz).1 (hq hz).2
 exact vb_ite ha (vb_ite (vb_ite ha (vb_ite (vb_ite h1 hb) hb)) (vb_ite (vb_ite h1 hb) (vb_ite hb (vb_ite (vb_make _) (vb_ite (vb_make _) (vb_ite (vb_make _) (vb_ite (vb_bool _) (vb_ite (vb_bool _) (vb_ite (vb_bool _) last)))))))))
theorem vb_at {l : List V} (hl : ∀ v ∈ l, VB v) (k : Nat) : VB (l.getD k V0) := by
 rw [List.getD_eq_getElem?_getD]
 cases h : l[k]? with
 | none => exact ⟨by decide, by decide⟩
 | some v => exact hl v (List.mem_of_getElem? h)
theorem vb_cell {o : O} {l : List V} {w : List Int} (h1 : o.code = 1 → -9999 ≤ o.n ∧ o.n ≤ 9999) (hw : ∀ x ∈ w, -9999 ≤ x ∧ x ≤ 9999) (hl : ∀ v ∈ l, VB v) : VB (S_rCell l w o) := by
 have va := vb_at hl o.a.toNat; have vb := vb_at hl o.b.toNat; have vc := vb_at hl o.c.toNat
 have hx : VB (S_rNumber (w.getD o.n.toNat 0)) := by
  rw [List.getD_eq_getElem?_getD]
  cases h : w[o.n.toNat]? with
  | none => exact ⟨by decide, by decide⟩
  | some v => have := hw v (List.mem_of_getElem? h); exact vb_n (by simp; omega) (by simp; omega)
 have o1 : ∀ k, VB (S_rOp1 k (l.getD o.a.toNat V0)) := fun k => by
  unfold S_rOp1
  split
  ·exact va
  ·split
   ·have := va.1; have := va.2; rw [wr (by omega) (by omega)]; exact vb_n (by omega) (by omega)
   ·exact vb_bool _
 unfold S_rCell
 split
 ·rename_i h; have := h1 (by simpa using h); exact vb_n (by omega) (by omega)
 ·split
  ·exact vb_f _
  ·split
   ·exact hx
   ·split
    ·unfold S_rChoose; repeat' split
     all_goals first | exact va | exact vb | exact vc
    ·split
     ·exact o1 _
     ·split
      ·exact o1 _
      ·exact vb_op2 va vb
theorem allOk {c : C} (hok : ((S_check c) != 0) = false) {n : Nat} (hn : n ≤ 1000000) : AllOk c (nthW c n) := by
 have hk := core_k hok
 have hcore := core_ok hok
 have hlen : (nthW c n).length = c.cs.length := by unfold nthW; rw [nthL_len]; simp
 have hin : ∀ x ∈ nthW c n, -9999 ≤ x ∧ x ≤ 9999 := by rw [nthW_eq c hk n hn]; exact nthR_in c.cs.reverse (fun k h => hk k (List.mem_reverse.1 h)) n
 exact ⟨ok3000 (check_ok hok).2.2.2.1, fun i o h => by rw [hlen]; exact (hcore.2 i o h).1, fun i o l h _ hl => vb_cell ((hcore.2 i o h).2.one) hin hl⟩
theorem thin_small {c : C} (h : S_Thin c = true) : c.cs.length ≤ 8 ∧ c.os.length ≤ 60 ∧ c.rs.length ≤ 60 ∧ (((S_rCheck c) != 0) = false → S_rMany c ≤ 200) := by
 unfold S_Thin at h
 split at h
 ·cases h
 ·split at h
  ·cases h
  ·split at h
   ·cases h
   ·rename_i h1 h2 h3
    simp only [decide_eq_true_eq] at h1 h2 h3
    refine ⟨by omega, by omega, by omega, fun h0 => ?_⟩
    rw [if_neg (by rw [h0]; simp)] at h
    simpa using h
theorem sm60 {k : Nat} (h : k ≤ 60) : k ≤ most := by unfold most; omega
theorem rTightN_len (c : C) (n : Nat) : (S_rTightN c n).length = c.os.length := by
 unfold S_rTightN
 have : ∀ (us : List Unit) (i : Nat) (s : List B), (getE (runL (g30n c) us i s)).length = s.length := by
  intro us
  induction us with
  | nil => intro i s; rfl
  | cons u us ih => intro i s; simp only [runL, g30n]; rw [ih]; unfold takeAll; rw [gTk_len]
 rw [this, g30_len]; simp
noncomputable def oc5 : Orc gam := orcF 5 (a1 cA) tA (fun _ => true) np oc30
theorem gc5 : Gd oc5 := gc30.add fun n hO p hp => by
 cases ht : S_Thin p with
 | false => exact fn_is hX hO (by kernel_rfl) (.b (show (!S_Thin p) = true by rw [ht]; rfl) .rr)
 | true =>
  have h1 : (!S_Thin p) = false := by rw [ht]; rfl
  obtain ⟨l1, l2, l3, l4⟩ := thin_small ht
  cases hok : S_check p != 0 with
  | true =>
   have hT : S_Tight p = ([], S_check p) := by unfold S_Tight; rw [if_pos hok]
   exact fn_is hX hO (by kernel_rfl) (.b h1 (.o (sm60 (Nat.le_trans l1 (by decide)) : p.cs.length ≤ most) (.o (sm60 l2 : p.os.length ≤ most) (.o (sm60 l3 : p.rs.length ≤ most) (.b (show (S_rCheck p != 0) = true by rw [check_eq]; exact hok) (.b (show ((S_Tight p).2 == S_rCheck p) = true by rw [hT, check_eq]; simp) (.b (show ((((S_Tight p).1.length : Nat) : Int) == 0) = true by rw [hT]; rfl) .rr)))))))
  | false =>
   have hr : (S_rCheck p != 0) = false := by rw [check_eq]; exact hok
   have hm := l4 hr
   obtain ⟨hT, h0⟩ := tight_eq hok hm
   exact fn_is hX hO (by kernel_rfl) (.b h1 (.o (sm60 (Nat.le_trans l1 (by decide)) : p.cs.length ≤ most) (.o (sm60 l2 : p.os.length ≤ most) (.o (sm60 l3 : p.rs.length ≤ most) (.b hr (.b (show ((S_Tight p).2 == 0) = true by rw [hT]; rfl)
    (.o (sm60 l2 : p.os.length ≤ most) (.o (sm60 (Nat.le_trans l1 (by decide)) : p.cs.length ≤ most) (.o h0 (.o (show S_rMany p ≤ 2001 by omega) (.o (fun k hk => by rw [(core_k hok k hk).n.1]; have := (core_k hok k hk).n.2.1; omega : ∀ k ∈ p.cs, szK k ≠ 0) (.o (fun k hk => allOk hok (by omega) : ∀ k : Nat, (k : Int) < S_rMany p → AllOk p (nthW p k))
    (.o (show (S_Tight p).1.length ≤ most by rw [hT]; exact sm60 (by rw [rTightN_len]; exact l2)) (.b (show S_same (S_Tight p).1 (S_rTightN p (S_rMany p).toNat) = true by rw [hT]; exact same_refl _) .rr))))))))))))))
end Go.Proofs.YtfhiejgoemcelaaGreat
namespace Go.Proofs.YtfhiejgoemcelaaGreat
open Go Tw Pv
def S_lhas (r : B) (v : V) : Bool := if (v.f == 0) = true then (if (decide (r.lo ≤ v.n)) = true then decide (v.n ≤ r.hi) else false) else if (decide (v.f ≤ 4)) = true then andI .u8 r.f (S_bit v.f) != 0 else false
def S_ready (c : C) : Bool := if S_Thin c = true then S_rCheck c == 0 else false
def S_wnum (c : C) (k : Int) : Int := remI .i64 (IntKind.i64.wrap k) (S_rMany c)
def S_cells (c : C) (w : List Int) : List V × Bool := if ((S_All c w).2 == 0) = true then ((S_All c w).1, (((S_All c w).1.length : Nat) : Int) == ((c.os.length : Nat) : Int)) else ((S_All c w).1, false)
theorem u8_nn (z : Int) : 0 ≤ IntKind.u8.wrap z := by
 simp only [IntKind.wrap, IntKind.signed, IntKind.bits, Bool.false_and, Bool.false_eq_true, if_false]
 exact Int.emod_nonneg _ (by decide)
noncomputable def oc51 : Orc gam := orcF 51 (a2 bA vA) tA (fun p => S_lhas p.1 p.2) np oc5
theorem gc51 : Gd oc51 := gc5.add fun n hO p hp => fn_is hX hO (by kernel_rfl) (.ss (.ss .rr .rr) (.ss (.o (u8_nn (p.2.f - 1)) .rr) .rr))
noncomputable def oc40 : Orc gam := orcF 40 (a1 cA) tA (fun p => S_ready p) np oc51
theorem gc40 : Gd oc40 := gc51.add fun n hO p hp => fn_is hX hO (by kernel_rfl) (.ss .rr .rr)
noncomputable def oc42 : Orc gam := orcF 42 (a2 cA hA) isA (fun p => nthW p.1 (S_wnum p.1 p.2)) (fun p => [p.1.cs.length ≤ most, S_rMany p.1 ≠ 0, ∀ k ∈ p.1.cs, szK k ≠ 0]) oc40
theorem gc42 : Gd oc42 := gc40.add fun n hO p hp => fn_is hX hO (by kernel_rfl) (.o (hp _ (.head _)) (.o (hp _ (.tail _ (.head _))) (.o (hp _ (.head _)) (.o (hp _ (.tail _ (.tail _ (.head _)))) .rr))))
noncomputable def oc41 : Orc gam := orcF 41 (a2 cA isA) (tupA (a2 vsA tA)) (fun p => S_cells p.1 p.2) (fun p => [p.1.cs.length ≤ most, p.1.os.length ≤ most, p.1.rs.length ≤ most, p.2.length ≤ most]) oc42
theorem gc41 : Gd oc41 := gc42.add fun n hO p hp => fn_is hX hO (by kernel_rfl) (.o (hp _ (.head _)) (.o (hp _ (.tail _ (.head _))) (.o (hp _ (.tail _ (.tail _ (.head _)))) (.o (show ([] : List Int).length + p.2.length ≤ most by simpa using hp _ (.tail _ (.tail _ (.tail _ (.head _))))) (.ss .rr .rr)))))
end Go.Proofs.YtfhiejgoemcelaaGreat
