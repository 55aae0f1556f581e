/- The statement TableOps: any operation on any tables gives what the document says, or the error is (sizes and tables within the statement's bounds, at most 4 tables). -/
import Derived.ProofKit
import Derived.Test.YtmefgijobonklaaGreatRows
import Derived.Test.YtmefgijobonklaaGreatPe
set_option linter.constructorNameAsVariable false
set_option linter.unusedVariables false
set_option linter.unusedSimpArgs false
set_option linter.unusedSectionVars false
namespace Tw
open Go
def renT (g : Nat → Option Nat) : TV → Option TV
 | .ptr b o l => (g b).map fun b => .ptr b o l
 | .slc b o n c z e => (g b).map fun b => .slc b o n c z e
 | .map r => (g r).map .map
 | .yld _ => none
 | .fn f a c => match renTs g a, renTs g c with
  | some a, some c => some (.fn f a c)
  | _, _ => none
 | .agg cs => (renTs g cs).map .agg
 | .tup cs => (renTs g cs).map .tup
 | .bool b => some (.bool b)
 | .int k n => some (.int k n)
 | .str s => some (.str s)
 | .nil k => some (.nil k)
where
 renTs (g : Nat → Option Nat) : List TV → Option (List TV)
 | [] => some []
 | c :: cs => match renT g c, renTs g cs with
  | some v, some vs => some (v :: vs)
  | _, _ => none
theorem renTs_at {g : Nat → Option Nat} : ∀ {az as' : List TV}, renT.renTs g az = some as' → az.length = as'.length ∧ ∀ (i : Nat) c', as'[i]? = some c' → ∃ c, az[i]? = some c ∧ renT g c = some c'
 | [], as', h => by cases h; exact ⟨rfl, fun i c h => by simp at h⟩
 | a :: az, as', h => by
  simp only [renT.renTs] at h
  split at h
  ·rename_i v vs e1 e2
   cases h
   obtain ⟨h1, h2⟩ := renTs_at e2
   refine ⟨by simp [h1], fun i c' hi => ?_⟩
   cases i with
   | zero => simp at hi; subst hi; exact ⟨a, rfl, e1⟩
   | succ i => exact h2 i c' (by simpa using hi)
  ·cases h
section
variable {g : Nat → Option Nat} {N N' : Np}
theorem renT_ok (hg : ∀ b b', g b = some b' → N' b' = N b) {v : TV} {x : Value} (h : VR N v x) : ∀ {v'}, renT g v = some v' → VR N' v' x := by
 have lst : ∀ {az : List TV} {xs : List Value}, az.length = xs.length → (∀ (i : Nat) (c : TV) (v : Value), az[i]? = some c → xs[i]? = some v → ∀ {v'}, renT g c = some v' → VR N' v' v) → ∀ {as'}, renT.renTs g az = some as' → as'.length = xs.length ∧ ∀ (i : Nat) (c : TV) (v : Value), as'[i]? = some c → xs[i]? = some v → VR N' c v := by
  intro az xs hl ha as' hr
  obtain ⟨h1, h2⟩ := renTs_at hr
  exact ⟨by rw [← h1, hl], fun i c v e1 e2 => by obtain ⟨c0, f1, f2⟩ := h2 i c e1; exact ha i c0 v f1 e2 f2⟩
 induction h with
 | bool b => intro v' h; cases h; exact .bool b
 | int k n => intro v' h; cases h; exact .int k n
 | str s => intro v' h; cases h; exact .str s
 | nptr => intro v' h; cases h; exact .nptr
 | nslc => intro v' h; cases h; exact .nslc
 | nmap => intro v' h; cases h; exact .nmap
 | nfn => intro v' h; cases h; exact .nfn
 | nifc => intro v' h; cases h; exact .nifc
 | ptr hb hp h ht =>
  intro v' hr
  simp only [renT, Option.map_eq_some_iff] at hr
  obtain ⟨b', e, rfl⟩ := hr
  exact .ptr (by rw [hg _ _ e]; exact hb) hp h ht
 | slc hb hp h hl hc hx ha hk =>
  intro v' hr
  simp only [renT, Option.map_eq_some_iff] at hr
  obtain ⟨b', e, rfl⟩ := hr
  exact .slc (by rw [hg _ _ e]; exact hb) hp h hl hc hx ha hk
 | map h =>
  intro v' hr
  simp only [renT, Option.map_eq_some_iff] at hr
  obtain ⟨b', e, rfl⟩ := hr
  exact .map (by rw [hg _ _ e]; exact h)
 | yld h => intro v' hr; simp [renT] at hr
 | fn h1 h2 h3 h4 i2 i4 =>
  intro v' hr
  simp only [renT] at hr
  split at hr
  ·rename_i a c e1 e2
   cases hr
   obtain ⟨p1, p2⟩ := lst h1 i2 e1
   obtain ⟨q1, q2⟩ := lst h3 i4 e2
   exact .fn p1 p2 q1 q2
  ·cases hr
 | agg h1 h2 i2 =>
  intro v' hr
  simp only [renT, Option.map_eq_some_iff] at hr
  obtain ⟨a, e, rfl⟩ := hr
  obtain ⟨p1, p2⟩ := lst h1 i2 e
  exact .agg p1 p2
 | tup h1 h2 i2 =>
  intro v' hr
  simp only [renT, Option.map_eq_some_iff] at hr
  obtain ⟨a, e, rfl⟩ := hr
  obtain ⟨p1, p2⟩ := lst h1 i2 e
  exact .tup p1 p2
def renEs (g : Nat → Option Nat) : List (TV × TV) → Option (List (TV × TV))
 | [] => some []
 | (k, v) :: r => match renT g k, renT g v, renEs g r with
  | some k, some v, some r => some ((k, v) :: r)
  | _, _, _ => none
theorem renEs_at : ∀ {az as' : List (TV × TV)}, renEs g az = some as' → az.length = as'.length ∧ ∀ (i : Nat) c', as'[i]? = some c' → ∃ c, az[i]? = some c ∧ renT g c.1 = some c'.1 ∧ renT g c.2 = some c'.2
 | [], as', h => by cases h; exact ⟨rfl, fun i c h => by simp at h⟩
 | (k, v) :: az, as', h => by
  simp only [renEs] at h
  split at h
  ·rename_i k' v' vs e0 e1 e2
   cases h
   obtain ⟨h1, h2⟩ := renEs_at e2
   refine ⟨by simp [h1], fun i c' hi => ?_⟩
   cases i with
   | zero => simp at hi; subst hi; exact ⟨(k, v), rfl, e0, e1⟩
   | succ i => exact h2 i c' (by simpa using hi)
  ·cases h
def renHB (g : Nat → Option Nat) : HB → Option HB
 | .cells k cs => (renT.renTs g cs).map (.cells k)
 | .map es => (renEs g es).map .map
 | .mark => some .mark
 | .loop .. => none
theorem ren_oneT {v v' : TV} (h : renT g v = some v') : oneT v' = oneT v := by
 cases v <;> simp only [renT, Option.map_eq_some_iff, Option.some.injEq] at h
 all_goals first
  | (obtain ⟨b, _, rfl⟩ := h; rfl)
  | (subst h; rfl)
  | (split at h <;> cases h; rfl)
  | cases h
theorem renHB_ok (hg : ∀ b b', g b = some b' → N' b' = N b) {w : World} {b b' : HB} {l : Lc} (h : okBlk N w b l) (hr : renHB g b = some b') : okBlk N' w b' l := by
 cases b with
 | cells k cs =>
  cases l with
  | obj r => exact h.elim
  | cells ls =>
   simp only [renHB, Option.map_eq_some_iff] at hr
   obtain ⟨cs', e, rfl⟩ := hr
   obtain ⟨h1, h2⟩ := renTs_at e
   refine ⟨fun c hc => ?_, fun p hp => ?_, fun hk => by rw [← h1]; exact h.2.2.1 hk, fun hk => by rw [← h1]; exact h.2.2.2 hk⟩
   ·obtain ⟨i, hi⟩ := List.mem_iff_getElem?.1 hc
    obtain ⟨c0, f1, f2⟩ := h2 i c hi
    rw [ren_oneT f2]
    exact h.1 c0 (List.mem_of_getElem? f1)
   ·obtain ⟨⟨arr, ty, fz, a1, a2, a3, a4⟩, b1, b2, b3⟩ := h.2.1 p hp
    exact ⟨⟨arr, ty, fz, a1, a2, a3, fun hk i c v hi hc hv => by obtain ⟨c0, f1, f2⟩ := h2 i c hc; exact renT_ok hg (a4 (by rw [h1]; exact hk) i c0 v hi f1 hv) f2⟩, b1, by rw [← h1]; exact b2, b3⟩
 | map es =>
  cases l with
  | cells ls => exact h.elim
  | obj r =>
   simp only [renHB, Option.map_eq_some_iff] at hr
   obtain ⟨es', e, rfl⟩ := hr
   obtain ⟨h1, h2⟩ := renEs_at e
   obtain ⟨xs, ck, a1, a2, a3⟩ := h
   exact ⟨xs, ck, a1, by rw [← h1]; exact a2, fun i c x hc hx => by obtain ⟨c0, f1, f2, f3⟩ := h2 i c hc; exact ⟨renT_ok hg (a3 i c0 x f1 hx).1 f2, renT_ok hg (a3 i c0 x f1 hx).2 f3⟩⟩
 | mark => simp only [renHB, Option.some.injEq] at hr; subst hr; cases l <;> exact h
 | loop => simp [renHB] at hr
theorem ren_wr {b b' : HB} (h : renHB g b = some b') : wr b' = wr b := by
 cases b with
 | cells k cs => simp only [renHB, Option.map_eq_some_iff] at h; obtain ⟨_, _, rfl⟩ := h; cases k <;> rfl
 | map es => simp only [renHB, Option.map_eq_some_iff] at h; obtain ⟨_, _, rfl⟩ := h; rfl
 | mark => simp only [renHB, Option.some.injEq] at h; subst h; rfl
 | loop => simp [renHB] at h
end
def posF : List Nat → Nat → Option Nat
 | [], _ => none
 | a :: l, i => match Nat.beq a i with
  | true => some 0
  | false => (posF l i).map (· + 1)
theorem posF_at : ∀ {l : List Nat} {i p : Nat}, posF l i = some p → l[p]? = some i
 | [], i, p, h => by cases h
 | a :: l, i, p, h => by
  simp only [posF] at h
  split at h
  ·rename_i e; cases h; rw [Nat.eq_of_beq_eq_true e]; rfl
  ·simp only [Option.map_eq_some_iff] at h
   obtain ⟨q, e, rfl⟩ := h
   rw [List.getElem?_cons_succ]; exact posF_at e
def renG (fl : Nat) (keep : List Nat) (b : Nat) : Option Nat := match Nat.blt b fl with
 | true => some b
 | false => (posF keep b).map (· + fl)
def pickG (g : Nat → Option Nat) (h : List HB) : List Nat → Option (List HB)
 | [] => some []
 | b :: l => match h[b]? with
  | some x => match renHB g x, pickG g h l with
   | some y, some r => some (y :: r)
   | _, _ => none
  | none => none
theorem pickG_at {g : Nat → Option Nat} {h : List HB} : ∀ {l : List Nat} {bs : List HB}, pickG g h l = some bs → l.length = bs.length ∧ ∀ (i : Nat) y, bs[i]? = some y → ∃ c x, l[i]? = some c ∧ h[c]? = some x ∧ renHB g x = some y
 | [], bs, e => by cases e; exact ⟨rfl, fun i y h => by simp at h⟩
 | b :: l, bs, e => by
  simp only [pickG] at e
  split at e
  ·rename_i x hx
   split at e
   ·rename_i y r e1 e2
    cases e
    obtain ⟨h1, h2⟩ := pickG_at e2
    refine ⟨by simp [h1], fun i y' hi => ?_⟩
    cases i with
    | zero => simp at hi; subst hi; exact ⟨b, x, rfl, hx, e1⟩
    | succ i => exact h2 i y' (by simpa using hi)
   ·cases e
  ·cases e
theorem CallR.gc {M : Mp} {h h' bs : List HB} {w w' : World} {v v' : TV} {y : Value} {keep : List Nat} (hV : Valid M allK (ctH h) w) (hl : ∀ k, M (.l k) = none) (hR : CallR M h w v h' [] y w') (hn : keep.Nodup) (hk : ∀ b ∈ keep, h.length ≤ b) (hv : renT (renG h.length keep) v = some v') (hb : pickG (renG h.length keep) h' keep = some bs) : CallR M h w v' (h ++ bs) [] y w' := by
 obtain ⟨M', hV', hl', hX, hv'⟩ := hR
 have hdom : ∀ b l, M (.h b) = some l → b < h.length := fun b l hb => by
  have := hV.has hb
  simp only [ctH, St.get] at this
  rcases Nat.lt_or_ge b h.length with h1 | h1
  ·exact h1
  ·rw [List.getElem?_eq_none h1] at this; simp at this
 have hold : ∀ b, b < h.length → M' (.h b) = M (.h b) := fun b hb => hX.keepM (.h b) (.inl (by simp [ctH, St.get, hb])) (by simp)
 have hoc : ∀ b, b < h.length → ctH h' (.h b) = ctH h (.h b) := fun b hb => hX.keep (.h b) (by simp [ctH, St.get, hb]) (by simp)
 obtain ⟨p1, p2⟩ := pickG_at hb
 let κ : Nat → Option Nat := fun b => if b < h.length then some b else keep[b - h.length]?
 let M2 : Mp := fun k => match k with
  | .l _ => none
  | .h b => match κ b with
   | some c => M' (.h c)
   | none => none
 have hκ : ∀ b c, κ b = some c → M2 (.h b) = M' (.h c) := fun b c e => by show (match κ b with | some c => M' (.h c) | none => none) = _; rw [e]
 have hκn : ∀ b, κ b = none → M2 (.h b) = none := fun b e => by show (match κ b with | some c => M' (.h c) | none => none) = _; rw [e]
 have hM2 : ∀ b l, M2 (.h b) = some l → ∃ c, κ b = some c ∧ M' (.h c) = some l := fun b l e => by
  cases e2 : κ b with
  | none => rw [hκn b e2] at e; cases e
  | some c => rw [hκ b c e2] at e; exact ⟨c, rfl, e⟩
 have klt : ∀ b, b < h.length → κ b = some b := fun b hb => by simp only [κ, if_pos hb]
 have kge : ∀ b, ¬ b < h.length → κ b = keep[b - h.length]? := fun b hb => by simp only [κ, if_neg hb]
 have hg : ∀ b b', renG h.length keep b = some b' → M2.h b' = M'.h b := fun b b' e => by
  unfold renG at e
  split at e
  ·rename_i hlt
   have hlt : b < h.length := Nat.le_of_ble_eq_true hlt
   cases e
   exact hκ _ _ (klt b hlt)
  ·simp only [Option.map_eq_some_iff] at e
   obtain ⟨p, e1, rfl⟩ := e
   exact hκ _ _ (by rw [kge _ (by omega), Nat.add_sub_cancel]; exact posF_at e1)
 have hle : Mle M.h M2.h := fun b l e => ⟨l, by show M2 (.h b) = some l; rw [hκ b b (klt b (hdom b l e)), hold b (hdom b l e)]; exact e, .refl l⟩
 have hfr : ∀ c, c < w.heap.size → w'.heap[c]? = w.heap[c]? := fun c hc => hX.frame c hc (by simp)
 have hC : ∀ b, b < h.length → ctH (h ++ bs) (.h b) = ctH h (.h b) := fun b hb => by simp only [ctH, St.get]; rw [List.getElem?_append_left hb]
 have hC2 : ∀ b, ¬ b < h.length → ctH (h ++ bs) (.h b) = bs[b - h.length]? := fun b hb => by simp only [ctH, St.get]; rw [List.getElem?_append_right (by omega)]
 refine ⟨M2, ⟨fun k l hk2 _ => ?_, fun k k' l l' b hne h1 h2 _ hc hw => ?_, fun k l hk2 => ?_⟩, fun _ => rfl, ⟨fun k l e => ?_, fun c hc _ => hfr c hc, fun k hs _ => ?_, fun k hs _ => ?_, fun k l e c hc hs => ?_, hX.size, fun k hs => ?_, by simp, by simp, hX.os, hX.output, hX.tape⟩, renT_ok hg hv' hv⟩
 ·cases k with
  | l k => cases hk2
  | h b =>
   obtain ⟨c, e1, e2⟩ := hM2 b l hk2
   by_cases hb2 : b < h.length
   ·have := klt b hb2
    rw [this] at e1; cases e1
    rw [hold b hb2] at e2
    obtain ⟨x, f1, f2⟩ := hV.ok _ l e2 trivial
    exact ⟨x, by rw [hC b hb2]; exact f1, f2.mono hle fun c hc => hfr c (hV.inb _ l e2 c hc)⟩
   ·rw [kge b hb2] at e1
    have hlt : b - h.length < bs.length := by rw [← p1]; exact (List.getElem?_eq_some_iff.1 e1).1
    obtain ⟨c', x, f1, f2, f3⟩ := p2 _ _ (List.getElem?_eq_getElem hlt)
    rw [e1] at f1; cases f1
    obtain ⟨x', g1, g2⟩ := hV'.ok _ l e2 trivial
    have g1 : h'[c]? = some x' := g1
    rw [f2] at g1; cases g1
    exact ⟨_, by rw [hC2 b hb2]; exact List.getElem?_eq_getElem hlt, renHB_ok hg g2 f3⟩
 ·cases k with
  | l k => cases h1
  | h b1 =>
   cases k' with
   | l k => cases h2
   | h b2 =>
    obtain ⟨c1, e1, e2⟩ := hM2 b1 l h1
    obtain ⟨c2, e3, e4⟩ := hM2 b2 l' h2
    have hcc : c1 ≠ c2 := fun e => by
     subst e
     by_cases q1 : b1 < h.length <;> by_cases q2 : b2 < h.length
     ·rw [klt _ q1] at e1; rw [klt _ q2] at e3; cases e1; cases e3; exact hne rfl
     ·rw [klt _ q1] at e1; rw [kge _ q2] at e3; cases e1; have := hk _ (List.mem_of_getElem? e3); omega
     ·rw [kge _ q1] at e1; rw [klt _ q2] at e3; cases e3; have := hk _ (List.mem_of_getElem? e1); omega
     ·rw [kge _ q1] at e1; rw [kge _ q2] at e3
      have i1 := (List.getElem?_eq_some_iff.1 e1)
      have i2 := (List.getElem?_eq_some_iff.1 e3)
      have := (List.getElem_inj hn (h₀ := i1.1) (h₁ := i2.1)).1 (i1.2.trans i2.2.symm)
      exact hne (by rw [show b1 = b2 by omega])
    obtain ⟨x, g1, g2⟩ : ∃ x, ctH h' (.h c1) = some x ∧ wr x = true := by
     by_cases q1 : b1 < h.length
     ·rw [klt _ q1] at e1; cases e1
      exact ⟨b, by rw [hoc _ q1, ← hC _ q1]; exact hc, hw⟩
     ·rw [hC2 _ q1] at hc
      obtain ⟨c', x, f1, f2, f3⟩ := p2 _ _ hc
      rw [kge _ q1, f1] at e1; cases e1
      exact ⟨x, f2, by rw [← ren_wr f3]; exact hw⟩
    exact hV'.own (.h c1) (.h c2) l l' x (fun e => hcc (by cases e; rfl)) e2 e4 trivial g1 g2
 ·cases k with
  | l k => cases hk2
  | h b => obtain ⟨c, e1, e2⟩ := hM2 b l hk2; exact hV'.inb _ l e2
 ·cases k with
  | l k => rw [hl k] at e; cases e
  | h b => exact hle b l e
 ·cases k with
  | l k => simp [ctH, St.get] at hs
  | h b =>
   refine hC b ?_
   simp only [ctH, St.get] at hs
   rcases Nat.lt_or_ge b h.length with h1 | h1
   ·exact h1
   ·rw [List.getElem?_eq_none h1] at hs; simp at hs
 ·cases k with
  | l k => rw [hl k]
  | h b =>
   by_cases hb2 : b < h.length
   ·rw [hκ b b (klt b hb2), hold b hb2]
   ·have h1 : M (.h b) = none := by
     cases e : M (.h b) with
     | none => rfl
     | some l => exact absurd (hdom b l e) hb2
    rw [h1]
    refine hκn b ?_
    rw [kge b hb2]
    rcases hs with hs | hs
    ·simp only [ctH, St.get] at hs
     rw [List.getElem?_eq_none (by omega)] at hs
     simp at hs
    ·rw [hC2 b hb2] at hs
     rw [List.getElem?_eq_none_iff] at hs ⊢
     omega
 ·cases k with
  | l k => cases e
  | h b =>
   obtain ⟨c', e1, e2⟩ := hM2 b l e
   obtain ⟨l0, f1, f2⟩ := hX.fresh _ l e2 c hc hs
   have := hdom _ _ f1
   by_cases hb2 : b < h.length
   ·rw [klt b hb2] at e1; cases e1; exact ⟨l0, f1, f2⟩
   ·rw [kge b hb2] at e1
    have := hk _ (List.mem_of_getElem? e1)
    omega
 ·cases k with
  | l k => simp [ctH, St.get] at hs
  | h b =>
   simp only [ctH, St.get] at hs ⊢
   rcases Nat.lt_or_ge b h.length with h1 | h1
   ·simp [List.getElem?_append_left h1, h1]
   ·rw [List.getElem?_eq_none h1] at hs; simp at hs
def refT : TV → List Nat → List Nat
 | .ptr b _ _, l => b :: l
 | .slc b _ _ _ _ _, l => b :: l
 | .map b, l => b :: l
 | .fn _ a c, l => refTs a (refTs c l)
 | .agg cs, l => refTs cs l
 | .tup cs, l => refTs cs l
 | _, l => l
where
 refTs : List TV → List Nat → List Nat
 | [], l => l
 | c :: cs, l => refT c (refTs cs l)
def refH : Option HB → List Nat → List Nat
 | some (.cells _ cs), l => refT.refTs cs l
 | some (.map es), l => refEs es l
 | _, l => l
where
 refEs : List (TV × TV) → List Nat → List Nat
 | [], l => l
 | e :: es, l => refT e.1 (refT e.2 (refEs es l))
def memF (b : Nat) : List Nat → Bool
 | [] => false
 | a :: l => match Nat.beq a b with
  | true => true
  | false => memF b l
theorem memF_no : ∀ {l : List Nat} {b : Nat}, memF b l = false → b ∉ l
 | [], b, _ => by simp
 | a :: l, b, h => by
  simp only [memF] at h
  split at h
  ·cases h
  ·rename_i e
   rw [List.mem_cons]
   rintro (rfl | h2)
   ·rw [Nat.beq_refl] at e; cases e
   ·exact memF_no h h2
def reachF (h : List HB) (fl : Nat) : Nat → List Nat → List Nat → List Nat
 | 0, _, acc => acc
 | _ + 1, [], acc => acc
 | n + 1, b :: t, acc => match Nat.blt b fl || memF b acc with
  | true => reachF h fl n t acc
  | false => reachF h fl n (refH h[b]? t) (b :: acc)
theorem reachF_ok {h : List HB} {fl : Nat} : ∀ (n : Nat) (t acc : List Nat), acc.Nodup → (∀ b ∈ acc, fl ≤ b) → (reachF h fl n t acc).Nodup ∧ ∀ b ∈ reachF h fl n t acc, fl ≤ b
 | 0, _, _, h1, h2 => ⟨h1, h2⟩
 | _ + 1, [], _, h1, h2 => ⟨h1, h2⟩
 | n + 1, b :: t, acc, h1, h2 => by
  simp only [reachF]
  split
  ·exact reachF_ok n t acc h1 h2
  ·rename_i e
   simp only [Bool.or_eq_false_iff] at e
   have e1 : fl ≤ b := by
    rcases Nat.lt_or_ge b fl with h3 | h3
    ·rw [show Nat.blt b fl = true from Nat.ble_eq_true_of_le h3] at e; cases e.1
    ·exact h3
   exact reachF_ok n _ _ (List.nodup_cons.2 ⟨memF_no e.2, h1⟩) fun c hc => by
    rcases List.mem_cons.1 hc with rfl | hc
    ·exact e1
    ·exact h2 c hc
def gcR (h : List HB) : Option (TV × List HB × List Nat) → Option (TV × List HB × List Nat)
 | some (v, h', []) => match reachF h' h.length 5000 (refT v []) [] with
  | keep => match renT (renG h.length keep) v, pickG (renG h.length keep) h' keep with
   | some v', some [] => some (v', h, [])
   | some v', some bs => some (v', h ++ bs, [])
   | _, _ => some (v, h', [])
 | r => r
theorem gcR_ok {P : Program} {M : Mp} {h h2 : List HB} {w : World} {v2 : TV} {ws2 : List Nat} {r : Option (TV × List HB × List Nat)} (hV : Valid M allK (ctH h) w) (hl : ∀ k, M (.l k) = none) (hr : gcR h r = some (v2, h2, ws2)) : ∃ v h' ws, r = some (v, h', ws) ∧ ∀ y w', CallR M h w v h' ws y w' → CallR M h w v2 h2 ws2 y w' := by
 unfold gcR at hr
 split at hr
 ·rename_i v h'
  refine ⟨v, h', [], rfl, fun y w' hR => ?_⟩
  simp only at hr
  obtain ⟨k1, k2⟩ := reachF_ok (h := h') (fl := h.length) 5000 (refT v []) [] .nil (by simp)
  split at hr
  ·rename_i v' e1 e2
   cases hr
   have := hR.gc hV hl k1 k2 e1 e2
   rw [List.append_nil] at this
   exact this
  ·rename_i v' bs _ e1 e2
   cases hr
   exact hR.gc hV hl k1 k2 e1 e2
  ·cases hr; exact hR
 ·exact ⟨v2, h2, ws2, hr, fun _ _ h => h⟩
end Tw
namespace Tw
open Go
noncomputable section
def lookF (t : Nat) (env : List (Nat × EV)) : Option EV := List.rec (motive := fun _ => Option EV) none (fun p _ ih => Bool.rec (motive := fun _ => Option EV) ih (some p.2) (Nat.beq p.1 t)) env
theorem lookF_eq (t : Nat) : ∀ env, lookF t env = lookE t env
 | [] => rfl
 | (k, v) :: r => by
  show Bool.rec (motive := fun _ => Option EV) (lookF t r) (some v) (Nat.beq k t) = if k = t then some v else lookE t r
  rw [lookF_eq t r]
  by_cases h : k = t
  ·subst h; rw [if_pos rfl, show Nat.beq k k = true from Nat.beq_refl k]
  ·rw [if_neg h, show Nat.beq k t = false from by cases e : Nat.beq k t with | false => rfl | true => exact absurd (Nat.eq_of_beq_eq_true e) h]
def pickF (live : List Nat) (env : List (Nat × EV)) : List (Nat × EV) := List.rec (motive := fun _ => List (Nat × EV)) [] (fun t _ ih => Option.rec (motive := fun _ => List (Nat × EV)) ih (fun v => (t, v) :: ih) (lookF t env)) live
theorem pickF_eq (env : List (Nat × EV)) : ∀ live, pickF live env = pick live env
 | [] => rfl
 | t :: r => by
  show Option.rec (motive := fun _ => List (Nat × EV)) (pickF r env) (fun v => (t, v) :: pickF r env) (lookF t env) = _
  rw [lookF_eq, pickF_eq env r]
  rw [show pick (t :: r) env = match lookE t env with | some v => (t, v) :: pick r env | none => pick r env from rfl]
  cases lookE t env <;> rfl
def evF (env : List (Nat × EV)) (x : Operand) : Option EV := match x with
 | .tmp t => lookF t env
 | .const v => (TV.ofV v).map .val
 | .func f => some (.val (.fn f [] []))
 | .global _ => none
theorem evF_eq : evF = evO := by funext env x; cases x <;> first | exact lookF_eq _ _ | rfl
def tvF (env : List (Nat × EV)) (x : Operand) : Option TV :=
 match evF env x with
 | some (.val v) => some v
 | _ => none
theorem tvF_eq : tvF = tvO := by funext env x; unfold tvF tvO; rw [evF_eq]; rfl
def tvFs (env : List (Nat × EV)) : List Operand → Option (List TV)
 | [] => some []
 | x :: xs => match tvF env x, tvFs env xs with
  | some v, some vs => some (v :: vs)
  | _, _ => none
theorem tvFs_eq (env : List (Nat × EV)) : ∀ xs, tvFs env xs = tvOs env xs
 | [] => rfl
 | x :: xs => by unfold tvFs tvOs; rw [tvF_eq, tvFs_eq env xs]; rfl
def tvPF (env : List (Nat × EV)) : List (Nat × Operand) → Option (List (Nat × TV))
 | [] => some []
 | (i, x) :: xs => match tvF env x, tvPF env xs with
  | some v, some vs => some ((i, v) :: vs)
  | _, _ => none
theorem tvPF_eq (env : List (Nat × EV)) : ∀ xs, tvPF env xs = tvPs env xs
 | [] => rfl
 | (i, x) :: xs => by unfold tvPF tvPs; rw [tvF_eq, tvPF_eq env xs]; rfl
def wantF (ops : Array Oper) (env : List (Nat × EV)) (o : Oper) : Option Bool :=
 match o.guard with
 | none => some true
 | some (j, want) => match (ops[j]?).bind (·.dst) with
  | some d => match lookF d env with
   | some (.val (.bool b)) => some (b == want)
   | some .undef => some false
   | _ => none
  | none => none
theorem wantF_eq (ops : Array Oper) (env : List (Nat × EV)) (o : Oper) : wantF ops env o = wantT ops env o := by
 unfold wantF wantT
 simp only [lookF_eq]
 rfl
def atHeadF (live : List Nat) (s : St) : St :=
 let env := pickF live s.env
 { s with env := env, loc := s.loc.take (topL env) }
theorem atHeadF_eq : atHeadF = atHead := by
 funext live s
 simp only [atHeadF, atHead, pickF_eq]
def optF (env : List (Nat × EV)) : Option Operand → Option (Option TV)
 | none => some none
 | some x => match tvF env x with
  | some v => some (some v)
  | none => none
theorem optF_eq (env : List (Nat × EV)) (x : Option Operand) : optF env x = optT env x := by cases x <;> simp only [optF, optT, tvF_eq] <;> rfl
section
variable (P : Program) (call : CallT) (site : Nat → Bool) (s : St)
abbrev RO1 := Option (EV × St × Inf)
def fMove (x : Operand) : RO1 := (evF s.env x).map fun v => (v, s, noInf)
def fPick (c a b : Operand) : RO1 := match tvF s.env c with
  | some (.bool t) => (evF s.env (if t then a else b)).map fun v => (v, s, noInf)
  | _ => none
def fAlloc (d : Nat) (e : TypeId) : RO1 := (zeroT P e).map fun z => let (v, s) := newBox (site d) s z; (v, s, noInf)
def fBox (d : Nat) (x : Operand) : RO1 := match tvF s.env x with
  | some v => if v.cells.all oneT then let (v, s) := newBox (site d) s v.cells; some (v, s, noInf) else none
  | none => none
def fBuild (t : TypeId) (ps : Array (Nat × Operand)) : RO1 := match tvPF s.env ps.toList with
  | some ps => (buildT P t ps).map fun v => (.val v, s, noInf)
  | none => none
def fBuildSlice (t : TypeId) (len : Nat) (ps : Array (Nat × Operand)) : RO1 := match tvPF s.env ps.toList with
  | some ps => (buildSliceT P t len s ps).map fun (v, s) => (.val v, s, noInf)
  | none => none
def fLoad (t : TypeId) (a : Operand) : RO1 := match evF s.env a with
  | some a => (loadT P t s a).map fun (v, i) => (.val v, s, i)
  | none => none
def fStore (t : TypeId) (a x : Operand) : RO1 := match evF s.env a, tvF s.env x with
  | some a, some v => (storeT P t s a v).map fun (s, i) => (.undef, s, i)
  | _, _ => none
def fNil (x : Operand) : RO1 := match evF s.env x with
  | some (.loc k o) => some (.loc k o, s, noInf)
  | some (.val (.ptr b o lim)) => some (.val (.ptr b o lim), s, noInf)
  | some (.val (.fn f a b)) => some (.val (.fn f a b), s, noInf)
  | some (.val (.yld l)) => some (.val (.yld l), s, noInf)
  | _ => none
def fBin (op : BinOp) (t : TypeId) (x y : Operand) : RO1 := match tvF s.env x, tvF s.env y with
  | some a, some b => (binT P op t x y a b).map fun v => (.val v, s, noInf)
  | _, _ => none
def fUn (op : UnOp) (x : Operand) : RO1 := match tvF s.env x with
  | some a => (unT P op a).map fun v => (.val v, s, noInf)
  | none => none
def fConv (src dst : TypeId) (x : Operand) : RO1 := match tvF s.env x with
  | some a => (convT P src dst a).map fun v => (.val v, s, noInf)
  | none => none
def fMakeFunc (f : FuncId) (first cap : Array Operand) : RO1 := match tvFs s.env first.toList, tvFs s.env cap.toList with
  | some a, some b => some (.val (.fn f a b), s, noInf)
  | _, _ => none
def fMakeMap (t : TypeId) (r : Option Operand) : RO1 := match optF s.env r, P.underlying t with
  | some none, _ => some (.val (.map s.heap.length), { s with heap := s.heap ++ [.map []] }, noInf)
  | some (some (.int _ _)), some (.map _ _) => some (.val (.map s.heap.length), { s with heap := s.heap ++ [.map []] }, noInf)
  | _, _ => none
def fMakeSlice (t : TypeId) (l c : Operand) : RO1 := match tvF s.env l, tvF s.env c with
  | some l, some c => (makeSliceT P t s l c).map fun (v, s) => (.val v, s, noInf)
  | _, _ => none
def fSlice (t : TypeId) (x : Operand) (lo hi mx : Option Operand) : RO1 := match evF s.env x, optF s.env lo, optF s.env hi, optF s.env mx with
  | some x, some lo, some hi, some mx => match P.underlying t, x with
   | some (.array _ _), x => (sliceArrT P t x lo hi mx).map fun v => (.val v, s, noInf)
   | _, .val x => (sliceT P t x lo hi mx).map fun v => (.val v, s, noInf)
   | _, _ => none
  | _, _, _, _ => none
def fFieldAddr (t : TypeId) (x : Operand) (f : Nat) : RO1 := match evF s.env x, fieldOff P t f with
  | some a, some n => (offT n a).map fun v => (v, s, noInf)
  | _, _ => none
def fField (t : TypeId) (x : Operand) (f : Nat) : RO1 := match tvF s.env x with
  | some a => (fieldT P t a f).map fun v => (.val v, s, noInf)
  | none => none
def fIndexAddr (t : TypeId) (x i : Operand) : RO1 := match evF s.env x, tvF s.env i with
  | some a, some i => (indexAddrT P t a i).map fun v => (v, s, noInf)
  | _, _ => none
def fIndex (t : TypeId) (x i : Operand) : RO1 := match tvF s.env x, tvF s.env i with
  | some a, some i => (indexT P t a i).map fun v => (.val v, s, noInf)
  | _, _ => none
def fLookup (t : TypeId) (m k : Operand) (ok : Bool) : RO1 := match tvF s.env m, tvF s.env k with
  | some m, some k => (lookupT P t s.heap m k ok).map fun v => (.val v, s, rdKs (match m with | .map r => [.h r] | _ => []))
  | _, _ => none
def fUpd (t : TypeId) (m k x : Operand) : RO1 := match tvF s.env m, tvF s.env k, tvF s.env x with
  | some m, some k, some v => (updateT P t s m k v).map fun (s, i) => (.undef, s, i)
  | _, _, _ => none
def fExtract (t : Operand) (i : Nat) : RO1 := match tvF s.env t with
  | some (.tup vs) => (vs[i]?).map fun v => (.val v, s, noInf)
  | _ => none
def fCall (c : Call) (t : TypeId) : RO1 :=
 match c.callee, tvFs s.env c.args.toList with
 | .builtin b, some az => (builtinT P b c.argTypes t s az).map fun (v, s, i) => (.val v, s, i)
 | .value f, some az => match tvF s.env f with
  | some fv => match call fv az s.heap with
   | some (v, h, ws) => some (.val v, { s with heap := h }, ⟨true, [], ws.map .h⟩)
   | none => none
  | none => none
 | _, _ => none
def opF (o : Oper) : RO1 :=
 match o.op with
 | .move x | .assign x => fMove s x
 | .pick c a b => fPick s c a b
 | .alloc e => fAlloc P site s (o.dst.getD 0) e
 | .box _ x => fBox site s (o.dst.getD 0) x
 | .build t ps => fBuild P s t ps
 | .buildSlice t len ps => fBuildSlice P s t len ps
 | .load t a => fLoad P s t a
 | .store t a x => fStore P s t a x
 | .nilCheck x => fNil s x
 | .binOp op t x y _ => fBin P s op t x y
 | .unOp op _ x => fUn P s op x
 | .convert src dst x => fConv P s src dst x
 | .makeFunc (.func f) first cap => fMakeFunc s f first cap
 | .makeMap t r => fMakeMap P s t r
 | .makeSlice t l c => fMakeSlice P s t l c
 | .slice t x lo hi mx => fSlice P s t x lo hi mx
 | .fieldAddr t x f => fFieldAddr P s t x f
 | .field t x f => fField P s t x f
 | .indexAddr t x i => fIndexAddr P s t x i
 | .index t x i => fIndex P s t x i
 | .lookup t m k ok => fLookup P s t m k ok
 | .mapUpdate t m k x | .insert t m k x => fUpd P s t m k x
 | .extract t i => fExtract s t i
 | .call c => fCall P call s c o.type
 | _ => none
theorem opF_eq (o : Oper) : opF P call site s o = opT P call site s o := by
 unfold opF opT
 cases o.op <;> simp only [fMove, fPick, fAlloc, fBox, fBuild, fBuildSlice, fLoad, fStore, fNil, fBin, fUn, fConv, fMakeMap, fMakeSlice, fSlice, fFieldAddr, fField, fIndexAddr, fIndex, fLookup, fUpd, fExtract, fCall, callT, evF_eq, tvF_eq, tvFs_eq, tvPF_eq, optF_eq] <;> try rfl
 case makeFunc f first cap => cases f <;> simp only [fMakeFunc, tvFs_eq] <;> rfl
def tbF (A k : Nat) : Bool := Nat.beq (Nat.mod (Nat.shiftRight A k) 2) 1
theorem tbF_eq (A k : Nat) : tbF A k = A.testBit k := by
 unfold tbF
 rw [Nat.testBit_eq_decide_div_mod_eq, show Nat.mod (Nat.shiftRight A k) 2 = A / 2 ^ k % 2 from by show (A >>> k) % 2 = _; rw [Nat.shiftRight_eq_div_pow]]
 rw [Bool.eq_iff_iff]
 simp [Nat.beq_eq]
def mskE (W A on l : Nat) : Nat := Nat.lor l (Nat.lor (Nat.shiftLeft 1 on) (Nat.mod (Nat.shiftRight A (on * W)) (2 ^ W)))
def mskL (W A : Nat) : List Edge → Nat → Nat
 | [], l => l
 | e :: es, l => match Region.binds .any e with
  | true => mskL W A es (mskE W A e.on l)
  | false => mskL W A es l
def mskS (W : Nat) : List Oper → Nat → Nat → Nat
 | [], _, A => A
 | o :: os, j, A => mskS W os (j + 1) (Nat.lor A (Nat.shiftLeft (Nat.mod (mskL W A o.after.toList 0) (2 ^ W)) (j * W)))
theorem addNew_mem {x : Nat} : ∀ {xs l : List Nat}, (addNew xs l).contains x = (xs.contains x || l.contains x)
 | [], l => by simp [addNew]
 | y :: xs, l => by
  simp only [addNew]
  rw [addNew_mem]
  split
  ·rename_i h
   by_cases e : x = y
   ·subst e; rw [h]; simp
   ·simp [e]
  ·by_cases e : x = y
   ·subst e; simp
   ·simp [e]
def Acc (W A : Nat) (acc : List (List Nat)) : Prop := ∀ j i, i < W → A.testBit (j * W + i) = (acc.getD j []).contains i
theorem mskL_ok {W A : Nat} {acc : List (List Nat)} (h : Acc W A acc) : ∀ (es : List Edge) (l : Nat) (ps : List Nat), (∀ i, i < W → l.testBit i = ps.contains i) → ∀ i, i < W → (mskL W A es l).testBit i = (es.foldl (fun l e => if Region.binds .any e then addNew (e.on :: acc.getD e.on []) l else l) ps).contains i
 | [], l, ps, hl, i, hi => hl i hi
 | e :: es, l, ps, hl, i, hi => by
  simp only [mskL, List.foldl_cons]
  split
  ·rename_i hb
   rw [if_pos hb]
   refine mskL_ok h es _ _ (fun k hk => ?_) i hi
   rw [addNew_mem, ← hl k hk, List.contains_cons, ← h e.on k hk]
   show (l ||| (1 <<< e.on ||| (A >>> (e.on * W)) % 2 ^ W)).testBit k = _
   rw [Nat.testBit_or, Nat.testBit_or, Nat.testBit_shiftLeft, Nat.testBit_mod_two_pow, Nat.testBit_shiftRight, Bool.or_comm]
   simp only [hk, decide_true, Bool.true_and]
   congr 2
   by_cases e1 : k = e.on
   ·subst e1; simp
   ·rw [show (k == e.on) = false from by simpa using e1]
    by_cases h2 : k ≥ e.on
    ·obtain ⟨d, hd⟩ : ∃ d, k - e.on = d + 1 := ⟨k - e.on - 1, by omega⟩
     rw [hd, Nat.testBit_succ]
     simp
    ·simp [h2]
  ·rename_i hb
   rw [if_neg (by rw [hb]; simp)]
   exact mskL_ok h es _ _ hl i hi
theorem mskS_ok {W : Nat} : ∀ (os : List Oper) (j A : Nat) (acc : List (List Nat)), acc.length = j → Acc W A acc → Acc W (mskS W os j A) (preds os acc)
 | [], _, _, _, _, h => h
 | o :: os, j, A, acc, hj, h => by
  simp only [mskS, preds]
  refine mskS_ok os (j + 1) _ _ (by simp [hj]) fun j' i hi => ?_
  have hm := mskL_ok h o.after.toList 0 [] (fun i _ => by simp)
  show (A ||| ((mskL W A o.after.toList 0 % 2 ^ W) <<< (j * W))).testBit (j' * W + i) = _
  rw [Nat.testBit_or, h j' i hi, Nat.testBit_shiftLeft, Nat.testBit_mod_two_pow]
  rcases Nat.lt_trichotomy j' j with h1 | h1 | h1
  ·have : (j' + 1) * W ≤ j * W := Nat.mul_le_mul_right W h1
   rw [Nat.add_mul] at this
   rw [show decide (j' * W + i ≥ j * W) = false from by simp; omega]
   simp only [Bool.false_and, Bool.or_false]
   rw [List.getD, List.getD, List.getElem?_append_left (by omega)]
  ·subst h1
   rw [show j' * W + i - j' * W = i by omega, hm i hi]
   have e1 : acc.getD j' [] = [] := by rw [List.getD, List.getElem?_eq_none (by omega)]; rfl
   have e2 : (acc ++ [predOf acc o]).getD j' [] = predOf acc o := by rw [List.getD, ← hj, List.getElem?_concat_length]; rfl
   rw [e1, e2]
   simp [hi, predOf]
  ·have : (j + 1) * W ≤ j' * W := Nat.mul_le_mul_right W h1
   rw [Nat.add_mul] at this
   rw [show decide (j' * W + i - j * W < W) = false from by simp; omega]
   have e1 : acc.getD j' [] = [] := by rw [List.getD, List.getElem?_eq_none (by omega)]; rfl
   have e2 : (acc ++ [predOf acc o]).getD j' [] = [] := by rw [List.getD, List.getElem?_eq_none (by simp; omega)]; rfl
   rw [e1, e2]
   simp
def openF (ops : List Oper) : List (Nat × Nat) := match ops.length with
 | W => match mskS W ops 0 0 with
  | A => (List.range W).flatMap fun j => ((List.range j).filter fun i => !(tbF A (j * W + i))).map fun i => (i, j)
theorem openF_eq (ops : List Oper) : openF ops = openPairs ops := by
 have h := mskS_ok (W := ops.length) ops 0 0 [] rfl (fun j i _ => by simp)
 unfold openF openPairs
 simp only
 generalize mskS ops.length ops 0 0 = A at h
 have : ∀ j, j ∈ List.range ops.length → (((List.range j).filter fun i => !(tbF A (j * ops.length + i))).map fun i => (i, j)) = ((List.range j).filter fun i => !((preds ops []).getD j []).contains i).map fun i => (i, j) := fun j hj => by
  rw [List.mem_range] at hj
  congr 1
  refine List.filter_congr fun i hi => ?_
  rw [List.mem_range] at hi
  rw [tbF_eq, h j i (by omega)]
 rw [List.flatMap_def, List.flatMap_def, List.map_congr_left this]
def staticF (ops : List Oper) : Bool :=
 (ops.zipIdx.all fun (o, i) => o.after.all fun e => !Region.binds .any e || decide (e.on < i)) &&
 (openF ops).all fun (i, j) => match ops[i]?, ops[j]? with
  | some a, some b => a.apart ops.toArray b && b.apart ops.toArray a
  | _, _ => false
def hotF (ops : List Oper) : List (Nat × Nat) :=
 (openF ops).filter fun (i, j) => match ops[i]?, ops[j]? with
  | some a, some b => (mayW a.op && mayT b.op) || (mayT a.op && mayW b.op)
  | _, _ => false
theorem staticF_eq (ops : List Oper) : staticF ops = staticOk ops := by unfold staticF staticOk; rw [openF_eq]; rfl
theorem hotF_eq (ops : List Oper) : hotF ops = hotPairs ops := by unfold hotF hotPairs; rw [openF_eq]; rfl
abbrev Rx := Option (Ex × St)
def putF (dst : Option Nat) (v : EV) (env : List (Nat × EV)) (loc : List (List TV)) (heap : List HB) (ws : List Nat) : St := Option.rec (motive := fun _ => St) ⟨env, loc, heap, ws⟩ (fun d => ⟨(d, v) :: env, loc, heap, ws⟩) dst
abbrev KR := St → List Inf → Rx
abbrev IR := St → KR → Rx
def kCons (k : KR) (i : Inf) : KR := fun s is => k s (i :: is)
def rPut (fl : Nat) (ih : IR) (o : Oper) (s : St) (k : KR) (v : EV) (i : Inf) (s1 : St) : Rx := St.rec (motive := fun _ => Rx) (fun e l h _ => ih (putF o.dst v e l h (addKs fl i.ws s.ws)) (kCons k i)) s1
def rDo (P : Program) (call : CallT) (site : Nat → Bool) (fl : Nat) (ih : IR) (o : Oper) (s : St) (k : KR) : Rx := Option.rec (motive := fun _ => Rx) none (fun r => Prod.rec (motive := fun _ => Rx) (fun v p => Prod.rec (motive := fun _ => Rx) (fun s1 i => rPut fl ih o s k v i s1) p) r) (opF P call site s o)
def rNo (ih : IR) (o : Oper) (s : St) (k : KR) : Rx := ih (putF o.dst .undef s.env s.loc s.heap s.ws) (kCons k noInf)
def rGo (P : Program) (call : CallT) (site : Nat → Bool) (fl : Nat) (ops : Array Oper) (ih : IR) (o : Oper) (s : St) (k : KR) : Rx := Option.rec (motive := fun _ => Rx) none (fun b => Bool.rec (motive := fun _ => Rx) (rNo ih o s k) (rDo P call site fl ih o s k) b) (wantF ops s.env o)
def dstF (nt : Nat) (o : Oper) : Bool := Option.rec (motive := fun _ => Bool) true (fun d => Nat.ble (d + 1) nt) o.dst
theorem dstF_eq (nt : Nat) (o : Oper) : dstF nt o = dstOk nt o := by
 unfold dstF dstOk
 cases o.dst with
 | none => rfl
 | some d =>
  show Nat.ble (d + 1) nt = decide (d < nt)
  rw [Bool.eq_iff_iff]
  simp [Nat.lt_iff_add_one_le]
def rOne (P : Program) (call : CallT) (site : Nat → Bool) (fl nt : Nat) (ops : Array Oper) (o : Oper) (ih : IR) (s : St) (k : KR) : Rx := Bool.rec (motive := fun _ => Rx) none (rGo P call site fl ops ih o s k) (dstF nt o)
def rK (P : Program) (call : CallT) (site : Nat → Bool) (fl nt : Nat) (ops : Array Oper) (os : List Oper) : IR := List.rec (motive := fun _ => IR) (fun s k => k s []) (fun o _ ih => rOne P call site fl nt ops o ih) os
def andR (r : Option (St × List Inf)) (k : KR) : Rx := match r with
 | some (s, is) => k s is
 | none => none
theorem rK_eq (P : Program) (call : CallT) (site : Nat → Bool) (fl nt : Nat) (ops : Array Oper) : ∀ os s k, rK P call site fl nt ops os s k = andR (runOps P call site fl nt ops os s) k
 | [], _, _ => rfl
 | o :: os, s, k => by
  have ih := rK_eq P call site fl nt ops os
  show Bool.rec (motive := fun _ => Rx) none (Option.rec (motive := fun _ => Rx) none (fun b => Bool.rec (motive := fun _ => Rx) (rK P call site fl nt ops os (putF o.dst .undef s.env s.loc s.heap s.ws) (kCons k noInf)) (Option.rec (motive := fun _ => Rx) none (fun r => Prod.rec (motive := fun _ => Rx) (fun v p => Prod.rec (motive := fun _ => Rx) (fun s1 i => St.rec (motive := fun _ => Rx) (fun e l h _ => rK P call site fl nt ops os (putF o.dst v e l h (addKs fl i.ws s.ws)) (kCons k i)) s1) p) r) (opF P call site s o)) b) (wantF ops s.env o)) (dstF nt o) = _
  rw [dstF_eq, wantF_eq, opF_eq]
  unfold runOps
  cases dstOk nt o with
  | false => rfl
  | true =>
   cases wantT ops s.env o with
   | none => rfl
   | some b =>
    cases b with
    | false =>
     show rK _ _ _ _ _ _ _ _ _ = andR (match runOps P call site fl nt ops os (s.put o.dst .undef) with | some (s, is) => some (s, noInf :: is) | none => none) k
     rw [ih, show putF o.dst .undef s.env s.loc s.heap s.ws = s.put o.dst .undef by unfold putF St.put; cases o.dst <;> rfl]
     cases runOps P call site fl nt ops os (s.put o.dst .undef) <;> rfl
    | true =>
     cases opT P call site s o with
     | none => rfl
     | some r =>
      obtain ⟨v, s1, i⟩ := r
      show rK _ _ _ _ _ _ _ _ _ = andR (match runOps P call site fl nt ops os ({ s1 with ws := addKs fl i.ws s.ws }.put o.dst v) with | some (s, is) => some (s, i :: is) | none => none) k
      rw [ih, show putF o.dst v s1.env s1.loc s1.heap (addKs fl i.ws s.ws) = { s1 with ws := addKs fl i.ws s.ws }.put o.dst v by unfold putF St.put; cases o.dst <;> rfl]
      cases runOps P call site fl nt ops os ({ s1 with ws := addKs fl i.ws s.ws }.put o.dst v) <;> rfl
abbrev KX := Ex → St → Rx
abbrev IX := St → KX → Rx
def andX (r : Rx) (k : KX) : Rx := match r with
 | some (e, s) => k e s
 | none => none
def xSeq (ib : IX) (k : KX) : KX := fun e s => Ex.rec (motive := fun _ => Rx) (ib s k) (fun i => k (.exit i) s) (k .ret s) e
def xBlk (id : Nat) (k : KX) : KX := fun e s => Ex.rec (motive := fun _ => Rx) (k .norm s) (fun i => Bool.rec (motive := fun _ => Rx) (k (.exit i) s) (k .norm s) (Nat.beq i id)) (k .ret s) e
def xReg (T : Tab) (f id : Nat) (ops : Array Oper) (draw : Bool) (k : KX) : KR := fun s is => Bool.rec (motive := fun _ => Rx) none (k .norm ⟨pickF (T.liveAt f id) s.env, s.loc, s.heap, s.ws⟩) (!draw || (staticF ops.toList && dynOk is (hotF ops.toList)))
def xRegion (P : Program) (T : Tab) (call : CallT) (f : Nat) (rnd : Bool) (fl nt id : Nat) (ops : Array Oper) (draw : Bool) : IX := fun s k => rK P call (fun d => rnd || T.siteAt f d) fl nt ops ops.toList s (xReg T f id ops draw k)
def xCond (c : Operand) (ia ib : IX) : IX := fun s k => match tvF s.env c with
 | some (.bool b) => Bool.rec (motive := fun _ => Rx) (ib s k) (ia s k) b
 | _ => none
def xNext (ih : IX) (k : KX) : KX := fun e s => Ex.rec (motive := fun _ => Rx) (ih s k) (fun i => k (.exit i) s) (k .ret s) e
def xLoop (T : Tab) (L f : Nat) (b : Code) (ib : IX) : IX := Nat.rec (motive := fun _ => IX) (fun _ _ => none) (fun _ ih s k => ib (atHeadF (T.headAt f (headId b)) s) (xNext ih k)) L
def xRange (call : CallT) (f : Nat) (rnd : Bool) (fl nt : Nat) (g : Operand) (ps : Array Nat) (assign body : Code) : IX := fun s k => andX (match tvF s.env g with
  | some (.fn f1 a1 b1) =>
   if s.env.all isVal && !rnd then
    match call (.fn f1 a1 b1) [.yld (s.heap.length + 1)] (s.heap ++ [.mark, .loop true f nt s.env ps.toList assign body none]) with
    | some (_, h, ws) => match h[s.heap.length + 1]? with
     | some (.loop rd f2 nt2 e2 ps2 a2 b2 pend) => match jumpT rd pend with
      | some e => some (e, { s with heap := h.set (s.heap.length + 1) (.loop false f2 nt2 e2 ps2 a2 b2 (some .skip)), ws := addKs fl (ws.map .h) s.ws })
      | none => none
     | _ => none
    | none => none
   else none
  | _ => none) k
def xNone : IX := fun _ _ => none
def execK (P : Program) (T : Tab) (call : CallT) (L : Nat) (f : Nat) (rnd : Bool) (fl nt : Nat) : Code → IX
 | .skip => fun s k => k .norm s
 | .label _ => fun s k => k .norm s
 | .region id ops draw => xRegion P T call f rnd fl nt id ops draw
 | .seq a b => fun s k => execK P T call L f rnd fl nt a s (xSeq (execK P T call L f rnd fl nt b) k)
 | .cond c a b => xCond c (execK P T call L f rnd fl nt a) (execK P T call L f rnd fl nt b)
 | .block id b => fun s k => execK P T call L f rnd fl nt b s (xBlk id k)
 | .scope b => execK P T call L f rnd fl nt b
 | .loop b => xLoop T L f b (execK P T call L f rnd fl nt b)
 | .exit id => fun s k => k (.exit id) s
 | .ret => fun s k => k .ret s
 | .rangeFunc g ps assign body => xRange call f rnd fl nt g ps assign body
 | _ => xNone
theorem execK_eq (P : Program) (T : Tab) (call : CallT) (L : Nat) (f : Nat) (rnd : Bool) (fl nt : Nat) : ∀ c s k, execK P T call L f rnd fl nt c s k = andX (exec P T call L f rnd fl nt c s) k := by
 intro c
 induction c with
 | seq a b ia ib =>
  intro s k
  simp only [execK, exec, ia]
  cases exec P T call L f rnd fl nt a s with
  | none => rfl
  | some r =>
   obtain ⟨e, s1⟩ := r
   cases e with
   | norm => exact ib s1 k
   | exit i => rfl
   | ret => rfl
 | cond x a b ia ib =>
  intro s k
  simp only [execK, exec, xCond, tvF_eq]
  cases tvO s.env x with
  | none => rfl
  | some v =>
   cases v with
   | bool t =>
    cases t with
    | false => exact ib s k
    | true => exact ia s k
   | _ => rfl
 | block id b ib =>
  intro s k
  simp only [execK, exec, ib]
  cases exec P T call L f rnd fl nt b s with
  | none => rfl
  | some r =>
   obtain ⟨e, s1⟩ := r
   cases e with
   | norm => rfl
   | exit i =>
    show Bool.rec (motive := fun _ => Rx) (k (.exit i) s1) (k .norm s1) (Nat.beq i id) = k (if i = id then .norm else .exit i) s1
    by_cases h : i = id
    ·subst h; rw [if_pos rfl, show Nat.beq i i = true from Nat.beq_refl i]
    ·rw [if_neg h, show Nat.beq i id = false from by cases e : Nat.beq i id with | false => rfl | true => exact absurd (Nat.eq_of_beq_eq_true e) h]
   | ret => rfl
 | scope b ib => intro s k; simp only [execK, exec, ib]
 | loop b ib =>
  intro s k
  simp only [execK, exec]
  have key : ∀ n s, xLoop T n f b (execK P T call L f rnd fl nt b) s k = andX (iter (fun s => exec P T call L f rnd fl nt b (atHead (T.headAt f (headId b)) s)) n s) k := by
   intro n
   induction n with
   | zero => intro s; rfl
   | succ n ih =>
    intro s
    show execK P T call L f rnd fl nt b (atHeadF (T.headAt f (headId b)) s) (xNext (xLoop T n f b (execK P T call L f rnd fl nt b)) k) = _
    rw [ib, atHeadF_eq]
    simp only [iter]
    cases exec P T call L f rnd fl nt b (atHead (T.headAt f (headId b)) s) with
    | none => rfl
    | some r =>
     obtain ⟨e, s1⟩ := r
     cases e with
     | norm => exact ih s1
     | exit i => rfl
     | ret => rfl
  exact key L s
 | region id ops draw =>
  intro s k
  simp only [execK, exec, xRegion, rK_eq]
  cases runOps P call (fun d => rnd || T.siteAt f d) fl nt ops ops.toList s with
  | none => rfl
  | some r =>
   obtain ⟨s1, is⟩ := r
   show Bool.rec (motive := fun _ => Rx) none (k .norm ⟨pickF (T.liveAt f id) s1.env, s1.loc, s1.heap, s1.ws⟩) (!draw || (staticF ops.toList && dynOk is (hotF ops.toList))) = andX (if (!draw || (staticOk ops.toList && dynOk is (hotPairs ops.toList))) = true then some (.norm, { s1 with env := pick (T.liveAt f id) s1.env }) else none) k
   rw [pickF_eq, staticF_eq, hotF_eq]
   cases (!draw || (staticOk ops.toList && dynOk is (hotPairs ops.toList))) <;> rfl
 | rangeFunc g ps a b _ _ => intro s k; simp only [execK, exec, xRange, tvF_eq] <;> rfl
 | _ => intro s k; rfl
def execF (P : Program) (T : Tab) (call : CallT) (L : Nat) (f : Nat) (rnd : Bool) (fl nt : Nat) (c : Code) (s : St) : Rx := execK P T call L f rnd fl nt c s fun e s => some (e, s)
theorem execF_eq (P : Program) (T : Tab) (call : CallT) (L : Nat) (f : Nat) (rnd : Bool) (fl nt : Nat) (c : Code) (s : St) : execF P T call L f rnd fl nt c s = exec P T call L f rnd fl nt c s := by
 unfold execF
 rw [execK_eq]
 cases exec P T call L f rnd fl nt c s <;> rfl
def funF (P : Program) (T : Tab) (call : CallT) (L : Nat) (f : Nat) (args : List TV) (h : List HB) : Option (TV × List HB × List Nat) :=
 match fnT P f with
 | some t => match execF P T call L f false h.length t.nt t.body ⟨argEnv 0 args, [], h, []⟩ with
  | some (.norm, s) | some (.ret, s) => match resTs P s t.results with
   | some vs => if s.ws.isEmpty && (one vs).flat then some (one vs, h, []) else some (one vs, s.heap, s.ws)
   | none => none
  | _ => none
 | none => none
theorem funF_eq : funF = funT := by
 funext P T call L f args h
 simp only [funF, funT, execF_eq]
 rfl
def roundF (P : Program) (T : Tab) (call : CallT) (L : Nat) (l : Nat) (args : List TV) (h : List HB) : Option (TV × List HB × List Nat) :=
 match h[l]? with
 | some (.loop true f nt env ps assign body _) =>
  if args.length = ps.length ∧ ps.all (fun p => decide (p < nt)) then
   match execF P T call L f true h.length nt assign ⟨putAll env ps args, [], h, []⟩ with
   | some (.norm, s) => match s.heap[l]? with
    | some (.loop true f' nt' env' ps' a' b' _) =>
     match execF P T call L f true h.length nt body { s with heap := s.heap.set l (.loop false f' nt' env' ps' a' b' none), ws := addW h.length l s.ws } with
     | some (e, s) => match s.heap[l]? with
      | some (.loop false f' nt' env' ps' a' b' none) => some (.bool (isNorm e), s.heap.set l (.loop (isNorm e) f' nt' env' ps' a' b' (jumpOf e)), addW h.length l s.ws)
      | _ => none
     | none => none
    | _ => none
   | _ => none
  else none
 | _ => none
theorem roundF_eq : roundF = roundT := by
 funext P T call L l args h
 simp only [roundF, roundT, execF_eq]
 rfl
def apF (P : Program) (T : Tab) (L : Nat) : Nat → CallT
 | 0, _, _, _ => none
 | n + 1, .fn f first cap, args, h => if T.exts.contains f = true then T.ext (.fn f first cap) args h else gcR h (funF P T (apF P T L n) L f (first ++ args ++ cap) h)
 | n + 1, .yld l, args, h => roundF P T (apF P T L n) L l args h
 | _, _, _, _ => none
theorem ap_okF {P : Program} {T : Tab} {L : Nat} (hm : P.follows .mixedOrders = true) (hE : CallOk P T.ext) : ∀ n, CallOk P (apF P T L n)
 | 0 => by
  intro fv args h v h' ws hc
  simp [apF] at hc
 | n + 1 => by
  intro fv args h v h' ws hc M w x xs hV hl hx hxs
  have ih := ap_okF (L := L) hm hE n
  cases fv with
  | fn f first cap =>
   simp only [apF, funF_eq] at hc
   split at hc
   ·exact hE _ _ _ _ _ _ hc M w x xs hV hl hx hxs
   cases hx with
   | fn h1 h2 h3 h4 =>
    rename_i ys zs
    have hargs : VRs M.h (first ++ args ++ cap) (ys ++ xs ++ zs) := (VRs.append ⟨h1, h2⟩ hxs).append ⟨h3, h4⟩
    obtain ⟨v0, h0, ws0, hc, hgc⟩ := gcR_ok (P := P) hV hl hc
    obtain ⟨fn, c, e1, e2, e3, e4⟩ := fun_ok hm ih hc ⟨hV, hl⟩ hargs
    refine ⟨{ target := .fn (.func f) zs.toArray, args := ys.toArray ++ xs.toArray }, fun w => by simp [Deferred.ofValue], .inl ⟨⟨f, (ys ++ xs ++ zs).toArray, ?_, fun n => (e4 n).mono fun e w' hR => by cases e with | returned v => exact hgc _ _ hR | panicked c => exact hR.elim | outgrown => exact hR.elim⟩, f, first, cap, rfl⟩⟩
    have e2' : ¬ fn.name = "runtime.NumGoroutine" := by simpa using e2
    simp [invoke, callFunc, program, Sem.run, e1, e2', e3]
  | yld l =>
   simp only [apF, roundF_eq] at hc
   cases hx with
   | yld hm' =>
    rename_i l'
    refine ⟨{ target := .fn (.yield l') #[], args := xs.toArray }, fun w => by simp [Deferred.ofValue], .inr ⟨round_ok hm ih hc ⟨hV, hl⟩ hm' hxs, l, rfl⟩⟩
  | _ => simp [apF] at hc
def runH (P : Program) (T : Tab) (call : CallT) (L : Nat) (f nt : Nat) : Nat → Code → St → Option St
 | 0, _, s => some s
 | m + 1, .seq a b, s => match execF P T call L f false 0 nt a s with
  | some (.norm, s) => runH P T call L f nt m b s
  | _ => none
 | _, _, _ => none
def tlN : Nat → Code → Code
 | 0, c => c
 | m + 1, .seq _ b => tlN m b
 | _, c => c
theorem runH_ok {P : Program} {T : Tab} {call : CallT} {L f nt : Nat} {r : Option (Ex × St)} : ∀ {m : Nat} {c : Code} {s s1 : St}, runH P T call L f nt m c s = some s1 → execF P T call L f false 0 nt (tlN m c) s1 = r → execF P T call L f false 0 nt c s = r
 | 0, c, s, s1, h, h2 => by cases h; exact h2
 | m + 1, .seq a b, s, s1, h, h2 => by
  simp only [runH] at h
  split at h
  ·rename_i s2 e
   rw [execF_eq] at e h2 ⊢
   simp only [exec, e]
   rw [← execF_eq] at h2 ⊢
   exact runH_ok h h2
  ·cases h
 | _ + 1, .skip, _, _, h, _ | _ + 1, .region _ _ _, _, _, h, _ | _ + 1, .cond _ _ _, _, _, h, _ | _ + 1, .block _ _, _, _, h, _ | _ + 1, .loop _, _, _, h, _ | _ + 1, .exit _, _, _, h, _ | _ + 1, .ret, _, _, h, _ | _ + 1, .scope _, _, _, h, _ | _ + 1, .label _, _, _, h, _ | _ + 1, .rangeFunc _ _ _ _, _, _, h, _ => by simp [runH] at h
def bdF (P : Program) (f : Nat) : Code := match fnT P f with
 | some t => t.body
 | none => .skip
def ntF (P : Program) (f : Nat) : Nat := match fnT P f with
 | some t => t.nt
 | none => 0
def endT (P : Program) (f : Nat) : Option (Ex × St) → Bool
 | some (.ret, s) => match fnT P f with
  | some t => match resTs P s t.results, s.ws with
   | some [.bool true], [] => true
   | _, _ => false
  | none => false
 | _ => false
theorem endT_ok {P : Program} {T : Tab} {call : CallT} {L f : Nat} {r : Option (Ex × St)} (h : execF P T call L f false 0 (ntF P f) (bdF P f) ⟨[], [], [], []⟩ = r) (h2 : endT P f r = true) : isT (funF P T call L f [] []) = true := by
 unfold endT at h2
 split at h2
 ·rename_i s
  split at h2
  ·rename_i t ht
   split at h2
   ·rename_i hr hw
    unfold ntF bdF at h
    rw [ht] at h
    have h : execF P T call L f false ([] : List HB).length t.nt t.body ⟨argEnv 0 [], [], [], []⟩ = some (.ret, s) := h
    unfold funF
    simp only [ht, h, hr, hw]
    rfl
   ·cases h2
  ·cases h2
 ·cases h2
theorem closT_ok {P : Program} {T : Tab} {L n f : Nat} (hm : P.follows .mixedOrders = true) (hE : CallOk P T.ext) (hr : isT (funF P T (apF P T L n) L f [] []) = true) : CallOk P (closT f true) := by
 obtain ⟨h0, hr⟩ : ∃ h0, funF P T (apF P T L n) L f [] [] = some (.bool true, h0, []) := by
  unfold isT at hr
  split at hr
  ·exact ⟨_, ‹_›⟩
  ·cases hr
 intro fv args h v h' ws hc M w x xs hV hl hx hxs
 unfold closT at hc
 split at hc
 ·rename_i g
  split at hc
  ·rename_i hg
   subst hg
   cases hc
   cases hx with
   | fn h1 h2 h3 h4 =>
    rename_i ys zs
    have hy : ys = [] := List.eq_nil_of_length_eq_zero h1.symm
    have hz : zs = [] := List.eq_nil_of_length_eq_zero h3.symm
    have hxx : xs = [] := List.eq_nil_of_length_eq_zero hxs.len.symm
    subst hy hz hxx
    have h0 : Base (fun _ => none) [] w := ⟨⟨by simp, by simp, by simp⟩, by simp⟩
    obtain ⟨fn, c, e1, e2, e3, e4⟩ := fun_ok hm (ap_okF (L := L) hm hE n) (funF_eq ▸ hr) h0 (xs := []) .nil
    refine ⟨{ target := .fn (.func g) #[], args := #[] }, fun w => by simp [Deferred.ofValue], .inl ⟨⟨g, #[], ?_, fun n => ?_⟩, _, [], [], rfl⟩⟩
    ·have e2' : ¬ fn.name = "runtime.NumGoroutine" := by simpa using e2
     simp [invoke, callFunc, program, Sem.run, e1, e2', e3]
    ·refine (e4 n).mono fun e w' hR => ?_
     cases e with
     | panicked c => exact hR.elim
     | outgrown => exact hR.elim
     | returned v =>
      obtain ⟨M2, _, _, hX, hv'⟩ := hR
      cases hv'
      have hf : ∀ c, c < w.heap.size → w'.heap[c]? = w.heap[c]? := fun c hc => hX.frame c hc (by simp)
      refine ⟨M, ⟨fun k l hk hd => ?_, hV.own, fun k l hk c hc => Nat.lt_of_lt_of_le (hV.inb k l hk c hc) hX.size⟩, hl, ⟨.refl M, fun c hc _ => hf c hc, fun _ _ _ => rfl, fun _ _ _ => rfl, fun k l hk c hc _ => ⟨l, hk, hc⟩, hX.size, fun _ h => h, by simp, by simp, hX.os, hX.output, hX.tape⟩, .bool _⟩
      obtain ⟨b, g1, g2⟩ := hV.ok k l hk hd
      exact ⟨b, g1, g2.mono (.refl _) fun c hc => hf c (hV.inb k l hk c hc)⟩
  ·cases hc
 ·cases hc
open Go.ChangeShapes Go.WideShapes Go.RowKit
end
end
end Tw
namespace Go.Proofs.YtmefgijobonklaaGreat
open Go Tw
def Aw1 : St := ⟨[(1, .loc 0 0), (2, .val (.int .i64 0)), (3, .loc 1 0), (4, .val (.int .i64 0)), (5, .loc 2 0), (6, .val (.int .i64 0))], [[.slc 10 0 4 4 4 false], [.slc 29 0 4 4 4 false], [.slc 44 0 2 2 4 false]], [.cells .own [.int .i64 2, .int .i64 3], .cells .own [.int .u8 0, .int .i64 5, .int .u8 0, .int .i64 5, .int .u8 0, .int .i64 5, .int .u8 0, .int .i64 5, .int .u8 0, .int .i64 7, .int .u8 1, .int .i64 0], .cells .last [.int .i64 1, .int .i64 2], .cells .last [.int .i64 1, .int .i64 2], .cells .last [.int .i64 1, .int .i64 1], .cells .last [.int .i64 1, .int .i64 1], .cells .last [.int .i64 1, .int .i64 0], .cells .last [.int .i64 1, .int .i64 0], .cells .last [.int .i64 0, .int .i64 2], .cells .last [.int .i64 0, .int .i64 0], .cells .grow [.slc 9 0 2 2 1 false, .slc 8 0 2 2 1 false, .int .u8 0, .int .i64 5, .slc 7 0 2 2 1 false, .slc 6 0 2 2 1 false, .int .u8 0, .int .i64 5, .slc 5 0 2 2 1 false, .slc 4 0 2 2 1 false, .int .u8 0, .int .i64 7, .slc 3 0 2 2 1 false, .slc 2 0 2 2 1 false, .int .u8 1, .int .i64 0], .cells .own [.int .i64 2, .int .i64 3], .cells .own [.int .i64 1, .int .i64 2], .cells .own [.int .i64 1, .int .i64 2], .cells .own [.int .i64 1, .int .i64 1], .cells .own [.int .i64 1, .int .i64 1], .cells .own [.int .i64 0, .int .i64 2], .cells .own [.int .i64 0, .int .i64 1], .cells .own [.int .i64 1, .int .i64 0], .cells .own [.int .i64 0, .int .i64 0], .cells .own [.slc 19 0 2 2 1 true, .slc 18 0 2 2 1 true, .int .u8 0, .int .i64 5, .slc 17 0 2 2 1 true, .slc 16 0 2 2 1 true, .int .u8 0, .int .i64 5, .slc 15 0 2 2 1 true, .slc 14 0 2 2 1 true, .int .u8 0, .int .i64 7, .slc 13 0 2 2 1 true, .slc 12 0 2 2 1 true, .int .u8 1, .int .i64 0], .cells .last [.int .i64 1, .int .i64 2], .cells .last [.int .i64 1, .int .i64 2], .cells .last [.int .i64 1, .int .i64 1], .cells .last [.int .i64 1, .int .i64 1], .cells .last [.int .i64 1, .int .i64 0], .cells .last [.int .i64 1, .int .i64 0], .cells .last [.int .i64 0, .int .i64 2], .cells .last [.int .i64 0, .int .i64 0], .cells .grow [.slc 28 0 2 2 1 false, .slc 27 0 2 2 1 false, .int .u8 0, .int .i64 5, .slc 26 0 2 2 1 false, .slc 25 0 2 2 1 false, .int .u8 0, .int .i64 5, .slc 24 0 2 2 1 false, .slc 23 0 2 2 1 false, .int .u8 0, .int .i64 7, .slc 22 0 2 2 1 false, .slc 21 0 2 2 1 false, .int .u8 1, .int .i64 0], .cells .own [.int .i64 2, .int .i64 3], .cells .own [.int .i64 1, .int .i64 2], .cells .own [.int .i64 1, .int .i64 2], .cells .own [.int .i64 1, .int .i64 1], .cells .own [.int .i64 1, .int .i64 1], .cells .own [.int .i64 0, .int .i64 2], .cells .own [.int .i64 0, .int .i64 1], .cells .own [.int .i64 1, .int .i64 0], .cells .own [.int .i64 0, .int .i64 0], .cells .own [.slc 38 0 2 2 1 true, .slc 37 0 2 2 1 true, .int .u8 0, .int .i64 5, .slc 36 0 2 2 1 true, .slc 35 0 2 2 1 true, .int .u8 0, .int .i64 5, .slc 34 0 2 2 1 true, .slc 33 0 2 2 1 true, .int .u8 0, .int .i64 7, .slc 32 0 2 2 1 true, .slc 31 0 2 2 1 true, .int .u8 1, .int .i64 0], .cells .last [.int .i64 1, .int .i64 2], .cells .last [.int .i64 1, .int .i64 0], .cells .last [.int .i64 0, .int .i64 2], .cells .last [.int .i64 0, .int .i64 0], .cells .grow [.slc 43 0 2 2 1 false, .slc 42 0 2 2 1 false, .int .u8 0, .int .i64 5, .slc 41 0 2 2 1 false, .slc 40 0 2 2 1 false, .int .u8 0, .int .i64 7]], []⟩
def Aw2 : St := ⟨[(1, .loc 0 0), (2, .val (.int .i64 0)), (3, .loc 1 0), (4, .val (.int .i64 0)), (5, .loc 2 0), (6, .val (.int .i64 0)), (7, .val (.int .i64 4)), (8, .val (.int .i64 0)), (9, .loc 3 0), (10, .val (.int .i64 0)), (11, .loc 4 0), (12, .val (.int .i64 0))], [[.slc 10 0 4 4 4 false], [.slc 29 0 4 4 4 false], [.slc 44 0 2 2 4 false], [.int .i64 5, .int .i64 7, .int .u8 1], [.slc 82 0 3 3 4 false]], [.cells .own [.int .i64 2, .int .i64 3], .cells .own [.int .u8 0, .int .i64 5, .int .u8 0, .int .i64 5, .int .u8 0, .int .i64 5, .int .u8 0, .int .i64 5, .int .u8 0, .int .i64 7, .int .u8 1, .int .i64 0], .cells .last [.int .i64 1, .int .i64 2], .cells .last [.int .i64 1, .int .i64 2], .cells .last [.int .i64 1, .int .i64 1], .cells .last [.int .i64 1, .int .i64 1], .cells .last [.int .i64 1, .int .i64 0], .cells .last [.int .i64 1, .int .i64 0], .cells .last [.int .i64 0, .int .i64 2], .cells .last [.int .i64 0, .int .i64 0], .cells .grow [.slc 9 0 2 2 1 false, .slc 8 0 2 2 1 false, .int .u8 0, .int .i64 5, .slc 7 0 2 2 1 false, .slc 6 0 2 2 1 false, .int .u8 0, .int .i64 5, .slc 5 0 2 2 1 false, .slc 4 0 2 2 1 false, .int .u8 0, .int .i64 7, .slc 3 0 2 2 1 false, .slc 2 0 2 2 1 false, .int .u8 1, .int .i64 0], .cells .own [.int .i64 2, .int .i64 3], .cells .own [.int .i64 1, .int .i64 2], .cells .own [.int .i64 1, .int .i64 2], .cells .own [.int .i64 1, .int .i64 1], .cells .own [.int .i64 1, .int .i64 1], .cells .own [.int .i64 0, .int .i64 2], .cells .own [.int .i64 0, .int .i64 1], .cells .own [.int .i64 1, .int .i64 0], .cells .own [.int .i64 0, .int .i64 0], .cells .own [.slc 19 0 2 2 1 true, .slc 18 0 2 2 1 true, .int .u8 0, .int .i64 5, .slc 17 0 2 2 1 true, .slc 16 0 2 2 1 true, .int .u8 0, .int .i64 5, .slc 15 0 2 2 1 true, .slc 14 0 2 2 1 true, .int .u8 0, .int .i64 7, .slc 13 0 2 2 1 true, .slc 12 0 2 2 1 true, .int .u8 1, .int .i64 0], .cells .last [.int .i64 1, .int .i64 2], .cells .last [.int .i64 1, .int .i64 2], .cells .last [.int .i64 1, .int .i64 1], .cells .last [.int .i64 1, .int .i64 1], .cells .last [.int .i64 1, .int .i64 0], .cells .last [.int .i64 1, .int .i64 0], .cells .last [.int .i64 0, .int .i64 2], .cells .last [.int .i64 0, .int .i64 0], .cells .grow [.slc 28 0 2 2 1 false, .slc 27 0 2 2 1 false, .int .u8 0, .int .i64 5, .slc 26 0 2 2 1 false, .slc 25 0 2 2 1 false, .int .u8 0, .int .i64 5, .slc 24 0 2 2 1 false, .slc 23 0 2 2 1 false, .int .u8 0, .int .i64 7, .slc 22 0 2 2 1 false, .slc 21 0 2 2 1 false, .int .u8 1, .int .i64 0], .cells .own [.int .i64 2, .int .i64 3], .cells .own [.int .i64 1, .int .i64 2], .cells .own [.int .i64 1, .int .i64 2], .cells .own [.int .i64 1, .int .i64 1], .cells .own [.int .i64 1, .int .i64 1], .cells .own [.int .i64 0, .int .i64 2], .cells .own [.int .i64 0, .int .i64 1], .cells .own [.int .i64 1, .int .i64 0], .cells .own [.int .i64 0, .int .i64 0], .cells .own [.slc 38 0 2 2 1 true, .slc 37 0 2 2 1 true, .int .u8 0, .int .i64 5, .slc 36 0 2 2 1 true, .slc 35 0 2 2 1 true, .int .u8 0, .int .i64 5, .slc 34 0 2 2 1 true, .slc 33 0 2 2 1 true, .int .u8 0, .int .i64 7, .slc 32 0 2 2 1 true, .slc 31 0 2 2 1 true, .int .u8 1, .int .i64 0], .cells .last [.int .i64 1, .int .i64 2], .cells .last [.int .i64 1, .int .i64 0], .cells .last [.int .i64 0, .int .i64 2], .cells .last [.int .i64 0, .int .i64 0], .cells .grow [.slc 43 0 2 2 1 false, .slc 42 0 2 2 1 false, .int .u8 0, .int .i64 5, .slc 41 0 2 2 1 false, .slc 40 0 2 2 1 false, .int .u8 0, .int .i64 7], .cells .own [.int .i64 2, .int .i64 3], .cells .own [.int .i64 1, .int .i64 2], .cells .own [.int .i64 1, .int .i64 2], .cells .own [.int .i64 1, .int .i64 1], .cells .own [.int .i64 1, .int .i64 1], .cells .own [.int .i64 0, .int .i64 2], .cells .own [.int .i64 0, .int .i64 1], .cells .own [.int .i64 1, .int .i64 0], .cells .own [.int .i64 0, .int .i64 0], .cells .own [.slc 53 0 2 2 1 true, .slc 52 0 2 2 1 true, .int .u8 0, .int .i64 5, .slc 51 0 2 2 1 true, .slc 50 0 2 2 1 true, .int .u8 0, .int .i64 5, .slc 49 0 2 2 1 true, .slc 48 0 2 2 1 true, .int .u8 0, .int .i64 7, .slc 47 0 2 2 1 true, .slc 46 0 2 2 1 true, .int .u8 1, .int .i64 0], .cells .own [.int .i64 2, .int .i64 3], .cells .own [.int .i64 1, .int .i64 2], .cells .own [.int .i64 1, .int .i64 2], .cells .own [.int .i64 1, .int .i64 1], .cells .own [.int .i64 1, .int .i64 1], .cells .own [.int .i64 0, .int .i64 2], .cells .own [.int .i64 0, .int .i64 1], .cells .own [.int .i64 1, .int .i64 0], .cells .own [.int .i64 0, .int .i64 0], .cells .own [.slc 63 0 2 2 1 true, .slc 62 0 2 2 1 true, .int .u8 0, .int .i64 5, .slc 61 0 2 2 1 true, .slc 60 0 2 2 1 true, .int .u8 0, .int .i64 5, .slc 59 0 2 2 1 true, .slc 58 0 2 2 1 true, .int .u8 0, .int .i64 7, .slc 57 0 2 2 1 true, .slc 56 0 2 2 1 true, .int .u8 1, .int .i64 0], .cells .own [.int .i64 2, .int .i64 3], .cells .own [.int .i64 1, .int .i64 2], .cells .own [.int .i64 1, .int .i64 2], .cells .own [.int .i64 1, .int .i64 1], .cells .own [.int .i64 1, .int .i64 1], .cells .own [.int .i64 1, .int .i64 0], .cells .own [.int .i64 1, .int .i64 0], .cells .own [.int .i64 0, .int .i64 2], .cells .own [.int .i64 0, .int .i64 0], .cells .own [.slc 73 0 2 2 1 true, .slc 72 0 2 2 1 true, .int .u8 0, .int .i64 5, .slc 71 0 2 2 1 true, .slc 70 0 2 2 1 true, .int .u8 0, .int .i64 5, .slc 69 0 2 2 1 true, .slc 68 0 2 2 1 true, .int .u8 0, .int .i64 7, .slc 67 0 2 2 1 true, .slc 66 0 2 2 1 true, .int .u8 1, .int .i64 0], .cells .own [.slc 74 0 4 4 4 true], .cells .last [.int .i64 1, .int .i64 2], .cells .last [.int .i64 1, .int .i64 2], .cells .last [.int .i64 1, .int .i64 1], .cells .last [.int .i64 1, .int .i64 0], .cells .last [.int .i64 0, .int .i64 2], .cells .last [.int .i64 0, .int .i64 0], .cells .grow [.slc 81 0 2 2 1 false, .slc 80 0 2 2 1 false, .int .u8 0, .int .i64 0, .slc 79 0 2 2 1 false, .slc 78 0 2 2 1 false, .int .u8 0, .int .i64 0, .slc 77 0 2 2 1 false, .slc 76 0 2 2 1 false, .int .u8 1, .int .i64 0]], []⟩
def Aw3 : St := ⟨[(1, .loc 0 0), (2, .val (.int .i64 0)), (3, .loc 1 0), (4, .val (.int .i64 0)), (5, .loc 2 0), (6, .val (.int .i64 0)), (7, .val (.int .i64 4)), (8, .val (.int .i64 0)), (9, .loc 3 0), (10, .val (.int .i64 0)), (11, .loc 4 0), (12, .val (.int .i64 0)), (13, .val (.slc 99 0 1 1 1 false)), (14, .val (.int .i64 0))], [[.slc 10 0 4 4 4 false], [.slc 29 0 4 4 4 false], [.slc 44 0 2 2 4 false], [.int .i64 5, .int .i64 7, .int .u8 1], [.slc 82 0 3 3 4 false]], [.cells .own [.int .i64 2, .int .i64 3], .cells .own [.int .u8 0, .int .i64 5, .int .u8 0, .int .i64 5, .int .u8 0, .int .i64 5, .int .u8 0, .int .i64 5, .int .u8 0, .int .i64 7, .int .u8 1, .int .i64 0], .cells .last [.int .i64 1, .int .i64 2], .cells .last [.int .i64 1, .int .i64 2], .cells .last [.int .i64 1, .int .i64 1], .cells .last [.int .i64 1, .int .i64 1], .cells .last [.int .i64 1, .int .i64 0], .cells .last [.int .i64 1, .int .i64 0], .cells .last [.int .i64 0, .int .i64 2], .cells .last [.int .i64 0, .int .i64 0], .cells .grow [.slc 9 0 2 2 1 false, .slc 8 0 2 2 1 false, .int .u8 0, .int .i64 5, .slc 7 0 2 2 1 false, .slc 6 0 2 2 1 false, .int .u8 0, .int .i64 5, .slc 5 0 2 2 1 false, .slc 4 0 2 2 1 false, .int .u8 0, .int .i64 7, .slc 3 0 2 2 1 false, .slc 2 0 2 2 1 false, .int .u8 1, .int .i64 0], .cells .own [.int .i64 2, .int .i64 3], .cells .own [.int .i64 1, .int .i64 2], .cells .own [.int .i64 1, .int .i64 2], .cells .own [.int .i64 1, .int .i64 1], .cells .own [.int .i64 1, .int .i64 1], .cells .own [.int .i64 0, .int .i64 2], .cells .own [.int .i64 0, .int .i64 1], .cells .own [.int .i64 1, .int .i64 0], .cells .own [.int .i64 0, .int .i64 0], .cells .own [.slc 19 0 2 2 1 true, .slc 18 0 2 2 1 true, .int .u8 0, .int .i64 5, .slc 17 0 2 2 1 true, .slc 16 0 2 2 1 true, .int .u8 0, .int .i64 5, .slc 15 0 2 2 1 true, .slc 14 0 2 2 1 true, .int .u8 0, .int .i64 7, .slc 13 0 2 2 1 true, .slc 12 0 2 2 1 true, .int .u8 1, .int .i64 0], .cells .last [.int .i64 1, .int .i64 2], .cells .last [.int .i64 1, .int .i64 2], .cells .last [.int .i64 1, .int .i64 1], .cells .last [.int .i64 1, .int .i64 1], .cells .last [.int .i64 1, .int .i64 0], .cells .last [.int .i64 1, .int .i64 0], .cells .last [.int .i64 0, .int .i64 2], .cells .last [.int .i64 0, .int .i64 0], .cells .grow [.slc 28 0 2 2 1 false, .slc 27 0 2 2 1 false, .int .u8 0, .int .i64 5, .slc 26 0 2 2 1 false, .slc 25 0 2 2 1 false, .int .u8 0, .int .i64 5, .slc 24 0 2 2 1 false, .slc 23 0 2 2 1 false, .int .u8 0, .int .i64 7, .slc 22 0 2 2 1 false, .slc 21 0 2 2 1 false, .int .u8 1, .int .i64 0], .cells .own [.int .i64 2, .int .i64 3], .cells .own [.int .i64 1, .int .i64 2], .cells .own [.int .i64 1, .int .i64 2], .cells .own [.int .i64 1, .int .i64 1], .cells .own [.int .i64 1, .int .i64 1], .cells .own [.int .i64 0, .int .i64 2], .cells .own [.int .i64 0, .int .i64 1], .cells .own [.int .i64 1, .int .i64 0], .cells .own [.int .i64 0, .int .i64 0], .cells .own [.slc 38 0 2 2 1 true, .slc 37 0 2 2 1 true, .int .u8 0, .int .i64 5, .slc 36 0 2 2 1 true, .slc 35 0 2 2 1 true, .int .u8 0, .int .i64 5, .slc 34 0 2 2 1 true, .slc 33 0 2 2 1 true, .int .u8 0, .int .i64 7, .slc 32 0 2 2 1 true, .slc 31 0 2 2 1 true, .int .u8 1, .int .i64 0], .cells .last [.int .i64 1, .int .i64 2], .cells .last [.int .i64 1, .int .i64 0], .cells .last [.int .i64 0, .int .i64 2], .cells .last [.int .i64 0, .int .i64 0], .cells .grow [.slc 43 0 2 2 1 false, .slc 42 0 2 2 1 false, .int .u8 0, .int .i64 5, .slc 41 0 2 2 1 false, .slc 40 0 2 2 1 false, .int .u8 0, .int .i64 7], .cells .own [.int .i64 2, .int .i64 3], .cells .own [.int .i64 1, .int .i64 2], .cells .own [.int .i64 1, .int .i64 2], .cells .own [.int .i64 1, .int .i64 1], .cells .own [.int .i64 1, .int .i64 1], .cells .own [.int .i64 0, .int .i64 2], .cells .own [.int .i64 0, .int .i64 1], .cells .own [.int .i64 1, .int .i64 0], .cells .own [.int .i64 0, .int .i64 0], .cells .own [.slc 53 0 2 2 1 true, .slc 52 0 2 2 1 true, .int .u8 0, .int .i64 5, .slc 51 0 2 2 1 true, .slc 50 0 2 2 1 true, .int .u8 0, .int .i64 5, .slc 49 0 2 2 1 true, .slc 48 0 2 2 1 true, .int .u8 0, .int .i64 7, .slc 47 0 2 2 1 true, .slc 46 0 2 2 1 true, .int .u8 1, .int .i64 0], .cells .own [.int .i64 2, .int .i64 3], .cells .own [.int .i64 1, .int .i64 2], .cells .own [.int .i64 1, .int .i64 2], .cells .own [.int .i64 1, .int .i64 1], .cells .own [.int .i64 1, .int .i64 1], .cells .own [.int .i64 0, .int .i64 2], .cells .own [.int .i64 0, .int .i64 1], .cells .own [.int .i64 1, .int .i64 0], .cells .own [.int .i64 0, .int .i64 0], .cells .own [.slc 63 0 2 2 1 true, .slc 62 0 2 2 1 true, .int .u8 0, .int .i64 5, .slc 61 0 2 2 1 true, .slc 60 0 2 2 1 true, .int .u8 0, .int .i64 5, .slc 59 0 2 2 1 true, .slc 58 0 2 2 1 true, .int .u8 0, .int .i64 7, .slc 57 0 2 2 1 true, .slc 56 0 2 2 1 true, .int .u8 1, .int .i64 0], .cells .own [.int .i64 2, .int .i64 3], .cells .own [.int .i64 1, .int .i64 2], .cells .own [.int .i64 1, .int .i64 2], .cells .own [.int .i64 1, .int .i64 1], .cells .own [.int .i64 1, .int .i64 1], .cells .own [.int .i64 1, .int .i64 0], .cells .own [.int .i64 1, .int .i64 0], .cells .own [.int .i64 0, .int .i64 2], .cells .own [.int .i64 0, .int .i64 0], .cells .own [.slc 73 0 2 2 1 true, .slc 72 0 2 2 1 true, .int .u8 0, .int .i64 5, .slc 71 0 2 2 1 true, .slc 70 0 2 2 1 true, .int .u8 0, .int .i64 5, .slc 69 0 2 2 1 true, .slc 68 0 2 2 1 true, .int .u8 0, .int .i64 7, .slc 67 0 2 2 1 true, .slc 66 0 2 2 1 true, .int .u8 1, .int .i64 0], .cells .own [.slc 74 0 4 4 4 true], .cells .last [.int .i64 1, .int .i64 2], .cells .last [.int .i64 1, .int .i64 2], .cells .last [.int .i64 1, .int .i64 1], .cells .last [.int .i64 1, .int .i64 0], .cells .last [.int .i64 0, .int .i64 2], .cells .last [.int .i64 0, .int .i64 0], .cells .grow [.slc 81 0 2 2 1 false, .slc 80 0 2 2 1 false, .int .u8 0, .int .i64 0, .slc 79 0 2 2 1 false, .slc 78 0 2 2 1 false, .int .u8 0, .int .i64 0, .slc 77 0 2 2 1 false, .slc 76 0 2 2 1 false, .int .u8 1, .int .i64 0], .cells .own [.int .i64 2], .cells .own [.int .u8 3, .int .i64 0, .int .i64 0, .int .i64 0, .int .i64 0, .int .u8 3, .int .i64 0, .int .i64 0, .int .i64 0, .int .i64 1, .int .u8 10, .int .i64 0, .int .i64 1, .int .i64 0, .int .i64 0], .cells .own [.str ⟨#[100]⟩, .int .i64 1, .int .i64 2, .str ⟨#[101]⟩, .int .i64 0, .int .i64 2], .cells .last [.int .i64 1, .int .i64 2], .cells .last [.int .i64 1, .int .i64 2], .cells .last [.int .i64 1, .int .i64 1], .cells .last [.int .i64 1, .int .i64 1], .cells .last [.int .i64 1, .int .i64 0], .cells .last [.int .i64 1, .int .i64 0], .cells .last [.int .i64 0, .int .i64 2], .cells .last [.int .i64 0, .int .i64 2], .cells .last [.int .i64 0, .int .i64 1], .cells .last [.int .i64 0, .int .i64 1], .cells .last [.int .i64 0, .int .i64 0], .cells .last [.int .i64 0, .int .i64 0], .cells .grow [.slc 97 0 2 2 1 false, .slc 96 0 2 2 1 false, .int .u8 1, .int .i64 0, .slc 95 0 2 2 1 false, .slc 94 0 2 2 1 false, .int .u8 0, .int .i64 1, .slc 93 0 2 2 1 false, .slc 92 0 2 2 1 false, .int .u8 0, .int .i64 0, .slc 91 0 2 2 1 false, .slc 90 0 2 2 1 false, .int .u8 1, .int .i64 0, .slc 89 0 2 2 1 false, .slc 88 0 2 2 1 false, .int .u8 0, .int .i64 2, .slc 87 0 2 2 1 false, .slc 86 0 2 2 1 false, .int .u8 0, .int .i64 1], .cells .own [.slc 98 0 6 6 4 false]], []⟩
def Aw4 : St := ⟨[(1, .loc 0 0), (2, .val (.int .i64 0)), (3, .loc 1 0), (4, .val (.int .i64 0)), (5, .loc 2 0), (6, .val (.int .i64 0)), (7, .val (.int .i64 4)), (8, .val (.int .i64 0)), (9, .loc 3 0), (10, .val (.int .i64 0)), (11, .loc 4 0), (12, .val (.int .i64 0)), (13, .val (.slc 99 0 1 1 1 false)), (14, .val (.int .i64 0)), (15, .val (.slc 119 0 2 2 1 true)), (16, .val (.int .i64 0))], [[.slc 10 0 4 4 4 false], [.slc 29 0 4 4 4 false], [.slc 44 0 2 2 4 false], [.int .i64 5, .int .i64 7, .int .u8 1], [.slc 82 0 3 3 4 false]], [.cells .own [.int .i64 2, .int .i64 3], .cells .own [.int .u8 0, .int .i64 5, .int .u8 0, .int .i64 5, .int .u8 0, .int .i64 5, .int .u8 0, .int .i64 5, .int .u8 0, .int .i64 7, .int .u8 1, .int .i64 0], .cells .last [.int .i64 1, .int .i64 2], .cells .last [.int .i64 1, .int .i64 2], .cells .last [.int .i64 1, .int .i64 1], .cells .last [.int .i64 1, .int .i64 1], .cells .last [.int .i64 1, .int .i64 0], .cells .last [.int .i64 1, .int .i64 0], .cells .last [.int .i64 0, .int .i64 2], .cells .last [.int .i64 0, .int .i64 0], .cells .grow [.slc 9 0 2 2 1 false, .slc 8 0 2 2 1 false, .int .u8 0, .int .i64 5, .slc 7 0 2 2 1 false, .slc 6 0 2 2 1 false, .int .u8 0, .int .i64 5, .slc 5 0 2 2 1 false, .slc 4 0 2 2 1 false, .int .u8 0, .int .i64 7, .slc 3 0 2 2 1 false, .slc 2 0 2 2 1 false, .int .u8 1, .int .i64 0], .cells .own [.int .i64 2, .int .i64 3], .cells .own [.int .i64 1, .int .i64 2], .cells .own [.int .i64 1, .int .i64 2], .cells .own [.int .i64 1, .int .i64 1], .cells .own [.int .i64 1, .int .i64 1], .cells .own [.int .i64 0, .int .i64 2], .cells .own [.int .i64 0, .int .i64 1], .cells .own [.int .i64 1, .int .i64 0], .cells .own [.int .i64 0, .int .i64 0], .cells .own [.slc 19 0 2 2 1 true, .slc 18 0 2 2 1 true, .int .u8 0, .int .i64 5, .slc 17 0 2 2 1 true, .slc 16 0 2 2 1 true, .int .u8 0, .int .i64 5, .slc 15 0 2 2 1 true, .slc 14 0 2 2 1 true, .int .u8 0, .int .i64 7, .slc 13 0 2 2 1 true, .slc 12 0 2 2 1 true, .int .u8 1, .int .i64 0], .cells .last [.int .i64 1, .int .i64 2], .cells .last [.int .i64 1, .int .i64 2], .cells .last [.int .i64 1, .int .i64 1], .cells .last [.int .i64 1, .int .i64 1], .cells .last [.int .i64 1, .int .i64 0], .cells .last [.int .i64 1, .int .i64 0], .cells .last [.int .i64 0, .int .i64 2], .cells .last [.int .i64 0, .int .i64 0], .cells .grow [.slc 28 0 2 2 1 false, .slc 27 0 2 2 1 false, .int .u8 0, .int .i64 5, .slc 26 0 2 2 1 false, .slc 25 0 2 2 1 false, .int .u8 0, .int .i64 5, .slc 24 0 2 2 1 false, .slc 23 0 2 2 1 false, .int .u8 0, .int .i64 7, .slc 22 0 2 2 1 false, .slc 21 0 2 2 1 false, .int .u8 1, .int .i64 0], .cells .own [.int .i64 2, .int .i64 3], .cells .own [.int .i64 1, .int .i64 2], .cells .own [.int .i64 1, .int .i64 2], .cells .own [.int .i64 1, .int .i64 1], .cells .own [.int .i64 1, .int .i64 1], .cells .own [.int .i64 0, .int .i64 2], .cells .own [.int .i64 0, .int .i64 1], .cells .own [.int .i64 1, .int .i64 0], .cells .own [.int .i64 0, .int .i64 0], .cells .own [.slc 38 0 2 2 1 true, .slc 37 0 2 2 1 true, .int .u8 0, .int .i64 5, .slc 36 0 2 2 1 true, .slc 35 0 2 2 1 true, .int .u8 0, .int .i64 5, .slc 34 0 2 2 1 true, .slc 33 0 2 2 1 true, .int .u8 0, .int .i64 7, .slc 32 0 2 2 1 true, .slc 31 0 2 2 1 true, .int .u8 1, .int .i64 0], .cells .last [.int .i64 1, .int .i64 2], .cells .last [.int .i64 1, .int .i64 0], .cells .last [.int .i64 0, .int .i64 2], .cells .last [.int .i64 0, .int .i64 0], .cells .grow [.slc 43 0 2 2 1 false, .slc 42 0 2 2 1 false, .int .u8 0, .int .i64 5, .slc 41 0 2 2 1 false, .slc 40 0 2 2 1 false, .int .u8 0, .int .i64 7], .cells .own [.int .i64 2, .int .i64 3], .cells .own [.int .i64 1, .int .i64 2], .cells .own [.int .i64 1, .int .i64 2], .cells .own [.int .i64 1, .int .i64 1], .cells .own [.int .i64 1, .int .i64 1], .cells .own [.int .i64 0, .int .i64 2], .cells .own [.int .i64 0, .int .i64 1], .cells .own [.int .i64 1, .int .i64 0], .cells .own [.int .i64 0, .int .i64 0], .cells .own [.slc 53 0 2 2 1 true, .slc 52 0 2 2 1 true, .int .u8 0, .int .i64 5, .slc 51 0 2 2 1 true, .slc 50 0 2 2 1 true, .int .u8 0, .int .i64 5, .slc 49 0 2 2 1 true, .slc 48 0 2 2 1 true, .int .u8 0, .int .i64 7, .slc 47 0 2 2 1 true, .slc 46 0 2 2 1 true, .int .u8 1, .int .i64 0], .cells .own [.int .i64 2, .int .i64 3], .cells .own [.int .i64 1, .int .i64 2], .cells .own [.int .i64 1, .int .i64 2], .cells .own [.int .i64 1, .int .i64 1], .cells .own [.int .i64 1, .int .i64 1], .cells .own [.int .i64 0, .int .i64 2], .cells .own [.int .i64 0, .int .i64 1], .cells .own [.int .i64 1, .int .i64 0], .cells .own [.int .i64 0, .int .i64 0], .cells .own [.slc 63 0 2 2 1 true, .slc 62 0 2 2 1 true, .int .u8 0, .int .i64 5, .slc 61 0 2 2 1 true, .slc 60 0 2 2 1 true, .int .u8 0, .int .i64 5, .slc 59 0 2 2 1 true, .slc 58 0 2 2 1 true, .int .u8 0, .int .i64 7, .slc 57 0 2 2 1 true, .slc 56 0 2 2 1 true, .int .u8 1, .int .i64 0], .cells .own [.int .i64 2, .int .i64 3], .cells .own [.int .i64 1, .int .i64 2], .cells .own [.int .i64 1, .int .i64 2], .cells .own [.int .i64 1, .int .i64 1], .cells .own [.int .i64 1, .int .i64 1], .cells .own [.int .i64 1, .int .i64 0], .cells .own [.int .i64 1, .int .i64 0], .cells .own [.int .i64 0, .int .i64 2], .cells .own [.int .i64 0, .int .i64 0], .cells .own [.slc 73 0 2 2 1 true, .slc 72 0 2 2 1 true, .int .u8 0, .int .i64 5, .slc 71 0 2 2 1 true, .slc 70 0 2 2 1 true, .int .u8 0, .int .i64 5, .slc 69 0 2 2 1 true, .slc 68 0 2 2 1 true, .int .u8 0, .int .i64 7, .slc 67 0 2 2 1 true, .slc 66 0 2 2 1 true, .int .u8 1, .int .i64 0], .cells .own [.slc 74 0 4 4 4 true], .cells .last [.int .i64 1, .int .i64 2], .cells .last [.int .i64 1, .int .i64 2], .cells .last [.int .i64 1, .int .i64 1], .cells .last [.int .i64 1, .int .i64 0], .cells .last [.int .i64 0, .int .i64 2], .cells .last [.int .i64 0, .int .i64 0], .cells .grow [.slc 81 0 2 2 1 false, .slc 80 0 2 2 1 false, .int .u8 0, .int .i64 0, .slc 79 0 2 2 1 false, .slc 78 0 2 2 1 false, .int .u8 0, .int .i64 0, .slc 77 0 2 2 1 false, .slc 76 0 2 2 1 false, .int .u8 1, .int .i64 0], .cells .own [.int .i64 2], .cells .own [.int .u8 3, .int .i64 0, .int .i64 0, .int .i64 0, .int .i64 0, .int .u8 3, .int .i64 0, .int .i64 0, .int .i64 0, .int .i64 1, .int .u8 10, .int .i64 0, .int .i64 1, .int .i64 0, .int .i64 0], .cells .own [.str ⟨#[100]⟩, .int .i64 1, .int .i64 2, .str ⟨#[101]⟩, .int .i64 0, .int .i64 2], .cells .last [.int .i64 1, .int .i64 2], .cells .last [.int .i64 1, .int .i64 2], .cells .last [.int .i64 1, .int .i64 1], .cells .last [.int .i64 1, .int .i64 1], .cells .last [.int .i64 1, .int .i64 0], .cells .last [.int .i64 1, .int .i64 0], .cells .last [.int .i64 0, .int .i64 2], .cells .last [.int .i64 0, .int .i64 2], .cells .last [.int .i64 0, .int .i64 1], .cells .last [.int .i64 0, .int .i64 1], .cells .last [.int .i64 0, .int .i64 0], .cells .last [.int .i64 0, .int .i64 0], .cells .grow [.slc 97 0 2 2 1 false, .slc 96 0 2 2 1 false, .int .u8 1, .int .i64 0, .slc 95 0 2 2 1 false, .slc 94 0 2 2 1 false, .int .u8 0, .int .i64 1, .slc 93 0 2 2 1 false, .slc 92 0 2 2 1 false, .int .u8 0, .int .i64 0, .slc 91 0 2 2 1 false, .slc 90 0 2 2 1 false, .int .u8 1, .int .i64 0, .slc 89 0 2 2 1 false, .slc 88 0 2 2 1 false, .int .u8 0, .int .i64 2, .slc 87 0 2 2 1 false, .slc 86 0 2 2 1 false, .int .u8 0, .int .i64 1], .cells .own [.slc 98 0 6 6 4 false], .cells .own [.int .i64 1, .int .i64 2], .cells .own [.int .i64 1, .int .i64 2], .cells .own [.int .i64 1, .int .i64 1], .cells .own [.int .i64 1, .int .i64 1], .cells .own [.int .i64 1, .int .i64 0], .cells .own [.int .i64 1, .int .i64 0], .cells .own [.int .i64 0, .int .i64 2], .cells .own [.int .i64 0, .int .i64 0], .cells .own [.slc 107 0 2 2 1 true, .slc 106 0 2 2 1 true, .int .u8 0, .int .i64 5, .slc 105 0 2 2 1 true, .slc 104 0 2 2 1 true, .int .u8 0, .int .i64 5, .slc 103 0 2 2 1 true, .slc 102 0 2 2 1 true, .int .u8 0, .int .i64 7, .slc 101 0 2 2 1 true, .slc 100 0 2 2 1 true, .int .u8 1, .int .i64 0], .cells .own [.int .i64 2, .int .i64 3], .cells .own [.int .i64 1, .int .i64 0], .cells .own [.int .u8 0, .int .i64 5, .int .u8 0, .int .i64 5, .int .u8 0, .int .i64 5, .int .u8 0, .int .i64 5, .int .u8 0, .int .i64 8, .int .u8 1, .int .i64 0], .cells .grow [.int .i64 (-1), .int .i64 0, .int .i64 1], .cells .grow [.int .i64 (-1), .int .i64 (-3)], .cells .grow [.int .i64 (-1), .int .i64 (-2)], .cells .grow [.int .i64 0, .slc 114 0 2 2 1 false, .int .i64 0, .slc 113 0 2 2 1 false, .int .i64 1, .slc 112 0 3 3 1 false], .cells .grow [.int .u8 0, .int .i64 5, .int .u8 0, .int .i64 8, .int .u8 1, .int .i64 0], .cells .own [.int .i64 1, .int .i64 0], .cells .own [.int .i64 2, .int .i64 3], .cells .own [.int .i64 1, .int .i64 1]], []⟩
def Aw5 : St := ⟨[(1, .loc 0 0), (2, .val (.int .i64 0)), (3, .loc 1 0), (4, .val (.int .i64 0)), (5, .loc 2 0), (6, .val (.int .i64 0)), (7, .val (.int .i64 4)), (8, .val (.int .i64 0)), (9, .loc 3 0), (10, .val (.int .i64 0)), (11, .loc 4 0), (12, .val (.int .i64 0)), (13, .val (.slc 99 0 1 1 1 false)), (14, .val (.int .i64 0)), (15, .val (.slc 119 0 2 2 1 true)), (16, .val (.int .i64 0)), (17, .loc 5 0), (18, .val (.int .i64 0))], [[.slc 10 0 4 4 4 false], [.slc 29 0 4 4 4 false], [.slc 44 0 2 2 4 false], [.int .i64 5, .int .i64 7, .int .u8 1], [.slc 82 0 3 3 4 false], [.int .u8 1, .int .i64 0]], [.cells .own [.int .i64 2, .int .i64 3], .cells .own [.int .u8 0, .int .i64 5, .int .u8 0, .int .i64 5, .int .u8 0, .int .i64 5, .int .u8 0, .int .i64 5, .int .u8 0, .int .i64 7, .int .u8 1, .int .i64 0], .cells .last [.int .i64 1, .int .i64 2], .cells .last [.int .i64 1, .int .i64 2], .cells .last [.int .i64 1, .int .i64 1], .cells .last [.int .i64 1, .int .i64 1], .cells .last [.int .i64 1, .int .i64 0], .cells .last [.int .i64 1, .int .i64 0], .cells .last [.int .i64 0, .int .i64 2], .cells .last [.int .i64 0, .int .i64 0], .cells .grow [.slc 9 0 2 2 1 false, .slc 8 0 2 2 1 false, .int .u8 0, .int .i64 5, .slc 7 0 2 2 1 false, .slc 6 0 2 2 1 false, .int .u8 0, .int .i64 5, .slc 5 0 2 2 1 false, .slc 4 0 2 2 1 false, .int .u8 0, .int .i64 7, .slc 3 0 2 2 1 false, .slc 2 0 2 2 1 false, .int .u8 1, .int .i64 0], .cells .own [.int .i64 2, .int .i64 3], .cells .own [.int .i64 1, .int .i64 2], .cells .own [.int .i64 1, .int .i64 2], .cells .own [.int .i64 1, .int .i64 1], .cells .own [.int .i64 1, .int .i64 1], .cells .own [.int .i64 0, .int .i64 2], .cells .own [.int .i64 0, .int .i64 1], .cells .own [.int .i64 1, .int .i64 0], .cells .own [.int .i64 0, .int .i64 0], .cells .own [.slc 19 0 2 2 1 true, .slc 18 0 2 2 1 true, .int .u8 0, .int .i64 5, .slc 17 0 2 2 1 true, .slc 16 0 2 2 1 true, .int .u8 0, .int .i64 5, .slc 15 0 2 2 1 true, .slc 14 0 2 2 1 true, .int .u8 0, .int .i64 7, .slc 13 0 2 2 1 true, .slc 12 0 2 2 1 true, .int .u8 1, .int .i64 0], .cells .last [.int .i64 1, .int .i64 2], .cells .last [.int .i64 1, .int .i64 2], .cells .last [.int .i64 1, .int .i64 1], .cells .last [.int .i64 1, .int .i64 1], .cells .last [.int .i64 1, .int .i64 0], .cells .last [.int .i64 1, .int .i64 0], .cells .last [.int .i64 0, .int .i64 2], .cells .last [.int .i64 0, .int .i64 0], .cells .grow [.slc 28 0 2 2 1 false, .slc 27 0 2 2 1 false, .int .u8 0, .int .i64 5, .slc 26 0 2 2 1 false, .slc 25 0 2 2 1 false, .int .u8 0, .int .i64 5, .slc 24 0 2 2 1 false, .slc 23 0 2 2 1 false, .int .u8 0, .int .i64 7, .slc 22 0 2 2 1 false, .slc 21 0 2 2 1 false, .int .u8 1, .int .i64 0], .cells .own [.int .i64 2, .int .i64 3], .cells .own [.int .i64 1, .int .i64 2], .cells .own [.int .i64 1, .int .i64 2], .cells .own [.int .i64 1, .int .i64 1], .cells .own [.int .i64 1, .int .i64 1], .cells .own [.int .i64 0, .int .i64 2], .cells .own [.int .i64 0, .int .i64 1], .cells .own [.int .i64 1, .int .i64 0], .cells .own [.int .i64 0, .int .i64 0], .cells .own [.slc 38 0 2 2 1 true, .slc 37 0 2 2 1 true, .int .u8 0, .int .i64 5, .slc 36 0 2 2 1 true, .slc 35 0 2 2 1 true, .int .u8 0, .int .i64 5, .slc 34 0 2 2 1 true, .slc 33 0 2 2 1 true, .int .u8 0, .int .i64 7, .slc 32 0 2 2 1 true, .slc 31 0 2 2 1 true, .int .u8 1, .int .i64 0], .cells .last [.int .i64 1, .int .i64 2], .cells .last [.int .i64 1, .int .i64 0], .cells .last [.int .i64 0, .int .i64 2], .cells .last [.int .i64 0, .int .i64 0], .cells .grow [.slc 43 0 2 2 1 false, .slc 42 0 2 2 1 false, .int .u8 0, .int .i64 5, .slc 41 0 2 2 1 false, .slc 40 0 2 2 1 false, .int .u8 0, .int .i64 7], .cells .own [.int .i64 2, .int .i64 3], .cells .own [.int .i64 1, .int .i64 2], .cells .own [.int .i64 1, .int .i64 2], .cells .own [.int .i64 1, .int .i64 1], .cells .own [.int .i64 1, .int .i64 1], .cells .own [.int .i64 0, .int .i64 2], .cells .own [.int .i64 0, .int .i64 1], .cells .own [.int .i64 1, .int .i64 0], .cells .own [.int .i64 0, .int .i64 0], .cells .own [.slc 53 0 2 2 1 true, .slc 52 0 2 2 1 true, .int .u8 0, .int .i64 5, .slc 51 0 2 2 1 true, .slc 50 0 2 2 1 true, .int .u8 0, .int .i64 5, .slc 49 0 2 2 1 true, .slc 48 0 2 2 1 true, .int .u8 0, .int .i64 7, .slc 47 0 2 2 1 true, .slc 46 0 2 2 1 true, .int .u8 1, .int .i64 0], .cells .own [.int .i64 2, .int .i64 3], .cells .own [.int .i64 1, .int .i64 2], .cells .own [.int .i64 1, .int .i64 2], .cells .own [.int .i64 1, .int .i64 1], .cells .own [.int .i64 1, .int .i64 1], .cells .own [.int .i64 0, .int .i64 2], .cells .own [.int .i64 0, .int .i64 1], .cells .own [.int .i64 1, .int .i64 0], .cells .own [.int .i64 0, .int .i64 0], .cells .own [.slc 63 0 2 2 1 true, .slc 62 0 2 2 1 true, .int .u8 0, .int .i64 5, .slc 61 0 2 2 1 true, .slc 60 0 2 2 1 true, .int .u8 0, .int .i64 5, .slc 59 0 2 2 1 true, .slc 58 0 2 2 1 true, .int .u8 0, .int .i64 7, .slc 57 0 2 2 1 true, .slc 56 0 2 2 1 true, .int .u8 1, .int .i64 0], .cells .own [.int .i64 2, .int .i64 3], .cells .own [.int .i64 1, .int .i64 2], .cells .own [.int .i64 1, .int .i64 2], .cells .own [.int .i64 1, .int .i64 1], .cells .own [.int .i64 1, .int .i64 1], .cells .own [.int .i64 1, .int .i64 0], .cells .own [.int .i64 1, .int .i64 0], .cells .own [.int .i64 0, .int .i64 2], .cells .own [.int .i64 0, .int .i64 0], .cells .own [.slc 73 0 2 2 1 true, .slc 72 0 2 2 1 true, .int .u8 0, .int .i64 5, .slc 71 0 2 2 1 true, .slc 70 0 2 2 1 true, .int .u8 0, .int .i64 5, .slc 69 0 2 2 1 true, .slc 68 0 2 2 1 true, .int .u8 0, .int .i64 7, .slc 67 0 2 2 1 true, .slc 66 0 2 2 1 true, .int .u8 1, .int .i64 0], .cells .own [.slc 74 0 4 4 4 true], .cells .last [.int .i64 1, .int .i64 2], .cells .last [.int .i64 1, .int .i64 2], .cells .last [.int .i64 1, .int .i64 1], .cells .last [.int .i64 1, .int .i64 0], .cells .last [.int .i64 0, .int .i64 2], .cells .last [.int .i64 0, .int .i64 0], .cells .grow [.slc 81 0 2 2 1 false, .slc 80 0 2 2 1 false, .int .u8 0, .int .i64 0, .slc 79 0 2 2 1 false, .slc 78 0 2 2 1 false, .int .u8 0, .int .i64 0, .slc 77 0 2 2 1 false, .slc 76 0 2 2 1 false, .int .u8 1, .int .i64 0], .cells .own [.int .i64 2], .cells .own [.int .u8 3, .int .i64 0, .int .i64 0, .int .i64 0, .int .i64 0, .int .u8 3, .int .i64 0, .int .i64 0, .int .i64 0, .int .i64 1, .int .u8 10, .int .i64 0, .int .i64 1, .int .i64 0, .int .i64 0], .cells .own [.str ⟨#[100]⟩, .int .i64 1, .int .i64 2, .str ⟨#[101]⟩, .int .i64 0, .int .i64 2], .cells .last [.int .i64 1, .int .i64 2], .cells .last [.int .i64 1, .int .i64 2], .cells .last [.int .i64 1, .int .i64 1], .cells .last [.int .i64 1, .int .i64 1], .cells .last [.int .i64 1, .int .i64 0], .cells .last [.int .i64 1, .int .i64 0], .cells .last [.int .i64 0, .int .i64 2], .cells .last [.int .i64 0, .int .i64 2], .cells .last [.int .i64 0, .int .i64 1], .cells .last [.int .i64 0, .int .i64 1], .cells .last [.int .i64 0, .int .i64 0], .cells .last [.int .i64 0, .int .i64 0], .cells .grow [.slc 97 0 2 2 1 false, .slc 96 0 2 2 1 false, .int .u8 1, .int .i64 0, .slc 95 0 2 2 1 false, .slc 94 0 2 2 1 false, .int .u8 0, .int .i64 1, .slc 93 0 2 2 1 false, .slc 92 0 2 2 1 false, .int .u8 0, .int .i64 0, .slc 91 0 2 2 1 false, .slc 90 0 2 2 1 false, .int .u8 1, .int .i64 0, .slc 89 0 2 2 1 false, .slc 88 0 2 2 1 false, .int .u8 0, .int .i64 2, .slc 87 0 2 2 1 false, .slc 86 0 2 2 1 false, .int .u8 0, .int .i64 1], .cells .own [.slc 98 0 6 6 4 false], .cells .own [.int .i64 1, .int .i64 2], .cells .own [.int .i64 1, .int .i64 2], .cells .own [.int .i64 1, .int .i64 1], .cells .own [.int .i64 1, .int .i64 1], .cells .own [.int .i64 1, .int .i64 0], .cells .own [.int .i64 1, .int .i64 0], .cells .own [.int .i64 0, .int .i64 2], .cells .own [.int .i64 0, .int .i64 0], .cells .own [.slc 107 0 2 2 1 true, .slc 106 0 2 2 1 true, .int .u8 0, .int .i64 5, .slc 105 0 2 2 1 true, .slc 104 0 2 2 1 true, .int .u8 0, .int .i64 5, .slc 103 0 2 2 1 true, .slc 102 0 2 2 1 true, .int .u8 0, .int .i64 7, .slc 101 0 2 2 1 true, .slc 100 0 2 2 1 true, .int .u8 1, .int .i64 0], .cells .own [.int .i64 2, .int .i64 3], .cells .own [.int .i64 1, .int .i64 0], .cells .own [.int .u8 0, .int .i64 5, .int .u8 0, .int .i64 5, .int .u8 0, .int .i64 5, .int .u8 0, .int .i64 5, .int .u8 0, .int .i64 8, .int .u8 1, .int .i64 0], .cells .grow [.int .i64 (-1), .int .i64 0, .int .i64 1], .cells .grow [.int .i64 (-1), .int .i64 (-3)], .cells .grow [.int .i64 (-1), .int .i64 (-2)], .cells .grow [.int .i64 0, .slc 114 0 2 2 1 false, .int .i64 0, .slc 113 0 2 2 1 false, .int .i64 1, .slc 112 0 3 3 1 false], .cells .grow [.int .u8 0, .int .i64 5, .int .u8 0, .int .i64 8, .int .u8 1, .int .i64 0], .cells .own [.int .i64 1, .int .i64 0], .cells .own [.int .i64 2, .int .i64 3], .cells .own [.int .i64 1, .int .i64 1], .cells .own [.int .i64 2, .int .i64 3], .cells .own [.int .i64 1, .int .i64 2], .cells .own [.int .i64 1, .int .i64 2], .cells .own [.int .i64 1, .int .i64 1], .cells .own [.int .i64 1, .int .i64 1], .cells .own [.int .i64 0, .int .i64 2], .cells .own [.int .i64 0, .int .i64 1], .cells .own [.int .i64 1, .int .i64 0], .cells .own [.int .i64 0, .int .i64 0], .cells .own [.slc 128 0 2 2 1 true, .slc 127 0 2 2 1 true, .int .u8 0, .int .i64 5, .slc 126 0 2 2 1 true, .slc 125 0 2 2 1 true, .int .u8 0, .int .i64 5, .slc 124 0 2 2 1 true, .slc 123 0 2 2 1 true, .int .u8 0, .int .i64 7, .slc 122 0 2 2 1 true, .slc 121 0 2 2 1 true, .int .u8 1, .int .i64 0], .cells .own [.int .i64 1, .int .i64 2]], []⟩
theorem Awr1 : runH Tryz.prog T0 (apF Tryz.prog T0 4096 60) 4096 16 (ntF Tryz.prog 16) 4 (bdF Tryz.prog 16) ⟨[], [], [], []⟩ = some Aw1 := by kernel_rfl
theorem Awr2 : runH Tryz.prog T0 (apF Tryz.prog T0 4096 60) 4096 16 (ntF Tryz.prog 16) 3 (tlN 4 (bdF Tryz.prog 16)) Aw1 = some Aw2 := by kernel_rfl
theorem Awr3 : runH Tryz.prog T0 (apF Tryz.prog T0 4096 60) 4096 16 (ntF Tryz.prog 16) 1 (tlN 3 (tlN 4 (bdF Tryz.prog 16))) Aw2 = some Aw3 := by kernel_rfl
theorem Awr4 : runH Tryz.prog T0 (apF Tryz.prog T0 4096 60) 4096 16 (ntF Tryz.prog 16) 1 (tlN 1 (tlN 3 (tlN 4 (bdF Tryz.prog 16)))) Aw3 = some Aw4 := by kernel_rfl
theorem Awr5 : runH Tryz.prog T0 (apF Tryz.prog T0 4096 60) 4096 16 (ntF Tryz.prog 16) 1 (tlN 1 (tlN 1 (tlN 3 (tlN 4 (bdF Tryz.prog 16))))) Aw4 = some Aw5 := by kernel_rfl
theorem Aw_end : endT Tryz.prog 16 (execF Tryz.prog T0 (apF Tryz.prog T0 4096 60) 4096 16 false 0 (ntF Tryz.prog 16) (tlN 1 (tlN 1 (tlN 1 (tlN 3 (tlN 4 (bdF Tryz.prog 16)))))) Aw5) = true := by kernel_rfl
theorem Aw_ok : isT (funF Tryz.prog T0 (apF Tryz.prog T0 4096 60) 4096 16 [] []) = true := endT_ok (runH_ok Awr1 (runH_ok Awr2 (runH_ok Awr3 (runH_ok Awr4 (runH_ok Awr5 (Eq.refl (execF Tryz.prog T0 (apF Tryz.prog T0 4096 60) 4096 16 false 0 (ntF Tryz.prog 16) (tlN 1 (tlN 1 (tlN 1 (tlN 3 (tlN 4 (bdF Tryz.prog 16)))))) Aw5))))))) Aw_end
end Go.Proofs.YtmefgijobonklaaGreat
namespace Go.Proofs.YtmefgijobonklaaGreat
open Go Tw Go.ChangeShapes Go.WideShapes Go.ChangeAt Go.RowKit
theorem Tryz.own : ownKnob Tryz.prog.godebug = none := by kernel_rfl
theorem Tryz.laidOut : laidOutB Tryz.prog = true := by kernel_rfl
theorem Tryz.mixed : Tryz.prog.follows .mixedOrders = true := by kernel_rfl
theorem ext_ok : CallOk Tryz.prog T.ext := extT_ok (closT_ok (T := T0) Tryz.mixed ext0_ok Aw_ok)
end Go.Proofs.YtmefgijobonklaaGreat
namespace Go.Proofs.YtmefgijobonklaaGreat
open Go Tw Pv Go.ChangeShapes Go.WideShapes Go.ChangeAt Go.RowKit
theorem Tryz.tys5 : Tryz.f5.params.toList = [22, 5, 48] := by kernel_rfl
set_option maxRecDepth 100000 in
theorem TableOps_lifted (os : Os) (started : os.Started) (H : Type) (enc : TypeId × Value → H) :
  ReturnsInHanded {} Tryz.checked os 5 .any (Rows.tableOpsSpec.pre6 enc Tryz.prog Tryz.f5 Rows.tableOpsRow.domain false) (Rows.tableOpsSpec.post enc Tryz.prog Tryz.f5 false true false false) := by
 refine returnsInHanded_of_change (C := Tryz.checked) Tryz.own started (by kernel_rfl) Tryz.func5
  (ChangeSpec.witness6 (enc := enc) (C := Tryz.checked) false ⟨#[], #[.slice none 0 0, .int .u8 0, .slice none 0 0], []⟩ 8 (by kernel_rfl) (by kernel_rfl) (by kernel_rfl) (by kernel_rfl)) ?_
 intro W base args ds gs before hval0 hW hcnd _
 have hval : ∀ (j : Nat) t v, Tryz.f5.params[j]? = some t → args[j]? = some v → Value.okWide Tryz.prog W .any base t v := hval0
 have hW' := hW
 obtain ⟨p, q, hTA0, hV, rfl, hfz, hnd⟩ := hW
 have hTA : DataW.TrodAll enc Tryz.prog W 0 (fun _ => true) true Tryz.f5.params.toList args.toList ds p := hTA0
 obtain ⟨rfl, rfl⟩ := trodVars_none hV
 rw [Tryz.tys5] at hTA
 obtain ⟨d0, _, rfl, r0, _, _, hTA⟩ := trodAll_n hTA
 obtain ⟨d1, _, rfl, r1, _, _, hTA⟩ := trodAll_n hTA
 obtain ⟨d2, _, rfl, r2, _, _, hTA⟩ := trodAll_n hTA
 obtain ⟨_, rfl, _⟩ := trodAll_nil hTA
 obtain ⟨a0, q0, h0⟩ := rInts (g := 5) d0 r0
 obtain ⟨a1, q1, h1⟩ := rU8 (g := 6) d1 r1
 obtain ⟨a2, q2, h2⟩ := rTabs (g := 1) d2 r2
 obtain ⟨x0, e0, g0, v0⟩ := h0 ([])
 obtain ⟨x1, e1, g1, v1⟩ := h1 ([] ++ e0)
 obtain ⟨x2, e2, g2, v2⟩ := h2 ([] ++ e0 ++ e1)
 have w0 := v0 (e1 ++ e2)
 simp only [List.append_assoc, List.nil_append, List.append_nil] at w0
 obtain ⟨y0, _, rfl, u0, z0⟩ := w0.inv
 cases z0.inv0
 have w1 := v1 (e2)
 simp only [List.append_assoc, List.nil_append, List.append_nil] at w1
 obtain ⟨y1, _, rfl, u1, z1⟩ := w1.inv
 cases z1.inv0
 have w2 := v2 ([])
 simp only [List.append_assoc, List.nil_append, List.append_nil] at w2
 obtain ⟨y2, _, rfl, u2, z2⟩ := w2.inv
 cases z2.inv0
 obtain ⟨N, hN⟩ := gc5
 have hcon := hN (N + 1) (by omega) 5 ((Pv.a3 isA uA tbsA).put (a0, a1, a2)) (tA.put true) [] [∀ t ∈ a2, ∀ r ∈ t, 0 ≤ r.cell.f] rfl (by
  intro p hp
  simp only [List.mem_cons, List.not_mem_nil, or_false] at hp
  subst hp
  exact q2)
 obtain ⟨h', hr⟩ := run_of (h := [] ++ e0 ++ e1 ++ e2) hcon (by simp only [List.append_assoc, List.nil_append, List.append_nil]; exact .cons u0 (.cons u1 (.cons u2 .nil)))
 exact law_callsN (P := Tryz.prog) (T := T) (L := LL) (n := N) (g := 7) Tryz.mixed Tryz.laidOut rfl rfl (by kernel_rfl) Tryz.underlying4 (by kernel_rfl) hW' hval
  (by rw [Tryz.tys5]; exact (encA_o (by kernel_rfl) g0 (encA_o (by kernel_rfl) g1 (encA_o (by kernel_rfl) g2 encA_0)))) ext_ok (by kernel_rfl) hr
theorem TableOps_holds : Rows.TableOpsSaid :=
 OpenClaim.holds_of_wide 5 Tryz.f5 rfl rfl rfl rfl rfl rfl rfl ⟨rfl, rfl, rfl, rfl, rfl⟩ rfl rfl rfl rfl rfl (by kernel_rfl) Tryz.func5 (by kernel_rfl)
  (of_decide_eq_true (by kernel_rfl)) (by unfold Func.isWrapper; first | (rw [if_pos (by decide +kernel)]; kernel_rfl) | (rw [if_neg (by decide +kernel)]; exact ⟨rfl, rfl⟩))
  (fun os started H enc _ => TableOps_lifted os started H enc)
end Go.Proofs.YtmefgijobonklaaGreat
