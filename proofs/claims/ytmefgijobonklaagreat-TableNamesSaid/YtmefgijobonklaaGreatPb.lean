/- Part 2 of a proof: TableNames: the closed statement mistlaw21.TableNames (the document's examples of the chapter on tables, and errors) returns true, and changes nothing old. No conditions. -/
import Derived.Scope
import Derived.Deep.Slices
import Derived.ChangeArms
import Derived.Carry
import Derived.Shelf.Spec.SlicesInsert
import Derived.Shelf.Spec.SlicesInsertGrow
import Derived.Shelf.Sort.Plain
import Derived.Shelf.Slices.In.SortNone
import Derived.Test.YtmefgijobonklaaGreatProg
import Derived.KernelRfl
import Derived.Test.YtmefgijobonklaaGreatPa
set_option linter.unusedVariables false
set_option linter.unusedSimpArgs false
set_option linter.unusedSectionVars false
namespace Tw
open Go
section
variable {P : Program} {call : CallT} {site : Nat → Bool} {nt : Nat} {ops : Array Oper} {M0 : Mp} {h0 : List HB} {w0 : World} {S : Nat → St} {I : Nat → Inf}
variable {D : Nat → Prop} {M : Mp} {a : Act} {w : World} {i : Nat} {oi : Oper}
theorem Inv.alloc_none (hZ : Sched P call site nt ops M0 h0 w0 S I) (h : Inv nt ops M0 h0 w0 S I D M a w) {j : Nat} {o : Oper} (hj : ops[j]? = some o) (hd : ¬ D j) {k : Key} (h1 : (S j).get k = none) (h2 : ((S (j + 1)).get k).isSome = true) : M k = none := by
 cases hm : M k with
 | none => rfl
 | some l =>
  obtain ⟨τ, ht, hg, b, h3, _⟩ := h.mem k l hm
  have hlj : j < ops.size := (Array.getElem?_eq_some_iff.1 hj).1
  by_cases hle : τ ≤ j
  ·have := hZ.mono hle (by omega) (k := k) (by simp [h3])
   simp [h1] at this
  ·exact absurd (hg.2.1 j (by omega) ⟨o, hj, .inr ⟨h1, h2⟩⟩) hd
theorem Inv.noconf (hZ : Sched P call site nt ops M0 h0 w0 S I) (h : Inv nt ops M0 h0 w0 S I D M a w) (hi : ops[i]? = some oi) (hnd : ¬ D i) (hw : Waits D oi) {k : Key} {l : Lc} (hk : M k = some l)
  (hs : ((S i).get k).isSome = true) (ht : touches (I i) k) : ∀ j, Wk ops S I k j → ¬ Conf D i j := by
 intro j hwk hc
 have hlj := hwk.lt
 obtain ⟨oj, hj, h1 | ⟨h1, h2⟩⟩ := hwk
 ·exact (h.conf hZ hi hj hnd hw hc).1 k h1 ht
 ·rcases hc with ⟨hlt, hd⟩ | ⟨hlt, hd⟩
  ·have := h.alloc_none hZ hj hd h1 h2
   rw [hk] at this; cases this
  ·have := hZ.mono (k := k) (Nat.le_of_lt hlt) (by omega) hs
   simp [h1] at this
theorem Inv.cur (hZ : Sched P call site nt ops M0 h0 w0 S I) (h : Inv nt ops M0 h0 w0 S I D M a w) (hi : ops[i]? = some oi) (hnd : ¬ D i) (hw : Waits D oi) {k : Key} {l : Lc} (hk : M k = some l)
  (hs : ((S i).get k).isSome = true) (ht : touches (I i) k) : ∃ b, (S i).get k = some b ∧ okBlk (resM M (S i).get).h w b l ∧ (wr b = true → ∀ k' l', k ≠ k' → M k' = some l' → ∀ c ∈ cblocks l, c ∉ cblocks l') := by
 have hli : i < ops.size := (Array.getElem?_eq_some_iff.1 hi).1
 obtain ⟨τ, hτ, hg, b, h1, h2, h3⟩ := h.mem k l hk
 obtain ⟨g1, g2⟩ := hg.le hnd (h.noconf hZ hi hnd hw hk hs ht)
 refine ⟨b, ?_, h2.mono (resM_mle (.refl M) fun k' hk' => hZ.mono g1 (by omega) hk').h fun _ _ => rfl, h3⟩
 rw [hZ.const g1 (by omega) g2, h1]
theorem Inv.slot_at (hZ : Sched P call site nt ops M0 h0 w0 S I) (h : Inv nt ops M0 h0 w0 S I D M a w) (hi : ops[i]? = some oi) (hnd : ¬ D i) (hw : Waits D oi) {t : Nat} (ht : t ∈ oi.looksAt ops) {e : EV}
  (he : lookE t (S i).env = some e) : ER (resM M (S i).get) e (a.tmps.getD t Go.undef) := by
 have hli : i < ops.size := (Array.getElem?_eq_some_iff.1 hi).1
 obtain ⟨τ, hτ, hg, h1⟩ := h.slot t
 obtain ⟨g1, g2⟩ := hg.le hnd fun j hwt hc => by
  obtain ⟨oj, hj, hd⟩ := hwt
  exact (Oper.apart_spec (h.conf hZ hi hj hnd hw hc).2.2.1).1 t hd ht
 rw [hZ.constT g1 (by omega) g2] at he
 exact (h1 e he).mono (resM_mle (.refl M) fun k' hk' => hZ.mono g1 (by omega) hk') fun k l hk => by
  obtain ⟨x1, x2⟩ := resM_some hk
  exact resM_of (hZ.mono g1 (by omega) x1) x2
def plusM (M' M : Mp) : Mp := fun k => match M' k with
 | some l => some l
 | none => M k
theorem inv_step (hC : CallOk P call) (hZ : Sched P call site nt ops M0 h0 w0 S I) (h : Inv nt ops M0 h0 w0 S I D M a w) (hi : ops[i]? = some oi) (hnd : ¬ D i) (hw : Waits D oi)
  {r : Option Nat} {n : Nat} {Q : Exit → Act → World → Prop} {K : Act → World → Prop} (hK : ∀ M' a' w', Inv nt ops M0 h0 w0 S I (fun j => D j ∨ j = i) M' a' w' → a'.defers = a.defers → K a' w') :
  wpOpIn (wideAt r) n P ops Q i K a w := by
 have hli : i < ops.size := (Array.getElem?_eq_some_iff.1 hi).1
 have hS := hZ.step i oi hi
 have hV : Valid (resM M (S i).get) (touches (I i)) (S i).get w := by
  refine ⟨fun k l hk ht => ?_, fun k k' l l' b hne hk hk' ht hb hwr => ?_, fun k l hk => h.inb k l (resM_some hk).2⟩
  ·obtain ⟨x1, x2⟩ := resM_some hk
   obtain ⟨b, h1, h2, _⟩ := h.cur hZ hi hnd hw x2 x1 ht
   exact ⟨b, h1, h2⟩
  ·obtain ⟨x1, x2⟩ := resM_some hk
   obtain ⟨b', h1, _, h3⟩ := h.cur hZ hi hnd hw x2 x1 ht
   rw [hb] at h1; cases h1
   exact h3 hwr k' l' hne (resM_some hk').2
 have hnh : resM M (S i).get (.h (S i).heap.length) = none := by simp [resM, St.get]
 have hnl : resM M (S i).get (.l (S i).loc.length) = none := by simp [resM, St.get]
 have hloc : ∀ j l, resM M (S i).get (.l j) = some l → ∀ k' l', Key.l j ≠ k' → resM M (S i).get k' = some l' → ∀ c ∈ cblocks l, c ∉ cblocks l' := by
  intro j l hj k' l' hne hk'
  obtain ⟨τ, _, _, b, h1, _, h3⟩ := h.mem _ _ (resM_some hj).2
  refine h3 ?_ k' l' hne (resM_some hk').2
  simp only [St.get, Option.map_eq_some_iff] at h1
  obtain ⟨_, _, rfl⟩ := h1
  rfl
 have hE : EnvOn (resM M (S i).get) (S i).env a oi.op.operands := by
  intro x hx e he
  cases x with
  | tmp t => exact h.slot_at hZ hi hnd hw (List.mem_append_left _ (List.mem_filterMap.2 ⟨.tmp t, by simpa using hx, rfl⟩)) he
  | const v =>
   simp only [evO, Option.map_eq_some_iff] at he
   obtain ⟨t, h1, rfl⟩ := he
   exact .val (.of_ofV h1)
  | func f =>
   simp only [evO, Option.some.injEq] at he; subst he
   exact .val (VR.fn (xs := []) (ys := []) rfl (by simp) rfl (by simp))
  | global g => simp [evO] at he
 have hG : GuardOn (resM M (S i).get) (S i).env a.tmps ops oi := by
  intro j want d hg hd e he
  exact h.slot_at hZ hi hnd hw (List.mem_append_right _ (by simp [hg, hd])) he
 refine (step_ok hC hS hV hnh hnl hloc hE hG fun _ ht _ => ht).2 r n Q i K hi fun x w' hst => ?_
 obtain ⟨v, M', he, hp⟩ := hst
 have hX := hp.ext
 have F1 : ∀ k l, M' k = some l → ((S (i + 1)).get k).isSome = true := by
  intro k l hk
  cases hc : (S (i + 1)).get k with
  | some b => rfl
  | none =>
   have hn : k ∉ (I i).ws := fun hin => by
    have := hX.has k (hX.wsub k hin)
    simp [hc] at this
   have := hX.keepM k (.inr hc) hn
   rw [hk] at this
   have := hX.has k (resM_some this.symm).1
   simp [hc] at this
 have F5 : ∀ k l l', M k = some l → M' k = some l' → ((S i).get k).isSome = true := by
  intro k l l' hk hk'
  cases hc : (S i).get k with
  | some b => rfl
  | none =>
   have := h.alloc_none hZ hi hnd hc (F1 k l' hk')
   rw [hk] at this; cases this
 have F4 : Mle M (plusM M' M) := by
  intro k l hk
  cases hm : M' k with
  | none => exact ⟨l, by simp [plusM, hm, hk], .refl l⟩
  | some l' =>
   obtain ⟨l'', h1, h2⟩ := hX.mle k l (resM_of (F5 k l l' hk hm) hk)
   exact ⟨l'', by simp [plusM, h1], h2⟩
 have F2 : ∀ k, ¬ Wk ops S I k i → plusM M' M k = M k := by
  intro k hn
  cases hm : M' k with
  | none => simp [plusM, hm]
  | some l' =>
   cases hc : (S i).get k with
   | none =>
    exact absurd ⟨oi, hi, .inr ⟨hc, F1 k l' hm⟩⟩ hn
   | some b =>
    have h1 := hX.keepM k (.inl (by simp [hc])) fun hin => hn ⟨oi, hi, .inl hin⟩
    rw [hm] at h1
    simp only [plusM, hm, (resM_some h1.symm).2]
 have F6 : Mle M' (resM (plusM M' M) (S (i + 1)).get) := fun k l hk => ⟨l, resM_of (F1 k l hk) (by simp [plusM, hk]), .refl l⟩
 have F7 : ∀ k l, M (.l k) = some l → plusM M' M (.l k) = some l := by
  intro k l hk
  cases hm : M' (.l k) with
  | none => simp [plusM, hm, hk]
  | some l' =>
   have := hp.loc k l (resM_of (F5 _ l l' hk hm) hk)
   simp [plusM, this]
 have hcurW : ∀ k ∈ (I i).ws, ∀ l, M k = some l → ∀ k' l', k ≠ k' → M k' = some l' → ∀ c ∈ cblocks l, c ∉ cblocks l' := by
  intro k hk l hl
  have hs := hX.wsub k hk
  obtain ⟨b, h1, _, h3⟩ := h.cur hZ hi hnd hw hl hs (.inr (.inl hk))
  exact h3 ((hX.wrote k hk).2 b h1)
 have hWM : ∀ k l, Wk ops S I k i → plusM M' M k = some l → M' k = some l ∧ (touches (I i) k ∨ ((S i).get k = none ∧ ((S (i + 1)).get k).isSome = true)) := by
  intro k l hW hk
  obtain ⟨o, ho, h1 | ⟨h1, h2⟩⟩ := hW
  ·obtain ⟨l0, hl0⟩ := Option.isSome_iff_exists.1 (hX.wrote k h1).1
   obtain ⟨l', h2, _⟩ := hX.mle k l0 hl0
   simp only [plusM, h2] at hk
   exact ⟨h2.trans hk, .inl (.inr (.inl h1))⟩
  ·have := h.alloc_none hZ hi hnd h1 h2
   cases hm : M' k with
   | none => simp [plusM, hm, this] at hk
   | some l' => simp only [plusM, hm] at hk; exact ⟨hk, .inr ⟨h1, h2⟩⟩
 have hncW : ∀ k, Wk ops S I k i → ∀ j, Wk ops S I k j → ¬ Conf D i j := by
  intro k hW
  obtain ⟨o, ho, h1 | ⟨h1, h2⟩⟩ := hW
  ·obtain ⟨l0, hl0⟩ := Option.isSome_iff_exists.1 (hX.wrote k h1).1
   exact h.noconf hZ hi hnd hw (resM_some hl0).2 (hX.wsub k h1) (.inr (.inl h1))
  ·intro j hwk hc
   have hlj := hwk.lt
   obtain ⟨oj, hj, g1 | ⟨g1, g2⟩⟩ := hwk
   ·have hsj := hZ.wsub hj g1
    rcases hc with ⟨hlt, hd⟩ | ⟨hlt, hd⟩
    ·have := hZ.mono (k := k) (Nat.le_of_lt hlt) (by omega) hsj
     simp [h1] at this
    ·have := h.wdone j oj k hj hd g1
     rw [h.alloc_none hZ hi hnd h1 h2] at this
     cases this
   ·rcases hc with ⟨hlt, hd⟩ | ⟨hlt, hd⟩
    ·have := hZ.mono (k := k) (i := j + 1) (j := i) hlt (by omega) g2
     simp [h1] at this
    ·have := hZ.mono (k := k) (i := i + 1) (j := j) hlt (by omega) h2
     simp [g1] at this
 refine hK (plusM M' M) _ w' ?_ defers_put
 refine
  {closed := fun j o ho hd e hm hb => ?_
   size := by rw [size_put]; exact h.size
   mem := fun k l hk => ?_
   inb := fun k l hk c hc => ?_
   slot := fun t => ?_
   wdone := fun j o k ho hd hk => ?_
   mle := h.mle.trans F4
   frame := fun c hc hf => ?_
   keepM := fun k hk hn => ?_
   fresh := fun k l hk c hc hlt => ?_
   hsize := Nat.le_trans h.hsize hX.size
   os := hX.os.trans h.os
   output := hX.output.trans h.output
   tape := hX.tape.trans h.tape
   marks := fun d hd => by
    rw [defers_put] at hd
    obtain ⟨k, r, h1, h2, h3, h4, h5⟩ := h.marks d hd
    obtain ⟨l', g1, g2⟩ := F4 _ _ h3
    have hl : l' = .obj r := by
     cases l' with
     | cells ls => exact g2.elim
     | obj r' => cases g2; rfl
    refine ⟨k, r, h1, h2, by rw [g1, hl], h4, ?_⟩
    rw [hX.frame r (Array.getElem?_eq_some_iff.1 h5).1 fun k' hk' l0 hl0 hc => ?_, h5]
    have hne : k' ≠ .h k := fun e => by
     have := (hX.wrote _ hk').2 _ (e ▸ h4 i (by omega))
     cases this
    exact hcurW k' hk' l0 (resM_some hl0).2 _ _ hne h3 r hc (by simp [cblocks])
   apart := by rw [defers_put]; exact h.apart }
 ·rcases hd with hd | rfl
  ·exact .inl (h.closed j o ho hd e hm hb)
  ·rw [hi] at ho; cases ho
   exact .inl (hw e hm hb)
 ·by_cases hW : Wk ops S I k i
  ·obtain ⟨hm, hD⟩ := hWM k l hW hk
   obtain ⟨b, h1, h2⟩ := hp.val.ok k l hm hD
   refine ⟨i + 1, by omega, Good.next hW (hncW k hW), b, h1, h2.mono F6.h fun _ _ => rfl, fun hwr k' l' hne hk' => ?_⟩
   cases hm' : M' k' with
   | some l'' =>
    simp only [plusM, hm'] at hk'
    cases hk'
    exact hp.val.own k k' l l' b hne hm hm' hD h1 hwr
   | none =>
    simp only [plusM, hm'] at hk'
    intro c hc hc'
    obtain ⟨l0, g1, g2⟩ := hX.fresh k l hm c hc (h.inb k' l' hk' c hc')
    obtain ⟨g3, g4⟩ := resM_some g1
    obtain ⟨o, ho, g5 | ⟨g5, _⟩⟩ := hW
    ·exact hcurW k g5 l0 g4 k' l' hne hk' c g2 hc'
    ·simp [g5] at g3
  ·rw [F2 k hW] at hk
   obtain ⟨τ, hτ, hg, b, h1, h2, h3⟩ := h.mem k l hk
   refine ⟨τ, hτ, hg.other hW, b, h1, h2.mono (resM_mle F4 fun _ hs => hs).h fun c hc => ?_, fun hwr k' l' hne hk' => ?_⟩
   ·refine hX.frame c (h.inb k l hk c hc) fun k'' hk'' l'' hl'' hc'' => ?_
    have hne : k'' ≠ k := fun e => hW ⟨oi, hi, .inl (e ▸ hk'')⟩
    exact hcurW k'' hk'' l'' (resM_some hl'').2 k l hne hk c hc'' hc
   ·cases hm' : M' k' with
    | some l'' =>
     simp only [plusM, hm'] at hk'
     cases hk'
     intro c hc hc'
     obtain ⟨l0, g1, g2⟩ := hX.fresh k' l' hm' c hc' (h.inb k l hk c hc)
     exact h3 hwr k' l0 hne (resM_some g1).2 c hc g2
    | none =>
     simp only [plusM, hm'] at hk'
     exact h3 hwr k' l' hne hk'
 ·cases hm : M' k with
  | some l' =>
   simp only [plusM, hm] at hk
   cases hk
   exact hp.val.inb k l hm c hc
  | none =>
   simp only [plusM, hm] at hk
   exact Nat.lt_of_lt_of_le (h.inb k l hk c hc) hX.size
 ·by_cases hT : oi.dst = some t
  ·refine ⟨i + 1, by omega, Good.next (W := Wt ops t) ⟨oi, hi, hT⟩ (fun j hwt hc => ?_), fun e hl => ?_⟩
   ·obtain ⟨oj, hj, hd⟩ := hwt
    exact (Oper.apart_spec (h.conf hZ hi hj hnd hw hc).2.2.2).2.1 t hT hd
   ·rw [he, lookE_put, if_pos hT] at hl
    cases hl
    have h1 := hS.dst hT
    have h2 := h.size
    rw [getD_put, if_pos ⟨hT, by omega⟩]
    exact hp.er.mono F6 fun k l hk => resM_of (F1 _ l hk) (by simp [plusM, hk])
  ·obtain ⟨τ, hτ, hg, h1⟩ := h.slot t
   refine ⟨τ, hτ, hg.other fun ⟨o, ho, hd⟩ => ?_, fun e hl => ?_⟩
   ·rw [hi] at ho; cases ho; exact hT hd
   ·rw [getD_put, if_neg fun hh => hT hh.1]
    refine (h1 e hl).mono (resM_mle F4 fun _ hs => hs) fun k l hk => ?_
    obtain ⟨g1, g2⟩ := resM_some hk
    exact resM_of g1 (F7 k l g2)
 ·have hM : ∀ k, (M k).isSome = true → (plusM M' M k).isSome = true := by
   intro k hk
   obtain ⟨l, hl⟩ := Option.isSome_iff_exists.1 hk
   obtain ⟨l', h1, _⟩ := F4 k l hl
   simp [h1]
  rcases hd with hd | rfl
  ·exact hM k (h.wdone j o k ho hd hk)
  ·obtain ⟨l0, hl0⟩ := Option.isSome_iff_exists.1 (hX.wrote k hk).1
   exact hM k (by simp [(resM_some hl0).2])
 ·rw [← h.frame c hc hf]
  refine hX.frame c (Nat.lt_of_lt_of_le hc h.hsize) fun k hk l hl hcl => ?_
  obtain ⟨l0, h1, h2⟩ := h.fresh k l (resM_some hl).2 c hcl hc
  exact hf k (hZ.ws_in hi hk (hZ.base.val.has h1)) l0 h1 h2
 ·rw [← h.keepM k hk hn]
  refine F2 k fun hW => ?_
  obtain ⟨o, ho, h1 | ⟨h1, h2⟩⟩ := hW
  ·rcases hk with hk | hk
   ·exact hn (hZ.ws_in hi h1 hk)
   ·have := hZ.mono (k := k) (i := i) (Nat.le_of_lt hli) (Nat.le_refl _) (hX.wsub k h1)
    simp [hk] at this
  ·rcases hk with hk | hk
   ·have := hZ.old (Nat.le_of_lt hli) hk
    simp [h1] at this
   ·have := hZ.mono (k := k) (i := i + 1) hli (Nat.le_refl _) h2
    simp [hk] at this
 ·cases hm : M' k with
  | some l' =>
   simp only [plusM, hm] at hk
   cases hk
   obtain ⟨l0, h1, h2⟩ := hX.fresh k l hm c hc (Nat.lt_of_lt_of_le hlt h.hsize)
   exact h.fresh k l0 (resM_some h1).2 c h2 hlt
  | none =>
   simp only [plusM, hm] at hk
   exact h.fresh k l hk c hc hlt
def und (listed : Array Bool) : Nat → Nat
 | 0 => 0
 | k + 1 => und listed k + if listed.getD k false = true then 0 else 1
theorem und_le (listed : Array Bool) : ∀ k, und listed k ≤ k
 | 0 => Nat.le_refl _
 | k + 1 => by have := und_le listed k; simp only [und]; split <;> omega
theorem und_zero {listed : Array Bool} : ∀ {k : Nat}, und listed k = 0 → ∀ j, j < k → listed.getD j false = true
 | 0, _, j, hj => by omega
 | k + 1, h, j, hj => by
  simp only [und] at h
  by_cases he : j = k
  ·subst he
   split at h
   ·assumption
   ·omega
  ·exact und_zero (k := k) (by omega) j (by omega)
theorem getD_set {listed : Array Bool} {i : Nat} (hi : i < listed.size) (j : Nat) : (listed.setIfInBounds i true).getD j false = if j = i then true else listed.getD j false := by
 simp only [Array.getD_eq_getD_getElem?, Array.getElem?_setIfInBounds]
 by_cases h : i = j
 ·subst h; simp [hi]
 ·simp [h, Ne.symm h]
theorem und_set {listed : Array Bool} {i : Nat} (hi : i < listed.size) (hn : listed.getD i false = false) : ∀ k, und (listed.setIfInBounds i true) k + (if i < k then 1 else 0) = und listed k
 | 0 => by simp [und]
 | k + 1 => by
  have ih := und_set hi hn k
  simp only [und, getD_set hi]
  by_cases he : k = i
  ·subst he
   simp only [if_true, hn]
   simp at ih ⊢
   omega
  ·simp only [he, if_false]
   by_cases hlt : i < k
   ·rw [if_pos hlt] at ih
    rw [if_pos (by omega : i < k + 1)]
    omega
   ·rw [if_neg hlt] at ih
    rw [if_neg (by omega : ¬ i < k + 1)]
    omega
theorem ready_spec {listed : Array Bool} (hsz : listed.size = ops.size) {i : Nat} : i ∈ Region.ready .any ops listed ↔ ∃ o, ops[i]? = some o ∧ listed.getD i false = false ∧ Waits (fun j => listed.getD j false = true) o := by
 simp only [Region.ready, List.mem_filter, List.mem_range, Bool.and_eq_true]
 constructor
 ·rintro ⟨h1, h2, h3⟩
  refine ⟨ops[i], Array.getElem?_eq_getElem h1, ?_, ?_⟩
  ·have hl : i < listed.size := by omega
   simp only [Array.getD, hl, dite_true] at h2 ⊢
   simpa using h2
  ·intro e he hb
   rw [Array.getElem?_eq_getElem h1] at h3
   simp only [Option.map_some, Option.getD_some, Array.all_eq_true_iff_forall_mem] at h3
   have := h3 e he
   simpa [hb] using this
 ·rintro ⟨o, ho, h2, h3⟩
  have h1 : i < ops.size := (Array.getElem?_eq_some_iff.1 ho).1
  refine ⟨h1, ?_, ?_⟩
  ·have hl : i < listed.size := by omega
   simp only [Array.getD, hl, dite_true] at h2 ⊢
   simpa using h2
  ·rw [ho]
   simp only [Option.map_some, Option.getD_some, Array.all_eq_true_iff_forall_mem]
   intro e he
   cases hb : Region.binds .any e with
   | false => rfl
   | true => simpa using h3 e he hb
theorem any_ok (hC : CallOk P call) (hZ : Sched P call site nt ops M0 h0 w0 S I) {r : Option Nat} {n : Nat} {Q : Exit → Act → World → Prop} {ds : List Deferred}
  (hQ : ∀ M' a' w', Rel M0 h0 w0 nt M' (S ops.size) a' w' → a'.defers = ds → Q .normal a' w') : ∀ (fuel : Nat) (listed : Array Bool) (M : Mp) (a : Act) (w : World), listed.size = ops.size →
  Inv nt ops M0 h0 w0 S I (fun j => listed.getD j false = true) M a w → und listed ops.size ≤ fuel → a.defers = ds → wpAnyIn (wideAt r) n P .any ops Q fuel listed a w := by
 intro fuel
 have hall : ∀ (listed : Array Bool), listed.size = ops.size → Region.ready .any ops listed = [] → ∀ j, j < ops.size → listed.getD j false = true := by
  intro listed hsz hr j
  induction j using Nat.strongRecOn with
  | _ j ih =>
   intro hj
   cases hd : listed.getD j false with
   | true => rfl
   | false =>
    have : j ∈ Region.ready .any ops listed := (ready_spec hsz).2 ⟨ops[j], Array.getElem?_eq_getElem hj, hd, fun e he hb => by
     have hlt := static_acyc hZ.stat (i := j) (o := ops[j]) (by simp) he hb
     exact ih e.on hlt (by omega)⟩
    rw [hr] at this; cases this
 induction fuel with
 | zero =>
  intro listed M a w hsz hI hu hd
  have hz := und_zero (Nat.le_zero.1 hu)
  refine ⟨?_, hQ M a w (inv_end hZ hI hz) hd⟩
  refine List.eq_nil_iff_forall_not_mem.2 fun i hi => ?_
  obtain ⟨o, ho, h1, _⟩ := (ready_spec hsz).1 hi
  rw [hz i (Array.getElem?_eq_some_iff.1 ho).1] at h1
  cases h1
 | succ fuel ih =>
  intro listed M a w hsz hI hu hd
  refine ⟨fun hr => hQ M a w (inv_end hZ hI (hall listed hsz hr)) hd, fun i hi => ?_⟩
  obtain ⟨o, ho, h1, h2⟩ := (ready_spec hsz).1 hi
  have hli : i < ops.size := (Array.getElem?_eq_some_iff.1 ho).1
  refine inv_step hC hZ hI ho (by simp [h1]) h2 fun M' a' w' hI' hd' => ih _ M' a' w' (by simp [hsz]) ?_ ?_ (hd'.trans hd)
  ·have : (fun j => (listed.setIfInBounds i true).getD j false = true) = fun j => listed.getD j false = true ∨ j = i := by
    funext j
    rw [getD_set (by omega)]
    by_cases he : j = i
    ·simp [he]
    ·simp [he]
   rw [this]; exact hI'
  ·have := und_set (listed := listed) (i := i) (by omega) h1 ops.size
   rw [if_pos hli] at this
   omega
theorem drawReg_ok (hC : CallOk P call) (hB : Base M0 h0 w0) (hm : P.follows .mixedOrders = true) {r : Option Nat} {n : Nat} {Q : Exit → Act → World → Prop} {id : Nat} {s s' : St} {is : List Inf} {M : Mp} {a : Act} {w : World}
  (h : runOps P call site h0.length nt ops ops.toList s = some (s', is)) (hs : staticOk ops.toList = true) (hd : dynOk is (hotPairs ops.toList) = true) (hR : Rel M0 h0 w0 nt M s a w)
  (hQ : ∀ M' a' w', Rel M0 h0 w0 nt M' s' a' w' → a'.defers = a.defers → Q .normal a' w') : (Code.region id ops true).wpIn (wideAt r) n P Q a w := by
 obtain ⟨S, I, e1, e2, hZ⟩ := sched_of hC hB h hR hs hd
 refine wpIn_region_any hm ?_
 have hR' : Rel M0 h0 w0 nt M (S 0) a { w with drawn := w.drawn + 1 } := by
  rw [e1]
  exact ⟨hR.val.of_heap rfl, hR.ext.drew rfl rfl rfl rfl, hR.env, hR.size, hR.marks, hR.apart⟩
 refine any_ok hC hZ (ds := a.defers) (fun M' a' w' hr hd => hQ M' a' w' (by rw [e2] at hr; exact hr) hd) ops.size _ M a _ (by simp) ?_ (und_le _ _) rfl
 have : (fun j => (Array.replicate ops.size false).getD j false = true) = fun _ => False := by
  funext j
  simp only [Array.getD_eq_getD_getElem?, Array.getElem?_replicate]
  split <;> simp
 rw [this]
 exact inv_start hZ hR'
end
end Tw
namespace Tw
open Go
theorem wpIn_scope {F : Fence} {n : Nat} {P : Program} {Q : Exit → Act → World → Prop} {a : Act} {w : World} {c : Code} (h : c.wpIn F n P (Exit.noGoto Q) a w) : (Code.scope c).wpIn F n P Q a w := by
 intro b k cs hro hb hr
 have h0 : (lone (b.atR a (.code (.scope c) :: k)) cs w).fenced P F := fenced_calm hb hr rfl
 have s0 : step P (lone (b.atR a (.code (.scope c) :: k)) cs w) = .next (lone (b.atR a (.code c :: .inScope c :: k)) cs w) := step_lone_go (by simp [stepG, stepG.exec, Frame.atR])
 have s1 : ∀ a1 w1, step P (lone (b.atR a1 (.inScope c :: k)) cs w1) = .next (lone (b.atR a1 k) cs w1) := fun a1 w1 => step_lone_go (by simp [stepG, stepG.exec, Frame.atR])
 obtain ⟨e, a₁, w₁, hq, harr⟩ := h b (.inScope c :: k) cs hro hb hr
 cases e with
 | normal => exact ⟨.normal, a₁, w₁, hq, .head h0 s0 (StepsIn.trans harr (.one (fenced_calm hb hr rfl) (s1 _ _)))⟩
 | exit id' =>
  have hx : exitTo id' (.inScope c :: k) = exitTo id' k := by simp [exitTo]
  exact ⟨.exit id', a₁, w₁, hq, fun k' hk => .head h0 s0 (harr.1 k' (by rw [hx]; exact hk)),
   fun hr' hk => let ⟨k₁, h1, h2⟩ := harr.2 hr' (by rw [hx]; exact hk); ⟨k₁, h1, .head h0 s0 h2⟩⟩
 | goto l => exact hq.elim
 | ret => exact ⟨_, a₁, w₁, hq, .of_steps (.one h0 s0) harr⟩
 | panic ch => exact ⟨_, a₁, w₁, hq, .of_steps (.one h0 s0) harr⟩
 | outgrown => exact ⟨_, a₁, w₁, hq, .of_steps (.one h0 s0) harr⟩
def exOf : Ex → Exit
 | .norm => .normal
 | .exit id => .exit id
 | .ret => .ret
theorem lookE_pick {t : Nat} {e : EV} {env : List (Nat × EV)} : ∀ {live : List Nat}, lookE t (pick live env) = some e → lookE t env = some e
 | [], h => by simp [pick, lookE] at h
 | x :: r, h => by
  simp only [pick] at h
  split at h
  ·rename_i v hv
   simp only [lookE] at h
   split at h
   ·rename_i hx; subst hx; rw [hv, h]
   ·exact lookE_pick h
  ·exact lookE_pick h
theorem top_lt {t k off : Nat} : ∀ {env : List (Nat × EV)}, lookE t env = some (.loc k off) → k < topL env
 | [], h => by simp [lookE] at h
 | (x, v) :: r, h => by
  simp only [lookE] at h
  split at h
  ·cases h
   simp only [topL]; omega
  ·have := top_lt h
   cases v <;> simp only [topL] <;> omega
section
variable {M0 : Mp} {h0 : List HB} {w0 : World} {nt : Nat} {M : Mp} {s : St} {a : Act} {w : World}
theorem Rel.pick (hR : Rel M0 h0 w0 nt M s a w) (live : List Nat) : Rel M0 h0 w0 nt M { s with env := Tw.pick live s.env } a w := by
 have hg : St.get { s with env := Tw.pick live s.env } = s.get := getEnv s _ _
 refine ⟨by rw [hg]; exact hR.val, by rw [hg]; exact hR.ext, fun t e h => hR.env t e (lookE_pick h), hR.size, ?_, hR.apart⟩
 rw [hg]; exact hR.marks
def topM (n : Nat) (M : Mp) : Mp
 | .h b => M (.h b)
 | .l j => if j < n then M (.l j) else none
theorem Rel.head (hB : Base M0 h0 w0) (hR : Rel M0 h0 w0 nt M s a w) (live : List Nat) : Rel M0 h0 w0 nt (topM (topL (Tw.pick live s.env)) M) (atHead live s) a w := by
 have hR := hR.pick live
 generalize he : Tw.pick live s.env = env at hR ⊢
 have hs : atHead live s = { s with env := env, loc := s.loc.take (topL env) } := by simp [atHead, he]
 rw [hs]
 have hsub : ∀ k l, topM (topL env) M k = some l → M k = some l := by
  intro k l h
  cases k with
  | h b => exact h
  | l j =>
   simp only [topM] at h
   split at h
   ·exact h
   ·cases h
 have hget : ∀ k l, topM (topL env) M k = some l → St.get { s with env := env, loc := s.loc.take (topL env) } k = St.get { s with env := env } k := by
  intro k l h
  cases k with
  | h b => rfl
  | l j =>
   simp only [topM] at h
   split at h
   ·rename_i hj
    simp [St.get, hj]
   ·cases h
 refine ⟨⟨?_, ?_, fun k l hk => hR.val.inb k l (hsub k l hk)⟩, ?_, ?_, hR.size, ?_, hR.apart⟩
 ·intro k l hk _
  obtain ⟨b, h1, h2⟩ := hR.val.ok k l (hsub k l hk) trivial
  exact ⟨b, by rw [hget k l hk]; exact h1, h2⟩
 ·intro k k' l l' b hne hk hk' _ hb hw
  rw [hget k l hk] at hb
  exact hR.val.own k k' l l' b hne (hsub k l hk) (hsub k' l' hk') trivial hb hw
 ·have hX := hR.ext
  have hk : ∀ k, (ctH h0 k).isSome = true → ∃ b, k = .h b := fun k h => let ⟨b, e, _⟩ := ctH_some h; ⟨b, e⟩
  exact
   {mle := fun k l h => by
     cases k with
     | l j => rw [hB.loc j] at h; cases h
     | h b => exact hX.mle _ _ h
    frame := hX.frame
    keep := fun k h hn => by obtain ⟨b, rfl⟩ := hk k h; exact hX.keep _ h hn
    keepM := fun k h hn => by
     cases k with
     | h b => exact hX.keepM (.h b) h hn
     | l j =>
      rw [hB.loc j]
      simp only [topM]
      split
      ·rename_i hj
       cases hm : M (.l j) with
       | none => rfl
       | some l =>
        have h1 := hR.val.has hm
        rcases h with h | h
        ·obtain ⟨b, hb⟩ := hk _ h; cases hb
        ·have := hget (.l j) l (by simp [topM, hj, hm])
         rw [h] at this
         rw [← this] at h1; cases h1
      ·rfl
    fresh := fun k l h => hX.fresh k l (hsub k l h)
    size := hX.size
    has := fun k h => by obtain ⟨b, rfl⟩ := hk k h; exact hX.has _ h
    wsub := hX.wsub
    wrote := hX.wrote
    os := hX.os
    output := hX.output
    tape := hX.tape }
 ·intro t e h
  have := hR.env t e h
  generalize a.tmps.getD t Go.undef = z at this
  cases this with
  | val hv => exact .val hv
  | undef => exact .undef
  | loc hm hb =>
   have hlt := top_lt (env := env) h
   exact .loc (by simp [topM, hlt, hm]) hb
 ·intro d hd
  obtain ⟨k, r, h1, h2, h3, h4, h5⟩ := hR.marks d hd
  exact ⟨k, r, h1, h2, h3, h4, h5⟩
theorem push_ok (hV : Valid M allK s.get w) (b : HB) (o : Obj) (hok : okBlk (updM M (.h s.heap.length) (.obj w.heap.size)).h (w.alloc o) b (.obj w.heap.size)) :
  Valid (updM M (.h s.heap.length) (.obj w.heap.size)) allK (St.get { s with heap := s.heap ++ [b] }) (w.alloc o) ∧
  Ext M s.get w (updM M (.h s.heap.length) (.obj w.heap.size)) (St.get { s with heap := s.heap ++ [b] }) (w.alloc o) [] ∧ M (.h s.heap.length) = none := by
 have hget : s.get (.h s.heap.length) = none := by simp [St.get]
 have hnh : M (.h s.heap.length) = none := by
  cases h : M (.h s.heap.length) with
  | none => rfl
  | some l => have := hV.has h; simp [hget] at this
 have hle : Mle M (updM M (.h s.heap.length) (.obj w.heap.size)) := updM_le fun l0 h0 => by rw [hnh] at h0; cases h0
 have hframe : ∀ c, c < w.heap.size → c ∉ cblocks (.obj w.heap.size) → (w.alloc o).heap[c]? = w.heap[c]? := fun c hc _ => allocOld w _ c hc
 have hnew : ∀ c ∈ cblocks (.obj w.heap.size), (∃ l0, M (.h s.heap.length) = some l0 ∧ c ∈ cblocks l0) ∨ w.heap.size ≤ c := fun c hc => .inr (by simp [cblocks] at hc; omega)
 rw [get_push]
 exact ⟨hV.upd _ _ _ (fun j _ => .inl trivial) (fun l0 h0 => by rw [hnh] at h0; cases h0) hframe hnew (by simp) hok,
  Ext.upd _ _ _ [] (.inr ⟨hget, hnh, rfl⟩) hle hframe hnew (by simp) rfl rfl rfl, hnh⟩
theorem objset_ok (hV : Valid M allK s.get w) {k r : Nat} {b b' : HB} {o' : Obj} (hm : M (.h k) = some (.obj r)) (hb : s.heap[k]? = some b) (hw : wr b = true)
  (hok : okBlk M.h { w with heap := w.heap.setIfInBounds r o' } b' (.obj r)) :
  Valid M allK (St.get { s with heap := s.heap.set k b' }) { w with heap := w.heap.setIfInBounds r o' } ∧
  Ext M s.get w M (St.get { s with heap := s.heap.set k b' }) { w with heap := w.heap.setIfInBounds r o' } [.h k] := by
 have hg : s.get (.h k) = some b := by simp [St.get, hb]
 have hbl := (List.getElem?_eq_some_iff.1 hb).1
 have hself : updM M (.h k) (.obj r) = M := updM_self hm
 have hframe : ∀ c, c < w.heap.size → c ∉ cblocks (.obj r) → (w.heap.setIfInBounds r o')[c]? = w.heap[c]? := fun c _ hc => by
  rw [Array.getElem?_setIfInBounds, if_neg (by simp [cblocks] at hc; omega)]
 have hnew : ∀ c ∈ cblocks (.obj r), (∃ l0, M (.h k) = some l0 ∧ c ∈ cblocks l0) ∨ w.heap.size ≤ c := fun c hc => .inl ⟨_, hm, hc⟩
 rw [get_set s k _ hbl]
 constructor
 ·have := hV.upd (D' := allK) (w' := { w with heap := w.heap.setIfInBounds r o' }) (.h k) b' (.obj r) (fun j hj => .inl hj) (fun l0 h0 => by
   rw [hm] at h0; cases h0
   exact ⟨trivial, .refl _, fun b0 hb0 => by rw [hg] at hb0; cases hb0; exact hw⟩) hframe hnew (by simp) (by rw [hself]; exact hok)
  rwa [hself] at this
 ·have := Ext.upd (M := M) (C := s.get) (w := w) (w' := { w with heap := w.heap.setIfInBounds r o' }) (.h k) b' (.obj r) [.h k] (.inl ⟨by simp [hg], rfl, by simp [hm], fun b0 hb0 => by rw [hg] at hb0; cases hb0; exact hw⟩) (by rw [hself]; exact .refl _) hframe hnew (by simp) rfl rfl rfl
  rwa [hself] at this
theorem Rel.next (hB : Base M0 h0 w0) (hR : Rel M0 h0 w0 nt M s a w) {M' : Mp} {s' : St} {w' : World} {ks : List Key} (hV : Valid M' allK s'.get w') (hX : Ext M s.get w M' s'.get w' ks)
  (he : s'.env = s.env) (hws : s'.ws = addKs h0.length ks s.ws) (hl : ∀ k l, M (.l k) = some l → M' (.l k) = some l) : Rel M0 h0 w0 nt M' s' a w' := by
 refine ⟨hV, ?_, ?_, hR.size, marks_ext hR hX, hR.apart⟩
 ·refine hR.ext.trans hX (fun k l hk => hB.val.has hk) (fun k hk hin => ?_) (fun k hk => ?_)
  ·obtain ⟨b, rfl, hb⟩ := ctH_some hk
   rw [hws]
   refine List.mem_map.2 ⟨b, mem_addKs.2 ?_, rfl⟩
   rcases hin with h1 | h1
   ·obtain ⟨b', h2, h3⟩ := List.mem_map.1 h1
    cases h3; exact .inl h2
   ·exact .inr ⟨h1, hb⟩
  ·rw [hws] at hk
   obtain ⟨b, hb, rfl⟩ := List.mem_map.1 hk
   rcases mem_addKs.1 hb with h1 | ⟨h1, h2⟩
   ·have : Key.h b ∈ s.ws.map .h := List.mem_map.2 ⟨b, h1, rfl⟩
    exact ⟨hR.ext.wsub _ this, .inl this⟩
   ·exact ⟨ctH_of h2, .inr h1⟩
 ·rw [he]
  intro t e h
  exact (hR.env t e h).mono hX.mle hl
theorem Rel.long (hR : Rel M0 h0 w0 nt M s a w) : h0.length ≤ s.heap.length := by
 refine Nat.le_of_not_lt fun h => ?_
 have := hR.ext.has _ (ctH_of h)
 simp [St.get] at this
end
end Tw
namespace Tw
open Go
theorem least {J : Nat → Prop} (h : ∃ k, J k) : ∃ k, J k ∧ ∀ j, J j → k ≤ j := by
 obtain ⟨k, hk⟩ := h
 induction k using Nat.strongRecOn with
 | _ k ih =>
  by_cases hj : ∃ j, j < k ∧ J j
  ·obtain ⟨j, h1, h2⟩ := hj
   exact ih j h1 h2
  ·exact ⟨k, hk, fun j h => Nat.le_of_not_lt fun hlt => hj ⟨j, hlt, h⟩⟩
noncomputable def leastOf (J : Nat → Prop) : Nat := open Classical in if h : ∃ k, J k then Classical.choose (least h) else 0
theorem leastOf_spec {J : Nat → Prop} (h : ∃ k, J k) : J (leastOf J) ∧ ∀ j, J j → leastOf J ≤ j := by
 unfold leastOf
 rw [dif_pos h]
 exact Classical.choose_spec (least h)
section
variable {P : Program} {T : Tab} {call : CallT} {L f : Nat} {rnd : Bool} {nt : Nat} {M0 : Mp} {h0 : List HB} {w0 : World} {r : Option Nat}
def ExecOk (P : Program) (M0 : Mp) (h0 : List HB) (w0 : World) (nt : Nat) (r : Option Nat) (c : Code) (s : St) (e : Ex) (s' : St) : Prop :=
 ∀ (n : Nat) (Q : Exit → Act → World → Prop) (M : Mp) (a : Act) (w : World), Rel M0 h0 w0 nt M s a w → (∀ M' a' w', Rel M0 h0 w0 nt M' s' a' w' → Q (exOf e) a' w') → c.wpIn (wideAt r) n P Q a w
theorem loop_ok (hB : Base M0 h0 w0) {c : Code} {live : List Nat} {g : St → Option (Ex × St)} (ih : ∀ s e s', g s = some (e, s') → ExecOk P M0 h0 w0 nt r c (atHead live s) e s') {k : Nat} {s : St} {e : Ex} {s' : St}
  (h : iter g k s = some (e, s')) : ExecOk P M0 h0 w0 nt r (.loop c) s e s' := by
 intro n Q M a w hR hQ
 let J : Act → World → Nat → Prop := fun a w k => ∃ s M, iter g k s = some (e, s') ∧ Rel M0 h0 w0 nt M s a w
 refine wpIn_loop (fun a w => ∃ k, J a w k) (fun a w => leastOf (J a w)) ⟨k, s, M, h, hR⟩ ?_
 intro a1 w1 hI
 obtain ⟨⟨s1, M1, hit, hR1⟩, _⟩ := leastOf_spec hI
 generalize leastOf (J a1 w1) = k1 at hit ⊢
 cases k1 with
 | zero => simp [iter] at hit
 | succ k1 =>
  simp only [iter] at hit
  split at hit
  ·rename_i s2 hg
   refine ih s1 .norm s2 hg n _ _ a1 w1 (hR1.head hB live) fun M2 a2 w2 hR2 => ?_
   have hJ : J a2 w2 k1 := ⟨s2, M2, hit, hR2⟩
   exact ⟨⟨k1, hJ⟩, Nat.lt_succ_of_le ((leastOf_spec ⟨k1, hJ⟩).2 k1 hJ)⟩
  ·rename_i hne
   refine ih s1 e s' hit n _ _ a1 w1 (hR1.head hB live) fun M2 a2 w2 hR2 => ?_
   cases e with
   | norm => exact (hne s' hit).elim
   | exit id => exact hQ M2 a2 w2 hR2
   | ret => exact hQ M2 a2 w2 hR2
theorem all_isVal {env : List (Nat × EV)} (h : env.all isVal = true) {t : Nat} {e : EV} (hl : lookE t env = some e) : (∃ v, e = .val v) ∨ e = .undef := by
 induction env with
 | nil => simp [lookE] at hl
 | cons x r ih =>
  obtain ⟨k, v⟩ := x
  simp only [List.all_cons, Bool.and_eq_true] at h
  simp only [lookE] at hl
  split at hl
  ·cases hl
   cases e with
   | val v => exact .inl ⟨v, rfl⟩
   | undef => exact .inr rfl
   | loc k off => simp [isVal] at h
  ·exact ih h.2 hl
theorem range_ok (hC : CallOk P call) (hB : Base M0 h0 w0) {g : Operand} {ps : Array Tmp} {asg body : Code} {s s' : St} {e : Ex} {f1 : FuncId} {a1 b1 : List TV} {v : TV} {h : List HB} {ws : List Nat} {rd : Bool} {f2 nt2 : Nat} {e2 : List (Nat × EV)} {ps2 : List Nat} {a2 b2 : Code} {pend : Option Code}
  (hg : tvO s.env g = some (.fn f1 a1 b1)) (hv : s.env.all isVal = true) (hcall : call (.fn f1 a1 b1) [.yld (s.heap.length + 1)] (s.heap ++ [.mark, .loop true f nt s.env ps.toList asg body none]) = some (v, h, ws))
  (hh : h[s.heap.length + 1]? = some (.loop rd f2 nt2 e2 ps2 a2 b2 pend)) (hj : jumpT rd pend = some e)
  (hs : s' = { s with heap := h.set (s.heap.length + 1) (.loop false f2 nt2 e2 ps2 a2 b2 (some .skip)), ws := addKs h0.length (ws.map .h) s.ws }) :
  ExecOk P M0 h0 w0 nt none (.rangeFunc g ps asg body) s e s' := by
 intro n Q M a w hR hQ
 refine wpIn_rangeFunc fun fn _ => ?_
 let lp : Loop := { state := .ready, pending := none, fn := fn, tmps := a.tmps, params := ps, assign := asg, body := body, defers := w.heap.size }
 let w1 := (w.alloc (.deferred (some []))).alloc (.loop lp)
 obtain ⟨v1, x1, n1⟩ := push_ok hR.val .mark (.deferred (some [])) (show w.heap.size < (w.alloc _).heap.size by simp)
 let M1 := updM M (.h s.heap.length) (.obj w.heap.size)
 let s1 : St := { s with heap := s.heap ++ [.mark] }
 have hR1 : Rel M0 h0 w0 nt M1 s1 a (w.alloc (.deferred (some []))) := hR.next hB v1 x1 rfl rfl (updM_loc n1)
 have hlen1 : s1.heap.length = s.heap.length + 1 := by simp [s1]
 have hsz1 : (w.alloc (.deferred (some []))).heap.size = w.heap.size + 1 := by simp
 have hok2 : okBlk (updM M1 (.h s1.heap.length) (.obj (w.alloc (.deferred (some []))).heap.size)).h w1 (.loop true f nt s.env ps.toList asg body none) (.obj (w.alloc (.deferred (some []))).heap.size) := by
  refine ⟨lp, heap_alloc_new _ _, ?_⟩
  exact
   {ps := rfl, asg := rfl, body := rfl, size := hR.size
    envR := fun t v hl => by
     have h1 := (hR1.env t _ hl).inv_val
     have hm : Mle M1 (updM M1 (.h s1.heap.length) (.obj (w.alloc (.deferred (some []))).heap.size)) := updM_le fun l0 h0 => by
      rw [hR1.nh] at h0; cases h0
     exact h1.mono hm.h
    und := fun t hl => by
     have h1 := hR.env t _ hl
     show a.tmps.getD t Go.undef = Go.undef
     generalize a.tmps.getD t Go.undef = z at h1
     cases h1; rfl
    nol := fun t k o hl => by rcases all_isVal hv hl with ⟨v, e⟩ | e <;> cases e
    ready := fun _ => ⟨rfl, rfl⟩
    busy := by simp
    done := by simp }
 obtain ⟨v2, x2, n2⟩ := push_ok hR1.val (.loop true f nt s.env ps.toList asg body none) (.loop lp) hok2
 let M2 := updM M1 (.h s1.heap.length) (.obj (w.alloc (.deferred (some []))).heap.size)
 let s2 : St := { s1 with heap := s1.heap ++ [.loop true f nt s.env ps.toList asg body none] }
 have hR2a : Rel M0 h0 w0 nt M2 s2 a w1 := hR1.next hB v2 x2 rfl rfl (updM_loc n2)
 have hlong := hR.long
 have hmk : M2 (.h s.heap.length) = some (.obj w.heap.size) := by
  simp only [M2, M1, updM, hlen1]
  simp
 have hR2 : Rel M0 h0 w0 nt M2 s2 { a with defers := [{ target := .collected w.heap.size, args := #[] }] ++ a.defers } w1 := by
  refine ⟨hR2a.val, hR2a.ext, hR2a.env, hR2a.size, fun d hd => ?_, ?_⟩
  ·rcases List.mem_cons.1 hd with rfl | hd
   ·refine ⟨s.heap.length, w.heap.size, rfl, by simp [ctH, St.get]; omega, hmk, by simp [s2, s1, St.get], ?_⟩
    have e1 : w1.heap[w.heap.size]? = (w.alloc (.deferred (some []))).heap[w.heap.size]? := allocOld _ _ _ (by simp)
    rw [e1]
    exact heap_alloc_new _ _
   ·exact hR2a.marks d hd
  ·refine List.pairwise_cons.2 ⟨fun d hd e => ?_, hR2a.apart⟩
   obtain ⟨k, r', e1, _, _, _, e5⟩ := hR.marks d hd
   rw [e1] at e
   have : w.heap.size = r' := by injection e with e e'; injection e
   have := (Array.getElem?_eq_some_iff.1 e5).1
   omega
 have hl2 : M2 (.h (s.heap.length + 1)) = some (.obj (w.heap.size + 1)) := by
  simp only [M2, updM, hlen1, hsz1, if_true]
 have hs2h : s2.heap = s.heap ++ [.mark, .loop true f nt s.env ps.toList asg body none] := by simp [s2, s1]
 rw [← hs2h] at hcall
 have hV2 := only_valid hR2.val (fun _ _ _ => trivial)
 have hgx : VR M2.only.h (.fn f1 a1 b1) (a.eval g) := (tvO_ok hR2.env hg)
 have hyx : VRs M2.only.h [.yld (s.heap.length + 1)] [.func (.yield (w.heap.size + 1)) #[] #[]] := .cons (.yld hl2) .nil
 obtain ⟨d, hd, hcase⟩ := hC _ _ _ _ _ _ hcall M2.only w1 (a.eval g) [.func (.yield (w.heap.size + 1)) #[] #[]] hV2 (fun _ => rfl) hgx hyx
 have hcase' : EntersR P d w1 (CallR M2.only s2.heap w1 v h ws) := by
  rcases hcase with hx | ⟨_, _, hx⟩
  ·exact hx.1
  ·cases hx
 obtain ⟨f3, as3, hinv, hcl⟩ := hcase'
 refine ⟨w.heap.size + 1, [{ target := .collected w.heap.size, args := #[] }], w1, d, w1, f3, as3, w1, ?_, ?_, fun _ _ => trivial, hinv, fun h => by simp [Fence.wide] at h, ?_⟩
 ·simp [Instr.enterLoop, newObj, Sem.run, w1, lp]
 ·have := hd w1
  simpa [resolve, rangeCall, Act.eval] using this
 ·refine CallsIn.mono (F := wideAt none) (hcl (n - 1)) fun en w3 hen => ?_
  cases en with
  | panicked c => exact hen.elim
  | outgrown => exact hen.elim
  | returned y =>
   obtain ⟨M3, hp⟩ := join_post hR2.val hR2.loc (show CallR M2.only s2.heap w1 v h ws y w3 from hen)
   have hR3 : Rel M0 h0 w0 nt M3 { s2 with heap := h, ws := addKs h0.length (ws.map .h) s.ws } _ w3 := hR2.next hB (s' := { s2 with heap := h, ws := addKs h0.length (ws.map .h) s.ws }) (hp.val.sub fun _ _ => .inl trivial) hp.ext rfl rfl hp.loc
   obtain ⟨l', g1, g2⟩ := hp.ext.mle _ _ hl2
   have hl3 : M3 (.h (s.heap.length + 1)) = some (.obj (w.heap.size + 1)) := by
    cases l' with
    | cells ls => exact g2.elim
    | obj r' => cases g2; exact g1
   obtain ⟨blk, k1, k2⟩ := hR3.val.ok _ _ hl3 trivial
   have k1' : blk = .loop rd f2 nt2 e2 ps2 a2 b2 pend := by
    simp only [St.get, hh, Option.some.injEq] at k1
    exact k1.symm
   subst k1'
   obtain ⟨lp3, l1, l2⟩ := k2
   have hnb : lp3.state ≠ .busy ∧ lp3.pending = jumpOf e := by
    unfold jumpT at hj
    split at hj
    ·cases hj
     obtain ⟨q1, q2⟩ := l2.ready rfl
     exact ⟨by rw [q1]; simp, q2⟩
    ·cases hj
     obtain ⟨q1, q2⟩ := l2.done rfl _ rfl (by simp)
     exact ⟨by rw [q1]; simp, q2⟩
    ·cases hj
     obtain ⟨q1, q2⟩ := l2.done rfl _ rfl (by simp)
     exact ⟨by rw [q1]; simp, q2⟩
    ·cases hj
   obtain ⟨v4, x4⟩ := objset_ok (s := { s2 with heap := h, ws := addKs h0.length (ws.map .h) s.ws }) hR3.val hl3 hh rfl (b' := .loop false f2 nt2 e2 ps2 a2 b2 (some .skip)) (o' := .loop { lp3 with state := .exhausted }) ⟨{ lp3 with state := .exhausted }, by simp [(Array.getElem?_eq_some_iff.1 l1).1],
    {ps := l2.ps, asg := l2.asg, body := l2.body, size := l2.size, envR := l2.envR, und := l2.und, nol := l2.nol, ready := by simp, busy := by simp, done := fun _ j hj hne => by simp at hj; exact absurd hj.symm hne }⟩
   subst hs
   have hR4 := hR3.next hB (s' := { s with heap := h.set (s.heap.length + 1) (.loop false f2 nt2 e2 ps2 a2 b2 (some .skip)), ws := addKs h0.length (ws.map .h) s.ws }) v4 x4 rfl
    (by simp only [addKs, addW]; rw [if_neg (by omega)]) (fun _ _ h => h)
   refine ⟨lp3.pending, { w3 with heap := w3.heap.setIfInBounds (w.heap.size + 1) (.loop { lp3 with state := .exhausted }) }, ?_, ?_⟩
   ·have h1 := hnb.1
    cases hst : lp3.state <;> simp_all [Instr.endLoop, Instr.getLoop, getObj, setObj, Sem.run] <;> rfl
   ·have h2 := hQ _ _ _ hR4
    have h3 := hnb.2
    generalize lp3.pending = pe at h2 h3 ⊢
    subst h3
    cases e with
    | norm => exact h2
    | ret => exact wpIn_ret h2
    | exit id => exact wpIn_exit h2
theorem exec_ok (hm : P.follows .mixedOrders = true) (hC : CallOk P call) (hB : Base M0 h0 w0) (hr : rnd = false → r = none) : ∀ (c : Code) (s s' : St) (e : Ex), exec P T call L f rnd h0.length nt c s = some (e, s') → ExecOk P M0 h0 w0 nt r c s e s' := by
 intro c
 induction c with
 | skip =>
  intro s s' e h n Q M a w hR hQ
  simp only [exec, Option.some.injEq, Prod.mk.injEq] at h
  obtain ⟨rfl, rfl⟩ := h
  exact wpIn_skip (hQ _ _ _ hR)
 | label l =>
  intro s s' e h n Q M a w hR hQ
  simp only [exec, Option.some.injEq, Prod.mk.injEq] at h
  obtain ⟨rfl, rfl⟩ := h
  exact wpIn_label (hQ _ _ _ hR)
 | exit id =>
  intro s s' e h n Q M a w hR hQ
  simp only [exec, Option.some.injEq, Prod.mk.injEq] at h
  obtain ⟨rfl, rfl⟩ := h
  exact wpIn_exit (hQ _ _ _ hR)
 | ret =>
  intro s s' e h n Q M a w hR hQ
  simp only [exec, Option.some.injEq, Prod.mk.injEq] at h
  obtain ⟨rfl, rfl⟩ := h
  exact wpIn_ret (hQ _ _ _ hR)
 | region id ops draw =>
  intro s s' e h n Q M a w hR hQ
  simp only [exec] at h
  split at h
  ·rename_i s1 infs hrun
   split at h
   ·rename_i hd
    simp only [Option.some.injEq, Prod.mk.injEq] at h
    obtain ⟨rfl, rfl⟩ := h
    cases draw with
    | false => exact seqReg_ok hC hB hrun hR fun M' a' w' hR' _ => hQ _ _ _ (hR'.pick _)
    | true =>
     simp only [Bool.not_true, Bool.false_or, Bool.and_eq_true] at hd
     exact drawReg_ok hC hB hm hrun hd.1 hd.2 hR fun M' a' w' hR' _ => hQ _ _ _ (hR'.pick _)
   ·simp at h
  ·simp at h
 | seq x y ihx ihy =>
  intro s s' e h n Q M a w hR hQ
  simp only [exec] at h
  split at h
  ·rename_i s1 hx
   exact wpIn_seq (ihx s s1 .norm hx n _ M a w hR fun M1 a1 w1 hR1 => ihy s1 s' e h n Q M1 a1 w1 hR1 hQ)
  ·rename_i hne
   refine wpIn_seq (ihx s s' e h n _ M a w hR fun M1 a1 w1 hR1 => ?_)
   cases e with
   | norm => exact (hne s' h).elim
   | exit id => exact hQ _ _ _ hR1
   | ret => exact hQ _ _ _ hR1
 | cond c x y ihx ihy =>
  intro s s' e h n Q M a w hR hQ
  simp only [exec] at h
  have hev : ∀ b, tvO s.env c = some (.bool b) → a.eval c = .bool b := by
   intro b hb
   have := tvO_ok hR.env hb
   generalize a.eval c = z at this
   cases this; rfl
  split at h
  ·rename_i hc
   exact wpIn_cond_true (hev _ hc) (ihx s s' e h n Q M a w hR hQ)
  ·rename_i hc
   exact wpIn_cond_false (hev _ hc) (ihy s s' e h n Q M a w hR hQ)
  ·simp at h
 | block id b ih =>
  intro s s' e h n Q M a w hR hQ
  simp only [exec] at h
  split at h
  ·rename_i i s1 hb
   simp only [Option.some.injEq, Prod.mk.injEq] at h
   obtain ⟨rfl, rfl⟩ := h
   refine wpIn_block (ih s s1 (.exit i) hb n _ M a w hR fun M1 a1 w1 hR1 => ?_)
   have := hQ _ _ _ hR1
   by_cases hi : i = id
   ·simp only [hi, if_true] at this
    simp only [exOf, Exit.inBlock, hi, if_true]
    exact this
   ·simp only [hi, if_false] at this
    simp only [exOf, Exit.inBlock, hi, if_false]
    exact this
  ·rename_i hne
   refine wpIn_block (ih s s' e h n _ M a w hR fun M1 a1 w1 hR1 => ?_)
   cases e with
   | norm => exact hQ _ _ _ hR1
   | exit i => exact (hne i s' h).elim
   | ret => exact hQ _ _ _ hR1
 | scope b ih =>
  intro s s' e h n Q M a w hR hQ
  simp only [exec] at h
  refine wpIn_scope (ih s s' e h n _ M a w hR fun M1 a1 w1 hR1 => ?_)
  have := hQ _ _ _ hR1
  cases e <;> exact this
 | loop b ih =>
  intro s s' e h
  simp only [exec] at h
  exact loop_ok hB (live := T.headAt f (headId b)) (fun s e s' hs => ih _ _ _ hs) h
 | rangeFunc g ps asg body iha ihb =>
  intro s s' e h
  simp only [exec] at h
  split at h
  ·rename_i f1 a1 b1 hg
   split at h
   ·rename_i hv
    simp only [Bool.and_eq_true, Bool.not_eq_true'] at hv
    rw [hr hv.2]
    split at h
    ·rename_i v h1 ws hcall
     split at h
     ·rename_i rd f2 nt2 e2 ps2 a2 b2 pend hh
      split at h
      ·rename_i e' hj
       simp only [Option.some.injEq, Prod.mk.injEq] at h
       obtain ⟨rfl, rfl⟩ := h
       exact range_ok hC hB hg hv.1 hcall hh hj rfl
      ·simp at h
     ·simp at h
    ·simp at h
   ·simp at h
  ·simp at h
 | _ => intro s s' e h; simp [exec] at h
end
end Tw
namespace Tw
open Go
def resS (tmps : Array Value) : ResultVar → Sem Value
 | .tmp t => pure (tmps.getD t Go.undef)
 | .cell b t => do loadVar t (← asAddr (tmps.getD b Go.undef))
theorem results_eq (fn : Func) (tmps : Array Value) : results fn tmps = (do
  let vs ← fn.results.mapM (resS tmps)
  pure (if h : vs.size = 1 then vs[0] else .tuple vs)) := by
 have key : ∀ g : ResultVar → Sem Value, (∀ r, g r = resS tmps r) → (do
   let vs ← fn.results.mapM g
   pure (if h : vs.size = 1 then vs[0] else Value.tuple vs) : Sem Value) = (do
   let vs ← fn.results.mapM (resS tmps)
   pure (if h : vs.size = 1 then vs[0] else Value.tuple vs)) := fun g hg => by rw [show g = resS tmps from funext hg]
 exact key _ fun r => by cases r <;> rfl
section
variable {P : Program} {T : Tab} {call : CallT} {L : Nat} {nt : Nat} {M0 : Mp} {h0 : List HB} {w0 : World} {M : Mp} {s : St} {a : Act} {w : World}
theorem res_ok (hR : Rel M0 h0 w0 nt M s a w) {r : ResultVar} {v : TV} (h : resT P s r = some v) :
  ∃ x, VR M.h v x ∧ (resS a.tmps r).run P w = .ok x w := by
 unfold resT at h
 split at h
 ·rename_i t
  split at h
  ·rename_i v' hv
   simp only [Option.some.injEq] at h; subst h
   exact ⟨_, (hR.env t _ hv).inv_val, rfl⟩
  ·simp at h
 ·rename_i b t
  split at h
  ·rename_i e he
   simp only [Option.map_eq_some_iff] at h
   obtain ⟨⟨v', i⟩, hl, rfl⟩ := h
   have hx := hR.env b _ he
   obtain ⟨_, y, h1, h2⟩ := load_ok hR.val hl hx (fun _ _ => trivial)
   refine ⟨y, h1, ?_⟩
   show (do loadVar t (← asAddr (a.tmps.getD b Go.undef)) : Sem Value).run P w = _
   generalize a.tmps.getD b Go.undef = z at hx h2
   have hz : ∃ ad, z = .pointer (some ad) := by
    cases hx with
    | loc hm hb => exact ⟨_, rfl⟩
    | undef => simp [loadT] at hl
    | val hv =>
     cases hv with
     | ptr => exact ⟨_, rfl⟩
     | _ => simp [loadT] at hl
   obtain ⟨ad, rfl⟩ := hz
   simpa [asAddr, Instr.loadAt, Instr.sureAddr] using h2
  ·simp at h
theorem ress_ok (hR : Rel M0 h0 w0 nt M s a w) : ∀ {rs : List ResultVar} {vs : List TV}, resTs P s rs = some vs →
  ∃ xs, VRs M.h vs xs ∧ (rs.mapM (resS a.tmps)).run P w = .ok xs w
 | [], vs, h => by simp [resTs] at h; subst h; exact ⟨[], .nil, by simp⟩
 | r :: rs, vs, h => by
  simp only [resTs] at h
  split at h
  ·rename_i v vs' h1 h2
   simp only [Option.some.injEq] at h; subst h
   obtain ⟨x, g1, g2⟩ := res_ok hR h1
   obtain ⟨xs, g3, g4⟩ := ress_ok hR h2
   exact ⟨x :: xs, .cons g1 g3, by simp only [List.mapM_cons, Sem.run_bind, g2, g4, Result.andThen_ok, Sem.run_pure]⟩
  ·simp at h
theorem results_ok (hR : Rel M0 h0 w0 nt M s a w) {fn : Func} {vs : List TV} (h : resTs P s fn.results.toList = some vs) : ∃ y, VR M.h (one vs) y ∧ (results fn a.tmps).run P w = .ok y w := by
 obtain ⟨xs, h1, h2⟩ := ress_ok hR h
 have hrun : (results fn a.tmps).run P w = .ok (if h : xs.toArray.size = 1 then xs.toArray[0] else .tuple xs.toArray) w := by
  rw [results_eq, Array.mapM_eq_mapM_toList]
  simp only [Sem.run_bind, Sem.run_map, h2, Result.andThen_ok, Sem.run_pure]
 refine ⟨_, ?_, hrun⟩
 match vs, xs, h1 with
 | [], xs, h1 =>
  have := h1.inv_nil; subst this
  exact .tup' .nil
 | [v], xs, h1 =>
  obtain ⟨x, xs', rfl, hx, hx'⟩ := h1.inv_cons
  have := hx'.inv_nil; subst this
  exact hx
 | v :: v' :: vs, xs, h1 =>
  obtain ⟨x, xs', rfl, hx, hx'⟩ := h1.inv_cons
  obtain ⟨x', xs'', rfl, hy, hy'⟩ := hx'.inv_cons
  simp only [one, List.size_toArray, List.length_cons]
  rw [dif_neg (by omega)]
  exact .tup' h1
theorem mark_step (hB : Base M0 h0 w0) {d : Deferred} {ds : List Deferred} (hR : Rel M0 h0 w0 nt M s a w) (hd : a.defers = d :: ds) :
  ∃ r w', d.target = .collected r ∧ (Instr.takeDeferred r).run P w = .ok [] w' ∧ Rel M0 h0 w0 nt M s { a with defers := ds } w' := by
 obtain ⟨k, r, rfl, h2, h3, h4, h5⟩ := hR.marks d (by rw [hd]; exact List.mem_cons_self)
 have hlt := (Array.getElem?_eq_some_iff.1 h5).1
 have hap := hR.apart
 rw [hd] at hap
 obtain ⟨ha1, ha2⟩ := List.pairwise_cons.1 hap
 refine ⟨r, { w with heap := w.heap.setIfInBounds r (.deferred none) }, rfl, ?_, ?_⟩
 ·simp [Instr.takeDeferred, getObj, setObj, Sem.run, h5]
 have hother : ∀ c, c ≠ r → (w.heap.setIfInBounds r (.deferred none))[c]? = w.heap[c]? := fun c hc => by
  rw [Array.getElem?_setIfInBounds, if_neg (fun e => hc e.symm)]
 refine ⟨⟨?_, hR.val.own, fun k l hk c hc => by simpa using hR.val.inb k l hk c hc⟩, ?_, hR.env, hR.size, ?_, ha2⟩
 ·intro k' l hk' _
  obtain ⟨b, g1, g2⟩ := hR.val.ok k' l hk' trivial
  refine ⟨b, g1, ?_⟩
  by_cases hin : r ∈ cblocks l
  ·cases b with
   | cells kk cs =>
    cases l with
    | obj r' => exact g2.elim
    | cells ls =>
     obtain ⟨p, hp, e⟩ := List.mem_map.1 hin
     obtain ⟨arr, ty, fz, e1, _⟩ := (g2.2.1 p hp).row
     rw [e, h5] at e1; cases e1
   | map es =>
    cases l with
    | cells ls => exact g2.elim
    | obj r' =>
     simp [cblocks] at hin; subst hin
     obtain ⟨xs, ck, e1, _⟩ := g2
     rw [h5] at e1; cases e1
   | loop rd f nt env ps a b pend =>
    cases l with
    | cells ls => exact g2.elim
    | obj r' =>
     simp [cblocks] at hin; subst hin
     obtain ⟨lp, e1, _⟩ := g2
     rw [h5] at e1; cases e1
   | mark =>
    cases l with
    | cells ls => exact g2.elim
    | obj r' =>
     show r' < (w.heap.setIfInBounds r (.deferred none)).size
     have g2' : r' < w.heap.size := g2
     simpa using g2'
  ·exact g2.mono (.refl _) fun c hc => hother c fun e => hin (e ▸ hc)
 ·have hX := hR.ext
  refine ⟨hX.mle, fun c hc hf => ?_, hX.keep, hX.keepM, hX.fresh, by simpa using hX.size, hX.has, hX.wsub, hX.wrote, hX.os, hX.output, hX.tape⟩
  rw [← hX.frame c hc hf]
  refine hother c fun e => ?_
  obtain ⟨l0, g1, _⟩ := hX.fresh _ _ h3 c (by simp [cblocks, e]) hc
  have := hB.val.has g1
  rw [h2] at this; cases this
 ·intro d' hd'
  obtain ⟨k', r', e1, e2, e3, e4, e5⟩ := hR.marks d' (by rw [hd]; exact List.mem_cons_of_mem _ hd')
  refine ⟨k', r', e1, e2, e3, e4, ?_⟩
  rw [hother r' fun e => ha1 d' hd' (by rw [e1, e]), e5]
theorem leave_ok (hB : Base M0 h0 w0) {F : Fence} {n : Nat} {fn : Func} {R : Ending → World → Prop} : ∀ (ds : List Deferred) (a : Act) (w : World), a.defers = ds → Rel M0 h0 w0 nt M s a w →
  (∀ w', Rel M0 h0 w0 nt M s { a with defers := [] } w' → ∃ v, (results fn a.tmps).run P w' = .ok v w' ∧ R (.returned v) w') → LeavesInM F n P fn a.tmps R ds .returning w
 | [], a, w, hd, hR, hK => by
  simp only [LeavesInM, LeavesIn]
  exact hK w (by
   have : a = { a with defers := [] } := by cases a; simp at hd; subst hd; rfl
   rw [← this]; exact hR)
 | d :: ds, a, w, hd, hR, hK => by
  obtain ⟨r, w', h1, h2, h3⟩ := mark_step (P := P) hB hR hd
  refine ⟨by simp, .inl ⟨r, w', h1, h2, ?_⟩⟩
  exact leave_ok hB ds { a with defers := ds } w' rfl h3 hK
end
theorem flatC_VR {N N' : Np} {v : TV} {y : Value} (h : v.flatC = true) (hv : VR N v y) : VR N' v y := by
 cases hv <;> first | (constructor; done) | (simp [TV.flatC] at h; done)
theorem flatCs_VR {N N' : Np} {vs : List TV} {ys : List Value} (h : vs.all TV.flatC = true) (hv : VRs N vs ys) : VRs N' vs ys :=
 ⟨hv.len, fun i c v h1 h2 => flatC_VR (List.all_eq_true.1 h c (List.mem_of_getElem? h1)) (hv.at_ i c v h1 h2)⟩
theorem flat1_VR {N N' : Np} {v : TV} {y : Value} (h : v.flat1 = true) (hv : VR N v y) : VR N' v y := by
 cases hv with
 | agg h1 h2 => exact .agg' (flatCs_VR h ⟨h1, h2⟩)
 | _ => first | (constructor; done) | (simp [TV.flat1, TV.flatC] at h; done)
theorem flat_VR {N N' : Np} {v : TV} {y : Value} (h : v.flat = true) (hv : VR N v y) : VR N' v y := by
 cases hv with
 | tup h1 h2 =>
  simp only [TV.flat] at h
  exact .tup h1 fun i c v e1 e2 => flat1_VR (List.all_eq_true.1 h c (List.mem_of_getElem? e1)) (h2 i c v e1 e2)
 | agg h1 h2 => exact flat1_VR h (.agg h1 h2)
 | _ => first | (constructor; done) | (simp [TV.flat, TV.flat1, TV.flatC] at h; done)
section
variable {P : Program} {T : Tab} {call : CallT} {L : Nat} {nt : Nat} {M : Mp} {h : List HB} {w : World} {M' : Mp} {s : St} {a : Act} {w' : World}
theorem fin_ok (hB : Base M h w) (hR : Rel M h w nt M' s a w') {v : TV} {y : Value} (hv : VR M'.h v y) : CallR M h w v s.heap s.ws y w' := by
 refine ⟨M'.only, only_valid hR.val (fun _ _ _ => trivial), fun _ => rfl, ?_, hv⟩
 have hX := hR.ext
 have hk : ∀ k, (ctH h k).isSome = true → ∃ b, k = .h b := fun k hk => let ⟨b, e, _⟩ := ctH_some hk; ⟨b, e⟩
 exact
  {mle := fun k l hl => by
    cases k with
    | l j => rw [hB.loc j] at hl; cases hl
    | h b => exact hX.mle _ _ hl
   frame := hX.frame
   keep := fun k e hn => by obtain ⟨b, rfl⟩ := hk k e; exact hX.keep _ e hn
   keepM := fun k e hn => by
    cases k with
    | h b => exact hX.keepM (.h b) e hn
    | l j => exact (hB.loc j).symm
   fresh := fun k l hl => by
    cases k with
    | h b => exact hX.fresh (.h b) l hl
    | l j => cases hl
   size := hX.size
   has := fun k e => by obtain ⟨b, rfl⟩ := hk k e; exact hX.has _ e
   wsub := hX.wsub
   wrote := hX.wrote
   os := hX.os
   output := hX.output
   tape := hX.tape }
theorem fin_flat (hB : Base M h w) (hR : Rel M h w nt M' s a w') (hws : s.ws = []) {v : TV} {y : Value} (hv : VR M'.h v y) (hf : v.flat = true) : CallR M h w v h [] y w' := by
 have hX := hR.ext
 rw [hws] at hX
 have hfr : ∀ c, c < w.heap.size → w'.heap[c]? = w.heap[c]? := fun c hc => hX.frame c hc (by simp)
 refine ⟨M, ⟨fun k l hk _ => ?_, hB.val.own, fun k l hk c hc => Nat.lt_of_lt_of_le (hB.val.inb k l hk c hc) hX.size⟩, hB.loc, ?_, flat_VR hf hv⟩
 ·obtain ⟨b, h1, h2⟩ := hB.val.ok k l hk trivial
  exact ⟨b, h1, h2.mono (.refl _) fun c hc => hfr c (hB.val.inb k l hk c hc)⟩
 ·exact ⟨.refl _, fun c hc _ => hfr c hc, fun _ _ _ => rfl, fun _ _ _ => rfl, fun k l hk c hc _ => ⟨l, hk, hc⟩, hX.size, fun _ e => e, by simp, by simp, hX.os, hX.output, hX.tape⟩
theorem argEnv_ok {N : Np} : ∀ {args : List TV} {xs : List Value} {k t : Nat} {e : EV}, VRs N args xs → lookE t (argEnv k args) = some e → ∃ i v x, t = k + i ∧ e = .val v ∧ xs[i]? = some x ∧ VR N v x
 | [], xs, k, t, e, h, hl => by simp [argEnv, lookE] at hl
 | v :: vs, xs, k, t, e, h, hl => by
  obtain ⟨x, xs', rfl, h1, h2⟩ := h.inv_cons
  simp only [argEnv, lookE] at hl
  split at hl
  ·rename_i hk
   cases hl
   exact ⟨0, v, x, by omega, rfl, rfl, h1⟩
  ·obtain ⟨i, v', x', e1, e2, e3, e4⟩ := argEnv_ok h2 hl
   exact ⟨i + 1, v', x', by omega, e2, by simpa using e3, e4⟩
theorem fun_ok (hm : P.follows .mixedOrders = true) (hC : CallOk P call) {f : Nat} {args : List TV} {v : TV} {h' : List HB} {ws : List Nat} (hf : funT P T call L f args h = some (v, h', ws)) (hB : Base M h w) {xs : List Value} (hx : VRs M.h args xs) :
  ∃ fn c, P.funcs[f]? = some fn ∧ (fn.name == "runtime.NumGoroutine") = false ∧ fn.body = some c ∧ ∀ n, CallsIn Fence.wide n P f xs.toArray w (RetR (CallR M h w v h' ws)) := by
 unfold funT fnT at hf
 split at hf
 ·rename_i t ht
  split at ht
  ·rename_i fn hfn
   split at ht
   ·cases ht
   ·rename_i hname
    split at ht
    ·rename_i c hc
     cases ht
     refine ⟨fn, c, hfn, by simpa using hname, hc, fun n => ?_⟩
     have hR0 : Rel M h w fn.ntmps M ⟨argEnv 0 args, [], h, []⟩ { tmps := xs.toArray ++ Array.replicate (fn.ntmps - xs.toArray.size) Go.undef, defers := [] } w := by
      have hg : St.get ⟨argEnv 0 args, [], h, []⟩ = ctH h := getEnv ⟨[], [], h, []⟩ _ _
      refine ⟨by rw [hg]; exact hB.val, by rw [hg]; exact .refl _ _ _, fun t e hl => ?_, by simp; omega, by simp, .nil⟩
      obtain ⟨i, v', x, e1, rfl, e3, e4⟩ := argEnv_ok hx hl
      have hi : i < xs.length := (List.getElem?_eq_some_iff.1 e3).1
      have : (xs.toArray ++ Array.replicate (fn.ntmps - xs.toArray.size) Go.undef).getD t Go.undef = x := by
       rw [Array.getD_eq_getD_getElem?, Array.getElem?_append_left (by simp; omega)]
       have : t = i := by omega
       subst this
       simp [e3]
      rw [this]
      exact .val e4
     have hfin : ∀ (s : St), (match resTs P s fn.results.toList with
       | some vs => if s.ws.isEmpty && (one vs).flat then some (one vs, h, []) else some (one vs, s.heap, s.ws)
       | none => none) = some (v, h', ws) → ∀ (M' : Mp) (a' : Act) (w' : World), Rel M h w fn.ntmps M' s a' w' → LeavesInM Fence.wide n P fn a'.tmps (RetR (CallR M h w v h' ws)) a'.defers .returning w' := by
      intro s hs M' a' w' hR'
      split at hs
      ·rename_i vs hvs
       refine leave_ok hB a'.defers a' w' rfl hR' fun w'' hR'' => ?_
       obtain ⟨y, g1, g2⟩ := results_ok (P := P) hR'' hvs
       refine ⟨y, g2, ?_⟩
       split at hs
       ·rename_i hfl
        simp only [Bool.and_eq_true, List.isEmpty_iff] at hfl
        simp only [Option.some.injEq, Prod.mk.injEq] at hs
        obtain ⟨rfl, rfl, rfl⟩ := hs
        exact fin_flat hB hR'' hfl.1 g1 hfl.2
       ·simp only [Option.some.injEq, Prod.mk.injEq] at hs
        obtain ⟨rfl, rfl, rfl⟩ := hs
        exact fin_ok hB hR'' g1
      ·cases hs
     refine callsIn_of_wp_marks (F := Fence.wide) hfn hc trivial ?_
     split at hf
     ·rename_i s hex
      exact exec_ok (rnd := false) hm hC hB (fun _ => rfl) _ _ _ _ hex n _ M _ w hR0 fun M' a' w' hR' => hfin s hf M' a' w' hR'
     ·rename_i s hex
      exact exec_ok (rnd := false) hm hC hB (fun _ => rfl) _ _ _ _ hex n _ M _ w hR0 fun M' a' w' hR' => hfin s hf M' a' w' hR'
     ·cases hf
    ·cases ht
  ·cases ht
 ·cases hf
end
end Tw
namespace Tw
open Go
section
variable {P : Program} {T : Tab} {call : CallT} {L : Nat} {nt : Nat} {M : Mp} {h : List HB} {w : World}
def putV (tmps : Array Value) : List (Nat × Value) → Array Value
 | [] => tmps
 | (t, a) :: r => putV (tmps.setIfInBounds t a) r
theorem putV_size : ∀ {l : List (Nat × Value)} {tmps : Array Value}, (putV tmps l).size = tmps.size
 | [], _ => rfl
 | (t, a) :: r, tmps => by rw [putV, putV_size]; simp
theorem putV_foldl : ∀ (l : List (Nat × Value)) (tmps : Array Value), l.foldl (fun tmps (t, a) => tmps.setIfInBounds t a) tmps = putV tmps l
 | [], _ => rfl
 | (t, a) :: r, tmps => by rw [List.foldl_cons, putV_foldl r]; rfl
theorem putAll_ok {N : Np} {nt : Nat} : ∀ {ps : List Nat} {args : List TV} {xs : List Value} {env : List (Nat × EV)} {tmps : Array Value}, VRs N args xs → args.length = ps.length → (∀ p ∈ ps, p < nt) → nt ≤ tmps.size →
  (∀ t v, lookE t env = some (.val v) → VR N v (tmps.getD t Go.undef)) → (∀ t, lookE t env = some .undef → tmps.getD t Go.undef = Go.undef) → (∀ t k o, lookE t env ≠ some (.loc k o)) →
  (∀ t v, lookE t (putAll env ps args) = some (.val v) → VR N v ((putV tmps (ps.zip xs)).getD t Go.undef)) ∧ (∀ t, lookE t (putAll env ps args) = some .undef → (putV tmps (ps.zip xs)).getD t Go.undef = Go.undef) ∧
   (∀ t k o, lookE t (putAll env ps args) ≠ some (.loc k o))
 | [], [], xs, env, tmps, _, _, _, _, h1, h2, h3 => ⟨h1, h2, h3⟩
 | [], v :: vs, xs, env, tmps, _, hl, _, _, _, _, _ => by simp at hl
 | p :: ps, [], xs, env, tmps, _, hl, _, _, _, _, _ => by simp at hl
 | p :: ps, v :: vs, xs, env, tmps, hx, hl, hp, hn, h1, h2, h3 => by
  obtain ⟨x, xs', rfl, hx1, hx2⟩ := hx.inv_cons
  have hpn := hp p List.mem_cons_self
  simp only [putAll, List.zip_cons_cons, putV]
  have hg : ∀ t, (tmps.setIfInBounds p x).getD t Go.undef = if p = t then x else tmps.getD t Go.undef := by
   intro t
   simp only [Array.getD_eq_getD_getElem?, Array.getElem?_setIfInBounds]
   by_cases h : p = t
   ·subst h; simp [show p < tmps.size by omega]
   ·simp [h]
  refine putAll_ok hx2 (by simpa using hl) (fun q hq => hp q (List.mem_cons_of_mem _ hq)) (by simpa using hn) ?_ ?_ ?_
  ·intro t v' he
   rw [hg]
   simp only [lookE] at he
   split at he
   ·rename_i h; rw [if_pos h]; cases he; exact hx1
   ·rename_i h; rw [if_neg h]; exact h1 t v' he
  ·intro t he
   rw [hg]
   simp only [lookE] at he
   split at he
   ·cases he
   ·rename_i h; rw [if_neg h]; exact h2 t he
  ·intro t k o he
   simp only [lookE] at he
   split at he
   ·cases he
   ·exact h3 t k o he
theorem round_ok (hm : P.follows .mixedOrders = true) (hC : CallOk P call) {l l' : Nat} {args : List TV} {v : TV} {h' : List HB} {ws : List Nat} (hf : roundT P T call L l args h = some (v, h', ws)) (hB : Base M h w) (hl : M (.h l) = some (.obj l'))
  {xs : List Value} (hx : VRs M.h args xs) : RoundsR P { target := .fn (.yield l') #[], args := xs.toArray } w (CallR M h w v h' ws) := by
 unfold roundT at hf
 split at hf
 ·rename_i f nt env ps asg body pend hh
  split at hf
  ·rename_i hc
   obtain ⟨hlen, hps⟩ := hc
   have hps' : ∀ p ∈ ps, p < nt := fun p hp => by simpa using List.all_eq_true.1 hps p hp
   obtain ⟨blk, k1, k2⟩ := hB.val.ok _ _ hl trivial
   simp only [ctH, St.get, hh, Option.some.injEq] at k1
   subst k1
   obtain ⟨lp, l1, l2⟩ := k2
   have hlb : l < h.length := (List.getElem?_eq_some_iff.1 hh).1
   have hpa : lp.params.size = xs.length := by
    have := l2.ps
    rw [← hx.len, hlen, ← this]; simp
   have hzip : (lp.params.zip xs.toArray).foldl (fun tmps (t, a) => tmps.setIfInBounds t a) lp.tmps = putV lp.tmps (ps.zip xs) := by
    rw [← Array.foldl_toList, Array.toList_zip, l2.ps]
    exact putV_foldl _ _
   refine ⟨l', lp.fn, putV lp.tmps (ps.zip xs), asg, body, ?_, fun n => ?_⟩
   ·have h1 : (Instr.yield l' xs.toArray).run P w = .ok (.round l' lp.fn ((lp.params.zip xs.toArray).foldl (fun tmps (t, a) => tmps.setIfInBounds t a) lp.tmps) lp.assign lp.body) w := by
     simp [Instr.yield, Instr.getLoop, getObj, Sem.run, l1, hpa]
    rw [hzip, l2.asg, l2.body] at h1
    exact h1
   obtain ⟨p1, p2, p3⟩ := putAll_ok hx hlen hps' l2.size l2.envR l2.und l2.nol
   have hR0 : Rel M h w nt M ⟨putAll env ps args, [], h, []⟩ { tmps := putV lp.tmps (ps.zip xs), defers := [] } w := by
    have hg : St.get ⟨putAll env ps args, [], h, []⟩ = ctH h := getEnv ⟨[], [], h, []⟩ _ _
    refine ⟨by rw [hg]; exact hB.val, by rw [hg]; exact .refl _ _ _, fun t e he => ?_, by rw [putV_size]; exact l2.size, by simp, .nil⟩
    cases e with
    | val v => exact .val (p1 t v he)
    | loc k o => exact absurd he (p3 t k o)
    | undef =>
     have := p2 t he
     simp only at this ⊢
     rw [this]; exact .undef
   refine roundIn_of_wpIn (F := Fence.wide) trivial ?_
   split at hf
   ·rename_i s1 hex
    refine exec_ok (rnd := true) (r := some l') hm hC hB (by simp) _ _ _ _ hex n _ M _ w hR0 fun M1 a1 w1 hR1 => ?_
    split at hf
    ·rename_i f' nt' env' ps' a' b' pend' hh1
     have hl1 : M1 (.h l) = some (.obj l') := by
      obtain ⟨l0, g1, g2⟩ := hR1.ext.mle _ _ hl
      cases l0 with
      | cells ls => exact g2.elim
      | obj r' => cases g2; exact g1
     obtain ⟨blk, k1, k2⟩ := hR1.val.ok _ _ hl1 trivial
     simp only [St.get, hh1, Option.some.injEq] at k1
     subst k1
     obtain ⟨lp1, m1, m2⟩ := k2
     obtain ⟨v2, x2⟩ := objset_ok hR1.val hl1 hh1 rfl (b' := .loop false f' nt' env' ps' a' b' none) (o' := .loop { lp1 with state := .busy }) ⟨{ lp1 with state := .busy }, by simp [(Array.getElem?_eq_some_iff.1 m1).1],
      {ps := m2.ps, asg := m2.asg, body := m2.body, size := m2.size, envR := m2.envR, und := m2.und, nol := m2.nol, ready := by simp, busy := fun _ _ => rfl, done := by simp }⟩
     have hR2 := hR1.next hB (s' := { s1 with heap := s1.heap.set l (.loop false f' nt' env' ps' a' b' none), ws := addW h.length l s1.ws }) v2 x2 rfl rfl (fun _ _ e => e)
     refine ⟨{ w1 with heap := w1.heap.setIfInBounds l' (.loop { lp1 with state := .busy }) }, ?_, ?_⟩
     ·simp [Instr.beginRound, Instr.getLoop, getObj, setObj, Sem.run, m1, (m2.ready rfl).1]
     ·split at hf
      ·rename_i e s2 hex2
       refine exec_ok (rnd := true) (r := some l') hm hC hB (by simp) _ _ _ _ hex2 n _ M1 _ _ hR2 fun M3 a3 w3 hR3 => ?_
       split at hf
       ·rename_i f3 nt3 env3 ps3 a3' b3 hh3
        simp only [Option.some.injEq, Prod.mk.injEq] at hf
        obtain ⟨rfl, rfl, rfl⟩ := hf
        have hl3 : M3 (.h l) = some (.obj l') := by
         obtain ⟨l0, g1, g2⟩ := hR3.ext.mle _ _ hl
         cases l0 with
         | cells ls => exact g2.elim
         | obj r' => cases g2; exact g1
        obtain ⟨blk, k1, k2⟩ := hR3.val.ok _ _ hl3 trivial
        simp only [St.get, hh3, Option.some.injEq] at k1
        subst k1
        obtain ⟨lp3, q1, q2⟩ := k2
        let lp4 : Loop := { lp3 with state := if (jumpOf e).isNone then .ready else .done, pending := jumpOf e }
        obtain ⟨v4, x4⟩ := objset_ok hR3.val hl3 hh3 rfl (b' := .loop (isNorm e) f3 nt3 env3 ps3 a3' b3 (jumpOf e)) (o' := .loop lp4) ⟨lp4, by simp [(Array.getElem?_eq_some_iff.1 q1).1],
         {ps := q2.ps, asg := q2.asg, body := q2.body, size := q2.size, envR := q2.envR, und := q2.und, nol := q2.nol
          ready := fun hn => by cases e <;> simp [isNorm] at hn; exact ⟨rfl, rfl⟩
          busy := fun hn hp => by cases e <;> simp [isNorm, jumpOf] at hn hp
          done := fun hn j hj _ => by cases e <;> simp [isNorm] at hn <;> (simp only [jumpOf, Option.some.injEq] at hj; subst hj; exact ⟨rfl, rfl⟩) }⟩
        have hR4 := hR3.next hB (s' := { s2 with heap := s2.heap.set l (.loop (isNorm e) f3 nt3 env3 ps3 a3' b3 (jumpOf e)), ws := addW h.length l s2.ws }) v4 x4 rfl rfl (fun _ _ e => e)
        have hfin := fin_ok hB hR4 (v := .bool (isNorm e)) (y := .bool (isNorm e)) (.bool _)
        have hend : (Instr.endRound l' (jumpOf e)).run P w3 = .ok (.bool (isNorm e)) { w3 with heap := w3.heap.setIfInBounds l' (.loop lp4) } := by
         cases e <;> simp [Instr.endRound, Instr.getLoop, getObj, setObj, Sem.run, q1, isNorm, jumpOf, lp4]
        cases e with
        | norm => exact ⟨_, _, hend, hfin⟩
        | exit id => exact ⟨_, _, hend, hfin⟩
        | ret => exact ⟨_, _, hend, hfin⟩
       ·cases hf
      ·cases hf
    ·cases hf
   ·cases hf
  ·cases hf
 ·cases hf
theorem ap_ok (hm : P.follows .mixedOrders = true) : ∀ n, CallOk P (ap P T L n)
 | 0 => by
  intro fv args h v h' ws hc
  simp [ap] at hc
 | n + 1 => by
  intro fv args h v h' ws hc M w x xs hV hl hx hxs
  have ih := ap_ok hm n
  cases fv with
  | fn f first cap =>
   simp only [ap] at hc
   cases hx with
   | fn h1 h2 h3 h4 =>
    rename_i ys zs
    have hargs : VRs M.h (first ++ args ++ cap) (ys ++ xs ++ zs) := (VRs.append ⟨h1, h2⟩ hxs).append ⟨h3, h4⟩
    obtain ⟨fn, c, e1, e2, e3, e4⟩ := fun_ok hm ih hc ⟨hV, hl⟩ hargs
    refine ⟨{ target := .fn (.func f) zs.toArray, args := ys.toArray ++ xs.toArray }, fun w => by simp [Deferred.ofValue], .inl ⟨⟨f, (ys ++ xs ++ zs).toArray, ?_, e4⟩, f, first, cap, rfl⟩⟩
    have e2' : ¬ fn.name = "runtime.NumGoroutine" := by simpa using e2
    simp [invoke, callFunc, program, Sem.run, e1, e2', e3]
  | yld l =>
   simp only [ap] at hc
   cases hx with
   | yld hm' =>
    rename_i l'
    refine ⟨{ target := .fn (.yield l') #[], args := xs.toArray }, fun w => by simp [Deferred.ofValue], .inr ⟨round_ok hm ih hc ⟨hV, hl⟩ hm' hxs, l, rfl⟩⟩
  | _ => simp [ap] at hc
theorem run_ok (hm : P.follows .mixedOrders = true) {n f : Nat} {args : List TV} {v : TV} {h' : List HB} {ws : List Nat} (hr : run P T L (n + 1) f args h = some (v, h', ws)) (hV : Valid M allK (ctH h) w) (hl : ∀ k, M (.l k) = none)
  {xs : List Value} (hx : VRs M.h args xs) (k : Nat) : CallsIn Fence.wide k P f xs.toArray w (RetR (CallR M h w v h' ws)) := by
 simp only [run, ap] at hr
 have hargs : VRs M.h ([] ++ args ++ []) xs := by simpa using hx
 obtain ⟨fn, c, _, _, _, e4⟩ := fun_ok hm (ap_ok hm n) hr ⟨hV, hl⟩ hargs
 exact e4 k
end
end Tw
namespace Tw
open Go
section
variable {H : Type}
def encL (g : DataW H → List HB → Option (List TV × List HB)) (n : Nat) : List (DataW H) → List HB → Option (List TV × List HB)
 | [], h => some ([], h)
 | d :: ds, h => match g d h with
  | some (c, h1) => if c.length = n then (match encL g n ds h1 with
   | some (cs, h2) => some (c ++ cs, h2)
   | none => none) else none
  | none => none
def encF (P : Program) (g : TypeId → DataW H → List HB → Option (List TV × List HB)) : Nat → List Field → List (DataW H) → List HB → Option (List TV × List HB)
 | _, [], [], h => some ([], h)
 | o, f :: fs, d :: ds, h => match g f.type d h with
  | some (c, h1) => if f.offset = o ∧ c.length = P.cellsOf f.type then (match encF P g (o + c.length) fs ds h1 with
   | some (cs, h2) => some (c ++ cs, h2)
   | none => none) else none
  | none => none
 | _, _, _, _ => none
def encT (P : Program) : Nat → TypeId → DataW H → List HB → Option (List TV × List HB)
 | 0, _, _, _ => none
 | g + 1, t, d, h => match P.underlying t, d with
  | some .bool, .lit (.bool b) => some ([.bool b], h)
  | some (.int _), .lit (.int k n) => some ([.int k n], h)
  | some .string, .lit (.string bs) => some ([.str ⟨bs.toArray⟩], h)
  | some (.slice _), .nil => some ([.nil .slc], h)
  | some (.slice e), .slice xs ys => match encL (encT P g e) (P.cellsOf e) (xs ++ ys) h with
   | some (cs, h1) => if P.cellsOf e = 0 then none else some ([.slc h1.length 0 xs.length (xs.length + ys.length) (P.cellsOf e) true], h1 ++ [.cells .ro cs])
   | none => none
  | some (.struct fs), .agg ds => match encF P (encT P g) 0 fs.toList ds h with
   | some (cs, h1) => if cs.length = P.cellsOf t then some (cs, h1) else none
   | none => none
  | _, _ => none
variable {enc : TypeId × Value → H} {P : Program} {w : World}
structure Opened (M : Mp) (h : List HB) (w : World) : Prop where
 base : Base M h w
 ro : ∀ b ∈ h, wr b = false
def Reads (enc : TypeId × Value → H) (P : Program) (w : World) (t : TypeId) (cs : List Value) (d : DataW H) : Prop :=
 ∃ fuel ps, DataW.trod enc P w 0 (fun _ => true) true fuel t cs = some (d, ps)
def EncOk (enc : TypeId × Value → H) (P : Program) (w : World) (g : TypeId → DataW H → List HB → Option (List TV × List HB)) : Prop :=
 ∀ t d h r, g t d h = some r → ∀ cs, Reads enc P w t cs d → ∀ M, Opened M h w → ∃ M', Opened M' r.2 w ∧ Mle M M' ∧ VRs M'.h r.1 cs ∧ ∀ c ∈ r.1, oneT c = true
theorem encL_ok {g : TypeId → DataW H → List HB → Option (List TV × List HB)} (hg : EncOk enc P w g) {e : TypeId} {n : Nat} : ∀ (ds : List (DataW H)) (css : List (List Value)) (h : List HB) (r : List TV × List HB), encL (g e) n ds h = some r →
  css.length = ds.length → (∀ (i : Nat) (d : DataW H) (cs : List Value), ds[i]? = some d → css[i]? = some cs → Reads enc P w e cs d) → ∀ M, Opened M h w →
  ∃ M', Opened M' r.2 w ∧ Mle M M' ∧ VRs M'.h r.1 css.flatten ∧ (∀ c ∈ r.1, oneT c = true) ∧ r.1.length = ds.length * n ∧ ∀ cs ∈ css, cs.length = n
 | [], css, h, r, hr, hl, hd, M, hB => by
  simp only [encL, Option.some.injEq] at hr; subst hr
  have : css = [] := List.eq_nil_of_length_eq_zero (by simpa using hl)
  subst this
  exact ⟨M, hB, .refl M, .nil, by simp, by simp, by simp⟩
 | d :: ds, [], h, r, hr, hl, hd, M, hB => by simp at hl
 | d :: ds, cs :: css, h, r, hr, hl, hd, M, hB => by
  simp only [encL] at hr
  split at hr
  ·rename_i c h1 hc
   split at hr
   ·rename_i hn
    split at hr
    ·rename_i cs' h2 hcs
     simp only [Option.some.injEq] at hr; subst hr
     obtain ⟨M1, b1, m1, v1, o1⟩ := hg e d h (c, h1) hc cs (hd 0 d cs rfl rfl) M hB
     obtain ⟨M2, b2, m2, v2, o2, l2, u2⟩ := encL_ok hg ds css h1 (cs', h2) hcs (by simpa using hl) (fun i d' cs'' e1 e2 => hd (i + 1) d' cs'' (by simpa using e1) (by simpa using e2)) M1 b1
     refine ⟨M2, b2, m1.trans m2, ?_, ?_, ?_, ?_⟩
     ·rw [List.flatten_cons]
      exact (v1.mono m2.h).append v2
     ·intro x hx
      rcases List.mem_append.1 hx with hx | hx
      ·exact o1 x hx
      ·exact o2 x hx
     ·simp only [List.length_append, l2, hn, List.length_cons, Nat.add_mul, Nat.one_mul]; omega
     ·intro x hx
      rcases List.mem_cons.1 hx with rfl | hx
      ·have := v1.len
       simp only at this
       omega
      ·exact u2 x hx
    ·cases hr
   ·cases hr
  ·cases hr
theorem encF_ok {g : TypeId → DataW H → List HB → Option (List TV × List HB)} (hg : EncOk enc P w g) {cs : List Value} : ∀ (fs : List Field) (ds : List (DataW H)) (o : Nat) (h : List HB) (r : List TV × List HB), encF P g o fs ds h = some r →
  (∀ (i : Nat) (f : Field) (d : DataW H), fs[i]? = some f → ds[i]? = some d → Reads enc P w f.type ((cs.drop f.offset).take (P.cellsOf f.type)) d) → ∀ M, Opened M h w →
  ∃ M', Opened M' r.2 w ∧ Mle M M' ∧ VRs M'.h r.1 ((cs.drop o).take r.1.length) ∧ ∀ c ∈ r.1, oneT c = true
 | [], [], o, h, r, hr, hd, M, hB => by
  simp only [encF, Option.some.injEq] at hr; subst hr
  exact ⟨M, hB, .refl M, by simpa using VRs.nil, by simp⟩
 | [], d :: ds, o, h, r, hr, hd, M, hB => by simp [encF] at hr
 | f :: fs, [], o, h, r, hr, hd, M, hB => by simp [encF] at hr
 | f :: fs, d :: ds, o, h, r, hr, hd, M, hB => by
  simp only [encF] at hr
  split at hr
  ·rename_i c h1 hc
   split at hr
   ·rename_i hn
    obtain ⟨ho, hn⟩ := hn
    split at hr
    ·rename_i cs' h2 hcs
     simp only [Option.some.injEq] at hr; subst hr
     obtain ⟨M1, b1, m1, v1, o1⟩ := hg f.type d h (c, h1) hc _ (hd 0 f d rfl rfl) M hB
     obtain ⟨M2, b2, m2, v2, o2⟩ := encF_ok hg fs ds (o + c.length) h1 (cs', h2) hcs (fun i f' d' e1 e2 => hd (i + 1) f' d' (by simpa using e1) (by simpa using e2)) M1 b1
     refine ⟨M2, b2, m1.trans m2, ?_, ?_⟩
     ·have := (v1.mono m2.h).append v2
      rw [ho, ← hn] at this
      simp only at this ⊢
      rw [List.length_append, List.take_add, List.drop_drop]
      exact this
     ·intro x hx
      rcases List.mem_append.1 hx with hx | hx
      ·exact o1 x hx
      ·exact o2 x hx
    ·cases hr
   ·cases hr
  ·cases hr
theorem flatten_get {n : Nat} : ∀ {css : List (List Value)}, (∀ cs ∈ css, cs.length = n) → ∀ (i j : Nat), j < n → css.flatten[i * n + j]? = (css[i]?).bind (·[j]?)
 | [], _, i, j, _ => by simp
 | cs :: css, h, 0, j, hj => by
  have := h cs List.mem_cons_self
  simp only [List.flatten_cons, Nat.zero_mul, Nat.zero_add]
  rw [List.getElem?_append_left (by omega)]
  simp
 | cs :: css, h, i + 1, j, hj => by
  have hc := h cs List.mem_cons_self
  simp only [List.flatten_cons]
  rw [List.getElem?_append_right (by rw [hc, Nat.add_mul, Nat.one_mul]; omega), hc]
  rw [show (i + 1) * n + j - n = i * n + j by rw [Nat.add_mul, Nat.one_mul]; omega]
  rw [flatten_get (fun x hx => h x (List.mem_cons_of_mem _ hx)) i j hj]
  simp
theorem ro_push {M : Mp} {h : List HB} (hB : Opened M h w) {cs : List TV} {ls : List Pl} (h1 : ∀ c ∈ cs, oneT c = true) (h2 : ∀ p ∈ ls, PlOk M.h w .ro cs p) :
  ∃ M', Opened M' (h ++ [.cells .ro cs]) w ∧ Mle M M' ∧ M' (.h h.length) = some (.cells ls) := by
 have hget : ctH h (.h h.length) = none := by simp [ctH, St.get]
 have hnh : M (.h h.length) = none := by
  cases hm : M (.h h.length) with
  | none => rfl
  | some l => have := hB.base.val.has hm; rw [hget] at this; cases this
 have hle : Mle M (updM M (.h h.length) (.cells ls)) := updM_le fun l0 h0 => by rw [hnh] at h0; cases h0
 have hg : ctH (h ++ [.cells .ro cs]) = updC (ctH h) (.h h.length) (.cells .ro cs) := get_push ⟨[], [], h, []⟩ _ [] []
 have hro : ∀ b ∈ h ++ [HB.cells .ro cs], wr b = false := fun b hb => by
  rcases List.mem_append.1 hb with hb | hb
  ·exact hB.ro b hb
  ·simp at hb; subst hb; rfl
 refine ⟨updM M (.h h.length) (.cells ls), ⟨⟨⟨?_, ?_, ?_⟩, fun k => ?_⟩, hro⟩, hle, by simp [updM]⟩
 ·intro k l hk _
  rw [hg]
  by_cases hkk : k = .h h.length
  ·subst hkk
   simp only [updM, if_true, Option.some.injEq] at hk; subst hk
   exact ⟨.cells .ro cs, by simp [updC], h1, fun p hp => (h2 p hp).mono hle.h rfl, by simp, by simp⟩
  ·simp only [updM, hkk, if_false] at hk
   obtain ⟨b, g1, g2⟩ := hB.base.val.ok k l hk trivial
   exact ⟨b, by simp [updC, hkk, g1], g2.mono hle.h fun _ _ => rfl⟩
 ·intro k k' l l' b hne hk hk' _ hb hw
  have : wr b = false := by
   cases k with
   | h x => exact hro b (List.mem_of_getElem? hb)
   | l x => simp [ctH, St.get] at hb
  rw [this] at hw; cases hw
 ·intro k l hk c hc
  by_cases hkk : k = .h h.length
  ·subst hkk
   simp only [updM, if_true, Option.some.injEq] at hk; subst hk
   obtain ⟨p, hp, rfl⟩ := List.mem_map.1 hc
   obtain ⟨arr, ty, fz, g1, _⟩ := (h2 p hp).row
   exact (Array.getElem?_eq_some_iff.1 g1).1
  ·simp only [updM, hkk, if_false] at hk
   exact hB.base.val.inb k l hk c hc
 ·simp [updM]; exact hB.base.loc k
theorem encT_ok : ∀ g, EncOk enc P w (encT P g)
 | 0 => by intro t d h r hr; simp [encT] at hr
 | g + 1 => by
  intro t d h r hr cs hd M hB
  obtain ⟨fuel, ps, hd⟩ := hd
  have ih := encT_ok g
  simp only [encT] at hr
  split at hr
  ·-- bool
   rename_i b hu
   simp only [Option.some.injEq] at hr; subst hr
   refine ⟨M, hB, .refl M, ?_, by simp [oneT]⟩
   cases fuel with
   | zero => simp [DataW.trod] at hd
   | succ n =>
    unfold DataW.trod at hd
    rw [hu] at hd
    split at hd <;> simp_all
    exact .cons (.bool _) .nil
  ·-- int
   rename_i k0 k n hu
   simp only [Option.some.injEq] at hr; subst hr
   refine ⟨M, hB, .refl M, ?_, by simp [oneT]⟩
   cases fuel with
   | zero => simp [DataW.trod] at hd
   | succ n =>
    unfold DataW.trod at hd
    rw [hu] at hd
    split at hd <;> simp_all
    exact .cons (.int _ _) .nil
  ·-- string
   rename_i bs hu
   simp only [Option.some.injEq] at hr; subst hr
   refine ⟨M, hB, .refl M, ?_, by simp [oneT]⟩
   cases fuel with
   | zero => simp [DataW.trod] at hd
   | succ n =>
    unfold DataW.trod at hd
    rw [hu] at hd
    split at hd <;> simp_all
    obtain ⟨_, rfl, _⟩ := hd
    exact .cons (.str _) .nil
  ·-- nil slice
   rename_i e hu
   simp only [Option.some.injEq] at hr; subst hr
   refine ⟨M, hB, .refl M, ?_, by simp [oneT]⟩
   rcases Deep.open_slice hu hd with ⟨rfl, _⟩ | ⟨a, len, cap, m, n, Dt, Pl, _, _, _, _, _, hx, _⟩
   ·exact .cons .nslc .nil
   ·cases hx
  ·-- a slice
   rename_i e xs ys hu
   split at hr
   ·rename_i cells h1 hl
    split at hr
    ·cases hr
    ·rename_i hn0
     simp only [Option.some.injEq] at hr; subst hr
     rcases Deep.open_slice hu hd with ⟨rfl, hx⟩ | ⟨a, len, cap, m, n, Dt, Pl, rfl, _, hlc, hmax, hm, hx, hat⟩
     ·cases hx
     ·simp only [if_true] at hm
      have hm' := hm.symm
      subst hm'
      simp only [Prod.mk.injEq, DataW.slice.injEq] at hx
      obtain ⟨⟨hxs, hys⟩, _⟩ := hx
      have lxs : xs.length = len := by rw [hxs]; simp
      have lys : ys.length = cap - len := by rw [hys]; simp
      have hds : ∀ i, i < cap → (xs ++ ys)[i]? = some (Dt i) := by
       intro i hi
       by_cases h1 : i < len
       ·rw [List.getElem?_append_left (by omega), hxs]
        simp [h1]
       ·rw [List.getElem?_append_right (by omega), lxs, hys]
        have h2 : i - len < cap - len := by omega
        simp [h2, show len + (i - len) = i by omega]
      have hn := hat
      let css : List (List Value) := (List.range cap).map fun i => (w.cells? 0 (a.add (i * P.cellsOf e)) (P.cellsOf e)).getD []
      have hcs : ∀ i, i < cap → ∃ cs', css[i]? = some cs' ∧ w.cells? 0 (a.add (i * P.cellsOf e)) (P.cellsOf e) = some cs' ∧ DataW.trod enc P w 0 (fun _ => true) true n e cs' = some (Dt i, Pl i) := by
       intro i hi
       obtain ⟨cs', e1, e2⟩ := hat i hi
       exact ⟨cs', by simp [css, hi, e1], e1, e2⟩
      have lcss : css.length = cap := by simp [css]
      obtain ⟨M1, b1, m1, v1, o1, l1, u1⟩ := encL_ok ih (xs ++ ys) css h (cells, h1) hl (by simp [lcss, lxs, lys]; omega) (fun i d cs e1 e2 => by
       have hi : i < cap := by rw [← lcss]; exact (List.getElem?_eq_some_iff.1 e2).1
       obtain ⟨cs', f1, f2, f3⟩ := hcs i hi
       rw [f1] at e2; cases e2
       rw [hds i hi] at e1; cases e1
       exact ⟨n, _, f3⟩) M hB
      simp only at b1 v1 o1 l1
      have l1' : cells.length = cap * P.cellsOf e := by rw [l1]; simp [lxs, lys]; congr 1; omega
      have hn0' : 0 < P.cellsOf e := by omega
      have e1 : xs.length + ys.length = cap := by omega
      show ∃ M', Opened M' (h1 ++ [.cells .ro cells]) w ∧ Mle M M' ∧ VRs M'.h [.slc h1.length 0 xs.length (xs.length + ys.length) (P.cellsOf e) true] [.slice (some a) len cap] ∧ ∀ c ∈ [TV.slc h1.length 0 xs.length (xs.length + ys.length) (P.cellsOf e) true], oneT c = true
      rw [e1, lxs]
      by_cases hc0 : cap = 0
      ·obtain ⟨M2, b2, m2, k2⟩ := ro_push b1 (cs := cells) (ls := []) o1 (by simp)
       refine ⟨M2, b2, m1.trans m2, .cons (.slc (p := ⟨0, 0, 0, 0⟩) k2 (.inl hc0) ?_ ?_ ?_ ?_ (.inl hc0) (by unfold maxLen at hmax; omega)) .nil, by intro c hc; simp at hc; subst hc; rfl⟩
       ·simp [hc0]
       ·omega
       ·omega
       ·intro _; omega
      ·have hcell : ∀ k, k < cap * P.cellsOf e → w.cell? (a.add k) = css.flatten[k]? := by
        intro k hk
        have hj : k % P.cellsOf e < P.cellsOf e := Nat.mod_lt _ hn0'
        have hi : k / P.cellsOf e < cap := by rw [Nat.div_lt_iff_lt_mul hn0']; exact hk
        have hkk : k / P.cellsOf e * P.cellsOf e + k % P.cellsOf e = k := by
         rw [Nat.mul_comm]; exact Nat.div_add_mod k _
        obtain ⟨cs', f1, f2, _⟩ := hcs _ hi
        obtain ⟨_, _, f3⟩ := World.cells?_some f2
        have f4 := f3 _ hj
        rw [Deep.add_add, hkk] at f4
        have f5 := flatten_get u1 (k / P.cellsOf e) (k % P.cellsOf e) hj
        rw [hkk, f1] at f5
        rw [f4, f5]; rfl
       have hpos : 0 < cap * P.cellsOf e := Nat.mul_pos (by omega) hn0'
       have lfl : css.flatten.length = cap * P.cellsOf e := by rw [← v1.len, l1']
       have h00 := hcell 0 hpos
       have hv0 : css.flatten[0]? = some (css.flatten[0]'(by omega)) := List.getElem?_eq_getElem _
       rw [hv0, Addr.add, if_pos rfl] at h00
       have hrow : ∃ arr ty fz, w.heap[a.block]? = some (.cells arr ty fz) ∧ a.spot = none := by
        unfold World.cell? at h00
        split at h00
        ·rename_i c ty fz hh
         split at h00
         ·cases h00
         ·rename_i hsp
          exact ⟨c, ty, fz, hh, by simpa using hsp⟩
        ·cases h00
       obtain ⟨arr, ty, fz, hh, hsp⟩ := hrow
       have hcellarr : ∀ k, w.cell? (a.add k) = arr[a.off + k]? := by
        intro k
        unfold World.cell? Addr.add
        by_cases hk : k = 0
        ·subst hk; simp [hh, hsp]
        ·simp [hk, hh]
       have hbound : a.off + cap * P.cellsOf e ≤ arr.size := by
        have h1 := hcell (cap * P.cellsOf e - 1) (by omega)
        rw [hcellarr, List.getElem?_eq_getElem (by omega)] at h1
        have := (Array.getElem?_eq_some_iff.1 h1).1
        omega
       obtain ⟨M2, b2, m2, k2⟩ := ro_push b1 (cs := cells) (ls := [⟨a.block, a.off, cap * P.cellsOf e, arr.size⟩]) o1 (by
        intro p hp
        simp at hp; subst hp
        refine ⟨⟨arr, ty, fz, hh, rfl, by simp, fun _ i c v hi e1 e2 => ?_⟩, hbound, Nat.le_of_eq l1'.symm, by simp⟩
        simp only at hi e2
        rw [← hcellarr, hcell i hi] at e2
        exact v1.at_ i c v e1 e2)
       refine ⟨M2, b2, m1.trans m2, .cons (.slc (p := ⟨a.block, a.off, cap * P.cellsOf e, arr.size⟩) k2 (.inr (by simp)) ?_ ?_ ?_ ?_ (.inr ⟨?_, ?_⟩) (by unfold maxLen at hmax; omega)) .nil, by intro c hc; simp at hc; subst hc; rfl⟩
       ·simp
       ·omega
       ·omega
       ·intro _; omega
       ·cases a; simp_all
       ·simpa using hbound
   ·cases hr
  ·-- a struct
   rename_i fs ds hu
   split at hr
   ·rename_i cs' h1 hl
    split at hr
    ·rename_i hlen
     simp only [Option.some.injEq] at hr; subst hr
     obtain ⟨zs, n, _, hx, hcl, hzl, hat⟩ := DataW.trod_struct hu hd
     simp only [Prod.mk.injEq, DataW.agg.injEq] at hx
     obtain ⟨rfl, _⟩ := hx
     obtain ⟨M', b1, m1, v1, o1⟩ := encF_ok ih fs.toList _ 0 h (cs', h1) hl (cs := cs) (fun i f d e1 e2 => by
      have e1' : fs[i]? = some f := by simpa using e1
      simp only [List.getElem?_map, Option.map_eq_some_iff] at e2
      obtain ⟨z, hz, rfl⟩ := e2
      exact ⟨n, z.2, by rw [hat i f e1', hz]⟩) M hB
     refine ⟨M', b1, m1, ?_, o1⟩
     simp only at v1 ⊢
     rw [hlen, ← hcl] at v1
     simpa using v1
    ·cases hr
   ·cases hr
  ·cases hr
end
end Tw
namespace Tw
open Go Go.ChangeShapes Go.WideShapes Go.RowKit
section
variable {H : Type} {enc : TypeId × Value → H} {P : Program} {W W' : World}
def encA (P : Program) (g : Nat) : List TypeId → List (DataW H) → List HB → Option (List TV × List HB)
 | [], [], h => some ([], h)
 | t :: ts, d :: ds, h => match encT P g t d h with
  | some (c, h1) => match isAggT P t, c, encA P g ts ds h1 with
   | some true, c, some (az, h2) => some (.agg c :: az, h2)
   | some false, [x], some (az, h2) => some (x :: az, h2)
   | _, _, _ => none
  | none => none
 | _, _, _ => none
theorem okWide_one {r : Reach} {b : Nat} {t : TypeId} {v : Value} (ha : isAggT P t = some false) (h : Value.okWide P W r b t v) : v.cells.toList = [v] := by
 unfold isAggT at ha
 unfold Value.okWide at h
 cases hu : P.underlying t with
 | none => simp [hu] at ha
 | some u =>
  rw [hu] at ha h
  cases v with
  | agg cs => cases u <;> simp_all [Cell.okWide, Cell.ok]
  | _ => rfl
theorem okWide_agg {r : Reach} {b : Nat} {t : TypeId} {v : Value} (ha : isAggT P t = some true) (h : Value.okWide P W r b t v) : ∃ cs, v = .agg cs := by
 unfold isAggT at ha
 unfold Value.okWide at h
 cases hu : P.underlying t with
 | none => simp [hu] at ha
 | some u =>
  rw [hu] at ha h
  cases u <;> simp_all <;> exact ⟨_, h.choose_spec.1⟩
theorem encA_ok {r : Reach} {b g : Nat} : ∀ {ts : List TypeId} {vs : List Value} {ds : List (DataW H)} {ps : List MemPlace} {h : List HB} {x : List TV × List HB} {M : Mp},
  DataW.TrodAll enc P W 0 (fun _ => true) true ts vs ds ps → (∀ (j : Nat) t v, ts[j]? = some t → vs[j]? = some v → Value.okWide P W r b t v) → encA P g ts ds h = some x → Opened M h W →
  ∃ M', Opened M' x.2 W ∧ Mle M M' ∧ VRs M'.h x.1 vs
 | [], vs, ds, ps, h, x, M, ht, ho, he, hB => by
  obtain ⟨rfl, rfl, rfl⟩ := trodAll_nil ht
  simp only [encA, Option.some.injEq] at he; subst he
  exact ⟨M, hB, .refl M, .nil⟩
 | t :: ts, vs, ds, ps, h, x, M, ht, ho, he, hB => by
  obtain ⟨v, vs', d, ds', p, q, rfl, rfl, rfl, hd, hrest⟩ := trodAll_cons ht
  simp only [encA] at he
  split at he
  ·rename_i c h1 hc
   obtain ⟨fuel, hf⟩ := hd
   obtain ⟨M1, b1, m1, v1, o1⟩ := encT_ok (enc := enc) (P := P) (w := W) g t d h (c, h1) hc v.cells.toList ⟨fuel, p, hf⟩ M hB
   split at he
   ·rename_i az h2 ha hr
    simp only [Option.some.injEq] at he; subst he
    obtain ⟨M2, b2, m2, v2⟩ := encA_ok (x := (az, h2)) hrest (fun j t' v' e1 e2 => ho (j + 1) t' v' (by simpa using e1) (by simpa using e2)) hr b1
    obtain ⟨cs, rfl⟩ := okWide_agg ha (ho 0 t v rfl rfl)
    refine ⟨M2, b2, m1.trans m2, .cons ?_ v2⟩
    have := VR.agg' (v1.mono m2.h)
    simpa [Value.cells] using this
   ·rename_i y az h2 ha hr
    simp only [Option.some.injEq] at he; subst he
    obtain ⟨M2, b2, m2, v2⟩ := encA_ok (x := (az, h2)) hrest (fun j t' v' e1 e2 => ho (j + 1) t' v' (by simpa using e1) (by simpa using e2)) hr b1
    have h1c := okWide_one ha (ho 0 t v rfl rfl)
    rw [h1c] at v1
    obtain ⟨z, zs, e1, e2, e3⟩ := (v1.mono m2.h).inv_cons
    simp only [List.cons.injEq] at e1
    obtain ⟨rfl, rfl⟩ := e1
    exact ⟨M2, b2, m1.trans m2, .cons e2 v2⟩
   ·cases he
  ·cases he
theorem trodAll_below (hl : laidOutB P = true) (hb : Below W.heap.size W W') : ∀ {ts : List TypeId} {vs : List Value} {ds : List (DataW H)} {ps : List MemPlace},
  (ts.all fun t => P.readableRec t && decide (t < P.types.size)) = true → DataW.TrodAll enc P W 0 (fun _ => true) true ts vs ds ps → (∀ x ∈ ps, x.block < W.heap.size) →
  DataW.TrodAll enc P W' 0 (fun b => decide (b < W.heap.size)) true ts vs ds ps
 | [], _, _, _, _, h, _ => by
  obtain ⟨rfl, rfl, rfl⟩ := trodAll_nil h
  rfl
 | t :: ts, _, _, _, ho, h, hlt => by
  obtain ⟨v, vs', d, ds', p, q, rfl, rfl, rfl, hd, hrest⟩ := trodAll_cons h
  simp only [List.all_cons, Bool.and_eq_true, decide_eq_true_eq] at ho
  exact ⟨p, q, Below.trod hl ho.1.1 ho.1.2 hd hb (fun x hx => hlt x (List.mem_append_left _ hx)), trodAll_below hl hb ho.2 hrest (fun x hx => hlt x (List.mem_append_right _ hx)), rfl⟩
theorem post_true {f : Func} {s : ChangeSpec} {args : Array Value} {ds : List (DataW H)} {before : List MemPlace} {tb : TypeId} (hl : laidOutB P = true) (hv : s.vars = []) (hs : s.fn H ds = { results := [.lit (.bool true)], args := ds })
  (hf : f.resultTypes = #[tb]) (htb : P.underlying tb = some .bool) (hp : (f.params.toList.all fun t => P.readableRec t && decide (t < P.types.size)) = true)
  (hW : DataW.Whole enc P f.params.toList s.vars false W args.toList ds [] before) (hb : Below W.heap.size W W') : s.post enc P f false true false false W args (.bool true) W' := by
 have hW' := hW
 obtain ⟨p, q, hA, hV, rfl, hfz, hnd⟩ := hW
 rw [hv] at hV
 have hq : q = [] := hV
 subst hq
 have hlt : ∀ x ∈ p, x.block < W.heap.size := fun x hx => by simpa using hW'.lt x (List.mem_append_left _ hx)
 refine ⟨ds, [], p ++ [], [], p, [], hW', ?_, ?_, ?_, hb.frame _, by simp⟩
 ·rw [List.append_nil, hs, hf]
  refine ⟨[], [], ⟨1, ?_⟩, rfl, rfl⟩
  simp [DataW.trod, htb, Value.cells]
 ·rw [List.append_nil, hs]
  exact trodAll_below hl hb hp hA hlt
 ·rw [List.append_nil, hs, hv]
  rfl
theorem law_calls {T : Tab} {L n g fnum : Nat} {f : Func} {s : ChangeSpec} {args : Array Value} {ds : List (DataW H)} {before : List MemPlace} {tb : TypeId} {r : Reach} {b : Nat} (hm : P.follows .mixedOrders = true)
  (hl : laidOutB P = true) (hv : s.vars = []) (hs : s.fn H ds = { results := [.lit (.bool true)], args := ds })
  (hf : f.resultTypes = #[tb]) (htb : P.underlying tb = some .bool) (hp : (f.params.toList.all fun t => P.readableRec t && decide (t < P.types.size)) = true)
  (hW : DataW.Whole enc P f.params.toList s.vars false W args.toList ds [] before)
  (hval : ∀ (j : Nat) t v, f.params[j]? = some t → args[j]? = some v → Value.okWide P W r b t v)
  {az : List TV} {h h' : List HB} (he : encA P g f.params.toList ds [] = some (az, h)) (hr : run P T L (n + 1) fnum az h = some (.bool true, h', [])) :
  Calls P fnum args W fun e W' => ∃ v, e = .returned v ∧ s.post enc P f false true false false W args v W' := by
 obtain ⟨p, q, hA, _⟩ := id hW
 have h0 : Opened (fun _ => none) [] W := ⟨⟨⟨by simp, by simp, by simp⟩, by simp⟩, by simp⟩
 obtain ⟨M', b1, _, v1⟩ := encA_ok hA (fun j t v e1 e2 => hval j t v (by simpa using e1) (by simpa using e2)) he h0
 have hc := run_ok hm hr b1.base.val b1.base.loc v1 0
 refine (callsIn_wide.1 hc).mono fun e W' hR => ?_
 cases e with
 | panicked c => exact hR.elim
 | outgrown => exact hR.elim
 | returned v =>
  obtain ⟨M2, _, _, hX, hv'⟩ := hR
  cases hv'
  refine ⟨_, rfl, post_true hl hv hs hf htb hp hW ⟨hX.os, hX.tape, hX.output, hX.size, fun k hk => hX.frame k hk (by simp)⟩⟩
end
end Tw
namespace Tw
open Go
def closT (f : Nat) (b : Bool) : CallT := fun fv args h => match fv, args with
 | .fn g [] [], [] => if g = f then some (.bool b, h, []) else none
 | _, _ => none
def isT : Option (TV × List HB × List Nat) → Bool
 | some (.bool true, _, []) => true
 | _ => false
end Tw
namespace Tw
open Go
def renT (g : Nat → Option Nat) : TV → Option TV
 | .ptr b o l => (g b).map fun b => .ptr b o l
 | .slc b o n c z e => (g b).map fun b => .slc b o n c z e
 | .map r => (g r).map .map
 | .yld _ => none
 | .fn f a c => match renTs g a, renTs g c with
  | some a, some c => some (.fn f a c)
  | _, _ => none
 | .agg cs => (renTs g cs).map .agg
 | .tup cs => (renTs g cs).map .tup
 | .bool b => some (.bool b)
 | .int k n => some (.int k n)
 | .str s => some (.str s)
 | .nil k => some (.nil k)
where
 renTs (g : Nat → Option Nat) : List TV → Option (List TV)
 | [] => some []
 | c :: cs => match renT g c, renTs g cs with
  | some v, some vs => some (v :: vs)
  | _, _ => none
theorem renTs_at {g : Nat → Option Nat} : ∀ {az as' : List TV}, renT.renTs g az = some as' → az.length = as'.length ∧ ∀ (i : Nat) c', as'[i]? = some c' → ∃ c, az[i]? = some c ∧ renT g c = some c'
 | [], as', h => by cases h; exact ⟨rfl, fun i c h => by simp at h⟩
 | a :: az, as', h => by
  simp only [renT.renTs] at h
  split at h
  ·rename_i v vs e1 e2
   cases h
   obtain ⟨h1, h2⟩ := renTs_at e2
   refine ⟨by simp [h1], fun i c' hi => ?_⟩
   cases i with
   | zero => simp at hi; subst hi; exact ⟨a, rfl, e1⟩
   | succ i => exact h2 i c' (by simpa using hi)
  ·cases h
section
variable {g : Nat → Option Nat} {N N' : Np}
theorem renT_ok (hg : ∀ b b', g b = some b' → N' b' = N b) {v : TV} {x : Value} (h : VR N v x) : ∀ {v'}, renT g v = some v' → VR N' v' x := by
 have lst : ∀ {az : List TV} {xs : List Value}, az.length = xs.length → (∀ (i : Nat) (c : TV) (v : Value), az[i]? = some c → xs[i]? = some v → ∀ {v'}, renT g c = some v' → VR N' v' v) → ∀ {as'}, renT.renTs g az = some as' → as'.length = xs.length ∧ ∀ (i : Nat) (c : TV) (v : Value), as'[i]? = some c → xs[i]? = some v → VR N' c v := by
  intro az xs hl ha as' hr
  obtain ⟨h1, h2⟩ := renTs_at hr
  exact ⟨by rw [← h1, hl], fun i c v e1 e2 => by obtain ⟨c0, f1, f2⟩ := h2 i c e1; exact ha i c0 v f1 e2 f2⟩
 induction h with
 | bool b => intro v' h; cases h; exact .bool b
 | int k n => intro v' h; cases h; exact .int k n
 | str s => intro v' h; cases h; exact .str s
 | nptr => intro v' h; cases h; exact .nptr
 | nslc => intro v' h; cases h; exact .nslc
 | nmap => intro v' h; cases h; exact .nmap
 | nfn => intro v' h; cases h; exact .nfn
 | nifc => intro v' h; cases h; exact .nifc
 | ptr hb hp h ht =>
  intro v' hr
  simp only [renT, Option.map_eq_some_iff] at hr
  obtain ⟨b', e, rfl⟩ := hr
  exact .ptr (by rw [hg _ _ e]; exact hb) hp h ht
 | slc hb hp h hl hc hx ha hk =>
  intro v' hr
  simp only [renT, Option.map_eq_some_iff] at hr
  obtain ⟨b', e, rfl⟩ := hr
  exact .slc (by rw [hg _ _ e]; exact hb) hp h hl hc hx ha hk
 | map h =>
  intro v' hr
  simp only [renT, Option.map_eq_some_iff] at hr
  obtain ⟨b', e, rfl⟩ := hr
  exact .map (by rw [hg _ _ e]; exact h)
 | yld h => intro v' hr; simp [renT] at hr
 | fn h1 h2 h3 h4 i2 i4 =>
  intro v' hr
  simp only [renT] at hr
  split at hr
  ·rename_i a c e1 e2
   cases hr
   obtain ⟨p1, p2⟩ := lst h1 i2 e1
   obtain ⟨q1, q2⟩ := lst h3 i4 e2
   exact .fn p1 p2 q1 q2
  ·cases hr
 | agg h1 h2 i2 =>
  intro v' hr
  simp only [renT, Option.map_eq_some_iff] at hr
  obtain ⟨a, e, rfl⟩ := hr
  obtain ⟨p1, p2⟩ := lst h1 i2 e
  exact .agg p1 p2
 | tup h1 h2 i2 =>
  intro v' hr
  simp only [renT, Option.map_eq_some_iff] at hr
  obtain ⟨a, e, rfl⟩ := hr
  obtain ⟨p1, p2⟩ := lst h1 i2 e
  exact .tup p1 p2
def renEs (g : Nat → Option Nat) : List (TV × TV) → Option (List (TV × TV))
 | [] => some []
 | (k, v) :: r => match renT g k, renT g v, renEs g r with
  | some k, some v, some r => some ((k, v) :: r)
  | _, _, _ => none
theorem renEs_at : ∀ {az as' : List (TV × TV)}, renEs g az = some as' → az.length = as'.length ∧ ∀ (i : Nat) c', as'[i]? = some c' → ∃ c, az[i]? = some c ∧ renT g c.1 = some c'.1 ∧ renT g c.2 = some c'.2
 | [], as', h => by cases h; exact ⟨rfl, fun i c h => by simp at h⟩
 | (k, v) :: az, as', h => by
  simp only [renEs] at h
  split at h
  ·rename_i k' v' vs e0 e1 e2
   cases h
   obtain ⟨h1, h2⟩ := renEs_at e2
   refine ⟨by simp [h1], fun i c' hi => ?_⟩
   cases i with
   | zero => simp at hi; subst hi; exact ⟨(k, v), rfl, e0, e1⟩
   | succ i => exact h2 i c' (by simpa using hi)
  ·cases h
def renHB (g : Nat → Option Nat) : HB → Option HB
 | .cells k cs => (renT.renTs g cs).map (.cells k)
 | .map es => (renEs g es).map .map
 | .mark => some .mark
 | .loop .. => none
theorem ren_oneT {v v' : TV} (h : renT g v = some v') : oneT v' = oneT v := by
 cases v <;> simp only [renT, Option.map_eq_some_iff, Option.some.injEq] at h
 all_goals first
  | (obtain ⟨b, _, rfl⟩ := h; rfl)
  | (subst h; rfl)
  | (split at h <;> cases h; rfl)
  | cases h
theorem renHB_ok (hg : ∀ b b', g b = some b' → N' b' = N b) {w : World} {b b' : HB} {l : Lc} (h : okBlk N w b l) (hr : renHB g b = some b') : okBlk N' w b' l := by
 cases b with
 | cells k cs =>
  cases l with
  | obj r => exact h.elim
  | cells ls =>
   simp only [renHB, Option.map_eq_some_iff] at hr
   obtain ⟨cs', e, rfl⟩ := hr
   obtain ⟨h1, h2⟩ := renTs_at e
   refine ⟨fun c hc => ?_, fun p hp => ?_, fun hk => by rw [← h1]; exact h.2.2.1 hk, fun hk => by rw [← h1]; exact h.2.2.2 hk⟩
   ·obtain ⟨i, hi⟩ := List.mem_iff_getElem?.1 hc
    obtain ⟨c0, f1, f2⟩ := h2 i c hi
    rw [ren_oneT f2]
    exact h.1 c0 (List.mem_of_getElem? f1)
   ·obtain ⟨⟨arr, ty, fz, a1, a2, a3, a4⟩, b1, b2, b3⟩ := h.2.1 p hp
    exact ⟨⟨arr, ty, fz, a1, a2, a3, fun hk i c v hi hc hv => by obtain ⟨c0, f1, f2⟩ := h2 i c hc; exact renT_ok hg (a4 (by rw [h1]; exact hk) i c0 v hi f1 hv) f2⟩, b1, by rw [← h1]; exact b2, b3⟩
 | map es =>
  cases l with
  | cells ls => exact h.elim
  | obj r =>
   simp only [renHB, Option.map_eq_some_iff] at hr
   obtain ⟨es', e, rfl⟩ := hr
   obtain ⟨h1, h2⟩ := renEs_at e
   obtain ⟨xs, ck, a1, a2, a3⟩ := h
   exact ⟨xs, ck, a1, by rw [← h1]; exact a2, fun i c x hc hx => by obtain ⟨c0, f1, f2, f3⟩ := h2 i c hc; exact ⟨renT_ok hg (a3 i c0 x f1 hx).1 f2, renT_ok hg (a3 i c0 x f1 hx).2 f3⟩⟩
 | mark => simp only [renHB, Option.some.injEq] at hr; subst hr; cases l <;> exact h
 | loop => simp [renHB] at hr
theorem ren_wr {b b' : HB} (h : renHB g b = some b') : wr b' = wr b := by
 cases b with
 | cells k cs => simp only [renHB, Option.map_eq_some_iff] at h; obtain ⟨_, _, rfl⟩ := h; cases k <;> rfl
 | map es => simp only [renHB, Option.map_eq_some_iff] at h; obtain ⟨_, _, rfl⟩ := h; rfl
 | mark => simp only [renHB, Option.some.injEq] at h; subst h; rfl
 | loop => simp [renHB] at h
end
def posF : List Nat → Nat → Option Nat
 | [], _ => none
 | a :: l, i => match Nat.beq a i with
  | true => some 0
  | false => (posF l i).map (· + 1)
theorem posF_at : ∀ {l : List Nat} {i p : Nat}, posF l i = some p → l[p]? = some i
 | [], i, p, h => by cases h
 | a :: l, i, p, h => by
  simp only [posF] at h
  split at h
  ·rename_i e; cases h; rw [Nat.eq_of_beq_eq_true e]; rfl
  ·simp only [Option.map_eq_some_iff] at h
   obtain ⟨q, e, rfl⟩ := h
   rw [List.getElem?_cons_succ]; exact posF_at e
def renG (fl : Nat) (keep : List Nat) (b : Nat) : Option Nat := match Nat.blt b fl with
 | true => some b
 | false => (posF keep b).map (· + fl)
def pickG (g : Nat → Option Nat) (h : List HB) : List Nat → Option (List HB)
 | [] => some []
 | b :: l => match h[b]? with
  | some x => match renHB g x, pickG g h l with
   | some y, some r => some (y :: r)
   | _, _ => none
  | none => none
theorem pickG_at {g : Nat → Option Nat} {h : List HB} : ∀ {l : List Nat} {bs : List HB}, pickG g h l = some bs → l.length = bs.length ∧ ∀ (i : Nat) y, bs[i]? = some y → ∃ c x, l[i]? = some c ∧ h[c]? = some x ∧ renHB g x = some y
 | [], bs, e => by cases e; exact ⟨rfl, fun i y h => by simp at h⟩
 | b :: l, bs, e => by
  simp only [pickG] at e
  split at e
  ·rename_i x hx
   split at e
   ·rename_i y r e1 e2
    cases e
    obtain ⟨h1, h2⟩ := pickG_at e2
    refine ⟨by simp [h1], fun i y' hi => ?_⟩
    cases i with
    | zero => simp at hi; subst hi; exact ⟨b, x, rfl, hx, e1⟩
    | succ i => exact h2 i y' (by simpa using hi)
   ·cases e
  ·cases e
theorem CallR.gc {M : Mp} {h h' bs : List HB} {w w' : World} {v v' : TV} {y : Value} {keep : List Nat} (hV : Valid M allK (ctH h) w) (hl : ∀ k, M (.l k) = none) (hR : CallR M h w v h' [] y w') (hn : keep.Nodup) (hk : ∀ b ∈ keep, h.length ≤ b) (hv : renT (renG h.length keep) v = some v') (hb : pickG (renG h.length keep) h' keep = some bs) : CallR M h w v' (h ++ bs) [] y w' := by
 obtain ⟨M', hV', hl', hX, hv'⟩ := hR
 have hdom : ∀ b l, M (.h b) = some l → b < h.length := fun b l hb => by
  have := hV.has hb
  simp only [ctH, St.get] at this
  rcases Nat.lt_or_ge b h.length with h1 | h1
  ·exact h1
  ·rw [List.getElem?_eq_none h1] at this; simp at this
 have hold : ∀ b, b < h.length → M' (.h b) = M (.h b) := fun b hb => hX.keepM (.h b) (.inl (by simp [ctH, St.get, hb])) (by simp)
 have hoc : ∀ b, b < h.length → ctH h' (.h b) = ctH h (.h b) := fun b hb => hX.keep (.h b) (by simp [ctH, St.get, hb]) (by simp)
 obtain ⟨p1, p2⟩ := pickG_at hb
 let κ : Nat → Option Nat := fun b => if b < h.length then some b else keep[b - h.length]?
 let M2 : Mp := fun k => match k with
  | .l _ => none
  | .h b => match κ b with
   | some c => M' (.h c)
   | none => none
 have hκ : ∀ b c, κ b = some c → M2 (.h b) = M' (.h c) := fun b c e => by show (match κ b with | some c => M' (.h c) | none => none) = _; rw [e]
 have hκn : ∀ b, κ b = none → M2 (.h b) = none := fun b e => by show (match κ b with | some c => M' (.h c) | none => none) = _; rw [e]
 have hM2 : ∀ b l, M2 (.h b) = some l → ∃ c, κ b = some c ∧ M' (.h c) = some l := fun b l e => by
  cases e2 : κ b with
  | none => rw [hκn b e2] at e; cases e
  | some c => rw [hκ b c e2] at e; exact ⟨c, rfl, e⟩
 have klt : ∀ b, b < h.length → κ b = some b := fun b hb => by simp only [κ, if_pos hb]
 have kge : ∀ b, ¬ b < h.length → κ b = keep[b - h.length]? := fun b hb => by simp only [κ, if_neg hb]
 have hg : ∀ b b', renG h.length keep b = some b' → M2.h b' = M'.h b := fun b b' e => by
  unfold renG at e
  split at e
  ·rename_i hlt
   have hlt : b < h.length := Nat.le_of_ble_eq_true hlt
   cases e
   exact hκ _ _ (klt b hlt)
  ·simp only [Option.map_eq_some_iff] at e
   obtain ⟨p, e1, rfl⟩ := e
   exact hκ _ _ (by rw [kge _ (by omega), Nat.add_sub_cancel]; exact posF_at e1)
 have hle : Mle M.h M2.h := fun b l e => ⟨l, by show M2 (.h b) = some l; rw [hκ b b (klt b (hdom b l e)), hold b (hdom b l e)]; exact e, .refl l⟩
 have hfr : ∀ c, c < w.heap.size → w'.heap[c]? = w.heap[c]? := fun c hc => hX.frame c hc (by simp)
 have hC : ∀ b, b < h.length → ctH (h ++ bs) (.h b) = ctH h (.h b) := fun b hb => by simp only [ctH, St.get]; rw [List.getElem?_append_left hb]
 have hC2 : ∀ b, ¬ b < h.length → ctH (h ++ bs) (.h b) = bs[b - h.length]? := fun b hb => by simp only [ctH, St.get]; rw [List.getElem?_append_right (by omega)]
 refine ⟨M2, ⟨fun k l hk2 _ => ?_, fun k k' l l' b hne h1 h2 _ hc hw => ?_, fun k l hk2 => ?_⟩, fun _ => rfl, ⟨fun k l e => ?_, fun c hc _ => hfr c hc, fun k hs _ => ?_, fun k hs _ => ?_, fun k l e c hc hs => ?_, hX.size, fun k hs => ?_, by simp, by simp, hX.os, hX.output, hX.tape⟩, renT_ok hg hv' hv⟩
 ·cases k with
  | l k => cases hk2
  | h b =>
   obtain ⟨c, e1, e2⟩ := hM2 b l hk2
   by_cases hb2 : b < h.length
   ·have := klt b hb2
    rw [this] at e1; cases e1
    rw [hold b hb2] at e2
    obtain ⟨x, f1, f2⟩ := hV.ok _ l e2 trivial
    exact ⟨x, by rw [hC b hb2]; exact f1, f2.mono hle fun c hc => hfr c (hV.inb _ l e2 c hc)⟩
   ·rw [kge b hb2] at e1
    have hlt : b - h.length < bs.length := by rw [← p1]; exact (List.getElem?_eq_some_iff.1 e1).1
    obtain ⟨c', x, f1, f2, f3⟩ := p2 _ _ (List.getElem?_eq_getElem hlt)
    rw [e1] at f1; cases f1
    obtain ⟨x', g1, g2⟩ := hV'.ok _ l e2 trivial
    have g1 : h'[c]? = some x' := g1
    rw [f2] at g1; cases g1
    exact ⟨_, by rw [hC2 b hb2]; exact List.getElem?_eq_getElem hlt, renHB_ok hg g2 f3⟩
 ·cases k with
  | l k => cases h1
  | h b1 =>
   cases k' with
   | l k => cases h2
   | h b2 =>
    obtain ⟨c1, e1, e2⟩ := hM2 b1 l h1
    obtain ⟨c2, e3, e4⟩ := hM2 b2 l' h2
    have hcc : c1 ≠ c2 := fun e => by
     subst e
     by_cases q1 : b1 < h.length <;> by_cases q2 : b2 < h.length
     ·rw [klt _ q1] at e1; rw [klt _ q2] at e3; cases e1; cases e3; exact hne rfl
     ·rw [klt _ q1] at e1; rw [kge _ q2] at e3; cases e1; have := hk _ (List.mem_of_getElem? e3); omega
     ·rw [kge _ q1] at e1; rw [klt _ q2] at e3; cases e3; have := hk _ (List.mem_of_getElem? e1); omega
     ·rw [kge _ q1] at e1; rw [kge _ q2] at e3
      have i1 := (List.getElem?_eq_some_iff.1 e1)
      have i2 := (List.getElem?_eq_some_iff.1 e3)
      have := (List.getElem_inj hn (h₀ := i1.1) (h₁ := i2.1)).1 (i1.2.trans i2.2.symm)
      exact hne (by rw [show b1 = b2 by omega])
    obtain ⟨x, g1, g2⟩ : ∃ x, ctH h' (.h c1) = some x ∧ wr x = true := by
     by_cases q1 : b1 < h.length
     ·rw [klt _ q1] at e1; cases e1
      exact ⟨b, by rw [hoc _ q1, ← hC _ q1]; exact hc, hw⟩
     ·rw [hC2 _ q1] at hc
      obtain ⟨c', x, f1, f2, f3⟩ := p2 _ _ hc
      rw [kge _ q1, f1] at e1; cases e1
      exact ⟨x, f2, by rw [← ren_wr f3]; exact hw⟩
    exact hV'.own (.h c1) (.h c2) l l' x (fun e => hcc (by cases e; rfl)) e2 e4 trivial g1 g2
 ·cases k with
  | l k => cases hk2
  | h b => obtain ⟨c, e1, e2⟩ := hM2 b l hk2; exact hV'.inb _ l e2
 ·cases k with
  | l k => rw [hl k] at e; cases e
  | h b => exact hle b l e
 ·cases k with
  | l k => simp [ctH, St.get] at hs
  | h b =>
   refine hC b ?_
   simp only [ctH, St.get] at hs
   rcases Nat.lt_or_ge b h.length with h1 | h1
   ·exact h1
   ·rw [List.getElem?_eq_none h1] at hs; simp at hs
 ·cases k with
  | l k => rw [hl k]
  | h b =>
   by_cases hb2 : b < h.length
   ·rw [hκ b b (klt b hb2), hold b hb2]
   ·have h1 : M (.h b) = none := by
     cases e : M (.h b) with
     | none => rfl
     | some l => exact absurd (hdom b l e) hb2
    rw [h1]
    refine hκn b ?_
    rw [kge b hb2]
    rcases hs with hs | hs
    ·simp only [ctH, St.get] at hs
     rw [List.getElem?_eq_none (by omega)] at hs
     simp at hs
    ·rw [hC2 b hb2] at hs
     rw [List.getElem?_eq_none_iff] at hs ⊢
     omega
 ·cases k with
  | l k => cases e
  | h b =>
   obtain ⟨c', e1, e2⟩ := hM2 b l e
   obtain ⟨l0, f1, f2⟩ := hX.fresh _ l e2 c hc hs
   have := hdom _ _ f1
   by_cases hb2 : b < h.length
   ·rw [klt b hb2] at e1; cases e1; exact ⟨l0, f1, f2⟩
   ·rw [kge b hb2] at e1
    have := hk _ (List.mem_of_getElem? e1)
    omega
 ·cases k with
  | l k => simp [ctH, St.get] at hs
  | h b =>
   simp only [ctH, St.get] at hs ⊢
   rcases Nat.lt_or_ge b h.length with h1 | h1
   ·simp [List.getElem?_append_left h1, h1]
   ·rw [List.getElem?_eq_none h1] at hs; simp at hs
def refT : TV → List Nat → List Nat
 | .ptr b _ _, l => b :: l
 | .slc b _ _ _ _ _, l => b :: l
 | .map b, l => b :: l
 | .fn _ a c, l => refTs a (refTs c l)
 | .agg cs, l => refTs cs l
 | .tup cs, l => refTs cs l
 | _, l => l
where
 refTs : List TV → List Nat → List Nat
 | [], l => l
 | c :: cs, l => refT c (refTs cs l)
def refH : Option HB → List Nat → List Nat
 | some (.cells _ cs), l => refT.refTs cs l
 | some (.map es), l => refEs es l
 | _, l => l
where
 refEs : List (TV × TV) → List Nat → List Nat
 | [], l => l
 | e :: es, l => refT e.1 (refT e.2 (refEs es l))
def memF (b : Nat) : List Nat → Bool
 | [] => false
 | a :: l => match Nat.beq a b with
  | true => true
  | false => memF b l
theorem memF_no : ∀ {l : List Nat} {b : Nat}, memF b l = false → b ∉ l
 | [], b, _ => by simp
 | a :: l, b, h => by
  simp only [memF] at h
  split at h
  ·cases h
  ·rename_i e
   rw [List.mem_cons]
   rintro (rfl | h2)
   ·rw [Nat.beq_refl] at e; cases e
   ·exact memF_no h h2
def reachF (h : List HB) (fl : Nat) : Nat → List Nat → List Nat → List Nat
 | 0, _, acc => acc
 | _ + 1, [], acc => acc
 | n + 1, b :: t, acc => match Nat.blt b fl || memF b acc with
  | true => reachF h fl n t acc
  | false => reachF h fl n (refH h[b]? t) (b :: acc)
theorem reachF_ok {h : List HB} {fl : Nat} : ∀ (n : Nat) (t acc : List Nat), acc.Nodup → (∀ b ∈ acc, fl ≤ b) → (reachF h fl n t acc).Nodup ∧ ∀ b ∈ reachF h fl n t acc, fl ≤ b
 | 0, _, _, h1, h2 => ⟨h1, h2⟩
 | _ + 1, [], _, h1, h2 => ⟨h1, h2⟩
 | n + 1, b :: t, acc, h1, h2 => by
  simp only [reachF]
  split
  ·exact reachF_ok n t acc h1 h2
  ·rename_i e
   simp only [Bool.or_eq_false_iff] at e
   have e1 : fl ≤ b := by
    rcases Nat.lt_or_ge b fl with h3 | h3
    ·rw [show Nat.blt b fl = true from Nat.ble_eq_true_of_le h3] at e; cases e.1
    ·exact h3
   exact reachF_ok n _ _ (List.nodup_cons.2 ⟨memF_no e.2, h1⟩) fun c hc => by
    rcases List.mem_cons.1 hc with rfl | hc
    ·exact e1
    ·exact h2 c hc
def gcR (h : List HB) : Option (TV × List HB × List Nat) → Option (TV × List HB × List Nat)
 | some (v, h', []) => match reachF h' h.length 5000 (refT v []) [] with
  | keep => match renT (renG h.length keep) v, pickG (renG h.length keep) h' keep with
   | some v', some [] => some (v', h, [])
   | some v', some bs => some (v', h ++ bs, [])
   | _, _ => some (v, h', [])
 | r => r
theorem gcR_ok {P : Program} {M : Mp} {h h2 : List HB} {w : World} {v2 : TV} {ws2 : List Nat} {r : Option (TV × List HB × List Nat)} (hV : Valid M allK (ctH h) w) (hl : ∀ k, M (.l k) = none) (hr : gcR h r = some (v2, h2, ws2)) : ∃ v h' ws, r = some (v, h', ws) ∧ ∀ y w', CallR M h w v h' ws y w' → CallR M h w v2 h2 ws2 y w' := by
 unfold gcR at hr
 split at hr
 ·rename_i v h'
  refine ⟨v, h', [], rfl, fun y w' hR => ?_⟩
  simp only at hr
  obtain ⟨k1, k2⟩ := reachF_ok (h := h') (fl := h.length) 5000 (refT v []) [] .nil (by simp)
  split at hr
  ·rename_i v' e1 e2
   cases hr
   have := hR.gc hV hl k1 k2 e1 e2
   rw [List.append_nil] at this
   exact this
  ·rename_i v' bs _ e1 e2
   cases hr
   exact hR.gc hV hl k1 k2 e1 e2
  ·cases hr; exact hR
 ·exact ⟨v2, h2, ws2, hr, fun _ _ h => h⟩
end Tw
namespace Tw
open Go
noncomputable section
def lookF (t : Nat) (env : List (Nat × EV)) : Option EV := List.rec (motive := fun _ => Option EV) none (fun p _ ih => Bool.rec (motive := fun _ => Option EV) ih (some p.2) (Nat.beq p.1 t)) env
theorem lookF_eq (t : Nat) : ∀ env, lookF t env = lookE t env
 | [] => rfl
 | (k, v) :: r => by
  show Bool.rec (motive := fun _ => Option EV) (lookF t r) (some v) (Nat.beq k t) = if k = t then some v else lookE t r
  rw [lookF_eq t r]
  by_cases h : k = t
  ·subst h; rw [if_pos rfl, show Nat.beq k k = true from Nat.beq_refl k]
  ·rw [if_neg h, show Nat.beq k t = false from by cases e : Nat.beq k t with | false => rfl | true => exact absurd (Nat.eq_of_beq_eq_true e) h]
def pickF (live : List Nat) (env : List (Nat × EV)) : List (Nat × EV) := List.rec (motive := fun _ => List (Nat × EV)) [] (fun t _ ih => Option.rec (motive := fun _ => List (Nat × EV)) ih (fun v => (t, v) :: ih) (lookF t env)) live
theorem pickF_eq (env : List (Nat × EV)) : ∀ live, pickF live env = pick live env
 | [] => rfl
 | t :: r => by
  show Option.rec (motive := fun _ => List (Nat × EV)) (pickF r env) (fun v => (t, v) :: pickF r env) (lookF t env) = _
  rw [lookF_eq, pickF_eq env r]
  rw [show pick (t :: r) env = match lookE t env with | some v => (t, v) :: pick r env | none => pick r env from rfl]
  cases lookE t env <;> rfl
def evF (env : List (Nat × EV)) (x : Operand) : Option EV := match x with
 | .tmp t => lookF t env
 | .const v => (TV.ofV v).map .val
 | .func f => some (.val (.fn f [] []))
 | .global _ => none
theorem evF_eq : evF = evO := by funext env x; cases x <;> first | exact lookF_eq _ _ | rfl
def tvF (env : List (Nat × EV)) (x : Operand) : Option TV :=
 match evF env x with
 | some (.val v) => some v
 | _ => none
theorem tvF_eq : tvF = tvO := by funext env x; unfold tvF tvO; rw [evF_eq]; rfl
def tvFs (env : List (Nat × EV)) : List Operand → Option (List TV)
 | [] => some []
 | x :: xs => match tvF env x, tvFs env xs with
  | some v, some vs => some (v :: vs)
  | _, _ => none
theorem tvFs_eq (env : List (Nat × EV)) : ∀ xs, tvFs env xs = tvOs env xs
 | [] => rfl
 | x :: xs => by unfold tvFs tvOs; rw [tvF_eq, tvFs_eq env xs]; rfl
def tvPF (env : List (Nat × EV)) : List (Nat × Operand) → Option (List (Nat × TV))
 | [] => some []
 | (i, x) :: xs => match tvF env x, tvPF env xs with
  | some v, some vs => some ((i, v) :: vs)
  | _, _ => none
theorem tvPF_eq (env : List (Nat × EV)) : ∀ xs, tvPF env xs = tvPs env xs
 | [] => rfl
 | (i, x) :: xs => by unfold tvPF tvPs; rw [tvF_eq, tvPF_eq env xs]; rfl
def wantF (ops : Array Oper) (env : List (Nat × EV)) (o : Oper) : Option Bool :=
 match o.guard with
 | none => some true
 | some (j, want) => match (ops[j]?).bind (·.dst) with
  | some d => match lookF d env with
   | some (.val (.bool b)) => some (b == want)
   | some .undef => some false
   | _ => none
  | none => none
theorem wantF_eq (ops : Array Oper) (env : List (Nat × EV)) (o : Oper) : wantF ops env o = wantT ops env o := by
 unfold wantF wantT
 simp only [lookF_eq]
 rfl
def atHeadF (live : List Nat) (s : St) : St :=
 let env := pickF live s.env
 { s with env := env, loc := s.loc.take (topL env) }
theorem atHeadF_eq : atHeadF = atHead := by
 funext live s
 simp only [atHeadF, atHead, pickF_eq]
def optF (env : List (Nat × EV)) : Option Operand → Option (Option TV)
 | none => some none
 | some x => match tvF env x with
  | some v => some (some v)
  | none => none
theorem optF_eq (env : List (Nat × EV)) (x : Option Operand) : optF env x = optT env x := by cases x <;> simp only [optF, optT, tvF_eq] <;> rfl
section
variable (P : Program) (call : CallT) (site : Nat → Bool) (s : St)
abbrev RO1 := Option (EV × St × Inf)
def fMove (x : Operand) : RO1 := (evF s.env x).map fun v => (v, s, noInf)
def fPick (c a b : Operand) : RO1 := match tvF s.env c with
  | some (.bool t) => (evF s.env (if t then a else b)).map fun v => (v, s, noInf)
  | _ => none
def fAlloc (d : Nat) (e : TypeId) : RO1 := (zeroT P e).map fun z => let (v, s) := newBox (site d) s z; (v, s, noInf)
def fBox (d : Nat) (x : Operand) : RO1 := match tvF s.env x with
  | some v => if v.cells.all oneT then let (v, s) := newBox (site d) s v.cells; some (v, s, noInf) else none
  | none => none
def fBuild (t : TypeId) (ps : Array (Nat × Operand)) : RO1 := match tvPF s.env ps.toList with
  | some ps => (buildT P t ps).map fun v => (.val v, s, noInf)
  | none => none
def fBuildSlice (t : TypeId) (len : Nat) (ps : Array (Nat × Operand)) : RO1 := match tvPF s.env ps.toList with
  | some ps => (buildSliceT P t len s ps).map fun (v, s) => (.val v, s, noInf)
  | none => none
def fLoad (t : TypeId) (a : Operand) : RO1 := match evF s.env a with
  | some a => (loadT P t s a).map fun (v, i) => (.val v, s, i)
  | none => none
def fStore (t : TypeId) (a x : Operand) : RO1 := match evF s.env a, tvF s.env x with
  | some a, some v => (storeT P t s a v).map fun (s, i) => (.undef, s, i)
  | _, _ => none
def fNil (x : Operand) : RO1 := match evF s.env x with
  | some (.loc k o) => some (.loc k o, s, noInf)
  | some (.val (.ptr b o lim)) => some (.val (.ptr b o lim), s, noInf)
  | some (.val (.fn f a b)) => some (.val (.fn f a b), s, noInf)
  | some (.val (.yld l)) => some (.val (.yld l), s, noInf)
  | _ => none
def fBin (op : BinOp) (t : TypeId) (x y : Operand) : RO1 := match tvF s.env x, tvF s.env y with
  | some a, some b => (binT P op t x y a b).map fun v => (.val v, s, noInf)
  | _, _ => none
def fUn (op : UnOp) (x : Operand) : RO1 := match tvF s.env x with
  | some a => (unT P op a).map fun v => (.val v, s, noInf)
  | none => none
def fConv (src dst : TypeId) (x : Operand) : RO1 := match tvF s.env x with
  | some a => (convT P src dst a).map fun v => (.val v, s, noInf)
  | none => none
def fMakeFunc (f : FuncId) (first cap : Array Operand) : RO1 := match tvFs s.env first.toList, tvFs s.env cap.toList with
  | some a, some b => some (.val (.fn f a b), s, noInf)
  | _, _ => none
def fMakeMap (t : TypeId) (r : Option Operand) : RO1 := match optF s.env r, P.underlying t with
  | some none, _ => some (.val (.map s.heap.length), { s with heap := s.heap ++ [.map []] }, noInf)
  | some (some (.int _ _)), some (.map _ _) => some (.val (.map s.heap.length), { s with heap := s.heap ++ [.map []] }, noInf)
  | _, _ => none
def fMakeSlice (t : TypeId) (l c : Operand) : RO1 := match tvF s.env l, tvF s.env c with
  | some l, some c => (makeSliceT P t s l c).map fun (v, s) => (.val v, s, noInf)
  | _, _ => none
def fSlice (t : TypeId) (x : Operand) (lo hi mx : Option Operand) : RO1 := match evF s.env x, optF s.env lo, optF s.env hi, optF s.env mx with
  | some x, some lo, some hi, some mx => match P.underlying t, x with
   | some (.array _ _), x => (sliceArrT P t x lo hi mx).map fun v => (.val v, s, noInf)
   | _, .val x => (sliceT P t x lo hi mx).map fun v => (.val v, s, noInf)
   | _, _ => none
  | _, _, _, _ => none
def fFieldAddr (t : TypeId) (x : Operand) (f : Nat) : RO1 := match evF s.env x, fieldOff P t f with
  | some a, some n => (offT n a).map fun v => (v, s, noInf)
  | _, _ => none
def fField (t : TypeId) (x : Operand) (f : Nat) : RO1 := match tvF s.env x with
  | some a => (fieldT P t a f).map fun v => (.val v, s, noInf)
  | none => none
def fIndexAddr (t : TypeId) (x i : Operand) : RO1 := match evF s.env x, tvF s.env i with
  | some a, some i => (indexAddrT P t a i).map fun v => (v, s, noInf)
  | _, _ => none
def fIndex (t : TypeId) (x i : Operand) : RO1 := match tvF s.env x, tvF s.env i with
  | some a, some i => (indexT P t a i).map fun v => (.val v, s, noInf)
  | _, _ => none
def fLookup (t : TypeId) (m k : Operand) (ok : Bool) : RO1 := match tvF s.env m, tvF s.env k with
  | some m, some k => (lookupT P t s.heap m k ok).map fun v => (.val v, s, rdKs (match m with | .map r => [.h r] | _ => []))
  | _, _ => none
def fUpd (t : TypeId) (m k x : Operand) : RO1 := match tvF s.env m, tvF s.env k, tvF s.env x with
  | some m, some k, some v => (updateT P t s m k v).map fun (s, i) => (.undef, s, i)
  | _, _, _ => none
def fExtract (t : Operand) (i : Nat) : RO1 := match tvF s.env t with
  | some (.tup vs) => (vs[i]?).map fun v => (.val v, s, noInf)
  | _ => none
def fCall (c : Call) (t : TypeId) : RO1 :=
 match c.callee, tvFs s.env c.args.toList with
 | .builtin b, some az => (builtinT P b c.argTypes t s az).map fun (v, s, i) => (.val v, s, i)
 | .value f, some az => match tvF s.env f with
  | some fv => match call fv az s.heap with
   | some (v, h, ws) => some (.val v, { s with heap := h }, ⟨true, [], ws.map .h⟩)
   | none => none
  | none => none
 | _, _ => none
def opF (o : Oper) : RO1 :=
 match o.op with
 | .move x | .assign x => fMove s x
 | .pick c a b => fPick s c a b
 | .alloc e => fAlloc P site s (o.dst.getD 0) e
 | .box _ x => fBox site s (o.dst.getD 0) x
 | .build t ps => fBuild P s t ps
 | .buildSlice t len ps => fBuildSlice P s t len ps
 | .load t a => fLoad P s t a
 | .store t a x => fStore P s t a x
 | .nilCheck x => fNil s x
 | .binOp op t x y _ => fBin P s op t x y
 | .unOp op _ x => fUn P s op x
 | .convert src dst x => fConv P s src dst x
 | .makeFunc (.func f) first cap => fMakeFunc s f first cap
 | .makeMap t r => fMakeMap P s t r
 | .makeSlice t l c => fMakeSlice P s t l c
 | .slice t x lo hi mx => fSlice P s t x lo hi mx
 | .fieldAddr t x f => fFieldAddr P s t x f
 | .field t x f => fField P s t x f
 | .indexAddr t x i => fIndexAddr P s t x i
 | .index t x i => fIndex P s t x i
 | .lookup t m k ok => fLookup P s t m k ok
 | .mapUpdate t m k x | .insert t m k x => fUpd P s t m k x
 | .extract t i => fExtract s t i
 | .call c => fCall P call s c o.type
 | _ => none
theorem opF_eq (o : Oper) : opF P call site s o = opT P call site s o := by
 unfold opF opT
 cases o.op <;> simp only [fMove, fPick, fAlloc, fBox, fBuild, fBuildSlice, fLoad, fStore, fNil, fBin, fUn, fConv, fMakeMap, fMakeSlice, fSlice, fFieldAddr, fField, fIndexAddr, fIndex, fLookup, fUpd, fExtract, fCall, callT, evF_eq, tvF_eq, tvFs_eq, tvPF_eq, optF_eq] <;> try rfl
 case makeFunc f first cap => cases f <;> simp only [fMakeFunc, tvFs_eq] <;> rfl
def tbF (A k : Nat) : Bool := Nat.beq (Nat.mod (Nat.shiftRight A k) 2) 1
theorem tbF_eq (A k : Nat) : tbF A k = A.testBit k := by
 unfold tbF
 rw [Nat.testBit_eq_decide_div_mod_eq, show Nat.mod (Nat.shiftRight A k) 2 = A / 2 ^ k % 2 from by show (A >>> k) % 2 = _; rw [Nat.shiftRight_eq_div_pow]]
 rw [Bool.eq_iff_iff]
 simp [Nat.beq_eq]
def mskE (W A on l : Nat) : Nat := Nat.lor l (Nat.lor (Nat.shiftLeft 1 on) (Nat.mod (Nat.shiftRight A (on * W)) (2 ^ W)))
def mskL (W A : Nat) : List Edge → Nat → Nat
 | [], l => l
 | e :: es, l => match Region.binds .any e with
  | true => mskL W A es (mskE W A e.on l)
  | false => mskL W A es l
def mskS (W : Nat) : List Oper → Nat → Nat → Nat
 | [], _, A => A
 | o :: os, j, A => mskS W os (j + 1) (Nat.lor A (Nat.shiftLeft (Nat.mod (mskL W A o.after.toList 0) (2 ^ W)) (j * W)))
theorem addNew_mem {x : Nat} : ∀ {xs l : List Nat}, (addNew xs l).contains x = (xs.contains x || l.contains x)
 | [], l => by simp [addNew]
 | y :: xs, l => by
  simp only [addNew]
  rw [addNew_mem]
  split
  ·rename_i h
   by_cases e : x = y
   ·subst e; rw [h]; simp
   ·simp [e]
  ·by_cases e : x = y
   ·subst e; simp
   ·simp [e]
def Acc (W A : Nat) (acc : List (List Nat)) : Prop := ∀ j i, i < W → A.testBit (j * W + i) = (acc.getD j []).contains i
theorem mskL_ok {W A : Nat} {acc : List (List Nat)} (h : Acc W A acc) : ∀ (es : List Edge) (l : Nat) (ps : List Nat), (∀ i, i < W → l.testBit i = ps.contains i) → ∀ i, i < W → (mskL W A es l).testBit i = (es.foldl (fun l e => if Region.binds .any e then addNew (e.on :: acc.getD e.on []) l else l) ps).contains i
 | [], l, ps, hl, i, hi => hl i hi
 | e :: es, l, ps, hl, i, hi => by
  simp only [mskL, List.foldl_cons]
  split
  ·rename_i hb
   rw [if_pos hb]
   refine mskL_ok h es _ _ (fun k hk => ?_) i hi
   rw [addNew_mem, ← hl k hk, List.contains_cons, ← h e.on k hk]
   show (l ||| (1 <<< e.on ||| (A >>> (e.on * W)) % 2 ^ W)).testBit k = _
   rw [Nat.testBit_or, Nat.testBit_or, Nat.testBit_shiftLeft, Nat.testBit_mod_two_pow, Nat.testBit_shiftRight, Bool.or_comm]
   simp only [hk, decide_true, Bool.true_and]
   congr 2
   by_cases e1 : k = e.on
   ·subst e1; simp
   ·rw [show (k == e.on) = false from by simpa using e1]
    by_cases h2 : k ≥ e.on
    ·obtain ⟨d, hd⟩ : ∃ d, k - e.on = d + 1 := ⟨k - e.on - 1, by omega⟩
     rw [hd, Nat.testBit_succ]
     simp
    ·simp [h2]
  ·rename_i hb
   rw [if_neg (by rw [hb]; simp)]
   exact mskL_ok h es _ _ hl i hi
theorem mskS_ok {W : Nat} : ∀ (os : List Oper) (j A : Nat) (acc : List (List Nat)), acc.length = j → Acc W A acc → Acc W (mskS W os j A) (preds os acc)
 | [], _, _, _, _, h => h
 | o :: os, j, A, acc, hj, h => by
  simp only [mskS, preds]
  refine mskS_ok os (j + 1) _ _ (by simp [hj]) fun j' i hi => ?_
  have hm := mskL_ok h o.after.toList 0 [] (fun i _ => by simp)
  show (A ||| ((mskL W A o.after.toList 0 % 2 ^ W) <<< (j * W))).testBit (j' * W + i) = _
  rw [Nat.testBit_or, h j' i hi, Nat.testBit_shiftLeft, Nat.testBit_mod_two_pow]
  rcases Nat.lt_trichotomy j' j with h1 | h1 | h1
  ·have : (j' + 1) * W ≤ j * W := Nat.mul_le_mul_right W h1
   rw [Nat.add_mul] at this
   rw [show decide (j' * W + i ≥ j * W) = false from by simp; omega]
   simp only [Bool.false_and, Bool.or_false]
   rw [List.getD, List.getD, List.getElem?_append_left (by omega)]
  ·subst h1
   rw [show j' * W + i - j' * W = i by omega, hm i hi]
   have e1 : acc.getD j' [] = [] := by rw [List.getD, List.getElem?_eq_none (by omega)]; rfl
   have e2 : (acc ++ [predOf acc o]).getD j' [] = predOf acc o := by rw [List.getD, ← hj, List.getElem?_concat_length]; rfl
   rw [e1, e2]
   simp [hi, predOf]
  ·have : (j + 1) * W ≤ j' * W := Nat.mul_le_mul_right W h1
   rw [Nat.add_mul] at this
   rw [show decide (j' * W + i - j * W < W) = false from by simp; omega]
   have e1 : acc.getD j' [] = [] := by rw [List.getD, List.getElem?_eq_none (by omega)]; rfl
   have e2 : (acc ++ [predOf acc o]).getD j' [] = [] := by rw [List.getD, List.getElem?_eq_none (by simp; omega)]; rfl
   rw [e1, e2]
   simp
def openF (ops : List Oper) : List (Nat × Nat) := match ops.length with
 | W => match mskS W ops 0 0 with
  | A => (List.range W).flatMap fun j => ((List.range j).filter fun i => !(tbF A (j * W + i))).map fun i => (i, j)
theorem openF_eq (ops : List Oper) : openF ops = openPairs ops := by
 have h := mskS_ok (W := ops.length) ops 0 0 [] rfl (fun j i _ => by simp)
 unfold openF openPairs
 simp only
 generalize mskS ops.length ops 0 0 = A at h
 have : ∀ j, j ∈ List.range ops.length → (((List.range j).filter fun i => !(tbF A (j * ops.length + i))).map fun i => (i, j)) = ((List.range j).filter fun i => !((preds ops []).getD j []).contains i).map fun i => (i, j) := fun j hj => by
  rw [List.mem_range] at hj
  congr 1
  refine List.filter_congr fun i hi => ?_
  rw [List.mem_range] at hi
  rw [tbF_eq, h j i (by omega)]
 rw [List.flatMap_def, List.flatMap_def, List.map_congr_left this]
def staticF (ops : List Oper) : Bool :=
 (ops.zipIdx.all fun (o, i) => o.after.all fun e => !Region.binds .any e || decide (e.on < i)) &&
 (openF ops).all fun (i, j) => match ops[i]?, ops[j]? with
  | some a, some b => a.apart ops.toArray b && b.apart ops.toArray a
  | _, _ => false
def hotF (ops : List Oper) : List (Nat × Nat) :=
 (openF ops).filter fun (i, j) => match ops[i]?, ops[j]? with
  | some a, some b => (mayW a.op && mayT b.op) || (mayT a.op && mayW b.op)
  | _, _ => false
theorem staticF_eq (ops : List Oper) : staticF ops = staticOk ops := by unfold staticF staticOk; rw [openF_eq]; rfl
theorem hotF_eq (ops : List Oper) : hotF ops = hotPairs ops := by unfold hotF hotPairs; rw [openF_eq]; rfl
abbrev Rx := Option (Ex × St)
def putF (dst : Option Nat) (v : EV) (env : List (Nat × EV)) (loc : List (List TV)) (heap : List HB) (ws : List Nat) : St := Option.rec (motive := fun _ => St) ⟨env, loc, heap, ws⟩ (fun d => ⟨(d, v) :: env, loc, heap, ws⟩) dst
abbrev KR := St → List Inf → Rx
abbrev IR := St → KR → Rx
def kCons (k : KR) (i : Inf) : KR := fun s is => k s (i :: is)
def rPut (fl : Nat) (ih : IR) (o : Oper) (s : St) (k : KR) (v : EV) (i : Inf) (s1 : St) : Rx := St.rec (motive := fun _ => Rx) (fun e l h _ => ih (putF o.dst v e l h (addKs fl i.ws s.ws)) (kCons k i)) s1
def rDo (P : Program) (call : CallT) (site : Nat → Bool) (fl : Nat) (ih : IR) (o : Oper) (s : St) (k : KR) : Rx := Option.rec (motive := fun _ => Rx) none (fun r => Prod.rec (motive := fun _ => Rx) (fun v p => Prod.rec (motive := fun _ => Rx) (fun s1 i => rPut fl ih o s k v i s1) p) r) (opF P call site s o)
def rNo (ih : IR) (o : Oper) (s : St) (k : KR) : Rx := ih (putF o.dst .undef s.env s.loc s.heap s.ws) (kCons k noInf)
def rGo (P : Program) (call : CallT) (site : Nat → Bool) (fl : Nat) (ops : Array Oper) (ih : IR) (o : Oper) (s : St) (k : KR) : Rx := Option.rec (motive := fun _ => Rx) none (fun b => Bool.rec (motive := fun _ => Rx) (rNo ih o s k) (rDo P call site fl ih o s k) b) (wantF ops s.env o)
def dstF (nt : Nat) (o : Oper) : Bool := Option.rec (motive := fun _ => Bool) true (fun d => Nat.ble (d + 1) nt) o.dst
theorem dstF_eq (nt : Nat) (o : Oper) : dstF nt o = dstOk nt o := by
 unfold dstF dstOk
 cases o.dst with
 | none => rfl
 | some d =>
  show Nat.ble (d + 1) nt = decide (d < nt)
  rw [Bool.eq_iff_iff]
  simp [Nat.lt_iff_add_one_le]
def rOne (P : Program) (call : CallT) (site : Nat → Bool) (fl nt : Nat) (ops : Array Oper) (o : Oper) (ih : IR) (s : St) (k : KR) : Rx := Bool.rec (motive := fun _ => Rx) none (rGo P call site fl ops ih o s k) (dstF nt o)
def rK (P : Program) (call : CallT) (site : Nat → Bool) (fl nt : Nat) (ops : Array Oper) (os : List Oper) : IR := List.rec (motive := fun _ => IR) (fun s k => k s []) (fun o _ ih => rOne P call site fl nt ops o ih) os
def andR (r : Option (St × List Inf)) (k : KR) : Rx := match r with
 | some (s, is) => k s is
 | none => none
theorem rK_eq (P : Program) (call : CallT) (site : Nat → Bool) (fl nt : Nat) (ops : Array Oper) : ∀ os s k, rK P call site fl nt ops os s k = andR (runOps P call site fl nt ops os s) k
 | [], _, _ => rfl
 | o :: os, s, k => by
  have ih := rK_eq P call site fl nt ops os
  show Bool.rec (motive := fun _ => Rx) none (Option.rec (motive := fun _ => Rx) none (fun b => Bool.rec (motive := fun _ => Rx) (rK P call site fl nt ops os (putF o.dst .undef s.env s.loc s.heap s.ws) (kCons k noInf)) (Option.rec (motive := fun _ => Rx) none (fun r => Prod.rec (motive := fun _ => Rx) (fun v p => Prod.rec (motive := fun _ => Rx) (fun s1 i => St.rec (motive := fun _ => Rx) (fun e l h _ => rK P call site fl nt ops os (putF o.dst v e l h (addKs fl i.ws s.ws)) (kCons k i)) s1) p) r) (opF P call site s o)) b) (wantF ops s.env o)) (dstF nt o) = _
  rw [dstF_eq, wantF_eq, opF_eq]
  unfold runOps
  cases dstOk nt o with
  | false => rfl
  | true =>
   cases wantT ops s.env o with
   | none => rfl
   | some b =>
    cases b with
    | false =>
     show rK _ _ _ _ _ _ _ _ _ = andR (match runOps P call site fl nt ops os (s.put o.dst .undef) with | some (s, is) => some (s, noInf :: is) | none => none) k
     rw [ih, show putF o.dst .undef s.env s.loc s.heap s.ws = s.put o.dst .undef by unfold putF St.put; cases o.dst <;> rfl]
     cases runOps P call site fl nt ops os (s.put o.dst .undef) <;> rfl
    | true =>
     cases opT P call site s o with
     | none => rfl
     | some r =>
      obtain ⟨v, s1, i⟩ := r
      show rK _ _ _ _ _ _ _ _ _ = andR (match runOps P call site fl nt ops os ({ s1 with ws := addKs fl i.ws s.ws }.put o.dst v) with | some (s, is) => some (s, i :: is) | none => none) k
      rw [ih, show putF o.dst v s1.env s1.loc s1.heap (addKs fl i.ws s.ws) = { s1 with ws := addKs fl i.ws s.ws }.put o.dst v by unfold putF St.put; cases o.dst <;> rfl]
      cases runOps P call site fl nt ops os ({ s1 with ws := addKs fl i.ws s.ws }.put o.dst v) <;> rfl
abbrev KX := Ex → St → Rx
abbrev IX := St → KX → Rx
def andX (r : Rx) (k : KX) : Rx := match r with
 | some (e, s) => k e s
 | none => none
def xSeq (ib : IX) (k : KX) : KX := fun e s => Ex.rec (motive := fun _ => Rx) (ib s k) (fun i => k (.exit i) s) (k .ret s) e
def xBlk (id : Nat) (k : KX) : KX := fun e s => Ex.rec (motive := fun _ => Rx) (k .norm s) (fun i => Bool.rec (motive := fun _ => Rx) (k (.exit i) s) (k .norm s) (Nat.beq i id)) (k .ret s) e
def xReg (T : Tab) (f id : Nat) (ops : Array Oper) (draw : Bool) (k : KX) : KR := fun s is => Bool.rec (motive := fun _ => Rx) none (k .norm ⟨pickF (T.liveAt f id) s.env, s.loc, s.heap, s.ws⟩) (!draw || (staticF ops.toList && dynOk is (hotF ops.toList)))
def xRegion (P : Program) (T : Tab) (call : CallT) (f : Nat) (rnd : Bool) (fl nt id : Nat) (ops : Array Oper) (draw : Bool) : IX := fun s k => rK P call (fun d => rnd || T.siteAt f d) fl nt ops ops.toList s (xReg T f id ops draw k)
def xCond (c : Operand) (ia ib : IX) : IX := fun s k => match tvF s.env c with
 | some (.bool b) => Bool.rec (motive := fun _ => Rx) (ib s k) (ia s k) b
 | _ => none
def xNext (ih : IX) (k : KX) : KX := fun e s => Ex.rec (motive := fun _ => Rx) (ih s k) (fun i => k (.exit i) s) (k .ret s) e
def xLoop (T : Tab) (L f : Nat) (b : Code) (ib : IX) : IX := Nat.rec (motive := fun _ => IX) (fun _ _ => none) (fun _ ih s k => ib (atHeadF (T.headAt f (headId b)) s) (xNext ih k)) L
def xRange (call : CallT) (f : Nat) (rnd : Bool) (fl nt : Nat) (g : Operand) (ps : Array Nat) (assign body : Code) : IX := fun s k => andX (match tvF s.env g with
  | some (.fn f1 a1 b1) =>
   if s.env.all isVal && !rnd then
    match call (.fn f1 a1 b1) [.yld (s.heap.length + 1)] (s.heap ++ [.mark, .loop true f nt s.env ps.toList assign body none]) with
    | some (_, h, ws) => match h[s.heap.length + 1]? with
     | some (.loop rd f2 nt2 e2 ps2 a2 b2 pend) => match jumpT rd pend with
      | some e => some (e, { s with heap := h.set (s.heap.length + 1) (.loop false f2 nt2 e2 ps2 a2 b2 (some .skip)), ws := addKs fl (ws.map .h) s.ws })
      | none => none
     | _ => none
    | none => none
   else none
  | _ => none) k
def xNone : IX := fun _ _ => none
def execK (P : Program) (T : Tab) (call : CallT) (L : Nat) (f : Nat) (rnd : Bool) (fl nt : Nat) : Code → IX
 | .skip => fun s k => k .norm s
 | .label _ => fun s k => k .norm s
 | .region id ops draw => xRegion P T call f rnd fl nt id ops draw
 | .seq a b => fun s k => execK P T call L f rnd fl nt a s (xSeq (execK P T call L f rnd fl nt b) k)
 | .cond c a b => xCond c (execK P T call L f rnd fl nt a) (execK P T call L f rnd fl nt b)
 | .block id b => fun s k => execK P T call L f rnd fl nt b s (xBlk id k)
 | .scope b => execK P T call L f rnd fl nt b
 | .loop b => xLoop T L f b (execK P T call L f rnd fl nt b)
 | .exit id => fun s k => k (.exit id) s
 | .ret => fun s k => k .ret s
 | .rangeFunc g ps assign body => xRange call f rnd fl nt g ps assign body
 | _ => xNone
theorem execK_eq (P : Program) (T : Tab) (call : CallT) (L : Nat) (f : Nat) (rnd : Bool) (fl nt : Nat) : ∀ c s k, execK P T call L f rnd fl nt c s k = andX (exec P T call L f rnd fl nt c s) k := by
 intro c
 induction c with
 | seq a b ia ib =>
  intro s k
  simp only [execK, exec, ia]
  cases exec P T call L f rnd fl nt a s with
  | none => rfl
  | some r =>
   obtain ⟨e, s1⟩ := r
   cases e with
   | norm => exact ib s1 k
   | exit i => rfl
   | ret => rfl
 | cond x a b ia ib =>
  intro s k
  simp only [execK, exec, xCond, tvF_eq]
  cases tvO s.env x with
  | none => rfl
  | some v =>
   cases v with
   | bool t =>
    cases t with
    | false => exact ib s k
    | true => exact ia s k
   | _ => rfl
 | block id b ib =>
  intro s k
  simp only [execK, exec, ib]
  cases exec P T call L f rnd fl nt b s with
  | none => rfl
  | some r =>
   obtain ⟨e, s1⟩ := r
   cases e with
   | norm => rfl
   | exit i =>
    show Bool.rec (motive := fun _ => Rx) (k (.exit i) s1) (k .norm s1) (Nat.beq i id) = k (if i = id then .norm else .exit i) s1
    by_cases h : i = id
    ·subst h; rw [if_pos rfl, show Nat.beq i i = true from Nat.beq_refl i]
    ·rw [if_neg h, show Nat.beq i id = false from by cases e : Nat.beq i id with | false => rfl | true => exact absurd (Nat.eq_of_beq_eq_true e) h]
   | ret => rfl
 | scope b ib => intro s k; simp only [execK, exec, ib]
 | loop b ib =>
  intro s k
  simp only [execK, exec]
  have key : ∀ n s, xLoop T n f b (execK P T call L f rnd fl nt b) s k = andX (iter (fun s => exec P T call L f rnd fl nt b (atHead (T.headAt f (headId b)) s)) n s) k := by
   intro n
   induction n with
   | zero => intro s; rfl
   | succ n ih =>
    intro s
    show execK P T call L f rnd fl nt b (atHeadF (T.headAt f (headId b)) s) (xNext (xLoop T n f b (execK P T call L f rnd fl nt b)) k) = _
    rw [ib, atHeadF_eq]
    simp only [iter]
    cases exec P T call L f rnd fl nt b (atHead (T.headAt f (headId b)) s) with
    | none => rfl
    | some r =>
     obtain ⟨e, s1⟩ := r
     cases e with
     | norm => exact ih s1
     | exit i => rfl
     | ret => rfl
  exact key L s
 | region id ops draw =>
  intro s k
  simp only [execK, exec, xRegion, rK_eq]
  cases runOps P call (fun d => rnd || T.siteAt f d) fl nt ops ops.toList s with
  | none => rfl
  | some r =>
   obtain ⟨s1, is⟩ := r
   show Bool.rec (motive := fun _ => Rx) none (k .norm ⟨pickF (T.liveAt f id) s1.env, s1.loc, s1.heap, s1.ws⟩) (!draw || (staticF ops.toList && dynOk is (hotF ops.toList))) = andX (if (!draw || (staticOk ops.toList && dynOk is (hotPairs ops.toList))) = true then some (.norm, { s1 with env := pick (T.liveAt f id) s1.env }) else none) k
   rw [pickF_eq, staticF_eq, hotF_eq]
   cases (!draw || (staticOk ops.toList && dynOk is (hotPairs ops.toList))) <;> rfl
 | rangeFunc g ps a b _ _ => intro s k; simp only [execK, exec, xRange, tvF_eq] <;> rfl
 | _ => intro s k; rfl
def execF (P : Program) (T : Tab) (call : CallT) (L : Nat) (f : Nat) (rnd : Bool) (fl nt : Nat) (c : Code) (s : St) : Rx := execK P T call L f rnd fl nt c s fun e s => some (e, s)
theorem execF_eq (P : Program) (T : Tab) (call : CallT) (L : Nat) (f : Nat) (rnd : Bool) (fl nt : Nat) (c : Code) (s : St) : execF P T call L f rnd fl nt c s = exec P T call L f rnd fl nt c s := by
 unfold execF
 rw [execK_eq]
 cases exec P T call L f rnd fl nt c s <;> rfl
def funF (P : Program) (T : Tab) (call : CallT) (L : Nat) (f : Nat) (args : List TV) (h : List HB) : Option (TV × List HB × List Nat) :=
 match fnT P f with
 | some t => match execF P T call L f false h.length t.nt t.body ⟨argEnv 0 args, [], h, []⟩ with
  | some (.norm, s) | some (.ret, s) => match resTs P s t.results with
   | some vs => if s.ws.isEmpty && (one vs).flat then some (one vs, h, []) else some (one vs, s.heap, s.ws)
   | none => none
  | _ => none
 | none => none
theorem funF_eq : funF = funT := by
 funext P T call L f args h
 simp only [funF, funT, execF_eq]
 rfl
def roundF (P : Program) (T : Tab) (call : CallT) (L : Nat) (l : Nat) (args : List TV) (h : List HB) : Option (TV × List HB × List Nat) :=
 match h[l]? with
 | some (.loop true f nt env ps assign body _) =>
  if args.length = ps.length ∧ ps.all (fun p => decide (p < nt)) then
   match execF P T call L f true h.length nt assign ⟨putAll env ps args, [], h, []⟩ with
   | some (.norm, s) => match s.heap[l]? with
    | some (.loop true f' nt' env' ps' a' b' _) =>
     match execF P T call L f true h.length nt body { s with heap := s.heap.set l (.loop false f' nt' env' ps' a' b' none), ws := addW h.length l s.ws } with
     | some (e, s) => match s.heap[l]? with
      | some (.loop false f' nt' env' ps' a' b' none) => some (.bool (isNorm e), s.heap.set l (.loop (isNorm e) f' nt' env' ps' a' b' (jumpOf e)), addW h.length l s.ws)
      | _ => none
     | none => none
    | _ => none
   | _ => none
  else none
 | _ => none
theorem roundF_eq : roundF = roundT := by
 funext P T call L l args h
 simp only [roundF, roundT, execF_eq]
 rfl
def apF (P : Program) (T : Tab) (L : Nat) : Nat → CallT
 | 0, _, _, _ => none
 | n + 1, .fn f first cap, args, h => if T.exts.contains f = true then T.ext (.fn f first cap) args h else gcR h (funF P T (apF P T L n) L f (first ++ args ++ cap) h)
 | n + 1, .yld l, args, h => roundF P T (apF P T L n) L l args h
 | _, _, _, _ => none
theorem ap_okF {P : Program} {T : Tab} {L : Nat} (hm : P.follows .mixedOrders = true) (hE : CallOk P T.ext) : ∀ n, CallOk P (apF P T L n)
 | 0 => by
  intro fv args h v h' ws hc
  simp [apF] at hc
 | n + 1 => by
  intro fv args h v h' ws hc M w x xs hV hl hx hxs
  have ih := ap_okF (L := L) hm hE n
  cases fv with
  | fn f first cap =>
   simp only [apF, funF_eq] at hc
   split at hc
   ·exact hE _ _ _ _ _ _ hc M w x xs hV hl hx hxs
   cases hx with
   | fn h1 h2 h3 h4 =>
    rename_i ys zs
    have hargs : VRs M.h (first ++ args ++ cap) (ys ++ xs ++ zs) := (VRs.append ⟨h1, h2⟩ hxs).append ⟨h3, h4⟩
    obtain ⟨v0, h0, ws0, hc, hgc⟩ := gcR_ok (P := P) hV hl hc
    obtain ⟨fn, c, e1, e2, e3, e4⟩ := fun_ok hm ih hc ⟨hV, hl⟩ hargs
    refine ⟨{ target := .fn (.func f) zs.toArray, args := ys.toArray ++ xs.toArray }, fun w => by simp [Deferred.ofValue], .inl ⟨⟨f, (ys ++ xs ++ zs).toArray, ?_, fun n => (e4 n).mono fun e w' hR => by cases e with | returned v => exact hgc _ _ hR | panicked c => exact hR.elim | outgrown => exact hR.elim⟩, f, first, cap, rfl⟩⟩
    have e2' : ¬ fn.name = "runtime.NumGoroutine" := by simpa using e2
    simp [invoke, callFunc, program, Sem.run, e1, e2', e3]
  | yld l =>
   simp only [apF, roundF_eq] at hc
   cases hx with
   | yld hm' =>
    rename_i l'
    refine ⟨{ target := .fn (.yield l') #[], args := xs.toArray }, fun w => by simp [Deferred.ofValue], .inr ⟨round_ok hm ih hc ⟨hV, hl⟩ hm' hxs, l, rfl⟩⟩
  | _ => simp [apF] at hc
def runH (P : Program) (T : Tab) (call : CallT) (L : Nat) (f nt : Nat) : Nat → Code → St → Option St
 | 0, _, s => some s
 | m + 1, .seq a b, s => match execF P T call L f false 0 nt a s with
  | some (.norm, s) => runH P T call L f nt m b s
  | _ => none
 | _, _, _ => none
def tlN : Nat → Code → Code
 | 0, c => c
 | m + 1, .seq _ b => tlN m b
 | _, c => c
theorem runH_ok {P : Program} {T : Tab} {call : CallT} {L f nt : Nat} {r : Option (Ex × St)} : ∀ {m : Nat} {c : Code} {s s1 : St}, runH P T call L f nt m c s = some s1 → execF P T call L f false 0 nt (tlN m c) s1 = r → execF P T call L f false 0 nt c s = r
 | 0, c, s, s1, h, h2 => by cases h; exact h2
 | m + 1, .seq a b, s, s1, h, h2 => by
  simp only [runH] at h
  split at h
  ·rename_i s2 e
   rw [execF_eq] at e h2 ⊢
   simp only [exec, e]
   rw [← execF_eq] at h2 ⊢
   exact runH_ok h h2
  ·cases h
 | _ + 1, .skip, _, _, h, _ | _ + 1, .region _ _ _, _, _, h, _ | _ + 1, .cond _ _ _, _, _, h, _ | _ + 1, .block _ _, _, _, h, _ | _ + 1, .loop _, _, _, h, _ | _ + 1, .exit _, _, _, h, _ | _ + 1, .ret, _, _, h, _ | _ + 1, .scope _, _, _, h, _ | _ + 1, .label _, _, _, h, _ | _ + 1, .rangeFunc _ _ _ _, _, _, h, _ => by simp [runH] at h
def bdF (P : Program) (f : Nat) : Code := match fnT P f with
 | some t => t.body
 | none => .skip
def ntF (P : Program) (f : Nat) : Nat := match fnT P f with
 | some t => t.nt
 | none => 0
def endT (P : Program) (f : Nat) : Option (Ex × St) → Bool
 | some (.ret, s) => match fnT P f with
  | some t => match resTs P s t.results, s.ws with
   | some [.bool true], [] => true
   | _, _ => false
  | none => false
 | _ => false
theorem endT_ok {P : Program} {T : Tab} {call : CallT} {L f : Nat} {r : Option (Ex × St)} (h : execF P T call L f false 0 (ntF P f) (bdF P f) ⟨[], [], [], []⟩ = r) (h2 : endT P f r = true) : isT (funF P T call L f [] []) = true := by
 unfold endT at h2
 split at h2
 ·rename_i s
  split at h2
  ·rename_i t ht
   split at h2
   ·rename_i hr hw
    unfold ntF bdF at h
    rw [ht] at h
    have h : execF P T call L f false ([] : List HB).length t.nt t.body ⟨argEnv 0 [], [], [], []⟩ = some (.ret, s) := h
    unfold funF
    simp only [ht, h, hr, hw]
    rfl
   ·cases h2
  ·cases h2
 ·cases h2
theorem closT_ok {P : Program} {T : Tab} {L n f : Nat} (hm : P.follows .mixedOrders = true) (hE : CallOk P T.ext) (hr : isT (funF P T (apF P T L n) L f [] []) = true) : CallOk P (closT f true) := by
 obtain ⟨h0, hr⟩ : ∃ h0, funF P T (apF P T L n) L f [] [] = some (.bool true, h0, []) := by
  unfold isT at hr
  split at hr
  ·exact ⟨_, ‹_›⟩
  ·cases hr
 intro fv args h v h' ws hc M w x xs hV hl hx hxs
 unfold closT at hc
 split at hc
 ·rename_i g
  split at hc
  ·rename_i hg
   subst hg
   cases hc
   cases hx with
   | fn h1 h2 h3 h4 =>
    rename_i ys zs
    have hy : ys = [] := List.eq_nil_of_length_eq_zero h1.symm
    have hz : zs = [] := List.eq_nil_of_length_eq_zero h3.symm
    have hxx : xs = [] := List.eq_nil_of_length_eq_zero hxs.len.symm
    subst hy hz hxx
    have h0 : Base (fun _ => none) [] w := ⟨⟨by simp, by simp, by simp⟩, by simp⟩
    obtain ⟨fn, c, e1, e2, e3, e4⟩ := fun_ok hm (ap_okF (L := L) hm hE n) (funF_eq ▸ hr) h0 (xs := []) .nil
    refine ⟨{ target := .fn (.func g) #[], args := #[] }, fun w => by simp [Deferred.ofValue], .inl ⟨⟨g, #[], ?_, fun n => ?_⟩, _, [], [], rfl⟩⟩
    ·have e2' : ¬ fn.name = "runtime.NumGoroutine" := by simpa using e2
     simp [invoke, callFunc, program, Sem.run, e1, e2', e3]
    ·refine (e4 n).mono fun e w' hR => ?_
     cases e with
     | panicked c => exact hR.elim
     | outgrown => exact hR.elim
     | returned v =>
      obtain ⟨M2, _, _, hX, hv'⟩ := hR
      cases hv'
      have hf : ∀ c, c < w.heap.size → w'.heap[c]? = w.heap[c]? := fun c hc => hX.frame c hc (by simp)
      refine ⟨M, ⟨fun k l hk hd => ?_, hV.own, fun k l hk c hc => Nat.lt_of_lt_of_le (hV.inb k l hk c hc) hX.size⟩, hl, ⟨.refl M, fun c hc _ => hf c hc, fun _ _ _ => rfl, fun _ _ _ => rfl, fun k l hk c hc _ => ⟨l, hk, hc⟩, hX.size, fun _ h => h, by simp, by simp, hX.os, hX.output, hX.tape⟩, .bool _⟩
      obtain ⟨b, g1, g2⟩ := hV.ok k l hk hd
      exact ⟨b, g1, g2.mono (.refl _) fun c hc => hf c (hV.inb k l hk c hc)⟩
  ·cases hc
 ·cases hc
open Go.ChangeShapes Go.WideShapes Go.RowKit
theorem law_callsF {H : Type} {enc : TypeId × Value → H} {P : Program} {W : World} {T : Tab} {L n fnum : Nat} {f : Func} {s : ChangeSpec} {args : Array Value} {ds : List (DataW H)} {before : List MemPlace} {tb : TypeId} (hm : P.follows .mixedOrders = true)
  (hl : laidOutB P = true) (hv : s.vars = []) (hs : s.fn H ds = { results := [.lit (.bool true)], args := ds })
  (hf : f.resultTypes = #[tb]) (htb : P.underlying tb = some .bool) (hp : (f.params.toList.all fun t => P.readableRec t && decide (t < P.types.size)) = true)
  (hW : DataW.Whole enc P f.params.toList s.vars false W args.toList ds [] before) (ha : args = #[]) (hE : CallOk P T.ext) (hr : isT (funF P T (apF P T L n) L fnum [] []) = true) :
  Calls P fnum args W fun e W' => ∃ v, e = .returned v ∧ s.post enc P f false true false false W args v W' := by
 subst ha
 obtain ⟨h0, hr⟩ : ∃ h0, funF P T (apF P T L n) L fnum [] [] = some (.bool true, h0, []) := by
  unfold isT at hr
  split at hr
  ·exact ⟨_, ‹_›⟩
  ·cases hr
 have hB : Base (fun _ => none) [] W := ⟨⟨by simp, by simp, by simp⟩, by simp⟩
 obtain ⟨fn, c, _, _, _, e4⟩ := fun_ok hm (ap_okF (L := L) hm hE n) (funF_eq ▸ hr) hB (xs := []) .nil
 refine (callsIn_wide.1 (e4 0)).mono fun e W' hR => ?_
 cases e with
 | panicked c => exact hR.elim
 | outgrown => exact hR.elim
 | returned v =>
  obtain ⟨M2, _, _, hX, hv'⟩ := hR
  cases hv'
  refine ⟨_, rfl, post_true hl hv hs hf htb hp hW ⟨hX.os, hX.tape, hX.output, hX.size, fun k hk => hX.frame k hk (by simp)⟩⟩
end
end
end Tw
namespace Tw
open Go Go.Proofs
theorem setCells_row (g : Nat) (t : TypeId) (fz : Nat × Nat) : ∀ (vs : List Value) (o : Nat) (cur : Array Value) (w : World), w.heap[g]? = some (.cells cur t fz) → o + vs.length ≤ cur.size →
  w.setCells g o vs = w.setRow g (cur.toList.take o ++ vs ++ cur.toList.drop (o + vs.length)).toArray
 | [], o, cur, w, hg, _ => by
  simp only [World.setCells, List.append_nil, List.length_nil, Nat.add_zero, List.take_append_drop, Array.toArray_toList]
  rw [setRow_self w g cur t fz hg]
 | v :: rest, o, cur, w, hg, hl => by
  simp only [List.length_cons] at hl
  rw [World.setCells, setCell_eq_setRow w g o cur t fz v hg,
   setCells_row g t fz rest (o + 1) (cur.setIfInBounds o v) (w.setRow g (cur.setIfInBounds o v)) (setRow_heap w g cur _ t _ hg) (by simp; omega), setRow_setRow]
  congr 2
  have e := list_seg_step cur.toList o v rest (by simp; omega)
  simpa [Array.toList_setIfInBounds, Nat.add_assoc] using e
section
variable {P : Program} {M : Mp} {D : Key → Prop} {w : World} {s : St}
theorem ins_ok (hV : Valid M D s.get w) {b : Nat} {k : BK} {cs new : List TV} {ls : List Pl} {p : Pl} (hm : M (.h b) = some (.cells ls)) (hd : D (.h b)) (hb : s.heap[b]? = some (.cells k cs))
  (hk : k ≠ .ro) (hp : p ∈ ls) (hext : p.ext = cs.length) (hn : ∀ c ∈ new, oneT c = true) (hlen : cs.length < new.length) {w' : World} (g : Nat) (arr : Array Value) (ty : TypeId)
  (hrow : w'.heap[g]? = some (.cells arr ty (0, 0))) (hfr : ∀ c, c < w.heap.size → c ≠ g → w'.heap[c]? = w.heap[c]?) (hg : (g = p.c ∧ arr.size = p.tot) ∨ g = w.heap.size)
  (hsz : w.heap.size ≤ w'.heap.size) (ho : w'.os = w.os) (hou : w'.output = w.output) (ht : w'.tape = w.tape) (hfit : new.length ≤ arr.size)
  (hrel : ∀ (i : Nat) (c : TV) (v : Value), new[i]? = some c → arr[i]? = some v → VR M.h c v) :
  ∃ M' q, Valid M' D (St.get { s with heap := s.heap.set b (.cells .last new) }) w' ∧ Ext M s.get w M' (St.get { s with heap := s.heap.set b (.cells .last new) }) w' [.h b] ∧
   (∃ ls', M' (.h b) = some (.cells ls') ∧ q ∈ ls') ∧ q.ext = new.length ∧ q.base = 0 ∧ q.c = g ∧ q.tot = arr.size := by
 have hgt : s.get (.h b) = some (.cells k cs) := by simp [St.get, hb]
 have hbl := (List.getElem?_eq_some_iff.1 hb).1
 obtain ⟨blk, h1, h2⟩ := hV.ok _ _ hm hd
 rw [hgt] at h1; cases h1
 obtain ⟨ho1, hpl, hmut, hgrow⟩ := h2
 have hwr : ∀ b0, s.get (.h b) = some b0 → wr b0 = true := fun b0 hb0 => by rw [hgt] at hb0; cases hb0; cases k <;> simp_all [wr]
 have hnd : (ls.map (·.c)).Nodup := by
  cases k with
  | ro => exact absurd rfl hk
  | own => obtain ⟨q, rfl, _⟩ := hmut rfl; simp
  | grow => exact (hgrow (.inl rfl)).1
  | last => exact (hgrow (.inr rfl)).1
 have hlt : ∀ q ∈ ls, q.c < w.heap.size := fun q hq => hV.inb _ _ hm q.c (List.mem_map.2 ⟨q, hq, rfl⟩)
 let p' : Pl := ⟨g, 0, new.length, arr.size⟩
 have hold : ∀ q ∈ ls, q.c ≠ g → PlOk (updM M (.h b) (.cells (p' :: ls.filter fun q => q.c ≠ g))).h w' .last new q := fun q hq hqg => by
  have hq1 := hpl q hq
  obtain ⟨arr', ty', fz', t1, t2, t3, t4⟩ := hq1.row
  have hx := hq1.ext
  exact ⟨⟨arr', ty', fz', (hfr q.c (hlt q hq) hqg).trans t1, t2, fun _ => t3 hk, fun hz => by have := hz rfl; omega⟩, hq1.fit, by omega, fun _ => hq1.base hk⟩
 let ls' : List Pl := p' :: ls.filter fun q => q.c ≠ g
 have hmem : ∀ q, q ∈ ls' ↔ q = p' ∨ (q ∈ ls ∧ q.c ≠ g) := fun q => by simp [ls']
 have hlc : LcLe (.cells ls) (.cells ls') := by
  intro q hq
  by_cases he : q.c = g
  ·rcases hg with ⟨e, e2⟩ | e
   ·have : q = p := nodup_pl hnd hp hq (by rw [he, e])
    subst this
    exact ⟨p', by simp [ls'], e, by simp [p', (hpl q hq).base hk], by simp [p']; omega, by simp [p', e2]⟩
   ·have := hlt q hq; omega
  ·exact ⟨q, (hmem q).2 (.inr ⟨hq, he⟩), rfl, rfl, Nat.le_refl _, rfl⟩
 have hcb : ∀ c ∈ cblocks (.cells ls'), c = g ∨ c ∈ cblocks (.cells ls) := by
  intro c hc
  simp only [cblocks, List.mem_map] at hc ⊢
  obtain ⟨q, hq, rfl⟩ := hc
  rcases (hmem q).1 hq with rfl | ⟨h1, _⟩
  ·exact .inl rfl
  ·exact .inr ⟨q, h1, rfl⟩
 have hframe : ∀ c, c < w.heap.size → c ∉ cblocks (.cells ls') → w'.heap[c]? = w.heap[c]? := fun c hc hnc => hfr c hc (fun e => hnc (by subst e; exact List.mem_map.2 ⟨p', by simp [ls'], rfl⟩))
 have hnew : ∀ c ∈ cblocks (.cells ls'), (∃ l0, M (.h b) = some l0 ∧ c ∈ cblocks l0) ∨ w.heap.size ≤ c := by
  intro c hc
  rcases hcb c hc with rfl | h
  ·rcases hg with ⟨e, _⟩ | e
   ·exact .inl ⟨_, hm, by rw [e]; exact List.mem_map.2 ⟨p, hp, rfl⟩⟩
   ·exact .inr (by omega)
  ·exact .inl ⟨_, hm, h⟩
 have hle' : Mle M (updM M (.h b) (.cells ls')) := updM_le fun l0 h0 => by rw [hm] at h0; cases h0; exact hlc
 have hone : ∀ q ∈ ls', q.ext = new.length → q = p' := by
  intro q hq e
  rcases (hmem q).1 hq with rfl | ⟨h1, _⟩
  ·rfl
  ·have := (hpl q h1).ext; omega
 have hok : okBlk (updM M (.h b) (.cells ls')).h w' (.cells .last new) (.cells ls') := by
  refine ⟨hn, fun q hq => ?_, by simp, fun _ => ⟨?_, fun q1 hq1 q2 hq2 e1 e2 => by rw [hone q1 hq1 e1, hone q2 hq2 e2]⟩⟩
  ·rcases (hmem q).1 hq with rfl | ⟨h1, h2⟩
   ·exact ⟨⟨arr, ty, (0, 0), hrow, rfl, fun _ => rfl, fun _ i c v _ a b => (hrel i c v a (by simpa [p'] using b)).mono hle'.h⟩, by simpa [p'] using hfit, Nat.le_refl _, fun _ => rfl⟩
   ·exact hold q h1 h2
  ·simp only [ls', List.map_cons, List.nodup_cons]
   refine ⟨fun hmem => ?_, hnd.sublist (List.Sublist.map _ List.filter_sublist)⟩
   obtain ⟨q, hq, he⟩ := List.mem_map.1 hmem
   have := (List.mem_filter.1 hq).2
   simp [p'] at he
   simp [he] at this
 refine ⟨updM M (.h b) (.cells ls'), p', ?_, ?_, ⟨ls', by simp [updM], by simp [ls']⟩, rfl, rfl, rfl, rfl⟩
 ·rw [get_set s b _ hbl]
  exact hV.upd (.h b) _ _ (fun j hj => .inl hj) (fun l0 h0 => by
   rw [hm] at h0; cases h0
   exact ⟨hd, hlc, hwr⟩) hframe hnew hsz hok
 ·rw [get_set s b _ hbl]
  exact Ext.upd (.h b) _ _ [.h b] (.inl ⟨by simp [hgt], rfl, by simp [hm], hwr⟩) hle' hframe hnew hsz ho hou ht
end
end Tw
namespace Tw
open Go Go.Proofs Go.Shelf
def insT (fI : Nat) : CallT
 | .fn f [] [], [d, .int .i64 0, .slc vb voff 1 vcap 1 vex], h =>
  if f = fI then
   match h[vb]? with
   | some (.cells kv vcs) => if kv = .ro ∨ (kv = .last ∧ voff + vcap ≠ vcs.length) then none else
    match sub vcs voff 1 with
    | some [v] => match d with
     | .nil .slc => some (.slc h.length 0 1 1 1 false, h ++ [.cells .own [v]], [])
     | .slc b 0 n n' 1 false => match h[b]? with
      | some (.cells k cs) => if k ≠ .ro ∧ n = n' ∧ cs.length = n ∧ 0 < n ∧ n ≤ 2 ^ 20 ∧ vb ≠ b then some (.slc b 0 (n + 1) (n + 1) 1 false, h.set b (.cells .last (v :: cs)), [b]) else none
      | _ => none
     | _ => none
    | _ => none
   | _ => none
  else none
 | _, _, _ => none
theorem grownCap_ge {w : World} {need old : Nat} {e : TypeId} : need ≤ grownCap w need old e := by simp [grownCap, Question.cut]
theorem grownCap_lt {w : World} {need old : Nat} {e : TypeId} (h : need < 2 ^ 63) : grownCap w need old e < 2 ^ 63 := by
 have := Nat.mod_lt (w.tape w.drawn (.appendCap need old e)) (show 0 < 2 ^ 63 - need by omega)
 simp only [grownCap, Question.cut]; omega
section
variable {P : Program} {ρ : Ren}
theorem slc_cells {M : Mp} {w : World} {h : List HB} (hV : Valid M allK (ctH h) w) {b off len cap : Nat} {ex : Bool} {y : Value} (hx : VR M.h (.slc b off len cap 1 ex) y) (h0 : 0 < len) {k : BK} {cs r : List TV} (hb : h[b]? = some (.cells k cs)) (hk : k ≠ .ro)
  (hl : k = .last → off + cap = cs.length) (hr : sub cs off len = some r) :
  ∃ ls p cap', M (.h b) = some (.cells ls) ∧ p ∈ ls ∧ y = .slice (some ⟨p.c, off, none⟩) len cap' ∧ len ≤ cap' ∧ cap ≤ cap' ∧ off + cap ≤ p.ext ∧ off + cap' ≤ p.tot ∧ cap' < 2 ^ 63 ∧ PlOk M.h w k cs p ∧ p.base = 0 ∧ (∀ c ∈ cs, oneT c = true) ∧
   ∃ xs : List Value, VRs M.h r xs ∧ ∀ (j : Nat) (v : Value), xs[j]? = some v → w.cell? ⟨p.c, off + j, none⟩ = some v := by
 cases hx with
 | slc hm hp hext hle hcap hex ha hk63 =>
  rename_i ls p a cap'
  obtain ⟨blk, h1, h2⟩ := hV.ok _ _ hm trivial
  have hg : ctH h (.h b) = some (.cells k cs) := by simp [St.get, hb]
  rw [hg] at h1; cases h1
  have hp := hp.resolve_left (by omega)
  have hpl := h2.2.1 p hp
  have hb0 := hpl.base hk
  rcases ha with ha | ⟨rfl, ha⟩
  ·omega
  obtain ⟨xs, g1, g2⟩ := hpl.slice hr (by omega) (fun e => by have := hl e; have := hpl.ext; omega)
  rw [hb0] at g2 ha ⊢
  simp only [Nat.zero_add, Nat.mul_one] at g2 ha hext ⊢
  exact ⟨ls, p, cap', hm, hp, rfl, by omega, hcap, hext, ha, hk63, hpl, hb0, h2.1, xs, g1, g2⟩
theorem one_VRs {N : Np} {us : List TV} {xs : List Value} (h : VRs N us xs) (ho : ∀ c ∈ us, oneT c = true) : ∀ v ∈ xs, v.oneCell' = true := by
 intro v hv
 obtain ⟨i, hi, rfl⟩ := List.mem_iff_getElem.1 hv
 have hi' : i < us.length := by rw [h.len]; exact hi
 exact one_of_VR (h.at_ i us[i] xs[i] (by simp [hi']) (by simp [hi])) (ho _ (List.getElem_mem hi'))
theorem insR {M : Mp} {w w' : World} {h : List HB} (hV : Valid M allK (ctH h) w) (hloc : ∀ k, M (.l k) = none) {b n : Nat} {k : BK} {cs : List TV} {v : TV} {ls : List Pl} {p : Pl} (hm : M (.h b) = some (.cells ls)) (hb : h[b]? = some (.cells k cs))
  (hk : k ≠ .ro) (hp : p ∈ ls) (hext : p.ext = cs.length) (hcl : cs.length = n) (hone : ∀ c ∈ v :: cs, oneT c = true) (g : Nat) (arr : Array Value) (ty : TypeId)
  (hrow : w'.heap[g]? = some (.cells arr ty (0, 0))) (hfr : ∀ c, c < w.heap.size → c ≠ g → w'.heap[c]? = w.heap[c]?) (hg : (g = p.c ∧ arr.size = p.tot) ∨ g = w.heap.size)
  (hsz : w.heap.size ≤ w'.heap.size) (ho : w'.os = w.os) (hou : w'.output = w.output) (ht : w'.tape = w.tape) {capF : Nat} (hcap : n + 1 ≤ capF) (hcap2 : capF ≤ arr.size) (hc63 : capF < 2 ^ 63)
  (hrel : ∀ (i : Nat) (c : TV) (x : Value), (v :: cs)[i]? = some c → arr[i]? = some x → VR M.h c x) :
  CallR M h w (.slc b 0 (n + 1) (n + 1) 1 false) (h.set b (.cells .last (v :: cs))) [b] (.slice (some ⟨g, 0, none⟩) (n + 1) capF) w' := by
 obtain ⟨M', q, h1, h2, ⟨ls', h3, h4⟩, h5, h6, h7, h8⟩ := ins_ok (s := ⟨[], [], h, []⟩) (D := allK) (new := v :: cs) hV hm trivial hb hk hp hext hone (by simp) g arr ty hrow hfr hg hsz ho hou ht (by simp; omega) hrel
 refine ⟨M', h1, fun k => ?_, h2, ?_⟩
 ·rw [h2.keepM (.l k) (.inr (by simp [St.get])) (by simp)]
  exact hloc k
 ·exact .slc (p := q) h3 (.inr h4) (by rw [h5]; simp; omega) (Nat.le_refl _) hcap (fun e => by cases e) (.inr ⟨by rw [h7, h6], by rw [h6, h8]; omega⟩) hc63
theorem insT_ok (L : Lays2.n21 P ρ) : CallOk P (insT (ρ.f 21)) := by
 intro fv args h v h' ws hc M w x xs hV hloc hx hxs
 unfold insT at hc
 split at hc
 case h_2 => cases hc
 rename_i f d vb voff vcap vex
 split at hc
 case isFalse => cases hc
 rename_i hf
 subst hf
 split at hc
 case h_2 => cases hc
 rename_i kv vcs hvb
 split at hc
 ·cases hc
 rename_i hkv
 simp only [not_or, not_and, Decidable.not_not] at hkv
 split at hc
 case h_2 => cases hc
 rename_i vx hsub
 cases hx with
 | @fn _ _ _ ys zs h1 h1a h3 h3a =>
 have : ys = [] := List.eq_nil_of_length_eq_zero h1.symm
 subst this
 have : zs = [] := List.eq_nil_of_length_eq_zero h3.symm
 subst this
 obtain ⟨dv, r1, rfl, hdv, hxs⟩ := hxs.inv_cons
 obtain ⟨iv, r2, rfl, hiv, hxs⟩ := hxs.inv_cons
 obtain ⟨sv, r3, rfl, hsv, hxs⟩ := hxs.inv_cons
 have := hxs.inv_nil
 subst this
 cases hiv
 obtain ⟨lsv, pv, vcap', m1, m2, rfl, m3, m4, m5, m6, m7, m8, m9, m10, vxs, m11, m12⟩ := slc_cells hV hsv (by omega) hvb hkv.1 hkv.2 hsub
 obtain ⟨xv, r4, rfl, hxv, e4⟩ := m11.inv_cons
 have := e4.inv_nil
 subst this
 have hsub1 := (sub_some hsub).2.1
 have hvone : oneT vx = true := m10 vx (List.mem_of_mem_drop (List.mem_of_mem_take (by rw [← hsub1]; exact List.mem_singleton.2 rfl)))
 have hv1 : ∀ u ∈ [xv], u.oneCell' = true := fun u hu => by
  simp at hu; subst hu
  exact one_of_VR hxv hvone
 obtain ⟨rowv, tyv, fzv, w1, w2, w3, _⟩ := m8.row
 have := w3 hkv.1
 subst this
 have enters : ∀ {R : Value → World → Prop}, Calls P (ρ.f 21) #[dv, .int .i64 0, .slice (some ⟨pv.c, voff, none⟩) 1 vcap'] w (RetR R) →
   ∃ d, (∀ w, (Deferred.ofValue (.func (.func (ρ.f 21)) [].toArray [].toArray) [dv, .int .i64 0, .slice (some ⟨pv.c, voff, none⟩) 1 vcap'].toArray).run P w = .ok d w) ∧ ((EntersR P d w R ∧ ∃ f a b, (TV.fn (ρ.f 21) [] []) = .fn f a b) ∨ (RoundsR P d w R ∧ ∃ l, (TV.fn (ρ.f 21) [] []) = .yld l)) := by
  intro R hcalls
  refine ⟨{ target := .fn (.func (ρ.f 21)) #[], args := #[dv, .int .i64 0, .slice (some ⟨pv.c, voff, none⟩) 1 vcap'] }, fun w => by simp [Deferred.ofValue], .inl ⟨⟨ρ.f 21, _, ?_, fun n => callsIn_wide.2 hcalls⟩, _, _, _, rfl⟩⟩
  have e1 := L.f21
  have e2 : ¬ (Body2.n21 ρ).name = "runtime.NumGoroutine" := by simp [Body2.n21]
  obtain ⟨c, e3⟩ : ∃ c, (Body2.n21 ρ).body = some c := ⟨_, rfl⟩
  simp [invoke, callFunc, program, Sem.run, e1, e2, e3]
 have hcells : ∀ (j : Nat) (u : Value), [xv][j]? = some u → w.cell? ⟨pv.c, voff + j, none⟩ = some u := m12
 split at hc
 ·-- nil
  simp only [Option.some.injEq, Prod.mk.injEq] at hc
  obtain ⟨rfl, rfl, rfl⟩ := hc
  cases hdv
  refine enters ?_
  refine (Any2.slices_Insert_int_end_grow L none 0 0 pv.c voff 1 vcap' [] [xv] w (by omega) (by omega) (by omega) (by omega) rfl rfl (fun _ => rfl) (fun a e => by cases e) hcells hv1).mono fun e w' ⟨he, hw⟩ => ?_
  subst he; subst hw
  have hgl := grownCap_lt (w := w) (need := 0 + 1) (old := 0) (e := ρ.t 3) (by omega)
  have hge := grownCap_ge (w := w) (need := 0 + 1) (old := 0) (e := ρ.t 3)
  obtain ⟨M', hp⟩ := fresh_ok (s := ⟨[], [], h, []⟩) (D := allK) (size := 1) (len := 1) (cs := [vx]) (pre := #[xv]) (rest := Builtin.zeroCells (Value.int .i64 0).cells (grownCap w (0 + 1) 0 (ρ.t 3) - (0 + 1))) (e := ρ.t 3) hV
   (by
    cases hq : M (.h h.length) with
    | none => rfl
    | some l => have := hV.has hq; simp [St.get] at this)
   (.cons hxv .nil) (fun c hc => by simp at hc; subst hc; exact hvone) (by simp) hge hgl (by simp [Builtin.zeroCells, Value.cells])
  refine ⟨M', ⟨fun k l hk _ => hp.val.ok k l hk (.inl trivial), fun k k' l l' b a1 a2 a3 _ => hp.val.own k k' l l' b a1 a2 a3 (.inl trivial), hp.val.inb⟩, fun k => ?_, hp.ext, ?_⟩
  ·rw [hp.ext.keepM (.l k) (.inr (by simp [St.get])) (by simp)]
   exact hloc k
  ·exact hp.er.inv_val
 ·-- a list that has grown
  rename_i b n n'
  split at hc
  case h_2 => cases hc
  rename_i k cs hb
  split at hc
  case isFalse => cases hc
  rename_i hcond
  obtain ⟨hk, rfl, hcl, hn0, hn20, hne⟩ := hcond
  simp only [Option.some.injEq, Prod.mk.injEq] at hc
  obtain ⟨rfl, rfl, rfl⟩ := hc
  have hsubn : sub cs 0 n = some cs := by
   unfold sub
   rw [if_pos (by omega)]
   simp [← hcl]
  obtain ⟨ls, p, cap', k1, k2, rfl, k3, k4, k5, k6, k7, k8, k9, k10, csv, k11, k12⟩ := slc_cells hV hdv hn0 hb hk (fun _ => by omega) hsubn
  have hpe : p.ext = cs.length := by have := k8.ext; omega
  obtain ⟨arr, ty, fz, z1, z2, z3, _⟩ := k8.row
  have := z3 hk
  subst this
  have hcsl : csv.length = n := by rw [← k11.len, hcl]
  have hcs1 : ∀ u ∈ csv, u.oneCell' = true := one_VRs k11 k10
  have hone : ∀ c ∈ vx :: cs, oneT c = true := fun c hc => by
   rcases List.mem_cons.1 hc with rfl | hc
   ·exact hvone
   ·exact k10 c hc
  have hgb : ctH h (.h b) = some (.cells k cs) := by simp [St.get, hb]
  have hapart : pv.c ≠ p.c := fun e => by
   have := hV.own (.h b) (.h vb) _ _ _ (by simp [Ne.symm hne]) k1 m1 trivial hgb (by cases k <;> simp_all [wr]) p.c (List.mem_map.2 ⟨p, k2, rfl⟩)
   exact this (List.mem_map.2 ⟨pv, m2, e⟩)
  have hrl : ∀ (i : Nat) (c : TV) (u : Value), (vx :: cs)[i]? = some c → (if i = 0 then some xv else csv[i - 1]?) = some u → VR M.h c u := fun i c u hc hu => by
   cases i with
   | zero => simp at hc hu; subst hc; subst hu; exact hxv
   | succ i => simp at hc hu; exact k11.at_ i c u hc hu
  refine enters ?_
  by_cases hroom : n + 1 ≤ cap'
  ·refine (Any2.slices_Insert_int_shift L p.c 0 n cap' 0 pv.c voff 1 vcap' csv [xv] w hn0 (by omega) hroom (by omega) hapart hcsl rfl (fun j u hj => k12 j u hj)
    (fun j hj => ?_) (fun j hj => ?_) hcells hcs1 hv1 tyv ty rowv.size arr.size (by simp [World.shape?, w1]) (by simp [World.shape?, z1]) (by omega) (by simp [World.frozen?, w1]) (by simp [World.frozen?, w1])).mono fun e w' ⟨he, hw⟩ => ?_
   ·simp only [World.cell?, z1]
    rw [if_neg (by simp), Array.getElem?_eq_getElem (by omega)]; rfl
   ·simp [World.frozen?, z1]
   ·subst he
    have s1 := setCells_row p.c ty (0, 0) (csv.drop 0) (0 + (0 + 1)) arr w.drew z1 (by simp; omega)
    rw [s1] at hw
    have z1' := setRow_get w.drew p.c ((arr.toList.take (0 + (0 + 1)) ++ csv.drop 0 ++ arr.toList.drop (0 + (0 + 1) + (csv.drop 0).length)).toArray) arr ty (0, 0) z1
    have hsz1 : ((arr.toList.take (0 + (0 + 1)) ++ csv.drop 0 ++ arr.toList.drop (0 + (0 + 1) + (csv.drop 0).length)).toArray).size = arr.size := by simp; omega
    rw [setCells_row p.c ty (0, 0) [xv] (0 + 0) _ _ z1' (by rw [hsz1]; simp; omega), setRow_setRow] at hw
    subst hw
    refine insR hV hloc k1 hb hk k2 hpe hcl hone p.c _ ty (setRow_get w.drew p.c _ arr ty (0, 0) z1) (fun c _ hcg => setRow_frame w.drew p.c _ c hcg) (.inl ⟨rfl, ?_⟩) (by simp [World.setRow]) rfl rfl rfl (capF := cap') hroom ?_ k7 fun i c u hc hu => hrl i c u hc ?_
    ·simp only [List.size_toArray, List.length_append, List.length_take, List.length_drop, Array.length_toList, hsz1]
     simp; omega
    ·simp only [List.size_toArray, List.length_append, List.length_take, List.length_drop, Array.length_toList, hsz1]
     simp; omega
    ·have hi : i < n + 1 := by have := (List.getElem?_eq_some_iff.1 hc).1; simpa [hcl] using this
     rw [arr_over i (by rw [hsz1]; simp; omega)] at hu
     rw [← hu]
     by_cases h0 : i = 0
     ·subst h0; simp
     ·rw [if_neg h0, if_neg (by omega), if_neg (by simp; omega), arr_over i (by simp; omega), if_neg (by omega), if_pos (by simp; omega)]
      simp
  ·have hgl := grownCap_lt (w := w) (need := n + 1) (old := cap') (e := ρ.t 3) (by omega)
   have hge := grownCap_ge (w := w) (need := n + 1) (old := cap') (e := ρ.t 3)
   refine (Any2.slices_Insert_int_grow L p.c 0 n cap' 0 pv.c voff 1 vcap' csv [xv] w hn0 (by omega) k3 (by omega) (by omega) hcsl rfl (fun j u hj => k12 j u hj) hcells hcs1 hv1).mono fun e w' ⟨he, hw⟩ => ?_
   subst he
   generalize hA : (Array.mk (List.take 0 csv) ++ Builtin.zeroCells (Value.int IntKind.i64 0).cells (n + 1 - 0) ++ Builtin.zeroCells (Value.int IntKind.i64 0).cells (grownCap w (n + 1) cap' (ρ.t 3) - (n + 1))) = A at hw
   have hAs : A.size = grownCap w (n + 1) cap' (ρ.t 3) := by rw [← hA]; simp [Builtin.zeroCells, Value.cells]; omega
   have y1 : ((w.alloc (.cells A (ρ.t 3))).drew).heap[w.heap.size]? = some (.cells A (ρ.t 3) (0, 0)) := heap_alloc_new w _
   rw [setCells_row w.heap.size (ρ.t 3) (0, 0) [xv] 0 A _ y1 (by simp; omega)] at hw
   have hsz1 : ((A.toList.take 0 ++ [xv] ++ A.toList.drop (0 + [xv].length)).toArray).size = A.size := by simp; omega
   have y2 := setRow_get (w.alloc (.cells A (ρ.t 3))).drew w.heap.size ((A.toList.take 0 ++ [xv] ++ A.toList.drop (0 + [xv].length)).toArray) A (ρ.t 3) (0, 0) y1
   have y3 : (((w.alloc (.cells A (ρ.t 3))).drew.setRow w.heap.size ((A.toList.take 0 ++ [xv] ++ A.toList.drop (0 + [xv].length)).toArray)).drew).heap[w.heap.size]? = some (.cells ((A.toList.take 0 ++ [xv] ++ A.toList.drop (0 + [xv].length)).toArray) (ρ.t 3) (0, 0)) := y2
   rw [setCells_row w.heap.size (ρ.t 3) (0, 0) (csv.drop 0) (0 + 1) _ _ y3 (by rw [hsz1]; simp; omega)] at hw
   subst hw
   refine insR hV hloc k1 hb hk k2 hpe hcl hone w.heap.size _ (ρ.t 3) (setRow_get _ w.heap.size _ _ (ρ.t 3) (0, 0) y3) (fun c hcs hcg => ?_) (.inr rfl) (by simp [World.setRow]) rfl rfl rfl (capF := grownCap w (n + 1) cap' (ρ.t 3)) hge ?_ hgl fun i c u hc hu => hrl i c u hc ?_
   ·rw [setRow_frame _ _ _ c hcg]
    show ((w.alloc (.cells A (ρ.t 3))).drew.setRow w.heap.size _).heap[c]? = _
    rw [setRow_frame _ _ _ c hcg]
    exact allocOld w _ c hcs
   ·simp only [List.size_toArray, List.length_append, List.length_take, List.length_drop, Array.length_toList, hsz1]
    simp; omega
   ·have hi : i < n + 1 := by have := (List.getElem?_eq_some_iff.1 hc).1; simpa [hcl] using this
    rw [arr_over i (by rw [hsz1]; simp; omega)] at hu
    rw [← hu]
    by_cases h0 : i = 0
    ·subst h0
     rw [if_pos rfl, if_pos (by omega), arr_over 0 (by simp; omega)]; simp
    ·rw [if_neg h0, if_neg (by omega), if_pos (by simp; omega)]; simp
 ·cases hc
end
end Tw
namespace Tw
open Go Go.Proofs Go.Shelf Go.Sort
theorem int_of {N : Np} {k : IntKind} {n : Int} {y : Value} (h : VR N (.int k n) y) : y = .int k n := by cases h; rfl
section
variable {P : Program} {M : Mp} {D : Key → Prop} {C : Ct} {w w' : World}
theorem put_ok (h : Valid M D C w) {k : Key} {ls : List Pl} {p : Pl} {cs cs' : List TV} {kk kk' : BK}
  (hk : M k = some (.cells ls)) (hd : D k) (hc : C k = some (.cells kk cs)) (hp : p ∈ ls) (hkk : (kk = .own ∧ kk' = .own) ∨ ((kk = .grow ∨ kk = .last) ∧ kk' = .last ∧ p.ext = cs.length))
  (hl : cs'.length = cs.length) (hn : ∀ c ∈ cs', oneT c = true) {arr' : Array Value} {ty' : TypeId} (hrow : w'.heap[p.c]? = some (.cells arr' ty' (0, 0))) (hs' : arr'.size = p.tot)
  (hfr : ∀ c, c < w.heap.size → c ≠ p.c → w'.heap[c]? = w.heap[c]?) (hsz : w.heap.size ≤ w'.heap.size) (ho : w'.os = w.os) (hou : w'.output = w.output) (ht : w'.tape = w.tape)
  (hrel : ∀ (i : Nat) (c : TV) (v : Value), cs'[i]? = some c → arr'[i]? = some v → VR M.h c v) :
  Valid M D (updC C k (.cells kk' cs')) w' ∧ Ext M C w M (updC C k (.cells kk' cs')) w' [k] := by
 obtain ⟨hb, he, h1, hpl, hnd, huq, arr, ty, hr, hs, hle, hv⟩ := h.wrB hk hd hc hp hkk
 have hne : kk ≠ .ro := by rcases hkk with ⟨e, _⟩ | ⟨e | e, _⟩ <;> rw [e] <;> simp
 have hwr : ∀ b0, C k = some b0 → wr b0 = true := fun b0 hb0 => by rw [hc] at hb0; cases hb0; cases kk <;> simp_all [wr]
 have hself : updM M k (.cells ls) = M := updM_self hk
 have hframe : ∀ c, c < w.heap.size → c ∉ cblocks (.cells ls) → w'.heap[c]? = w.heap[c]? := fun c hc0 hc => hfr c hc0 (fun e => hc (by rw [e]; exact List.mem_map.2 ⟨p, hp, rfl⟩))
 have hnew : ∀ c ∈ cblocks (.cells ls), (∃ l0, M k = some l0 ∧ c ∈ cblocks l0) ∨ w.heap.size ≤ c := fun c hc => .inl ⟨_, hk, hc⟩
 have hle' : Mle M (updM M k (.cells ls)) := by rw [hself]; exact .refl _
 have hlt : ∀ q ∈ ls, q.c < w.heap.size := fun q hq => h.inb _ _ hk q.c (List.mem_map.2 ⟨q, hq, rfl⟩)
 refine ⟨?_, ?_⟩
 ·have := h.upd (D' := D) (w' := w') k (.cells kk' cs') (.cells ls) (fun j hj => .inl hj) (fun l0 h0 => by
   rw [hk] at h0; cases h0
   exact ⟨hd, .refl _, hwr⟩) hframe hnew hsz (by
   rw [hself]
   refine ⟨hn, fun q hq => ?_, fun e => ?_, fun e => ⟨hnd, fun q1 hq1 q2 hq2 e1 e2 => by rw [huq q1 hq1 (by omega), huq q2 hq2 (by omega)]⟩⟩
   ·have hq0 := hpl q hq
    by_cases hqc : q.c = p.c
    ·have := nodup_pl hnd hp hq hqc
     subst this
     exact ⟨⟨arr', ty', (0, 0), hrow, hs', fun _ => rfl, fun _ i c v _ a b => hrel i c v a (by simpa [hb] using b)⟩, by omega, by omega, fun _ => hb⟩
    ·obtain ⟨arr2, ty2, fz2, t1, t2, t3, t4⟩ := hq0.row
     refine ⟨⟨arr2, ty2, fz2, (hfr q.c (hlt q hq) hqc).trans t1, t2, fun _ => t3 hne, fun hz i c v hi a b => ?_⟩, hq0.fit, by have := hq0.ext; omega, fun _ => hq0.base hne⟩
     exfalso
     apply hqc
     rcases hkk with ⟨e, _⟩ | ⟨_, e, _⟩
     ·obtain ⟨b', g1, g2⟩ := h.ok k _ hk hd
      rw [hc] at g1; cases g1
      obtain ⟨q', g3, _⟩ := g2.2.2.1 e
      rw [g3] at hq hp
      simp at hq hp
      rw [hq, hp]
     ·rw [huq q hq (by rw [hz e]; omega)]
   ·rcases hkk with ⟨e0, _⟩ | ⟨_, e1, _⟩
    ·obtain ⟨b', g1, g2⟩ := h.ok k _ hk hd
     rw [hc] at g1; cases g1
     obtain ⟨q', g3, g4⟩ := g2.2.2.1 e0
     exact ⟨q', g3, by omega⟩
    ·rw [e1] at e; cases e)
  rwa [hself] at this
 ·have := Ext.upd (M := M) (C := C) (w := w) (w' := w') k (.cells kk' cs') (.cells ls) [k] (.inl ⟨by simp [hc], rfl, by simp [hk], hwr⟩) hle' hframe hnew hsz ho hou ht
  rwa [hself] at this
end
def intsT : List TV → Option (List Int)
 | [] => some []
 | .int .i64 n :: r => (intsT r).map (n :: ·)
 | _ => none
theorem intsT_some : ∀ {cs : List TV} {zs : List Int}, intsT cs = some zs → cs = zs.map fun n => TV.int .i64 n
 | [], zs, h => by simp [intsT] at h; subst h; rfl
 | c :: r, zs, h => by
  unfold intsT at h
  split at h
  ·rename_i e; cases e
  ·rename_i n r' e
   cases e
   simp only [Option.map_eq_some_iff] at h
   obtain ⟨ys, h1, rfl⟩ := h
   rw [intsT_some h1]; rfl
  ·cases h
def sortI (l : List Int) : List Int := l.mergeSort fun x y => decide (x ≤ y)
def sortG (g : List Int → List Int) (fI : Nat) : CallT
 | .fn f [] [], [d], h =>
  if f = fI then
   match d with
   | .nil .slc => some (.tup [], h, [])
   | .slc _ _ 0 _ _ _ => some (.tup [], h, [])
   | .slc b 0 n n' 1 _ => match h[b]? with
    | some (.cells k cs) => match wrKind k true, intsT cs with
     | some k', some zs => if n = n' ∧ cs.length = n ∧ 0 < n ∧ n ≤ 2 ^ 20 then some (.tup [], h.set b (.cells k' ((g zs).map fun x => TV.int .i64 x)), [b]) else none
     | _, _ => none
    | _ => none
   | _ => none
  else none
 | _, _, _ => none
def sortT : Nat → CallT := sortG sortI
section
variable {P : Program} {ρ : Ren}
theorem sortT_ok (L : Lays.n189 P ρ) : CallOk P (sortT (ρ.f 189)) := by
 intro fv args h v h' ws hc M w x xs hV hloc hx hxs
 unfold sortT sortG at hc
 split at hc
 case h_2 => cases hc
 rename_i f d
 split at hc
 case isFalse => cases hc
 rename_i hf
 subst hf
 cases hx with
 | @fn _ _ _ ys zs h1 h1a h3 h3a =>
 have : ys = [] := List.eq_nil_of_length_eq_zero h1.symm
 subst this
 have : zs = [] := List.eq_nil_of_length_eq_zero h3.symm
 subst this
 obtain ⟨dv, r1, rfl, hdv, hxs⟩ := hxs.inv_cons
 have := hxs.inv_nil
 subst this
 have enters : ∀ {R : Value → World → Prop}, Calls P (ρ.f 189) #[dv] w (RetR R) →
   ∃ d, (∀ w, (Deferred.ofValue (.func (.func (ρ.f 189)) [].toArray [].toArray) [dv].toArray).run P w = .ok d w) ∧ ((EntersR P d w R ∧ ∃ f a b, (TV.fn (ρ.f 189) [] []) = .fn f a b) ∨ (RoundsR P d w R ∧ ∃ l, (TV.fn (ρ.f 189) [] []) = .yld l)) := by
  intro R hcalls
  refine ⟨{ target := .fn (.func (ρ.f 189)) #[], args := #[dv] }, fun w => by simp [Deferred.ofValue], .inl ⟨⟨ρ.f 189, _, ?_, fun n => callsIn_wide.2 hcalls⟩, _, _, _, rfl⟩⟩
  have e1 := L.f189
  have e2 : ¬ (Body.n189 ρ).name = "runtime.NumGoroutine" := by simp [Body.n189]
  obtain ⟨c, e3⟩ : ∃ c, (Body.n189 ρ).body = some c := ⟨_, rfl⟩
  simp [invoke, callFunc, program, Sem.run, e1, e2, e3]
 split at hc
 ·simp only [Option.some.injEq, Prod.mk.injEq] at hc
  obtain ⟨rfl, rfl, rfl⟩ := hc
  cases hdv
  refine enters ((Any.slices_Sort_int_none L none 0 w).mono fun e w' ⟨he, hw⟩ => ?_)
  subst he; subst hw
  exact ⟨M, hV, hloc, .refl _ _ _, .tup' .nil⟩
 ·simp only [Option.some.injEq, Prod.mk.injEq] at hc
  obtain ⟨rfl, rfl, rfl⟩ := hc
  cases hdv
  refine enters ((Any.slices_Sort_int_none L _ _ w).mono fun e w' ⟨he, hw⟩ => ?_)
  subst he; subst hw
  exact ⟨M, hV, hloc, .refl _ _ _, .tup' .nil⟩
 ·rename_i b n n' ex _
  split at hc
  case h_2 => cases hc
  rename_i k cs hb
  split at hc
  case h_2 => cases hc
  rename_i k' zs hk' hzs
  split at hc
  case isFalse => cases hc
  rename_i hcond
  obtain ⟨rfl, hcl, hn0, hn20⟩ := hcond
  simp only [Option.some.injEq, Prod.mk.injEq] at hc
  obtain ⟨rfl, rfl, rfl⟩ := hc
  have hcs := intsT_some hzs
  have hzl : zs.length = n := by rw [← hcl, hcs, List.length_map]
  have hk : k ≠ .ro := by rintro rfl; cases hk'
  have hsubn : sub cs 0 n = some cs := by
   unfold sub
   rw [if_pos (by omega)]
   simp [← hcl]
  obtain ⟨ls, p, cap', k1, k2, rfl, k3, k4, k5, k6, k7, k8, k9, k10, csv, k11, k12⟩ := slc_cells hV hdv hn0 hb hk (fun _ => by omega) hsubn
  have hpe : p.ext = cs.length := by have := k8.ext; omega
  obtain ⟨arr, ty, fz, z1, z2, z3, _⟩ := k8.row
  have := z3 hk
  subst this
  have hlt := (Array.getElem?_eq_some_iff.1 z1).1
  have hcv : csv = zs.map fun n => Value.int .i64 n := by
   apply List.ext_getElem?
   intro i
   by_cases hi : i < n
   ·have hi1 : i < cs.length := by omega
    have hi2 : i < csv.length := by rw [← k11.len]; exact hi1
    have := k11.at_ i cs[i] csv[i] (by simp [hi1]) (by simp [hi2])
    have hc1 : cs[i]? = (zs.map fun n => TV.int .i64 n)[i]? := by rw [← hcs]
    rw [List.getElem?_eq_getElem hi1, List.getElem?_map, List.getElem?_eq_getElem (by omega)] at hc1
    simp only [Option.map_some, Option.some.injEq] at hc1
    rw [hc1] at this
    rw [List.getElem?_eq_getElem hi2, List.getElem?_map, List.getElem?_eq_getElem (by omega)]
    rw [int_of this]; rfl
   ·rw [List.getElem?_eq_none (by rw [← k11.len]; omega), List.getElem?_eq_none (by rw [List.length_map]; omega)]
  have hH : Holds (Value.int .i64) w p.c 0 zs.toArray := fun j hj => by
   simp only [List.size_toArray] at hj
   refine ⟨?_, by simp [World.frozen?, z1]⟩
   refine k12 j _ ?_
   rw [hcv, List.getElem?_map, List.getElem?_eq_getElem hj]
   simp [hj]
  have hcalls := Any.slices_Sort_int L p.c 0 cap' zs w hH hlt (by omega)
  rw [hzl] at hcalls
  refine enters (hcalls.mono fun e w' ⟨he, N, os, hw⟩ => ?_)
  subst he
  have hsl : (sortI zs).length = n := by unfold sortI; rw [List.length_mergeSort, hzl]
  have hgb : ctH h (.h b) = some (.cells k cs) := by simp [St.get, hb]
  have hkk : (k = .own ∧ k' = .own) ∨ ((k = .grow ∨ k = .last) ∧ k' = .last ∧ p.ext = cs.length) := by
   rcases wrKind_some hk' with e | ⟨a, b, _⟩
   ·exact .inl e
   ·exact .inr ⟨a, b, hpe⟩
  have hrow : w'.heap[p.c]? = some (.cells (putCells (Value.int .i64) 0 (sortI zs).toArray arr) ty (0, 0)) := by
   rw [hw, heap_grow_old _ _ (by simp [putRow, mapBlock, Sort.ahead]; exact hlt)]
   simp only [putRow, mapBlock, Sort.ahead, Array.getElem?_modify, if_true, z1, Option.map_some, onCells]
   rfl
  have hfr : ∀ c, c < w.heap.size → c ≠ p.c → w'.heap[c]? = w.heap[c]? := fun c hc0 hne => by
   rw [hw, heap_grow_old _ _ (by simp [putRow, mapBlock, Sort.ahead]; exact hc0)]
   simp only [putRow, mapBlock, Sort.ahead, Array.getElem?_modify]
   rw [if_neg (fun e => hne e.symm)]
  obtain ⟨g1, g2⟩ := put_ok (w' := w') (cs' := (sortI zs).map fun x => TV.int .i64 x) hV k1 trivial hgb k2 hkk (by rw [List.length_map, hsl, hcl]) (fun c hc => by
   obtain ⟨y, _, rfl⟩ := List.mem_map.1 hc; rfl) hrow (by simp [putCells, z2]) hfr (by rw [hw]; simp [putRow, mapBlock, Sort.ahead]) (by rw [hw]; rfl) (by rw [hw]; rfl) (by rw [hw]; rfl) (fun i c u hc hu => by
   rw [List.getElem?_map] at hc
   simp only [Option.map_eq_some_iff] at hc
   obtain ⟨y, hy, rfl⟩ := hc
   have hi : i < (sortI zs).length := (List.getElem?_eq_some_iff.1 hy).1
   have hia : i < arr.size := by omega
   simp only [putCells, Array.getElem?_mapIdx, Array.getElem?_eq_getElem hia, Option.map_some, Option.some.injEq] at hu
   rw [if_pos ⟨Nat.zero_le _, by simp; omega⟩] at hu
   subst hu
   have : (sortI zs).toArray[i - 0]! = y := by
    have h9 := (List.getElem?_eq_some_iff.1 hy).2
    simp [hi, h9]
   rw [this]
   exact .int _ _)
  have hbl := (List.getElem?_eq_some_iff.1 hb).1
  have hset : ctH (h.set b (.cells k' ((sortI zs).map fun x => TV.int .i64 x))) = updC (ctH h) (.h b) (.cells k' ((sortI zs).map fun x => TV.int .i64 x)) := get_set ⟨[], [], h, []⟩ b _ hbl [] []
  exact ⟨M, by rw [hset]; exact g1, hloc, by rw [hset]; exact g2, .tup' .nil⟩
 ·cases hc
theorem CallOk.or {P : Program} {c1 c2 : CallT} (h1 : CallOk P c1) (h2 : CallOk P c2) : CallOk P (fun f xs h => (c1 f xs h).orElse fun _ => c2 f xs h) := by
 intro fv args h v h' ws hc
 cases he : c1 fv args h with
 | some r =>
  simp only [he, Option.orElse_some, Option.some.injEq] at hc
  subst hc
  exact h1 _ _ _ _ _ _ he
 | none =>
  simp only [he, Option.orElse_none] at hc
  exact h2 _ _ _ _ _ _ hc
end
end Tw
namespace Tw
open Go
def insI (x : Int) : List Int → List Int
 | [] => [x]
 | y :: l => match decide (x ≤ y) with
  | true => x :: y :: l
  | false => y :: insI x l
def insS : List Int → List Int
 | [] => []
 | x :: l => insI x (insS l)
theorem insI_perm (x : Int) : ∀ l, (insI x l).Perm (x :: l)
 | [] => .refl _
 | y :: l => by
  unfold insI
  split
  ·exact .refl _
  ·exact ((insI_perm x l).cons y).trans (.swap x y l)
theorem insS_perm : ∀ l, (insS l).Perm l
 | [] => .refl _
 | x :: l => (insI_perm x (insS l)).trans ((insS_perm l).cons x)
theorem insI_sorted (x : Int) : ∀ {l : List Int}, l.Pairwise (· ≤ ·) → (insI x l).Pairwise (· ≤ ·)
 | [], _ => by simp [insI]
 | y :: l, h => by
  unfold insI
  have h1 := List.pairwise_cons.1 h
  split
  ·rename_i e
   have e := of_decide_eq_true e
   exact List.pairwise_cons.2 ⟨fun a ha => by
    rcases List.mem_cons.1 ha with rfl | ha
    ·exact e
    ·exact Int.le_trans e (h1.1 a ha), h⟩
  ·rename_i e
   have e := of_decide_eq_false e
   exact List.pairwise_cons.2 ⟨fun a ha => by
    rcases List.mem_cons.1 ((insI_perm x l).mem_iff.1 ha) with rfl | ha
    ·omega
    ·exact h1.1 a ha, insI_sorted x h1.2⟩
theorem insS_sorted : ∀ l, (insS l).Pairwise (· ≤ ·)
 | [] => .nil
 | x :: l => insI_sorted x (insS_sorted l)
theorem insS_eq : insS = sortI := by
 funext l
 refine List.Perm.eq_of_pairwise (le := (· ≤ ·)) (fun a b _ _ h1 h2 => by omega) (insS_sorted l) ?_ ((insS_perm l).trans (List.mergeSort_perm l _).symm)
 have := List.pairwise_mergeSort (le := fun x y : Int => decide (x ≤ y)) (fun a b c h1 h2 => by simp at *; omega) (fun a b => by simp; omega) l
 exact this.imp fun h => by simpa using h
end Tw
namespace Go.Proofs.YtmefgijobonklaaGreat
open Go Tw Go.Shelf
def insRen : Ren := ⟨fun | 21 => 161 | 27 => 201 | 28 => 202 | 35 => 240 | 39 => 253 | n => n, fun n => n, fun n => n⟩
theorem insL : Lays2.n21 Tryz.prog insRen where
 mixed := by kernel_rfl
 f21 := by kernel_rfl
 f27 := by kernel_rfl
 f28 := by kernel_rfl
 f35 := by kernel_rfl
 f39 := by kernel_rfl
 t0 := Tryz.underlying0
 a0 := Tryz.isAgg0
 z0 := Tryz.sizeOf0
 v0 := Tryz.zeroValue0
 t3 := Tryz.underlying3
 a3 := Tryz.isAgg3
 z3 := Tryz.sizeOf3
 v3 := Tryz.zeroValue3
 t4 := Tryz.underlying4
 a4 := Tryz.isAgg4
 z4 := Tryz.sizeOf4
 v4 := Tryz.zeroValue4
 t22 := Tryz.underlying22
 a22 := Tryz.isAgg22
 z22 := Tryz.sizeOf22
 v22 := Tryz.zeroValue22
 i3 := by kernel_rfl
def sortRen : Ren := ⟨fun | 125 => 198 | 128 => 237 | 129 => 238 | 189 => 149 | 215 => 252 | 216 => 234 | 257 => 197 | 294 => 228 | 295 => 229 | 296 => 230 | 297 => 231 | 298 => 232 | 299 => 233 | 300 => 235 | 301 => 236 | 328 => 247 | 329 => 248 | 330 => 249 | 331 => 250 | 332 => 251 | 343 => 255 | n => n, fun | 0 => 0 | 3 => 3 | 4 => 4 | 5 => 5 | 9 => 9 | 28 => 22 | 46 => 238 | 51 => 258 | 53 => 260 | 131 => 200 | 182 => 251 | 183 => 252 | 218 => 262 | 222 => 266 | 228 => 268 | 229 => 130 | n => n, fun n => n⟩
theorem sortL : Lays.n189 Tryz.prog sortRen where
 mixed := by kernel_rfl
 f125 := by kernel_rfl
 f128 := by kernel_rfl
 f129 := by kernel_rfl
 f189 := by kernel_rfl
 f215 := by kernel_rfl
 f216 := by kernel_rfl
 f257 := by kernel_rfl
 f294 := by kernel_rfl
 f295 := by kernel_rfl
 f296 := by kernel_rfl
 f297 := by kernel_rfl
 f298 := by kernel_rfl
 f299 := by kernel_rfl
 f300 := by kernel_rfl
 f301 := by kernel_rfl
 f328 := by kernel_rfl
 f329 := by kernel_rfl
 f330 := by kernel_rfl
 f331 := by kernel_rfl
 f332 := by kernel_rfl
 f343 := by kernel_rfl
 t0 := Tryz.underlying0
 a0 := Tryz.isAgg0
 z0 := Tryz.sizeOf0
 v0 := Tryz.zeroValue0
 t3 := Tryz.underlying3
 a3 := Tryz.isAgg3
 z3 := Tryz.sizeOf3
 v3 := Tryz.zeroValue3
 t4 := Tryz.underlying4
 a4 := Tryz.isAgg4
 z4 := Tryz.sizeOf4
 v4 := Tryz.zeroValue4
 t5 := Tryz.underlying5
 a5 := Tryz.isAgg5
 z5 := Tryz.sizeOf5
 v5 := Tryz.zeroValue5
 t9 := Tryz.underlying9
 a9 := Tryz.isAgg9
 z9 := Tryz.sizeOf9
 v9 := Tryz.zeroValue9
 t28 := Tryz.underlying22
 a28 := Tryz.isAgg22
 z28 := Tryz.sizeOf22
 v28 := Tryz.zeroValue22
 t46 := Tryz.underlying238
 a46 := Tryz.isAgg238
 z46 := Tryz.sizeOf238
 v46 := Tryz.zeroValue238
 t51 := Tryz.underlying258
 a51 := Tryz.isAgg258
 z51 := Tryz.sizeOf258
 v51 := Tryz.zeroValue258
 t53 := Tryz.underlying260
 a53 := Tryz.isAgg260
 z53 := Tryz.sizeOf260
 v53 := Tryz.zeroValue260
 t131 := Tryz.underlying200
 a131 := Tryz.isAgg200
 z131 := Tryz.sizeOf200
 v131 := Tryz.zeroValue200
 t182 := Tryz.underlying251
 a182 := Tryz.isAgg251
 z182 := Tryz.sizeOf251
 v182 := Tryz.zeroValue251
 t183 := Tryz.underlying252
 a183 := Tryz.isAgg252
 z183 := Tryz.sizeOf252
 v183 := Tryz.zeroValue252
 t218 := Tryz.underlying262
 a218 := Tryz.isAgg262
 z218 := Tryz.sizeOf262
 v218 := Tryz.zeroValue262
 t222 := Tryz.underlying266
 a222 := Tryz.isAgg266
 z222 := Tryz.sizeOf266
 v222 := Tryz.zeroValue266
 t228 := Tryz.underlying268
 a228 := Tryz.isAgg268
 z228 := Tryz.sizeOf268
 v228 := Tryz.zeroValue268
 t229 := Tryz.underlying130
 a229 := Tryz.isAgg130
 z229 := Tryz.sizeOf130
 v229 := Tryz.zeroValue130
def ext0 : CallT := fun f xs h => (insT 161 f xs h).orElse fun _ => sortG insS 149 f xs h
theorem ext0_ok : CallOk Tryz.prog ext0 := by
 unfold ext0
 rw [insS_eq]
 exact CallOk.or (insT_ok insL) (sortT_ok sortL)
def extT : CallT := fun f xs h => (closT 16 true f xs h).orElse fun _ => (insT 161 f xs h).orElse fun _ => sortT 149 f xs h
def ext1 : CallT := fun f xs h => (closT 16 true f xs h).orElse fun _ => ext0 f xs h
theorem ext1_ok (h : CallOk Tryz.prog (closT 16 true)) : CallOk Tryz.prog ext1 := CallOk.or h ext0_ok
end Go.Proofs.YtmefgijobonklaaGreat
namespace Go.Proofs.YtmefgijobonklaaGreat
def T0 : Tw.Tab := {
 live := [(3, [(0, [0, 1]), (1, [0, 1, 15]), (2, [4]), (3, [0, 1, 5, 6]), (4, [0, 1, 5, 6, 7]), (5, [0, 1, 5, 6, 7, 40]), (6, [0, 1, 5, 6, 7]), (7, [0, 1, 5, 6, 7, 42]), (8, [4]), (9, [4])]),
  (4, [(0, [1]), (1, [1, 8]), (2, [2]), (3, [1, 3, 4]), (4, [1, 3, 4, 5]), (5, [1, 3, 4, 5, 26]), (6, [2]), (7, [2])]),
  (5, [(0, [0, 1, 2]), (1, [0, 1, 2, 19]), (2, [6]), (3, [0, 1, 2, 7]), (4, [0, 1, 2, 7, 24]), (5, [0, 1, 2, 7]), (6, [0, 1, 2, 7, 32]), (7, [6]), (8, [0, 1, 2, 8, 9]), (9, [0, 1, 2, 8, 9, 10]), (10, [0, 1, 2, 8, 9, 10, 58]), (11, [0, 1, 2, 8, 9, 10]), (12, [0, 1, 2, 8, 9, 10, 11]), (13, [0, 1, 2, 8, 9, 10, 11, 66]), (14, [0, 1, 2, 8, 9, 10, 11]), (15, [0, 1, 2, 8, 9, 10, 11]), (16, [0, 1, 2, 8, 9, 10, 76]), (17, [6]), (18, [6])]),
  (6, [(0, [1, 2, 3]), (1, [1, 2, 3, 12]), (2, [6]), (3, [1, 2, 3, 7, 8]), (4, [1, 2, 3, 7, 8, 9]), (5, [1, 2, 3, 7, 8, 9, 56]), (6, [1, 2, 3, 7, 8, 9]), (7, [1, 2, 3, 7, 8, 9, 58]), (8, [6]), (9, [6])]),
  (7, [(0, [2, 3]), (1, [2, 3, 13]), (2, [4]), (3, [2, 3, 5, 6]), (4, [2, 3, 5, 6, 7, 8]), (5, [2, 3, 5, 6, 7, 8, 9]), (6, [2, 3, 5, 6, 7, 8, 9, 42]), (7, [4]), (8, [3, 5, 6, 7, 8, 10]), (9, [3, 5, 6, 10, 75]), (10, [4]), (11, [3, 5, 6, 10, 78]), (12, [4]), (13, [4])]),
  (8, [(0, [2, 3]), (1, [2, 3, 37]), (2, [4]), (3, [2, 3, 5]), (4, [2, 3, 5, 43]), (5, [2, 3, 5]), (6, [2, 3, 5, 53]), (7, [4]), (8, [2, 3, 6, 7]), (9, [2, 3, 6, 7, 8]), (10, [2, 3, 6, 7, 8, 66]), (11, [2, 3, 6, 7, 8]), (12, [2, 3, 6, 7, 8, 72]), (13, [4]), (14, [6, 7, 9, 10]), (15, [6, 7, 9, 91]), (16, [4]), (17, [4])]),
  (9, [(0, [1]), (1, [1, 10]), (2, [2]), (3, [1, 3, 4]), (4, [1, 3, 4, 5]), (5, [1, 3, 4, 5, 21]), (6, [2]), (7, [1, 3, 4, 6]), (8, [1, 3, 6, 43]), (9, [2]), (10, [1, 3, 6, 7]), (11, [1, 3, 6, 7, 47]), (12, [1, 3, 6, 7]), (13, [1, 3, 6, 7, 62]), (14, [2]), (15, [2])]),
  (10, [(0, [1]), (1, [1, 21]), (2, [2]), (3, [1, 3, 4]), (4, [1, 3, 40]), (5, [2]), (6, [1, 3, 5, 6]), (7, [1, 3, 5, 6, 7]), (8, [1, 3, 5, 6, 7, 45]), (9, [1, 3, 5, 6, 7]), (10, [1, 3, 5, 6, 7, 8]), (11, [1, 3, 5, 6, 7, 8, 57]), (12, [2]), (13, [1, 3, 5, 6, 7, 8, 9]), (14, [1, 3, 5, 6, 7, 8, 9, 10]), (15, [1, 3, 5, 6, 7, 8, 9, 10, 62]), (16, [1, 3, 5, 6, 7, 8, 9, 10]), (17, [1, 3, 5, 6, 7, 8, 9, 10]), (18, [1, 3, 5, 6, 7, 8, 9]), (19, [1, 3, 5, 6, 7, 8, 9, 11]), (20, [1, 3, 5, 6, 7, 8, 9, 11, 12]), (21, [1, 3, 5, 6, 7, 8, 9, 11, 12, 84]), (22, [1, 3, 5, 6, 7, 8, 9, 11, 12]), (23, [1, 3, 5, 6, 7, 8, 9, 11, 12]), (24, [1, 3, 5, 6, 7, 8, 9, 11, 13, 14]), (25, [1, 3, 5, 6, 7, 8, 9, 11, 13, 14, 15, 16]), (26, [1, 3, 5, 6, 7, 8, 9, 11, 13, 14, 15, 16, 17, 18]), (27, [1, 3, 5, 6, 7, 11, 13, 163]), (28, [2]), (29, [1, 3, 5, 6, 7, 13, 165]), (30, [1, 3, 5, 6, 7]), (31, [2])]),
  (11, [(0, []), (1, [1, 2]), (2, [1, 2, 3, 4]), (3, [1, 2, 3, 4, 5, 6]), (4, [1, 2, 3, 4, 5, 6, 7, 8]), (5, [1, 2, 3, 4, 5, 6, 7, 8, 9, 10]), (6, [1, 2, 3, 4, 5, 6, 7, 8, 9, 10, 12]), (7, [7, 187]), (8, [0]), (9, [7, 13]), (10, [7, 13, 189]), (11, [7, 13]), (12, [7, 13, 14]), (13, [7, 13, 211]), (14, [0]), (15, [15]), (16, [15, 16]), (17, [15, 16, 17]), (18, [16, 17, 18]), (19, [2, 16, 17, 18]), (20, [2, 4, 16, 17, 18]), (21, [2, 4, 6, 16, 17, 18]), (22, [2, 4, 6, 8, 16, 17, 18]), (23, [2, 4, 6, 8, 10, 16, 17, 18]), (24, [2, 4, 6, 8, 10, 12, 16, 17, 18]), (25, [2, 4, 6, 8, 10, 12, 16, 17, 18, 20]), (26, [2, 4, 6, 8, 10, 12, 16, 17, 18, 20, 21]), (27, [2, 4, 6, 8, 10, 12, 16, 17, 18, 20, 21]), (28, [2, 4, 6, 8, 10, 12, 16, 17, 18, 20, 23]), (29, [0])]),
  (12, [(0, [1, 2]), (1, [1, 2, 17]), (2, [4]), (3, [1, 2, 5]), (4, [1, 2, 5, 6, 7]), (5, [1, 2, 5, 6, 7, 8, 9]), (6, [1, 2, 5, 6, 7, 8, 9, 54]), (7, [4]), (8, [1, 2, 5, 6, 7, 8, 9, 56]), (9, [4]), (10, [1, 2, 8, 9, 89]), (11, [4]), (12, [1, 2, 8, 9, 94]), (13, [4]), (14, [4])]),
  (13, [(0, [2, 3]), (1, [2, 3, 23]), (2, [4]), (3, [2, 3, 5, 6]), (4, [2, 3, 5, 6, 7, 8]), (5, [2, 3, 5, 7, 50]), (6, [4]), (7, [2, 3, 5, 7, 9, 10]), (8, [2, 3, 5, 7, 9, 10, 11, 12]), (9, [2, 3, 5, 7, 95]), (10, [4]), (11, [2, 3, 5, 7, 13]), (12, [2, 3, 5, 7, 13, 14]), (13, [2, 3, 5, 7, 13, 14, 108]), (14, [2, 3, 5, 7, 13, 14]), (15, [2, 3, 5, 7, 13, 14, 15, 16]), (16, [2, 3, 5, 7, 13, 14, 15, 16, 151]), (17, [4]), (18, [2, 3, 5, 7, 13, 14, 192]), (19, [4]), (20, [2, 3, 5, 7, 198]), (21, [4]), (22, [2, 3, 5, 7, 17, 18]), (23, [5, 7, 17, 18, 19, 20]), (24, [4])]),
  (14, [(0, [1, 2, 3]), (1, [1, 2, 3, 24]), (2, [6]), (3, [1, 2, 3, 7, 8]), (4, [1, 2, 3, 7, 8, 9, 10]), (5, [1, 2, 3, 7, 9, 59]), (6, [6]), (7, [2, 3, 7, 9, 11]), (8, [2, 3, 7, 9, 11, 12, 13]), (9, [2, 3, 7, 9, 11, 12, 13, 15]), (10, [2, 3, 7, 11, 12, 99]), (11, [6]), (12, [2, 3, 7, 11, 12, 16]), (13, [2, 3, 7, 11, 12, 16, 17]), (14, [2, 3, 7, 11, 12, 16, 17, 118]), (15, [2, 3, 7, 11, 12, 16, 17]), (16, [2, 3, 7, 11, 12, 16, 17]), (17, [3, 7, 12, 13]), (18, [3, 7, 13, 15, 18]), (19, [3, 7, 15, 18, 146]), (20, [6]), (21, [3, 7, 15, 18, 19]), (22, [3, 7, 15, 18, 19, 150]), (23, [3, 7, 15, 18, 19]), (24, [3, 7, 15, 18, 19, 20, 21]), (25, [3, 7, 15, 18, 19, 20, 168]), (26, [6]), (27, [3, 7, 15, 18, 19, 174]), (28, [6]), (29, [6])]),
  (15, [(0, [0]), (1, [2])]),
  (16, [(0, []), (1, [1, 2]), (2, [1, 2, 3, 4]), (3, [1, 2, 3, 4, 5, 6]), (4, [1, 2, 3, 4, 5, 6, 7, 8]), (5, [1, 2, 3, 4, 5, 6, 7, 8, 9, 10]), (6, [1, 2, 3, 4, 5, 6, 7, 8, 9, 10, 11, 12]), (7, [1, 2, 3, 4, 5, 6, 7, 8, 9, 10, 11, 12, 13, 14]), (8, [1, 2, 3, 4, 5, 6, 7, 8, 9, 10, 11, 12, 13, 14, 15, 16]), (9, [1, 2, 3, 4, 5, 6, 7, 8, 9, 10, 11, 12, 13, 14, 15, 16, 17, 18]), (10, [0])]),
  (17, [(0, [0, 1, 4]), (1, [1, 4, 6]), (2, [1, 4, 6, 7]), (3, [1, 4, 6, 7, 12]), (4, [4, 5]), (5, [1, 4, 6, 24]), (6, [4, 5]), (7, [4, 5])]),
  (18, [(0, [0]), (1, [2])]),
  (19, [(0, [0]), (1, [2])]),
  (20, [(0, [0]), (1, [2])]),
  (21, [(0, [0]), (1, [2])]),
  (22, [(0, [0]), (1, [0, 3]), (2, [0, 3, 7]), (3, [0, 3]), (4, [0, 3, 15]), (5, [2]), (6, [2])]),
  (23, [(0, [1]), (1, [2])]),
  (24, [(0, [2, 3]), (1, [2, 3, 14]), (2, [4]), (3, [2, 3, 5]), (4, [2, 3, 5, 19]), (5, [2, 3, 5]), (6, [2, 3, 5, 6, 7]), (7, [2, 3, 5, 52]), (8, [4]), (9, [4])]),
  (25, [(0, [0, 1, 4]), (1, [0, 1, 4, 5]), (2, [0, 1, 4, 5, 15]), (3, [4, 5]), (4, [4]), (5, [0, 1, 4, 5, 6]), (6, [0, 1, 4, 5, 6, 7]), (7, [0, 1, 4, 5, 6, 7, 33]), (8, [0, 1, 4, 5, 6, 7]), (9, [0, 1, 4, 5, 6, 7, 8]), (10, [0, 1, 4, 5, 6, 7, 8, 59]), (11, [0, 1, 4, 5, 6, 7, 8, 9]), (12, [0, 1, 4, 5, 6, 7, 8, 9, 80]), (13, [0, 1, 4, 5, 6, 7, 8, 9]), (14, [0, 1, 4, 5, 6, 7, 9, 10]), (15, [0, 1, 4, 5, 6, 7, 9, 10, 11]), (16, [0, 1, 4, 5, 6, 7, 9, 10, 11, 91]), (17, [0, 1, 4, 5, 6, 7, 9, 10, 11]), (18, [0, 1, 4, 5, 6, 7, 9, 10, 11, 12]), (19, [0, 1, 4, 5, 6, 7, 9, 10, 11]), (20, [4])]),
  (26, [(0, [1]), (1, [2])]),
  (27, [(0, [0, 3, 4]), (1, [4, 6, 7]), (2, [4, 6, 7, 16]), (3, [4, 5]), (4, [4, 5])]),
  (28, [(0, [1, 2]), (1, [1, 2, 3]), (2, [1, 2, 3, 4]), (3, [1, 2, 3, 4, 10]), (4, [1, 2, 3, 4]), (5, [1, 2, 3, 4, 5]), (6, [1, 2, 3, 4]), (7, [2])]),
  (29, [(0, [0, 3]), (1, [0, 3, 5]), (2, [0, 3, 5, 14]), (3, [4]), (4, [0, 3, 19]), (5, [4]), (6, [0, 3, 6]), (7, [0, 3, 6, 24]), (8, [0, 3, 6]), (9, [0, 3, 6, 34]), (10, [4]), (11, [0, 3, 7]), (12, [0, 3, 7, 8]), (13, [0, 3, 7, 8, 38]), (14, [0, 3, 7, 8]), (15, [0, 3, 7, 8, 9]), (16, [0, 3, 7, 8, 9, 50]), (17, [4]), (18, [0, 3, 7, 8]), (19, [56]), (20, [4]), (21, [4])]),
  (30, [(0, [0, 3]), (1, [0, 3, 5]), (2, [0, 3, 5, 6]), (3, [0, 3, 5, 6, 10]), (4, [0, 3, 5, 6]), (5, [0, 3, 5, 6]), (6, [4])]),
  (31, [(0, [1]), (1, [1, 7]), (2, [2]), (3, [1, 3]), (4, [1, 3, 12]), (5, [1, 3]), (6, [1, 3, 32]), (7, [2]), (8, [2])]),
  (32, [(0, [0, 1, 2, 6]), (1, [0, 1, 2, 6, 8]), (2, [0, 1, 2, 6, 8, 23]), (3, [6, 7]), (4, [0, 1, 2, 6, 9]), (5, [0, 1, 2, 6, 35]), (6, [6, 7]), (7, [0, 1, 6, 10, 11]), (8, [0, 1, 6, 10, 11, 44]), (9, [6, 7]), (10, [1, 6, 10, 12]), (11, [1, 6, 10, 12, 13]), (12, [1, 6, 10, 12, 13, 52, 53]), (13, [1, 6, 10, 12, 13, 52, 53, 54]), (14, [1, 6, 10, 12, 13, 14, 52, 53]), (15, [1, 6, 10, 12, 13, 14, 15, 52, 53]), (16, [1, 6, 10, 12, 13, 14, 15, 52, 53, 56, 57, 58]), (17, [1, 6, 10, 12, 13, 14, 15, 52, 53, 56, 57, 58, 59]), (18, [1, 6, 10, 12, 13, 14, 15, 16, 17, 52, 53, 56, 57, 58]), (19, [1, 6, 10, 12, 13, 14, 15, 52, 53, 56, 57, 58]), (20, [1, 6, 10, 12, 13, 14, 15, 52, 53, 56, 57, 58]), (21, [1, 6, 10, 12, 13, 15, 18, 19, 52, 53]), (22, [1, 6, 10, 12, 13, 15, 18, 52, 53, 78]), (23, [1, 6, 10, 12, 13, 15, 18, 52, 53]), (24, [1, 6, 10, 12, 13, 18, 52, 53]), (25, [1, 6, 10, 12, 13, 52, 53]), (26, [1, 6, 10, 12, 13, 52, 53]), (27, [6, 7])]),
  (33, [(0, [0]), (1, [0, 3]), (2, [0, 3, 4]), (3, [0, 3, 4, 8]), (4, [0, 3, 4]), (5, [0, 3, 4]), (6, [2])]),
  (34, [(0, [0]), (1, [0, 8]), (2, [2]), (3, [0, 14]), (4, [2]), (5, [16]), (6, [2]), (7, [2])]),
  (35, [(0, [0, 1, 2, 6]), (1, [0, 1, 2, 6, 7]), (2, [0, 1, 2, 6, 7, 8]), (3, [0, 1, 2, 6, 7, 8, 14]), (4, [0, 1, 2, 6, 7, 8]), (5, [0, 1, 2, 6, 7, 8, 9]), (6, [0, 1, 2, 6, 7, 8, 9, 10]), (7, [0, 1, 2, 6, 7, 8, 9, 10, 20]), (8, [0, 1, 2, 6, 7, 8, 9, 10]), (9, [0, 1, 2, 6, 7, 8, 9, 10]), (10, [0, 1, 2, 6, 7, 8]), (11, [6])]),
  (36, [(0, [0, 2, 3, 5, 8]), (1, [0, 2, 3, 8, 10, 11]), (2, [0, 2, 3, 8, 10, 11, 22]), (3, [8, 9]), (4, [0, 2, 3, 8, 10, 27]), (5, [8, 9]), (6, [2, 3, 8, 10, 12]), (7, [2, 3, 8, 10, 12, 53, 54]), (8, [2, 3, 8, 10, 12, 53, 54, 55]), (9, [2, 3, 8, 10, 12, 13, 53, 54]), (10, [2, 3, 8, 10, 12, 14, 53, 54]), (11, [2, 3, 8, 10, 12, 14, 53, 54]), (12, [2, 3, 8, 10, 12, 53, 54]), (13, [2, 3, 8, 10, 12, 53, 54]), (14, [8, 9])]),
  (37, [(0, [0, 2, 3, 5, 8]), (1, [0, 2, 3, 5, 8, 9]), (2, [0, 2, 3, 5, 8, 9, 10]), (3, [0, 2, 3, 5, 8, 9, 10, 15]), (4, [0, 2, 3, 5, 8, 9, 10]), (5, [0, 2, 3, 5, 8, 9, 10, 11]), (6, [0, 2, 3, 5, 8, 9, 10, 11]), (7, [0, 2, 3, 5, 8, 9, 10]), (8, [8])]),
  (38, [(0, [0, 4, 5]), (1, [5, 8, 9]), (2, [5, 8, 9, 17]), (3, [6, 7]), (4, [5, 8, 21]), (5, [6, 7]), (6, [6, 7])]),
  (39, [(0, [0, 3, 4]), (1, [4, 6, 7]), (2, [4, 6, 7, 19]), (3, [4, 5]), (4, [4, 6, 8]), (5, [4, 8, 26, 27, 28]), (6, [4, 8, 26, 27, 28, 29]), (7, [4, 8, 10, 26, 27, 28]), (8, [4, 8, 26, 27, 28]), (9, [4, 8, 10, 26, 27, 28, 44]), (10, [4, 8, 26, 27, 28]), (11, [4, 8, 10, 26, 27, 28, 56]), (12, [4, 8, 26, 27, 28]), (13, [4, 8, 26, 27, 28]), (14, [4, 5])]),
  (40, [(0, [0, 2]), (1, [0, 2, 3]), (2, [0, 2, 3, 4]), (3, [0, 2, 3, 4, 10]), (4, [0, 2, 3, 4]), (5, [0, 2, 3, 4, 5]), (6, [0, 2, 3, 4, 5, 19]), (7, [0, 2, 3, 4]), (8, [0, 2, 3, 4, 5, 32]), (9, [0, 2, 3, 4]), (10, [0, 2, 3, 4]), (11, [2])]),
  (41, [(0, [1]), (1, [1, 5]), (2, [2]), (3, [2])]),
  (42, [(0, [0, 3]), (1, [0, 3, 5]), (2, [0, 3, 5, 6]), (3, [0, 3, 5, 6, 10]), (4, [0, 3, 5, 6]), (5, [0, 3, 5, 6, 18]), (6, [0, 3, 5, 6]), (7, [4])]),
  (43, [(0, [2, 3]), (1, [2, 3, 6, 7]), (2, [2, 3, 6, 7, 17]), (3, [4, 5]), (4, [6, 7, 8]), (5, [6, 7, 8, 28]), (6, [4, 5]), (7, [6, 8, 33, 34, 35]), (8, [6, 8, 33, 34, 35, 36]), (9, [6, 8, 9, 10, 33, 34, 35]), (10, [6, 8, 9, 33, 34, 35, 45]), (11, [4, 5]), (12, [6, 8, 33, 34, 35]), (13, [4, 5])]),
  (44, [(0, [1, 2]), (1, [1, 2, 3]), (2, [1, 2, 3, 4]), (3, [1, 2, 3, 4, 21]), (4, [1, 2, 3, 4]), (5, [1, 2, 3, 4]), (6, [2])]),
  (45, [(0, [1]), (1, [1, 3]), (2, [1, 3, 7]), (3, [2]), (4, [11]), (5, [2]), (6, [2])]),
  (46, [(0, [2, 3]), (1, [2, 3, 6]), (2, [2, 3, 6, 12]), (3, [2, 3, 6]), (4, [2, 3, 6, 7]), (5, [2, 3, 6, 7, 25]), (6, [4, 5]), (7, [4, 5])]),
  (47, [(0, [0, 1]), (1, [0, 1, 10]), (2, [4]), (3, [0, 1, 5]), (4, [0, 1, 5, 14]), (5, [0, 1, 5]), (6, [0, 1, 5, 25]), (7, [4]), (8, [4])]),
  (48, [(0, [1]), (1, [1, 18]), (2, [2]), (3, [2])]),
  (49, [(0, [1]), (1, [1, 4]), (2, [1, 4, 24]), (3, [2, 3]), (4, [1, 28]), (5, [2, 3]), (6, [1, 5]), (7, [1, 5, 30, 31, 32]), (8, [1, 5, 30, 31, 32, 33]), (9, [1, 5, 7, 30, 31, 32]), (10, [1, 5, 30, 31, 32]), (11, [1, 5, 30, 31, 32]), (12, [1, 5, 8]), (13, [1, 5, 8, 49]), (14, [2, 3]), (15, [1, 5, 9]), (16, [1, 5, 9, 56, 57]), (17, [1, 5, 9, 56, 57, 58]), (18, [1, 5, 9, 10, 56, 57]), (19, [1, 5, 9, 11, 56, 57]), (20, [1, 5, 9, 11, 56, 57, 64, 65, 66]), (21, [1, 5, 9, 11, 56, 57, 64, 65, 66, 67]), (22, [1, 5, 9, 11, 12, 13, 56, 57, 64, 65, 66]), (23, [1, 5, 9, 11, 56, 57, 64, 65, 66]), (24, [1, 5, 9, 11, 56, 57, 64, 65, 66]), (25, [1, 5, 9, 14, 15, 56, 57]), (26, [1, 5, 9, 14, 15, 56, 57, 87]), (27, [2, 3]), (28, [1, 5, 9, 56, 57, 89, 90, 91]), (29, [1, 5, 9, 56, 57, 89, 90, 91, 92]), (30, [1, 5, 9, 16, 17, 56, 57, 89, 90, 91]), (31, [1, 5, 9, 56, 57, 89, 90, 91]), (32, [1, 5, 9, 56, 57, 89, 90, 91]), (33, [1, 5, 9, 56, 57]), (34, [5, 9, 18]), (35, [5, 18, 108, 109, 110]), (36, [5, 18, 108, 109, 110, 111]), (37, [5, 18, 20, 108, 109, 110]), (38, [5, 18, 108, 109, 110]), (39, [5, 18, 108, 109, 110]), (40, [2, 3])]),
  (50, [(0, [1, 2]), (1, [1, 2]), (2, [2])]),
  (51, [(0, [1]), (1, [1, 3]), (2, [1, 3, 7]), (3, [2]), (4, [1, 10]), (5, [2]), (6, [2])]),
  (52, [(0, [1]), (1, [1, 3]), (2, [1, 3, 4]), (3, [1, 3, 4, 5]), (4, [1, 3, 4, 5, 17]), (5, [1, 3, 4, 5]), (6, [1, 3, 4, 5, 6]), (7, [1, 3, 4, 5, 6, 7]), (8, [1, 3, 4, 5, 6, 7, 30]), (9, [1, 3, 4, 5, 6, 7]), (10, [1, 3, 4, 5, 6, 7]), (11, [2])]),
  (53, [(0, [1]), (1, [1, 3]), (2, [1, 3, 4]), (3, [1, 3, 4, 9]), (4, [1, 3, 4]), (5, [1, 3, 4]), (6, [2])]),
  (54, [(0, [1]), (1, [2])]),
  (55, [(0, [0, 3]), (1, [0, 3, 25]), (2, [4]), (3, [0, 3, 5]), (4, [0, 3, 5, 29]), (5, [0, 3, 5]), (6, [0, 3, 5, 62]), (7, [4]), (8, [4])]),
  (56, [(0, [0, 2, 4, 6]), (1, [2, 6, 8, 9]), (2, [2, 6, 8, 9, 17]), (3, [6, 7]), (4, [2, 6, 8, 22]), (5, [6, 7]), (6, [6, 7])]),
  (57, [(0, []), (1, [0])]),
  (58, [(0, [0]), (1, [0])]),
  (59, [(0, [0]), (1, [0])]),
  (60, [(0, [0]), (1, [0])]),
  (61, [(0, [0, 1, 2, 6]), (1, [0, 2, 6, 7]), (2, [6, 7]), (3, [6])]),
  (62, [(0, []), (1, [0])]),
  (63, [(0, [0, 1, 2, 3, 9, 10]), (1, [10])]),
  (64, [(0, [0, 3]), (1, [6]), (2, [4])]),
  (65, [(0, [0, 3]), (1, [6, 7]), (2, [6, 7, 16]), (3, [4, 5]), (4, [4, 5])]),
  (66, [(0, [0, 1]), (1, [0, 1, 10]), (2, [4]), (3, [0, 1, 5]), (4, [0, 1, 5, 14]), (5, [0, 1, 5]), (6, [0, 1, 5, 25]), (7, [4]), (8, [4])]),
  (67, [(0, [0, 1]), (1, [0, 1, 10]), (2, [4]), (3, [0, 1, 5]), (4, [0, 1, 5, 14]), (5, [0, 1, 5]), (6, [0, 1, 5, 27]), (7, [4]), (8, [4])]),
  (68, [(0, [1, 2, 4]), (1, [2, 4, 6]), (2, [4])]),
  (69, [(0, [0, 1]), (1, [0, 1, 5]), (2, [0, 1, 5, 6]), (3, [0, 1, 5, 6, 10]), (4, [0, 1, 5, 6]), (5, [0, 1, 5, 6, 7]), (6, [0, 1, 5, 6]), (7, [4])]),
  (70, [(0, [3, 4, 5, 6, 7]), (1, [3, 4, 5, 6, 7, 8]), (2, [3, 4, 5, 6, 7, 8, 19]), (3, [6, 7]), (4, [3, 4, 5, 6, 7, 9]), (5, [3, 4, 5, 6, 7, 9, 10, 11]), (6, [3, 4, 5, 6, 7, 9, 10, 11, 30]), (7, [10, 11, 12, 32]), (8, [10, 11, 12, 13]), (9, [11, 13]), (10, []), (11, [3, 4, 5, 6, 9, 10, 48]), (12, [6, 7]), (13, [3, 4, 5, 6, 9, 10, 14]), (14, [6, 9, 14]), (15, [6, 9]), (16, [6, 7])]),
  (71, [(0, [0, 1]), (1, [0, 1, 5]), (2, [0, 1, 5, 6]), (3, [0, 1, 5, 6, 14]), (4, [0, 1, 5, 6]), (5, [0, 1, 5, 6]), (6, [0, 1, 5, 6]), (7, [4])]),
  (72, [(0, [0]), (1, [0, 3]), (2, [0, 3, 6, 7]), (3, [0, 3, 6, 7, 8]), (4, [0, 3, 4, 6, 7]), (5, [0, 3, 6, 7]), (6, [0, 3, 6, 7]), (7, [2])]),
  (73, [(0, [0]), (1, [0, 3]), (2, [3, 6, 7, 8]), (3, [3, 6, 7, 8, 9]), (4, [3, 5, 6, 7, 8]), (5, [3, 6, 7, 8]), (6, [3, 6, 7, 8]), (7, [2])]),
  (74, [(0, [0, 3]), (1, [4])]),
  (75, [(0, [1]), (1, [2])]),
  (76, [(0, [1, 2]), (1, [2])]),
  (77, [(0, [0, 1]), (1, [0, 1, 8]), (2, [4]), (3, [0, 1, 5]), (4, [0, 1, 5, 12]), (5, [0, 1, 5]), (6, [0, 1, 5, 20]), (7, [4]), (8, [0, 1, 23]), (9, [4]), (10, [27]), (11, [4]), (12, [4])]),
  (78, [(0, [0]), (1, [0, 3]), (2, [0, 3, 4]), (3, [0, 3, 4, 8]), (4, [0, 3, 4]), (5, [0, 3, 4]), (6, [2])]),
  (79, [(0, [0, 1]), (1, [0, 1, 5]), (2, [0, 5, 6]), (3, [0, 5, 6, 11]), (4, [0, 5, 6]), (5, [0, 5, 6]), (6, [4])]),
  (80, [(0, [0, 1, 4, 5]), (1, [1, 4, 5, 6, 7]), (2, [1, 4, 5, 6, 7, 8]), (3, [1, 4, 5, 6, 7, 8, 23]), (4, [4, 5]), (5, [1, 4, 5, 6, 7, 9]), (6, [4, 5, 6, 7, 9, 25, 26, 27]), (7, [4, 5, 6, 7, 9, 25, 26, 27, 28]), (8, [4, 5, 6, 7, 9, 11, 25, 26, 27]), (9, [4, 5, 6, 7, 9, 11, 25, 26, 27, 34]), (10, [4, 5]), (11, [4, 5, 6, 7, 9, 11, 25, 26, 27, 39]), (12, [4, 5]), (13, [4, 5, 6, 7, 9, 11, 12, 25, 26, 27]), (14, [4, 5, 6, 7, 9, 11, 12, 13, 25, 26, 27]), (15, [4, 5, 6, 7, 9, 12, 13, 25, 26, 27, 49, 50, 51]), (16, [4, 5, 6, 7, 9, 12, 13, 25, 26, 27, 49, 50, 51, 52]), (17, [4, 5, 6, 7, 9, 12, 13, 15, 25, 26, 27, 49, 50, 51]), (18, [4, 5, 6, 7, 9, 12, 13, 15, 25, 26, 27, 49, 50, 51, 57]), (19, [12, 13, 15, 16]), (20, [12, 15, 16]), (21, []), (22, [4, 5, 6, 7, 9, 12, 13, 25, 26, 27, 49, 50, 51]), (23, [4, 5, 6, 7, 9, 12, 13, 25, 26, 27, 72]), (24, [4, 5]), (25, [4, 5, 6, 7, 9, 12, 25, 26, 27, 76]), (26, [4, 5]), (27, [4, 5, 6, 7, 9, 25, 26, 27]), (28, [4, 5, 6, 7, 9, 25, 26, 27]), (29, [4, 5])]),
  (81, [(0, [1, 2]), (1, [1, 2, 6, 7]), (2, [1, 2, 6, 7, 8]), (3, [1, 2, 6, 7, 8, 13]), (4, [1, 2, 6, 7, 8]), (5, [1, 2, 6, 7, 8, 22]), (6, [1, 2, 6, 7, 8]), (7, [4, 5])]),
  (82, [(0, [0]), (1, [0, 3]), (2, [2]), (3, [0, 10]), (4, [2]), (5, [17]), (6, [2]), (7, [2])]),
  (83, [(0, [0, 3, 4]), (1, [0, 3, 4, 5]), (2, [0, 3, 4, 5, 7]), (3, [4, 5]), (4, [0, 3, 4, 5, 7, 18]), (5, [4, 5]), (6, [0, 3, 4, 5, 27]), (7, [4, 5]), (8, [4])]),
  (84, [(0, [0, 1, 4]), (1, [0, 1, 4, 7]), (2, [4]), (3, [0, 1, 4, 15]), (4, [4]), (5, [4])]),
  (85, [(0, [0, 3, 4]), (1, [0, 3, 4, 5]), (2, [3, 4, 5, 12]), (3, [3, 5, 6, 14]), (4, [3, 5, 6, 7]), (5, []), (6, [4])]),
  (86, [(0, [0, 1, 4]), (1, [1, 4, 7, 8, 9]), (2, [1, 4, 7, 8, 9, 10]), (3, [1, 4, 5, 6, 7, 8, 9]), (4, [1, 4, 7, 8, 9]), (5, [1, 4, 7, 8, 9]), (6, [4])]),
  (87, [(0, [2, 3, 4]), (1, [3, 4, 8, 9, 10]), (2, [3, 4, 8, 9, 10, 11]), (3, [3, 4, 6, 8, 9, 10]), (4, [3, 4, 8, 9, 10, 16]), (5, [3, 4, 8, 9, 10]), (6, [3, 4, 8, 9, 10]), (7, [4])]),
  (88, [(0, [0, 1, 2]), (1, [6])]),
  (89, [(0, [1]), (1, [4, 5]), (2, [4, 5, 12]), (3, [2, 3]), (4, [2, 3])]),
  (90, [(0, [1]), (1, [1, 3]), (2, [1, 3, 10]), (3, [2]), (4, [1, 15]), (5, [2]), (6, [18]), (7, [2]), (8, [2])]),
  (91, [(0, [1]), (1, [1, 3]), (2, [1, 3, 13]), (3, [1, 3]), (4, [1, 3, 4]), (5, [1, 3, 4, 18]), (6, [1, 3, 4]), (7, [1, 3, 4, 31]), (8, [2]), (9, [1, 5]), (10, [1, 5, 36]), (11, [1, 5]), (12, [1, 5, 44]), (13, [2]), (14, [1, 5, 6]), (15, [1, 5, 6, 47]), (16, [1, 5, 6]), (17, [1, 5, 6, 77]), (18, [2]), (19, [1, 7, 8]), (20, [2])]),
  (92, [(0, [1, 2, 4]), (1, [1, 2, 4, 14]), (2, [4]), (3, [4])]),
  (93, [(0, [1]), (1, [1, 4]), (2, [1, 4]), (3, [1, 4]), (4, [2]), (5, [1, 17]), (6, [2]), (7, [1, 21]), (8, [2]), (9, [1, 32, 33]), (10, [1, 32, 33, 34]), (11, [1, 3, 32, 33]), (12, [1, 32, 33, 39]), (13, [2]), (14, [1, 32, 33]), (15, [2])]),
  (94, [(0, [0, 1]), (1, [4])]),
  (95, [(0, [1]), (1, [2])]),
  (96, [(0, [1, 2, 4]), (1, [2, 4, 5, 6]), (2, [2, 4, 5, 6, 16]), (3, [4, 5]), (4, [4, 6, 19, 20, 21]), (5, [4, 6, 19, 20, 21, 22]), (6, [4, 6, 8, 19, 20, 21]), (7, [4, 6, 19, 20, 21]), (8, [4, 6, 19, 20, 21]), (9, [4, 5])]),
  (97, [(0, [1]), (1, [1, 22]), (2, [2]), (3, [1, 3]), (4, [1, 3, 27]), (5, [1, 3]), (6, [1, 3, 4]), (7, [1, 3, 53]), (8, [2]), (9, [1, 5]), (10, [1, 5, 58]), (11, [1, 5]), (12, [1, 5, 71]), (13, [2]), (14, [1, 6]), (15, [1, 6, 76]), (16, [1, 6]), (17, [1, 6, 89]), (18, [2]), (19, [2])]),
  (98, [(0, [1]), (1, [1, 3]), (2, [1, 3, 8]), (3, [1, 3]), (4, [1, 3, 17]), (5, [2]), (6, [2])]),
  (99, [(0, [1, 2]), (1, [2, 5, 6]), (2, [2, 5, 6, 7]), (3, [2, 5, 6, 7, 16]), (4, [2, 5, 6, 7]), (5, [2, 5, 6, 7]), (6, [4])]),
  (100, [(0, [1, 2]), (1, [1, 2, 5]), (2, [1, 2, 5, 6]), (3, [1, 2, 5, 6, 10]), (4, [1, 2, 5, 6]), (5, [1, 2, 5, 6]), (6, [4])]),
  (101, [(0, [1]), (1, [1, 5]), (2, [2]), (3, [2])]),
  (102, [(0, [0, 1]), (1, [0, 1, 11]), (2, [4]), (3, [0, 12, 13, 14]), (4, [0, 12, 13, 14, 15]), (5, [0, 5, 6, 12, 13, 14]), (6, [0, 12, 13, 14, 28]), (7, [4]), (8, [0, 12, 13, 14]), (9, [4])]),
  (103, [(0, [1, 2, 3, 4, 8]), (1, [1, 2, 3, 4, 8, 21]), (2, [4, 8, 10]), (3, [4, 8, 10, 11]), (4, [4, 8, 10, 11, 33]), (5, [4, 8, 10, 11]), (6, [4, 8, 10, 11, 42]), (7, [8, 9]), (8, [4, 8]), (9, [8, 9]), (10, [1, 2, 3, 4, 8, 12]), (11, [1, 2, 3, 4, 8, 12, 13]), (12, [1, 2, 3, 4, 8, 12, 13, 70]), (13, [1, 2, 3, 4, 8, 12, 13]), (14, [1, 2, 3, 4, 8, 12, 13, 14]), (15, [1, 2, 3, 4, 8, 12, 13, 14]), (16, [1, 2, 3, 4, 8, 12, 13, 14]), (17, [1, 2, 3, 4, 8, 12, 13, 15]), (18, [1, 2, 3, 4, 8, 12, 13]), (19, [4, 8, 12, 96]), (20, [8, 9]), (21, [4, 8, 12, 16]), (22, [4, 8, 12, 16, 106]), (23, [4, 8, 12, 16]), (24, [4, 8, 12, 16, 128]), (25, [8, 9]), (26, [4, 8]), (27, [8, 9])]),
  (104, [(0, [0, 1]), (1, [0, 1, 9]), (2, [4]), (3, [0, 1, 13]), (4, [4]), (5, [0, 1, 5]), (6, [0, 1, 5, 17, 18, 19]), (7, [0, 1, 5, 17, 18, 19, 20]), (8, [0, 1, 5, 7, 17, 18, 19]), (9, [0, 1, 5, 17, 18, 19]), (10, [0, 1, 5, 17, 18, 19]), (11, [0, 1, 28]), (12, [4]), (13, [0, 8]), (14, [0, 8]), (15, [38]), (16, [4]), (17, [4])]),
  (105, [(0, [1]), (1, [2])]),
  (106, [(0, [1]), (1, [2])]),
  (107, [(0, [0, 3]), (1, [4])]),
  (108, [(0, [1]), (1, [1, 5]), (2, [2]), (3, [2])]),
  (109, [(0, [0, 1, 2, 3, 4, 5, 6, 7]), (1, [0, 1, 2, 3, 4, 5, 6, 7, 17]), (2, [10]), (3, [0, 1, 3, 5, 6, 7, 11]), (4, [0, 1, 3, 6, 7, 11, 12]), (5, [0, 1, 3, 6, 7, 11, 12, 34, 35]), (6, [0, 1, 3, 6, 7, 11, 12, 34, 35, 36]), (7, [0, 1, 3, 6, 7, 11, 12, 13, 34, 35]), (8, [0, 1, 3, 6, 7, 11, 12, 34, 35]), (9, [0, 1, 3, 6, 7, 11, 12, 34, 35]), (10, [10])]),
  (110, [(0, [0, 3]), (1, [0, 3, 5, 6]), (2, [0, 3, 5, 17]), (3, [0, 3, 5]), (4, [0, 3, 5]), (5, [5]), (6, [4])]),
  (111, [(0, [0, 1, 5]), (1, [0, 1, 5, 12]), (2, [6]), (3, [0, 1, 5, 7]), (4, [0, 1, 5, 7]), (5, [0, 1, 5, 7, 8, 9]), (6, [0, 1, 5, 7, 8, 32]), (7, [0, 1, 5, 7, 8]), (8, [0, 1, 5, 8]), (9, [8]), (10, [6])]),
  (112, [(0, [0, 1]), (1, [4])]),
  (113, [(0, [1, 2]), (1, [3])]),
  (114, [(0, [1]), (1, [5]), (2, [2]), (3, [2])]),
  (115, [(0, [0, 3]), (1, [0, 3, 14]), (2, [4]), (3, [0, 3, 5]), (4, [0, 3, 5, 6]), (5, [0, 5, 7]), (6, [0, 5, 7, 8]), (7, [0, 5, 7, 8, 31]), (8, [0, 5, 7, 8]), (9, [0, 5, 7, 8, 9]), (10, [0, 5, 7, 8, 9, 50]), (11, [0, 5, 7, 8, 9]), (12, [0, 5, 7, 8, 9, 58, 59, 60]), (13, [0, 5, 7, 8, 9, 58, 59, 60, 61]), (14, [0, 5, 7, 8, 9, 11, 58, 59, 60]), (15, [0, 5, 7, 8, 9, 11, 58, 59, 60]), (16, [0, 5, 7, 8, 9, 58, 59, 60]), (17, [0, 5, 7, 8, 9, 58, 59, 60]), (18, [4])]),
  (116, [(0, [0, 1]), (1, [0, 1, 11]), (2, [4]), (3, [0, 1, 5]), (4, [0, 1, 5, 15]), (5, [0, 1, 5]), (6, [0, 1, 5, 26]), (7, [4]), (8, [0, 1, 5, 6]), (9, [0, 1, 5, 6, 29]), (10, [0, 1, 5, 6]), (11, [0, 1, 5, 6, 40]), (12, [4]), (13, [4])]),
  (117, [(0, [0, 3]), (1, [3, 24]), (2, [4]), (3, [3, 26, 27, 28]), (4, [3, 26, 27, 28, 29]), (5, [3, 5, 6, 26, 27, 28]), (6, [3, 26, 27, 28, 39]), (7, [4]), (8, [3, 26, 27, 28]), (9, [4])]),
  (118, [(0, [0, 3]), (1, [4])]),
  (119, [(0, [2, 3]), (1, [4])]),
  (120, [(0, [0]), (1, [0, 7]), (2, [0]), (3, [0, 3]), (4, [0, 3, 4]), (5, [0, 3, 4, 15]), (6, [0, 3, 4]), (7, [0, 3, 4]), (8, [2])]),
  (121, [(0, [0]), (1, [0, 7]), (2, [0]), (3, [0, 3]), (4, [0, 3, 4]), (5, [0, 3, 4, 15]), (6, [0, 3, 4]), (7, [0, 3, 4]), (8, [2])]),
  (122, [(0, [1, 2]), (1, [1, 2, 5]), (2, [1, 2, 5, 9]), (3, [1, 2, 5]), (4, [1, 2, 5, 33]), (5, [4]), (6, [4])]),
  (123, [(0, [0, 3, 4]), (1, [3, 4, 6]), (2, [3, 4, 6, 17]), (3, [4, 5]), (4, [3, 4, 6, 7, 8]), (5, [3, 4, 6, 7, 25]), (6, [4, 5]), (7, [4, 5])]),
  (124, [(0, [0, 4, 5, 6]), (1, [0, 4, 5, 6, 11]), (2, [0, 4, 5, 6, 11, 12]), (3, [6, 7]), (4, [0, 4, 5, 6, 20]), (5, [6, 7]), (6, [4, 5, 6, 8]), (7, [4, 5, 6, 8, 38]), (8, [6, 7]), (9, [4, 5, 6, 8, 9, 10]), (10, [4, 5, 6, 8, 9, 47]), (11, [6, 7]), (12, [6, 7])]),
  (125, [(0, [3, 4, 5, 6]), (1, [3, 4, 5, 6, 8]), (2, [6, 7]), (3, [3, 4, 5, 6, 16]), (4, [6, 7]), (5, [4, 5, 6, 21]), (6, [6, 7]), (7, [6, 7])]),
  (126, [(0, [0, 3, 4]), (1, [0, 3, 4, 5]), (2, [4]), (3, [3, 4, 10]), (4, [4]), (5, [4])]),
  (127, [(0, [0, 4, 5, 6]), (1, [0, 4, 5, 6, 8]), (2, [6]), (3, [0, 4, 5, 6, 13]), (4, [6]), (5, [0, 4, 5, 6, 22]), (6, [6]), (7, [0, 4, 5, 6, 31]), (8, [6]), (9, [0, 4, 5, 6, 39]), (10, [6]), (11, [0, 4, 5, 6, 44]), (12, [0, 4, 5, 6, 44, 45]), (13, [6]), (14, [0, 4, 5, 6, 44, 53]), (15, [6]), (16, [0, 4, 5, 6, 44, 61]), (17, [6]), (18, [0, 4, 5, 6, 44, 69]), (19, [6]), (20, [0, 4, 5, 6, 44, 77]), (21, [6]), (22, [0, 4, 5, 6, 85]), (23, [6]), (24, [0, 4, 5, 6, 95]), (25, [6]), (26, [0, 4, 5, 6, 7]), (27, [4, 5, 6, 7, 103]), (28, [6]), (29, [6])]),
  (128, [(0, [3, 4, 5, 6]), (1, [3, 4, 5, 6, 7]), (2, [6]), (3, [4, 5, 6, 12]), (4, [6]), (5, [6])]),
  (129, [(0, [1]), (1, [2])]),
  (130, [(0, [1, 2]), (1, [1, 2, 3]), (2, [2, 3, 17]), (3, [2, 3]), (4, [2, 3])]),
  (131, [(0, [1, 2]), (1, [1, 2, 7]), (2, [1, 2, 4]), (3, []), (4, [2])]),
  (132, [(0, [1]), (1, [1, 3]), (2, [1, 3, 11]), (3, [1, 3]), (4, [1, 3, 20]), (5, [2]), (6, [1, 4]), (7, [1, 4, 25]), (8, [1, 4]), (9, [1, 4, 5]), (10, [1, 4, 5, 52]), (11, [2]), (12, [1, 4, 5, 6]), (13, [1, 4, 5, 6, 57]), (14, [1, 4, 5, 6]), (15, [1, 4, 5, 6, 81]), (16, [2]), (17, [2])]),
  (133, [(0, [1]), (1, [1, 3]), (2, [1, 3, 8]), (3, [1, 3]), (4, [1, 3, 20]), (5, [2]), (6, [2])]),
  (134, [(0, [1, 2, 3, 4]), (1, [1, 2, 3, 4, 13]), (2, [1, 2, 3, 18]), (3, [2, 3]), (4, [8, 9]), (5, [1, 2, 3, 4, 28]), (6, [8, 9]), (7, [1, 2, 3, 4, 10]), (8, [1, 2, 3, 4, 10, 11]), (9, [1, 2, 3, 4, 10, 11, 40]), (10, [1, 2, 3, 4, 10, 11]), (11, [1, 2, 3, 4, 10, 11]), (12, [8, 9])]),
  (135, [(0, [0, 1]), (1, [0, 1, 5]), (2, [0, 1, 5, 9]), (3, [0, 1, 5]), (4, [0, 1, 5, 17]), (5, [4]), (6, [4])]),
  (136, [(0, [1, 2, 4]), (1, [1, 2, 4, 5]), (2, [1, 2, 4, 5, 9]), (3, [1, 2, 4, 5]), (4, [4])]),
  (137, [(0, [0, 1]), (1, [4])]),
  (138, [(0, [1]), (1, [2])]),
  (139, [(0, [2, 3, 4]), (1, [6])]),
  (140, [(0, [1, 2]), (1, [1, 2, 5]), (2, [1, 5, 26]), (3, [4]), (4, [1, 6, 7]), (5, [4])]),
  (141, [(0, [0, 1]), (1, [0, 1, 7, 8]), (2, [0, 1, 7, 8, 9]), (3, [0, 1, 5, 7, 8]), (4, [0, 1, 5, 7, 8, 16]), (5, [4]), (6, [0, 1, 7, 8]), (7, [4])]),
  (142, [(0, [1, 2, 4]), (1, [1, 2, 4, 5]), (2, [1, 2, 4, 5, 10]), (3, [4, 5]), (4, [1, 2, 4, 14]), (5, [4, 5]), (6, [1, 2, 4, 18]), (7, [4, 5]), (8, [1, 4, 24, 25, 26]), (9, [1, 4, 24, 25, 26, 27]), (10, [1, 4, 7, 24, 25, 26]), (11, [1, 4, 24, 25, 26]), (12, [1, 4, 24, 25, 26]), (13, [4, 5])]),
  (143, [(0, [0, 1, 2]), (1, [6])]),
  (144, [(0, [1, 2, 3]), (1, [1, 3, 7, 8, 9]), (2, [1, 3, 7, 25]), (3, [6]), (4, [1, 7, 10]), (5, [1, 7, 10, 11]), (6, [1, 7, 10, 11, 34]), (7, [1, 7, 10, 11]), (8, [1, 7, 10, 11, 61]), (9, [6]), (10, [6])]),
  (145, [(0, [1, 2]), (1, [1, 2, 5]), (2, [1, 2, 5, 6]), (3, [1, 2, 5, 6, 12]), (4, [1, 2, 5, 6]), (5, [1, 2, 5, 6]), (6, [4])]),
  (146, [(0, [0, 1]), (1, [0, 1, 5]), (2, [0, 1, 5, 6]), (3, [0, 1, 5, 6, 10]), (4, [0, 1, 5, 6]), (5, [0, 1, 5, 6]), (6, [4])]),
  (147, [(0, [2, 3, 4]), (1, [6])]),
  (148, [(0, [0]), (1, [0, 4]), (2, [2]), (3, [2])]),
  (149, [(0, [0, 2]), (1, [])]),
  (150, [(0, [0, 1]), (1, [0, 1, 10]), (2, [4]), (3, [0, 1, 12, 13]), (4, [0, 1, 12, 13, 14]), (5, [0, 1, 5, 12, 13]), (6, [0, 1, 12, 13, 24]), (7, [4]), (8, [0, 1, 12, 13]), (9, [4])]),
  (151, [(0, [0]), (1, [0, 3]), (2, [3, 7, 8]), (3, [3, 7, 8, 9]), (4, [3, 4, 7, 8]), (5, [3, 7, 8]), (6, [3, 7, 8]), (7, [2])]),
  (152, [(0, [0, 1, 3]), (1, [0, 1, 3, 8]), (2, [0, 1, 3]), (3, [0, 1, 3, 18])]),
  (153, [(0, [1, 2]), (1, [3])]),
  (154, [(0, [0]), (1, [2])]),
  (155, [(0, [0, 3]), (1, [4])]),
  (156, [(0, [0, 1]), (1, [3])]),
  (157, [(0, [0, 1]), (1, [0, 1, 7, 8]), (2, [0, 1, 7, 8, 9]), (3, [0, 1, 5, 7, 8]), (4, [0, 1, 5, 7, 8, 16]), (5, [4]), (6, [0, 1, 7, 8]), (7, [4])]),
  (158, [(0, [1]), (1, [1, 5]), (2, [2]), (3, [2])]),
  (159, [(0, [0, 1, 2]), (1, [4])]),
  (160, [(0, [0, 1]), (1, [0, 1, 10]), (2, [4]), (3, [0, 1, 12, 13]), (4, [0, 1, 12, 13, 14]), (5, [0, 1, 5, 12, 13]), (6, [0, 1, 12, 13, 24]), (7, [4]), (8, [0, 1, 12, 13]), (9, [4])]),
  (161, [(0, [0, 1, 2]), (1, [0, 1, 2]), (2, [0, 1, 2, 7]), (3, [0, 1, 2, 7, 16]), (4, [6]), (5, [0, 1, 2, 7, 8]), (6, [0, 1, 2, 7, 8, 22]), (7, [6]), (8, [0, 1, 2, 7, 8, 31]), (9, [0, 1, 2, 7, 9]), (10, [0, 1, 7, 9]), (11, [9]), (12, [6]), (13, [0, 1, 2, 7, 8]), (14, [0, 1, 2, 7, 8, 68]), (15, [0, 1, 2]), (16, [0]), (17, [6]), (18, [0, 1, 7]), (19, [0]), (20, [6])]),
  (162, [(0, [0, 1]), (1, [4])]),
  (163, [(0, [1, 2]), (1, [3])]),
  (164, [(0, [0, 1, 2, 4]), (1, [0, 1, 2, 4, 14]), (2, [0, 1, 2, 4, 5]), (3, [0, 1, 2, 4, 5, 31]), (4, [0, 1, 2, 4, 5]), (5, [0, 1, 2, 4, 5]), (6, [0, 1, 2, 4, 5, 43]), (7, [0, 1, 2, 4])]),
  (165, [(0, [0]), (1, [3]), (2, [3, 4]), (3, [2]), (4, [6]), (5, [2]), (6, [2])]),
  (166, [(0, [0, 2]), (1, [0, 2, 4]), (2, [0, 2, 4, 8]), (3, [2, 3]), (4, [2, 3])]),
  (167, [(0, [0, 2]), (1, [0, 2, 6]), (2, [2]), (3, [2])]),
  (168, [(0, [0]), (1, [3]), (2, [3, 4]), (3, [2]), (4, [3, 6]), (5, [2]), (6, [3, 8]), (7, [2]), (8, [3, 10]), (9, [2]), (10, [3, 13]), (11, [2]), (12, [3, 16]), (13, [2]), (14, [3, 19]), (15, [2]), (16, [22]), (17, [2]), (18, [2])]),
  (169, [(0, [0]), (1, [2])]),
  (170, [(0, [0, 2]), (1, [2])]),
  (171, [(0, [0, 2]), (1, [2, 3]), (2, [2]), (3, [2])]),
  (172, [(0, [0, 2]), (1, [0, 2, 8]), (2, [2]), (3, [2])]),
  (173, [(0, [0, 2]), (1, [2])]),
  (174, [(0, [0, 1]), (1, [0, 1, 7]), (2, [0, 1]), (3, [0, 1, 5]), (4, [0, 1, 5, 17]), (5, [0, 1, 5]), (6, [0, 1, 5, 24]), (7, [0, 1, 5]), (8, [4])]),
  (175, [(0, [0, 1, 3]), (1, [0, 1, 3, 8]), (2, [0, 1, 3]), (3, [0, 1, 3, 18])]),
  (176, [(0, [1, 2]), (1, [1, 2, 4]), (2, [1, 2, 4, 11]), (3, [2, 3]), (4, [1, 2]), (5, [1, 2, 21]), (6, [2, 3]), (7, [1, 2, 27]), (8, [1, 2, 27]), (9, [2, 27]), (10, [2, 3]), (11, [2, 3])]),
  (177, [(0, [2, 3]), (1, [2, 3, 5]), (2, [4])]),
  (178, [(0, [1, 2]), (1, [1, 2, 3]), (2, [1, 2, 3, 4]), (3, [1, 2, 3, 4, 5]), (4, [1, 2, 3, 5]), (5, [2, 3]), (6, [2])]),
  (179, [(0, [1, 2]), (1, [1, 2, 4]), (2, [1, 2, 4, 5]), (3, [1, 2, 4, 5]), (4, [1, 2, 4, 5, 17]), (5, [1, 2, 4, 5, 6]), (6, [1, 2, 4, 5, 6, 35]), (7, [1, 2, 4, 5, 6]), (8, [1, 2, 4, 5, 6]), (9, [1, 2, 4, 5, 6, 42]), (10, [1, 2, 4, 5])]),
  (180, [(0, [1, 2, 3]), (1, [1, 2, 3, 7]), (2, [1, 2, 3, 7, 12]), (3, [1, 2, 3, 7]), (4, [1, 2, 3, 7]), (5, [6])]),
  (181, []),
  (182, [(0, [1, 2, 3]), (1, [1, 2, 3, 8]), (2, [6]), (3, [6])]),
  (183, [(0, [1, 2]), (1, [1, 2, 5]), (2, [1, 2, 5, 14]), (3, [1, 2, 5]), (4, [1, 2, 5, 28]), (5, [4]), (6, [4])]),
  (184, [(0, [0, 1]), (1, [0, 1, 5]), (2, [0, 1, 5, 9]), (3, [0, 1, 5]), (4, [0, 1, 5, 17]), (5, [4]), (6, [4])]),
  (185, [(0, [0, 1]), (1, [0, 1, 7, 8]), (2, [0, 1, 7, 8, 9]), (3, [0, 1, 5, 7, 8]), (4, [0, 1, 5, 7, 8, 16]), (5, [4]), (6, [0, 1, 7, 8]), (7, [4])]),
  (186, [(0, [0, 1]), (1, [4])]),
  (187, [(0, [0, 1, 2]), (1, [4])]),
  (188, [(0, [2, 3]), (1, [2, 3, 6]), (2, [2, 3, 6, 7]), (3, [4]), (4, [2, 3, 6, 13]), (5, [4]), (6, [2, 3, 6, 19]), (7, [4]), (8, [3, 29]), (9, [4]), (10, [4])]),
  (189, [(0, [1, 2]), (1, [2])]),
  (190, [(0, [0]), (1, [0, 3]), (2, [2]), (3, [0, 6]), (4, [2]), (5, [9]), (6, [2]), (7, [2])]),
  (191, [(0, [1]), (1, [2])]),
  (192, [(0, [1, 2]), (1, [4])]),
  (193, [(0, [1, 2, 3, 6]), (1, [1, 2, 3, 6, 8]), (2, [6]), (3, [1, 2, 3, 6, 8, 25]), (4, [6]), (5, [1, 2, 3, 6, 8, 30]), (6, [6]), (7, [1, 2, 3, 6, 8, 36]), (8, [6]), (9, [2, 3, 6, 8, 44]), (10, [2, 3, 6, 8, 44]), (11, [6]), (12, [2, 3, 6, 58]), (13, [6]), (14, [6])]),
  (194, [(0, [0, 1]), (1, [0, 1, 7]), (2, [4, 5, 6]), (3, [0, 1, 10]), (4, [4, 5, 6]), (5, [0, 1, 13]), (6, [4, 5, 6]), (7, [0, 18]), (8, [4, 5, 6]), (9, [0, 21]), (10, [4, 5, 6]), (11, [0, 28]), (12, [4, 5, 6]), (13, [35]), (14, [4, 5, 6]), (15, [4, 5, 6])]),
  (195, [(0, [1, 2, 3, 6]), (1, [1, 2, 3, 6, 7]), (2, [6]), (3, [1, 2, 3, 6, 14]), (4, [6]), (5, [1, 2, 3, 6, 22]), (6, [6]), (7, [1, 3, 6, 32]), (8, [6]), (9, [1, 3, 6, 52]), (10, [6]), (11, [6])]),
  (196, [(0, [0, 1, 2]), (1, [4])]),
  (197, [(0, [0, 1, 2, 3, 8]), (1, [0, 1, 2, 3, 8, 9]), (2, [0, 1, 2, 3, 8, 9, 10]), (3, [0, 1, 2, 3, 8, 9, 10, 23]), (4, []), (5, [0, 1, 2, 3, 8, 9, 10, 29]), (6, []), (7, [0, 1, 2, 3, 8, 9, 10, 35]), (8, [0, 1, 2, 3, 8, 9, 10]), (9, [0, 1, 2, 3, 8, 9, 10]), (10, [0, 1, 2, 3, 8, 9, 10, 11, 12]), (11, [0, 1, 2, 3, 8, 9, 10, 11, 12, 50]), (12, [0, 1, 2, 3, 8, 9, 10, 11]), (13, [0, 1, 2, 3, 8, 9, 10, 11]), (14, [0, 1, 2, 3, 8, 9, 10, 11, 12]), (15, [0, 1, 2, 3, 8, 9, 10, 11, 68]), (16, [0, 1, 2, 3, 8, 9, 10, 11, 72]), (17, [0, 1, 2, 3, 8, 9, 10, 11, 87]), (18, [0, 2, 3, 8, 9, 13]), (19, [0, 1, 2, 3, 8, 9]), (20, [0, 1, 2, 3, 10, 14, 15]), (21, [0, 1, 2, 3, 9, 10, 14]), (22, [0, 1, 2, 3, 9, 10, 14, 16, 17]), (23, [0, 1, 2, 3, 9, 14, 16, 17, 18]), (24, [0, 1, 2, 3, 9, 14, 16, 17, 18, 113]), (25, [0, 1, 2, 3, 8, 9, 14]), (26, [0, 2, 3, 8, 9, 14]), (27, [0, 1, 2, 3, 8, 9]), (28, [0, 1, 2, 3, 8, 9, 14]), (29, [0, 1, 3, 8, 9, 14]), (30, [0, 1, 2, 3, 8, 9])]),
  (198, [(0, [0]), (1, [2]), (2, [2])]),
  (199, [(0, [0, 1]), (1, [3])]),
  (200, [(0, [2, 3, 4]), (1, [6])]),
  (202, [(0, [])]),
  (203, [(0, [0, 1]), (1, [0, 1, 7, 8]), (2, [0, 1, 7, 8, 9]), (3, [0, 1, 5, 7, 8]), (4, [0, 1, 5, 7, 8, 16]), (5, [4]), (6, [0, 1, 7, 8]), (7, [4])]),
  (204, [(0, [0, 2]), (1, [2])]),
  (205, [(0, [0, 2]), (1, [2])]),
  (206, [(0, [0, 2]), (1, [2, 3]), (2, [2]), (3, [2])]),
  (207, [(0, [1]), (1, [2])]),
  (208, [(0, [0, 2]), (1, [2])]),
  (209, [(0, [0, 1, 4]), (1, [4])]),
  (210, [(0, [0, 1, 4]), (1, [4])]),
  (211, [(0, [0, 1, 4]), (1, [4])]),
  (212, [(0, [1]), (1, [2])]),
  (213, [(0, [0]), (1, [4])]),
  (214, [(0, [1]), (1, [4])]),
  (215, [(0, [1]), (1, [2])]),
  (216, [(0, [0]), (1, [2])]),
  (217, [(0, [0]), (1, [2])]),
  (218, [(0, [0]), (1, [2])]),
  (219, [(0, [1]), (1, [2])]),
  (220, [(0, [2, 3]), (1, [2, 3, 5]), (2, [2, 3, 5, 34]), (3, [4]), (4, [4])]),
  (221, [(0, [1, 2, 3, 4]), (1, [1, 2, 3, 4, 10]), (2, [8]), (3, [8])]),
  (222, [(0, [2, 3]), (1, [4])]),
  (223, [(0, [0, 1, 2]), (1, [0, 1, 2, 14]), (2, [6]), (3, [1, 2, 15, 16, 17]), (4, [1, 2, 15, 16, 17, 18]), (5, [1, 2, 7, 8, 15, 16, 17]), (6, [1, 2, 8, 9, 15, 16, 17]), (7, [1, 2, 15, 16, 17, 30]), (8, [6]), (9, [1, 2, 15, 16, 17]), (10, [6])]),
  (224, [(0, [0, 1, 2, 3, 4]), (1, [0, 1, 2, 3, 4, 14]), (2, [6]), (3, [0, 1, 2, 3, 4, 7, 8]), (4, [0, 1, 2, 3, 4, 7, 30]), (5, [6]), (6, [0, 1, 3, 4, 9]), (7, [0, 1, 3, 4, 9, 10]), (8, [0, 1, 3, 4, 9, 10, 43, 44, 45]), (9, [0, 1, 3, 4, 9, 10, 43, 44, 45, 46]), (10, [0, 1, 3, 4, 9, 10, 11, 12, 43, 44, 45]), (11, [0, 1, 3, 4, 9, 10, 43, 44, 45]), (12, [0, 1, 3, 4, 9, 10, 43, 44, 45]), (13, [0, 3]), (14, [6])]),
  (225, [(0, [0, 1]), (1, [0, 1, 7, 8]), (2, [0, 1, 7, 8, 9]), (3, [0, 1, 5, 7, 8]), (4, [0, 1, 5, 7, 8, 16]), (5, [4]), (6, [0, 1, 7, 8]), (7, [4])]),
  (226, [(0, [0, 1, 2]), (1, [0, 1, 2, 14]), (2, [6]), (3, [1, 2, 15, 16, 17]), (4, [1, 2, 15, 16, 17, 18]), (5, [1, 2, 7, 8, 15, 16, 17]), (6, [1, 2, 8, 9, 15, 16, 17]), (7, [1, 2, 15, 16, 17, 30]), (8, [6]), (9, [1, 2, 15, 16, 17]), (10, [6])]),
  (227, [(0, [1, 2]), (1, [4])]),
  (228, [(0, [0, 1, 2, 6]), (1, [0, 1, 2, 6, 12]), (2, [0, 1, 2, 6]), (3, [0, 1, 2, 6, 7]), (4, [0, 1, 2, 6, 7, 30]), (5, [0, 1, 2, 6, 7]), (6, [0, 1, 2, 6, 7])]),
  (229, [(0, [0, 1, 2, 6]), (1, [0, 1, 2, 6, 7]), (2, [0, 6, 7, 8]), (3, [0, 6, 7, 8, 9]), (4, [0, 6, 7, 8, 9, 19]), (5, [0, 6, 7, 8, 9]), (6, [0, 6, 7, 8, 9]), (7, [0, 6, 7, 10]), (8, [0, 6, 7, 10, 30]), (9, [0, 6, 7, 10]), (10, [0, 6, 7, 10]), (11, [0, 6, 7, 10])]),
  (230, [(0, [0, 1, 6]), (1, [0, 1, 6, 15]), (2, [0, 1, 6, 7]), (3, [0, 1, 6, 7, 8]), (4, [0, 1, 6, 7, 8, 9]), (5, [0, 1, 6, 7, 8, 9, 33]), (6, [0, 1, 6, 7, 8, 9]), (7, [0, 1, 6, 7, 8, 9, 10]), (8, [0, 1, 6, 7, 8, 9, 10, 43]), (9, [0, 1, 6, 7, 8, 9, 10]), (10, [0, 1, 6, 7, 8, 9])]),
  (231, [(0, [0, 1, 2]), (1, [0, 1, 8]), (2, [0, 1, 8, 9]), (3, [0, 1, 8, 9, 10]), (4, [0, 1, 8, 9, 10, 11]), (5, [0, 8, 9, 10, 11, 12]), (6, [0, 8, 9, 10, 11, 12, 32]), (7, [0, 9, 10, 11, 12, 34]), (8, [0, 9, 10, 11, 12]), (9, [0, 9, 10, 11, 12]), (10, [0, 9, 10, 11, 12]), (11, [9, 11]), (12, [11, 49]), (13, [6, 7]), (14, [11, 49, 51]), (15, [6, 7]), (16, [11, 54]), (17, [6, 7])]),
  (232, [(0, [0, 2, 6]), (1, [0, 6, 7]), (2, [0, 6, 7, 13]), (3, [0, 6, 7]), (4, [0, 6, 7]), (5, [0, 6, 7])]),
  (233, [(0, [0, 1, 2]), (1, [0, 1, 2, 7]), (2, [0, 1, 2, 7, 8]), (3, [0, 1, 2, 7, 8, 14]), (4, [0, 1, 2, 7, 8]), (5, [0, 1, 2, 7, 8, 32]), (6, [0, 1, 2, 7, 8]), (7, [0, 1, 2, 7, 8, 37]), (8, [6]), (9, [0, 1, 2, 7, 8, 41]), (10, [6]), (11, [0, 1, 2, 7, 8]), (12, [0, 1, 2, 7, 8, 61]), (13, [0, 1, 2, 7, 8, 9]), (14, [0, 1, 2, 7, 8, 9, 65]), (15, [0, 1, 2, 7, 8, 9]), (16, [0, 1, 2, 7, 8, 9, 78]), (17, [0, 1, 2, 7, 8, 9]), (18, [0, 1, 2, 7, 8, 98]), (19, [0, 1, 2, 7, 8, 10]), (20, [0, 1, 2, 7, 8, 10, 103]), (21, [0, 1, 2, 7, 8, 10]), (22, [0, 1, 2, 7, 8, 10, 116]), (23, [0, 1, 2, 7, 8, 10]), (24, [6])]),
  (234, [(0, [0, 1]), (1, [4])]),
  (235, [(0, [0, 1, 2, 3]), (1, [0, 1, 2]), (2, [0, 1, 9, 10]), (3, [0, 1, 9, 10, 43]), (4, [0, 1, 9, 10]), (5, [0, 1, 9, 10, 59]), (6, [0, 1, 9, 10]), (7, [0, 1, 9, 10, 64]), (8, [0, 1, 9, 10]), (9, [0, 1, 9, 10]), (10, [0, 1, 9, 10]), (11, [8])]),
  (236, [(0, [0, 1, 2, 3]), (1, [0, 1, 2]), (2, [0, 1, 10, 11]), (3, [0, 1, 10, 11, 43]), (4, [0, 1, 10, 11]), (5, [0, 1, 10, 11, 60]), (6, [0, 1, 10, 11]), (7, [0, 1, 10, 11, 65]), (8, [11]), (9, [8, 9]), (10, [0, 1, 10, 11]), (11, [0, 1, 10, 11]), (12, [0, 1, 10, 11]), (13, [0, 1, 10, 11, 112]), (14, [0, 1, 10, 11]), (15, [0, 1, 10, 11, 129]), (16, [0, 1, 10, 11]), (17, [0, 1, 10, 11, 134]), (18, [0, 1, 10, 11]), (19, [0, 1, 10, 11]), (20, [0, 1, 10, 11]), (21, [11]), (22, [8, 9])]),
  (237, [(0, [0, 2]), (1, [0, 2, 4]), (2, [0]), (3, [0, 2]), (4, [0, 2, 8]), (5, [0, 2]), (6, [0, 2]), (7, [2])]),
  (238, [(0, [0, 2]), (1, [0, 2, 4]), (2, [0]), (3, [0, 2]), (4, [0, 2, 8]), (5, [0, 2]), (6, [0, 2]), (7, [0, 2, 14]), (8, [0, 2]), (9, [0, 2]), (10, [2])]),
  (239, [(0, [0, 1, 2]), (1, [4])]),
  (240, [(0, [0, 1]), (1, [0]), (2, [])]),
  (241, [(0, [0, 1, 2, 5]), (1, [0, 1, 2, 5, 7]), (2, [5]), (3, [5])]),
  (242, [(0, [0, 1]), (1, [1, 4, 5]), (2, [1, 4, 5, 20]), (3, [4, 5]), (4, [4, 5])]),
  (243, [(0, [0, 1, 2, 5]), (1, [5])]),
  (244, [(0, [0, 1]), (1, [0, 1, 5]), (2, [0, 1, 5, 6]), (3, [0, 1, 6, 11]), (4, [12]), (5, [4]), (6, [4]), (7, [0, 1, 13]), (8, [4]), (9, [0, 1, 16]), (10, [4]), (11, [19]), (12, [4]), (13, [4])]),
  (245, [(0, [0, 1, 2, 3]), (1, [5])]),
  (246, [(0, [1, 2]), (1, [4])]),
  (247, [(0, [0, 2, 3, 8]), (1, [0, 2, 3, 8, 9]), (2, [0, 2, 3, 8, 9, 16]), (3, [0, 2, 3, 8, 9, 36]), (4, [0, 2, 3, 8, 9]), (5, [0, 2, 3, 8, 9, 52]), (6, [0, 2, 3, 9]), (7, [0, 2, 3, 8])]),
  (248, [(0, [0]), (1, [2])]),
  (249, [(0, [0]), (1, [0]), (2, [0]), (3, [0]), (4, [2])]),
  (250, [(0, [0, 1, 2]), (1, [6])]),
  (251, [(0, [0, 1, 2, 3, 4]), (1, [0, 1, 2, 3, 4]), (2, [0, 1, 2, 4]), (3, [2]), (4, [10])]),
  (252, [(0, [0]), (1, [2])]),
  (253, [(0, [0, 2, 3]), (1, [0, 2, 3, 9]), (2, [0, 2, 3]), (3, [0, 2, 3])]),
  (254, [(0, [0, 1]), (1, [0, 1, 7, 8]), (2, [0, 1, 7, 8, 9]), (3, [0, 1, 5, 7, 8]), (4, [0, 1, 5, 7, 8, 16]), (5, [4]), (6, [0, 1, 7, 8]), (7, [4])]),
  (255, [(0, [0, 1, 2, 3]), (1, [1, 2, 3, 18]), (2, [1, 2]), (3, [8, 9]), (4, [8, 9])])],
 head := [(43, [(8, [6, 8, 33, 34, 35])]),
  (5, [(4, [0, 1, 2, 7]), (13, [0, 1, 2, 8, 9, 10, 11])]),
  (8, [(4, [2, 3, 5])]),
  (9, [(11, [1, 3, 6, 7])]),
  (10, [(8, [1, 3, 5, 6, 7]), (15, [1, 3, 5, 6, 7, 8, 9, 10]), (21, [1, 3, 5, 6, 7, 8, 9, 11, 12])]),
  (11, [(10, [7, 13])]),
  (13, [(13, [2, 3, 5, 7, 13, 14])]),
  (14, [(14, [2, 3, 7, 11, 12, 16, 17]), (22, [3, 7, 15, 18, 19])]),
  (22, [(2, [0, 3])]),
  (24, [(4, [2, 3, 5])]),
  (25, [(7, [0, 1, 4, 5, 6, 7]), (12, [0, 1, 4, 5, 6, 7, 8, 9]), (16, [0, 1, 4, 5, 6, 7, 9, 10, 11])]),
  (28, [(3, [1, 2, 3, 4])]),
  (29, [(7, [0, 3, 6]), (13, [0, 3, 7, 8])]),
  (30, [(3, [0, 3, 5, 6])]),
  (31, [(4, [1, 3])]),
  (32, [(13, [1, 6, 10, 12, 13, 52, 53]), (17, [1, 6, 10, 12, 13, 14, 15, 52, 53, 56, 57, 58])]),
  (33, [(3, [0, 3, 4])]),
  (35, [(3, [0, 1, 2, 6, 7, 8]), (7, [0, 1, 2, 6, 7, 8, 9, 10])]),
  (36, [(8, [2, 3, 8, 10, 12, 53, 54])]),
  (37, [(3, [0, 2, 3, 5, 8, 9, 10])]),
  (39, [(6, [4, 8, 26, 27, 28])]),
  (40, [(3, [0, 2, 3, 4])]),
  (42, [(3, [0, 3, 5, 6])]),
  (44, [(3, [1, 2, 3, 4])]),
  (46, [(2, [2, 3, 6])]),
  (47, [(4, [0, 1, 5])]),
  (49, [(8, [1, 5, 30, 31, 32]), (17, [1, 5, 9, 56, 57]), (21, [1, 5, 9, 11, 56, 57, 64, 65, 66]), (29, [1, 5, 9, 56, 57, 89, 90, 91]), (36, [5, 18, 108, 109, 110])]),
  (52, [(4, [1, 3, 4, 5]), (8, [1, 3, 4, 5, 6, 7])]),
  (53, [(3, [1, 3, 4])]),
  (55, [(4, [0, 3, 5])]),
  (66, [(4, [0, 1, 5])]),
  (67, [(4, [0, 1, 5])]),
  (69, [(3, [0, 1, 5, 6])]),
  (71, [(3, [0, 1, 5, 6])]),
  (72, [(3, [0, 3, 6, 7])]),
  (73, [(3, [3, 6, 7, 8])]),
  (77, [(4, [0, 1, 5])]),
  (78, [(3, [0, 3, 4])]),
  (79, [(3, [0, 5, 6])]),
  (80, [(7, [4, 5, 6, 7, 9, 25, 26, 27]), (16, [4, 5, 6, 7, 9, 12, 13, 25, 26, 27, 49, 50, 51])]),
  (81, [(3, [1, 2, 6, 7, 8])]),
  (86, [(2, [1, 4, 7, 8, 9])]),
  (87, [(2, [3, 4, 8, 9, 10])]),
  (91, [(2, [1, 3]), (5, [1, 3, 4]), (10, [1, 5]), (15, [1, 5, 6])]),
  (93, [(10, [1, 32, 33])]),
  (96, [(5, [4, 6, 19, 20, 21])]),
  (97, [(4, [1, 3]), (10, [1, 5]), (15, [1, 6])]),
  (98, [(2, [1, 3])]),
  (99, [(3, [2, 5, 6, 7])]),
  (100, [(3, [1, 2, 5, 6])]),
  (102, [(4, [0, 12, 13, 14])]),
  (103, [(4, [4, 8, 10, 11]), (12, [1, 2, 3, 4, 8, 12, 13]), (22, [4, 8, 12, 16])]),
  (104, [(7, [0, 1, 5, 17, 18, 19])]),
  (109, [(6, [0, 1, 3, 6, 7, 11, 12, 34, 35])]),
  (115, [(7, [0, 5, 7, 8]), (10, [0, 5, 7, 8, 9]), (13, [0, 5, 7, 8, 9, 58, 59, 60])]),
  (116, [(4, [0, 1, 5]), (9, [0, 1, 5, 6])]),
  (117, [(4, [3, 26, 27, 28])]),
  (120, [(5, [0, 3, 4])]),
  (121, [(5, [0, 3, 4])]),
  (122, [(2, [1, 2, 5])]),
  (132, [(2, [1, 3]), (7, [1, 4]), (13, [1, 4, 5, 6])]),
  (133, [(2, [1, 3])]),
  (134, [(9, [1, 2, 3, 4, 10, 11])]),
  (135, [(2, [0, 1, 5])]),
  (136, [(2, [1, 2, 4, 5])]),
  (141, [(2, [0, 1, 7, 8])]),
  (142, [(9, [1, 4, 24, 25, 26])]),
  (144, [(6, [1, 7, 10, 11])]),
  (145, [(3, [1, 2, 5, 6])]),
  (146, [(3, [0, 1, 5, 6])]),
  (150, [(4, [0, 1, 12, 13])]),
  (151, [(3, [3, 7, 8])]),
  (152, [(1, [0, 1, 3])]),
  (157, [(2, [0, 1, 7, 8])]),
  (160, [(4, [0, 1, 12, 13])]),
  (164, [(1, [0, 1, 2, 4]), (3, [0, 1, 2, 4, 5])]),
  (174, [(4, [0, 1, 5]), (6, [0, 1, 5])]),
  (175, [(1, [0, 1, 3])]),
  (179, [(4, [1, 2, 4, 5]), (6, [1, 2, 4, 5, 6])]),
  (180, [(2, [1, 2, 3, 7])]),
  (183, [(2, [1, 2, 5])]),
  (184, [(2, [0, 1, 5])]),
  (185, [(2, [0, 1, 7, 8])]),
  (197, [(2, [0, 1, 2, 3, 8, 9])]),
  (203, [(2, [0, 1, 7, 8])]),
  (223, [(4, [1, 2, 15, 16, 17])]),
  (224, [(9, [0, 1, 3, 4, 9, 10, 43, 44, 45])]),
  (225, [(2, [0, 1, 7, 8])]),
  (226, [(4, [1, 2, 15, 16, 17])]),
  (228, [(1, [0, 1, 2, 6]), (4, [0, 1, 2, 6, 7])]),
  (229, [(4, [0, 6, 7, 8, 9]), (8, [0, 6, 7, 10])]),
  (230, [(5, [0, 1, 6, 7, 8, 9])]),
  (232, [(2, [0, 6, 7])]),
  (233, [(3, [0, 1, 2, 7, 8]), (5, [0, 1, 2, 7, 8]), (14, [0, 1, 2, 7, 8, 9]), (20, [0, 1, 2, 7, 8, 10])]),
  (235, [(3, [0, 1, 9, 10]), (5, [0, 1, 9, 10])]),
  (236, [(3, [0, 1, 10, 11]), (5, [0, 1, 10, 11]), (13, [0, 1, 10, 11]), (15, [0, 1, 10, 11])]),
  (247, [(1, [0, 2, 3, 8])]),
  (253, [(1, [0, 2, 3])]),
  (254, [(2, [0, 1, 7, 8])])],
 site := [(70, [3, 4, 5, 6, 9, 10, 11, 14]), (74, [3]), (80, [11, 12, 13, 15]), (85, [3, 5]), (105, [14]), (106, [1]), (107, [3]), (111, [5, 7]), (115, [3, 6]), (118, [3]), (119, [2, 3]), (129, [1]), (131, [1, 2]), (139, [3, 4]), (140, [6]), (147, [3, 4]), (155, [3]), (178, [1, 3, 4, 5]), (200, [3, 4]), (212, [1]), (215, [1]), (220, [2, 3, 5]), (230, [7]), (231, [9])],
 exts := [149, 161],
 ext := ext0 }
def T1 : Tw.Tab := { T0 with exts := [16, 149, 161], ext := ext1 }
def T : Tw.Tab := { T0 with exts := [16, 149, 161], ext := extT }
end Go.Proofs.YtmefgijobonklaaGreat
namespace Go.Proofs.YtmefgijobonklaaGreat
open Go Tw
def Aw1 : St := ⟨[(1, .loc 0 0), (2, .val (.int .i64 0)), (3, .loc 1 0), (4, .val (.int .i64 0)), (5, .loc 2 0), (6, .val (.int .i64 0))], [[.slc 10 0 4 4 4 false], [.slc 29 0 4 4 4 false], [.slc 44 0 2 2 4 false]], [.cells .own [.int .i64 2, .int .i64 3], .cells .own [.int .u8 0, .int .i64 5, .int .u8 0, .int .i64 5, .int .u8 0, .int .i64 5, .int .u8 0, .int .i64 5, .int .u8 0, .int .i64 7, .int .u8 1, .int .i64 0], .cells .last [.int .i64 1, .int .i64 2], .cells .last [.int .i64 1, .int .i64 2], .cells .last [.int .i64 1, .int .i64 1], .cells .last [.int .i64 1, .int .i64 1], .cells .last [.int .i64 1, .int .i64 0], .cells .last [.int .i64 1, .int .i64 0], .cells .last [.int .i64 0, .int .i64 2], .cells .last [.int .i64 0, .int .i64 0], .cells .grow [.slc 9 0 2 2 1 false, .slc 8 0 2 2 1 false, .int .u8 0, .int .i64 5, .slc 7 0 2 2 1 false, .slc 6 0 2 2 1 false, .int .u8 0, .int .i64 5, .slc 5 0 2 2 1 false, .slc 4 0 2 2 1 false, .int .u8 0, .int .i64 7, .slc 3 0 2 2 1 false, .slc 2 0 2 2 1 false, .int .u8 1, .int .i64 0], .cells .own [.int .i64 2, .int .i64 3], .cells .own [.int .i64 1, .int .i64 2], .cells .own [.int .i64 1, .int .i64 2], .cells .own [.int .i64 1, .int .i64 1], .cells .own [.int .i64 1, .int .i64 1], .cells .own [.int .i64 0, .int .i64 2], .cells .own [.int .i64 0, .int .i64 1], .cells .own [.int .i64 1, .int .i64 0], .cells .own [.int .i64 0, .int .i64 0], .cells .own [.slc 19 0 2 2 1 true, .slc 18 0 2 2 1 true, .int .u8 0, .int .i64 5, .slc 17 0 2 2 1 true, .slc 16 0 2 2 1 true, .int .u8 0, .int .i64 5, .slc 15 0 2 2 1 true, .slc 14 0 2 2 1 true, .int .u8 0, .int .i64 7, .slc 13 0 2 2 1 true, .slc 12 0 2 2 1 true, .int .u8 1, .int .i64 0], .cells .last [.int .i64 1, .int .i64 2], .cells .last [.int .i64 1, .int .i64 2], .cells .last [.int .i64 1, .int .i64 1], .cells .last [.int .i64 1, .int .i64 1], .cells .last [.int .i64 1, .int .i64 0], .cells .last [.int .i64 1, .int .i64 0], .cells .last [.int .i64 0, .int .i64 2], .cells .last [.int .i64 0, .int .i64 0], .cells .grow [.slc 28 0 2 2 1 false, .slc 27 0 2 2 1 false, .int .u8 0, .int .i64 5, .slc 26 0 2 2 1 false, .slc 25 0 2 2 1 false, .int .u8 0, .int .i64 5, .slc 24 0 2 2 1 false, .slc 23 0 2 2 1 false, .int .u8 0, .int .i64 7, .slc 22 0 2 2 1 false, .slc 21 0 2 2 1 false, .int .u8 1, .int .i64 0], .cells .own [.int .i64 2, .int .i64 3], .cells .own [.int .i64 1, .int .i64 2], .cells .own [.int .i64 1, .int .i64 2], .cells .own [.int .i64 1, .int .i64 1], .cells .own [.int .i64 1, .int .i64 1], .cells .own [.int .i64 0, .int .i64 2], .cells .own [.int .i64 0, .int .i64 1], .cells .own [.int .i64 1, .int .i64 0], .cells .own [.int .i64 0, .int .i64 0], .cells .own [.slc 38 0 2 2 1 true, .slc 37 0 2 2 1 true, .int .u8 0, .int .i64 5, .slc 36 0 2 2 1 true, .slc 35 0 2 2 1 true, .int .u8 0, .int .i64 5, .slc 34 0 2 2 1 true, .slc 33 0 2 2 1 true, .int .u8 0, .int .i64 7, .slc 32 0 2 2 1 true, .slc 31 0 2 2 1 true, .int .u8 1, .int .i64 0], .cells .last [.int .i64 1, .int .i64 2], .cells .last [.int .i64 1, .int .i64 0], .cells .last [.int .i64 0, .int .i64 2], .cells .last [.int .i64 0, .int .i64 0], .cells .grow [.slc 43 0 2 2 1 false, .slc 42 0 2 2 1 false, .int .u8 0, .int .i64 5, .slc 41 0 2 2 1 false, .slc 40 0 2 2 1 false, .int .u8 0, .int .i64 7]], []⟩
def Aw2 : St := ⟨[(1, .loc 0 0), (2, .val (.int .i64 0)), (3, .loc 1 0), (4, .val (.int .i64 0)), (5, .loc 2 0), (6, .val (.int .i64 0)), (7, .val (.int .i64 4)), (8, .val (.int .i64 0)), (9, .loc 3 0), (10, .val (.int .i64 0)), (11, .loc 4 0), (12, .val (.int .i64 0))], [[.slc 10 0 4 4 4 false], [.slc 29 0 4 4 4 false], [.slc 44 0 2 2 4 false], [.int .i64 5, .int .i64 7, .int .u8 1], [.slc 82 0 3 3 4 false]], [.cells .own [.int .i64 2, .int .i64 3], .cells .own [.int .u8 0, .int .i64 5, .int .u8 0, .int .i64 5, .int .u8 0, .int .i64 5, .int .u8 0, .int .i64 5, .int .u8 0, .int .i64 7, .int .u8 1, .int .i64 0], .cells .last [.int .i64 1, .int .i64 2], .cells .last [.int .i64 1, .int .i64 2], .cells .last [.int .i64 1, .int .i64 1], .cells .last [.int .i64 1, .int .i64 1], .cells .last [.int .i64 1, .int .i64 0], .cells .last [.int .i64 1, .int .i64 0], .cells .last [.int .i64 0, .int .i64 2], .cells .last [.int .i64 0, .int .i64 0], .cells .grow [.slc 9 0 2 2 1 false, .slc 8 0 2 2 1 false, .int .u8 0, .int .i64 5, .slc 7 0 2 2 1 false, .slc 6 0 2 2 1 false, .int .u8 0, .int .i64 5, .slc 5 0 2 2 1 false, .slc 4 0 2 2 1 false, .int .u8 0, .int .i64 7, .slc 3 0 2 2 1 false, .slc 2 0 2 2 1 false, .int .u8 1, .int .i64 0], .cells .own [.int .i64 2, .int .i64 3], .cells .own [.int .i64 1, .int .i64 2], .cells .own [.int .i64 1, .int .i64 2], .cells .own [.int .i64 1, .int .i64 1], .cells .own [.int .i64 1, .int .i64 1], .cells .own [.int .i64 0, .int .i64 2], .cells .own [.int .i64 0, .int .i64 1], .cells .own [.int .i64 1, .int .i64 0], .cells .own [.int .i64 0, .int .i64 0], .cells .own [.slc 19 0 2 2 1 true, .slc 18 0 2 2 1 true, .int .u8 0, .int .i64 5, .slc 17 0 2 2 1 true, .slc 16 0 2 2 1 true, .int .u8 0, .int .i64 5, .slc 15 0 2 2 1 true, .slc 14 0 2 2 1 true, .int .u8 0, .int .i64 7, .slc 13 0 2 2 1 true, .slc 12 0 2 2 1 true, .int .u8 1, .int .i64 0], .cells .last [.int .i64 1, .int .i64 2], .cells .last [.int .i64 1, .int .i64 2], .cells .last [.int .i64 1, .int .i64 1], .cells .last [.int .i64 1, .int .i64 1], .cells .last [.int .i64 1, .int .i64 0], .cells .last [.int .i64 1, .int .i64 0], .cells .last [.int .i64 0, .int .i64 2], .cells .last [.int .i64 0, .int .i64 0], .cells .grow [.slc 28 0 2 2 1 false, .slc 27 0 2 2 1 false, .int .u8 0, .int .i64 5, .slc 26 0 2 2 1 false, .slc 25 0 2 2 1 false, .int .u8 0, .int .i64 5, .slc 24 0 2 2 1 false, .slc 23 0 2 2 1 false, .int .u8 0, .int .i64 7, .slc 22 0 2 2 1 false, .slc 21 0 2 2 1 false, .int .u8 1, .int .i64 0], .cells .own [.int .i64 2, .int .i64 3], .cells .own [.int .i64 1, .int .i64 2], .cells .own [.int .i64 1, .int .i64 2], .cells .own [.int .i64 1, .int .i64 1], .cells .own [.int .i64 1, .int .i64 1], .cells .own [.int .i64 0, .int .i64 2], .cells .own [.int .i64 0, .int .i64 1], .cells .own [.int .i64 1, .int .i64 0], .cells .own [.int .i64 0, .int .i64 0], .cells .own [.slc 38 0 2 2 1 true, .slc 37 0 2 2 1 true, .int .u8 0, .int .i64 5, .slc 36 0 2 2 1 true, .slc 35 0 2 2 1 true, .int .u8 0, .int .i64 5, .slc 34 0 2 2 1 true, .slc 33 0 2 2 1 true, .int .u8 0, .int .i64 7, .slc 32 0 2 2 1 true, .slc 31 0 2 2 1 true, .int .u8 1, .int .i64 0], .cells .last [.int .i64 1, .int .i64 2], .cells .last [.int .i64 1, .int .i64 0], .cells .last [.int .i64 0, .int .i64 2], .cells .last [.int .i64 0, .int .i64 0], .cells .grow [.slc 43 0 2 2 1 false, .slc 42 0 2 2 1 false, .int .u8 0, .int .i64 5, .slc 41 0 2 2 1 false, .slc 40 0 2 2 1 false, .int .u8 0, .int .i64 7], .cells .own [.int .i64 2, .int .i64 3], .cells .own [.int .i64 1, .int .i64 2], .cells .own [.int .i64 1, .int .i64 2], .cells .own [.int .i64 1, .int .i64 1], .cells .own [.int .i64 1, .int .i64 1], .cells .own [.int .i64 0, .int .i64 2], .cells .own [.int .i64 0, .int .i64 1], .cells .own [.int .i64 1, .int .i64 0], .cells .own [.int .i64 0, .int .i64 0], .cells .own [.slc 53 0 2 2 1 true, .slc 52 0 2 2 1 true, .int .u8 0, .int .i64 5, .slc 51 0 2 2 1 true, .slc 50 0 2 2 1 true, .int .u8 0, .int .i64 5, .slc 49 0 2 2 1 true, .slc 48 0 2 2 1 true, .int .u8 0, .int .i64 7, .slc 47 0 2 2 1 true, .slc 46 0 2 2 1 true, .int .u8 1, .int .i64 0], .cells .own [.int .i64 2, .int .i64 3], .cells .own [.int .i64 1, .int .i64 2], .cells .own [.int .i64 1, .int .i64 2], .cells .own [.int .i64 1, .int .i64 1], .cells .own [.int .i64 1, .int .i64 1], .cells .own [.int .i64 0, .int .i64 2], .cells .own [.int .i64 0, .int .i64 1], .cells .own [.int .i64 1, .int .i64 0], .cells .own [.int .i64 0, .int .i64 0], .cells .own [.slc 63 0 2 2 1 true, .slc 62 0 2 2 1 true, .int .u8 0, .int .i64 5, .slc 61 0 2 2 1 true, .slc 60 0 2 2 1 true, .int .u8 0, .int .i64 5, .slc 59 0 2 2 1 true, .slc 58 0 2 2 1 true, .int .u8 0, .int .i64 7, .slc 57 0 2 2 1 true, .slc 56 0 2 2 1 true, .int .u8 1, .int .i64 0], .cells .own [.int .i64 2, .int .i64 3], .cells .own [.int .i64 1, .int .i64 2], .cells .own [.int .i64 1, .int .i64 2], .cells .own [.int .i64 1, .int .i64 1], .cells .own [.int .i64 1, .int .i64 1], .cells .own [.int .i64 1, .int .i64 0], .cells .own [.int .i64 1, .int .i64 0], .cells .own [.int .i64 0, .int .i64 2], .cells .own [.int .i64 0, .int .i64 0], .cells .own [.slc 73 0 2 2 1 true, .slc 72 0 2 2 1 true, .int .u8 0, .int .i64 5, .slc 71 0 2 2 1 true, .slc 70 0 2 2 1 true, .int .u8 0, .int .i64 5, .slc 69 0 2 2 1 true, .slc 68 0 2 2 1 true, .int .u8 0, .int .i64 7, .slc 67 0 2 2 1 true, .slc 66 0 2 2 1 true, .int .u8 1, .int .i64 0], .cells .own [.slc 74 0 4 4 4 true], .cells .last [.int .i64 1, .int .i64 2], .cells .last [.int .i64 1, .int .i64 2], .cells .last [.int .i64 1, .int .i64 1], .cells .last [.int .i64 1, .int .i64 0], .cells .last [.int .i64 0, .int .i64 2], .cells .last [.int .i64 0, .int .i64 0], .cells .grow [.slc 81 0 2 2 1 false, .slc 80 0 2 2 1 false, .int .u8 0, .int .i64 0, .slc 79 0 2 2 1 false, .slc 78 0 2 2 1 false, .int .u8 0, .int .i64 0, .slc 77 0 2 2 1 false, .slc 76 0 2 2 1 false, .int .u8 1, .int .i64 0]], []⟩
def Aw3 : St := ⟨[(1, .loc 0 0), (2, .val (.int .i64 0)), (3, .loc 1 0), (4, .val (.int .i64 0)), (5, .loc 2 0), (6, .val (.int .i64 0)), (7, .val (.int .i64 4)), (8, .val (.int .i64 0)), (9, .loc 3 0), (10, .val (.int .i64 0)), (11, .loc 4 0), (12, .val (.int .i64 0)), (13, .val (.slc 99 0 1 1 1 false)), (14, .val (.int .i64 0))], [[.slc 10 0 4 4 4 false], [.slc 29 0 4 4 4 false], [.slc 44 0 2 2 4 false], [.int .i64 5, .int .i64 7, .int .u8 1], [.slc 82 0 3 3 4 false]], [.cells .own [.int .i64 2, .int .i64 3], .cells .own [.int .u8 0, .int .i64 5, .int .u8 0, .int .i64 5, .int .u8 0, .int .i64 5, .int .u8 0, .int .i64 5, .int .u8 0, .int .i64 7, .int .u8 1, .int .i64 0], .cells .last [.int .i64 1, .int .i64 2], .cells .last [.int .i64 1, .int .i64 2], .cells .last [.int .i64 1, .int .i64 1], .cells .last [.int .i64 1, .int .i64 1], .cells .last [.int .i64 1, .int .i64 0], .cells .last [.int .i64 1, .int .i64 0], .cells .last [.int .i64 0, .int .i64 2], .cells .last [.int .i64 0, .int .i64 0], .cells .grow [.slc 9 0 2 2 1 false, .slc 8 0 2 2 1 false, .int .u8 0, .int .i64 5, .slc 7 0 2 2 1 false, .slc 6 0 2 2 1 false, .int .u8 0, .int .i64 5, .slc 5 0 2 2 1 false, .slc 4 0 2 2 1 false, .int .u8 0, .int .i64 7, .slc 3 0 2 2 1 false, .slc 2 0 2 2 1 false, .int .u8 1, .int .i64 0], .cells .own [.int .i64 2, .int .i64 3], .cells .own [.int .i64 1, .int .i64 2], .cells .own [.int .i64 1, .int .i64 2], .cells .own [.int .i64 1, .int .i64 1], .cells .own [.int .i64 1, .int .i64 1], .cells .own [.int .i64 0, .int .i64 2], .cells .own [.int .i64 0, .int .i64 1], .cells .own [.int .i64 1, .int .i64 0], .cells .own [.int .i64 0, .int .i64 0], .cells .own [.slc 19 0 2 2 1 true, .slc 18 0 2 2 1 true, .int .u8 0, .int .i64 5, .slc 17 0 2 2 1 true, .slc 16 0 2 2 1 true, .int .u8 0, .int .i64 5, .slc 15 0 2 2 1 true, .slc 14 0 2 2 1 true, .int .u8 0, .int .i64 7, .slc 13 0 2 2 1 true, .slc 12 0 2 2 1 true, .int .u8 1, .int .i64 0], .cells .last [.int .i64 1, .int .i64 2], .cells .last [.int .i64 1, .int .i64 2], .cells .last [.int .i64 1, .int .i64 1], .cells .last [.int .i64 1, .int .i64 1], .cells .last [.int .i64 1, .int .i64 0], .cells .last [.int .i64 1, .int .i64 0], .cells .last [.int .i64 0, .int .i64 2], .cells .last [.int .i64 0, .int .i64 0], .cells .grow [.slc 28 0 2 2 1 false, .slc 27 0 2 2 1 false, .int .u8 0, .int .i64 5, .slc 26 0 2 2 1 false, .slc 25 0 2 2 1 false, .int .u8 0, .int .i64 5, .slc 24 0 2 2 1 false, .slc 23 0 2 2 1 false, .int .u8 0, .int .i64 7, .slc 22 0 2 2 1 false, .slc 21 0 2 2 1 false, .int .u8 1, .int .i64 0], .cells .own [.int .i64 2, .int .i64 3], .cells .own [.int .i64 1, .int .i64 2], .cells .own [.int .i64 1, .int .i64 2], .cells .own [.int .i64 1, .int .i64 1], .cells .own [.int .i64 1, .int .i64 1], .cells .own [.int .i64 0, .int .i64 2], .cells .own [.int .i64 0, .int .i64 1], .cells .own [.int .i64 1, .int .i64 0], .cells .own [.int .i64 0, .int .i64 0], .cells .own [.slc 38 0 2 2 1 true, .slc 37 0 2 2 1 true, .int .u8 0, .int .i64 5, .slc 36 0 2 2 1 true, .slc 35 0 2 2 1 true, .int .u8 0, .int .i64 5, .slc 34 0 2 2 1 true, .slc 33 0 2 2 1 true, .int .u8 0, .int .i64 7, .slc 32 0 2 2 1 true, .slc 31 0 2 2 1 true, .int .u8 1, .int .i64 0], .cells .last [.int .i64 1, .int .i64 2], .cells .last [.int .i64 1, .int .i64 0], .cells .last [.int .i64 0, .int .i64 2], .cells .last [.int .i64 0, .int .i64 0], .cells .grow [.slc 43 0 2 2 1 false, .slc 42 0 2 2 1 false, .int .u8 0, .int .i64 5, .slc 41 0 2 2 1 false, .slc 40 0 2 2 1 false, .int .u8 0, .int .i64 7], .cells .own [.int .i64 2, .int .i64 3], .cells .own [.int .i64 1, .int .i64 2], .cells .own [.int .i64 1, .int .i64 2], .cells .own [.int .i64 1, .int .i64 1], .cells .own [.int .i64 1, .int .i64 1], .cells .own [.int .i64 0, .int .i64 2], .cells .own [.int .i64 0, .int .i64 1], .cells .own [.int .i64 1, .int .i64 0], .cells .own [.int .i64 0, .int .i64 0], .cells .own [.slc 53 0 2 2 1 true, .slc 52 0 2 2 1 true, .int .u8 0, .int .i64 5, .slc 51 0 2 2 1 true, .slc 50 0 2 2 1 true, .int .u8 0, .int .i64 5, .slc 49 0 2 2 1 true, .slc 48 0 2 2 1 true, .int .u8 0, .int .i64 7, .slc 47 0 2 2 1 true, .slc 46 0 2 2 1 true, .int .u8 1, .int .i64 0], .cells .own [.int .i64 2, .int .i64 3], .cells .own [.int .i64 1, .int .i64 2], .cells .own [.int .i64 1, .int .i64 2], .cells .own [.int .i64 1, .int .i64 1], .cells .own [.int .i64 1, .int .i64 1], .cells .own [.int .i64 0, .int .i64 2], .cells .own [.int .i64 0, .int .i64 1], .cells .own [.int .i64 1, .int .i64 0], .cells .own [.int .i64 0, .int .i64 0], .cells .own [.slc 63 0 2 2 1 true, .slc 62 0 2 2 1 true, .int .u8 0, .int .i64 5, .slc 61 0 2 2 1 true, .slc 60 0 2 2 1 true, .int .u8 0, .int .i64 5, .slc 59 0 2 2 1 true, .slc 58 0 2 2 1 true, .int .u8 0, .int .i64 7, .slc 57 0 2 2 1 true, .slc 56 0 2 2 1 true, .int .u8 1, .int .i64 0], .cells .own [.int .i64 2, .int .i64 3], .cells .own [.int .i64 1, .int .i64 2], .cells .own [.int .i64 1, .int .i64 2], .cells .own [.int .i64 1, .int .i64 1], .cells .own [.int .i64 1, .int .i64 1], .cells .own [.int .i64 1, .int .i64 0], .cells .own [.int .i64 1, .int .i64 0], .cells .own [.int .i64 0, .int .i64 2], .cells .own [.int .i64 0, .int .i64 0], .cells .own [.slc 73 0 2 2 1 true, .slc 72 0 2 2 1 true, .int .u8 0, .int .i64 5, .slc 71 0 2 2 1 true, .slc 70 0 2 2 1 true, .int .u8 0, .int .i64 5, .slc 69 0 2 2 1 true, .slc 68 0 2 2 1 true, .int .u8 0, .int .i64 7, .slc 67 0 2 2 1 true, .slc 66 0 2 2 1 true, .int .u8 1, .int .i64 0], .cells .own [.slc 74 0 4 4 4 true], .cells .last [.int .i64 1, .int .i64 2], .cells .last [.int .i64 1, .int .i64 2], .cells .last [.int .i64 1, .int .i64 1], .cells .last [.int .i64 1, .int .i64 0], .cells .last [.int .i64 0, .int .i64 2], .cells .last [.int .i64 0, .int .i64 0], .cells .grow [.slc 81 0 2 2 1 false, .slc 80 0 2 2 1 false, .int .u8 0, .int .i64 0, .slc 79 0 2 2 1 false, .slc 78 0 2 2 1 false, .int .u8 0, .int .i64 0, .slc 77 0 2 2 1 false, .slc 76 0 2 2 1 false, .int .u8 1, .int .i64 0], .cells .own [.int .i64 2], .cells .own [.int .u8 3, .int .i64 0, .int .i64 0, .int .i64 0, .int .i64 0, .int .u8 3, .int .i64 0, .int .i64 0, .int .i64 0, .int .i64 1, .int .u8 10, .int .i64 0, .int .i64 1, .int .i64 0, .int .i64 0], .cells .own [.str ⟨#[100]⟩, .int .i64 1, .int .i64 2, .str ⟨#[101]⟩, .int .i64 0, .int .i64 2], .cells .last [.int .i64 1, .int .i64 2], .cells .last [.int .i64 1, .int .i64 2], .cells .last [.int .i64 1, .int .i64 1], .cells .last [.int .i64 1, .int .i64 1], .cells .last [.int .i64 1, .int .i64 0], .cells .last [.int .i64 1, .int .i64 0], .cells .last [.int .i64 0, .int .i64 2], .cells .last [.int .i64 0, .int .i64 2], .cells .last [.int .i64 0, .int .i64 1], .cells .last [.int .i64 0, .int .i64 1], .cells .last [.int .i64 0, .int .i64 0], .cells .last [.int .i64 0, .int .i64 0], .cells .grow [.slc 97 0 2 2 1 false, .slc 96 0 2 2 1 false, .int .u8 1, .int .i64 0, .slc 95 0 2 2 1 false, .slc 94 0 2 2 1 false, .int .u8 0, .int .i64 1, .slc 93 0 2 2 1 false, .slc 92 0 2 2 1 false, .int .u8 0, .int .i64 0, .slc 91 0 2 2 1 false, .slc 90 0 2 2 1 false, .int .u8 1, .int .i64 0, .slc 89 0 2 2 1 false, .slc 88 0 2 2 1 false, .int .u8 0, .int .i64 2, .slc 87 0 2 2 1 false, .slc 86 0 2 2 1 false, .int .u8 0, .int .i64 1], .cells .own [.slc 98 0 6 6 4 false]], []⟩
def Aw4 : St := ⟨[(1, .loc 0 0), (2, .val (.int .i64 0)), (3, .loc 1 0), (4, .val (.int .i64 0)), (5, .loc 2 0), (6, .val (.int .i64 0)), (7, .val (.int .i64 4)), (8, .val (.int .i64 0)), (9, .loc 3 0), (10, .val (.int .i64 0)), (11, .loc 4 0), (12, .val (.int .i64 0)), (13, .val (.slc 99 0 1 1 1 false)), (14, .val (.int .i64 0)), (15, .val (.slc 119 0 2 2 1 true)), (16, .val (.int .i64 0))], [[.slc 10 0 4 4 4 false], [.slc 29 0 4 4 4 false], [.slc 44 0 2 2 4 false], [.int .i64 5, .int .i64 7, .int .u8 1], [.slc 82 0 3 3 4 false]], [.cells .own [.int .i64 2, .int .i64 3], .cells .own [.int .u8 0, .int .i64 5, .int .u8 0, .int .i64 5, .int .u8 0, .int .i64 5, .int .u8 0, .int .i64 5, .int .u8 0, .int .i64 7, .int .u8 1, .int .i64 0], .cells .last [.int .i64 1, .int .i64 2], .cells .last [.int .i64 1, .int .i64 2], .cells .last [.int .i64 1, .int .i64 1], .cells .last [.int .i64 1, .int .i64 1], .cells .last [.int .i64 1, .int .i64 0], .cells .last [.int .i64 1, .int .i64 0], .cells .last [.int .i64 0, .int .i64 2], .cells .last [.int .i64 0, .int .i64 0], .cells .grow [.slc 9 0 2 2 1 false, .slc 8 0 2 2 1 false, .int .u8 0, .int .i64 5, .slc 7 0 2 2 1 false, .slc 6 0 2 2 1 false, .int .u8 0, .int .i64 5, .slc 5 0 2 2 1 false, .slc 4 0 2 2 1 false, .int .u8 0, .int .i64 7, .slc 3 0 2 2 1 false, .slc 2 0 2 2 1 false, .int .u8 1, .int .i64 0], .cells .own [.int .i64 2, .int .i64 3], .cells .own [.int .i64 1, .int .i64 2], .cells .own [.int .i64 1, .int .i64 2], .cells .own [.int .i64 1, .int .i64 1], .cells .own [.int .i64 1, .int .i64 1], .cells .own [.int .i64 0, .int .i64 2], .cells .own [.int .i64 0, .int .i64 1], .cells .own [.int .i64 1, .int .i64 0], .cells .own [.int .i64 0, .int .i64 0], .cells .own [.slc 19 0 2 2 1 true, .slc 18 0 2 2 1 true, .int .u8 0, .int .i64 5, .slc 17 0 2 2 1 true, .slc 16 0 2 2 1 true, .int .u8 0, .int .i64 5, .slc 15 0 2 2 1 true, .slc 14 0 2 2 1 true, .int .u8 0, .int .i64 7, .slc 13 0 2 2 1 true, .slc 12 0 2 2 1 true, .int .u8 1, .int .i64 0], .cells .last [.int .i64 1, .int .i64 2], .cells .last [.int .i64 1, .int .i64 2], .cells .last [.int .i64 1, .int .i64 1], .cells .last [.int .i64 1, .int .i64 1], .cells .last [.int .i64 1, .int .i64 0], .cells .last [.int .i64 1, .int .i64 0], .cells .last [.int .i64 0, .int .i64 2], .cells .last [.int .i64 0, .int .i64 0], .cells .grow [.slc 28 0 2 2 1 false, .slc 27 0 2 2 1 false, .int .u8 0, .int .i64 5, .slc 26 0 2 2 1 false, .slc 25 0 2 2 1 false, .int .u8 0, .int .i64 5, .slc 24 0 2 2 1 false, .slc 23 0 2 2 1 false, .int .u8 0, .int .i64 7, .slc 22 0 2 2 1 false, .slc 21 0 2 2 1 false, .int .u8 1, .int .i64 0], .cells .own [.int .i64 2, .int .i64 3], .cells .own [.int .i64 1, .int .i64 2], .cells .own [.int .i64 1, .int .i64 2], .cells .own [.int .i64 1, .int .i64 1], .cells .own [.int .i64 1, .int .i64 1], .cells .own [.int .i64 0, .int .i64 2], .cells .own [.int .i64 0, .int .i64 1], .cells .own [.int .i64 1, .int .i64 0], .cells .own [.int .i64 0, .int .i64 0], .cells .own [.slc 38 0 2 2 1 true, .slc 37 0 2 2 1 true, .int .u8 0, .int .i64 5, .slc 36 0 2 2 1 true, .slc 35 0 2 2 1 true, .int .u8 0, .int .i64 5, .slc 34 0 2 2 1 true, .slc 33 0 2 2 1 true, .int .u8 0, .int .i64 7, .slc 32 0 2 2 1 true, .slc 31 0 2 2 1 true, .int .u8 1, .int .i64 0], .cells .last [.int .i64 1, .int .i64 2], .cells .last [.int .i64 1, .int .i64 0], .cells .last [.int .i64 0, .int .i64 2], .cells .last [.int .i64 0, .int .i64 0], .cells .grow [.slc 43 0 2 2 1 false, .slc 42 0 2 2 1 false, .int .u8 0, .int .i64 5, .slc 41 0 2 2 1 false, .slc 40 0 2 2 1 false, .int .u8 0, .int .i64 7], .cells .own [.int .i64 2, .int .i64 3], .cells .own [.int .i64 1, .int .i64 2], .cells .own [.int .i64 1, .int .i64 2], .cells .own [.int .i64 1, .int .i64 1], .cells .own [.int .i64 1, .int .i64 1], .cells .own [.int .i64 0, .int .i64 2], .cells .own [.int .i64 0, .int .i64 1], .cells .own [.int .i64 1, .int .i64 0], .cells .own [.int .i64 0, .int .i64 0], .cells .own [.slc 53 0 2 2 1 true, .slc 52 0 2 2 1 true, .int .u8 0, .int .i64 5, .slc 51 0 2 2 1 true, .slc 50 0 2 2 1 true, .int .u8 0, .int .i64 5, .slc 49 0 2 2 1 true, .slc 48 0 2 2 1 true, .int .u8 0, .int .i64 7, .slc 47 0 2 2 1 true, .slc 46 0 2 2 1 true, .int .u8 1, .int .i64 0], .cells .own [.int .i64 2, .int .i64 3], .cells .own [.int .i64 1, .int .i64 2], .cells .own [.int .i64 1, .int .i64 2], .cells .own [.int .i64 1, .int .i64 1], .cells .own [.int .i64 1, .int .i64 1], .cells .own [.int .i64 0, .int .i64 2], .cells .own [.int .i64 0, .int .i64 1], .cells .own [.int .i64 1, .int .i64 0], .cells .own [.int .i64 0, .int .i64 0], .cells .own [.slc 63 0 2 2 1 true, .slc 62 0 2 2 1 true, .int .u8 0, .int .i64 5, .slc 61 0 2 2 1 true, .slc 60 0 2 2 1 true, .int .u8 0, .int .i64 5, .slc 59 0 2 2 1 true, .slc 58 0 2 2 1 true, .int .u8 0, .int .i64 7, .slc 57 0 2 2 1 true, .slc 56 0 2 2 1 true, .int .u8 1, .int .i64 0], .cells .own [.int .i64 2, .int .i64 3], .cells .own [.int .i64 1, .int .i64 2], .cells .own [.int .i64 1, .int .i64 2], .cells .own [.int .i64 1, .int .i64 1], .cells .own [.int .i64 1, .int .i64 1], .cells .own [.int .i64 1, .int .i64 0], .cells .own [.int .i64 1, .int .i64 0], .cells .own [.int .i64 0, .int .i64 2], .cells .own [.int .i64 0, .int .i64 0], .cells .own [.slc 73 0 2 2 1 true, .slc 72 0 2 2 1 true, .int .u8 0, .int .i64 5, .slc 71 0 2 2 1 true, .slc 70 0 2 2 1 true, .int .u8 0, .int .i64 5, .slc 69 0 2 2 1 true, .slc 68 0 2 2 1 true, .int .u8 0, .int .i64 7, .slc 67 0 2 2 1 true, .slc 66 0 2 2 1 true, .int .u8 1, .int .i64 0], .cells .own [.slc 74 0 4 4 4 true], .cells .last [.int .i64 1, .int .i64 2], .cells .last [.int .i64 1, .int .i64 2], .cells .last [.int .i64 1, .int .i64 1], .cells .last [.int .i64 1, .int .i64 0], .cells .last [.int .i64 0, .int .i64 2], .cells .last [.int .i64 0, .int .i64 0], .cells .grow [.slc 81 0 2 2 1 false, .slc 80 0 2 2 1 false, .int .u8 0, .int .i64 0, .slc 79 0 2 2 1 false, .slc 78 0 2 2 1 false, .int .u8 0, .int .i64 0, .slc 77 0 2 2 1 false, .slc 76 0 2 2 1 false, .int .u8 1, .int .i64 0], .cells .own [.int .i64 2], .cells .own [.int .u8 3, .int .i64 0, .int .i64 0, .int .i64 0, .int .i64 0, .int .u8 3, .int .i64 0, .int .i64 0, .int .i64 0, .int .i64 1, .int .u8 10, .int .i64 0, .int .i64 1, .int .i64 0, .int .i64 0], .cells .own [.str ⟨#[100]⟩, .int .i64 1, .int .i64 2, .str ⟨#[101]⟩, .int .i64 0, .int .i64 2], .cells .last [.int .i64 1, .int .i64 2], .cells .last [.int .i64 1, .int .i64 2], .cells .last [.int .i64 1, .int .i64 1], .cells .last [.int .i64 1, .int .i64 1], .cells .last [.int .i64 1, .int .i64 0], .cells .last [.int .i64 1, .int .i64 0], .cells .last [.int .i64 0, .int .i64 2], .cells .last [.int .i64 0, .int .i64 2], .cells .last [.int .i64 0, .int .i64 1], .cells .last [.int .i64 0, .int .i64 1], .cells .last [.int .i64 0, .int .i64 0], .cells .last [.int .i64 0, .int .i64 0], .cells .grow [.slc 97 0 2 2 1 false, .slc 96 0 2 2 1 false, .int .u8 1, .int .i64 0, .slc 95 0 2 2 1 false, .slc 94 0 2 2 1 false, .int .u8 0, .int .i64 1, .slc 93 0 2 2 1 false, .slc 92 0 2 2 1 false, .int .u8 0, .int .i64 0, .slc 91 0 2 2 1 false, .slc 90 0 2 2 1 false, .int .u8 1, .int .i64 0, .slc 89 0 2 2 1 false, .slc 88 0 2 2 1 false, .int .u8 0, .int .i64 2, .slc 87 0 2 2 1 false, .slc 86 0 2 2 1 false, .int .u8 0, .int .i64 1], .cells .own [.slc 98 0 6 6 4 false], .cells .own [.int .i64 1, .int .i64 2], .cells .own [.int .i64 1, .int .i64 2], .cells .own [.int .i64 1, .int .i64 1], .cells .own [.int .i64 1, .int .i64 1], .cells .own [.int .i64 1, .int .i64 0], .cells .own [.int .i64 1, .int .i64 0], .cells .own [.int .i64 0, .int .i64 2], .cells .own [.int .i64 0, .int .i64 0], .cells .own [.slc 107 0 2 2 1 true, .slc 106 0 2 2 1 true, .int .u8 0, .int .i64 5, .slc 105 0 2 2 1 true, .slc 104 0 2 2 1 true, .int .u8 0, .int .i64 5, .slc 103 0 2 2 1 true, .slc 102 0 2 2 1 true, .int .u8 0, .int .i64 7, .slc 101 0 2 2 1 true, .slc 100 0 2 2 1 true, .int .u8 1, .int .i64 0], .cells .own [.int .i64 2, .int .i64 3], .cells .own [.int .i64 1, .int .i64 0], .cells .own [.int .u8 0, .int .i64 5, .int .u8 0, .int .i64 5, .int .u8 0, .int .i64 5, .int .u8 0, .int .i64 5, .int .u8 0, .int .i64 8, .int .u8 1, .int .i64 0], .cells .grow [.int .i64 (-1), .int .i64 0, .int .i64 1], .cells .grow [.int .i64 (-1), .int .i64 (-3)], .cells .grow [.int .i64 (-1), .int .i64 (-2)], .cells .grow [.int .i64 0, .slc 114 0 2 2 1 false, .int .i64 0, .slc 113 0 2 2 1 false, .int .i64 1, .slc 112 0 3 3 1 false], .cells .grow [.int .u8 0, .int .i64 5, .int .u8 0, .int .i64 8, .int .u8 1, .int .i64 0], .cells .own [.int .i64 1, .int .i64 0], .cells .own [.int .i64 2, .int .i64 3], .cells .own [.int .i64 1, .int .i64 1]], []⟩
def Aw5 : St := ⟨[(1, .loc 0 0), (2, .val (.int .i64 0)), (3, .loc 1 0), (4, .val (.int .i64 0)), (5, .loc 2 0), (6, .val (.int .i64 0)), (7, .val (.int .i64 4)), (8, .val (.int .i64 0)), (9, .loc 3 0), (10, .val (.int .i64 0)), (11, .loc 4 0), (12, .val (.int .i64 0)), (13, .val (.slc 99 0 1 1 1 false)), (14, .val (.int .i64 0)), (15, .val (.slc 119 0 2 2 1 true)), (16, .val (.int .i64 0)), (17, .loc 5 0), (18, .val (.int .i64 0))], [[.slc 10 0 4 4 4 false], [.slc 29 0 4 4 4 false], [.slc 44 0 2 2 4 false], [.int .i64 5, .int .i64 7, .int .u8 1], [.slc 82 0 3 3 4 false], [.int .u8 1, .int .i64 0]], [.cells .own [.int .i64 2, .int .i64 3], .cells .own [.int .u8 0, .int .i64 5, .int .u8 0, .int .i64 5, .int .u8 0, .int .i64 5, .int .u8 0, .int .i64 5, .int .u8 0, .int .i64 7, .int .u8 1, .int .i64 0], .cells .last [.int .i64 1, .int .i64 2], .cells .last [.int .i64 1, .int .i64 2], .cells .last [.int .i64 1, .int .i64 1], .cells .last [.int .i64 1, .int .i64 1], .cells .last [.int .i64 1, .int .i64 0], .cells .last [.int .i64 1, .int .i64 0], .cells .last [.int .i64 0, .int .i64 2], .cells .last [.int .i64 0, .int .i64 0], .cells .grow [.slc 9 0 2 2 1 false, .slc 8 0 2 2 1 false, .int .u8 0, .int .i64 5, .slc 7 0 2 2 1 false, .slc 6 0 2 2 1 false, .int .u8 0, .int .i64 5, .slc 5 0 2 2 1 false, .slc 4 0 2 2 1 false, .int .u8 0, .int .i64 7, .slc 3 0 2 2 1 false, .slc 2 0 2 2 1 false, .int .u8 1, .int .i64 0], .cells .own [.int .i64 2, .int .i64 3], .cells .own [.int .i64 1, .int .i64 2], .cells .own [.int .i64 1, .int .i64 2], .cells .own [.int .i64 1, .int .i64 1], .cells .own [.int .i64 1, .int .i64 1], .cells .own [.int .i64 0, .int .i64 2], .cells .own [.int .i64 0, .int .i64 1], .cells .own [.int .i64 1, .int .i64 0], .cells .own [.int .i64 0, .int .i64 0], .cells .own [.slc 19 0 2 2 1 true, .slc 18 0 2 2 1 true, .int .u8 0, .int .i64 5, .slc 17 0 2 2 1 true, .slc 16 0 2 2 1 true, .int .u8 0, .int .i64 5, .slc 15 0 2 2 1 true, .slc 14 0 2 2 1 true, .int .u8 0, .int .i64 7, .slc 13 0 2 2 1 true, .slc 12 0 2 2 1 true, .int .u8 1, .int .i64 0], .cells .last [.int .i64 1, .int .i64 2], .cells .last [.int .i64 1, .int .i64 2], .cells .last [.int .i64 1, .int .i64 1], .cells .last [.int .i64 1, .int .i64 1], .cells .last [.int .i64 1, .int .i64 0], .cells .last [.int .i64 1, .int .i64 0], .cells .last [.int .i64 0, .int .i64 2], .cells .last [.int .i64 0, .int .i64 0], .cells .grow [.slc 28 0 2 2 1 false, .slc 27 0 2 2 1 false, .int .u8 0, .int .i64 5, .slc 26 0 2 2 1 false, .slc 25 0 2 2 1 false, .int .u8 0, .int .i64 5, .slc 24 0 2 2 1 false, .slc 23 0 2 2 1 false, .int .u8 0, .int .i64 7, .slc 22 0 2 2 1 false, .slc 21 0 2 2 1 false, .int .u8 1, .int .i64 0], .cells .own [.int .i64 2, .int .i64 3], .cells .own [.int .i64 1, .int .i64 2], .cells .own [.int .i64 1, .int .i64 2], .cells .own [.int .i64 1, .int .i64 1], .cells .own [.int .i64 1, .int .i64 1], .cells .own [.int .i64 0, .int .i64 2], .cells .own [.int .i64 0, .int .i64 1], .cells .own [.int .i64 1, .int .i64 0], .cells .own [.int .i64 0, .int .i64 0], .cells .own [.slc 38 0 2 2 1 true, .slc 37 0 2 2 1 true, .int .u8 0, .int .i64 5, .slc 36 0 2 2 1 true, .slc 35 0 2 2 1 true, .int .u8 0, .int .i64 5, .slc 34 0 2 2 1 true, .slc 33 0 2 2 1 true, .int .u8 0, .int .i64 7, .slc 32 0 2 2 1 true, .slc 31 0 2 2 1 true, .int .u8 1, .int .i64 0], .cells .last [.int .i64 1, .int .i64 2], .cells .last [.int .i64 1, .int .i64 0], .cells .last [.int .i64 0, .int .i64 2], .cells .last [.int .i64 0, .int .i64 0], .cells .grow [.slc 43 0 2 2 1 false, .slc 42 0 2 2 1 false, .int .u8 0, .int .i64 5, .slc 41 0 2 2 1 false, .slc 40 0 2 2 1 false, .int .u8 0, .int .i64 7], .cells .own [.int .i64 2, .int .i64 3], .cells .own [.int .i64 1, .int .i64 2], .cells .own [.int .i64 1, .int .i64 2], .cells .own [.int .i64 1, .int .i64 1], .cells .own [.int .i64 1, .int .i64 1], .cells .own [.int .i64 0, .int .i64 2], .cells .own [.int .i64 0, .int .i64 1], .cells .own [.int .i64 1, .int .i64 0], .cells .own [.int .i64 0, .int .i64 0], .cells .own [.slc 53 0 2 2 1 true, .slc 52 0 2 2 1 true, .int .u8 0, .int .i64 5, .slc 51 0 2 2 1 true, .slc 50 0 2 2 1 true, .int .u8 0, .int .i64 5, .slc 49 0 2 2 1 true, .slc 48 0 2 2 1 true, .int .u8 0, .int .i64 7, .slc 47 0 2 2 1 true, .slc 46 0 2 2 1 true, .int .u8 1, .int .i64 0], .cells .own [.int .i64 2, .int .i64 3], .cells .own [.int .i64 1, .int .i64 2], .cells .own [.int .i64 1, .int .i64 2], .cells .own [.int .i64 1, .int .i64 1], .cells .own [.int .i64 1, .int .i64 1], .cells .own [.int .i64 0, .int .i64 2], .cells .own [.int .i64 0, .int .i64 1], .cells .own [.int .i64 1, .int .i64 0], .cells .own [.int .i64 0, .int .i64 0], .cells .own [.slc 63 0 2 2 1 true, .slc 62 0 2 2 1 true, .int .u8 0, .int .i64 5, .slc 61 0 2 2 1 true, .slc 60 0 2 2 1 true, .int .u8 0, .int .i64 5, .slc 59 0 2 2 1 true, .slc 58 0 2 2 1 true, .int .u8 0, .int .i64 7, .slc 57 0 2 2 1 true, .slc 56 0 2 2 1 true, .int .u8 1, .int .i64 0], .cells .own [.int .i64 2, .int .i64 3], .cells .own [.int .i64 1, .int .i64 2], .cells .own [.int .i64 1, .int .i64 2], .cells .own [.int .i64 1, .int .i64 1], .cells .own [.int .i64 1, .int .i64 1], .cells .own [.int .i64 1, .int .i64 0], .cells .own [.int .i64 1, .int .i64 0], .cells .own [.int .i64 0, .int .i64 2], .cells .own [.int .i64 0, .int .i64 0], .cells .own [.slc 73 0 2 2 1 true, .slc 72 0 2 2 1 true, .int .u8 0, .int .i64 5, .slc 71 0 2 2 1 true, .slc 70 0 2 2 1 true, .int .u8 0, .int .i64 5, .slc 69 0 2 2 1 true, .slc 68 0 2 2 1 true, .int .u8 0, .int .i64 7, .slc 67 0 2 2 1 true, .slc 66 0 2 2 1 true, .int .u8 1, .int .i64 0], .cells .own [.slc 74 0 4 4 4 true], .cells .last [.int .i64 1, .int .i64 2], .cells .last [.int .i64 1, .int .i64 2], .cells .last [.int .i64 1, .int .i64 1], .cells .last [.int .i64 1, .int .i64 0], .cells .last [.int .i64 0, .int .i64 2], .cells .last [.int .i64 0, .int .i64 0], .cells .grow [.slc 81 0 2 2 1 false, .slc 80 0 2 2 1 false, .int .u8 0, .int .i64 0, .slc 79 0 2 2 1 false, .slc 78 0 2 2 1 false, .int .u8 0, .int .i64 0, .slc 77 0 2 2 1 false, .slc 76 0 2 2 1 false, .int .u8 1, .int .i64 0], .cells .own [.int .i64 2], .cells .own [.int .u8 3, .int .i64 0, .int .i64 0, .int .i64 0, .int .i64 0, .int .u8 3, .int .i64 0, .int .i64 0, .int .i64 0, .int .i64 1, .int .u8 10, .int .i64 0, .int .i64 1, .int .i64 0, .int .i64 0], .cells .own [.str ⟨#[100]⟩, .int .i64 1, .int .i64 2, .str ⟨#[101]⟩, .int .i64 0, .int .i64 2], .cells .last [.int .i64 1, .int .i64 2], .cells .last [.int .i64 1, .int .i64 2], .cells .last [.int .i64 1, .int .i64 1], .cells .last [.int .i64 1, .int .i64 1], .cells .last [.int .i64 1, .int .i64 0], .cells .last [.int .i64 1, .int .i64 0], .cells .last [.int .i64 0, .int .i64 2], .cells .last [.int .i64 0, .int .i64 2], .cells .last [.int .i64 0, .int .i64 1], .cells .last [.int .i64 0, .int .i64 1], .cells .last [.int .i64 0, .int .i64 0], .cells .last [.int .i64 0, .int .i64 0], .cells .grow [.slc 97 0 2 2 1 false, .slc 96 0 2 2 1 false, .int .u8 1, .int .i64 0, .slc 95 0 2 2 1 false, .slc 94 0 2 2 1 false, .int .u8 0, .int .i64 1, .slc 93 0 2 2 1 false, .slc 92 0 2 2 1 false, .int .u8 0, .int .i64 0, .slc 91 0 2 2 1 false, .slc 90 0 2 2 1 false, .int .u8 1, .int .i64 0, .slc 89 0 2 2 1 false, .slc 88 0 2 2 1 false, .int .u8 0, .int .i64 2, .slc 87 0 2 2 1 false, .slc 86 0 2 2 1 false, .int .u8 0, .int .i64 1], .cells .own [.slc 98 0 6 6 4 false], .cells .own [.int .i64 1, .int .i64 2], .cells .own [.int .i64 1, .int .i64 2], .cells .own [.int .i64 1, .int .i64 1], .cells .own [.int .i64 1, .int .i64 1], .cells .own [.int .i64 1, .int .i64 0], .cells .own [.int .i64 1, .int .i64 0], .cells .own [.int .i64 0, .int .i64 2], .cells .own [.int .i64 0, .int .i64 0], .cells .own [.slc 107 0 2 2 1 true, .slc 106 0 2 2 1 true, .int .u8 0, .int .i64 5, .slc 105 0 2 2 1 true, .slc 104 0 2 2 1 true, .int .u8 0, .int .i64 5, .slc 103 0 2 2 1 true, .slc 102 0 2 2 1 true, .int .u8 0, .int .i64 7, .slc 101 0 2 2 1 true, .slc 100 0 2 2 1 true, .int .u8 1, .int .i64 0], .cells .own [.int .i64 2, .int .i64 3], .cells .own [.int .i64 1, .int .i64 0], .cells .own [.int .u8 0, .int .i64 5, .int .u8 0, .int .i64 5, .int .u8 0, .int .i64 5, .int .u8 0, .int .i64 5, .int .u8 0, .int .i64 8, .int .u8 1, .int .i64 0], .cells .grow [.int .i64 (-1), .int .i64 0, .int .i64 1], .cells .grow [.int .i64 (-1), .int .i64 (-3)], .cells .grow [.int .i64 (-1), .int .i64 (-2)], .cells .grow [.int .i64 0, .slc 114 0 2 2 1 false, .int .i64 0, .slc 113 0 2 2 1 false, .int .i64 1, .slc 112 0 3 3 1 false], .cells .grow [.int .u8 0, .int .i64 5, .int .u8 0, .int .i64 8, .int .u8 1, .int .i64 0], .cells .own [.int .i64 1, .int .i64 0], .cells .own [.int .i64 2, .int .i64 3], .cells .own [.int .i64 1, .int .i64 1], .cells .own [.int .i64 2, .int .i64 3], .cells .own [.int .i64 1, .int .i64 2], .cells .own [.int .i64 1, .int .i64 2], .cells .own [.int .i64 1, .int .i64 1], .cells .own [.int .i64 1, .int .i64 1], .cells .own [.int .i64 0, .int .i64 2], .cells .own [.int .i64 0, .int .i64 1], .cells .own [.int .i64 1, .int .i64 0], .cells .own [.int .i64 0, .int .i64 0], .cells .own [.slc 128 0 2 2 1 true, .slc 127 0 2 2 1 true, .int .u8 0, .int .i64 5, .slc 126 0 2 2 1 true, .slc 125 0 2 2 1 true, .int .u8 0, .int .i64 5, .slc 124 0 2 2 1 true, .slc 123 0 2 2 1 true, .int .u8 0, .int .i64 7, .slc 122 0 2 2 1 true, .slc 121 0 2 2 1 true, .int .u8 1, .int .i64 0], .cells .own [.int .i64 1, .int .i64 2]], []⟩
theorem Awr1 : runH Tryz.prog T0 (apF Tryz.prog T0 4096 60) 4096 16 (ntF Tryz.prog 16) 4 (bdF Tryz.prog 16) ⟨[], [], [], []⟩ = some Aw1 := by kernel_rfl
theorem Awr2 : runH Tryz.prog T0 (apF Tryz.prog T0 4096 60) 4096 16 (ntF Tryz.prog 16) 3 (tlN 4 (bdF Tryz.prog 16)) Aw1 = some Aw2 := by kernel_rfl
theorem Awr3 : runH Tryz.prog T0 (apF Tryz.prog T0 4096 60) 4096 16 (ntF Tryz.prog 16) 1 (tlN 3 (tlN 4 (bdF Tryz.prog 16))) Aw2 = some Aw3 := by kernel_rfl
theorem Awr4 : runH Tryz.prog T0 (apF Tryz.prog T0 4096 60) 4096 16 (ntF Tryz.prog 16) 1 (tlN 1 (tlN 3 (tlN 4 (bdF Tryz.prog 16)))) Aw3 = some Aw4 := by kernel_rfl
theorem Awr5 : runH Tryz.prog T0 (apF Tryz.prog T0 4096 60) 4096 16 (ntF Tryz.prog 16) 1 (tlN 1 (tlN 1 (tlN 3 (tlN 4 (bdF Tryz.prog 16))))) Aw4 = some Aw5 := by kernel_rfl
theorem Aw_end : endT Tryz.prog 16 (execF Tryz.prog T0 (apF Tryz.prog T0 4096 60) 4096 16 false 0 (ntF Tryz.prog 16) (tlN 1 (tlN 1 (tlN 1 (tlN 3 (tlN 4 (bdF Tryz.prog 16)))))) Aw5) = true := by kernel_rfl
theorem Aw_ok : isT (funF Tryz.prog T0 (apF Tryz.prog T0 4096 60) 4096 16 [] []) = true := endT_ok (runH_ok Awr1 (runH_ok Awr2 (runH_ok Awr3 (runH_ok Awr4 (runH_ok Awr5 (Eq.refl (execF Tryz.prog T0 (apF Tryz.prog T0 4096 60) 4096 16 false 0 (ntF Tryz.prog 16) (tlN 1 (tlN 1 (tlN 1 (tlN 3 (tlN 4 (bdF Tryz.prog 16)))))) Aw5))))))) Aw_end
end Go.Proofs.YtmefgijobonklaaGreat
