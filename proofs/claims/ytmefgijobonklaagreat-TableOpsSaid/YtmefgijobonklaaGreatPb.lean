/- Part 2 of a proof: The statement TableOps: any operation on any tables gives what the document says, or the error is (sizes and tables within the statement's bounds, at most 4 tables). -/
import Derived.Scope
import Derived.Deep.Slices
import Derived.ChangeArms
import Derived.Carry
import Derived.Laws.StructEq
import Derived.Test.YtmefgijobonklaaGreatPa
set_option linter.unusedVariables false
set_option linter.unusedSimpArgs false
set_option linter.unusedSectionVars false
namespace Tw
open Go
section
variable {P : Program} {call : CallT} {site : Nat → Bool} {nt : Nat} {ops : Array Oper} {M0 : Mp} {h0 : List HB} {w0 : World} {S : Nat → St} {I : Nat → Inf}
variable {D : Nat → Prop} {M : Mp} {a : Act} {w : World} {i : Nat} {oi : Oper}
theorem Inv.alloc_none (hZ : Sched P call site nt ops M0 h0 w0 S I) (h : Inv nt ops M0 h0 w0 S I D M a w) {j : Nat} {o : Oper} (hj : ops[j]? = some o) (hd : ¬ D j) {k : Key} (h1 : (S j).get k = none) (h2 : ((S (j + 1)).get k).isSome = true) : M k = none := by
 cases hm : M k with
 | none => rfl
 | some l =>
  obtain ⟨τ, ht, hg, b, h3, _⟩ := h.mem k l hm
  have hlj : j < ops.size := (Array.getElem?_eq_some_iff.1 hj).1
  by_cases hle : τ ≤ j
  ·have := hZ.mono hle (by omega) (k := k) (by simp [h3])
   simp [h1] at this
  ·exact absurd (hg.2.1 j (by omega) ⟨o, hj, .inr ⟨h1, h2⟩⟩) hd
theorem Inv.noconf (hZ : Sched P call site nt ops M0 h0 w0 S I) (h : Inv nt ops M0 h0 w0 S I D M a w) (hi : ops[i]? = some oi) (hnd : ¬ D i) (hw : Waits D oi) {k : Key} {l : Lc} (hk : M k = some l)
  (hs : ((S i).get k).isSome = true) (ht : touches (I i) k) : ∀ j, Wk ops S I k j → ¬ Conf D i j := by
 intro j hwk hc
 have hlj := hwk.lt
 obtain ⟨oj, hj, h1 | ⟨h1, h2⟩⟩ := hwk
 ·exact (h.conf hZ hi hj hnd hw hc).1 k h1 ht
 ·rcases hc with ⟨hlt, hd⟩ | ⟨hlt, hd⟩
  ·have := h.alloc_none hZ hj hd h1 h2
   rw [hk] at this; cases this
  ·have := hZ.mono (k := k) (Nat.le_of_lt hlt) (by omega) hs
   simp [h1] at this
theorem Inv.cur (hZ : Sched P call site nt ops M0 h0 w0 S I) (h : Inv nt ops M0 h0 w0 S I D M a w) (hi : ops[i]? = some oi) (hnd : ¬ D i) (hw : Waits D oi) {k : Key} {l : Lc} (hk : M k = some l)
  (hs : ((S i).get k).isSome = true) (ht : touches (I i) k) : ∃ b, (S i).get k = some b ∧ okBlk (resM M (S i).get).h w b l ∧ (wr b = true → ∀ k' l', k ≠ k' → M k' = some l' → ∀ c ∈ cblocks l, c ∉ cblocks l') := by
 have hli : i < ops.size := (Array.getElem?_eq_some_iff.1 hi).1
 obtain ⟨τ, hτ, hg, b, h1, h2, h3⟩ := h.mem k l hk
 obtain ⟨g1, g2⟩ := hg.le hnd (h.noconf hZ hi hnd hw hk hs ht)
 refine ⟨b, ?_, h2.mono (resM_mle (.refl M) fun k' hk' => hZ.mono g1 (by omega) hk').h fun _ _ => rfl, h3⟩
 rw [hZ.const g1 (by omega) g2, h1]
theorem Inv.slot_at (hZ : Sched P call site nt ops M0 h0 w0 S I) (h : Inv nt ops M0 h0 w0 S I D M a w) (hi : ops[i]? = some oi) (hnd : ¬ D i) (hw : Waits D oi) {t : Nat} (ht : t ∈ oi.looksAt ops) {e : EV}
  (he : lookE t (S i).env = some e) : ER (resM M (S i).get) e (a.tmps.getD t Go.undef) := by
 have hli : i < ops.size := (Array.getElem?_eq_some_iff.1 hi).1
 obtain ⟨τ, hτ, hg, h1⟩ := h.slot t
 obtain ⟨g1, g2⟩ := hg.le hnd fun j hwt hc => by
  obtain ⟨oj, hj, hd⟩ := hwt
  exact (Oper.apart_spec (h.conf hZ hi hj hnd hw hc).2.2.1).1 t hd ht
 rw [hZ.constT g1 (by omega) g2] at he
 exact (h1 e he).mono (resM_mle (.refl M) fun k' hk' => hZ.mono g1 (by omega) hk') fun k l hk => by
  obtain ⟨x1, x2⟩ := resM_some hk
  exact resM_of (hZ.mono g1 (by omega) x1) x2
def plusM (M' M : Mp) : Mp := fun k => match M' k with
 | some l => some l
 | none => M k
theorem inv_step (hC : CallOk P call) (hZ : Sched P call site nt ops M0 h0 w0 S I) (h : Inv nt ops M0 h0 w0 S I D M a w) (hi : ops[i]? = some oi) (hnd : ¬ D i) (hw : Waits D oi)
  {r : Option Nat} {n : Nat} {Q : Exit → Act → World → Prop} {K : Act → World → Prop} (hK : ∀ M' a' w', Inv nt ops M0 h0 w0 S I (fun j => D j ∨ j = i) M' a' w' → a'.defers = a.defers → K a' w') :
  wpOpIn (wideAt r) n P ops Q i K a w := by
 have hli : i < ops.size := (Array.getElem?_eq_some_iff.1 hi).1
 have hS := hZ.step i oi hi
 have hV : Valid (resM M (S i).get) (touches (I i)) (S i).get w := by
  refine ⟨fun k l hk ht => ?_, fun k k' l l' b hne hk hk' ht hb hwr => ?_, fun k l hk => h.inb k l (resM_some hk).2⟩
  ·obtain ⟨x1, x2⟩ := resM_some hk
   obtain ⟨b, h1, h2, _⟩ := h.cur hZ hi hnd hw x2 x1 ht
   exact ⟨b, h1, h2⟩
  ·obtain ⟨x1, x2⟩ := resM_some hk
   obtain ⟨b', h1, _, h3⟩ := h.cur hZ hi hnd hw x2 x1 ht
   rw [hb] at h1; cases h1
   exact h3 hwr k' l' hne (resM_some hk').2
 have hnh : resM M (S i).get (.h (S i).heap.length) = none := by simp [resM, St.get]
 have hnl : resM M (S i).get (.l (S i).loc.length) = none := by simp [resM, St.get]
 have hloc : ∀ j l, resM M (S i).get (.l j) = some l → ∀ k' l', Key.l j ≠ k' → resM M (S i).get k' = some l' → ∀ c ∈ cblocks l, c ∉ cblocks l' := by
  intro j l hj k' l' hne hk'
  obtain ⟨τ, _, _, b, h1, _, h3⟩ := h.mem _ _ (resM_some hj).2
  refine h3 ?_ k' l' hne (resM_some hk').2
  simp only [St.get, Option.map_eq_some_iff] at h1
  obtain ⟨_, _, rfl⟩ := h1
  rfl
 have hE : EnvOn (resM M (S i).get) (S i).env a oi.op.operands := by
  intro x hx e he
  cases x with
  | tmp t => exact h.slot_at hZ hi hnd hw (List.mem_append_left _ (List.mem_filterMap.2 ⟨.tmp t, by simpa using hx, rfl⟩)) he
  | const v =>
   simp only [evO, Option.map_eq_some_iff] at he
   obtain ⟨t, h1, rfl⟩ := he
   exact .val (.of_ofV h1)
  | func f =>
   simp only [evO, Option.some.injEq] at he; subst he
   exact .val (VR.fn (xs := []) (ys := []) rfl (by simp) rfl (by simp))
  | global g => simp [evO] at he
 have hG : GuardOn (resM M (S i).get) (S i).env a.tmps ops oi := by
  intro j want d hg hd e he
  exact h.slot_at hZ hi hnd hw (List.mem_append_right _ (by simp [hg, hd])) he
 refine (step_ok hC hS hV hnh hnl hloc hE hG fun _ ht _ => ht).2 r n Q i K hi fun x w' hst => ?_
 obtain ⟨v, M', he, hp⟩ := hst
 have hX := hp.ext
 have F1 : ∀ k l, M' k = some l → ((S (i + 1)).get k).isSome = true := by
  intro k l hk
  cases hc : (S (i + 1)).get k with
  | some b => rfl
  | none =>
   have hn : k ∉ (I i).ws := fun hin => by
    have := hX.has k (hX.wsub k hin)
    simp [hc] at this
   have := hX.keepM k (.inr hc) hn
   rw [hk] at this
   have := hX.has k (resM_some this.symm).1
   simp [hc] at this
 have F5 : ∀ k l l', M k = some l → M' k = some l' → ((S i).get k).isSome = true := by
  intro k l l' hk hk'
  cases hc : (S i).get k with
  | some b => rfl
  | none =>
   have := h.alloc_none hZ hi hnd hc (F1 k l' hk')
   rw [hk] at this; cases this
 have F4 : Mle M (plusM M' M) := by
  intro k l hk
  cases hm : M' k with
  | none => exact ⟨l, by simp [plusM, hm, hk], .refl l⟩
  | some l' =>
   obtain ⟨l'', h1, h2⟩ := hX.mle k l (resM_of (F5 k l l' hk hm) hk)
   exact ⟨l'', by simp [plusM, h1], h2⟩
 have F2 : ∀ k, ¬ Wk ops S I k i → plusM M' M k = M k := by
  intro k hn
  cases hm : M' k with
  | none => simp [plusM, hm]
  | some l' =>
   cases hc : (S i).get k with
   | none =>
    exact absurd ⟨oi, hi, .inr ⟨hc, F1 k l' hm⟩⟩ hn
   | some b =>
    have h1 := hX.keepM k (.inl (by simp [hc])) fun hin => hn ⟨oi, hi, .inl hin⟩
    rw [hm] at h1
    simp only [plusM, hm, (resM_some h1.symm).2]
 have F6 : Mle M' (resM (plusM M' M) (S (i + 1)).get) := fun k l hk => ⟨l, resM_of (F1 k l hk) (by simp [plusM, hk]), .refl l⟩
 have F7 : ∀ k l, M (.l k) = some l → plusM M' M (.l k) = some l := by
  intro k l hk
  cases hm : M' (.l k) with
  | none => simp [plusM, hm, hk]
  | some l' =>
   have := hp.loc k l (resM_of (F5 _ l l' hk hm) hk)
   simp [plusM, this]
 have hcurW : ∀ k ∈ (I i).ws, ∀ l, M k = some l → ∀ k' l', k ≠ k' → M k' = some l' → ∀ c ∈ cblocks l, c ∉ cblocks l' := by
  intro k hk l hl
  have hs := hX.wsub k hk
  obtain ⟨b, h1, _, h3⟩ := h.cur hZ hi hnd hw hl hs (.inr (.inl hk))
  exact h3 ((hX.wrote k hk).2 b h1)
 have hWM : ∀ k l, Wk ops S I k i → plusM M' M k = some l → M' k = some l ∧ (touches (I i) k ∨ ((S i).get k = none ∧ ((S (i + 1)).get k).isSome = true)) := by
  intro k l hW hk
  obtain ⟨o, ho, h1 | ⟨h1, h2⟩⟩ := hW
  ·obtain ⟨l0, hl0⟩ := Option.isSome_iff_exists.1 (hX.wrote k h1).1
   obtain ⟨l', h2, _⟩ := hX.mle k l0 hl0
   simp only [plusM, h2] at hk
   exact ⟨h2.trans hk, .inl (.inr (.inl h1))⟩
  ·have := h.alloc_none hZ hi hnd h1 h2
   cases hm : M' k with
   | none => simp [plusM, hm, this] at hk
   | some l' => simp only [plusM, hm] at hk; exact ⟨hk, .inr ⟨h1, h2⟩⟩
 have hncW : ∀ k, Wk ops S I k i → ∀ j, Wk ops S I k j → ¬ Conf D i j := by
  intro k hW
  obtain ⟨o, ho, h1 | ⟨h1, h2⟩⟩ := hW
  ·obtain ⟨l0, hl0⟩ := Option.isSome_iff_exists.1 (hX.wrote k h1).1
   exact h.noconf hZ hi hnd hw (resM_some hl0).2 (hX.wsub k h1) (.inr (.inl h1))
  ·intro j hwk hc
   have hlj := hwk.lt
   obtain ⟨oj, hj, g1 | ⟨g1, g2⟩⟩ := hwk
   ·have hsj := hZ.wsub hj g1
    rcases hc with ⟨hlt, hd⟩ | ⟨hlt, hd⟩
    ·have := hZ.mono (k := k) (Nat.le_of_lt hlt) (by omega) hsj
     simp [h1] at this
    ·have := h.wdone j oj k hj hd g1
     rw [h.alloc_none hZ hi hnd h1 h2] at this
     cases this
   ·rcases hc with ⟨hlt, hd⟩ | ⟨hlt, hd⟩
    ·have := hZ.mono (k := k) (i := j + 1) (j := i) hlt (by omega) g2
     simp [h1] at this
    ·have := hZ.mono (k := k) (i := i + 1) (j := j) hlt (by omega) h2
     simp [g1] at this
 refine hK (plusM M' M) _ w' ?_ defers_put
 refine
  {closed := fun j o ho hd e hm hb => ?_
   size := by rw [size_put]; exact h.size
   mem := fun k l hk => ?_
   inb := fun k l hk c hc => ?_
   slot := fun t => ?_
   wdone := fun j o k ho hd hk => ?_
   mle := h.mle.trans F4
   frame := fun c hc hf => ?_
   keepM := fun k hk hn => ?_
   fresh := fun k l hk c hc hlt => ?_
   hsize := Nat.le_trans h.hsize hX.size
   os := hX.os.trans h.os
   output := hX.output.trans h.output
   tape := hX.tape.trans h.tape
   marks := fun d hd => by
    rw [defers_put] at hd
    obtain ⟨k, r, h1, h2, h3, h4, h5⟩ := h.marks d hd
    obtain ⟨l', g1, g2⟩ := F4 _ _ h3
    have hl : l' = .obj r := by
     cases l' with
     | cells ls => exact g2.elim
     | obj r' => cases g2; rfl
    refine ⟨k, r, h1, h2, by rw [g1, hl], h4, ?_⟩
    rw [hX.frame r (Array.getElem?_eq_some_iff.1 h5).1 fun k' hk' l0 hl0 hc => ?_, h5]
    have hne : k' ≠ .h k := fun e => by
     have := (hX.wrote _ hk').2 _ (e ▸ h4 i (by omega))
     cases this
    exact hcurW k' hk' l0 (resM_some hl0).2 _ _ hne h3 r hc (by simp [cblocks])
   apart := by rw [defers_put]; exact h.apart }
 ·rcases hd with hd | rfl
  ·exact .inl (h.closed j o ho hd e hm hb)
  ·rw [hi] at ho; cases ho
   exact .inl (hw e hm hb)
 ·by_cases hW : Wk ops S I k i
  ·obtain ⟨hm, hD⟩ := hWM k l hW hk
   obtain ⟨b, h1, h2⟩ := hp.val.ok k l hm hD
   refine ⟨i + 1, by omega, Good.next hW (hncW k hW), b, h1, h2.mono F6.h fun _ _ => rfl, fun hwr k' l' hne hk' => ?_⟩
   cases hm' : M' k' with
   | some l'' =>
    simp only [plusM, hm'] at hk'
    cases hk'
    exact hp.val.own k k' l l' b hne hm hm' hD h1 hwr
   | none =>
    simp only [plusM, hm'] at hk'
    intro c hc hc'
    obtain ⟨l0, g1, g2⟩ := hX.fresh k l hm c hc (h.inb k' l' hk' c hc')
    obtain ⟨g3, g4⟩ := resM_some g1
    obtain ⟨o, ho, g5 | ⟨g5, _⟩⟩ := hW
    ·exact hcurW k g5 l0 g4 k' l' hne hk' c g2 hc'
    ·simp [g5] at g3
  ·rw [F2 k hW] at hk
   obtain ⟨τ, hτ, hg, b, h1, h2, h3⟩ := h.mem k l hk
   refine ⟨τ, hτ, hg.other hW, b, h1, h2.mono (resM_mle F4 fun _ hs => hs).h fun c hc => ?_, fun hwr k' l' hne hk' => ?_⟩
   ·refine hX.frame c (h.inb k l hk c hc) fun k'' hk'' l'' hl'' hc'' => ?_
    have hne : k'' ≠ k := fun e => hW ⟨oi, hi, .inl (e ▸ hk'')⟩
    exact hcurW k'' hk'' l'' (resM_some hl'').2 k l hne hk c hc'' hc
   ·cases hm' : M' k' with
    | some l'' =>
     simp only [plusM, hm'] at hk'
     cases hk'
     intro c hc hc'
     obtain ⟨l0, g1, g2⟩ := hX.fresh k' l' hm' c hc' (h.inb k l hk c hc)
     exact h3 hwr k' l0 hne (resM_some g1).2 c hc g2
    | none =>
     simp only [plusM, hm'] at hk'
     exact h3 hwr k' l' hne hk'
 ·cases hm : M' k with
  | some l' =>
   simp only [plusM, hm] at hk
   cases hk
   exact hp.val.inb k l hm c hc
  | none =>
   simp only [plusM, hm] at hk
   exact Nat.lt_of_lt_of_le (h.inb k l hk c hc) hX.size
 ·by_cases hT : oi.dst = some t
  ·refine ⟨i + 1, by omega, Good.next (W := Wt ops t) ⟨oi, hi, hT⟩ (fun j hwt hc => ?_), fun e hl => ?_⟩
   ·obtain ⟨oj, hj, hd⟩ := hwt
    exact (Oper.apart_spec (h.conf hZ hi hj hnd hw hc).2.2.2).2.1 t hT hd
   ·rw [he, lookE_put, if_pos hT] at hl
    cases hl
    have h1 := hS.dst hT
    have h2 := h.size
    rw [getD_put, if_pos ⟨hT, by omega⟩]
    exact hp.er.mono F6 fun k l hk => resM_of (F1 _ l hk) (by simp [plusM, hk])
  ·obtain ⟨τ, hτ, hg, h1⟩ := h.slot t
   refine ⟨τ, hτ, hg.other fun ⟨o, ho, hd⟩ => ?_, fun e hl => ?_⟩
   ·rw [hi] at ho; cases ho; exact hT hd
   ·rw [getD_put, if_neg fun hh => hT hh.1]
    refine (h1 e hl).mono (resM_mle F4 fun _ hs => hs) fun k l hk => ?_
    obtain ⟨g1, g2⟩ := resM_some hk
    exact resM_of g1 (F7 k l g2)
 ·have hM : ∀ k, (M k).isSome = true → (plusM M' M k).isSome = true := by
   intro k hk
   obtain ⟨l, hl⟩ := Option.isSome_iff_exists.1 hk
   obtain ⟨l', h1, _⟩ := F4 k l hl
   simp [h1]
  rcases hd with hd | rfl
  ·exact hM k (h.wdone j o k ho hd hk)
  ·obtain ⟨l0, hl0⟩ := Option.isSome_iff_exists.1 (hX.wrote k hk).1
   exact hM k (by simp [(resM_some hl0).2])
 ·rw [← h.frame c hc hf]
  refine hX.frame c (Nat.lt_of_lt_of_le hc h.hsize) fun k hk l hl hcl => ?_
  obtain ⟨l0, h1, h2⟩ := h.fresh k l (resM_some hl).2 c hcl hc
  exact hf k (hZ.ws_in hi hk (hZ.base.val.has h1)) l0 h1 h2
 ·rw [← h.keepM k hk hn]
  refine F2 k fun hW => ?_
  obtain ⟨o, ho, h1 | ⟨h1, h2⟩⟩ := hW
  ·rcases hk with hk | hk
   ·exact hn (hZ.ws_in hi h1 hk)
   ·have := hZ.mono (k := k) (i := i) (Nat.le_of_lt hli) (Nat.le_refl _) (hX.wsub k h1)
    simp [hk] at this
  ·rcases hk with hk | hk
   ·have := hZ.old (Nat.le_of_lt hli) hk
    simp [h1] at this
   ·have := hZ.mono (k := k) (i := i + 1) hli (Nat.le_refl _) h2
    simp [hk] at this
 ·cases hm : M' k with
  | some l' =>
   simp only [plusM, hm] at hk
   cases hk
   obtain ⟨l0, h1, h2⟩ := hX.fresh k l hm c hc (Nat.lt_of_lt_of_le hlt h.hsize)
   exact h.fresh k l0 (resM_some h1).2 c h2 hlt
  | none =>
   simp only [plusM, hm] at hk
   exact h.fresh k l hk c hc hlt
def und (listed : Array Bool) : Nat → Nat
 | 0 => 0
 | k + 1 => und listed k + if listed.getD k false = true then 0 else 1
theorem und_le (listed : Array Bool) : ∀ k, und listed k ≤ k
 | 0 => Nat.le_refl _
 | k + 1 => by have := und_le listed k; simp only [und]; split <;> omega
theorem und_zero {listed : Array Bool} : ∀ {k : Nat}, und listed k = 0 → ∀ j, j < k → listed.getD j false = true
 | 0, _, j, hj => by omega
 | k + 1, h, j, hj => by
  simp only [und] at h
  by_cases he : j = k
  ·subst he
   split at h
   ·assumption
   ·omega
  ·exact und_zero (k := k) (by omega) j (by omega)
theorem getD_set {listed : Array Bool} {i : Nat} (hi : i < listed.size) (j : Nat) : (listed.setIfInBounds i true).getD j false = if j = i then true else listed.getD j false := by
 simp only [Array.getD_eq_getD_getElem?, Array.getElem?_setIfInBounds]
 by_cases h : i = j
 ·subst h; simp [hi]
 ·simp [h, Ne.symm h]
theorem und_set {listed : Array Bool} {i : Nat} (hi : i < listed.size) (hn : listed.getD i false = false) : ∀ k, und (listed.setIfInBounds i true) k + (if i < k then 1 else 0) = und listed k
 | 0 => by simp [und]
 | k + 1 => by
  have ih := und_set hi hn k
  simp only [und, getD_set hi]
  by_cases he : k = i
  ·subst he
   simp only [if_true, hn]
   simp at ih ⊢
   omega
  ·simp only [he, if_false]
   by_cases hlt : i < k
   ·rw [if_pos hlt] at ih
    rw [if_pos (by omega : i < k + 1)]
    omega
   ·rw [if_neg hlt] at ih
    rw [if_neg (by omega : ¬ i < k + 1)]
    omega
theorem ready_spec {listed : Array Bool} (hsz : listed.size = ops.size) {i : Nat} : i ∈ Region.ready .any ops listed ↔ ∃ o, ops[i]? = some o ∧ listed.getD i false = false ∧ Waits (fun j => listed.getD j false = true) o := by
 simp only [Region.ready, List.mem_filter, List.mem_range, Bool.and_eq_true]
 constructor
 ·rintro ⟨h1, h2, h3⟩
  refine ⟨ops[i], Array.getElem?_eq_getElem h1, ?_, ?_⟩
  ·have hl : i < listed.size := by omega
   simp only [Array.getD, hl, dite_true] at h2 ⊢
   simpa using h2
  ·intro e he hb
   rw [Array.getElem?_eq_getElem h1] at h3
   simp only [Option.map_some, Option.getD_some, Array.all_eq_true_iff_forall_mem] at h3
   have := h3 e he
   simpa [hb] using this
 ·rintro ⟨o, ho, h2, h3⟩
  have h1 : i < ops.size := (Array.getElem?_eq_some_iff.1 ho).1
  refine ⟨h1, ?_, ?_⟩
  ·have hl : i < listed.size := by omega
   simp only [Array.getD, hl, dite_true] at h2 ⊢
   simpa using h2
  ·rw [ho]
   simp only [Option.map_some, Option.getD_some, Array.all_eq_true_iff_forall_mem]
   intro e he
   cases hb : Region.binds .any e with
   | false => rfl
   | true => simpa using h3 e he hb
theorem any_ok (hC : CallOk P call) (hZ : Sched P call site nt ops M0 h0 w0 S I) {r : Option Nat} {n : Nat} {Q : Exit → Act → World → Prop} {ds : List Deferred}
  (hQ : ∀ M' a' w', Rel M0 h0 w0 nt M' (S ops.size) a' w' → a'.defers = ds → Q .normal a' w') : ∀ (fuel : Nat) (listed : Array Bool) (M : Mp) (a : Act) (w : World), listed.size = ops.size →
  Inv nt ops M0 h0 w0 S I (fun j => listed.getD j false = true) M a w → und listed ops.size ≤ fuel → a.defers = ds → wpAnyIn (wideAt r) n P .any ops Q fuel listed a w := by
 intro fuel
 have hall : ∀ (listed : Array Bool), listed.size = ops.size → Region.ready .any ops listed = [] → ∀ j, j < ops.size → listed.getD j false = true := by
  intro listed hsz hr j
  induction j using Nat.strongRecOn with
  | _ j ih =>
   intro hj
   cases hd : listed.getD j false with
   | true => rfl
   | false =>
    have : j ∈ Region.ready .any ops listed := (ready_spec hsz).2 ⟨ops[j], Array.getElem?_eq_getElem hj, hd, fun e he hb => by
     have hlt := static_acyc hZ.stat (i := j) (o := ops[j]) (by simp) he hb
     exact ih e.on hlt (by omega)⟩
    rw [hr] at this; cases this
 induction fuel with
 | zero =>
  intro listed M a w hsz hI hu hd
  have hz := und_zero (Nat.le_zero.1 hu)
  refine ⟨?_, hQ M a w (inv_end hZ hI hz) hd⟩
  refine List.eq_nil_iff_forall_not_mem.2 fun i hi => ?_
  obtain ⟨o, ho, h1, _⟩ := (ready_spec hsz).1 hi
  rw [hz i (Array.getElem?_eq_some_iff.1 ho).1] at h1
  cases h1
 | succ fuel ih =>
  intro listed M a w hsz hI hu hd
  refine ⟨fun hr => hQ M a w (inv_end hZ hI (hall listed hsz hr)) hd, fun i hi => ?_⟩
  obtain ⟨o, ho, h1, h2⟩ := (ready_spec hsz).1 hi
  have hli : i < ops.size := (Array.getElem?_eq_some_iff.1 ho).1
  refine inv_step hC hZ hI ho (by simp [h1]) h2 fun M' a' w' hI' hd' => ih _ M' a' w' (by simp [hsz]) ?_ ?_ (hd'.trans hd)
  ·have : (fun j => (listed.setIfInBounds i true).getD j false = true) = fun j => listed.getD j false = true ∨ j = i := by
    funext j
    rw [getD_set (by omega)]
    by_cases he : j = i
    ·simp [he]
    ·simp [he]
   rw [this]; exact hI'
  ·have := und_set (listed := listed) (i := i) (by omega) h1 ops.size
   rw [if_pos hli] at this
   omega
theorem drawReg_ok (hC : CallOk P call) (hB : Base M0 h0 w0) (hm : P.follows .mixedOrders = true) {r : Option Nat} {n : Nat} {Q : Exit → Act → World → Prop} {id : Nat} {s s' : St} {is : List Inf} {M : Mp} {a : Act} {w : World}
  (h : runOps P call site h0.length nt ops ops.toList s = some (s', is)) (hs : staticOk ops.toList = true) (hd : dynOk is (hotPairs ops.toList) = true) (hR : Rel M0 h0 w0 nt M s a w)
  (hQ : ∀ M' a' w', Rel M0 h0 w0 nt M' s' a' w' → a'.defers = a.defers → Q .normal a' w') : (Code.region id ops true).wpIn (wideAt r) n P Q a w := by
 obtain ⟨S, I, e1, e2, hZ⟩ := sched_of hC hB h hR hs hd
 refine wpIn_region_any hm ?_
 have hR' : Rel M0 h0 w0 nt M (S 0) a { w with drawn := w.drawn + 1 } := by
  rw [e1]
  exact ⟨hR.val.of_heap rfl, hR.ext.drew rfl rfl rfl rfl, hR.env, hR.size, hR.marks, hR.apart⟩
 refine any_ok hC hZ (ds := a.defers) (fun M' a' w' hr hd => hQ M' a' w' (by rw [e2] at hr; exact hr) hd) ops.size _ M a _ (by simp) ?_ (und_le _ _) rfl
 have : (fun j => (Array.replicate ops.size false).getD j false = true) = fun _ => False := by
  funext j
  simp only [Array.getD_eq_getD_getElem?, Array.getElem?_replicate]
  split <;> simp
 rw [this]
 exact inv_start hZ hR'
end
end Tw
namespace Tw
open Go
theorem wpIn_scope {F : Fence} {n : Nat} {P : Program} {Q : Exit → Act → World → Prop} {a : Act} {w : World} {c : Code} (h : c.wpIn F n P (Exit.noGoto Q) a w) : (Code.scope c).wpIn F n P Q a w := by
 intro b k cs hro hb hr
 have h0 : (lone (b.atR a (.code (.scope c) :: k)) cs w).fenced P F := fenced_calm hb hr rfl
 have s0 : step P (lone (b.atR a (.code (.scope c) :: k)) cs w) = .next (lone (b.atR a (.code c :: .inScope c :: k)) cs w) := step_lone_go (by simp [stepG, stepG.exec, Frame.atR])
 have s1 : ∀ a1 w1, step P (lone (b.atR a1 (.inScope c :: k)) cs w1) = .next (lone (b.atR a1 k) cs w1) := fun a1 w1 => step_lone_go (by simp [stepG, stepG.exec, Frame.atR])
 obtain ⟨e, a₁, w₁, hq, harr⟩ := h b (.inScope c :: k) cs hro hb hr
 cases e with
 | normal => exact ⟨.normal, a₁, w₁, hq, .head h0 s0 (StepsIn.trans harr (.one (fenced_calm hb hr rfl) (s1 _ _)))⟩
 | exit id' =>
  have hx : exitTo id' (.inScope c :: k) = exitTo id' k := by simp [exitTo]
  exact ⟨.exit id', a₁, w₁, hq, fun k' hk => .head h0 s0 (harr.1 k' (by rw [hx]; exact hk)),
   fun hr' hk => let ⟨k₁, h1, h2⟩ := harr.2 hr' (by rw [hx]; exact hk); ⟨k₁, h1, .head h0 s0 h2⟩⟩
 | goto l => exact hq.elim
 | ret => exact ⟨_, a₁, w₁, hq, .of_steps (.one h0 s0) harr⟩
 | panic ch => exact ⟨_, a₁, w₁, hq, .of_steps (.one h0 s0) harr⟩
 | outgrown => exact ⟨_, a₁, w₁, hq, .of_steps (.one h0 s0) harr⟩
def exOf : Ex → Exit
 | .norm => .normal
 | .exit id => .exit id
 | .ret => .ret
theorem lookE_pick {t : Nat} {e : EV} {env : List (Nat × EV)} : ∀ {live : List Nat}, lookE t (pick live env) = some e → lookE t env = some e
 | [], h => by simp [pick, lookE] at h
 | x :: r, h => by
  simp only [pick] at h
  split at h
  ·rename_i v hv
   simp only [lookE] at h
   split at h
   ·rename_i hx; subst hx; rw [hv, h]
   ·exact lookE_pick h
  ·exact lookE_pick h
theorem top_lt {t k off : Nat} : ∀ {env : List (Nat × EV)}, lookE t env = some (.loc k off) → k < topL env
 | [], h => by simp [lookE] at h
 | (x, v) :: r, h => by
  simp only [lookE] at h
  split at h
  ·cases h
   simp only [topL]; omega
  ·have := top_lt h
   cases v <;> simp only [topL] <;> omega
section
variable {M0 : Mp} {h0 : List HB} {w0 : World} {nt : Nat} {M : Mp} {s : St} {a : Act} {w : World}
theorem Rel.pick (hR : Rel M0 h0 w0 nt M s a w) (live : List Nat) : Rel M0 h0 w0 nt M { s with env := Tw.pick live s.env } a w := by
 have hg : St.get { s with env := Tw.pick live s.env } = s.get := getEnv s _ _
 refine ⟨by rw [hg]; exact hR.val, by rw [hg]; exact hR.ext, fun t e h => hR.env t e (lookE_pick h), hR.size, ?_, hR.apart⟩
 rw [hg]; exact hR.marks
def topM (n : Nat) (M : Mp) : Mp
 | .h b => M (.h b)
 | .l j => if j < n then M (.l j) else none
theorem Rel.head (hB : Base M0 h0 w0) (hR : Rel M0 h0 w0 nt M s a w) (live : List Nat) : Rel M0 h0 w0 nt (topM (topL (Tw.pick live s.env)) M) (atHead live s) a w := by
 have hR := hR.pick live
 generalize he : Tw.pick live s.env = env at hR ⊢
 have hs : atHead live s = { s with env := env, loc := s.loc.take (topL env) } := by simp [atHead, he]
 rw [hs]
 have hsub : ∀ k l, topM (topL env) M k = some l → M k = some l := by
  intro k l h
  cases k with
  | h b => exact h
  | l j =>
   simp only [topM] at h
   split at h
   ·exact h
   ·cases h
 have hget : ∀ k l, topM (topL env) M k = some l → St.get { s with env := env, loc := s.loc.take (topL env) } k = St.get { s with env := env } k := by
  intro k l h
  cases k with
  | h b => rfl
  | l j =>
   simp only [topM] at h
   split at h
   ·rename_i hj
    simp [St.get, hj]
   ·cases h
 refine ⟨⟨?_, ?_, fun k l hk => hR.val.inb k l (hsub k l hk)⟩, ?_, ?_, hR.size, ?_, hR.apart⟩
 ·intro k l hk _
  obtain ⟨b, h1, h2⟩ := hR.val.ok k l (hsub k l hk) trivial
  exact ⟨b, by rw [hget k l hk]; exact h1, h2⟩
 ·intro k k' l l' b hne hk hk' _ hb hw
  rw [hget k l hk] at hb
  exact hR.val.own k k' l l' b hne (hsub k l hk) (hsub k' l' hk') trivial hb hw
 ·have hX := hR.ext
  have hk : ∀ k, (ctH h0 k).isSome = true → ∃ b, k = .h b := fun k h => let ⟨b, e, _⟩ := ctH_some h; ⟨b, e⟩
  exact
   {mle := fun k l h => by
     cases k with
     | l j => rw [hB.loc j] at h; cases h
     | h b => exact hX.mle _ _ h
    frame := hX.frame
    keep := fun k h hn => by obtain ⟨b, rfl⟩ := hk k h; exact hX.keep _ h hn
    keepM := fun k h hn => by
     cases k with
     | h b => exact hX.keepM (.h b) h hn
     | l j =>
      rw [hB.loc j]
      simp only [topM]
      split
      ·rename_i hj
       cases hm : M (.l j) with
       | none => rfl
       | some l =>
        have h1 := hR.val.has hm
        rcases h with h | h
        ·obtain ⟨b, hb⟩ := hk _ h; cases hb
        ·have := hget (.l j) l (by simp [topM, hj, hm])
         rw [h] at this
         rw [← this] at h1; cases h1
      ·rfl
    fresh := fun k l h => hX.fresh k l (hsub k l h)
    size := hX.size
    has := fun k h => by obtain ⟨b, rfl⟩ := hk k h; exact hX.has _ h
    wsub := hX.wsub
    wrote := hX.wrote
    os := hX.os
    output := hX.output
    tape := hX.tape }
 ·intro t e h
  have := hR.env t e h
  generalize a.tmps.getD t Go.undef = z at this
  cases this with
  | val hv => exact .val hv
  | undef => exact .undef
  | loc hm hb =>
   have hlt := top_lt (env := env) h
   exact .loc (by simp [topM, hlt, hm]) hb
 ·intro d hd
  obtain ⟨k, r, h1, h2, h3, h4, h5⟩ := hR.marks d hd
  exact ⟨k, r, h1, h2, h3, h4, h5⟩
theorem push_ok (hV : Valid M allK s.get w) (b : HB) (o : Obj) (hok : okBlk (updM M (.h s.heap.length) (.obj w.heap.size)).h (w.alloc o) b (.obj w.heap.size)) :
  Valid (updM M (.h s.heap.length) (.obj w.heap.size)) allK (St.get { s with heap := s.heap ++ [b] }) (w.alloc o) ∧
  Ext M s.get w (updM M (.h s.heap.length) (.obj w.heap.size)) (St.get { s with heap := s.heap ++ [b] }) (w.alloc o) [] ∧ M (.h s.heap.length) = none := by
 have hget : s.get (.h s.heap.length) = none := by simp [St.get]
 have hnh : M (.h s.heap.length) = none := by
  cases h : M (.h s.heap.length) with
  | none => rfl
  | some l => have := hV.has h; simp [hget] at this
 have hle : Mle M (updM M (.h s.heap.length) (.obj w.heap.size)) := updM_le fun l0 h0 => by rw [hnh] at h0; cases h0
 have hframe : ∀ c, c < w.heap.size → c ∉ cblocks (.obj w.heap.size) → (w.alloc o).heap[c]? = w.heap[c]? := fun c hc _ => allocOld w _ c hc
 have hnew : ∀ c ∈ cblocks (.obj w.heap.size), (∃ l0, M (.h s.heap.length) = some l0 ∧ c ∈ cblocks l0) ∨ w.heap.size ≤ c := fun c hc => .inr (by simp [cblocks] at hc; omega)
 rw [get_push]
 exact ⟨hV.upd _ _ _ (fun j _ => .inl trivial) (fun l0 h0 => by rw [hnh] at h0; cases h0) hframe hnew (by simp) hok,
  Ext.upd _ _ _ [] (.inr ⟨hget, hnh, rfl⟩) hle hframe hnew (by simp) rfl rfl rfl, hnh⟩
theorem objset_ok (hV : Valid M allK s.get w) {k r : Nat} {b b' : HB} {o' : Obj} (hm : M (.h k) = some (.obj r)) (hb : s.heap[k]? = some b) (hw : wr b = true)
  (hok : okBlk M.h { w with heap := w.heap.setIfInBounds r o' } b' (.obj r)) :
  Valid M allK (St.get { s with heap := s.heap.set k b' }) { w with heap := w.heap.setIfInBounds r o' } ∧
  Ext M s.get w M (St.get { s with heap := s.heap.set k b' }) { w with heap := w.heap.setIfInBounds r o' } [.h k] := by
 have hg : s.get (.h k) = some b := by simp [St.get, hb]
 have hbl := (List.getElem?_eq_some_iff.1 hb).1
 have hself : updM M (.h k) (.obj r) = M := updM_self hm
 have hframe : ∀ c, c < w.heap.size → c ∉ cblocks (.obj r) → (w.heap.setIfInBounds r o')[c]? = w.heap[c]? := fun c _ hc => by
  rw [Array.getElem?_setIfInBounds, if_neg (by simp [cblocks] at hc; omega)]
 have hnew : ∀ c ∈ cblocks (.obj r), (∃ l0, M (.h k) = some l0 ∧ c ∈ cblocks l0) ∨ w.heap.size ≤ c := fun c hc => .inl ⟨_, hm, hc⟩
 rw [get_set s k _ hbl]
 constructor
 ·have := hV.upd (D' := allK) (w' := { w with heap := w.heap.setIfInBounds r o' }) (.h k) b' (.obj r) (fun j hj => .inl hj) (fun l0 h0 => by
   rw [hm] at h0; cases h0
   exact ⟨trivial, .refl _, fun b0 hb0 => by rw [hg] at hb0; cases hb0; exact hw⟩) hframe hnew (by simp) (by rw [hself]; exact hok)
  rwa [hself] at this
 ·have := Ext.upd (M := M) (C := s.get) (w := w) (w' := { w with heap := w.heap.setIfInBounds r o' }) (.h k) b' (.obj r) [.h k] (.inl ⟨by simp [hg], rfl, by simp [hm], fun b0 hb0 => by rw [hg] at hb0; cases hb0; exact hw⟩) (by rw [hself]; exact .refl _) hframe hnew (by simp) rfl rfl rfl
  rwa [hself] at this
theorem Rel.next (hB : Base M0 h0 w0) (hR : Rel M0 h0 w0 nt M s a w) {M' : Mp} {s' : St} {w' : World} {ks : List Key} (hV : Valid M' allK s'.get w') (hX : Ext M s.get w M' s'.get w' ks)
  (he : s'.env = s.env) (hws : s'.ws = addKs h0.length ks s.ws) (hl : ∀ k l, M (.l k) = some l → M' (.l k) = some l) : Rel M0 h0 w0 nt M' s' a w' := by
 refine ⟨hV, ?_, ?_, hR.size, marks_ext hR hX, hR.apart⟩
 ·refine hR.ext.trans hX (fun k l hk => hB.val.has hk) (fun k hk hin => ?_) (fun k hk => ?_)
  ·obtain ⟨b, rfl, hb⟩ := ctH_some hk
   rw [hws]
   refine List.mem_map.2 ⟨b, mem_addKs.2 ?_, rfl⟩
   rcases hin with h1 | h1
   ·obtain ⟨b', h2, h3⟩ := List.mem_map.1 h1
    cases h3; exact .inl h2
   ·exact .inr ⟨h1, hb⟩
  ·rw [hws] at hk
   obtain ⟨b, hb, rfl⟩ := List.mem_map.1 hk
   rcases mem_addKs.1 hb with h1 | ⟨h1, h2⟩
   ·have : Key.h b ∈ s.ws.map .h := List.mem_map.2 ⟨b, h1, rfl⟩
    exact ⟨hR.ext.wsub _ this, .inl this⟩
   ·exact ⟨ctH_of h2, .inr h1⟩
 ·rw [he]
  intro t e h
  exact (hR.env t e h).mono hX.mle hl
theorem Rel.long (hR : Rel M0 h0 w0 nt M s a w) : h0.length ≤ s.heap.length := by
 refine Nat.le_of_not_lt fun h => ?_
 have := hR.ext.has _ (ctH_of h)
 simp [St.get] at this
end
end Tw
namespace Tw
open Go
theorem least {J : Nat → Prop} (h : ∃ k, J k) : ∃ k, J k ∧ ∀ j, J j → k ≤ j := by
 obtain ⟨k, hk⟩ := h
 induction k using Nat.strongRecOn with
 | _ k ih =>
  by_cases hj : ∃ j, j < k ∧ J j
  ·obtain ⟨j, h1, h2⟩ := hj
   exact ih j h1 h2
  ·exact ⟨k, hk, fun j h => Nat.le_of_not_lt fun hlt => hj ⟨j, hlt, h⟩⟩
noncomputable def leastOf (J : Nat → Prop) : Nat := open Classical in if h : ∃ k, J k then Classical.choose (least h) else 0
theorem leastOf_spec {J : Nat → Prop} (h : ∃ k, J k) : J (leastOf J) ∧ ∀ j, J j → leastOf J ≤ j := by
 unfold leastOf
 rw [dif_pos h]
 exact Classical.choose_spec (least h)
section
variable {P : Program} {T : Tab} {call : CallT} {L f : Nat} {rnd : Bool} {nt : Nat} {M0 : Mp} {h0 : List HB} {w0 : World} {r : Option Nat}
def ExecOk (P : Program) (M0 : Mp) (h0 : List HB) (w0 : World) (nt : Nat) (r : Option Nat) (c : Code) (s : St) (e : Ex) (s' : St) : Prop :=
 ∀ (n : Nat) (Q : Exit → Act → World → Prop) (M : Mp) (a : Act) (w : World), Rel M0 h0 w0 nt M s a w → (∀ M' a' w', Rel M0 h0 w0 nt M' s' a' w' → Q (exOf e) a' w') → c.wpIn (wideAt r) n P Q a w
theorem loop_ok (hB : Base M0 h0 w0) {c : Code} {live : List Nat} {g : St → Option (Ex × St)} (ih : ∀ s e s', g s = some (e, s') → ExecOk P M0 h0 w0 nt r c (atHead live s) e s') {k : Nat} {s : St} {e : Ex} {s' : St}
  (h : iter g k s = some (e, s')) : ExecOk P M0 h0 w0 nt r (.loop c) s e s' := by
 intro n Q M a w hR hQ
 let J : Act → World → Nat → Prop := fun a w k => ∃ s M, iter g k s = some (e, s') ∧ Rel M0 h0 w0 nt M s a w
 refine wpIn_loop (fun a w => ∃ k, J a w k) (fun a w => leastOf (J a w)) ⟨k, s, M, h, hR⟩ ?_
 intro a1 w1 hI
 obtain ⟨⟨s1, M1, hit, hR1⟩, _⟩ := leastOf_spec hI
 generalize leastOf (J a1 w1) = k1 at hit ⊢
 cases k1 with
 | zero => simp [iter] at hit
 | succ k1 =>
  simp only [iter] at hit
  split at hit
  ·rename_i s2 hg
   refine ih s1 .norm s2 hg n _ _ a1 w1 (hR1.head hB live) fun M2 a2 w2 hR2 => ?_
   have hJ : J a2 w2 k1 := ⟨s2, M2, hit, hR2⟩
   exact ⟨⟨k1, hJ⟩, Nat.lt_succ_of_le ((leastOf_spec ⟨k1, hJ⟩).2 k1 hJ)⟩
  ·rename_i hne
   refine ih s1 e s' hit n _ _ a1 w1 (hR1.head hB live) fun M2 a2 w2 hR2 => ?_
   cases e with
   | norm => exact (hne s' hit).elim
   | exit id => exact hQ M2 a2 w2 hR2
   | ret => exact hQ M2 a2 w2 hR2
theorem all_isVal {env : List (Nat × EV)} (h : env.all isVal = true) {t : Nat} {e : EV} (hl : lookE t env = some e) : (∃ v, e = .val v) ∨ e = .undef := by
 induction env with
 | nil => simp [lookE] at hl
 | cons x r ih =>
  obtain ⟨k, v⟩ := x
  simp only [List.all_cons, Bool.and_eq_true] at h
  simp only [lookE] at hl
  split at hl
  ·cases hl
   cases e with
   | val v => exact .inl ⟨v, rfl⟩
   | undef => exact .inr rfl
   | loc k off => simp [isVal] at h
  ·exact ih h.2 hl
theorem range_ok (hC : CallOk P call) (hB : Base M0 h0 w0) {g : Operand} {ps : Array Tmp} {asg body : Code} {s s' : St} {e : Ex} {f1 : FuncId} {a1 b1 : List TV} {v : TV} {h : List HB} {ws : List Nat} {rd : Bool} {f2 nt2 : Nat} {e2 : List (Nat × EV)} {ps2 : List Nat} {a2 b2 : Code} {pend : Option Code}
  (hg : tvO s.env g = some (.fn f1 a1 b1)) (hv : s.env.all isVal = true) (hcall : call (.fn f1 a1 b1) [.yld (s.heap.length + 1)] (s.heap ++ [.mark, .loop true f nt s.env ps.toList asg body none]) = some (v, h, ws))
  (hh : h[s.heap.length + 1]? = some (.loop rd f2 nt2 e2 ps2 a2 b2 pend)) (hj : jumpT rd pend = some e)
  (hs : s' = { s with heap := h.set (s.heap.length + 1) (.loop false f2 nt2 e2 ps2 a2 b2 (some .skip)), ws := addKs h0.length (ws.map .h) s.ws }) :
  ExecOk P M0 h0 w0 nt none (.rangeFunc g ps asg body) s e s' := by
 intro n Q M a w hR hQ
 refine wpIn_rangeFunc fun fn _ => ?_
 let lp : Loop := { state := .ready, pending := none, fn := fn, tmps := a.tmps, params := ps, assign := asg, body := body, defers := w.heap.size }
 let w1 := (w.alloc (.deferred (some []))).alloc (.loop lp)
 obtain ⟨v1, x1, n1⟩ := push_ok hR.val .mark (.deferred (some [])) (show w.heap.size < (w.alloc _).heap.size by simp)
 let M1 := updM M (.h s.heap.length) (.obj w.heap.size)
 let s1 : St := { s with heap := s.heap ++ [.mark] }
 have hR1 : Rel M0 h0 w0 nt M1 s1 a (w.alloc (.deferred (some []))) := hR.next hB v1 x1 rfl rfl (updM_loc n1)
 have hlen1 : s1.heap.length = s.heap.length + 1 := by simp [s1]
 have hsz1 : (w.alloc (.deferred (some []))).heap.size = w.heap.size + 1 := by simp
 have hok2 : okBlk (updM M1 (.h s1.heap.length) (.obj (w.alloc (.deferred (some []))).heap.size)).h w1 (.loop true f nt s.env ps.toList asg body none) (.obj (w.alloc (.deferred (some []))).heap.size) := by
  refine ⟨lp, heap_alloc_new _ _, ?_⟩
  exact
   {ps := rfl, asg := rfl, body := rfl, size := hR.size
    envR := fun t v hl => by
     have h1 := (hR1.env t _ hl).inv_val
     have hm : Mle M1 (updM M1 (.h s1.heap.length) (.obj (w.alloc (.deferred (some []))).heap.size)) := updM_le fun l0 h0 => by
      rw [hR1.nh] at h0; cases h0
     exact h1.mono hm.h
    und := fun t hl => by
     have h1 := hR.env t _ hl
     show a.tmps.getD t Go.undef = Go.undef
     generalize a.tmps.getD t Go.undef = z at h1
     cases h1; rfl
    nol := fun t k o hl => by rcases all_isVal hv hl with ⟨v, e⟩ | e <;> cases e
    ready := fun _ => ⟨rfl, rfl⟩
    busy := by simp
    done := by simp }
 obtain ⟨v2, x2, n2⟩ := push_ok hR1.val (.loop true f nt s.env ps.toList asg body none) (.loop lp) hok2
 let M2 := updM M1 (.h s1.heap.length) (.obj (w.alloc (.deferred (some []))).heap.size)
 let s2 : St := { s1 with heap := s1.heap ++ [.loop true f nt s.env ps.toList asg body none] }
 have hR2a : Rel M0 h0 w0 nt M2 s2 a w1 := hR1.next hB v2 x2 rfl rfl (updM_loc n2)
 have hlong := hR.long
 have hmk : M2 (.h s.heap.length) = some (.obj w.heap.size) := by
  simp only [M2, M1, updM, hlen1]
  simp
 have hR2 : Rel M0 h0 w0 nt M2 s2 { a with defers := [{ target := .collected w.heap.size, args := #[] }] ++ a.defers } w1 := by
  refine ⟨hR2a.val, hR2a.ext, hR2a.env, hR2a.size, fun d hd => ?_, ?_⟩
  ·rcases List.mem_cons.1 hd with rfl | hd
   ·refine ⟨s.heap.length, w.heap.size, rfl, by simp [ctH, St.get]; omega, hmk, by simp [s2, s1, St.get], ?_⟩
    have e1 : w1.heap[w.heap.size]? = (w.alloc (.deferred (some []))).heap[w.heap.size]? := allocOld _ _ _ (by simp)
    rw [e1]
    exact heap_alloc_new _ _
   ·exact hR2a.marks d hd
  ·refine List.pairwise_cons.2 ⟨fun d hd e => ?_, hR2a.apart⟩
   obtain ⟨k, r', e1, _, _, _, e5⟩ := hR.marks d hd
   rw [e1] at e
   have : w.heap.size = r' := by injection e with e e'; injection e
   have := (Array.getElem?_eq_some_iff.1 e5).1
   omega
 have hl2 : M2 (.h (s.heap.length + 1)) = some (.obj (w.heap.size + 1)) := by
  simp only [M2, updM, hlen1, hsz1, if_true]
 have hs2h : s2.heap = s.heap ++ [.mark, .loop true f nt s.env ps.toList asg body none] := by simp [s2, s1]
 rw [← hs2h] at hcall
 have hV2 := only_valid hR2.val (fun _ _ _ => trivial)
 have hgx : VR M2.only.h (.fn f1 a1 b1) (a.eval g) := (tvO_ok hR2.env hg)
 have hyx : VRs M2.only.h [.yld (s.heap.length + 1)] [.func (.yield (w.heap.size + 1)) #[] #[]] := .cons (.yld hl2) .nil
 obtain ⟨d, hd, hcase⟩ := hC _ _ _ _ _ _ hcall M2.only w1 (a.eval g) [.func (.yield (w.heap.size + 1)) #[] #[]] hV2 (fun _ => rfl) hgx hyx
 have hcase' : EntersR P d w1 (CallR M2.only s2.heap w1 v h ws) := by
  rcases hcase with hx | ⟨_, _, hx⟩
  ·exact hx.1
  ·cases hx
 obtain ⟨f3, as3, hinv, hcl⟩ := hcase'
 refine ⟨w.heap.size + 1, [{ target := .collected w.heap.size, args := #[] }], w1, d, w1, f3, as3, w1, ?_, ?_, fun _ _ => trivial, hinv, fun h => by simp [Fence.wide] at h, ?_⟩
 ·simp [Instr.enterLoop, newObj, Sem.run, w1, lp]
 ·have := hd w1
  simpa [resolve, rangeCall, Act.eval] using this
 ·refine CallsIn.mono (F := wideAt none) (hcl (n - 1)) fun en w3 hen => ?_
  cases en with
  | panicked c => exact hen.elim
  | outgrown => exact hen.elim
  | returned y =>
   obtain ⟨M3, hp⟩ := join_post hR2.val hR2.loc (show CallR M2.only s2.heap w1 v h ws y w3 from hen)
   have hR3 : Rel M0 h0 w0 nt M3 { s2 with heap := h, ws := addKs h0.length (ws.map .h) s.ws } _ w3 := hR2.next hB (s' := { s2 with heap := h, ws := addKs h0.length (ws.map .h) s.ws }) (hp.val.sub fun _ _ => .inl trivial) hp.ext rfl rfl hp.loc
   obtain ⟨l', g1, g2⟩ := hp.ext.mle _ _ hl2
   have hl3 : M3 (.h (s.heap.length + 1)) = some (.obj (w.heap.size + 1)) := by
    cases l' with
    | cells ls => exact g2.elim
    | obj r' => cases g2; exact g1
   obtain ⟨blk, k1, k2⟩ := hR3.val.ok _ _ hl3 trivial
   have k1' : blk = .loop rd f2 nt2 e2 ps2 a2 b2 pend := by
    simp only [St.get, hh, Option.some.injEq] at k1
    exact k1.symm
   subst k1'
   obtain ⟨lp3, l1, l2⟩ := k2
   have hnb : lp3.state ≠ .busy ∧ lp3.pending = jumpOf e := by
    unfold jumpT at hj
    split at hj
    ·cases hj
     obtain ⟨q1, q2⟩ := l2.ready rfl
     exact ⟨by rw [q1]; simp, q2⟩
    ·cases hj
     obtain ⟨q1, q2⟩ := l2.done rfl _ rfl (by simp)
     exact ⟨by rw [q1]; simp, q2⟩
    ·cases hj
     obtain ⟨q1, q2⟩ := l2.done rfl _ rfl (by simp)
     exact ⟨by rw [q1]; simp, q2⟩
    ·cases hj
   obtain ⟨v4, x4⟩ := objset_ok (s := { s2 with heap := h, ws := addKs h0.length (ws.map .h) s.ws }) hR3.val hl3 hh rfl (b' := .loop false f2 nt2 e2 ps2 a2 b2 (some .skip)) (o' := .loop { lp3 with state := .exhausted }) ⟨{ lp3 with state := .exhausted }, by simp [(Array.getElem?_eq_some_iff.1 l1).1],
    {ps := l2.ps, asg := l2.asg, body := l2.body, size := l2.size, envR := l2.envR, und := l2.und, nol := l2.nol, ready := by simp, busy := by simp, done := fun _ j hj hne => by simp at hj; exact absurd hj.symm hne }⟩
   subst hs
   have hR4 := hR3.next hB (s' := { s with heap := h.set (s.heap.length + 1) (.loop false f2 nt2 e2 ps2 a2 b2 (some .skip)), ws := addKs h0.length (ws.map .h) s.ws }) v4 x4 rfl
    (by simp only [addKs, addW]; rw [if_neg (by omega)]) (fun _ _ h => h)
   refine ⟨lp3.pending, { w3 with heap := w3.heap.setIfInBounds (w.heap.size + 1) (.loop { lp3 with state := .exhausted }) }, ?_, ?_⟩
   ·have h1 := hnb.1
    cases hst : lp3.state <;> simp_all [Instr.endLoop, Instr.getLoop, getObj, setObj, Sem.run] <;> rfl
   ·have h2 := hQ _ _ _ hR4
    have h3 := hnb.2
    generalize lp3.pending = pe at h2 h3 ⊢
    subst h3
    cases e with
    | norm => exact h2
    | ret => exact wpIn_ret h2
    | exit id => exact wpIn_exit h2
theorem exec_ok (hm : P.follows .mixedOrders = true) (hC : CallOk P call) (hB : Base M0 h0 w0) (hr : rnd = false → r = none) : ∀ (c : Code) (s s' : St) (e : Ex), exec P T call L f rnd h0.length nt c s = some (e, s') → ExecOk P M0 h0 w0 nt r c s e s' := by
 intro c
 induction c with
 | skip =>
  intro s s' e h n Q M a w hR hQ
  simp only [exec, Option.some.injEq, Prod.mk.injEq] at h
  obtain ⟨rfl, rfl⟩ := h
  exact wpIn_skip (hQ _ _ _ hR)
 | label l =>
  intro s s' e h n Q M a w hR hQ
  simp only [exec, Option.some.injEq, Prod.mk.injEq] at h
  obtain ⟨rfl, rfl⟩ := h
  exact wpIn_label (hQ _ _ _ hR)
 | exit id =>
  intro s s' e h n Q M a w hR hQ
  simp only [exec, Option.some.injEq, Prod.mk.injEq] at h
  obtain ⟨rfl, rfl⟩ := h
  exact wpIn_exit (hQ _ _ _ hR)
 | ret =>
  intro s s' e h n Q M a w hR hQ
  simp only [exec, Option.some.injEq, Prod.mk.injEq] at h
  obtain ⟨rfl, rfl⟩ := h
  exact wpIn_ret (hQ _ _ _ hR)
 | region id ops draw =>
  intro s s' e h n Q M a w hR hQ
  simp only [exec] at h
  split at h
  ·rename_i s1 infs hrun
   split at h
   ·rename_i hd
    simp only [Option.some.injEq, Prod.mk.injEq] at h
    obtain ⟨rfl, rfl⟩ := h
    cases draw with
    | false => exact seqReg_ok hC hB hrun hR fun M' a' w' hR' _ => hQ _ _ _ (hR'.pick _)
    | true =>
     simp only [Bool.not_true, Bool.false_or, Bool.and_eq_true] at hd
     exact drawReg_ok hC hB hm hrun hd.1 hd.2 hR fun M' a' w' hR' _ => hQ _ _ _ (hR'.pick _)
   ·simp at h
  ·simp at h
 | seq x y ihx ihy =>
  intro s s' e h n Q M a w hR hQ
  simp only [exec] at h
  split at h
  ·rename_i s1 hx
   exact wpIn_seq (ihx s s1 .norm hx n _ M a w hR fun M1 a1 w1 hR1 => ihy s1 s' e h n Q M1 a1 w1 hR1 hQ)
  ·rename_i hne
   refine wpIn_seq (ihx s s' e h n _ M a w hR fun M1 a1 w1 hR1 => ?_)
   cases e with
   | norm => exact (hne s' h).elim
   | exit id => exact hQ _ _ _ hR1
   | ret => exact hQ _ _ _ hR1
 | cond c x y ihx ihy =>
  intro s s' e h n Q M a w hR hQ
  simp only [exec] at h
  have hev : ∀ b, tvO s.env c = some (.bool b) → a.eval c = .bool b := by
   intro b hb
   have := tvO_ok hR.env hb
   generalize a.eval c = z at this
   cases this; rfl
  split at h
  ·rename_i hc
   exact wpIn_cond_true (hev _ hc) (ihx s s' e h n Q M a w hR hQ)
  ·rename_i hc
   exact wpIn_cond_false (hev _ hc) (ihy s s' e h n Q M a w hR hQ)
  ·simp at h
 | block id b ih =>
  intro s s' e h n Q M a w hR hQ
  simp only [exec] at h
  split at h
  ·rename_i i s1 hb
   simp only [Option.some.injEq, Prod.mk.injEq] at h
   obtain ⟨rfl, rfl⟩ := h
   refine wpIn_block (ih s s1 (.exit i) hb n _ M a w hR fun M1 a1 w1 hR1 => ?_)
   have := hQ _ _ _ hR1
   by_cases hi : i = id
   ·simp only [hi, if_true] at this
    simp only [exOf, Exit.inBlock, hi, if_true]
    exact this
   ·simp only [hi, if_false] at this
    simp only [exOf, Exit.inBlock, hi, if_false]
    exact this
  ·rename_i hne
   refine wpIn_block (ih s s' e h n _ M a w hR fun M1 a1 w1 hR1 => ?_)
   cases e with
   | norm => exact hQ _ _ _ hR1
   | exit i => exact (hne i s' h).elim
   | ret => exact hQ _ _ _ hR1
 | scope b ih =>
  intro s s' e h n Q M a w hR hQ
  simp only [exec] at h
  refine wpIn_scope (ih s s' e h n _ M a w hR fun M1 a1 w1 hR1 => ?_)
  have := hQ _ _ _ hR1
  cases e <;> exact this
 | loop b ih =>
  intro s s' e h
  simp only [exec] at h
  exact loop_ok hB (live := T.headAt f (headId b)) (fun s e s' hs => ih _ _ _ hs) h
 | rangeFunc g ps asg body iha ihb =>
  intro s s' e h
  simp only [exec] at h
  split at h
  ·rename_i f1 a1 b1 hg
   split at h
   ·rename_i hv
    simp only [Bool.and_eq_true, Bool.not_eq_true'] at hv
    rw [hr hv.2]
    split at h
    ·rename_i v h1 ws hcall
     split at h
     ·rename_i rd f2 nt2 e2 ps2 a2 b2 pend hh
      split at h
      ·rename_i e' hj
       simp only [Option.some.injEq, Prod.mk.injEq] at h
       obtain ⟨rfl, rfl⟩ := h
       exact range_ok hC hB hg hv.1 hcall hh hj rfl
      ·simp at h
     ·simp at h
    ·simp at h
   ·simp at h
  ·simp at h
 | _ => intro s s' e h; simp [exec] at h
end
end Tw
namespace Tw
open Go
def resS (tmps : Array Value) : ResultVar → Sem Value
 | .tmp t => pure (tmps.getD t Go.undef)
 | .cell b t => do loadVar t (← asAddr (tmps.getD b Go.undef))
theorem results_eq (fn : Func) (tmps : Array Value) : results fn tmps = (do
  let vs ← fn.results.mapM (resS tmps)
  pure (if h : vs.size = 1 then vs[0] else .tuple vs)) := by
 have key : ∀ g : ResultVar → Sem Value, (∀ r, g r = resS tmps r) → (do
   let vs ← fn.results.mapM g
   pure (if h : vs.size = 1 then vs[0] else Value.tuple vs) : Sem Value) = (do
   let vs ← fn.results.mapM (resS tmps)
   pure (if h : vs.size = 1 then vs[0] else Value.tuple vs)) := fun g hg => by rw [show g = resS tmps from funext hg]
 exact key _ fun r => by cases r <;> rfl
section
variable {P : Program} {T : Tab} {call : CallT} {L : Nat} {nt : Nat} {M0 : Mp} {h0 : List HB} {w0 : World} {M : Mp} {s : St} {a : Act} {w : World}
theorem res_ok (hR : Rel M0 h0 w0 nt M s a w) {r : ResultVar} {v : TV} (h : resT P s r = some v) :
  ∃ x, VR M.h v x ∧ (resS a.tmps r).run P w = .ok x w := by
 unfold resT at h
 split at h
 ·rename_i t
  split at h
  ·rename_i v' hv
   simp only [Option.some.injEq] at h; subst h
   exact ⟨_, (hR.env t _ hv).inv_val, rfl⟩
  ·simp at h
 ·rename_i b t
  split at h
  ·rename_i e he
   simp only [Option.map_eq_some_iff] at h
   obtain ⟨⟨v', i⟩, hl, rfl⟩ := h
   have hx := hR.env b _ he
   obtain ⟨_, y, h1, h2⟩ := load_ok hR.val hl hx (fun _ _ => trivial)
   refine ⟨y, h1, ?_⟩
   show (do loadVar t (← asAddr (a.tmps.getD b Go.undef)) : Sem Value).run P w = _
   generalize a.tmps.getD b Go.undef = z at hx h2
   have hz : ∃ ad, z = .pointer (some ad) := by
    cases hx with
    | loc hm hb => exact ⟨_, rfl⟩
    | undef => simp [loadT] at hl
    | val hv =>
     cases hv with
     | ptr => exact ⟨_, rfl⟩
     | _ => simp [loadT] at hl
   obtain ⟨ad, rfl⟩ := hz
   simpa [asAddr, Instr.loadAt, Instr.sureAddr] using h2
  ·simp at h
theorem ress_ok (hR : Rel M0 h0 w0 nt M s a w) : ∀ {rs : List ResultVar} {vs : List TV}, resTs P s rs = some vs →
  ∃ xs, VRs M.h vs xs ∧ (rs.mapM (resS a.tmps)).run P w = .ok xs w
 | [], vs, h => by simp [resTs] at h; subst h; exact ⟨[], .nil, by simp⟩
 | r :: rs, vs, h => by
  simp only [resTs] at h
  split at h
  ·rename_i v vs' h1 h2
   simp only [Option.some.injEq] at h; subst h
   obtain ⟨x, g1, g2⟩ := res_ok hR h1
   obtain ⟨xs, g3, g4⟩ := ress_ok hR h2
   exact ⟨x :: xs, .cons g1 g3, by simp only [List.mapM_cons, Sem.run_bind, g2, g4, Result.andThen_ok, Sem.run_pure]⟩
  ·simp at h
theorem results_ok (hR : Rel M0 h0 w0 nt M s a w) {fn : Func} {vs : List TV} (h : resTs P s fn.results.toList = some vs) : ∃ y, VR M.h (one vs) y ∧ (results fn a.tmps).run P w = .ok y w := by
 obtain ⟨xs, h1, h2⟩ := ress_ok hR h
 have hrun : (results fn a.tmps).run P w = .ok (if h : xs.toArray.size = 1 then xs.toArray[0] else .tuple xs.toArray) w := by
  rw [results_eq, Array.mapM_eq_mapM_toList]
  simp only [Sem.run_bind, Sem.run_map, h2, Result.andThen_ok, Sem.run_pure]
 refine ⟨_, ?_, hrun⟩
 match vs, xs, h1 with
 | [], xs, h1 =>
  have := h1.inv_nil; subst this
  exact .tup' .nil
 | [v], xs, h1 =>
  obtain ⟨x, xs', rfl, hx, hx'⟩ := h1.inv_cons
  have := hx'.inv_nil; subst this
  exact hx
 | v :: v' :: vs, xs, h1 =>
  obtain ⟨x, xs', rfl, hx, hx'⟩ := h1.inv_cons
  obtain ⟨x', xs'', rfl, hy, hy'⟩ := hx'.inv_cons
  simp only [one, List.size_toArray, List.length_cons]
  rw [dif_neg (by omega)]
  exact .tup' h1
theorem mark_step (hB : Base M0 h0 w0) {d : Deferred} {ds : List Deferred} (hR : Rel M0 h0 w0 nt M s a w) (hd : a.defers = d :: ds) :
  ∃ r w', d.target = .collected r ∧ (Instr.takeDeferred r).run P w = .ok [] w' ∧ Rel M0 h0 w0 nt M s { a with defers := ds } w' := by
 obtain ⟨k, r, rfl, h2, h3, h4, h5⟩ := hR.marks d (by rw [hd]; exact List.mem_cons_self)
 have hlt := (Array.getElem?_eq_some_iff.1 h5).1
 have hap := hR.apart
 rw [hd] at hap
 obtain ⟨ha1, ha2⟩ := List.pairwise_cons.1 hap
 refine ⟨r, { w with heap := w.heap.setIfInBounds r (.deferred none) }, rfl, ?_, ?_⟩
 ·simp [Instr.takeDeferred, getObj, setObj, Sem.run, h5]
 have hother : ∀ c, c ≠ r → (w.heap.setIfInBounds r (.deferred none))[c]? = w.heap[c]? := fun c hc => by
  rw [Array.getElem?_setIfInBounds, if_neg (fun e => hc e.symm)]
 refine ⟨⟨?_, hR.val.own, fun k l hk c hc => by simpa using hR.val.inb k l hk c hc⟩, ?_, hR.env, hR.size, ?_, ha2⟩
 ·intro k' l hk' _
  obtain ⟨b, g1, g2⟩ := hR.val.ok k' l hk' trivial
  refine ⟨b, g1, ?_⟩
  by_cases hin : r ∈ cblocks l
  ·cases b with
   | cells kk cs =>
    cases l with
    | obj r' => exact g2.elim
    | cells ls =>
     obtain ⟨p, hp, e⟩ := List.mem_map.1 hin
     obtain ⟨arr, ty, fz, e1, _⟩ := (g2.2.1 p hp).row
     rw [e, h5] at e1; cases e1
   | map es =>
    cases l with
    | cells ls => exact g2.elim
    | obj r' =>
     simp [cblocks] at hin; subst hin
     obtain ⟨xs, ck, e1, _⟩ := g2
     rw [h5] at e1; cases e1
   | loop rd f nt env ps a b pend =>
    cases l with
    | cells ls => exact g2.elim
    | obj r' =>
     simp [cblocks] at hin; subst hin
     obtain ⟨lp, e1, _⟩ := g2
     rw [h5] at e1; cases e1
   | mark =>
    cases l with
    | cells ls => exact g2.elim
    | obj r' =>
     show r' < (w.heap.setIfInBounds r (.deferred none)).size
     have g2' : r' < w.heap.size := g2
     simpa using g2'
  ·exact g2.mono (.refl _) fun c hc => hother c fun e => hin (e ▸ hc)
 ·have hX := hR.ext
  refine ⟨hX.mle, fun c hc hf => ?_, hX.keep, hX.keepM, hX.fresh, by simpa using hX.size, hX.has, hX.wsub, hX.wrote, hX.os, hX.output, hX.tape⟩
  rw [← hX.frame c hc hf]
  refine hother c fun e => ?_
  obtain ⟨l0, g1, _⟩ := hX.fresh _ _ h3 c (by simp [cblocks, e]) hc
  have := hB.val.has g1
  rw [h2] at this; cases this
 ·intro d' hd'
  obtain ⟨k', r', e1, e2, e3, e4, e5⟩ := hR.marks d' (by rw [hd]; exact List.mem_cons_of_mem _ hd')
  refine ⟨k', r', e1, e2, e3, e4, ?_⟩
  rw [hother r' fun e => ha1 d' hd' (by rw [e1, e]), e5]
theorem leave_ok (hB : Base M0 h0 w0) {F : Fence} {n : Nat} {fn : Func} {R : Ending → World → Prop} : ∀ (ds : List Deferred) (a : Act) (w : World), a.defers = ds → Rel M0 h0 w0 nt M s a w →
  (∀ w', Rel M0 h0 w0 nt M s { a with defers := [] } w' → ∃ v, (results fn a.tmps).run P w' = .ok v w' ∧ R (.returned v) w') → LeavesInM F n P fn a.tmps R ds .returning w
 | [], a, w, hd, hR, hK => by
  simp only [LeavesInM, LeavesIn]
  exact hK w (by
   have : a = { a with defers := [] } := by cases a; simp at hd; subst hd; rfl
   rw [← this]; exact hR)
 | d :: ds, a, w, hd, hR, hK => by
  obtain ⟨r, w', h1, h2, h3⟩ := mark_step (P := P) hB hR hd
  refine ⟨by simp, .inl ⟨r, w', h1, h2, ?_⟩⟩
  exact leave_ok hB ds { a with defers := ds } w' rfl h3 hK
end
theorem flatC_VR {N N' : Np} {v : TV} {y : Value} (h : v.flatC = true) (hv : VR N v y) : VR N' v y := by
 cases hv <;> first | (constructor; done) | (simp [TV.flatC] at h; done)
theorem flatCs_VR {N N' : Np} {vs : List TV} {ys : List Value} (h : vs.all TV.flatC = true) (hv : VRs N vs ys) : VRs N' vs ys :=
 ⟨hv.len, fun i c v h1 h2 => flatC_VR (List.all_eq_true.1 h c (List.mem_of_getElem? h1)) (hv.at_ i c v h1 h2)⟩
theorem flat1_VR {N N' : Np} {v : TV} {y : Value} (h : v.flat1 = true) (hv : VR N v y) : VR N' v y := by
 cases hv with
 | agg h1 h2 => exact .agg' (flatCs_VR h ⟨h1, h2⟩)
 | _ => first | (constructor; done) | (simp [TV.flat1, TV.flatC] at h; done)
theorem flat_VR {N N' : Np} {v : TV} {y : Value} (h : v.flat = true) (hv : VR N v y) : VR N' v y := by
 cases hv with
 | tup h1 h2 =>
  simp only [TV.flat] at h
  exact .tup h1 fun i c v e1 e2 => flat1_VR (List.all_eq_true.1 h c (List.mem_of_getElem? e1)) (h2 i c v e1 e2)
 | agg h1 h2 => exact flat1_VR h (.agg h1 h2)
 | _ => first | (constructor; done) | (simp [TV.flat, TV.flat1, TV.flatC] at h; done)
section
variable {P : Program} {T : Tab} {call : CallT} {L : Nat} {nt : Nat} {M : Mp} {h : List HB} {w : World} {M' : Mp} {s : St} {a : Act} {w' : World}
theorem fin_ok (hB : Base M h w) (hR : Rel M h w nt M' s a w') {v : TV} {y : Value} (hv : VR M'.h v y) : CallR M h w v s.heap s.ws y w' := by
 refine ⟨M'.only, only_valid hR.val (fun _ _ _ => trivial), fun _ => rfl, ?_, hv⟩
 have hX := hR.ext
 have hk : ∀ k, (ctH h k).isSome = true → ∃ b, k = .h b := fun k hk => let ⟨b, e, _⟩ := ctH_some hk; ⟨b, e⟩
 exact
  {mle := fun k l hl => by
    cases k with
    | l j => rw [hB.loc j] at hl; cases hl
    | h b => exact hX.mle _ _ hl
   frame := hX.frame
   keep := fun k e hn => by obtain ⟨b, rfl⟩ := hk k e; exact hX.keep _ e hn
   keepM := fun k e hn => by
    cases k with
    | h b => exact hX.keepM (.h b) e hn
    | l j => exact (hB.loc j).symm
   fresh := fun k l hl => by
    cases k with
    | h b => exact hX.fresh (.h b) l hl
    | l j => cases hl
   size := hX.size
   has := fun k e => by obtain ⟨b, rfl⟩ := hk k e; exact hX.has _ e
   wsub := hX.wsub
   wrote := hX.wrote
   os := hX.os
   output := hX.output
   tape := hX.tape }
theorem fin_flat (hB : Base M h w) (hR : Rel M h w nt M' s a w') (hws : s.ws = []) {v : TV} {y : Value} (hv : VR M'.h v y) (hf : v.flat = true) : CallR M h w v h [] y w' := by
 have hX := hR.ext
 rw [hws] at hX
 have hfr : ∀ c, c < w.heap.size → w'.heap[c]? = w.heap[c]? := fun c hc => hX.frame c hc (by simp)
 refine ⟨M, ⟨fun k l hk _ => ?_, hB.val.own, fun k l hk c hc => Nat.lt_of_lt_of_le (hB.val.inb k l hk c hc) hX.size⟩, hB.loc, ?_, flat_VR hf hv⟩
 ·obtain ⟨b, h1, h2⟩ := hB.val.ok k l hk trivial
  exact ⟨b, h1, h2.mono (.refl _) fun c hc => hfr c (hB.val.inb k l hk c hc)⟩
 ·exact ⟨.refl _, fun c hc _ => hfr c hc, fun _ _ _ => rfl, fun _ _ _ => rfl, fun k l hk c hc _ => ⟨l, hk, hc⟩, hX.size, fun _ e => e, by simp, by simp, hX.os, hX.output, hX.tape⟩
theorem argEnv_ok {N : Np} : ∀ {args : List TV} {xs : List Value} {k t : Nat} {e : EV}, VRs N args xs → lookE t (argEnv k args) = some e → ∃ i v x, t = k + i ∧ e = .val v ∧ xs[i]? = some x ∧ VR N v x
 | [], xs, k, t, e, h, hl => by simp [argEnv, lookE] at hl
 | v :: vs, xs, k, t, e, h, hl => by
  obtain ⟨x, xs', rfl, h1, h2⟩ := h.inv_cons
  simp only [argEnv, lookE] at hl
  split at hl
  ·rename_i hk
   cases hl
   exact ⟨0, v, x, by omega, rfl, rfl, h1⟩
  ·obtain ⟨i, v', x', e1, e2, e3, e4⟩ := argEnv_ok h2 hl
   exact ⟨i + 1, v', x', by omega, e2, by simpa using e3, e4⟩
theorem fun_ok (hm : P.follows .mixedOrders = true) (hC : CallOk P call) {f : Nat} {args : List TV} {v : TV} {h' : List HB} {ws : List Nat} (hf : funT P T call L f args h = some (v, h', ws)) (hB : Base M h w) {xs : List Value} (hx : VRs M.h args xs) :
  ∃ fn c, P.funcs[f]? = some fn ∧ (fn.name == "runtime.NumGoroutine") = false ∧ fn.body = some c ∧ ∀ n, CallsIn Fence.wide n P f xs.toArray w (RetR (CallR M h w v h' ws)) := by
 unfold funT fnT at hf
 split at hf
 ·rename_i t ht
  split at ht
  ·rename_i fn hfn
   split at ht
   ·cases ht
   ·rename_i hname
    split at ht
    ·rename_i c hc
     cases ht
     refine ⟨fn, c, hfn, by simpa using hname, hc, fun n => ?_⟩
     have hR0 : Rel M h w fn.ntmps M ⟨argEnv 0 args, [], h, []⟩ { tmps := xs.toArray ++ Array.replicate (fn.ntmps - xs.toArray.size) Go.undef, defers := [] } w := by
      have hg : St.get ⟨argEnv 0 args, [], h, []⟩ = ctH h := getEnv ⟨[], [], h, []⟩ _ _
      refine ⟨by rw [hg]; exact hB.val, by rw [hg]; exact .refl _ _ _, fun t e hl => ?_, by simp; omega, by simp, .nil⟩
      obtain ⟨i, v', x, e1, rfl, e3, e4⟩ := argEnv_ok hx hl
      have hi : i < xs.length := (List.getElem?_eq_some_iff.1 e3).1
      have : (xs.toArray ++ Array.replicate (fn.ntmps - xs.toArray.size) Go.undef).getD t Go.undef = x := by
       rw [Array.getD_eq_getD_getElem?, Array.getElem?_append_left (by simp; omega)]
       have : t = i := by omega
       subst this
       simp [e3]
      rw [this]
      exact .val e4
     have hfin : ∀ (s : St), (match resTs P s fn.results.toList with
       | some vs => if s.ws.isEmpty && (one vs).flat then some (one vs, h, []) else some (one vs, s.heap, s.ws)
       | none => none) = some (v, h', ws) → ∀ (M' : Mp) (a' : Act) (w' : World), Rel M h w fn.ntmps M' s a' w' → LeavesInM Fence.wide n P fn a'.tmps (RetR (CallR M h w v h' ws)) a'.defers .returning w' := by
      intro s hs M' a' w' hR'
      split at hs
      ·rename_i vs hvs
       refine leave_ok hB a'.defers a' w' rfl hR' fun w'' hR'' => ?_
       obtain ⟨y, g1, g2⟩ := results_ok (P := P) hR'' hvs
       refine ⟨y, g2, ?_⟩
       split at hs
       ·rename_i hfl
        simp only [Bool.and_eq_true, List.isEmpty_iff] at hfl
        simp only [Option.some.injEq, Prod.mk.injEq] at hs
        obtain ⟨rfl, rfl, rfl⟩ := hs
        exact fin_flat hB hR'' hfl.1 g1 hfl.2
       ·simp only [Option.some.injEq, Prod.mk.injEq] at hs
        obtain ⟨rfl, rfl, rfl⟩ := hs
        exact fin_ok hB hR'' g1
      ·cases hs
     refine callsIn_of_wp_marks (F := Fence.wide) hfn hc trivial ?_
     split at hf
     ·rename_i s hex
      exact exec_ok (rnd := false) hm hC hB (fun _ => rfl) _ _ _ _ hex n _ M _ w hR0 fun M' a' w' hR' => hfin s hf M' a' w' hR'
     ·rename_i s hex
      exact exec_ok (rnd := false) hm hC hB (fun _ => rfl) _ _ _ _ hex n _ M _ w hR0 fun M' a' w' hR' => hfin s hf M' a' w' hR'
     ·cases hf
    ·cases ht
  ·cases ht
 ·cases hf
end
end Tw
namespace Tw
open Go
section
variable {P : Program} {T : Tab} {call : CallT} {L : Nat} {nt : Nat} {M : Mp} {h : List HB} {w : World}
def putV (tmps : Array Value) : List (Nat × Value) → Array Value
 | [] => tmps
 | (t, a) :: r => putV (tmps.setIfInBounds t a) r
theorem putV_size : ∀ {l : List (Nat × Value)} {tmps : Array Value}, (putV tmps l).size = tmps.size
 | [], _ => rfl
 | (t, a) :: r, tmps => by rw [putV, putV_size]; simp
theorem putV_foldl : ∀ (l : List (Nat × Value)) (tmps : Array Value), l.foldl (fun tmps (t, a) => tmps.setIfInBounds t a) tmps = putV tmps l
 | [], _ => rfl
 | (t, a) :: r, tmps => by rw [List.foldl_cons, putV_foldl r]; rfl
theorem putAll_ok {N : Np} {nt : Nat} : ∀ {ps : List Nat} {args : List TV} {xs : List Value} {env : List (Nat × EV)} {tmps : Array Value}, VRs N args xs → args.length = ps.length → (∀ p ∈ ps, p < nt) → nt ≤ tmps.size →
  (∀ t v, lookE t env = some (.val v) → VR N v (tmps.getD t Go.undef)) → (∀ t, lookE t env = some .undef → tmps.getD t Go.undef = Go.undef) → (∀ t k o, lookE t env ≠ some (.loc k o)) →
  (∀ t v, lookE t (putAll env ps args) = some (.val v) → VR N v ((putV tmps (ps.zip xs)).getD t Go.undef)) ∧ (∀ t, lookE t (putAll env ps args) = some .undef → (putV tmps (ps.zip xs)).getD t Go.undef = Go.undef) ∧
   (∀ t k o, lookE t (putAll env ps args) ≠ some (.loc k o))
 | [], [], xs, env, tmps, _, _, _, _, h1, h2, h3 => ⟨h1, h2, h3⟩
 | [], v :: vs, xs, env, tmps, _, hl, _, _, _, _, _ => by simp at hl
 | p :: ps, [], xs, env, tmps, _, hl, _, _, _, _, _ => by simp at hl
 | p :: ps, v :: vs, xs, env, tmps, hx, hl, hp, hn, h1, h2, h3 => by
  obtain ⟨x, xs', rfl, hx1, hx2⟩ := hx.inv_cons
  have hpn := hp p List.mem_cons_self
  simp only [putAll, List.zip_cons_cons, putV]
  have hg : ∀ t, (tmps.setIfInBounds p x).getD t Go.undef = if p = t then x else tmps.getD t Go.undef := by
   intro t
   simp only [Array.getD_eq_getD_getElem?, Array.getElem?_setIfInBounds]
   by_cases h : p = t
   ·subst h; simp [show p < tmps.size by omega]
   ·simp [h]
  refine putAll_ok hx2 (by simpa using hl) (fun q hq => hp q (List.mem_cons_of_mem _ hq)) (by simpa using hn) ?_ ?_ ?_
  ·intro t v' he
   rw [hg]
   simp only [lookE] at he
   split at he
   ·rename_i h; rw [if_pos h]; cases he; exact hx1
   ·rename_i h; rw [if_neg h]; exact h1 t v' he
  ·intro t he
   rw [hg]
   simp only [lookE] at he
   split at he
   ·cases he
   ·rename_i h; rw [if_neg h]; exact h2 t he
  ·intro t k o he
   simp only [lookE] at he
   split at he
   ·cases he
   ·exact h3 t k o he
theorem round_ok (hm : P.follows .mixedOrders = true) (hC : CallOk P call) {l l' : Nat} {args : List TV} {v : TV} {h' : List HB} {ws : List Nat} (hf : roundT P T call L l args h = some (v, h', ws)) (hB : Base M h w) (hl : M (.h l) = some (.obj l'))
  {xs : List Value} (hx : VRs M.h args xs) : RoundsR P { target := .fn (.yield l') #[], args := xs.toArray } w (CallR M h w v h' ws) := by
 unfold roundT at hf
 split at hf
 ·rename_i f nt env ps asg body pend hh
  split at hf
  ·rename_i hc
   obtain ⟨hlen, hps⟩ := hc
   have hps' : ∀ p ∈ ps, p < nt := fun p hp => by simpa using List.all_eq_true.1 hps p hp
   obtain ⟨blk, k1, k2⟩ := hB.val.ok _ _ hl trivial
   simp only [ctH, St.get, hh, Option.some.injEq] at k1
   subst k1
   obtain ⟨lp, l1, l2⟩ := k2
   have hlb : l < h.length := (List.getElem?_eq_some_iff.1 hh).1
   have hpa : lp.params.size = xs.length := by
    have := l2.ps
    rw [← hx.len, hlen, ← this]; simp
   have hzip : (lp.params.zip xs.toArray).foldl (fun tmps (t, a) => tmps.setIfInBounds t a) lp.tmps = putV lp.tmps (ps.zip xs) := by
    rw [← Array.foldl_toList, Array.toList_zip, l2.ps]
    exact putV_foldl _ _
   refine ⟨l', lp.fn, putV lp.tmps (ps.zip xs), asg, body, ?_, fun n => ?_⟩
   ·have h1 : (Instr.yield l' xs.toArray).run P w = .ok (.round l' lp.fn ((lp.params.zip xs.toArray).foldl (fun tmps (t, a) => tmps.setIfInBounds t a) lp.tmps) lp.assign lp.body) w := by
     simp [Instr.yield, Instr.getLoop, getObj, Sem.run, l1, hpa]
    rw [hzip, l2.asg, l2.body] at h1
    exact h1
   obtain ⟨p1, p2, p3⟩ := putAll_ok hx hlen hps' l2.size l2.envR l2.und l2.nol
   have hR0 : Rel M h w nt M ⟨putAll env ps args, [], h, []⟩ { tmps := putV lp.tmps (ps.zip xs), defers := [] } w := by
    have hg : St.get ⟨putAll env ps args, [], h, []⟩ = ctH h := getEnv ⟨[], [], h, []⟩ _ _
    refine ⟨by rw [hg]; exact hB.val, by rw [hg]; exact .refl _ _ _, fun t e he => ?_, by rw [putV_size]; exact l2.size, by simp, .nil⟩
    cases e with
    | val v => exact .val (p1 t v he)
    | loc k o => exact absurd he (p3 t k o)
    | undef =>
     have := p2 t he
     simp only at this ⊢
     rw [this]; exact .undef
   refine roundIn_of_wpIn (F := Fence.wide) trivial ?_
   split at hf
   ·rename_i s1 hex
    refine exec_ok (rnd := true) (r := some l') hm hC hB (by simp) _ _ _ _ hex n _ M _ w hR0 fun M1 a1 w1 hR1 => ?_
    split at hf
    ·rename_i f' nt' env' ps' a' b' pend' hh1
     have hl1 : M1 (.h l) = some (.obj l') := by
      obtain ⟨l0, g1, g2⟩ := hR1.ext.mle _ _ hl
      cases l0 with
      | cells ls => exact g2.elim
      | obj r' => cases g2; exact g1
     obtain ⟨blk, k1, k2⟩ := hR1.val.ok _ _ hl1 trivial
     simp only [St.get, hh1, Option.some.injEq] at k1
     subst k1
     obtain ⟨lp1, m1, m2⟩ := k2
     obtain ⟨v2, x2⟩ := objset_ok hR1.val hl1 hh1 rfl (b' := .loop false f' nt' env' ps' a' b' none) (o' := .loop { lp1 with state := .busy }) ⟨{ lp1 with state := .busy }, by simp [(Array.getElem?_eq_some_iff.1 m1).1],
      {ps := m2.ps, asg := m2.asg, body := m2.body, size := m2.size, envR := m2.envR, und := m2.und, nol := m2.nol, ready := by simp, busy := fun _ _ => rfl, done := by simp }⟩
     have hR2 := hR1.next hB (s' := { s1 with heap := s1.heap.set l (.loop false f' nt' env' ps' a' b' none), ws := addW h.length l s1.ws }) v2 x2 rfl rfl (fun _ _ e => e)
     refine ⟨{ w1 with heap := w1.heap.setIfInBounds l' (.loop { lp1 with state := .busy }) }, ?_, ?_⟩
     ·simp [Instr.beginRound, Instr.getLoop, getObj, setObj, Sem.run, m1, (m2.ready rfl).1]
     ·split at hf
      ·rename_i e s2 hex2
       refine exec_ok (rnd := true) (r := some l') hm hC hB (by simp) _ _ _ _ hex2 n _ M1 _ _ hR2 fun M3 a3 w3 hR3 => ?_
       split at hf
       ·rename_i f3 nt3 env3 ps3 a3' b3 hh3
        simp only [Option.some.injEq, Prod.mk.injEq] at hf
        obtain ⟨rfl, rfl, rfl⟩ := hf
        have hl3 : M3 (.h l) = some (.obj l') := by
         obtain ⟨l0, g1, g2⟩ := hR3.ext.mle _ _ hl
         cases l0 with
         | cells ls => exact g2.elim
         | obj r' => cases g2; exact g1
        obtain ⟨blk, k1, k2⟩ := hR3.val.ok _ _ hl3 trivial
        simp only [St.get, hh3, Option.some.injEq] at k1
        subst k1
        obtain ⟨lp3, q1, q2⟩ := k2
        let lp4 : Loop := { lp3 with state := if (jumpOf e).isNone then .ready else .done, pending := jumpOf e }
        obtain ⟨v4, x4⟩ := objset_ok hR3.val hl3 hh3 rfl (b' := .loop (isNorm e) f3 nt3 env3 ps3 a3' b3 (jumpOf e)) (o' := .loop lp4) ⟨lp4, by simp [(Array.getElem?_eq_some_iff.1 q1).1],
         {ps := q2.ps, asg := q2.asg, body := q2.body, size := q2.size, envR := q2.envR, und := q2.und, nol := q2.nol
          ready := fun hn => by cases e <;> simp [isNorm] at hn; exact ⟨rfl, rfl⟩
          busy := fun hn hp => by cases e <;> simp [isNorm, jumpOf] at hn hp
          done := fun hn j hj _ => by cases e <;> simp [isNorm] at hn <;> (simp only [jumpOf, Option.some.injEq] at hj; subst hj; exact ⟨rfl, rfl⟩) }⟩
        have hR4 := hR3.next hB (s' := { s2 with heap := s2.heap.set l (.loop (isNorm e) f3 nt3 env3 ps3 a3' b3 (jumpOf e)), ws := addW h.length l s2.ws }) v4 x4 rfl rfl (fun _ _ e => e)
        have hfin := fin_ok hB hR4 (v := .bool (isNorm e)) (y := .bool (isNorm e)) (.bool _)
        have hend : (Instr.endRound l' (jumpOf e)).run P w3 = .ok (.bool (isNorm e)) { w3 with heap := w3.heap.setIfInBounds l' (.loop lp4) } := by
         cases e <;> simp [Instr.endRound, Instr.getLoop, getObj, setObj, Sem.run, q1, isNorm, jumpOf, lp4]
        cases e with
        | norm => exact ⟨_, _, hend, hfin⟩
        | exit id => exact ⟨_, _, hend, hfin⟩
        | ret => exact ⟨_, _, hend, hfin⟩
       ·cases hf
      ·cases hf
    ·cases hf
   ·cases hf
  ·cases hf
 ·cases hf
theorem ap_ok (hm : P.follows .mixedOrders = true) : ∀ n, CallOk P (ap P T L n)
 | 0 => by
  intro fv args h v h' ws hc
  simp [ap] at hc
 | n + 1 => by
  intro fv args h v h' ws hc M w x xs hV hl hx hxs
  have ih := ap_ok hm n
  cases fv with
  | fn f first cap =>
   simp only [ap] at hc
   cases hx with
   | fn h1 h2 h3 h4 =>
    rename_i ys zs
    have hargs : VRs M.h (first ++ args ++ cap) (ys ++ xs ++ zs) := (VRs.append ⟨h1, h2⟩ hxs).append ⟨h3, h4⟩
    obtain ⟨fn, c, e1, e2, e3, e4⟩ := fun_ok hm ih hc ⟨hV, hl⟩ hargs
    refine ⟨{ target := .fn (.func f) zs.toArray, args := ys.toArray ++ xs.toArray }, fun w => by simp [Deferred.ofValue], .inl ⟨⟨f, (ys ++ xs ++ zs).toArray, ?_, e4⟩, f, first, cap, rfl⟩⟩
    have e2' : ¬ fn.name = "runtime.NumGoroutine" := by simpa using e2
    simp [invoke, callFunc, program, Sem.run, e1, e2', e3]
  | yld l =>
   simp only [ap] at hc
   cases hx with
   | yld hm' =>
    rename_i l'
    refine ⟨{ target := .fn (.yield l') #[], args := xs.toArray }, fun w => by simp [Deferred.ofValue], .inr ⟨round_ok hm ih hc ⟨hV, hl⟩ hm' hxs, l, rfl⟩⟩
  | _ => simp [ap] at hc
theorem run_ok (hm : P.follows .mixedOrders = true) {n f : Nat} {args : List TV} {v : TV} {h' : List HB} {ws : List Nat} (hr : run P T L (n + 1) f args h = some (v, h', ws)) (hV : Valid M allK (ctH h) w) (hl : ∀ k, M (.l k) = none)
  {xs : List Value} (hx : VRs M.h args xs) (k : Nat) : CallsIn Fence.wide k P f xs.toArray w (RetR (CallR M h w v h' ws)) := by
 simp only [run, ap] at hr
 have hargs : VRs M.h ([] ++ args ++ []) xs := by simpa using hx
 obtain ⟨fn, c, _, _, _, e4⟩ := fun_ok hm (ap_ok hm n) hr ⟨hV, hl⟩ hargs
 exact e4 k
end
end Tw
namespace Tw
open Go
section
variable {H : Type}
def encL (g : DataW H → List HB → Option (List TV × List HB)) (n : Nat) : List (DataW H) → List HB → Option (List TV × List HB)
 | [], h => some ([], h)
 | d :: ds, h => match g d h with
  | some (c, h1) => if c.length = n then (match encL g n ds h1 with
   | some (cs, h2) => some (c ++ cs, h2)
   | none => none) else none
  | none => none
def encF (P : Program) (g : TypeId → DataW H → List HB → Option (List TV × List HB)) : Nat → List Field → List (DataW H) → List HB → Option (List TV × List HB)
 | _, [], [], h => some ([], h)
 | o, f :: fs, d :: ds, h => match g f.type d h with
  | some (c, h1) => if f.offset = o ∧ c.length = P.cellsOf f.type then (match encF P g (o + c.length) fs ds h1 with
   | some (cs, h2) => some (c ++ cs, h2)
   | none => none) else none
  | none => none
 | _, _, _, _ => none
def encT (P : Program) : Nat → TypeId → DataW H → List HB → Option (List TV × List HB)
 | 0, _, _, _ => none
 | g + 1, t, d, h => match P.underlying t, d with
  | some .bool, .lit (.bool b) => some ([.bool b], h)
  | some (.int _), .lit (.int k n) => some ([.int k n], h)
  | some .string, .lit (.string bs) => some ([.str ⟨bs.toArray⟩], h)
  | some (.slice _), .nil => some ([.nil .slc], h)
  | some (.slice e), .slice xs ys => match encL (encT P g e) (P.cellsOf e) (xs ++ ys) h with
   | some (cs, h1) => if P.cellsOf e = 0 then none else some ([.slc h1.length 0 xs.length (xs.length + ys.length) (P.cellsOf e) true], h1 ++ [.cells .ro cs])
   | none => none
  | some (.struct fs), .agg ds => match encF P (encT P g) 0 fs.toList ds h with
   | some (cs, h1) => if cs.length = P.cellsOf t then some (cs, h1) else none
   | none => none
  | _, _ => none
variable {enc : TypeId × Value → H} {P : Program} {w : World}
structure Opened (M : Mp) (h : List HB) (w : World) : Prop where
 base : Base M h w
 ro : ∀ b ∈ h, wr b = false
def Reads (enc : TypeId × Value → H) (P : Program) (w : World) (t : TypeId) (cs : List Value) (d : DataW H) : Prop :=
 ∃ fuel ps, DataW.trod enc P w 0 (fun _ => true) true fuel t cs = some (d, ps)
def EncOk (enc : TypeId × Value → H) (P : Program) (w : World) (g : TypeId → DataW H → List HB → Option (List TV × List HB)) : Prop :=
 ∀ t d h r, g t d h = some r → ∀ cs, Reads enc P w t cs d → ∀ M, Opened M h w → ∃ M', Opened M' r.2 w ∧ Mle M M' ∧ VRs M'.h r.1 cs ∧ ∀ c ∈ r.1, oneT c = true
theorem encL_ok {g : TypeId → DataW H → List HB → Option (List TV × List HB)} (hg : EncOk enc P w g) {e : TypeId} {n : Nat} : ∀ (ds : List (DataW H)) (css : List (List Value)) (h : List HB) (r : List TV × List HB), encL (g e) n ds h = some r →
  css.length = ds.length → (∀ (i : Nat) (d : DataW H) (cs : List Value), ds[i]? = some d → css[i]? = some cs → Reads enc P w e cs d) → ∀ M, Opened M h w →
  ∃ M', Opened M' r.2 w ∧ Mle M M' ∧ VRs M'.h r.1 css.flatten ∧ (∀ c ∈ r.1, oneT c = true) ∧ r.1.length = ds.length * n ∧ ∀ cs ∈ css, cs.length = n
 | [], css, h, r, hr, hl, hd, M, hB => by
  simp only [encL, Option.some.injEq] at hr; subst hr
  have : css = [] := List.eq_nil_of_length_eq_zero (by simpa using hl)
  subst this
  exact ⟨M, hB, .refl M, .nil, by simp, by simp, by simp⟩
 | d :: ds, [], h, r, hr, hl, hd, M, hB => by simp at hl
 | d :: ds, cs :: css, h, r, hr, hl, hd, M, hB => by
  simp only [encL] at hr
  split at hr
  ·rename_i c h1 hc
   split at hr
   ·rename_i hn
    split at hr
    ·rename_i cs' h2 hcs
     simp only [Option.some.injEq] at hr; subst hr
     obtain ⟨M1, b1, m1, v1, o1⟩ := hg e d h (c, h1) hc cs (hd 0 d cs rfl rfl) M hB
     obtain ⟨M2, b2, m2, v2, o2, l2, u2⟩ := encL_ok hg ds css h1 (cs', h2) hcs (by simpa using hl) (fun i d' cs'' e1 e2 => hd (i + 1) d' cs'' (by simpa using e1) (by simpa using e2)) M1 b1
     refine ⟨M2, b2, m1.trans m2, ?_, ?_, ?_, ?_⟩
     ·rw [List.flatten_cons]
      exact (v1.mono m2.h).append v2
     ·intro x hx
      rcases List.mem_append.1 hx with hx | hx
      ·exact o1 x hx
      ·exact o2 x hx
     ·simp only [List.length_append, l2, hn, List.length_cons, Nat.add_mul, Nat.one_mul]; omega
     ·intro x hx
      rcases List.mem_cons.1 hx with rfl | hx
      ·have := v1.len
       simp only at this
       omega
      ·exact u2 x hx
    ·cases hr
   ·cases hr
  ·cases hr
theorem encF_ok {g : TypeId → DataW H → List HB → Option (List TV × List HB)} (hg : EncOk enc P w g) {cs : List Value} : ∀ (fs : List Field) (ds : List (DataW H)) (o : Nat) (h : List HB) (r : List TV × List HB), encF P g o fs ds h = some r →
  (∀ (i : Nat) (f : Field) (d : DataW H), fs[i]? = some f → ds[i]? = some d → Reads enc P w f.type ((cs.drop f.offset).take (P.cellsOf f.type)) d) → ∀ M, Opened M h w →
  ∃ M', Opened M' r.2 w ∧ Mle M M' ∧ VRs M'.h r.1 ((cs.drop o).take r.1.length) ∧ ∀ c ∈ r.1, oneT c = true
 | [], [], o, h, r, hr, hd, M, hB => by
  simp only [encF, Option.some.injEq] at hr; subst hr
  exact ⟨M, hB, .refl M, by simpa using VRs.nil, by simp⟩
 | [], d :: ds, o, h, r, hr, hd, M, hB => by simp [encF] at hr
 | f :: fs, [], o, h, r, hr, hd, M, hB => by simp [encF] at hr
 | f :: fs, d :: ds, o, h, r, hr, hd, M, hB => by
  simp only [encF] at hr
  split at hr
  ·rename_i c h1 hc
   split at hr
   ·rename_i hn
    obtain ⟨ho, hn⟩ := hn
    split at hr
    ·rename_i cs' h2 hcs
     simp only [Option.some.injEq] at hr; subst hr
     obtain ⟨M1, b1, m1, v1, o1⟩ := hg f.type d h (c, h1) hc _ (hd 0 f d rfl rfl) M hB
     obtain ⟨M2, b2, m2, v2, o2⟩ := encF_ok hg fs ds (o + c.length) h1 (cs', h2) hcs (fun i f' d' e1 e2 => hd (i + 1) f' d' (by simpa using e1) (by simpa using e2)) M1 b1
     refine ⟨M2, b2, m1.trans m2, ?_, ?_⟩
     ·have := (v1.mono m2.h).append v2
      rw [ho, ← hn] at this
      simp only at this ⊢
      rw [List.length_append, List.take_add, List.drop_drop]
      exact this
     ·intro x hx
      rcases List.mem_append.1 hx with hx | hx
      ·exact o1 x hx
      ·exact o2 x hx
    ·cases hr
   ·cases hr
  ·cases hr
theorem flatten_get {n : Nat} : ∀ {css : List (List Value)}, (∀ cs ∈ css, cs.length = n) → ∀ (i j : Nat), j < n → css.flatten[i * n + j]? = (css[i]?).bind (·[j]?)
 | [], _, i, j, _ => by simp
 | cs :: css, h, 0, j, hj => by
  have := h cs List.mem_cons_self
  simp only [List.flatten_cons, Nat.zero_mul, Nat.zero_add]
  rw [List.getElem?_append_left (by omega)]
  simp
 | cs :: css, h, i + 1, j, hj => by
  have hc := h cs List.mem_cons_self
  simp only [List.flatten_cons]
  rw [List.getElem?_append_right (by rw [hc, Nat.add_mul, Nat.one_mul]; omega), hc]
  rw [show (i + 1) * n + j - n = i * n + j by rw [Nat.add_mul, Nat.one_mul]; omega]
  rw [flatten_get (fun x hx => h x (List.mem_cons_of_mem _ hx)) i j hj]
  simp
theorem ro_push {M : Mp} {h : List HB} (hB : Opened M h w) {cs : List TV} {ls : List Pl} (h1 : ∀ c ∈ cs, oneT c = true) (h2 : ∀ p ∈ ls, PlOk M.h w .ro cs p) :
  ∃ M', Opened M' (h ++ [.cells .ro cs]) w ∧ Mle M M' ∧ M' (.h h.length) = some (.cells ls) := by
 have hget : ctH h (.h h.length) = none := by simp [ctH, St.get]
 have hnh : M (.h h.length) = none := by
  cases hm : M (.h h.length) with
  | none => rfl
  | some l => have := hB.base.val.has hm; rw [hget] at this; cases this
 have hle : Mle M (updM M (.h h.length) (.cells ls)) := updM_le fun l0 h0 => by rw [hnh] at h0; cases h0
 have hg : ctH (h ++ [.cells .ro cs]) = updC (ctH h) (.h h.length) (.cells .ro cs) := get_push ⟨[], [], h, []⟩ _ [] []
 have hro : ∀ b ∈ h ++ [HB.cells .ro cs], wr b = false := fun b hb => by
  rcases List.mem_append.1 hb with hb | hb
  ·exact hB.ro b hb
  ·simp at hb; subst hb; rfl
 refine ⟨updM M (.h h.length) (.cells ls), ⟨⟨⟨?_, ?_, ?_⟩, fun k => ?_⟩, hro⟩, hle, by simp [updM]⟩
 ·intro k l hk _
  rw [hg]
  by_cases hkk : k = .h h.length
  ·subst hkk
   simp only [updM, if_true, Option.some.injEq] at hk; subst hk
   exact ⟨.cells .ro cs, by simp [updC], h1, fun p hp => (h2 p hp).mono hle.h rfl, by simp, by simp⟩
  ·simp only [updM, hkk, if_false] at hk
   obtain ⟨b, g1, g2⟩ := hB.base.val.ok k l hk trivial
   exact ⟨b, by simp [updC, hkk, g1], g2.mono hle.h fun _ _ => rfl⟩
 ·intro k k' l l' b hne hk hk' _ hb hw
  have : wr b = false := by
   cases k with
   | h x => exact hro b (List.mem_of_getElem? hb)
   | l x => simp [ctH, St.get] at hb
  rw [this] at hw; cases hw
 ·intro k l hk c hc
  by_cases hkk : k = .h h.length
  ·subst hkk
   simp only [updM, if_true, Option.some.injEq] at hk; subst hk
   obtain ⟨p, hp, rfl⟩ := List.mem_map.1 hc
   obtain ⟨arr, ty, fz, g1, _⟩ := (h2 p hp).row
   exact (Array.getElem?_eq_some_iff.1 g1).1
  ·simp only [updM, hkk, if_false] at hk
   exact hB.base.val.inb k l hk c hc
 ·simp [updM]; exact hB.base.loc k
theorem encT_ok : ∀ g, EncOk enc P w (encT P g)
 | 0 => by intro t d h r hr; simp [encT] at hr
 | g + 1 => by
  intro t d h r hr cs hd M hB
  obtain ⟨fuel, ps, hd⟩ := hd
  have ih := encT_ok g
  simp only [encT] at hr
  split at hr
  ·-- bool
   rename_i b hu
   simp only [Option.some.injEq] at hr; subst hr
   refine ⟨M, hB, .refl M, ?_, by simp [oneT]⟩
   cases fuel with
   | zero => simp [DataW.trod] at hd
   | succ n =>
    unfold DataW.trod at hd
    rw [hu] at hd
    split at hd <;> simp_all
    exact .cons (.bool _) .nil
  ·-- int
   rename_i k0 k n hu
   simp only [Option.some.injEq] at hr; subst hr
   refine ⟨M, hB, .refl M, ?_, by simp [oneT]⟩
   cases fuel with
   | zero => simp [DataW.trod] at hd
   | succ n =>
    unfold DataW.trod at hd
    rw [hu] at hd
    split at hd <;> simp_all
    exact .cons (.int _ _) .nil
  ·-- string
   rename_i bs hu
   simp only [Option.some.injEq] at hr; subst hr
   refine ⟨M, hB, .refl M, ?_, by simp [oneT]⟩
   cases fuel with
   | zero => simp [DataW.trod] at hd
   | succ n =>
    unfold DataW.trod at hd
    rw [hu] at hd
    split at hd <;> simp_all
    obtain ⟨_, rfl, _⟩ := hd
    exact .cons (.str _) .nil
  ·-- nil slice
   rename_i e hu
   simp only [Option.some.injEq] at hr; subst hr
   refine ⟨M, hB, .refl M, ?_, by simp [oneT]⟩
   rcases Deep.open_slice hu hd with ⟨rfl, _⟩ | ⟨a, len, cap, m, n, Dt, Pl, _, _, _, _, _, hx, _⟩
   ·exact .cons .nslc .nil
   ·cases hx
  ·-- a slice
   rename_i e xs ys hu
   split at hr
   ·rename_i cells h1 hl
    split at hr
    ·cases hr
    ·rename_i hn0
     simp only [Option.some.injEq] at hr; subst hr
     rcases Deep.open_slice hu hd with ⟨rfl, hx⟩ | ⟨a, len, cap, m, n, Dt, Pl, rfl, _, hlc, hmax, hm, hx, hat⟩
     ·cases hx
     ·simp only [if_true] at hm
      have hm' := hm.symm
      subst hm'
      simp only [Prod.mk.injEq, DataW.slice.injEq] at hx
      obtain ⟨⟨hxs, hys⟩, _⟩ := hx
      have lxs : xs.length = len := by rw [hxs]; simp
      have lys : ys.length = cap - len := by rw [hys]; simp
      have hds : ∀ i, i < cap → (xs ++ ys)[i]? = some (Dt i) := by
       intro i hi
       by_cases h1 : i < len
       ·rw [List.getElem?_append_left (by omega), hxs]
        simp [h1]
       ·rw [List.getElem?_append_right (by omega), lxs, hys]
        have h2 : i - len < cap - len := by omega
        simp [h2, show len + (i - len) = i by omega]
      have hn := hat
      let css : List (List Value) := (List.range cap).map fun i => (w.cells? 0 (a.add (i * P.cellsOf e)) (P.cellsOf e)).getD []
      have hcs : ∀ i, i < cap → ∃ cs', css[i]? = some cs' ∧ w.cells? 0 (a.add (i * P.cellsOf e)) (P.cellsOf e) = some cs' ∧ DataW.trod enc P w 0 (fun _ => true) true n e cs' = some (Dt i, Pl i) := by
       intro i hi
       obtain ⟨cs', e1, e2⟩ := hat i hi
       exact ⟨cs', by simp [css, hi, e1], e1, e2⟩
      have lcss : css.length = cap := by simp [css]
      obtain ⟨M1, b1, m1, v1, o1, l1, u1⟩ := encL_ok ih (xs ++ ys) css h (cells, h1) hl (by simp [lcss, lxs, lys]; omega) (fun i d cs e1 e2 => by
       have hi : i < cap := by rw [← lcss]; exact (List.getElem?_eq_some_iff.1 e2).1
       obtain ⟨cs', f1, f2, f3⟩ := hcs i hi
       rw [f1] at e2; cases e2
       rw [hds i hi] at e1; cases e1
       exact ⟨n, _, f3⟩) M hB
      simp only at b1 v1 o1 l1
      have l1' : cells.length = cap * P.cellsOf e := by rw [l1]; simp [lxs, lys]; congr 1; omega
      have hn0' : 0 < P.cellsOf e := by omega
      have e1 : xs.length + ys.length = cap := by omega
      show ∃ M', Opened M' (h1 ++ [.cells .ro cells]) w ∧ Mle M M' ∧ VRs M'.h [.slc h1.length 0 xs.length (xs.length + ys.length) (P.cellsOf e) true] [.slice (some a) len cap] ∧ ∀ c ∈ [TV.slc h1.length 0 xs.length (xs.length + ys.length) (P.cellsOf e) true], oneT c = true
      rw [e1, lxs]
      by_cases hc0 : cap = 0
      ·obtain ⟨M2, b2, m2, k2⟩ := ro_push b1 (cs := cells) (ls := []) o1 (by simp)
       refine ⟨M2, b2, m1.trans m2, .cons (.slc (p := ⟨0, 0, 0, 0⟩) k2 (.inl hc0) ?_ ?_ ?_ ?_ (.inl hc0) (by unfold maxLen at hmax; omega)) .nil, by intro c hc; simp at hc; subst hc; rfl⟩
       ·simp [hc0]
       ·omega
       ·omega
       ·intro _; omega
      ·have hcell : ∀ k, k < cap * P.cellsOf e → w.cell? (a.add k) = css.flatten[k]? := by
        intro k hk
        have hj : k % P.cellsOf e < P.cellsOf e := Nat.mod_lt _ hn0'
        have hi : k / P.cellsOf e < cap := by rw [Nat.div_lt_iff_lt_mul hn0']; exact hk
        have hkk : k / P.cellsOf e * P.cellsOf e + k % P.cellsOf e = k := by
         rw [Nat.mul_comm]; exact Nat.div_add_mod k _
        obtain ⟨cs', f1, f2, _⟩ := hcs _ hi
        obtain ⟨_, _, f3⟩ := World.cells?_some f2
        have f4 := f3 _ hj
        rw [Deep.add_add, hkk] at f4
        have f5 := flatten_get u1 (k / P.cellsOf e) (k % P.cellsOf e) hj
        rw [hkk, f1] at f5
        rw [f4, f5]; rfl
       have hpos : 0 < cap * P.cellsOf e := Nat.mul_pos (by omega) hn0'
       have lfl : css.flatten.length = cap * P.cellsOf e := by rw [← v1.len, l1']
       have h00 := hcell 0 hpos
       have hv0 : css.flatten[0]? = some (css.flatten[0]'(by omega)) := List.getElem?_eq_getElem _
       rw [hv0, Addr.add, if_pos rfl] at h00
       have hrow : ∃ arr ty fz, w.heap[a.block]? = some (.cells arr ty fz) ∧ a.spot = none := by
        unfold World.cell? at h00
        split at h00
        ·rename_i c ty fz hh
         split at h00
         ·cases h00
         ·rename_i hsp
          exact ⟨c, ty, fz, hh, by simpa using hsp⟩
        ·cases h00
       obtain ⟨arr, ty, fz, hh, hsp⟩ := hrow
       have hcellarr : ∀ k, w.cell? (a.add k) = arr[a.off + k]? := by
        intro k
        unfold World.cell? Addr.add
        by_cases hk : k = 0
        ·subst hk; simp [hh, hsp]
        ·simp [hk, hh]
       have hbound : a.off + cap * P.cellsOf e ≤ arr.size := by
        have h1 := hcell (cap * P.cellsOf e - 1) (by omega)
        rw [hcellarr, List.getElem?_eq_getElem (by omega)] at h1
        have := (Array.getElem?_eq_some_iff.1 h1).1
        omega
       obtain ⟨M2, b2, m2, k2⟩ := ro_push b1 (cs := cells) (ls := [⟨a.block, a.off, cap * P.cellsOf e, arr.size⟩]) o1 (by
        intro p hp
        simp at hp; subst hp
        refine ⟨⟨arr, ty, fz, hh, rfl, by simp, fun _ i c v hi e1 e2 => ?_⟩, hbound, Nat.le_of_eq l1'.symm, by simp⟩
        simp only at hi e2
        rw [← hcellarr, hcell i hi] at e2
        exact v1.at_ i c v e1 e2)
       refine ⟨M2, b2, m1.trans m2, .cons (.slc (p := ⟨a.block, a.off, cap * P.cellsOf e, arr.size⟩) k2 (.inr (by simp)) ?_ ?_ ?_ ?_ (.inr ⟨?_, ?_⟩) (by unfold maxLen at hmax; omega)) .nil, by intro c hc; simp at hc; subst hc; rfl⟩
       ·simp
       ·omega
       ·omega
       ·intro _; omega
       ·cases a; simp_all
       ·simpa using hbound
   ·cases hr
  ·-- a struct
   rename_i fs ds hu
   split at hr
   ·rename_i cs' h1 hl
    split at hr
    ·rename_i hlen
     simp only [Option.some.injEq] at hr; subst hr
     obtain ⟨zs, n, _, hx, hcl, hzl, hat⟩ := DataW.trod_struct hu hd
     simp only [Prod.mk.injEq, DataW.agg.injEq] at hx
     obtain ⟨rfl, _⟩ := hx
     obtain ⟨M', b1, m1, v1, o1⟩ := encF_ok ih fs.toList _ 0 h (cs', h1) hl (cs := cs) (fun i f d e1 e2 => by
      have e1' : fs[i]? = some f := by simpa using e1
      simp only [List.getElem?_map, Option.map_eq_some_iff] at e2
      obtain ⟨z, hz, rfl⟩ := e2
      exact ⟨n, z.2, by rw [hat i f e1', hz]⟩) M hB
     refine ⟨M', b1, m1, ?_, o1⟩
     simp only at v1 ⊢
     rw [hlen, ← hcl] at v1
     simpa using v1
    ·cases hr
   ·cases hr
  ·cases hr
end
end Tw
namespace Tw
open Go Go.ChangeShapes Go.WideShapes Go.RowKit
section
variable {H : Type} {enc : TypeId × Value → H} {P : Program} {W W' : World}
def encA (P : Program) (g : Nat) : List TypeId → List (DataW H) → List HB → Option (List TV × List HB)
 | [], [], h => some ([], h)
 | t :: ts, d :: ds, h => match encT P g t d h with
  | some (c, h1) => match isAggT P t, c, encA P g ts ds h1 with
   | some true, c, some (az, h2) => some (.agg c :: az, h2)
   | some false, [x], some (az, h2) => some (x :: az, h2)
   | _, _, _ => none
  | none => none
 | _, _, _ => none
theorem okWide_one {r : Reach} {b : Nat} {t : TypeId} {v : Value} (ha : isAggT P t = some false) (h : Value.okWide P W r b t v) : v.cells.toList = [v] := by
 unfold isAggT at ha
 unfold Value.okWide at h
 cases hu : P.underlying t with
 | none => simp [hu] at ha
 | some u =>
  rw [hu] at ha h
  cases v with
  | agg cs => cases u <;> simp_all [Cell.okWide, Cell.ok]
  | _ => rfl
theorem okWide_agg {r : Reach} {b : Nat} {t : TypeId} {v : Value} (ha : isAggT P t = some true) (h : Value.okWide P W r b t v) : ∃ cs, v = .agg cs := by
 unfold isAggT at ha
 unfold Value.okWide at h
 cases hu : P.underlying t with
 | none => simp [hu] at ha
 | some u =>
  rw [hu] at ha h
  cases u <;> simp_all <;> exact ⟨_, h.choose_spec.1⟩
theorem encA_ok {r : Reach} {b g : Nat} : ∀ {ts : List TypeId} {vs : List Value} {ds : List (DataW H)} {ps : List MemPlace} {h : List HB} {x : List TV × List HB} {M : Mp},
  DataW.TrodAll enc P W 0 (fun _ => true) true ts vs ds ps → (∀ (j : Nat) t v, ts[j]? = some t → vs[j]? = some v → Value.okWide P W r b t v) → encA P g ts ds h = some x → Opened M h W →
  ∃ M', Opened M' x.2 W ∧ Mle M M' ∧ VRs M'.h x.1 vs
 | [], vs, ds, ps, h, x, M, ht, ho, he, hB => by
  obtain ⟨rfl, rfl, rfl⟩ := trodAll_nil ht
  simp only [encA, Option.some.injEq] at he; subst he
  exact ⟨M, hB, .refl M, .nil⟩
 | t :: ts, vs, ds, ps, h, x, M, ht, ho, he, hB => by
  obtain ⟨v, vs', d, ds', p, q, rfl, rfl, rfl, hd, hrest⟩ := trodAll_cons ht
  simp only [encA] at he
  split at he
  ·rename_i c h1 hc
   obtain ⟨fuel, hf⟩ := hd
   obtain ⟨M1, b1, m1, v1, o1⟩ := encT_ok (enc := enc) (P := P) (w := W) g t d h (c, h1) hc v.cells.toList ⟨fuel, p, hf⟩ M hB
   split at he
   ·rename_i az h2 ha hr
    simp only [Option.some.injEq] at he; subst he
    obtain ⟨M2, b2, m2, v2⟩ := encA_ok (x := (az, h2)) hrest (fun j t' v' e1 e2 => ho (j + 1) t' v' (by simpa using e1) (by simpa using e2)) hr b1
    obtain ⟨cs, rfl⟩ := okWide_agg ha (ho 0 t v rfl rfl)
    refine ⟨M2, b2, m1.trans m2, .cons ?_ v2⟩
    have := VR.agg' (v1.mono m2.h)
    simpa [Value.cells] using this
   ·rename_i y az h2 ha hr
    simp only [Option.some.injEq] at he; subst he
    obtain ⟨M2, b2, m2, v2⟩ := encA_ok (x := (az, h2)) hrest (fun j t' v' e1 e2 => ho (j + 1) t' v' (by simpa using e1) (by simpa using e2)) hr b1
    have h1c := okWide_one ha (ho 0 t v rfl rfl)
    rw [h1c] at v1
    obtain ⟨z, zs, e1, e2, e3⟩ := (v1.mono m2.h).inv_cons
    simp only [List.cons.injEq] at e1
    obtain ⟨rfl, rfl⟩ := e1
    exact ⟨M2, b2, m1.trans m2, .cons e2 v2⟩
   ·cases he
  ·cases he
theorem trodAll_below (hl : laidOutB P = true) (hb : Below W.heap.size W W') : ∀ {ts : List TypeId} {vs : List Value} {ds : List (DataW H)} {ps : List MemPlace},
  (ts.all fun t => P.readableRec t && decide (t < P.types.size)) = true → DataW.TrodAll enc P W 0 (fun _ => true) true ts vs ds ps → (∀ x ∈ ps, x.block < W.heap.size) →
  DataW.TrodAll enc P W' 0 (fun b => decide (b < W.heap.size)) true ts vs ds ps
 | [], _, _, _, _, h, _ => by
  obtain ⟨rfl, rfl, rfl⟩ := trodAll_nil h
  rfl
 | t :: ts, _, _, _, ho, h, hlt => by
  obtain ⟨v, vs', d, ds', p, q, rfl, rfl, rfl, hd, hrest⟩ := trodAll_cons h
  simp only [List.all_cons, Bool.and_eq_true, decide_eq_true_eq] at ho
  exact ⟨p, q, Below.trod hl ho.1.1 ho.1.2 hd hb (fun x hx => hlt x (List.mem_append_left _ hx)), trodAll_below hl hb ho.2 hrest (fun x hx => hlt x (List.mem_append_right _ hx)), rfl⟩
theorem post_true {f : Func} {s : ChangeSpec} {args : Array Value} {ds : List (DataW H)} {before : List MemPlace} {tb : TypeId} (hl : laidOutB P = true) (hv : s.vars = []) (hs : s.fn H ds = { results := [.lit (.bool true)], args := ds })
  (hf : f.resultTypes = #[tb]) (htb : P.underlying tb = some .bool) (hp : (f.params.toList.all fun t => P.readableRec t && decide (t < P.types.size)) = true)
  (hW : DataW.Whole enc P f.params.toList s.vars false W args.toList ds [] before) (hb : Below W.heap.size W W') : s.post enc P f false true false false W args (.bool true) W' := by
 have hW' := hW
 obtain ⟨p, q, hA, hV, rfl, hfz, hnd⟩ := hW
 rw [hv] at hV
 have hq : q = [] := hV
 subst hq
 have hlt : ∀ x ∈ p, x.block < W.heap.size := fun x hx => by simpa using hW'.lt x (List.mem_append_left _ hx)
 refine ⟨ds, [], p ++ [], [], p, [], hW', ?_, ?_, ?_, hb.frame _, by simp⟩
 ·rw [List.append_nil, hs, hf]
  refine ⟨[], [], ⟨1, ?_⟩, rfl, rfl⟩
  simp [DataW.trod, htb, Value.cells]
 ·rw [List.append_nil, hs]
  exact trodAll_below hl hb hp hA hlt
 ·rw [List.append_nil, hs, hv]
  rfl
theorem law_calls {T : Tab} {L n g fnum : Nat} {f : Func} {s : ChangeSpec} {args : Array Value} {ds : List (DataW H)} {before : List MemPlace} {tb : TypeId} {r : Reach} {b : Nat} (hm : P.follows .mixedOrders = true)
  (hl : laidOutB P = true) (hv : s.vars = []) (hs : s.fn H ds = { results := [.lit (.bool true)], args := ds })
  (hf : f.resultTypes = #[tb]) (htb : P.underlying tb = some .bool) (hp : (f.params.toList.all fun t => P.readableRec t && decide (t < P.types.size)) = true)
  (hW : DataW.Whole enc P f.params.toList s.vars false W args.toList ds [] before)
  (hval : ∀ (j : Nat) t v, f.params[j]? = some t → args[j]? = some v → Value.okWide P W r b t v)
  {az : List TV} {h h' : List HB} (he : encA P g f.params.toList ds [] = some (az, h)) (hr : run P T L (n + 1) fnum az h = some (.bool true, h', [])) :
  Calls P fnum args W fun e W' => ∃ v, e = .returned v ∧ s.post enc P f false true false false W args v W' := by
 obtain ⟨p, q, hA, _⟩ := id hW
 have h0 : Opened (fun _ => none) [] W := ⟨⟨⟨by simp, by simp, by simp⟩, by simp⟩, by simp⟩
 obtain ⟨M', b1, _, v1⟩ := encA_ok hA (fun j t v e1 e2 => hval j t v (by simpa using e1) (by simpa using e2)) he h0
 have hc := run_ok hm hr b1.base.val b1.base.loc v1 0
 refine (callsIn_wide.1 hc).mono fun e W' hR => ?_
 cases e with
 | panicked c => exact hR.elim
 | outgrown => exact hR.elim
 | returned v =>
  obtain ⟨M2, _, _, hX, hv'⟩ := hR
  cases hv'
  refine ⟨_, rfl, post_true hl hv hs hf htb hp hW ⟨hX.os, hX.tape, hX.output, hX.size, fun k hk => hX.frame k hk (by simp)⟩⟩
end
end Tw
namespace Tw
open Go
def funN (P : Program) (T : Tab) (call : CallT) (L : Nat) (f : Nat) (args : List TV) (h : List HB) : Option (TV × List HB × List Nat) :=
 match fnT P f with
 | some t => match exec P T call L f false h.length t.nt t.body ⟨argEnv 0 args, [], h, []⟩ with
  | some (.norm, s) | some (.ret, s) => match resTs P s t.results with
   | some vs => some (one vs, s.heap, s.ws)
   | none => none
  | _ => none
 | none => none
def apN (P : Program) (T : Tab) (L : Nat) : Nat → CallT
 | 0, _, _, _ => none
 | n + 1, .fn f first cap, args, h => if T.exts.contains f = true then T.ext (.fn f first cap) args h else funN P T (apN P T L n) L f (first ++ args ++ cap) h
 | n + 1, .yld l, args, h => roundT P T (apN P T L n) L l args h
 | _, _, _, _ => none
def runN (P : Program) (T : Tab) (L n f : Nat) (args : List TV) (h : List HB) : Option (TV × List HB × List Nat) := apN P T L n (.fn f [] []) args h
section
variable {P : Program} {T : Tab} {call : CallT} {L : Nat} {nt : Nat} {M : Mp} {h : List HB} {w : World}
theorem fun_okN (hm : P.follows .mixedOrders = true) (hC : CallOk P call) {f : Nat} {args : List TV} {v : TV} {h' : List HB} {ws : List Nat} (hf : funN P T call L f args h = some (v, h', ws)) (hB : Base M h w) {xs : List Value} (hx : VRs M.h args xs) :
  ∃ fn c, P.funcs[f]? = some fn ∧ (fn.name == "runtime.NumGoroutine") = false ∧ fn.body = some c ∧ ∀ n, CallsIn Fence.wide n P f xs.toArray w (RetR (CallR M h w v h' ws)) := by
 unfold funN fnT at hf
 split at hf
 ·rename_i t ht
  split at ht
  ·rename_i fn hfn
   split at ht
   ·cases ht
   ·rename_i hname
    split at ht
    ·rename_i c hc
     cases ht
     refine ⟨fn, c, hfn, by simpa using hname, hc, fun n => ?_⟩
     have hR0 : Rel M h w fn.ntmps M ⟨argEnv 0 args, [], h, []⟩ { tmps := xs.toArray ++ Array.replicate (fn.ntmps - xs.toArray.size) Go.undef, defers := [] } w := by
      have hg : St.get ⟨argEnv 0 args, [], h, []⟩ = ctH h := getEnv ⟨[], [], h, []⟩ _ _
      refine ⟨by rw [hg]; exact hB.val, by rw [hg]; exact .refl _ _ _, fun t e hl => ?_, by simp; omega, by simp, .nil⟩
      obtain ⟨i, v', x, e1, rfl, e3, e4⟩ := argEnv_ok hx hl
      have hi : i < xs.length := (List.getElem?_eq_some_iff.1 e3).1
      have : (xs.toArray ++ Array.replicate (fn.ntmps - xs.toArray.size) Go.undef).getD t Go.undef = x := by
       rw [Array.getD_eq_getD_getElem?, Array.getElem?_append_left (by simp; omega)]
       have : t = i := by omega
       subst this
       simp [e3]
      rw [this]
      exact .val e4
     have hfin : ∀ (s : St), (match resTs P s fn.results.toList with
       | some vs => some (one vs, s.heap, s.ws)
       | none => none) = some (v, h', ws) → ∀ (M' : Mp) (a' : Act) (w' : World), Rel M h w fn.ntmps M' s a' w' → LeavesInM Fence.wide n P fn a'.tmps (RetR (CallR M h w v h' ws)) a'.defers .returning w' := by
      intro s hs M' a' w' hR'
      split at hs
      ·rename_i vs hvs
       refine leave_ok hB a'.defers a' w' rfl hR' fun w'' hR'' => ?_
       obtain ⟨y, g1, g2⟩ := results_ok (P := P) hR'' hvs
       refine ⟨y, g2, ?_⟩
       simp only [Option.some.injEq, Prod.mk.injEq] at hs
       obtain ⟨rfl, rfl, rfl⟩ := hs
       exact fin_ok hB hR'' g1
      ·cases hs
     refine callsIn_of_wp_marks (F := Fence.wide) hfn hc trivial ?_
     split at hf
     ·rename_i s hex
      exact exec_ok (rnd := false) hm hC hB (fun _ => rfl) _ _ _ _ hex n _ M _ w hR0 fun M' a' w' hR' => hfin s hf M' a' w' hR'
     ·rename_i s hex
      exact exec_ok (rnd := false) hm hC hB (fun _ => rfl) _ _ _ _ hex n _ M _ w hR0 fun M' a' w' hR' => hfin s hf M' a' w' hR'
     ·cases hf
    ·cases ht
  ·cases ht
 ·cases hf
theorem ap_okN (hm : P.follows .mixedOrders = true) (hE : CallOk P T.ext) : ∀ n, CallOk P (apN P T L n)
 | 0 => by
  intro fv args h v h' ws hc
  simp [apN] at hc
 | n + 1 => by
  intro fv args h v h' ws hc M w x xs hV hl hx hxs
  have ih := ap_okN hm hE n
  cases fv with
  | fn f first cap =>
   simp only [apN] at hc
   split at hc
   ·exact hE _ _ _ _ _ _ hc M w x xs hV hl hx hxs
   rename_i hnx
   cases hx with
   | fn h1 h2 h3 h4 =>
    rename_i ys zs
    have hargs : VRs M.h (first ++ args ++ cap) (ys ++ xs ++ zs) := (VRs.append ⟨h1, h2⟩ hxs).append ⟨h3, h4⟩
    obtain ⟨fn, c, e1, e2, e3, e4⟩ := fun_okN hm ih hc ⟨hV, hl⟩ hargs
    refine ⟨{ target := .fn (.func f) zs.toArray, args := ys.toArray ++ xs.toArray }, fun w => by simp [Deferred.ofValue], .inl ⟨⟨f, (ys ++ xs ++ zs).toArray, ?_, e4⟩, f, first, cap, rfl⟩⟩
    have e2' : ¬ fn.name = "runtime.NumGoroutine" := by simpa using e2
    simp [invoke, callFunc, program, Sem.run, e1, e2', e3]
  | yld l =>
   simp only [apN] at hc
   cases hx with
   | yld hm' =>
    rename_i l'
    refine ⟨{ target := .fn (.yield l') #[], args := xs.toArray }, fun w => by simp [Deferred.ofValue], .inr ⟨round_ok hm ih hc ⟨hV, hl⟩ hm' hxs, l, rfl⟩⟩
  | _ => simp [apN] at hc
theorem run_okN (hm : P.follows .mixedOrders = true) (hE : CallOk P T.ext) {n f : Nat} {args : List TV} {v : TV} {h' : List HB} {ws : List Nat} (hnf : T.exts.contains f = false) (hr : runN P T L (n + 1) f args h = some (v, h', ws)) (hV : Valid M allK (ctH h) w) (hl : ∀ k, M (.l k) = none)
  {xs : List Value} (hx : VRs M.h args xs) (k : Nat) : CallsIn Fence.wide k P f xs.toArray w (RetR (CallR M h w v h' ws)) := by
 simp only [runN, apN, hnf, Bool.false_eq_true, if_false] at hr
 have hargs : VRs M.h ([] ++ args ++ []) xs := by simpa using hx
 obtain ⟨fn, c, _, _, _, e4⟩ := fun_okN hm (ap_okN hm hE n) hr ⟨hV, hl⟩ hargs
 exact e4 k
end
open Go Go.ChangeShapes Go.WideShapes Go.RowKit
section
variable {H : Type} {enc : TypeId × Value → H} {P : Program} {W W' : World}
theorem law_callsN {T : Tab} {L n g fnum : Nat} {f : Func} {s : ChangeSpec} {args : Array Value} {ds : List (DataW H)} {before : List MemPlace} {tb : TypeId} {r : Reach} {b : Nat} (hm : P.follows .mixedOrders = true)
  (hl : laidOutB P = true) (hv : s.vars = []) (hs : s.fn H ds = { results := [.lit (.bool true)], args := ds })
  (hf : f.resultTypes = #[tb]) (htb : P.underlying tb = some .bool) (hp : (f.params.toList.all fun t => P.readableRec t && decide (t < P.types.size)) = true)
  (hW : DataW.Whole enc P f.params.toList s.vars false W args.toList ds [] before)
  (hval : ∀ (j : Nat) t v, f.params[j]? = some t → args[j]? = some v → Value.okWide P W r b t v)
  {az : List TV} {h h' : List HB} (he : encA P g f.params.toList ds [] = some (az, h)) (hE : CallOk P T.ext) (hnf : T.exts.contains fnum = false) (hr : runN P T L (n + 1) fnum az h = some (.bool true, h', [])) :
  Calls P fnum args W fun e W' => ∃ v, e = .returned v ∧ s.post enc P f false true false false W args v W' := by
 obtain ⟨p, q, hA, _⟩ := id hW
 have h0 : Opened (fun _ => none) [] W := ⟨⟨⟨by simp, by simp, by simp⟩, by simp⟩, by simp⟩
 obtain ⟨M', b1, _, v1⟩ := encA_ok hA (fun j t v e1 e2 => hval j t v (by simpa using e1) (by simpa using e2)) he h0
 have hc := run_okN hm hE hnf hr b1.base.val b1.base.loc v1 0
 refine (callsIn_wide.1 hc).mono fun e W' hR => ?_
 cases e with
 | panicked c => exact hR.elim
 | outgrown => exact hR.elim
 | returned v =>
  obtain ⟨M2, _, _, hX, hv'⟩ := hR
  cases hv'
  refine ⟨_, rfl, post_true hl hv hs hf htb hp hW ⟨hX.os, hX.tape, hX.output, hX.size, fun k hk => hX.frame k hk (by simp)⟩⟩
end
end Tw
namespace Pv
open Go Tw
inductive PV (Γ : Nat → Type) where
 | bool (b : Bool)
 | lit (b : Bool)
 | int (k : IntKind) (n : Int)
 | str (s : ByteArray)
 | nil (k : NK)
 | ptr (b off lim : Nat)
 | slc (b off len cap sz : Nat) (ex : Bool)
 | own (b : Nat)
 | win (b o n : Nat)
 | map (r : Nat)
 | fn (f : FuncId) (first cap : List (PV Γ))
 | yld (l : Nat)
 | agg (cs : List (PV Γ))
 | tup (cs : List (PV Γ))
 | lst (t : Nat) (l : List (Γ t)) (full : Bool)
 | el (t : Nat) (a : Γ t) (off : Nat)
 | row (b j off : Nat)
inductive PE (Γ : Nat → Type) where
 | val (v : PV Γ)
 | loc (k off : Nat)
 | undef
inductive PB (Γ : Nat → Type) where
 | cells (cs : List (PV Γ))
 | rcells (cs : List (PV Γ))
 | list (k ex : Bool) (t : Nat) (l : List (Γ t))
 | map (es : List (PV Γ × PV Γ))
 | mark
 | loop (ready : Bool) (f : FuncId) (nt : Nat) (env : List (Nat × PE Γ)) (ps : List Nat) (assign body : Code) (pend : Option Code)
 | gone
structure PSt (Γ : Nat → Type) where
 env : List (Nat × PE Γ)
 loc : List (List (PV Γ))
 heap : List (PB Γ)
structure Cod where
 Γ : Nat → Type
 d0 : (t : Nat) → Γ t
 enc : (t : Nat) → Γ t → List (PV Γ)
 dec : (t : Nat) → List (PV Γ) → Option (Γ t)
section
variable {Γ : Nat → Type}
def plainC : PV Γ → Option TV
 | .bool b => some (.bool b)
 | .int k n => some (.int k n)
 | .str s => some (.str s)
 | .nil k => some (.nil k)
 | _ => none
def plainCs : List (PV Γ) → Option (List TV)
 | [] => some []
 | c :: cs => match plainC c, plainCs cs with
  | some v, some vs => some (v :: vs)
  | _, _ => none
def toT : PV Γ → Option TV
 | .agg cs => (plainCs cs).map .agg
 | v => plainC v
def toTs : List (PV Γ) → Option (List TV)
 | [] => some []
 | c :: cs => match toT c, toTs cs with
  | some v, some vs => some (v :: vs)
  | _, _ => none
def ofC : TV → Option (PV Γ)
 | .bool b => some (.bool b)
 | .int k n => some (.int k n)
 | .str s => some (.str s)
 | .nil k => some (.nil k)
 | _ => none
def ofCs : List TV → Option (List (PV Γ))
 | [] => some []
 | c :: cs => match ofC c, ofCs cs with
  | some v, some vs => some (v :: vs)
  | _, _ => none
def ofT : TV → Option (PV Γ)
 | .agg cs => (ofCs cs).map .agg
 | v => ofC v
def PV.cells : PV Γ → List (PV Γ)
 | .agg cs => cs
 | v => [v]
def oneP : PV Γ → Bool
 | .agg _ | .tup _ => false
 | _ => true
def lookP (t : Nat) : List (Nat × PE Γ) → Option (PE Γ)
 | [] => none
 | (k, v) :: r => if k = t then some v else lookP t r
def PSt.put (s : PSt Γ) (dst : Option Nat) (v : PE Γ) : PSt Γ :=
 match dst with
 | some d => { s with env := (d, v) :: s.env }
 | none => s
def ppick (live : List Nat) (env : List (Nat × PE Γ)) : List (Nat × PE Γ) :=
 match live with
 | [] => []
 | t :: r => match lookP t env with
  | some v => (t, v) :: ppick r env
  | none => ppick r env
def know (t : Nat) (b : Bool) : List (Nat × PE Γ) → List (Nat × PE Γ)
 | [] => []
 | (k, v) :: r => if k = t then (k, .val (.lit b)) :: r else (k, v) :: know t b r
def PSt.know (s : PSt Γ) (x : Operand) (b : Bool) : PSt Γ :=
 match x with
 | .tmp t => { s with env := Pv.know t b s.env }
 | _ => s
def pevO (env : List (Nat × PE Γ)) : Operand → Option (PE Γ)
 | .tmp t => lookP t env
 | .const v => match TV.ofV v with
  | some (.bool b) => some (.val (.lit b))
  | some x => (ofT x).map .val
  | none => none
 | .func f => some (.val (.fn f [] []))
 | .global _ => none
def unlit : PV Γ → PV Γ
 | .lit b => .bool b
 | v => v
def pvO (env : List (Nat × PE Γ)) (x : Operand) : Option (PV Γ) :=
 match pevO env x with
 | some (.val v) => some (unlit v)
 | _ => none
def ptest (env : List (Nat × PE Γ)) (x : Operand) : Option (PV Γ) :=
 match pevO env x with
 | some (.val v) => some v
 | _ => none
def pvOs (env : List (Nat × PE Γ)) : List Operand → Option (List (PV Γ))
 | [] => some []
 | x :: xs => match pvO env x, pvOs env xs with
  | some v, some vs => some (v :: vs)
  | _, _ => none
def pvPs (env : List (Nat × PE Γ)) : List (Nat × Operand) → Option (List (Nat × PV Γ))
 | [] => some []
 | (i, x) :: xs => match pvO env x, pvPs env xs with
  | some v, some vs => some ((i, v) :: vs)
  | _, _ => none
def pvOpt (env : List (Nat × PE Γ)) : Option Operand → Option (Option (PV Γ))
 | none => some none
 | some x => match pvO env x with
  | some v => some (some v)
  | none => none
def psub (cs : List (PV Γ)) (off n : Nat) : Option (List (PV Γ)) :=
 if off + n ≤ cs.length then some ((cs.drop off).take n) else none
def pover (cs : List (PV Γ)) (off : Nat) (new : List (PV Γ)) : Option (List (PV Γ)) :=
 if off + new.length ≤ cs.length then some (cs.take off ++ new ++ cs.drop (off + new.length)) else none
def ppart (P : Program) (t : TypeId) (cs : List (PV Γ)) (off : Nat) : Option (PV Γ) :=
 match isAggT P t, sizeT P t with
 | some true, some n => (psub cs off n).map .agg
 | some false, some n => if n = 1 then cs[off]? else none
 | _, _ => none
def pzero (P : Program) (t : TypeId) : Option (List (PV Γ)) :=
 match zeroT P t with
 | some z => ofCs z
 | none => none
def pfill (place : Nat → Option (Nat × Nat)) : List (PV Γ) → List (Nat × PV Γ) → Option (List (PV Γ))
 | cs, [] => some cs
 | cs, (i, v) :: r => match place i with
  | some (off, size) => if v.cells.length = size then (match pover cs off v.cells with | some cs' => pfill place cs' r | none => none) else none
  | none => none
def pbuild (P : Program) (t : TypeId) (parts : List (Nat × PV Γ)) : Option (PV Γ) :=
 match pzero P t, P.underlying t with
 | some z, some (.struct fs) => if allSized P fs.toList then (pfill (fieldPl P fs) z parts).map .agg else none
 | some z, some (.array _ e) => match sizeT P e with
  | some n => (pfill (fun i => some (i * n, n)) z parts).map .agg
  | none => none
 | _, _ => none
def ptimes (z : List (PV Γ)) : Nat → List (PV Γ)
 | 0 => []
 | n + 1 => z ++ ptimes z n
def pnewBox (site : Bool) (s : PSt Γ) (cs : List (PV Γ)) : PE Γ × PSt Γ :=
 if site then (.val (.ptr s.heap.length 0 cs.length), { s with heap := s.heap ++ [.cells cs] })
 else (.loc s.loc.length 0, { s with loc := s.loc ++ [cs] })
def view (H : List (PB Γ)) : PV Γ → Option (PV Γ)
 | .own i => match H[i]? with
  | some (.list _ _ t l) => some (.lst t l false)
  | _ => none
 | .win i o n => match H[i]? with
  | some (.list _ _ t l) => some (.lst t ((l.drop o).take n) false)
  | _ => none
 | .fn f a c => match views H a, views H c with
  | some a, some c => some (.fn f a c)
  | _, _ => none
 | .agg cs => (views H cs).map .agg
 | .tup cs => (views H cs).map .tup
 | .ptr _ _ _ => none
 | .slc _ _ _ _ _ _ => none
 | .map _ => none
 | .yld _ => none
 | .el _ _ _ => none
 | .row _ _ _ => none
 | .bool b => some (.bool b)
 | .lit b => some (.bool b)
 | .int k n => some (.int k n)
 | .str s => some (.str s)
 | .nil k => some (.nil k)
 | .lst t l f => some (.lst t l f)
where
 views (H : List (PB Γ)) : List (PV Γ) → Option (List (PV Γ))
 | [] => some []
 | c :: cs => match view H c, views H cs with
  | some v, some vs => some (v :: vs)
  | _, _ => none
abbrev views (H : List (PB Γ)) := view.views H
def owns : PV Γ → List Nat
 | .own i => [i]
 | .win i _ _ => [i]
 | .fn _ a c => ownss a ++ ownss c
 | .agg cs => ownss cs
 | .tup cs => ownss cs
 | _ => []
where
 ownss : List (PV Γ) → List Nat
 | [] => []
 | c :: cs => owns c ++ ownss cs
def hasL : PV Γ → Bool
 | .lst _ _ _ => true
 | .el _ _ _ => true
 | .fn _ a c => hasLs a || hasLs c
 | .agg cs => hasLs cs
 | .tup cs => hasLs cs
 | _ => false
where
 hasLs : List (PV Γ) → Bool
 | [] => false
 | c :: cs => hasL c || hasLs cs
def clos : PV Γ → Bool
 | .ptr _ _ _ => false
 | .slc _ _ _ _ _ _ => false
 | .own _ => false
 | .win _ _ _ => false
 | .map _ => false
 | .yld _ => false
 | .row _ _ _ => false
 | .fn _ a c => closs a && closs c
 | .agg cs => closs cs
 | .tup cs => closs cs
 | _ => true
where
 closs : List (PV Γ) → Bool
 | [] => true
 | c :: cs => clos c && closs cs
def shift (k : Nat) : PV Γ → PV Γ
 | .ptr b off lim => .ptr (b + k) off lim
 | .slc b off len cap sz ex => .slc (b + k) off len cap sz ex
 | .own b => .own (b + k)
 | .win b o n => .win (b + k) o n
 | .map r => .map (r + k)
 | .fn f a c => .fn f (shifts k a) (shifts k c)
 | .yld l => .yld (l + k)
 | .agg cs => .agg (shifts k cs)
 | .tup cs => .tup (shifts k cs)
 | .row b j off => .row (b + k) j off
 | .bool b => .bool b
 | .lit b => .lit b
 | .int k n => .int k n
 | .str s => .str s
 | .nil k => .nil k
 | .lst t l f => .lst t l f
 | .el t a off => .el t a off
where
 shifts (k : Nat) : List (PV Γ) → List (PV Γ)
 | [] => []
 | c :: cs => shift k c :: shifts k cs
def gone1 (i : Nat) (H : List (PB Γ)) : List (PB Γ) := H.set i .gone
def goneAll : List Nat → List (PB Γ) → List (PB Γ)
 | [], H => H
 | i :: is, H => goneAll is (gone1 i H)
end
section
variable (X : Cod)
def shiftB (k : Nat) : PB X.Γ → Option (PB X.Γ)
 | .cells cs => some (.cells (shift.shifts k cs))
 | .list w ex t l => some (.list w ex t l)
 | .gone => some .gone
 | _ => none
def shiftBs (k : Nat) : List (PB X.Γ) → Option (List (PB X.Γ))
 | [] => some []
 | b :: bs => match shiftB X k b, shiftBs k bs with
  | some b, some bs => some (b :: bs)
  | _, _ => none
def hasB : PB X.Γ → Bool
 | .cells cs => hasL.hasLs cs
 | .gone => false
 | _ => true
def decE (H : List (PB X.Γ)) (t : Nat) (cs : List (PV X.Γ)) : Option (X.Γ t × List Nat) :=
 match views H cs with
 | some vs => match X.dec t vs with
  | some a => some (a, owns.ownss cs)
  | none => none
 | none => none
def decRows (H : List (PB X.Γ)) (t sz : Nat) : Nat → List (PV X.Γ) → Option (List (X.Γ t) × List Nat)
 | 0, _ => some ([], [])
 | n + 1, cs => if sz ≤ cs.length then match decE X H t (cs.take sz), decRows H t sz n (cs.drop sz) with
  | some (a, is), some (l, js) => some (a :: l, is ++ js)
  | _, _ => none
  else none
def castL {Γ : Nat → Type} (t t' : Nat) (l : List (Γ t')) : Option (List (Γ t)) :=
 if h : t' = t then some (h ▸ l) else none
def srcP (H : List (PB X.Γ)) (e sz : Nat) : PV X.Γ → Option (List (X.Γ e) × List Nat)
 | .nil .slc => some ([], [])
 | .lst t l _ => (castL e t l).map fun l => (l, [])
 | .own i => match H[i]? with
  | some (.list _ _ t l) => (castL e t l).map fun l => (l, [])
  | _ => none
 | .win i o n => match H[i]? with
  | some (.list _ _ t l) => (castL e t l).map fun l => ((l.drop o).take n, [])
  | _ => none
 | .slc b off len _ sz' _ => match H[b]? with
  | some (.cells cs) => if sz' = sz ∧ off + len * sz ≤ cs.length then decRows X H e sz len (cs.drop off) else none
  | _ => none
 | _ => none
def ploadT (P : Program) (t : TypeId) (s : PSt X.Γ) : PE X.Γ → Option (PV X.Γ × Inf)
 | .loc k off => match s.loc[k]? with
  | some cs => (ppart P t cs off).map fun v => (v, rdK (.l k))
  | none => none
 | .val (.ptr b off lim) => match s.heap[b]?, sizeT P t with
  | some (.cells cs), some n => if off + n ≤ lim then (ppart P t cs off).map fun v => (v, rdK (.h b)) else none
  | some (.rcells cs), some n => if off + n ≤ lim then (ppart P t cs off).map fun v => (v, noInf) else none
  | _, _ => none
 | .val (.row b j off) => match s.heap[b]? with
  | some (.list _ _ e l) => (ppart P t (X.enc e (l.getD j (X.d0 e))) off).map fun v => (v, rdK (.h b))
  | _ => none
 | .val (.el e a off) => (ppart P t (X.enc e a) off).map fun v => (v, noInf)
 | _ => none
def pstoreT (P : Program) (t : TypeId) (s : PSt X.Γ) (a : PE X.Γ) (v : PV X.Γ) : Option (PSt X.Γ × Inf) :=
 match sizeT P t with
 | some n =>
  if v.cells.length = n ∧ v.cells.all oneP = true then
   match a with
   | .loc k off => match s.loc[k]? with
    | some cs => (pover cs off v.cells).map fun cs' => ({ s with loc := s.loc.set k cs' }, wrK (.l k))
    | none => none
   | .val (.ptr b off lim) => if off + n ≤ lim then (match s.heap[b]? with
    | some (.cells cs) => (pover cs off v.cells).map fun cs' => ({ s with heap := s.heap.set b (.cells cs') }, wrK (.h b))
    | _ => none) else none
   | .val (.row b j off) => match s.heap[b]? with
    | some (.list k ex e l) => match pover (X.enc e (l.getD j (X.d0 e))) off v.cells with
     | some cs => match decE X s.heap e cs with
      | some (x, is) => if is.contains b then none else some ({ s with heap := goneAll is (s.heap.set b (.list k ex e (l.set j x))) }, wrK (.h b))
      | none => none
     | none => none
    | _ => none
   | _ => none
  else none
 | none => none
def elSz : PE X.Γ → PSt X.Γ → Option Nat
 | .val (.el e a _), _ => some (X.enc e a).length
 | .val (.row b j _), s => match s.heap[b]? with
  | some (.list _ _ e l) => some (X.enc e (l.getD j (X.d0 e))).length
  | _ => none
 | _, _ => none
def poffT (s : PSt X.Γ) (o : Nat) : PE X.Γ → Option (PE X.Γ)
 | .loc k off => some (.loc k (off + o))
 | .val (.ptr b off lim) => match s.heap[b]? with
  | some (.cells _) => if off + o ≤ lim then some (.val (.ptr b (off + o) lim)) else none
  | some (.rcells _) => if off + o ≤ lim then some (.val (.ptr b (off + o) lim)) else none
  | _ => none
 | .val (.el e a off) => if off + o ≤ (X.enc e a).length then some (.val (.el e a (off + o))) else none
 | .val (.row b j off) => match elSz X (.val (.row b j off)) s with
  | some n => if off + o ≤ n then some (.val (.row b j (off + o))) else none
  | none => none
 | _ => none
def inR (i : Int) (n : Nat) : Prop := 0 ≤ i ∧ i < (n : Int)
def pidx (n : Nat) : PV X.Γ → Option Nat
 | .int _ i => if 0 ≤ i ∧ i < n then some i.toNat else none
 | _ => none
def pindexAddr (P : Program) (t : TypeId) (s : PSt X.Γ) (x : PE X.Γ) (i : PV X.Γ) : Option (PE X.Γ × List Prop) :=
 match P.underlying t with
 | some (.slice e) => match sizeT P e, x, i with
  | some n, .val (.lst t' l _), .int _ iv => if t' = e then some (.val (.el t' (l.getD iv.toNat (X.d0 t')) 0), [inR iv l.length]) else none
  | some n, .val (.own b), .int _ iv => match s.heap[b]? with
   | some (.list _ _ t' l) => if t' = e then some (.val (.row b iv.toNat 0), [inR iv l.length]) else none
   | _ => none
  | some n, .val (.win b o m), .int _ iv => match s.heap[b]? with
   | some (.list _ _ t' l) => if t' = e then some (.val (.row b (o + iv.toNat) 0), [inR iv m]) else none
   | _ => none
  | some n, .val (.slc b off len cap sz _), i => match s.heap[b]? with
   | some (.cells _) => if n = sz then (pidx X len i).map fun j => (.val (.ptr b (off + j * n) (off + cap * n)), []) else none
   | _ => none
  | _, _, _ => none
 | some (.array len e) => match sizeT P e with
  | some n => match pidx X len i with
   | some j => (poffT X s (j * n) x).map fun a => (a, [])
   | none => none
  | none => none
 | _ => none
def plen (P : Program) (at_ : Array TypeId) (H : List (PB X.Γ)) (x : PV X.Γ) : Option (PV X.Γ × Inf) :=
 match at_[0]? with
 | some t => match P.underlying t, x with
  | some .string, .str s => some (.int .i64 s.size, noInf)
  | some (.array n _), _ => some (.int .i64 n, noInf)
  | some (.slice _), .slc b _ len _ _ _ => match H[b]? with
   | some (.cells _) => some (.int .i64 len, noInf)
   | _ => none
  | some (.slice _), .nil .slc => some (.int .i64 0, noInf)
  | some (.slice _), .lst _ l _ => some (.int .i64 (l.length : Nat), noInf)
  | some (.slice _), .own b => match H[b]? with
   | some (.list _ _ _ l) => some (.int .i64 (l.length : Nat), noInf)
   | _ => none
  | some (.slice _), .win b _ n => match H[b]? with
   | some (.list _ _ _ _) => some (.int .i64 n, noInf)
   | _ => none
  | some (.map _ _), .nil .map => some (.int .i64 0, noInf)
  | some (.map _ _), .map r => match H[r]? with
   | some (.map es) => some (.int .i64 es.length, rdK (.h r))
   | _ => none
  | _, _ => none
 | none => none
def most : Nat := 2 ^ 20
def keyP : PV X.Γ → List Key
 | .slc b _ _ _ _ _ => [.h b]
 | .own b => [.h b]
 | .win b _ _ => [.h b]
 | _ => []
def pappend (P : Program) (at_ : Array TypeId) (H : List (PB X.Γ)) (d x : PV X.Γ) : Option (PV X.Γ × List (PB X.Γ) × Inf × List Prop) :=
 match at_[0]?, at_[1]? with
 | some st, some xt =>
  if isIntT P xt || (P.underlying xt).isNone then none else
  match sliceElem P st with
  | some (e, size) => if bigRoom P e most then match srcP X H e size x with
   | some (rows, is) => match d with
    | .nil .slc => some (.own H.length, goneAll is H ++ [.list true false e rows], rdKs (keyP X x), [rows.length ≤ most])
    | .own b => match H[b]? with
     | some (.list k ex t l) => if is.contains b then none else match castL e t l with
      | some l => some (.own H.length, goneAll (b :: is) H ++ [.list (k && ex) false e (l ++ rows)], ⟨false, .h b :: keyP X x, [.h b]⟩, [l.length + rows.length ≤ most])
      | none => none
     | _ => none
    | .lst t l true => match castL e t l with
     | some l => some (.own H.length, goneAll is H ++ [.list true false e (l ++ rows)], rdKs (keyP X x), [l.length + rows.length ≤ most, l = [] ∨ rows ≠ []])
     | none => none
    | _ => none
   | none => none
   else none
  | none => none
 | _, _ => none
def putL {α : Type} (l : List α) (o k : Nat) (rows : List α) : List α := l.take o ++ rows.take k ++ l.drop (o + k)
def encs (e : Nat) : List (X.Γ e) → List (PV X.Γ)
 | [] => []
 | a :: l => X.enc e a ++ encs e l
def pcopy (P : Program) (at_ : Array TypeId) (H : List (PB X.Γ)) (d x : PV X.Γ) : Option (PV X.Γ × List (PB X.Γ) × Inf) :=
 match at_[0]? with
 | some st => match sliceElem P st with
  | some (e, size) => match srcP X H e size x with
   | some (rows, []) => match d with
    | .nil .slc => some (.int .i64 0, H, rdKs (keyP X x))
    | .own b => match H[b]? with
     | some (.list k ex t l) => match castL e t l with
      | some l => some (.int .i64 ((min rows.length l.length : Nat) : Int), H.set b (.list k ex e (putL l 0 (min rows.length l.length) rows)), ⟨false, .h b :: keyP X x, [.h b]⟩)
      | none => none
     | _ => none
    | .win b o n => match H[b]? with
     | some (.list k ex t l) => match castL e t l with
      | some l => some (.int .i64 ((min rows.length n : Nat) : Int), H.set b (.list k ex e (putL l o (min rows.length n) rows)), ⟨false, .h b :: keyP X x, [.h b]⟩)
      | none => none
     | _ => none
    | .slc b off len _ sz _ => match H[b]? with
     | some (.cells cs) => if sz = size ∧ 0 < min rows.length len then (pover cs off ((encs X e rows).take (min rows.length len * size))).map fun cs' => (.int .i64 ((min rows.length len : Nat) : Int), H.set b (.cells cs'), ⟨false, .h b :: keyP X x, [.h b]⟩) else none
     | _ => none
    | _ => none
   | _ => none
  | none => none
 | none => none
def pbuildSlice (P : Program) (t : TypeId) (len : Nat) (H : List (PB X.Γ)) (ps : List (Nat × PV X.Γ)) : Option (PV X.Γ × List (PB X.Γ)) :=
 match sliceElem P t with
 | some (e, n) => if len * n ≤ 2 ^ 24 ∧ ps.all (fun p => p.2.cells.all oneP) = true then
   match pzero P e with
   | some z => if z.length = n then
     match pfill (fun i => some (i * n, n)) (ptimes z len) ps with
     | some cs => match decRows X H e n len cs with
      | some (rows, is) => some (.own H.length, goneAll is H ++ [.list true true e rows])
      | none => some (.slc H.length 0 len len n true, H ++ [.cells cs])
     | none => none
    else none
   | none => none
  else none
 | none => none
def pmakeSlice (P : Program) (t : TypeId) (H : List (PB X.Γ)) (l c : PV X.Γ) : Option (PV X.Γ × List (PB X.Γ) × List Prop) :=
 match sliceElem P t, l, c with
 | some (e, n), .int _ l, .int _ c => if bigRoom P e most then
   match pzero P e with
   | some z => if z.length = n then
     match X.dec e z with
     | some a => some (.own H.length, H ++ [.list true true e (List.replicate l.toNat a)], [l = c, 0 ≤ l, l ≤ most])
     | none => none
    else none
   | none => none
  else none
 | _, _, _ => none
def endP (d : Nat) : Option (PV X.Γ) → Option Int
 | none => some d
 | some (.int _ i) => some i
 | some _ => none
def pslice (P : Program) (t : TypeId) (H : List (PB X.Γ)) (x : PV X.Γ) (lo hi mx : Option (PV X.Γ)) : Option (PV X.Γ × List Prop) :=
 match P.underlying t, x with
 | some (.slice e), .lst t' l _ => match sizeT P e, endP X 0 lo, endP X l.length hi, mx with
  | some _, some a, some b, none => if t' = e then some (.lst t' ((l.take b.toNat).drop a.toNat) false, [0 ≤ a, a ≤ b, b ≤ l.length]) else none
  | some _, some a, some b, some (.int _ m) => if t' = e ∧ hi.isSome then some (.lst t' ((l.take b.toNat).drop a.toNat) true, [0 ≤ a, a ≤ b, b ≤ l.length, m = b, a = b]) else none
  | _, _, _, _ => none
 | some (.slice e), .own i => match H[i]? with
  | some (.list _ _ t' l) => match sizeT P e, endP X 0 lo, endP X l.length hi, mx with
   | some _, some a, some b, none => if t' = e then some (.win i a.toNat (b.toNat - a.toNat), [0 ≤ a, a ≤ b, b ≤ l.length]) else none
   | some _, some a, some b, some (.int _ m) => if t' = e ∧ hi.isSome then some (.win i a.toNat (b.toNat - a.toNat), [0 ≤ a, a ≤ b, b ≤ l.length, m = b, a = b]) else none
   | _, _, _, _ => none
  | _ => none
 | some (.slice e), .nil .slc => match sizeT P e, endP X 0 lo, endP X 0 hi, mx with
  | some _, some a, some b, none => some (.nil .slc, [a = 0, b = 0])
  | some _, some a, some b, some (.int _ m) => if hi.isSome then some (.nil .slc, [a = 0, b = 0, m = 0]) else none
  | _, _, _, _ => none
 | _, _ => none
def psliceArr (P : Program) (t : TypeId) (H : List (PB X.Γ)) (x : PE X.Γ) (lo hi mx : Option (PV X.Γ)) : Option (PV X.Γ × List (PB X.Γ) × List Prop) :=
 match P.underlying t, x with
 | some (.array n e), .val (.ptr b off lim) => match sizeT P e with
  | some size =>
   if size = 0 ∨ lim < off + n * size ∨ 2 ^ 24 < n then none else
   match mx with
   | some _ => none
   | none => match lo, hi with
    | none, none => match H[b]? with
     | some (.cells _) => some (.slc b off n n size true, H, [])
     | _ => none
    | lo, hi => match H[b]?, endP X 0 lo, endP X n hi with
     | some (.cells cs), some a, some z => if cs.length < off + n * size then none else match decRows X H e size n (cs.drop off) with
      | some (rows, is) => some (.lst e ((rows.take z.toNat).drop a.toNat) false, goneAll (b :: is) H, [0 ≤ a, a ≤ z, z ≤ n])
      | none => none
     | _, _, _ => none
  | none => none
 | _, _ => none
def psliceArrW (P : Program) (t : TypeId) (H : List (PB X.Γ)) (x : PE X.Γ) (lo hi : Option (PV X.Γ)) : Option (PV X.Γ) :=
 match P.underlying t, x with
 | some (.array n e), .val (.ptr b off lim) => match sizeT P e, H[b]?, endP X 0 lo, endP X n hi with
  | some size, some (.cells _), some a, some z => if size = 0 ∨ lim < off + n * size ∨ 2 ^ 24 < n then none else if 0 ≤ a ∧ a ≤ z ∧ z ≤ n then some (.slc b (off + a.toNat * size) (z.toNat - a.toNat) (n - a.toNat) size true) else none
  | _, _, _, _ => none
 | _, _ => none
def pnilNeq (P : Program) (t : TypeId) (x y : PV X.Γ) : Bool :=
 let realP : PV X.Γ → Option NK
  | .fn _ _ _ => some .fn
  | .el _ _ _ => some .ptr
  | _ => none
 let nilP : PV X.Γ → Option NK
  | .nil k => some k
  | _ => none
 match kindT P t with
 | some k => (nilP x == some k && realP y == some k) || (realP x == some k && nilP y == some k)
 | none => false
def pbin (P : Program) (op : BinOp) (t : TypeId) (x y : Operand) (a b : PV X.Γ) : Option (PV X.Γ) :=
 match toT a, toT b with
 | some u, some v => match binT P op t x y u v with
  | some r => ofT r
  | none => none
 | _, _ => if pnilNeq X P t a b then (match op with
  | .eql => some (.bool false)
  | .neq => some (.bool true)
  | _ => none) else none
def nilAnsP (P : Program) (op : BinOp) (t : TypeId) (b : PV X.Γ) (q : Prop) : Option (PV X.Γ × Prop) :=
 match b, kindT P t with
 | .nil .slc, some .slc => match op with
  | .eql => some (.bool false, q)
  | .neq => some (.bool true, q)
  | _ => none
 | _, _ => none
def plstNil (P : Program) (op : BinOp) (t : TypeId) (H : List (PB X.Γ)) (a b : PV X.Γ) : Option (PV X.Γ × Prop) :=
 match a with
 | .lst _ l _ => nilAnsP X P op t b (l ≠ [])
 | .own i => match H[i]? with
  | some (.list _ _ _ l) => nilAnsP X P op t b (l ≠ [])
  | _ => none
 | _ => none
def pun (P : Program) (op : UnOp) (a : PV X.Γ) : Option (PV X.Γ) :=
 match toT a with
 | some u => match unT P op u with
  | some r => ofT r
  | none => none
 | none => none
def pconv (P : Program) (src dst : TypeId) (a : PV X.Γ) : Option (PV X.Γ) :=
 match toT a with
 | some u => match convT P src dst u with
  | some r => ofT r
  | none => none
 | none => match P.underlying src, P.underlying dst, a with
  | _, _, _ => none
def pminMax (P : Program) (mx : Bool) (at_ : Array TypeId) (t : TypeId) (az : List (PV X.Γ)) : Option (PV X.Γ) :=
 match toTs az with
 | some us => match minMaxT P mx at_ t us with
  | some r => ofT r
  | none => none
 | none => none
def pfield (P : Program) (t : TypeId) (x : PV X.Γ) (i : Nat) : Option (PV X.Γ) :=
 match P.underlying t, x with
 | some (.struct fs), .agg cs => match fs[i]? with
  | some f => ppart P f.type cs f.offset
  | none => none
 | _, _ => none
def pindex (P : Program) (t : TypeId) (x i : PV X.Γ) : Option (PV X.Γ) :=
 match P.underlying t, x with
 | some (.array len e), .agg cs => match sizeT P e, pidx X len i with
  | some n, some j => ppart P e cs (j * n)
  | _, _ => none
 | _, _ => none
def pkeys : List (PV X.Γ × PV X.Γ) → Option (List TV)
 | [] => some []
 | (k, _) :: r => match toT k, pkeys r with
  | some v, some vs => some (v :: vs)
  | _, _ => none
def findK (P : Program) (kt : TypeId) (k : Value) (ks : List TV) : Option (Option Nat) :=
 match toVs ks with
 | some ks => (pureRun P (do Instr.checkKey ks.isEmpty 10000 kt k; Instr.findKey kt k (ks.map fun x => ⟨x, .bool false, 0⟩))).map fun r => r.map (·.1)
 | none => none
end
end Pv
namespace Tw
open Go
section
variable {P : Program}
abbrev onH (h : List HB) : St := ⟨[], [], h, []⟩
theorem appendT_onH {at_ : Array TypeId} {s s1 : St} {d x v : TV} {i : Inf} (h : appendT P at_ (onH s.heap) d x = some (v, s1, i)) : appendT P at_ s d x = some (v, { s with heap := s1.heap }, i) := by
 unfold appendT at h ⊢
 split at h
 ·split at h
  ·simp at h
  ·rename_i hc
   rw [if_neg hc]
   split at h
   ·rename_i e size he
    split at h
    ·rename_i n new hs
     simp only [he, hs]
     split at h
     ·rename_i hn
      rw [if_pos hn]
      split at h
      ·simp only [Option.some.injEq, Prod.mk.injEq] at h
       obtain ⟨rfl, rfl, rfl⟩ := h; rfl
      ·split at h
       ·rename_i hz
        simp only [Option.some.injEq, Prod.mk.injEq] at h
        obtain ⟨rfl, rfl, rfl⟩ := h
        simp only [hz, if_true]
       ·simp at h
      ·simp at h
     ·rename_i hn
      rw [if_neg hn]
      split at h
      ·rename_i hl
       rw [if_pos hl]
       split at h
       ·split at h
        ·rename_i hb
         simp only [Option.some.injEq, Prod.mk.injEq] at h
         obtain ⟨rfl, rfl, rfl⟩ := h
         simp only [hb, if_true]
        ·simp at h
       ·rename_i b off len cap sz ex
        split at h
        ·rename_i hz
         rw [if_pos hz]
         split at h
         ·rename_i hf
          rw [if_pos hf]
          simp only [Option.map_eq_some_iff, Prod.mk.injEq] at h ⊢
          obtain ⟨h', h1, rfl, rfl, rfl⟩ := h
          exact ⟨h', h1, rfl, rfl, rfl⟩
         ·rename_i hf
          rw [if_neg hf]
          split at h
          ·rename_i hb
           rw [if_pos hb]
           split at h
           ·rename_i hx
            rw [if_pos hx]
            simp only [Option.map_eq_some_iff, Prod.mk.injEq] at h ⊢
            obtain ⟨old, h1, rfl, rfl, rfl⟩ := h
            exact ⟨old, h1, rfl, rfl, rfl⟩
           ·rename_i hx
            rw [if_neg hx]
            split at h
            ·rename_i k cs hc
             split at h
             ·simp at h
             ·rename_i hcc
              simp only [Option.some.injEq, Prod.mk.injEq] at h
              obtain ⟨rfl, rfl, rfl⟩ := h
              simp only [hc]
              rw [if_neg hcc]
            ·simp at h
          ·simp at h
        ·simp at h
       ·simp at h
      ·simp at h
    ·simp at h
   ·simp at h
 ·simp at h
theorem copyT_onH {at_ : Array TypeId} {s s1 : St} {d x v : TV} {i : Inf} (h : copyT P at_ (onH s.heap) d x = some (v, s1, i)) : copyT P at_ s d x = some (v, { s with heap := s1.heap }, i) := by
 unfold copyT at h ⊢
 split at h
 ·split at h
  ·rename_i e size he
   split at h
   ·rename_i n new hs
    simp only [hs]
    split at h
    ·rename_i hc
     rw [if_pos hc]
     split at h
     ·simp only [Option.some.injEq, Prod.mk.injEq] at h
      obtain ⟨rfl, rfl, rfl⟩ := h; rfl
     ·rename_i b off len cap sz ex
      split at h
      ·rename_i hz
       rw [if_pos hz]
       split at h
       ·rename_i hm
        rw [if_pos hm]
        simp only [Option.some.injEq, Prod.mk.injEq] at h
        obtain ⟨rfl, rfl, rfl⟩ := h; rfl
       ·rename_i hm
        rw [if_neg hm]
        simp only [Option.map_eq_some_iff, Prod.mk.injEq] at h ⊢
        obtain ⟨h', h1, rfl, rfl, rfl⟩ := h
        exact ⟨h', h1, rfl, rfl, rfl⟩
      ·simp at h
     ·simp at h
    ·simp at h
   ·simp at h
  ·simp at h
 ·simp at h
theorem makeSliceT_onH {t : TypeId} {s s1 : St} {l c v : TV} (h : makeSliceT P t (onH s.heap) l c = some (v, s1)) : makeSliceT P t s l c = some (v, { s with heap := s1.heap }) := by
 unfold makeSliceT at h ⊢
 split at h
 ·split at h
  ·rename_i hc
   rw [if_pos hc]
   split at h
   ·split at h
    ·rename_i hz
     simp only [Option.some.injEq, Prod.mk.injEq] at h
     obtain ⟨rfl, rfl⟩ := h
     simp only [hz, if_true]
    ·simp at h
   ·simp at h
  ·simp at h
 ·simp at h
theorem updateT_onH {t : TypeId} {s s1 : St} {m k v : TV} {i : Inf} (h : updateT P t (onH s.heap) m k v = some (s1, i)) : updateT P t s m k v = some ({ s with heap := s1.heap }, i) := by
 unfold updateT at h ⊢
 split at h
 ·split at h
  ·rename_i es h1 h2
   simp only [h1, h2]
   split at h
   ·rename_i i0 hf
    split at h
    ·rename_i old o2 he
     split at h
     ·rename_i ov hov
      split at h
      ·rename_i hs
       simp only [Option.some.injEq, Prod.mk.injEq] at h
       obtain ⟨rfl, rfl⟩ := h
       simp only [hs, if_true, he, hov]
      ·simp at h
     ·simp at h
    ·simp at h
   ·simp only [Option.some.injEq, Prod.mk.injEq] at h
    obtain ⟨rfl, rfl⟩ := h
    rfl
   ·simp at h
  ·simp at h
 ·simp at h
end
end Tw
namespace Tw
open Go
inductive Ans where
 | br (b : Bool)
 | dyn
 | calm
 | fa
 | bx
 | ev (v : EV) (i : Inf)
 | ld (v : TV)
 | st (h : List HB) (ws : List Nat)
 | ix (j : Nat)
 | pt (b off lim : Nat)
 | up (h : List HB) (ws : List Nat)
 | hp (v : TV) (h : List HB) (i : Inf) (ws : List Nat)
 | rd (v : TV)
 | mem (v : EV) (h : List HB) (i : Inf) (ws : List Nat)
 | call (v : TV) (h : List HB) (ws ws' : List Nat)
 | loop (e : Ex) (s : St)
def askBin : BinOp → Bool
 | .quo | .rem | .shl | .shr => true
 | _ => false
def isLoc : Option EV → Bool
 | some (.loc _ _) => true
 | _ => false
def isAggE : Option EV → Bool
 | some (.val (.agg _)) => true
 | _ => false
def asks (s : St) (o : Oper) : Bool :=
 match o.op with
 | .load _ a => !isLoc (evO s.env a)
 | .store _ a _ => !isLoc (evO s.env a)
 | .indexAddr _ a _ => !isLoc (evO s.env a)
 | .fieldAddr _ a _ => !isLoc (evO s.env a)
 | .index .. | .slice .. | .lookup .. | .mapUpdate .. | .insert .. | .makeSlice .. | .pick .. => true
 | .binOp op _ x _ _ => askBin op || isAggE (evO s.env x)
 | .call c => match c.callee with
  | .builtin .min | .builtin .max => false
  | _ => true
 | _ => false
def rdAt (agg : Bool) (n : Nat) (h : List HB) (b off lim : Nat) : Option TV :=
 match blkLim h b lim with
 | some cs => if off + n ≤ lim then (if agg then (sub cs off n).map .agg else if n = 1 then cs[off]? else none) else none
 | none => none
theorem loadT_rd {P : Program} {t : TypeId} {s : St} {b off lim n : Nat} {agg : Bool} {v : TV} (ha : isAggT P t = some agg) (hn : sizeT P t = some n) (h : rdAt agg n s.heap b off lim = some v) :
  loadT P t s (.val (.ptr b off lim)) = some (v, rdK (.h b)) := by
 unfold rdAt at h
 simp only [loadT, hn]
 split at h
 ·rename_i cs hc
  split at h
  ·rename_i hl
   simp only [hc, hl, if_true, partT, ha, hn]
   cases agg with
   | true =>
    simp only [if_true] at h
    show Option.map _ (Option.map TV.agg (sub cs off n)) = _
    rw [h]; rfl
   | false =>
    simp only [Bool.false_eq_true, if_false] at h
    show Option.map _ (if n = 1 then cs[off]? else none) = _
    rw [h]; rfl
  ·cases h
 ·cases h
def AllP : List Prop → Prop
 | [] => True
 | p :: ps => p ∧ AllP ps
theorem AllP.app : ∀ {p q : List Prop}, AllP (p ++ q) → AllP p ∧ AllP q
 | [], _, h => ⟨trivial, h⟩
 | _ :: _, _, h => ⟨⟨h.1, (AllP.app h.2).1⟩, (AllP.app h.2).2⟩
section
variable (P : Program) (T : Tab) (call : CallT) (L : Nat)
def isBx (o : Oper) (az : List Ans) : Bool :=
 match az, o.op with
 | .bx :: _, .box .. => true
 | .bx :: _, .store .. => true
 | _, _ => false
def opO (site : Nat → Bool) (fl : Nat) (s : St) (o : Oper) (az : List Ans) : Option (EV × St × Inf × List Ans × List Prop) :=
 if asks s o then
  match az with
  | .br t :: az => match o.op with
   | .pick c a b => match tvO s.env c with
    | some (.bool u) => match t with
     | true => match evO s.env a with
      | some v => some (v, s, noInf, az, [u = true])
      | none => none
     | false => match evO s.env b with
      | some v => some (v, s, noInf, az, [u = false])
      | none => none
    | _ => none
   | _ => none
  | .fa :: az => match o.op with
   | .fieldAddr t x f => match evO s.env x, fieldOff P t f with
    | some (.val (.ptr b off lim)), some n => some (.val (.ptr b (off + n) lim), s, noInf, az, [off + n ≤ lim])
    | _, _ => none
   | _ => none
  | .ev v i :: az => some (v, s, i, az, [opT P call site s o = some (v, s, i), i.ws = []])
  | .ld v :: az => match o.op with
   | .load t a => match evO s.env a, isAggT P t, sizeT P t with
    | some (.val (.ptr b off lim)), some agg, some n => some (.val v, s, rdK (.h b), az, [rdAt agg n s.heap b off lim = some v])
    | _, _, _ => none
   | _ => none
  | .st h ws :: az => match o.op with
   | .store t a x => match evO s.env a, tvO s.env x, sizeT P t with
    | some (.val (.ptr b off lim)), some v, some n =>
     if v.cells.length = n ∧ v.cells.all oneT = true then some (.undef, { s with heap := h, ws := ws }, wrK (.h b), az, [setH s.heap b off lim v.cells = some h, off + n ≤ lim, addW fl b s.ws = ws]) else none
    | _, _, _ => none
   | _ => none
  | .ix j :: az => match o.op with
   | .indexAddr t x i => match P.underlying t, evO s.env x, tvO s.env i with
    | some (.slice e), some (.val (.slc b off len cap sz _)), some iv => if sizeT P e = some sz then some (.val (.ptr b (off + j * sz) (off + cap * sz)), s, noInf, az, [idx len iv = some j]) else none
    | _, _, _ => none
   | _ => none
  | .pt b off lim :: az => match o.op with
   | .indexAddr t x i => match evO s.env x, tvO s.env i with
    | some (.val xv), some iv => some (.val (.ptr b off lim), s, noInf, az, [indexAddrT P t (.val xv) iv = some (.val (.ptr b off lim))])
    | _, _ => none
   | _ => none
  | .up h ws :: az => match o.op with
   | .mapUpdate t m k x | .insert t m k x => match tvO s.env m, tvO s.env k, tvO s.env x with
    | some (.map r), some k, some v => some (.undef, { s with heap := h, ws := ws }, wrK (.h r), az, [updateT P t (onH s.heap) (.map r) k v = some (onH h, wrK (.h r)), addW fl r s.ws = ws])
    | _, _, _ => none
   | _ => none
  | .hp v h i ws :: az => match o.op with
   | .call c => match c.callee, tvOs s.env c.args.toList with
    | .builtin .append, some [d, x] => some (.val v, { s with heap := h, ws := ws }, i, az, [appendT P c.argTypes (onH s.heap) d x = some (v, onH h, i), addKs fl i.ws s.ws = ws])
    | .builtin .copy, some [d, x] => some (.val v, { s with heap := h, ws := ws }, i, az, [copyT P c.argTypes (onH s.heap) d x = some (v, onH h, i), addKs fl i.ws s.ws = ws])
    | _, _ => none
   | .makeSlice t l c => match tvO s.env l, tvO s.env c with
    | some l, some c => some (.val v, { s with heap := h, ws := ws }, noInf, az, [makeSliceT P t (onH s.heap) l c = some (v, onH h), s.ws = ws])
    | _, _ => none
   | _ => none
  | .rd v :: az => match o.op with
   | .call c => match c.callee, tvOs s.env c.args.toList with
    | .builtin .len, some [x] => some (.val v, s, noInf, az, [lenT P c.argTypes s.heap x = some (v, noInf)])
    | _, _ => none
   | .binOp op t x y _ => match tvO s.env x, tvO s.env y with
    | some a, some b => some (.val v, s, noInf, az, [binT P op t x y a b = some v])
    | _, _ => none
   | .lookup t m k ok => match tvO s.env m, tvO s.env k with
    | some m, some k => some (.val v, s, rdKs (match m with | .map r => [.h r] | _ => []), az, [lookupT P t s.heap m k ok = some v])
    | _, _ => none
   | .index t x i => match tvO s.env x, tvO s.env i with
    | some a, some i => some (.val v, s, noInf, az, [indexT P t a i = some v])
    | _, _ => none
   | .slice t x lo hi mx => match P.underlying t, evO s.env x, optT s.env lo, optT s.env hi, optT s.env mx with
    | some (.slice _), some (.val x), some lo, some hi, some mx => some (.val v, s, noInf, az, [sliceT P t x lo hi mx = some v])
    | some .string, some (.val x), some lo, some hi, some mx => some (.val v, s, noInf, az, [sliceT P t x lo hi mx = some v])
    | some (.array _ _), some x, some lo, some hi, some mx => some (.val v, s, noInf, az, [sliceArrT P t x lo hi mx = some v])
    | _, _, _, _, _ => none
   | _ => none
  | .mem v h i ws :: az => some (v, { s with heap := h, ws := ws }, i, az, [opT P call site s o = some (v, { s with heap := h }, i), addKs fl i.ws s.ws = ws])
  | .call v h ws ws' :: az => match o.op with
   | .call c => match c.callee, tvOs s.env c.args.toList with
    | .value f, some xs => match tvO s.env f with
     | some fv => some (.val v, { s with heap := h, ws := ws' }, ⟨true, [], ws.map .h⟩, az, [call fv xs s.heap = some (v, h, ws), addKs fl (ws.map .h) s.ws = ws'])
     | none => none
    | _, _ => none
   | _ => none
  | _ => none
 else if isBx o az then match az with
  | .bx :: az => match o.op with
   | .box _ x => match tvO s.env x with
    | some v => match newBox (site (o.dst.getD 0)) s v.cells with
     | (e, s1) => some (e, s1, noInf, az, [v.cells.all oneT = true])
    | none => none
   | .store t a x => match evO s.env a, tvO s.env x, sizeT P t with
    | some (.loc k off), some v, some n => if v.cells.length = n then (match s.loc[k]? with
     | some cs => match over cs off v.cells with
      | some cs' => some (.undef, { s with loc := s.loc.set k cs' }, wrK (.l k), az, [v.cells.all oneT = true])
      | none => none
     | none => none) else none
    | _, _, _ => none
   | _ => none
  | _ => none
 else match opT P call site s o with
  | some (v, s1, i) => some (v, { s1 with ws := addKs fl i.ws s.ws }, i, az, [])
  | none => none
def wantO (ops : Array Oper) (env : List (Nat × EV)) (o : Oper) (az : List Ans) : Option (Bool × List Ans × List Prop) :=
 match o.guard with
 | none => some (true, az, [])
 | some (j, want) => match (ops[j]?).bind (·.dst) with
  | some d => match lookE d env with
   | some (.val (.bool b)) => match az with
    | .br true :: az => some (true == want, az, [b = true])
    | .br false :: az => some (false == want, az, [b = false])
    | _ => none
   | some .undef => some (false, az, [])
   | _ => none
  | none => none
def runO (site : Nat → Bool) (fl nt : Nat) (ops : Array Oper) : List Oper → St → List Ans → Option (St × List Inf × List Ans × List Prop)
 | [], s, az => some (s, [], az, [])
 | o :: os, s, az => if !dstOk nt o then none else match wantO ops s.env o az with
  | some (true, az, r) => match opO P call site fl s o az with
   | some (v, s1, i, az, p) => match runO site fl nt ops os (s1.put o.dst v) az with
    | some (s', is, az, q) => some (s', i :: is, az, r ++ (p ++ q))
    | none => none
   | none => none
  | some (false, az, r) => match runO site fl nt ops os (s.put o.dst .undef) az with
   | some (s', is, az, q) => some (s', noInf :: is, az, r ++ q)
   | none => none
  | none => none
def execO (f : Nat) (rnd : Bool) (fl nt : Nat) : Code → St → List Ans → Option (Ex × St × List Ans × List Prop)
 | .skip, s, az => some (.norm, s, az, [])
 | .label _, s, az => some (.norm, s, az, [])
 | .region id ops draw, s, az => match runO P call (fun d => rnd || T.siteAt f d) fl nt ops ops.toList s az with
  | some (s', infs, az, p) =>
   match az with
   | .calm :: az => if infs.all (fun i => i.ws.isEmpty) then some (.norm, { s' with env := pick (T.liveAt f id) s'.env }, az, p ++ [staticOk ops.toList = true]) else none
   | .dyn :: az => if staticOk ops.toList then some (.norm, { s' with env := pick (T.liveAt f id) s'.env }, az, p ++ [dynOk infs (hotPairs ops.toList) = true]) else none
   | az => if !draw || (staticOk ops.toList && dynOk infs (hotPairs ops.toList)) then some (.norm, { s' with env := pick (T.liveAt f id) s'.env }, az, p) else none
  | none => none
 | .seq a b, s, az => match execO f rnd fl nt a s az with
  | some (.norm, s, az, p) => match execO f rnd fl nt b s az with
   | some (e, s, az, q) => some (e, s, az, p ++ q)
   | none => none
  | r => r
 | .cond c a b, s, az => match az with
  | .br t :: az => match tvO s.env c with
   | some (.bool u) => match t with
    | true => match execO f rnd fl nt a s az with
     | some (e, s, az, q) => some (e, s, az, (u = true) :: q)
     | none => none
    | false => match execO f rnd fl nt b s az with
     | some (e, s, az, q) => some (e, s, az, (u = false) :: q)
     | none => none
   | _ => none
  | _ => none
 | .block id b, s, az => match execO f rnd fl nt b s az with
  | some (.exit i, s, az, p) => some (if i = id then .norm else .exit i, s, az, p)
  | r => r
 | .scope b, s, az => execO f rnd fl nt b s az
 | .loop b, s, az => match az with
  | .loop e s' :: az => some (e, s', az, [exec P T call L f rnd fl nt (.loop b) s = some (e, s')])
  | _ => none
 | .exit id, s, az => some (.exit id, s, az, [])
 | .ret, s, az => some (.ret, s, az, [])
 | .rangeFunc g ps assign body, s, az => match az with
  | .loop e s' :: az => some (e, s', az, [exec P T call L f rnd fl nt (.rangeFunc g ps assign body) s = some (e, s')])
  | _ => none
 | _, _, _ => none
end
section
variable {P : Program} {T : Tab} {call : CallT} {L : Nat}
theorem opO_ok {site : Nat → Bool} {fl : Nat} {s s1 : St} {o : Oper} {az as' : List Ans} {v : EV} {i : Inf} {p : List Prop} (h : opO P call site fl s o az = some (v, s1, i, as', p)) (hp : AllP p) :
  ∃ s0, opT P call site s o = some (v, s0, i) ∧ s1 = { s0 with ws := addKs fl i.ws s.ws } := by
 unfold opO at h
 split at h
 ·split at h
  ·split at h
   ·rename_i c a b ho
    split at h
    ·rename_i u hc
     split at h
     ·split at h
      ·rename_i v1 hv
       simp only [Option.some.injEq, Prod.mk.injEq] at h
       obtain ⟨rfl, rfl, rfl, rfl, rfl⟩ := h
       obtain ⟨rfl, _⟩ := hp
       exact ⟨s, by simp only [opT, ho, hc, hv, if_true]; rfl, rfl⟩
      ·cases h
     ·split at h
      ·rename_i v1 hv
       simp only [Option.some.injEq, Prod.mk.injEq] at h
       obtain ⟨rfl, rfl, rfl, rfl, rfl⟩ := h
       obtain ⟨rfl, _⟩ := hp
       exact ⟨s, by simp only [opT, ho, hc, hv, Bool.false_eq_true, if_false]; rfl, rfl⟩
      ·cases h
    ·cases h
   ·cases h
  ·split at h
   ·rename_i t x f ho
    split at h
    ·rename_i b off lim n hx hn
     simp only [Option.some.injEq, Prod.mk.injEq] at h
     obtain ⟨rfl, rfl, rfl, rfl, rfl⟩ := h
     have h1 : off + n ≤ lim := hp.1
     exact ⟨s, by simp only [opT, ho, hx, hn, offT, h1, if_true]; rfl, rfl⟩
    ·cases h
   ·cases h
  ·simp only [Option.some.injEq, Prod.mk.injEq] at h
   obtain ⟨rfl, rfl, rfl, rfl, rfl⟩ := h
   exact ⟨_, hp.1, by rw [hp.2.1]; rfl⟩
  ·split at h
   ·rename_i t a ho
    split at h
    ·rename_i b off lim agg n ha hg hn
     simp only [Option.some.injEq, Prod.mk.injEq] at h
     obtain ⟨rfl, rfl, rfl, rfl, rfl⟩ := h
     exact ⟨s, by simp only [opT, ho, ha, loadT_rd hg hn hp.1]; rfl, rfl⟩
    ·cases h
   ·cases h
  ·split at h
   ·rename_i t a x ho
    split at h
    ·rename_i b off lim w n ha hx hn
     split at h
     ·rename_i hc
      simp only [Option.some.injEq, Prod.mk.injEq] at h
      obtain ⟨rfl, rfl, rfl, rfl, rfl⟩ := h
      obtain ⟨p1, p2, p3, _⟩ := hp
      rename_i h9 ws9 _ _ _ _ _ _
      refine ⟨{ s with heap := h9 }, ?_, by simp only [wrK, addKs, p3]⟩
      simp only [opT, ho, ha, hx, storeT, hn]
      rw [if_pos hc, if_pos p2, p1]
      rfl
     ·cases h
    ·cases h
   ·cases h
  ·split at h
   ·rename_i t x i0 ho
    split at h
    ·rename_i e b off len cap sz ex iv hu hx hi
     split at h
     ·rename_i hsz
      simp only [Option.some.injEq, Prod.mk.injEq] at h
      obtain ⟨rfl, rfl, rfl, rfl, rfl⟩ := h
      refine ⟨s, ?_, rfl⟩
      simp only [opT, ho, hx, hi, indexAddrT, hu, hsz, if_true, hp.1]
      rfl
     ·cases h
    ·cases h
   ·cases h
  ·split at h
   ·rename_i t x i0 ho
    split at h
    ·rename_i xv iv hx hi
     simp only [Option.some.injEq, Prod.mk.injEq] at h
     obtain ⟨rfl, rfl, rfl, rfl, rfl⟩ := h
     exact ⟨s, by simp only [opT, ho, hx, hi, hp.1]; rfl, rfl⟩
    ·cases h
   ·cases h
  ·split at h
   ·rename_i t m k x ho
    split at h
    ·rename_i r kv v hm hk hx
     simp only [Option.some.injEq, Prod.mk.injEq] at h
     obtain ⟨rfl, rfl, rfl, rfl, rfl⟩ := h
     exact ⟨_, by simp only [opT, ho, hm, hk, hx, updateT_onH hp.1]; rfl, by simp only [wrK, addKs, hp.2.1]⟩
    ·cases h
   ·rename_i t m k x ho
    split at h
    ·rename_i r kv v hm hk hx
     simp only [Option.some.injEq, Prod.mk.injEq] at h
     obtain ⟨rfl, rfl, rfl, rfl, rfl⟩ := h
     exact ⟨_, by simp only [opT, ho, hm, hk, hx, updateT_onH hp.1]; rfl, by simp only [wrK, addKs, hp.2.1]⟩
    ·cases h
   ·cases h
  ·split at h
   ·rename_i c ho
    split at h
    ·rename_i d x hc hxs
     simp only [Option.some.injEq, Prod.mk.injEq] at h
     obtain ⟨rfl, rfl, rfl, rfl, rfl⟩ := h
     exact ⟨_, by simp only [opT, ho, callT, hc, hxs, builtinT, appendT_onH hp.1]; rfl, by rw [hp.2.1]⟩
    ·rename_i d x hc hxs
     simp only [Option.some.injEq, Prod.mk.injEq] at h
     obtain ⟨rfl, rfl, rfl, rfl, rfl⟩ := h
     exact ⟨_, by simp only [opT, ho, callT, hc, hxs, builtinT, copyT_onH hp.1]; rfl, by rw [hp.2.1]⟩
    ·cases h
   ·rename_i t l c ho
    split at h
    ·rename_i l' c' hl hc
     simp only [Option.some.injEq, Prod.mk.injEq] at h
     obtain ⟨rfl, rfl, rfl, rfl, rfl⟩ := h
     exact ⟨_, by simp only [opT, ho, hl, hc, makeSliceT_onH hp.1]; rfl, by simp only [noInf, addKs, hp.2.1]⟩
    ·cases h
   ·cases h
  ·split at h
   ·rename_i c ho
    split at h
    ·rename_i x hc hxs
     simp only [Option.some.injEq, Prod.mk.injEq] at h
     obtain ⟨rfl, rfl, rfl, rfl, rfl⟩ := h
     exact ⟨s, by simp only [opT, ho, callT, hc, hxs, builtinT, hp.1]; rfl, rfl⟩
    ·cases h
   ·rename_i op t x y t' ho
    split at h
    ·rename_i u w hu hw
     simp only [Option.some.injEq, Prod.mk.injEq] at h
     obtain ⟨rfl, rfl, rfl, rfl, rfl⟩ := h
     exact ⟨_, by simp only [opT, ho, hu, hw, hp.1]; rfl, rfl⟩
    ·cases h
   ·rename_i t m k ok ho
    split at h
    ·rename_i u w hu hw
     simp only [Option.some.injEq, Prod.mk.injEq] at h
     obtain ⟨rfl, rfl, rfl, rfl, rfl⟩ := h
     exact ⟨s, by simp only [opT, ho, hu, hw, hp.1]; rfl, rfl⟩
    ·cases h
   ·rename_i t x i0 ho
    split at h
    ·rename_i u w hu hw
     simp only [Option.some.injEq, Prod.mk.injEq] at h
     obtain ⟨rfl, rfl, rfl, rfl, rfl⟩ := h
     exact ⟨_, by simp only [opT, ho, hu, hw, hp.1]; rfl, rfl⟩
    ·cases h
   ·rename_i t x lo hi mx ho
    split at h
    ·rename_i x' lo' hi' mx' ht hx hlo hhi hmx
     simp only [Option.some.injEq, Prod.mk.injEq] at h
     obtain ⟨rfl, rfl, rfl, rfl, rfl⟩ := h
     exact ⟨s, by simp only [opT, ho, hx, hlo, hhi, hmx, ht, hp.1]; rfl, rfl⟩
    ·rename_i x' lo' hi' mx' ht hx hlo hhi hmx
     simp only [Option.some.injEq, Prod.mk.injEq] at h
     obtain ⟨rfl, rfl, rfl, rfl, rfl⟩ := h
     exact ⟨s, by simp only [opT, ho, hx, hlo, hhi, hmx, ht, hp.1]; rfl, rfl⟩
    ·rename_i x' lo' hi' mx' ht hx hlo hhi hmx
     simp only [Option.some.injEq, Prod.mk.injEq] at h
     obtain ⟨rfl, rfl, rfl, rfl, rfl⟩ := h
     exact ⟨s, by simp only [opT, ho, hx, hlo, hhi, hmx, ht, hp.1]; rfl, rfl⟩
    ·cases h
   ·cases h
  ·simp only [Option.some.injEq, Prod.mk.injEq] at h
   obtain ⟨rfl, rfl, rfl, rfl, rfl⟩ := h
   exact ⟨_, hp.1, by rw [hp.2.1]⟩
  ·split at h
   ·rename_i c ho
    obtain ⟨callee, args, ats⟩ := c
    simp only at h
    split at h
    ·rename_i f xs hxs
     split at h
     ·rename_i fv hfv
      simp only [Option.some.injEq, Prod.mk.injEq] at h
      obtain ⟨rfl, rfl, rfl, rfl, rfl⟩ := h
      rename_i _ v1 h1 ws1 ws2 _ _ _ _ _
      refine ⟨{ s with heap := h1 }, ?_, by rw [hp.2.1]⟩
      simp only [opT, ho, callT, hxs, hfv, hp.1]
     ·cases h
    ·cases h
   ·cases h
  ·cases h
 ·split at h
  ·split at h
   ·split at h
    ·rename_i e x ho
     split at h
     ·rename_i v hv
      split at h
      rename_i e1 s1 hb
      simp only [Option.some.injEq, Prod.mk.injEq] at h
      obtain ⟨rfl, rfl, rfl, rfl, rfl⟩ := h
      refine ⟨s1, ?_, ?_⟩
      ·simp only [opT, ho, hv, hp.1, if_true, hb]
      ·have : s1.ws = s.ws := by
        unfold newBox at hb
        split at hb <;> (cases hb; rfl)
       simp only [noInf, addKs, ← this]
     ·cases h
    ·rename_i t a x ho
     split at h
     ·rename_i k off v n ha hx hn
      split at h
      ·rename_i hl
       split at h
       ·rename_i cs hk
        split at h
        ·rename_i cs' hov
         simp only [Option.some.injEq, Prod.mk.injEq] at h
         obtain ⟨rfl, rfl, rfl, rfl, rfl⟩ := h
         refine ⟨{ s with loc := s.loc.set k cs' }, ?_, rfl⟩
         simp only [opT, ho, ha, hx, storeT, hn]
         rw [if_pos ⟨hl, hp.1⟩]
         simp only [hk, hov]
         rfl
        ·cases h
       ·cases h
      ·cases h
     ·cases h
    ·cases h
   ·cases h
  ·split at h
   ·rename_i v0 s0 i0 hop
    simp only [Option.some.injEq, Prod.mk.injEq] at h
    obtain ⟨rfl, rfl, rfl, rfl, rfl⟩ := h
    exact ⟨s0, hop, rfl⟩
   ·cases h
theorem wantO_ok {ops : Array Oper} {env : List (Nat × EV)} {o : Oper} {az as' : List Ans} {w : Bool} {p : List Prop} (h : wantO ops env o az = some (w, as', p)) (hp : AllP p) : wantT ops env o = some w := by
 unfold wantO at h
 unfold wantT
 split at h
 ·rename_i hg
  simp only [Option.some.injEq, Prod.mk.injEq] at h
  obtain ⟨rfl, rfl, rfl⟩ := h
  simp only [hg]
 ·rename_i j want hg
  simp only [hg]
  split at h
  ·rename_i d hd
   simp only [hd]
   split at h
   ·rename_i b hb
    simp only [hb]
    split at h
    ·simp only [Option.some.injEq, Prod.mk.injEq] at h
     obtain ⟨rfl, rfl, rfl⟩ := h
     rw [hp.1]
    ·simp only [Option.some.injEq, Prod.mk.injEq] at h
     obtain ⟨rfl, rfl, rfl⟩ := h
     rw [hp.1]
    ·cases h
   ·rename_i hb
    simp only [Option.some.injEq, Prod.mk.injEq] at h
    obtain ⟨rfl, rfl, rfl⟩ := h
    simp only [hb]
   ·cases h
  ·cases h
theorem runO_ok {site : Nat → Bool} {fl nt : Nat} {ops : Array Oper} : ∀ {os : List Oper} {s s' : St} {az as' : List Ans} {is : List Inf} {p : List Prop}, runO P call site fl nt ops os s az = some (s', is, as', p) → AllP p →
  runOps P call site fl nt ops os s = some (s', is)
 | [], s, s', az, as', is, p, h, hp => by
  simp only [runO, Option.some.injEq, Prod.mk.injEq] at h
  obtain ⟨rfl, rfl, _, _⟩ := h
  rfl
 | o :: os, s, s', az, as', is, p, h, hp => by
  simp only [runO] at h
  simp only [runOps]
  split at h
  ·cases h
  ·rename_i hd
   rw [if_neg hd]
   split at h
   ·rename_i as0 r hw
    split at h
    ·rename_i v s1 i as1 p1 hop
     split at h
     ·rename_i s2 is2 as2 q hr
      simp only [Option.some.injEq, Prod.mk.injEq] at h
      obtain ⟨rfl, rfl, rfl, rfl⟩ := h
      have hw := wantO_ok hw hp.app.1
      obtain ⟨s0, h1, rfl⟩ := opO_ok hop hp.app.2.app.1
      have h2 := runO_ok hr hp.app.2.app.2
      simp only [hw, h1, h2]
     ·cases h
    ·cases h
   ·rename_i as0 r hw
    split at h
    ·rename_i s2 is2 as2 q hr
     simp only [Option.some.injEq, Prod.mk.injEq] at h
     obtain ⟨rfl, rfl, rfl, rfl⟩ := h
     have hw := wantO_ok hw hp.app.1
     have h2 := runO_ok hr hp.app.2
     simp only [hw, h2]
    ·cases h
   ·cases h
theorem dynOk_quiet {infs : List Inf} (hq : ∀ i ∈ infs, i.ws = []) : ∀ {ps : List (Nat × Nat)}, (∀ x ∈ ps, x.1 < infs.length ∧ x.2 < infs.length) → dynOk infs ps = true
 | [], _ => rfl
 | (i, j) :: r, hr => by
  have h0 := hr (i, j) (List.mem_cons_self ..)
  have hi : infs[i]? = some (infs[i]'h0.1) := List.getElem?_eq_getElem h0.1
  have hj : infs[j]? = some (infs[j]'h0.2) := List.getElem?_eq_getElem h0.2
  simp only [dynOk, hi, hj, Bool.and_eq_true]
  refine ⟨?_, dynOk_quiet hq fun x hx => hr x (List.mem_cons_of_mem _ hx)⟩
  have e1 := hq _ (List.getElem_mem h0.1)
  have e2 := hq _ (List.getElem_mem h0.2)
  simp only [calm, calm1, e1, e2, List.all_nil, Bool.and_self]
theorem hot_range {ops : List Oper} : ∀ x ∈ hotPairs ops, x.1 < ops.length ∧ x.2 < ops.length := by
 intro x hx
 simp only [hotPairs, List.mem_filter] at hx
 have h := hx.1
 simp only [openPairs, List.mem_flatMap, List.mem_map, List.mem_filter, List.mem_range] at h
 obtain ⟨j, hj, i, ⟨hi, _⟩, rfl⟩ := h
 exact ⟨by simp only; omega, hj⟩
theorem runO_len {site : Nat → Bool} {fl nt : Nat} {ops : Array Oper} : ∀ {os : List Oper} {s s' : St} {az as' : List Ans} {is : List Inf} {p : List Prop},
  runO P call site fl nt ops os s az = some (s', is, as', p) → is.length = os.length
 | [], s, s', az, as', is, p, h => by
  simp only [runO, Option.some.injEq, Prod.mk.injEq] at h
  obtain ⟨_, rfl, _⟩ := h; rfl
 | o :: os, s, s', az, as', is, p, h => by
  simp only [runO] at h
  split at h
  ·cases h
  ·split at h
   ·split at h
    ·split at h
     ·rename_i hr
      simp only [Option.some.injEq, Prod.mk.injEq] at h
      obtain ⟨_, rfl, _⟩ := h
      simp only [List.length_cons, runO_len hr]
     ·cases h
    ·cases h
   ·split at h
    ·rename_i hr
     simp only [Option.some.injEq, Prod.mk.injEq] at h
     obtain ⟨_, rfl, _⟩ := h
     simp only [List.length_cons, runO_len hr]
    ·cases h
   ·cases h
theorem execO_ok {f : Nat} {rnd : Bool} {fl nt : Nat} : ∀ {c : Code} {s s' : St} {az as' : List Ans} {e : Ex} {p : List Prop}, execO P T call L f rnd fl nt c s az = some (e, s', as', p) → AllP p →
  exec P T call L f rnd fl nt c s = some (e, s') := by
 intro c
 induction c with
 | skip => intro s s' az as' e p h hp; simp only [execO, Option.some.injEq, Prod.mk.injEq] at h; obtain ⟨rfl, rfl, _, _⟩ := h; rfl
 | label l => intro s s' az as' e p h hp; simp only [execO, Option.some.injEq, Prod.mk.injEq] at h; obtain ⟨rfl, rfl, _, _⟩ := h; rfl
 | exit id => intro s s' az as' e p h hp; simp only [execO, Option.some.injEq, Prod.mk.injEq] at h; obtain ⟨rfl, rfl, _, _⟩ := h; rfl
 | ret => intro s s' az as' e p h hp; simp only [execO, Option.some.injEq, Prod.mk.injEq] at h; obtain ⟨rfl, rfl, _, _⟩ := h; rfl
 | region id ops draw =>
  intro s s' az as' e p h hp
  simp only [execO] at h
  split at h
  ·rename_i s1 infs as1 q hr
   split at h
   ·split at h
    ·rename_i hs
     simp only [Option.some.injEq, Prod.mk.injEq] at h
     obtain ⟨rfl, rfl, rfl, rfl⟩ := h
     have h1 := runO_ok hr hp.app.1
     simp only [exec, h1]
     rw [if_pos]
     simp only [Bool.or_eq_true, Bool.and_eq_true]
     refine .inr ⟨hp.app.2.1, dynOk_quiet (fun i hi => ?_) ?_⟩
     ·have := List.all_eq_true.mp hs i hi
      exact List.isEmpty_iff.mp this
     ·rw [runO_len hr]; exact hot_range
    ·cases h
   ·split at h
    ·rename_i hs
     simp only [Option.some.injEq, Prod.mk.injEq] at h
     obtain ⟨rfl, rfl, rfl, rfl⟩ := h
     have h1 := runO_ok hr hp.app.1
     simp only [exec, h1]
     rw [if_pos]
     simp only [Bool.or_eq_true, Bool.and_eq_true]
     exact .inr ⟨hs, hp.app.2.1⟩
    ·cases h
   ·split at h
    ·rename_i hd
     simp only [Option.some.injEq, Prod.mk.injEq] at h
     obtain ⟨rfl, rfl, rfl, rfl⟩ := h
     have h1 := runO_ok hr hp
     simp only [exec, h1, hd, if_true]
    ·cases h
  ·cases h
 | seq a b iha ihb =>
  intro s s' az as' e p h hp
  simp only [execO] at h
  simp only [exec]
  split at h
  ·rename_i s1 as1 q ha
   split at h
   ·rename_i e2 s2 as2 q2 hb
    simp only [Option.some.injEq, Prod.mk.injEq] at h
    obtain ⟨rfl, rfl, rfl, rfl⟩ := h
    rw [iha ha hp.app.1]
    exact ihb hb hp.app.2
   ·cases h
  ·rename_i hne
   have := iha h hp
   rw [this]
   cases e with
   | norm => exact (hne _ _ _ h).elim
   | _ => rfl
 | cond c a b iha ihb =>
  intro s s' az as' e p h hp
  simp only [execO] at h
  simp only [exec]
  split at h
  ·rename_i t as1
   split at h
   ·rename_i u hu
    rw [hu]
    split at h
    ·split at h
     ·rename_i e2 s2 as2 q hx
      simp only [Option.some.injEq, Prod.mk.injEq] at h
      obtain ⟨rfl, rfl, rfl, rfl⟩ := h
      obtain ⟨rfl, hq⟩ := hp
      exact iha hx hq
     ·cases h
    ·split at h
     ·rename_i e2 s2 as2 q hx
      simp only [Option.some.injEq, Prod.mk.injEq] at h
      obtain ⟨rfl, rfl, rfl, rfl⟩ := h
      obtain ⟨rfl, hq⟩ := hp
      exact ihb hx hq
     ·cases h
   ·cases h
  ·cases h
 | block id b ih =>
  intro s s' az as' e p h hp
  simp only [execO] at h
  simp only [exec]
  split at h
  ·rename_i i s1 as1 q hb
   simp only [Option.some.injEq, Prod.mk.injEq] at h
   obtain ⟨rfl, rfl, rfl, rfl⟩ := h
   rw [ih hb hp]
  ·rename_i hne
   rw [ih h hp]
   cases e with
   | exit i => exact (hne _ _ _ _ h).elim
   | _ => rfl
 | scope b ih =>
  intro s s' az as' e p h hp
  simp only [execO] at h
  simp only [exec]
  exact ih h hp
 | loop b ih =>
  intro s s' az as' e p h hp
  simp only [execO] at h
  split at h
  ·simp only [Option.some.injEq, Prod.mk.injEq] at h
   obtain ⟨rfl, rfl, rfl, rfl⟩ := h
   exact hp.1
  ·cases h
 | rangeFunc g ps asg body iha ihb =>
  intro s s' az as' e p h hp
  simp only [execO] at h
  split at h
  ·simp only [Option.some.injEq, Prod.mk.injEq] at h
   obtain ⟨rfl, rfl, rfl, rfl⟩ := h
   exact hp.1
  ·cases h
 | _ => intro s s' az as' e p h hp; simp [execO] at h
end
end Tw
namespace Tw
open Go
def loopsOf : Code → List Code
 | .seq a b => loopsOf a ++ loopsOf b
 | .cond _ a b => loopsOf a ++ loopsOf b
 | .block _ b => loopsOf b
 | .loop b => b :: loopsOf b
 | .scope b => loopsOf b
 | .rangeFunc _ _ a b => loopsOf a ++ loopsOf b
 | _ => []
def bodyAt (P : Program) (f k : Nat) : Code :=
 match fnT P f with
 | some t => (loopsOf t.body).getD k .skip
 | none => .skip
def ntOf (P : Program) (f : Nat) : Nat :=
 match fnT P f with
 | some t => t.nt
 | none => 0
section
variable (P : Program) (T : Tab) (call : CallT) (L f k : Nat) (fl : Nat)
def headOf (s : St) : St := atHead (T.headAt f (headId (bodyAt P f k))) s
def rounds (m : Nat) (s : St) : Option (Ex × St) :=
 iter (fun s => exec P T call L f false fl (ntOf P f) (bodyAt P f k) (headOf P T f k s)) m s
end
end Tw
namespace Tw
open Go
inductive Fs (call : CallT) (fl : Nat) : List Ans → List Prop → Prop where
 | n : Fs call fl [] []
 | a {az : List Ans} {ps : List Prop} (x : Ans) (r : Fs call fl az ps) : Fs call fl (x :: az) ps
 | o {az : List Ans} {ps : List Prop} {p : Prop} (h : p) (r : Fs call fl az ps) : Fs call fl az (p :: ps)
namespace Fs
variable {call : CallT} {fl : Nat} {az : List Ans} {ps : List Prop}
theorem all (h : Fs call fl az ps) : AllP ps := by
 induction h with
 | n => trivial
 | a _ _ ih => exact ih
 | o h _ ih => exact ⟨h, ih⟩
theorem b {c b : Bool} (h : c = b) (r : Fs call fl az ps) : Fs call fl (.br b :: az) ((c = b) :: ps) := .a _ (.o h r)
theorem b2 {c b : Bool} (h : c = b) (r : Fs call fl az ps) : Fs call fl (.br b :: .br b :: az) ((c = b) :: (c = b) :: ps) := .b h (.b h r)
theorem b3 {c b : Bool} (h : c = b) (r : Fs call fl az ps) : Fs call fl (.br b :: .br b :: .br b :: az) ((c = b) :: (c = b) :: (c = b) :: ps) := .b h (.b2 h r)
theorem b4 {c b : Bool} (h : c = b) (r : Fs call fl az ps) : Fs call fl (.br b :: .br b :: .br b :: .br b :: az) ((c = b) :: (c = b) :: (c = b) :: (c = b) :: ps) := .b2 h (.b2 h r)
theorem c {fv : TV} {xs : List TV} {h h' : List HB} {v : TV} (e : call fv xs h = some (v, h', [])) (r : Fs call fl az ps) : Fs call fl (.call v h' [] [] :: az) ((call fv xs h = some (v, h', [])) :: (addKs fl [] [] = []) :: ps) := .a _ (.o e (.o rfl r))
theorem l {g : Bool} {k : Nat} {h : List HB} {b off lim : Nat} {v : TV} (e : rdAt g k h b off lim = some v) (r : Fs call fl az ps) : Fs call fl (.ld v :: az) ((rdAt g k h b off lim = some v) :: ps) := .a _ (.o e r)
theorem i {len : Nat} {iv : TV} {j : Nat} (e : idx len iv = some j) (r : Fs call fl az ps) : Fs call fl (.ix j :: az) ((idx len iv = some j) :: ps) := .a _ (.o e r)
theorem p {P : Program} {t : TypeId} {xv iv : TV} {b off lim : Nat} (e : indexAddrT P t (.val xv) iv = some (.val (.ptr b off lim))) (r : Fs call fl az ps) : Fs call fl (.pt b off lim :: az) ((indexAddrT P t (.val xv) iv = some (.val (.ptr b off lim))) :: ps) := .a _ (.o e r)
theorem r {X : Option TV} {v : TV} (e : X = some v) (r : Fs call fl az ps) : Fs call fl (.rd v :: az) ((X = some v) :: ps) := .a _ (.o e r)
theorem k {X : Option (TV × Inf)} {v : TV} (e : X = some (v, noInf)) (r : Fs call fl az ps) : Fs call fl (.rd v :: az) ((X = some (v, noInf)) :: ps) := .a _ (.o e r)
theorem w {P : Program} {T : Tab} {L f k m : Nat} {q : St} {x : Ex} {s : St} (e : rounds P T call L f k fl m q = some (x, s)) (r : Fs call fl az ps) : Fs call fl (.loop x s :: az) ((rounds P T call L f k fl m q = some (x, s)) :: ps) := .a _ (.o e r)
theorem v {X : Option (Ex × St)} {x : Ex} {s : St} (e : X = some (x, s)) (r : Fs call fl az ps) : Fs call fl (.loop x s :: az) ((X = some (x, s)) :: ps) := .a _ (.o e r)
theorem g {P : Program} {at_ : Array TypeId} {h h' : List HB} {d x v : TV} {i : Inf} (e : appendT P at_ (onH h) d x = some (v, onH h', i)) {ws ws' : List Nat} (k : addKs fl i.ws ws = ws') (r : Fs call fl az ps) : Fs call fl (.hp v h' i ws' :: az) ((appendT P at_ (onH h) d x = some (v, onH h', i)) :: (addKs fl i.ws ws = ws') :: ps) := .a _ (.o e (.o k r))
theorem u {P : Program} {t : TypeId} {h h' : List HB} {m : Nat} {k v : TV} (e : updateT P t (onH h) (.map m) k v = some (onH h', wrK (.h m))) {ws ws' : List Nat} (q : addW fl m ws = ws') (r : Fs call fl az ps) : Fs call fl (.up h' ws' :: az) ((updateT P t (onH h) (.map m) k v = some (onH h', wrK (.h m))) :: (addW fl m ws = ws') :: ps) := .a _ (.o e (.o q r))
theorem f {p : Prop} (e : p) (r : Fs call fl az ps) : Fs call fl (.fa :: az) (p :: ps) := .a _ (.o e r)
theorem x {p : Prop} (e : p) (r : Fs call fl az ps) : Fs call fl (.bx :: az) (p :: ps) := .a _ (.o e r)
theorem d {p : Prop} (e : p) (r : Fs call fl az ps) : Fs call fl (.dyn :: az) (p :: ps) := .a _ (.o e r)
theorem m {p : Prop} (e : p) (r : Fs call fl az ps) : Fs call fl (.calm :: az) (p :: ps) := .a _ (.o e r)
end Fs
section
variable {P : Program} {T : Tab} {call : CallT} {L f k : Nat} {fl : Nat}
theorem round_on {m : Nat} {s s1 : St} {an : List Ans} {p : List Prop} {r : Option (Ex × St)} (h : execO P T call L f false fl (ntOf P f) (bodyAt P f k) (headOf P T f k s) an = some (.norm, s1, [], p)) (hp : Fs call fl an p)
  (hr : rounds P T call L f k fl m s1 = r) : rounds P T call L f k fl (m + 1) s = r := by
 rw [← hr]
 unfold rounds
 conv => lhs; unfold iter
 rw [execO_ok h hp.all]
theorem round_out {m : Nat} {s s1 : St} {e : Ex} {an : List Ans} {p : List Prop} (h : execO P T call L f false fl (ntOf P f) (bodyAt P f k) (headOf P T f k s) an = some (e, s1, [], p)) (hp : Fs call fl an p) (he : isNorm e = false) :
  rounds P T call L f k fl (m + 1) s = some (e, s1) := by
 unfold rounds
 conv => lhs; unfold iter
 rw [execO_ok h hp.all]
 cases e with
 | norm => cases he
 | _ => rfl
end
end Tw
namespace Tw
open Go
abbrev u8 (n : Int) : TV := .int .u8 n
abbrev quoI (k : IntKind) (x y : Int) : Int := k.wrap (x.tdiv y)
abbrev remI (_k : IntKind) (x y : Int) : Int := x.tmod y
abbrev shlI (k : IntKind) (x y : Int) : Int := k.wrap (x * 2 ^ (min y.toNat k.bits))
abbrev shrI (k : IntKind) (x y : Int) : Int := x.fdiv (2 ^ (min y.toNat k.bits))
theorem iter_le {g : St → Option (Ex × St)} : ∀ {m L : Nat} {s : St} {r : Ex × St}, iter g m s = some r → m ≤ L → iter g L s = some r
 | 0, _, _, _, h, _ => by simp [iter] at h
 | m + 1, L, s, r, h, hl => by
  obtain ⟨L, rfl⟩ : ∃ k, L = k + 1 := ⟨L - 1, by omega⟩
  unfold iter at h ⊢
  split at h
  ·exact iter_le h (by omega)
  ·exact h
section
variable {P : Program} {T : Tab} {call : CallT} {L f k : Nat} {fl : Nat}
theorem rounds_le {m M : Nat} {s : St} {r : Ex × St} (h : rounds P T call L f k fl m s = some r) (hl : m ≤ M) : rounds P T call L f k fl M s = some r := iter_le h hl
end
end Tw

namespace Tw
open Go
section
variable {P : Program}
theorem pr_equalIn_struct (d : Nat) (t : TypeId) (xs ys : Array Value) (fs : Array Field) (ht : P.underlying t = some (.struct fs)) (hp : P.stoodInHeld t = false) :
  pureRun P (Op.equalIn (d + 1) t (.agg xs) (.agg ys)) = pureRun P (Op.eqFields d xs ys fs.toList) := by
 have hu : pureRun P (underlying t) = some (.struct fs) := by
  simp only [underlying, pureRun_bind]
  have : pureRun P program = some P := rfl
  simp [this, ht, pureRun]
  rfl
 simp only [Op.equalIn, pureRun_bind, hu, Option.bind_some, show pureRun P program = some P from rfl, hp, Bool.false_eq_true, if_false]
 rw [← Array.forIn_toList]
 generalize fs.toList = fs
 clear ht hu
 induction fs with
 | nil => simp [Op.eqFields, pureRun, pureRun_bind]; rfl
 | cons f fs ih =>
  simp only [List.forIn_cons, Op.eqFields, pureRun_bind] at ih ⊢
  split
  ·simp only [pureRun_bind]
   generalize pureRun P (part f.type xs f.offset) = r1
   cases r1 with
   | none => simp
   | some a =>
    simp only [Option.bind_some]
    generalize pureRun P (part f.type ys f.offset) = r2
    cases r2 with
    | none => simp
    | some b =>
     simp only [Option.bind_some]
     generalize pureRun P (Op.equalIn d f.type a b) = r3
     cases r3 with
     | none => simp
     | some r =>
      cases r with
      | false => simp only [Option.bind_some, Bool.not_false, if_true]; rfl
      | true => simp only [Option.bind_some, Bool.not_true, Bool.false_eq_true, if_false]; exact ih
  ·exact ih
theorem pr_equalIn_int (d : Nat) (t : TypeId) (k k' : IntKind) (a b : Int) (h : P.underlying t = some (.int k')) : pureRun P (Op.equalIn (d + 1) t (.int k a) (.int k b)) = some (a == b) := by
 have hu : pureRun P (underlying t) = some (.int k') := by
  simp only [underlying, pureRun_bind, show pureRun P program = some P from rfl, Option.bind_some, h]
  rfl
 simp only [Op.equalIn, pureRun_bind, hu, Option.bind_some, if_true]
 rfl
theorem pr_eqFields_cons {d : Nat} {xs ys : Array Value} {f : Field} {fs : List Field} {a b : Value} {r : Bool} (hn : f.name ≠ "_") (ha : pureRun P (part f.type xs f.offset) = some a) (hb : pureRun P (part f.type ys f.offset) = some b)
  (hr : pureRun P (Op.equalIn d f.type a b) = some r) : pureRun P (Op.eqFields d xs ys (f :: fs)) = if r = true then pureRun P (Op.eqFields d xs ys fs) else some false := by
 simp only [Op.eqFields]
 rw [if_pos hn]
 simp only [pureRun_bind, ha, hb, hr, Option.bind_some]
 cases r with
 | true => rfl
 | false => rfl
theorem binT_eql_agg {t : TypeId} {x y : Operand} {xs ys : List TV} {us vs : List Value} {r : Bool} (hx : TV.toCs xs = some us) (hy : TV.toCs ys = some vs) (hg : P.eqGuardType P.depth t = false)
  {d : Nat} (hd : d = 10000) (h : pureRun P (Op.equalIn d t (.agg us.toArray) (.agg vs.toArray)) = some r) : binT P .eql t x y (.agg xs) (.agg ys) = some (.bool r) ∧ binT P .neq t x y (.agg xs) (.agg ys) = some (.bool (!r)) := by
 subst hd
 constructor
 all_goals
  simp only [binT, TV.toV, hx, hy, Option.map_some]
  simp only [eqGuard, binOp, Op.equal, Op.maxDepth, pureRun_bind, show pureRun P program = some P from rfl, hg, Option.bind_some, Bool.not_true, Bool.not_false, Bool.false_eq_true, if_false, if_true, h]
  rfl
theorem binT_shl {t : TypeId} {x y : Operand} {k k' : IntKind} {a b : Int} (h : 0 ≤ b) : binT P .shl t x y (.int k a) (.int k' b) = some (.int k (shlI k a b)) := by
 simp only [binT, TV.toV, TV.toC, eqGuard, binOp, Op.shift]
 rw [if_neg (show ¬ b < 0 by omega)]
 rfl
theorem binT_shr {t : TypeId} {x y : Operand} {k k' : IntKind} {a b : Int} (h : 0 ≤ b) : binT P .shr t x y (.int k a) (.int k' b) = some (.int k (shrI k a b)) := by
 simp only [binT, TV.toV, TV.toC, eqGuard, binOp, Op.shift]
 rw [if_neg (show ¬ b < 0 by omega)]
 rfl
theorem binT_quo {t : TypeId} {x y : Operand} {k : IntKind} {a b : Int} (h : b ≠ 0) : binT P .quo t x y (.int k a) (.int k b) = some (.int k (quoI k a b)) := by
 simp only [binT, TV.toV, TV.toC, eqGuard, binOp, Op.intDiv]
 rw [if_neg h]
 cases k <;> rfl
theorem binT_rem {t : TypeId} {x y : Operand} {k : IntKind} {a b : Int} (h : b ≠ 0) : binT P .rem t x y (.int k a) (.int k b) = some (.int k (remI k a b)) := by
 simp only [binT, TV.toV, TV.toC, eqGuard, binOp, Op.intDiv]
 rw [if_neg h]
 cases k <;> rfl
end
end Tw
namespace Pv
open Go Tw
def posN : List Nat → Nat → Option Nat
 | [], _ => none
 | a :: l, i => if a = i then some 0 else (posN l i).map (· + 1)
inductive G where
 | lit
 | nilE (t e : Nat)
 | nilL (k off e : Nat)
 | nilH (i off e : Nat)
 | flag (i : Nat)
 | gc (ks : List Nat)
 | mv (i : Nat)
section
variable {Γ : Nat → Type}
def renV (g : Nat → Option Nat) : PV Γ → Option (PV Γ)
 | .ptr b off lim => (g b).map fun b => .ptr b off lim
 | .slc b off len cap sz ex => (g b).map fun b => .slc b off len cap sz ex
 | .own b => (g b).map .own
 | .win b o n => (g b).map fun b => .win b o n
 | .map r => (g r).map .map
 | .fn f a c => match renVs g a, renVs g c with
  | some a, some c => some (.fn f a c)
  | _, _ => none
 | .yld l => (g l).map .yld
 | .agg cs => (renVs g cs).map .agg
 | .tup cs => (renVs g cs).map .tup
 | .row b j off => (g b).map fun b => .row b j off
 | .bool b => some (.bool b)
 | .lit b => some (.lit b)
 | .int k n => some (.int k n)
 | .str s => some (.str s)
 | .nil k => some (.nil k)
 | .lst t l f => some (.lst t l f)
 | .el t a off => some (.el t a off)
where
 renVs (g : Nat → Option Nat) : List (PV Γ) → Option (List (PV Γ))
 | [] => some []
 | c :: cs => match renV g c, renVs g cs with
  | some v, some vs => some (v :: vs)
  | _, _ => none
def renE (g : Nat → Option Nat) : PE Γ → Option (PE Γ)
 | .val v => (renV g v).map .val
 | e => some e
def renEs (g : Nat → Option Nat) : List (Nat × PE Γ) → Option (List (Nat × PE Γ))
 | [] => some []
 | (k, v) :: r => match renE g v, renEs g r with
  | some v, some r => some ((k, v) :: r)
  | _, _ => none
def renL (g : Nat → Option Nat) : List (List (PV Γ)) → Option (List (List (PV Γ)))
 | [] => some []
 | l :: r => match renV.renVs g l, renL g r with
  | some l, some r => some (l :: r)
  | _, _ => none
def renB (g : Nat → Option Nat) : PB Γ → Option (PB Γ)
 | .cells cs => (renV.renVs g cs).map .cells
 | .rcells cs => (renV.renVs g cs).map .rcells
 | .map es => some (.map es)
 | .loop rd f nt env ps a b pend => (renEs g env).map fun env => .loop rd f nt env ps a b pend
 | b => some b
def renBs (g : Nat → Option Nat) : List (PB Γ) → Option (List (PB Γ))
 | [] => some []
 | b :: r => match renB g b, renBs g r with
  | some b, some r => some (b :: r)
  | _, _ => none
def pickB (H : List (PB Γ)) : List Nat → Option (List (PB Γ))
 | [] => some []
 | i :: is => match H[i]?, pickB H is with
  | some b, some r => some (b :: r)
  | _, _ => none
def litE : List (Nat × PE Γ) → List (Nat × PE Γ)
 | [] => []
 | (k, .val v) :: r => (k, .val (unlit v)) :: litE r
 | x :: r => x :: litE r
def nilE (t i : Nat) : List (Nat × PE Γ) → Option (List (Nat × PE Γ))
 | [] => none
 | (k, v) :: r => if k = t then (match v with
   | .val (.nil .slc) => some ((k, .val (.own i)) :: r)
   | _ => none) else (nilE t i r).map ((k, v) :: ·)
def nilC (off i : Nat) (cs : List (PV Γ)) : Option (List (PV Γ)) :=
 match cs[off]? with
 | some (.nil .slc) => some (cs.set off (.own i))
 | _ => none
def gstep (B : Nat) (s : PSt Γ) : G → Option (PSt Γ)
 | .lit => some { s with env := litE s.env }
 | .nilE t e => (nilE t s.heap.length s.env).map fun env => { s with env := env, heap := s.heap ++ [.list false false e []] }
 | .nilL k off e => match s.loc[k]? with
  | some cs => (nilC off s.heap.length cs).map fun cs => { s with loc := s.loc.set k cs, heap := s.heap ++ [.list false false e []] }
  | none => none
 | .nilH i off e => match s.heap[i]? with
  | some (.cells cs) => (nilC off s.heap.length cs).map fun cs => { s with heap := s.heap.set i (.cells cs) ++ [.list false false e []] }
  | _ => none
 | .flag i => match s.heap[i]? with
  | some (.list _ _ t l) => some { s with heap := s.heap.set i (.list false false t l) }
  | _ => none
 | .gc ks => if ks.all (fun k => decide (B ≤ k)) && decide ks.Nodup && decide (B ≤ s.heap.length) then
   let g : Nat → Option Nat := fun i => if i < B then some i else (posN ks i).map (· + B)
   match renEs g s.env, renL g s.loc, renBs g (s.heap.take B), pickB s.heap ks with
   | some env, some loc, some h1, some h2 => match renBs g h2 with
    | some h2 => some ⟨env, loc, h1 ++ h2⟩
    | none => none
   | _, _, _, _ => none
  else none
 | .mv i => match s.heap[i]? with
  | some b =>
   let g : Nat → Option Nat := fun j => if j = i then some s.heap.length else if j < s.heap.length then some j else none
   match renEs g s.env, renL g s.loc, renBs g (s.heap.set i .gone), renB g b with
   | some env, some loc, some h1, some b1 => some ⟨env, loc, h1 ++ [b1]⟩
   | _, _, _, _ => none
  | none => none
def gsteps (B : Nat) : List G → PSt Γ → Option (PSt Γ)
 | [], s => some s
 | g :: gs, s => match gstep B s g with
  | some s => gsteps B gs s
  | none => none
end
def askD : BinOp → Bool
 | .quo | .rem | .shl | .shr => true
 | _ => false
def pdiv {Γ : Nat → Type} (op : BinOp) : PV Γ → PV Γ → Option (PV Γ × List Prop)
 | .int k x, .int k' y => match op with
  | .quo => if k' = k then some (.int k (quoI k x y), [y ≠ 0]) else none
  | .rem => if k' = k then some (.int k (remI k x y), [y ≠ 0]) else none
  | .shl => some (.int k (shlI k x y), [0 ≤ y])
  | .shr => some (.int k (shrI k x y), [0 ≤ y])
  | _ => none
 | _, _ => none
def putAt {α : Type} : List Nat → List α → List α → List α
 | k :: ks, b :: bs, l => putAt ks bs (l.set k b)
 | _, _, l => l
def bk (ks : List Nat) (n : Nat) : Nat → Option Nat := fun j => match ks[j]? with
 | some k => some k
 | none => some (n + (j - ks.length))
def roB {Γ : Nat → Type} : List Nat → List (PB Γ) → Option (List (PB Γ))
 | [], H => some H
 | r :: rs, H => match H[r]? with
  | some (.cells cs) => roB rs (H.set r (.rcells cs))
  | _ => none
def noRo {Γ : Nat → Type} : List (PB Γ) → Bool
 | [] => true
 | .rcells _ :: _ => false
 | _ :: H => noRo H
def offN {α : Type} (rs : List Nat) : Nat → List α → List α
 | _, [] => []
 | i, k :: ks => if rs.contains i then offN rs (i + 1) ks else k :: offN rs (i + 1) ks
inductive PA (Γ : Nat → Type) where
 | br (b : Bool)
 | rd (v : TV)
 | ix (j : Nat)
 | no
 | call (v : PV Γ) (H : List (PB Γ))
 | fr (ks : List Nat) (v : PV Γ) (H : List (PB Γ))
 | frR (ks rs : List Nat) (v : PV Γ) (H : List (PB Γ))
 | loop (e : Ex) (s : PSt Γ)
 | lg (gs : List G) (e : Ex) (s : PSt Γ)
 | calm
inductive PT (Γ : Nat → Type) where
 | n
 | a (x : PA Γ) (r : PT Γ)
 | s (t e : PT Γ)
 | z (c : Bool) (t e : PT Γ)
 | l (m : Nat) (r : PT Γ)
inductive OT (ρ : Type) where
 | bad
 | ret (r : ρ)
 | o (p : Prop) (r : OT ρ)
 | br (c : Bool) (t e : OT ρ)
def OT.Ends {ρ : Type} : OT ρ → ρ → Prop
 | .bad, _ => False
 | .ret r, x => r = x
 | .o p r, x => p ∧ r.Ends x
 | .br c t e, x => (c = true ∧ t.Ends x) ∨ (c = false ∧ e.Ends x)
def owe {ρ : Type} : List Prop → OT ρ → OT ρ
 | [], x => x
 | p :: ps, x => .o p (owe ps x)
abbrev Orc (Γ : Nat → Type) := FuncId → List (PV Γ) → Option (PV Γ × List (PB Γ) × List Prop)
structure PI where
 i : Inf
 wall : Bool
 mv : Bool
 hp : Bool
def pi0 : PI := ⟨noInf, false, false, false⟩
def isLocP {Γ : Nat → Type} : PE Γ → Bool
 | .loc _ _ => true
 | _ => false
def isGone {Γ : Nat → Type} : PB Γ → Bool
 | .gone => true
 | _ => false
def goneSame {Γ : Nat → Type} : List (PB Γ) → List (PB Γ) → Bool
 | [], _ => true
 | b :: H, b' :: H' => (isGone b == isGone b') && goneSame H H'
 | _ :: _, [] => false
def isAggP {Γ : Nat → Type} : PV Γ → Bool
 | .agg _ => true
 | _ => false
def isStrP {Γ : Nat → Type} : PV Γ → Bool
 | .str _ => true
 | _ => false
section
variable (X : Cod) (P : Program) (T : Tab) (orc : Orc X.Γ) {ρ : Type}
def byB (u : PV X.Γ) (an : PT X.Γ) (k : Bool → PT X.Γ → OT ρ) : OT ρ :=
 match u with
 | .lit t => k t an
 | .bool u => match an with
  | .s x y => .br u (k true x) (k false y)
  | .a (.br t) r => .o (u = t) (k t r)
  | _ => .bad
 | _ => .bad
def entP (H : List (PB X.Γ)) : PV X.Γ → Option (List (PV X.Γ × PV X.Γ))
 | .nil .map => some []
 | .map r => match H[r]? with
  | some (.map es) => some es
  | _ => none
 | _ => none
def mapKP : PV X.Γ → List Key
 | .map r => [.h r]
 | _ => []
def FoundP (kt : TypeId) (es : List (PV X.Γ × PV X.Γ)) (tk : TV) (v : PV X.Γ) : Prop := ∃ kv ks j k0, tk.toV = some kv ∧ pkeys X es = some ks ∧ findK P kt kv ks = some (some j) ∧ es[j]? = some (k0, v)
def FreshP (kt : TypeId) (es : List (PV X.Γ × PV X.Γ)) (tk : TV) : Prop := ∃ kv ks, tk.toV = some kv ∧ pkeys X es = some ks ∧ findK P kt kv ks = some none
def zeroP (e : TypeId) : Option (PV X.Γ) := match P.info? e with
 | some i => match i.zero with
  | some z => match TV.ofV z with
   | some z => ofT z
   | none => none
  | none => none
 | none => none
def plookK (t : TypeId) (s : PSt X.Γ) (m k : PV X.Γ) (ok : Bool) (an : PT X.Γ) (c : PE X.Γ → PI → PT X.Γ → OT ρ) : OT ρ :=
 match P.underlying t, toT k, entP X s.heap m with
 | some (.map kt e), some tk, some es => match an with
  | .a (.call v _) r => .o (FoundP X P kt es tk v) (c (.val (if ok then .tup [v, .bool true] else v)) ⟨rdKs (mapKP X m), false, false, true⟩ r)
  | .a .calm r => match zeroP X P e with
   | some z => .o (FreshP X P kt es tk) (c (.val (if ok then .tup [z, .bool false] else z)) ⟨rdKs (mapKP X m), false, false, true⟩ r)
   | none => .bad
  | .a (.rd _) r => match zeroP X P e with
   | some z => .o (FreshP X P kt es tk) (c (.val (if ok then .tup [z, .bool false] else z)) ⟨rdKs (mapKP X m), false, false, true⟩ r)
   | none => .bad
  | an => match tk.toV, pkeys X es with
   | some kv, some ks => match an with
    | .a (.ix j) r => match es[j]? with
     | some (_, v) => .o (findK P kt kv ks = some (some j)) (c (.val (if ok then .tup [v, .bool true] else v)) ⟨rdKs (mapKP X m), false, false, true⟩ r)
     | none => .bad
    | .a .no r => match zeroP X P e with
     | some z => .o (findK P kt kv ks = some none) (c (.val (if ok then .tup [z, .bool false] else z)) ⟨rdKs (mapKP X m), false, false, true⟩ r)
     | none => .bad
    | _ => .bad
   | _, _ => .bad
 | _, _, _ => .bad
def pupdK (t : TypeId) (s : PSt X.Γ) (m k v : PV X.Γ) (an : PT X.Γ) (c : PSt X.Γ → PI → PT X.Γ → OT ρ) : OT ρ :=
 match P.underlying t, toT k, m, toT v with
 | some (.map kt _), some tk, .map r, some _ => match s.heap[r]? with
  | some (.map es) => match an with
   | .a .calm rest => .o (∃ kv, tk.toV = some kv ∧ pureRun P (Instr.checkKey false 10000 kt kv) = some ()) (.o (FreshP X P kt es tk) (c { s with heap := s.heap.set r (.map (es ++ [(k, v)])) } ⟨wrK (.h r), false, false, true⟩ rest))
   | .a (.rd _) rest => .o (∃ kv, tk.toV = some kv ∧ pureRun P (Instr.checkKey false 10000 kt kv) = some ()) (.o (FreshP X P kt es tk) (c { s with heap := s.heap.set r (.map (es ++ [(k, v)])) } ⟨wrK (.h r), false, false, true⟩ rest))
   | an => match tk.toV, pkeys X es with
    | some kv, some ks => match an with
     | .a (.ix j) rest => match es[j]?, ks[j]? with
      | some _, some old => match old.toV with
       | some ov => .o (pureRun P (Instr.checkKey false 10000 kt kv) = some ()) (.o (findK P kt kv ks = some (some j)) (.o (Instr.sameBits 10000 ov kv = true) (c { s with heap := s.heap.set r (.map (es.set j (k, v))) } ⟨wrK (.h r), false, false, true⟩ rest)))
       | none => .bad
      | _, _ => .bad
     | .a .no rest => .o (pureRun P (Instr.checkKey false 10000 kt kv) = some ()) (.o (findK P kt kv ks = some none) (c { s with heap := s.heap.set r (.map (es ++ [(k, v)])) } ⟨wrK (.h r), false, false, true⟩ rest))
     | _ => .bad
    | _, _ => .bad
  | _ => .bad
 | _, _, _, _ => .bad
abbrev SimT (Γ : Nat → Type) := PV Γ → List (PV Γ) → List (PB Γ) → PV Γ → List (PB Γ) → Prop
def pcallK (sim : SimT X.Γ) (s : PSt X.Γ) (fv : PV X.Γ) (xs : List (PV X.Γ)) (an : PT X.Γ) (k : PE X.Γ → PSt X.Γ → PI → PT X.Γ → OT ρ) : OT ρ :=
 match an with
 | .a (.call v H) r => .o (sim fv xs s.heap v H) (k (.val v) { s with heap := H } ⟨⟨true, [], []⟩, true, false, true⟩ r)
 | .a (.fr ks v H) r => match decide ks.Nodup && noRo (H.drop ks.length), pickB s.heap ks with
  | true, some Hp => match renBs (posN ks) Hp, renV (posN ks) fv, renV.renVs (posN ks) xs with
   | some Hs, some fv1, some xs1 => match renV (bk ks s.heap.length) v, renBs (bk ks s.heap.length) H with
    | some v1, some H1 => .o (sim fv1 xs1 Hs v H) (k (.val v1) { s with heap := putAt ks H1 s.heap ++ H1.drop ks.length } ⟨⟨true, [], ks.map .h⟩, false, false, true⟩ r)
    | _, _ => .bad
   | _, _, _ => .bad
  | _, _ => .bad
 | .a (.frR ks rs v H) r => match decide ks.Nodup && noRo (H.drop ks.length), pickB s.heap ks with
  | true, some Hp => match renBs (posN ks) Hp, renV (posN ks) fv, renV.renVs (posN ks) xs with
   | some Hs, some fv1, some xs1 => match renV (bk ks s.heap.length) v, renBs (bk ks s.heap.length) H, roB rs Hs, roB rs H with
    | some v1, some H1, some Hs', some H' => .o (sim fv1 xs1 Hs' v H') (k (.val v1) { s with heap := putAt ks H1 s.heap ++ H1.drop ks.length } ⟨⟨true, [], (offN rs 0 ks).map .h⟩, false, false, true⟩ r)
    | _, _, _, _ => .bad
   | _, _, _ => .bad
  | _, _ => .bad
 | an => match fv with
  | .fn f first cap => match views s.heap (first ++ xs ++ cap) with
   | some vs => match orc f vs with
    | some (v, ext, ps) => match shiftBs X s.heap.length ext with
     | some ext' => owe ps (k (.val (shift s.heap.length v)) { s with heap := (if hasL v || ext.any (hasB X) then goneAll (owns.ownss (first ++ xs ++ cap)) s.heap else s.heap) ++ ext' } ⟨⟨true, [], []⟩, false, false, true⟩ an)
     | none => .bad
    | none => .bad
   | none => .bad
  | _ => .bad
def popK (sim : SimT X.Γ) (site : Nat → Bool) (s : PSt X.Γ) (o : Oper) (an : PT X.Γ) (k : PE X.Γ → PSt X.Γ → PI → PT X.Γ → OT ρ) : OT ρ :=
 match o.op with
 | .move x | .assign x => match pevO s.env x with
  | some v => k v s pi0 an
  | none => .bad
 | .pick c a b => match ptest s.env c with
  | some u => byB X u an fun t an => match pevO s.env (if t then a else b) with
   | some v => k v (s.know c t) pi0 an
   | none => .bad
  | none => .bad
 | .alloc e => match pzero P e with
  | some z => match pnewBox (site (o.dst.getD 0)) s z with
   | (v, s) => k v s pi0 an
  | none => .bad
 | .box _ x => match pvO s.env x with
  | some v => if v.cells.all oneP then (match pnewBox (site (o.dst.getD 0)) s v.cells with
   | (v, s) => k v s pi0 an) else .bad
  | none => .bad
 | .build t ps => match pvPs s.env ps.toList with
  | some ps => match pbuild P t ps with
   | some v => k (.val v) s pi0 an
   | none => .bad
  | none => .bad
 | .buildSlice t len ps => match pvPs s.env ps.toList with
  | some ps => match pbuildSlice X P t len s.heap ps with
   | some (v, H) => k (.val v) { s with heap := H } pi0 an
   | none => .bad
  | none => .bad
 | .load t a => match pevO s.env a with
  | some a => match ploadT X P t s a with
   | some (v, i) => k (.val v) s ⟨i, false, false, !isLocP a⟩ an
   | none => .bad
  | none => .bad
 | .store t a x => match pevO s.env a, pvO s.env x with
  | some a, some v => match pstoreT X P t s a v with
   | some (s, i) => k .undef s ⟨i, false, false, !isLocP a⟩ an
   | none => .bad
  | _, _ => .bad
 | .nilCheck x => match pevO s.env x with
  | some (.loc a b) => k (.loc a b) s pi0 an
  | some (.val (.ptr a b c)) => match s.heap[a]? with
   | some (.cells _) => k (.val (.ptr a b c)) s pi0 an
   | some (.rcells _) => k (.val (.ptr a b c)) s pi0 an
   | _ => .bad
  | some (.val (.row a b c)) => match s.heap[a]? with
   | some (.list _ _ _ _) => k (.val (.row a b c)) s pi0 an
   | _ => .bad
  | some (.val (.el a b c)) => k (.val (.el a b c)) s pi0 an
  | some (.val (.fn a b c)) => k (.val (.fn a b c)) s pi0 an
  | _ => .bad
 | .binOp op t x y _ => match pvO s.env x, pvO s.env y with
  | some a, some b => if askD op then (match pdiv op a b with
    | some (v, ps) => owe ps (k (.val v) s pi0 an)
    | none => .bad)
   else match plstNil X P op t s.heap a b with
   | some (v, q) => .o q (k (.val v) s pi0 an)
   | none => if isAggP a || isStrP a then (match an with
    | .a (.rd w) r => match ofT w, toT a, toT b with
     | some v, some ta, some tb => .o (binT P op t x y ta tb = some w) (k (.val v) s pi0 r)
     | _, _, _ => .bad
    | _ => .bad)
   else match pbin X P op t x y a b with
    | some v => k (.val v) s pi0 an
    | none => .bad
  | _, _ => .bad
 | .unOp op _ x => match pvO s.env x with
  | some a => match pun X P op a with
   | some v => k (.val v) s pi0 an
   | none => .bad
  | none => .bad
 | .convert src dst x => match pvO s.env x with
  | some a => if isStrP a then (match an with
    | .a (.rd w) r => match ofT w, toT a with
     | some v, some ta => .o (convT P src dst ta = some w) (k (.val v) s pi0 r)
     | _, _ => .bad
    | _ => .bad)
   else match pconv X P src dst a with
    | some v => k (.val v) s pi0 an
    | none => .bad
  | none => .bad
 | .makeFunc (.func f) first cap => match pvOs s.env first.toList, pvOs s.env cap.toList with
  | some a, some b => k (.val (.fn f a b)) s pi0 an
  | _, _ => .bad
 | .makeMap t r => match pvOpt s.env r, P.underlying t with
  | some none, _ => k (.val (.map s.heap.length)) { s with heap := s.heap ++ [.map []] } pi0 an
  | some (some (.int _ _)), some (.map _ _) => k (.val (.map s.heap.length)) { s with heap := s.heap ++ [.map []] } pi0 an
  | _, _ => .bad
 | .makeSlice t l c => match pvO s.env l, pvO s.env c with
  | some l, some c => match pmakeSlice X P t s.heap l c with
   | some (v, H, ps) => owe ps (k (.val v) { s with heap := H } pi0 an)
   | none => .bad
  | _, _ => .bad
 | .slice t x lo hi mx => match pevO s.env x, pvOpt s.env lo, pvOpt s.env hi, pvOpt s.env mx with
  | some x, some lo, some hi, some mx => match P.underlying t with
   | some (.array _ _) => match an with
    | .a .no r => match mx, psliceArrW X P t s.heap x lo hi with
     | none, some v => k (.val v) s pi0 r
     | _, _ => .bad
    | an => match psliceArr X P t s.heap x lo hi mx with
     | some (v, H, ps) => owe ps (k (.val v) { s with heap := H } pi0 an)
     | none => .bad
   | _ => match x with
    | .val (.str b) => (match an with
     | .a (.rd w) r => match ofT w, (match lo with | none => some none | some v => (toT v).map some), (match hi with | none => some none | some v => (toT v).map some) with
      | some v, some tl, some th => if mx.isNone then .o (sliceT P t (.str b) tl th none = some w) (k (.val v) s pi0 r) else .bad
      | _, _, _ => .bad
     | _ => .bad)
    | .val x => match pslice X P t s.heap x lo hi mx with
     | some (v, ps) => owe ps (k (.val v) s pi0 an)
     | none => .bad
    | _ => .bad
  | _, _, _, _ => .bad
 | .fieldAddr t x f => match pevO s.env x, fieldOff P t f with
  | some a, some n => match poffT X s n a with
   | some v => k v s pi0 an
   | none => .bad
  | _, _ => .bad
 | .field t x f => match pvO s.env x with
  | some a => match pfield X P t a f with
   | some v => k (.val v) s pi0 an
   | none => .bad
  | none => .bad
 | .indexAddr t x i => match pevO s.env x, pvO s.env i with
  | some a, some i => match pindexAddr X P t s a i with
   | some (v, ps) => owe ps (k v s pi0 an)
   | none => .bad
  | _, _ => .bad
 | .index t x i => match pvO s.env x, pvO s.env i with
  | some a, some i => if isStrP a then (match an with
    | .a (.rd w) r => match ofT w, toT a, toT i with
     | some v, some ta, some ti => .o (indexT P t ta ti = some w) (k (.val v) s pi0 r)
     | _, _, _ => .bad
    | _ => .bad)
   else match pindex X P t a i with
    | some v => k (.val v) s pi0 an
    | none => .bad
  | _, _ => .bad
 | .lookup t m i ok => match pvO s.env m, pvO s.env i with
  | some m, some i => plookK X P t s m i ok an fun v q an => k v s q an
  | _, _ => .bad
 | .mapUpdate t m i x | .insert t m i x => match pvO s.env m, pvO s.env i, pvO s.env x with
  | some m, some i, some v => pupdK X P t s m i v an fun s q an => k .undef s q an
  | _, _, _ => .bad
 | .extract t i => match pvO s.env t with
  | some (.tup vs) => match vs[i]? with
   | some v => k (.val v) s pi0 an
   | none => .bad
  | _ => .bad
 | .call c => match pvOs s.env c.args.toList with
  | some az => match c.callee with
   | .builtin .len => match az with
    | [x] => match plen X P c.argTypes s.heap x with
     | some (v, i) => k (.val v) s ⟨i, false, false, true⟩ an
     | none => .bad
    | _ => .bad
   | .builtin .append => match az with
    | [d, x] => match pappend X P c.argTypes s.heap d x with
     | some (v, H, i, ps) => owe ps (k (.val v) { s with heap := H } ⟨i, false, false, true⟩ an)
     | none => .bad
    | _ => .bad
   | .builtin .copy => match az with
    | [d, x] => match pcopy X P c.argTypes s.heap d x with
     | some (v, H, i) => k (.val v) { s with heap := H } ⟨i, false, false, true⟩ an
     | none => .bad
    | _ => .bad
   | .builtin .min => match pminMax X P false c.argTypes o.type az with
    | some v => k (.val v) s pi0 an
    | none => .bad
   | .builtin .max => match pminMax X P true c.argTypes o.type az with
    | some v => k (.val v) s pi0 an
    | none => .bad
   | .value f => match pvO s.env f with
    | some fv => pcallK X orc sim s fv az an k
    | none => .bad
   | _ => .bad
  | none => .bad
 | _ => .bad
def pwantK (ops : Array Oper) (s : PSt X.Γ) (o : Oper) (an : PT X.Γ) (k : Bool → PSt X.Γ → PT X.Γ → OT ρ) : OT ρ :=
 match o.guard with
 | none => k true s an
 | some (j, want) => match (ops[j]?).bind (·.dst) with
  | some d => match lookP d s.env with
   | some (.val b) => byB X b an fun t an => k (t == want) (s.know (.tmp d) t) an
   | some .undef => k false s an
   | _ => .bad
  | none => .bad
def pcalm1 (a b : PI) : Bool :=
 (a.i.ws.all fun k => !(b.i.all && k.isH) && !b.i.ts.contains k && !b.i.ws.contains k && !(b.wall && k.isH)) &&
 (!a.wall || (!b.i.all && !b.wall && b.i.ts.all (fun k => !k.isH) && b.i.ws.all (fun k => !k.isH)))
def pcalm (a b : PI) : Bool := pcalm1 a b && pcalm1 b a
def pdynOk (infs : List PI) : List (Nat × Nat) → Bool
 | [] => true
 | (i, j) :: r => (match infs[i]?, infs[j]? with
  | some a, some b => pcalm a b && (!a.hp || !b.hp || !((infs.drop i).take (j - i)).any (·.mv))
  | _, _ => false) && pdynOk infs r
def prunK (sim : SimT X.Γ) (site : Nat → Bool) (nt : Nat) (ops : Array Oper) : List Oper → PSt X.Γ → PT X.Γ → (PSt X.Γ → List PI → PT X.Γ → OT ρ) → OT ρ
 | [], s, an, k => k s [] an
 | o :: os, s, an, k => if !dstOk nt o then .bad else pwantK X ops s o an fun w s an => match w with
  | true => popK X P orc sim site s o an fun v s1 i an => prunK sim site nt ops os (s1.put o.dst v) an fun s' is an => k s' (⟨i.i, i.wall, !goneSame s.heap s1.heap, i.hp⟩ :: is) an
  | false => prunK sim site nt ops os (s.put o.dst .undef) an fun s' is an => k s' (pi0 :: is) an
def ptop : List (Nat × PE X.Γ) → Nat
 | [] => 0
 | (_, .loc k _) :: r => max (k + 1) (ptop r)
 | _ :: r => ptop r
def patHead (live : List Nat) (s : PSt X.Γ) : PSt X.Γ :=
 let env := ppick live s.env
 { s with env := env, loc := s.loc.take (ptop X env) }
def piterK (step : PSt X.Γ → PT X.Γ → (Ex → PSt X.Γ → PT X.Γ → OT ρ) → OT ρ) : Nat → PSt X.Γ → PT X.Γ → (Ex → PSt X.Γ → PT X.Γ → OT ρ) → OT ρ
 | 0, _, _, _ => .bad
 | m + 1, s, an, k => step s an fun e s an => match e with
  | .norm => piterK step m s an k
  | e => k e s an
abbrev LoopT (Γ : Nat → Type) := Code → PSt Γ → Ex → PSt Γ → Prop
def ploopK (lo : LoopT X.Γ) (B : Nat) (c : Code) (s : PSt X.Γ) (k : Ex → PSt X.Γ → PT X.Γ → OT ρ) : PT X.Γ → OT ρ
 | .a (.loop e s') r => .o (lo c s e s') (k e s' r)
 | .a (.lg gs e s') r => match gsteps B gs s with
  | some s0 => .o (lo c s0 e s') (k e s' r)
  | none => .bad
 | .z c' a b => .br c' (ploopK lo B c s k a) (ploopK lo B c s k b)
 | _ => .bad
def pexecK (sim : SimT X.Γ) (lo : LoopT X.Γ) (B : Nat) (L : Nat) (f : Nat) (rnd : Bool) (nt : Nat) : Code → PSt X.Γ → PT X.Γ → (Ex → PSt X.Γ → PT X.Γ → OT ρ) → OT ρ
 | .skip, s, an, k => k .norm s an
 | .label _, s, an, k => k .norm s an
 | .region id ops draw, s, an, k => prunK X P orc sim (fun d => rnd || T.siteAt f d) nt ops ops.toList s an fun s' infs an =>
  match draw with
  | false => k .norm { s' with env := ppick (T.liveAt f id) s'.env } an
  | true => match an with
   | .a .calm r => if infs.all (fun i => i.i.ws.isEmpty && !i.wall) then .o (staticOk ops.toList = true) (k .norm { s' with env := ppick (T.liveAt f id) s'.env } r) else .bad
   | an => if staticOk ops.toList && pdynOk infs (hotPairs ops.toList) then k .norm { s' with env := ppick (T.liveAt f id) s'.env } an else .bad
 | .seq a b, s, an, k => pexecK sim lo B L f rnd nt a s an fun e s an => match e with
  | .norm => pexecK sim lo B L f rnd nt b s an k
  | e => k e s an
 | .cond c a b, s, an, k => match ptest s.env c with
  | some u => byB X u an fun t an => match t with
   | true => pexecK sim lo B L f rnd nt a (s.know c true) an k
   | false => pexecK sim lo B L f rnd nt b (s.know c false) an k
  | none => .bad
 | .block id b, s, an, k => pexecK sim lo B L f rnd nt b s an fun e s an => match e with
  | .exit i => k (if i = id then .norm else .exit i) s an
  | e => k e s an
 | .scope b, s, an, k => pexecK sim lo B L f rnd nt b s an k
 | .loop b, s, an, k => match an with
  | .l m r => .o (m ≤ L) (piterK X (fun s an k => pexecK sim lo B L f rnd nt b (patHead X (T.headAt f (headId b)) s) an k) m s r k)
  | an => ploopK X lo B (.loop b) s k an
 | .exit id, s, an, k => k (.exit id) s an
 | .ret, s, an, k => k .ret s an
 | .rangeFunc g ps asg body, s, an, k => ploopK X lo B (.rangeFunc g ps asg body) s k an
 | _, _, _, _ => .bad
def pres (s : PSt X.Γ) : ResultVar → Option (PV X.Γ)
 | .tmp t => match lookP t s.env with
  | some (.val v) => some (unlit v)
  | _ => none
 | .cell a t => match lookP a s.env with
  | some a => (ploadT X P t s a).map (·.1)
  | none => none
def press (s : PSt X.Γ) : List ResultVar → Option (List (PV X.Γ))
 | [] => some []
 | r :: rs => match pres X P s r, press s rs with
  | some v, some vs => some (v :: vs)
  | _, _ => none
def pone : List (PV X.Γ) → PV X.Γ
 | [v] => v
 | vs => .tup vs
def pargEnv : Nat → List (PV X.Γ) → List (Nat × PE X.Γ)
 | _, [] => []
 | k, v :: vs => (k, .val v) :: pargEnv (k + 1) vs
def pfunK (sim : SimT X.Γ) (lo : LoopT X.Γ) (L : Nat) (f : Nat) (args : List (PV X.Γ)) (H : List (PB X.Γ)) (an : PT X.Γ) : OT (PV X.Γ × List (PB X.Γ)) :=
 match (if T.exts.contains f = true then none else fnT P f) with
 | some t => pexecK X P T orc sim lo H.length L f false t.nt t.body ⟨pargEnv X 0 args, [], H⟩ an fun e s an => match e, an with
  | .exit _, _ => .bad
  | _, .n => match press X P s t.results with
   | some vs => .ret (pone X vs, s.heap)
   | none => .bad
  | _, _ => .bad
 | none => .bad
end
end Pv
namespace Pv
open Go Tw
inductive MB where
 | blk (b : Nat)
 | rblk (b : Nat)
 | lst (x : TV)
 | gone
def MB.own : MB → Option Nat
 | .blk b => some b
 | .lst (.slc b _ len _ _ _) => if len = 0 then none else some b
 | _ => none
def blks (m : List MB) : List Nat := m.filterMap MB.own
def idOf {Γ : Nat → Type} : PV Γ → Option Nat
 | .ptr b _ _ => some b
 | .slc b _ _ _ _ _ => some b
 | .own b => some b
 | .win b _ _ => some b
 | .map b => some b
 | .yld b => some b
 | .row b _ _ => some b
 | _ => none
def roV {Γ : Nat → Type} (c : Nat) : PV Γ → Option TV
 | .ptr _ off lim => some (.ptr c off lim)
 | .slc _ off len cap sz ex => some (.slc c off len cap sz ex)
 | .map _ => some (.map c)
 | .yld _ => some (.yld c)
 | _ => none
inductive GoneM {Γ : Nat → Type} (v : PV Γ) (x : TV) : Option MB → Prop where
 | g : GoneM v x (some .gone)
 | r (c) : roV c v = some x → GoneM v x (some (.rblk c))
theorem GoneM.of {Γ : Nat → Type} {v : PV Γ} {x : TV} {o : Option MB} (e : o = some .gone) : GoneM v x o := by subst e; exact .g
theorem GoneM.as {Γ : Nat → Type} {v w : PV Γ} {x : TV} {o : Option MB} (h : GoneM v x o) (e : ∀ c, roV c w = roV c v) : GoneM w x o := by
 cases h with
 | g => exact .g
 | r c h => exact .r c ((e c).trans h)
theorem GoneM.ofR {Γ : Nat → Type} {v : PV Γ} {x : TV} {o : Option MB} {c : Nat} (e : o = some (.rblk c)) (h : roV c v = some x) : GoneM v x o := by subst e; exact .r c h
section
variable (X : Cod) (P : Program)
inductive VR (A : Nat → Prop) (m : List MB) (h : List HB) : PV X.Γ → TV → Prop where
 | bool (b) : VR A m h (.bool b) (.bool b)
 | lit (b) : VR A m h (.lit b) (.bool b)
 | int (k n) : VR A m h (.int k n) (.int k n)
 | str (s) : VR A m h (.str s) (.str s)
 | nil (k) : VR A m h (.nil k) (.nil k)
 | ptr {b c off lim} : m[b]? = some (.blk c) → VR A m h (.ptr b off lim) (.ptr c off lim)
 | slc {b c off len cap sz ex} : m[b]? = some (.blk c) → VR A m h (.slc b off len cap sz ex) (.slc c off len cap sz ex)
 | own {i x} : m[i]? = some (.lst x) → oneT x = true → VR A m h (.own i) x
 | win {i o n c off len cap cap' sz ex ex'} : m[i]? = some (.lst (.slc c off len cap sz ex)) → o + n ≤ len → n ≤ cap' → (n = 0 ∨ o + cap' = cap) → VR A m h (.win i o n) (.slc c (off + o * sz) n cap' sz ex')
 | winN {i} : m[i]? = some (.lst (.nil .slc)) → VR A m h (.win i 0 0) (.nil .slc)
 | map {r c} : m[r]? = some (.blk c) → VR A m h (.map r) (.map c)
 | fn {f a a' c c'} : a.length = a'.length → (∀ (i : Nat) x y, a[i]? = some x → a'[i]? = some y → VR A m h x y) → c.length = c'.length → (∀ (i : Nat) x y, c[i]? = some x → c'[i]? = some y → VR A m h x y) → VR A m h (.fn f a c) (.fn f a' c')
 | yld {l c} : m[l]? = some (.blk c) → VR A m h (.yld l) (.yld c)
 | agg {cs cs'} : cs.length = cs'.length → (∀ (i : Nat) x y, cs[i]? = some x → cs'[i]? = some y → VR A m h x y) → VR A m h (.agg cs) (.agg cs')
 | tup {cs cs'} : cs.length = cs'.length → (∀ (i : Nat) x y, cs[i]? = some x → cs'[i]? = some y → VR A m h x y) → VR A m h (.tup cs) (.tup cs')
 | lstN {t fu} : VR A m h (.lst t [] fu) (.nil .slc)
 | lst {t l fu b off cap sz ex cs} : A b → blkCells h b = some cs → (l ≠ [] → blkLim h b (off + cap * sz) = some cs) → sizeT P t = some sz → 0 < sz → off + l.length * sz ≤ cs.length → l.length ≤ cap → (fu = true → ex = true ∧ cap = l.length) → (∀ (j : Nat) a, l[j]? = some a → (X.enc t a).length = sz) →
   (∀ (j : Nat) a (i : Nat) c v, l[j]? = some a → (X.enc t a)[i]? = some c → cs[off + j * sz + i]? = some v → VR A m h c v) → VR A m h (.lst t l fu) (.slc b off l.length cap sz ex)
 | el {t a off b o sz lim cs} : A b → blkLim h b lim = some cs → o + sz ≤ lim → o + sz ≤ cs.length → (X.enc t a).length = sz → off ≤ sz →
   (∀ (i : Nat) c v, (X.enc t a)[i]? = some c → cs[o + i]? = some v → VR A m h c v) → VR A m h (.el t a off) (.ptr b (o + off) lim)
 | row {i j off c len cap sz ex} : m[i]? = some (.lst (.slc c 0 len cap sz ex)) → j < len → off ≤ sz → VR A m h (.row i j off) (.ptr c (j * sz + off) (cap * sz))
 | gone {v i x} : idOf v = some i → GoneM v x m[i]? → oneT x = true → VR A m h v x
def VRs (A : Nat → Prop) (m : List MB) (h : List HB) (a : List (PV X.Γ)) (b : List TV) : Prop := a.length = b.length ∧ ∀ (i : Nat) x y, a[i]? = some x → b[i]? = some y → VR X P A m h x y
def RowsR (A : Nat → Prop) (m : List MB) (h : List HB) (t : Nat) (l : List (X.Γ t)) (cs : List TV) (off sz : Nat) : Prop :=
 (∀ (j : Nat) a, l[j]? = some a → (X.enc t a).length = sz) ∧ off + l.length * sz ≤ cs.length ∧ ∀ (j : Nat) a (i : Nat) c v, l[j]? = some a → (X.enc t a)[i]? = some c → cs[off + j * sz + i]? = some v → VR X P A m h c v
inductive LR (A : Nat → Prop) (m : List MB) (h : List HB) (k ex : Bool) (t : Nat) : List (X.Γ t) → TV → Prop where
 | nil : LR A m h k ex t [] (.nil .slc)
 | emp {b off sz cs} : A b → blkCells h b = some cs → off ≤ cs.length → sizeT P t = some sz → 0 < sz → LR A m h k ex t [] (.slc b off 0 0 sz true)
 | some {l b sz e kk cs} : l ≠ [] → sizeT P t = some sz → 0 < sz → h[b]? = some (.cells kk cs) → kk ≠ .ro → (k = true → kk = .own) → (ex = true → e = true) → cs.length = l.length * sz → RowsR X P A m h t l cs 0 sz → LR A m h k ex t l (.slc b 0 l.length l.length sz e)
def PER (A : Nat → Prop) (m : List MB) (h : List HB) : PE X.Γ → EV → Prop
 | .val v, .val x => VR X P A m h v x
 | .loc k o, .loc k' o' => k = k' ∧ o = o'
 | .undef, .undef => True
 | _, _ => False
inductive EnvR (A : Nat → Prop) (m : List MB) (h : List HB) : List (Nat × PE X.Γ) → List (Nat × EV) → Prop where
 | nil : EnvR A m h [] []
 | cons {k v x r r'} : PER X P A m h v x → EnvR A m h r r' → EnvR A m h ((k, v) :: r) ((k, x) :: r')
def BR (A : Nat → Prop) (m : List MB) (h : List HB) : PB X.Γ → MB → Prop
 | .cells cs, .blk b => ∃ cs', h[b]? = some (.cells .own cs') ∧ VRs X P A m h cs cs'
 | .rcells cs, .rblk b => b ∉ blks m ∧ ∃ cs', h[b]? = some (.cells .own cs') ∧ VRs X P A m h cs cs'
 | .list k ex t l, .lst x => LR X P A m h k ex t l x
 | .map es, .blk b => ∃ es', h[b]? = some (.map es') ∧ es.length = es'.length ∧ ∀ (i : Nat) x y, es[i]? = some x → es'[i]? = some y → toT x.1 = some y.1 ∧ toT x.2 = some y.2
 | .mark, .blk b => h[b]? = some .mark
 | .loop rd f nt env ps a c pend, .blk b => ∃ env', h[b]? = some (.loop rd f nt env' ps a c pend) ∧ EnvR X P A m h env env'
 | .gone, .gone => True
 | _, _ => False
def AA (A : Nat → Prop) (m : List MB) : Nat → Prop := fun b => A b ∧ b ∉ blks m
structure HR (A : Nat → Prop) (m : List MB) (H : List (PB X.Γ)) (h : List HB) : Prop where
 len : m.length = H.length
 at_ : ∀ (i : Nat) b, H[i]? = some b → ∃ mb, m[i]? = some mb ∧ BR X P (AA A m) m h b mb
 nodup : (blks m).Nodup
 up : ∀ b, h.length ≤ b → A b
 ownA : ∀ b, b ∈ blks m → A b
end
structure Fr (m : List MB) (h : List HB) (m' : List MB) (h' : List HB) : Prop where
 len : h.length ≤ h'.length
 same : ∀ b, b < h.length → b ∉ blks m → h'[b]? = h[b]?
 new : ∀ b, b ∈ blks m' → b ∈ blks m ∨ h.length ≤ b
 grow : ∀ b cs, blkCells h b = some cs → ∃ cs', blkCells h' b = some cs' ∧ cs.length ≤ cs'.length
def Up (m m' : List MB) : Prop := ∀ (i : Nat) mb, m[i]? = some mb → m'[i]? = some mb ∨ m'[i]? = some .gone
theorem Fr.refl {m : List MB} {h : List HB} : Fr m h m h := ⟨Nat.le_refl _, fun _ _ _ => rfl, fun _ hb => .inl hb, fun _ cs hc => ⟨cs, hc, Nat.le_refl _⟩⟩
theorem Up.refl {m : List MB} : Up m m := fun _ _ h => .inl h
theorem Fr.trans {m m' m'' : List MB} {h h' h'' : List HB} (a : Fr m h m' h') (b : Fr m' h' m'' h'') : Fr m h m'' h'' := by
 refine ⟨Nat.le_trans a.len b.len, fun c hc hn => ?_, fun c hc => ?_, fun c cs hc => ?_⟩
 ·rw [b.same c (by have := a.len; omega) (fun hm => ?_), a.same c hc hn]
  rcases a.new c hm with h1 | h1
  ·exact hn h1
  ·omega
 ·rcases b.new c hc with h1 | h1
  ·exact a.new c h1
  ·have := a.len; exact .inr (by omega)
 ·obtain ⟨cs', h1, h2⟩ := a.grow c cs hc
  obtain ⟨cs'', h3, h4⟩ := b.grow c cs' h1
  exact ⟨cs'', h3, by omega⟩
theorem Up.trans {m m' m'' : List MB} (a : Up m m') (b : Up m' m'') : Up m m'' := fun i mb hi => by
 rcases a i mb hi with h | h
 ·exact b i mb h
 ·rcases b i _ h with h | h <;> exact .inr h
theorem blkCells_lt {h : List HB} {b : Nat} {cs : List TV} (hc : blkCells h b = some cs) : b < h.length := by
 unfold blkCells at hc
 split at hc
 ·rename_i e; exact (List.getElem?_eq_some_iff.1 e).1
 ·cases hc
theorem blkCells_same {h h' : List HB} {b : Nat} (e : h'[b]? = h[b]?) : blkCells h' b = blkCells h b := by
 unfold blkCells; rw [e]
theorem blkLim_same {h h' : List HB} {b lim : Nat} (e : h'[b]? = h[b]?) : blkLim h' b lim = blkLim h b lim := by
 unfold blkLim; rw [e]
theorem blkLim_cells {h : List HB} {b lim : Nat} {cs : List TV} (hc : blkLim h b lim = some cs) : blkCells h b = some cs := by
 obtain ⟨k, h1, _⟩ := blkLim_some hc
 unfold blkCells; rw [h1]
theorem blkLim_lt {h : List HB} {b lim : Nat} {cs : List TV} (hc : blkLim h b lim = some cs) : b < h.length := blkCells_lt (blkLim_cells hc)
theorem blkLim_end {h : List HB} {b lim : Nat} {k : BK} {cs : List TV} (hc : h[b]? = some (.cells k cs)) (hl : lim = cs.length) : blkLim h b lim = some cs := by
 unfold blkLim; simp [hc, hl]
theorem setH_own {h : List HB} {b off lim : Nat} {cs new : List TV} (hc : h[b]? = some (.cells .own cs)) : setH h b off lim new = (over cs off new).map fun cs' => h.set b (.cells .own cs') := by
 unfold setH; simp [hc, wrKind]
theorem setH_wr {h : List HB} {b off lim : Nat} {k k' : BK} {cs new : List TV} (hc : h[b]? = some (.cells k cs)) (hk : wrKind k true = some k') (hl : lim = cs.length) : setH h b off lim new = (over cs off new).map fun cs' => h.set b (.cells k' cs') := by
 unfold setH; simp [hc, hl, hk]
theorem wrKind_wr {k : BK} (h : k ≠ .ro) : ∃ k', wrKind k true = some k' ∧ k' ≠ .ro ∧ (k = .own → k' = .own) := by
 cases k <;> simp_all [wrKind]
theorem blkLim_own {h : List HB} {b lim : Nat} {k : BK} {cs : List TV} (hc : h[b]? = some (.cells k cs)) (hl : k ≠ .last) : blkLim h b lim = some cs := by
 unfold blkLim; simp [hc, hl]
section
variable {X : Cod} {P : Program} {A : Nat → Prop} {m m' : List MB} {h h' : List HB}
theorem VR.step (hF : Fr m h m' h') (hU : Up m m') {v : PV X.Γ} {x : TV} (hv : VR X P (AA A m) m h v x) : VR X P (AA A m') m' h' v x := by
 have hA : ∀ b cs, AA A m b → blkCells h b = some cs → AA A m' b ∧ h'[b]? = h[b]? := by
  intro b cs ha hc
  have hlt := blkCells_lt hc
  refine ⟨⟨ha.1, fun hm => ?_⟩, hF.same b hlt ha.2⟩
  rcases hF.new b hm with h1 | h1
  ·exact ha.2 h1
  ·omega
 induction hv with
 | bool => exact .bool _
 | lit => exact .lit _
 | int => exact .int _ _
 | str => exact .str _
 | nil => exact .nil _
 | ptr e => rcases hU _ _ e with e | e; exact .ptr e; exact .gone rfl (.of e) rfl
 | slc e => rcases hU _ _ e with e | e; exact .slc e; exact .gone rfl (.of e) rfl
 | own e o => rcases hU _ _ e with e | e; exact .own e o; exact .gone rfl (.of e) o
 | win e q q' q2 => rcases hU _ _ e with e | e; exact .win e q q' q2; exact .gone rfl (.of e) rfl
 | winN e => rcases hU _ _ e with e | e; exact .winN e; exact .gone rfl (.of e) rfl
 | map e => rcases hU _ _ e with e | e; exact .map e; exact .gone rfl (.of e) rfl
 | fn h1 _ h3 _ i2 i4 => exact .fn h1 i2 h3 i4
 | yld e => rcases hU _ _ e with e | e; exact .yld e; exact .gone rfl (.of e) rfl
 | agg h1 _ i2 => exact .agg h1 i2
 | tup h1 _ i2 => exact .tup h1 i2
 | lstN => exact .lstN
 | lst a c c2 s z o k f e _ ih => obtain ⟨a', c'⟩ := hA _ _ a c; exact .lst a' ((blkCells_same c').trans c) (fun hl => (blkLim_same c').trans (c2 hl)) s z o k f e ih
 | el a c l o e q _ ih => obtain ⟨a', c'⟩ := hA _ _ a (blkLim_cells c); exact .el a' ((blkLim_same c').trans c) l o e q ih
 | row e j q => rcases hU _ _ e with e | e; exact .row e j q; exact .gone rfl (.of e) rfl
 | @gone v i0 x i e o =>
  generalize hq : m[i0]? = q at e
  cases e with
  | g => rcases hU _ _ hq with e | e <;> exact .gone i (.of e) o
  | r c hv => rcases hU _ _ hq with e | e; exact .gone i (.ofR e hv) o; exact .gone i (.of e) o
theorem VRs.step (hF : Fr m h m' h') (hU : Up m m') {v : List (PV X.Γ)} {x : List TV} (hv : VRs X P (AA A m) m h v x) : VRs X P (AA A m') m' h' v x :=
 ⟨hv.1, fun i a b ha hb => (hv.2 i a b ha hb).step hF hU⟩
theorem RowsR.step (hF : Fr m h m' h') (hU : Up m m') {t : Nat} {l : List (X.Γ t)} {cs : List TV} {off sz : Nat} (hv : RowsR X P (AA A m) m h t l cs off sz) : RowsR X P (AA A m') m' h' t l cs off sz :=
 ⟨hv.1, hv.2.1, fun j a i c v h1 h2 h3 => (hv.2.2 j a i c v h1 h2 h3).step hF hU⟩
theorem PER.step (hF : Fr m h m' h') (hU : Up m m') {v : PE X.Γ} {x : EV} (hv : PER X P (AA A m) m h v x) : PER X P (AA A m') m' h' v x := by
 cases v <;> cases x <;> first | exact VR.step hF hU hv | exact hv
theorem EnvR.step (hF : Fr m h m' h') (hU : Up m m') {v : List (Nat × PE X.Γ)} {x : List (Nat × EV)} (hv : EnvR X P (AA A m) m h v x) : EnvR X P (AA A m') m' h' v x := by
 induction hv with
 | nil => exact .nil
 | cons h1 _ ih => exact .cons (h1.step hF hU) ih
theorem BR.step (hF : Fr m h m' h') (hU : Up m m') {b : PB X.Γ} {mb : MB} (hs : ∀ c, mb.own = some c → h'[c]? = h[c]?) (hb : BR X P (AA A m) m h b mb) : BR X P (AA A m') m' h' b mb := by
 cases b with
 | cells cs =>
  cases mb with
  | blk b => obtain ⟨cs', h1, h2⟩ := hb; exact ⟨cs', by rw [hs b rfl, h1], h2.step hF hU⟩
  | _ => exact hb.elim
 | rcells cs =>
  cases mb with
  | rblk b =>
   obtain ⟨h0, cs', h1, h2⟩ := hb
   have hlt := (List.getElem?_eq_some_iff.1 h1).1
   refine ⟨fun hm => ?_, cs', by rw [hF.same _ hlt h0, h1], h2.step hF hU⟩
   rcases hF.new _ hm with g | g
   ·exact h0 g
   ·omega
  | _ => exact hb.elim
 | list k ex t l =>
  cases mb with
  | lst x =>
   cases (hb : LR X P (AA A m) m h k ex t l x) with
   | nil => exact LR.nil
   | emp h0 h1 h2 h3 h4 =>
    have hlt := blkCells_lt h1
    refine LR.emp ⟨h0.1, fun hm => ?_⟩ (by rw [blkCells_same (hF.same _ hlt h0.2), h1]) h2 h3 h4
    rcases hF.new _ hm with g | g
    ·exact h0.2 g
    ·omega
   | some h1 h2 h3 h4 h5 h6 h7 h8 h9 =>
    have ho := hs _ (by simp only [MB.own]; rw [if_neg (by simpa using h1)])
    exact LR.some h1 h2 h3 (by rw [ho, h4]) h5 h6 h7 h8 (h9.step hF hU)
  | _ => exact hb.elim
 | map es =>
  cases mb with
  | blk b => obtain ⟨es', h1, h2, h3⟩ := hb; exact ⟨es', by rw [hs b rfl, h1], h2, h3⟩
  | _ => exact hb.elim
 | mark =>
  cases mb with
  | blk b => show h'[b]? = _; rw [hs b rfl]; exact hb
  | _ => exact hb.elim
 | loop rd f nt env ps a c pend =>
  cases mb with
  | blk b => obtain ⟨e', h1, h2⟩ := hb; exact ⟨e', by rw [hs b rfl, h1], h2.step hF hU⟩
  | _ => exact hb.elim
 | gone =>
  cases mb with
  | gone => trivial
  | _ => exact hb.elim
theorem own_mem {i : Nat} {mb : MB} {b : Nat} (hi : m[i]? = some mb) (ho : mb.own = some b) : b ∈ blks m :=
 List.mem_filterMap.2 ⟨mb, List.mem_of_getElem? hi, ho⟩
theorem own_inj (hn : (blks m).Nodup) : ∀ {i j : Nat} {a b : MB} {c : Nat}, m[i]? = some a → m[j]? = some b → a.own = some c → b.own = some c → i = j := by
 unfold blks at hn
 induction m with
 | nil => intro i j a b c h; simp at h
 | cons x r ih =>
  intro i j a b c hi hj ha hb
  have hr : (r.filterMap MB.own).Nodup := by
   simp only [List.filterMap_cons] at hn
   split at hn
   ·exact hn
   ·exact (List.nodup_cons.1 hn).2
  have hx : ∀ {k : Nat} {y : MB}, r[k]? = some y → y.own = some c → x.own = some c → False := by
   intro k y hk hy hxc
   simp only [List.filterMap_cons, hxc] at hn
   exact (List.nodup_cons.1 hn).1 (List.mem_filterMap.2 ⟨y, List.mem_of_getElem? hk, hy⟩)
  cases i with
  | zero =>
   cases j with
   | zero => rfl
   | succ j =>
    simp only [List.getElem?_cons_zero, Option.some.injEq] at hi; subst hi
    exact (hx (by simpa using hj) hb ha).elim
  | succ i =>
   cases j with
   | zero =>
    simp only [List.getElem?_cons_zero, Option.some.injEq] at hj; subst hj
    exact (hx (by simpa using hi) ha hb).elim
   | succ j =>
    have := ih hr (i := i) (j := j) (by simpa using hi) (by simpa using hj) ha hb
    omega
end
end Pv
namespace Pv
open Go Tw
section
variable {X : Cod} {P : Program} {A : Nat → Prop} {m m' : List MB} {h h' : List HB} {H H' : List (PB X.Γ)}
theorem HR.next (hr : HR X P A m H h) (hF : Fr m h m' h') (hU : Up m m') (hl : m'.length = H'.length) (hn : (blks m').Nodup)
  (hat : ∀ (i : Nat) b, H'[i]? = some b → (∃ mb, H[i]? = some b ∧ m[i]? = some mb ∧ m'[i]? = some mb ∧ ∀ c, mb.own = some c → h'[c]? = h[c]?) ∨ ∃ mb, m'[i]? = some mb ∧ BR X P (AA A m') m' h' b mb) : HR X P A m' H' h' := by
 refine ⟨hl, fun i b hb => ?_, hn, fun b hb => hr.up b (by have := hF.len; omega), fun b hb => ?_⟩
 ·rcases hat i b hb with ⟨mb, h1, h2, h3, h4⟩ | h1
  ·obtain ⟨mb', g1, g2⟩ := hr.at_ i b h1
   rw [h2] at g1; cases g1
   exact ⟨mb, h3, g2.step hF hU h4⟩
  ·exact h1
 ·rcases hF.new b hb with h1 | h1
  ·exact hr.ownA b h1
  ·exact hr.up b h1
theorem BR.has {B : Nat → Prop} {b : PB X.Γ} {mb : MB} {c : Nat} (hb : BR X P B m h b mb) (ho : mb.own = some c) : c < h.length := by
 have key : ∀ {y}, h[c]? = some y → c < h.length := fun e => (List.getElem?_eq_some_iff.1 e).1
 cases b with
 | cells cs =>
  cases mb with
  | blk b => cases ho; obtain ⟨_, h1, _⟩ := hb; exact key h1
  | _ => exact hb.elim
 | rcells cs =>
  cases mb with
  | rblk b => cases ho
  | _ => exact hb.elim
 | list k ex t l =>
  cases mb with
  | lst x =>
   cases (hb : LR X P B m h k ex t l x) with
   | nil => cases ho
   | emp => simp [MB.own] at ho
   | some h1 _ _ h4 =>
    simp only [MB.own] at ho
    split at ho
    ·cases ho
    ·cases ho; exact key h4
  | _ => exact hb.elim
 | map es =>
  cases mb with
  | blk b => cases ho; obtain ⟨_, h1, _⟩ := hb; exact key h1
  | _ => exact hb.elim
 | mark =>
  cases mb with
  | blk b => cases ho; exact key hb
  | _ => exact hb.elim
 | loop =>
  cases mb with
  | blk b => cases ho; obtain ⟨_, h1, _⟩ := hb; exact key h1
  | _ => exact hb.elim
 | gone =>
  cases mb with
  | gone => cases ho
  | _ => exact hb.elim
theorem HR.inb (hr : HR X P A m H h) {c : Nat} (hc : c ∈ blks m) : c < h.length := by
 obtain ⟨mb, hm, ho⟩ := List.mem_filterMap.1 hc
 obtain ⟨i, hi⟩ := List.getElem?_of_mem hm
 have : i < H.length := by rw [← hr.len]; exact (List.getElem?_eq_some_iff.1 hi).1
 obtain ⟨mb', h1, h2⟩ := hr.at_ i H[i] (List.getElem?_eq_getElem this)
 rw [hi] at h1; cases h1
 exact h2.has ho
theorem blks_app (a b : List MB) : blks (a ++ b) = blks a ++ blks b := List.filterMap_append ..
theorem blks_one (mb : MB) : blks [mb] = mb.own.toList := by unfold blks; simp [List.filterMap_cons]; cases mb.own <;> rfl
theorem up_app (ms : List MB) : Up m (m ++ ms) := fun i mb hi => .inl (by rw [List.getElem?_append_left (List.getElem?_eq_some_iff.1 hi).1]; exact hi)
theorem HR.push (hr : HR X P A m H h) {pb : PB X.Γ} {hb : HB} {mb : MB} (ho : mb.own = some h.length ∨ mb.own = none) (hb' : BR X P (AA A (m ++ [mb])) (m ++ [mb]) (h ++ [hb]) pb mb) :
  HR X P A (m ++ [mb]) (H ++ [pb]) (h ++ [hb]) ∧ Fr m h (m ++ [mb]) (h ++ [hb]) ∧ Up m (m ++ [mb]) := by
 have hF : Fr m h (m ++ [mb]) (h ++ [hb]) := by
  refine ⟨by simp, fun b hb _ => by rw [List.getElem?_append_left hb], fun b hb => ?_, fun b cs hc => ⟨cs, ?_, Nat.le_refl _⟩⟩
  ·rw [blks_app, List.mem_append, blks_one] at hb
   rcases hb with hb | hb
   ·exact .inl hb
   ·rcases ho with ho | ho <;> rw [ho] at hb <;> simp at hb
    exact .inr (by omega)
  ·rw [blkCells_same (List.getElem?_append_left (blkCells_lt hc)), hc]
 refine ⟨hr.next hF (up_app _) (by simp [hr.len]) ?_ fun i b hi => ?_, hF, up_app _⟩
 ·rw [blks_app, blks_one]
  refine List.nodup_append.2 ⟨hr.nodup, ?_, ?_⟩
  ·cases mb.own <;> simp
  ·intro a ha b hb e
   subst e
   have := hr.inb ha
   rcases ho with ho | ho <;> rw [ho] at hb <;> simp at hb
   omega
 ·rcases Nat.lt_or_ge i H.length with hlt | hge
  ·left
   rw [List.getElem?_append_left hlt] at hi
   obtain ⟨mb', h1, h2⟩ := hr.at_ i b hi
   refine ⟨mb', hi, h1, by rw [List.getElem?_append_left (by rw [hr.len]; exact hlt)]; exact h1, fun c hc => ?_⟩
   rw [List.getElem?_append_left (h2.has hc)]
  ·right
   rw [List.getElem?_append_right hge] at hi
   have : i - H.length = 0 := by
    rcases Nat.eq_zero_or_pos (i - H.length) with h | h
    ·exact h
    ·rw [List.getElem?_eq_none (by simp; omega)] at hi; cases hi
   rw [this] at hi
   simp only [List.getElem?_cons_zero, Option.some.injEq] at hi
   subst hi
   exact ⟨mb, by rw [List.getElem?_append_right (by rw [hr.len]; exact hge), hr.len, this]; rfl, hb'⟩
theorem HR.pushE (hr : HR X P A m H h) {pb : PB X.Γ} {mb : MB} (ho : mb.own = none) (hb' : BR X P (AA A (m ++ [mb])) (m ++ [mb]) h pb mb) :
  HR X P A (m ++ [mb]) (H ++ [pb]) h ∧ Fr m h (m ++ [mb]) h ∧ Up m (m ++ [mb]) := by
 have hbl : blks (m ++ [mb]) = blks m := by rw [blks_app, blks_one, ho]; simp
 have hF : Fr m h (m ++ [mb]) h := ⟨Nat.le_refl _, fun _ _ _ => rfl, fun b hb => .inl (hbl ▸ hb), fun b cs hc => ⟨cs, hc, Nat.le_refl _⟩⟩
 refine ⟨hr.next hF (up_app _) (by simp [hr.len]) (by rw [hbl]; exact hr.nodup) fun i b hi => ?_, hF, up_app _⟩
 rcases Nat.lt_or_ge i H.length with hlt | hge
 ·left
  rw [List.getElem?_append_left hlt] at hi
  obtain ⟨mb', h1, h2⟩ := hr.at_ i b hi
  exact ⟨mb', hi, h1, by rw [List.getElem?_append_left (by rw [hr.len]; exact hlt)]; exact h1, fun c hc => rfl⟩
 ·right
  rw [List.getElem?_append_right hge] at hi
  have : i - H.length = 0 := by
   rcases Nat.eq_zero_or_pos (i - H.length) with h | h
   ·exact h
   ·rw [List.getElem?_eq_none (by simp; omega)] at hi; cases hi
  rw [this] at hi
  simp only [List.getElem?_cons_zero, Option.some.injEq] at hi
  subst hi
  exact ⟨mb, by rw [List.getElem?_append_right (by rw [hr.len]; exact hge), hr.len, this]; rfl, hb'⟩
theorem HR.set (hr : HR X P A m H h) {i c : Nat} {mb : MB} {pb : PB X.Γ} {hb : HB} (hi : m[i]? = some mb) (ho : mb.own = some c) (hg : ∀ cs, blkCells h c = some cs → ∃ cs', blkCells (h.set c hb) c = some cs' ∧ cs.length ≤ cs'.length)
  (hb' : Fr m h m (h.set c hb) → BR X P (AA A m) m (h.set c hb) pb mb) : HR X P A m (H.set i pb) (h.set c hb) ∧ Fr m h m (h.set c hb) := by
 have hF : Fr m h m (h.set c hb) := by
  refine ⟨by simp, fun b hb hn => ?_, fun b hb => .inl hb, fun b cs hc => ?_⟩
  ·rw [List.getElem?_set_ne]
   intro e; subst e; exact hn (own_mem hi ho)
  ·by_cases e : c = b
   ·subst e; exact hg cs hc
   ·exact ⟨cs, by rw [blkCells_same (List.getElem?_set_ne e), hc], Nat.le_refl _⟩
 refine ⟨hr.next hF .refl (by simp [hr.len]) hr.nodup fun j b hj => ?_, hF⟩
 by_cases e : i = j
 ·subst e
  rw [List.getElem?_set_self' ] at hj
  right
  have : H[i]?.isSome := by
   have : i < H.length := by rw [← hr.len]; exact (List.getElem?_eq_some_iff.1 hi).1
   simp [this]
  obtain ⟨y, hy⟩ := Option.isSome_iff_exists.1 this
  rw [hy] at hj; cases hj
  exact ⟨mb, hi, hb' hF⟩
 ·rw [List.getElem?_set_ne e] at hj
  left
  obtain ⟨mb', h1, h2⟩ := hr.at_ j b hj
  refine ⟨mb', hj, h1, h1, fun d hd => List.getElem?_set_ne fun e2 => ?_⟩
  subst e2
  exact e (own_inj hr.nodup hi h1 ho hd)
theorem set_gone_blks {i : Nat} : ∀ {m : List MB} {b : Nat}, b ∈ blks (m.set i .gone) → b ∈ blks m := by
 intro m b hb
 obtain ⟨mb, hm, ho⟩ := List.mem_filterMap.1 hb
 obtain ⟨j, hj⟩ := List.getElem?_of_mem hm
 by_cases e : i = j
 ·subst e
  rw [List.getElem?_set_self'] at hj
  cases hx : m[i]? with
  | none => rw [hx] at hj; cases hj
  | some y => rw [hx] at hj; cases hj; cases ho
 ·rw [List.getElem?_set_ne e] at hj
  exact own_mem hj ho
theorem nodup_set_gone {i : Nat} : ∀ {m : List MB}, (blks m).Nodup → (blks (m.set i .gone)).Nodup := by
 unfold blks
 intro m
 induction m generalizing i with
 | nil => intro h; simp
 | cons x r ih =>
  intro hn
  cases i with
  | zero =>
   simp only [List.set_cons_zero, List.filterMap_cons, MB.own]
   simp only [List.filterMap_cons] at hn
   split at hn
   ·exact hn
   ·exact (List.nodup_cons.1 hn).2
  | succ i =>
   simp only [List.set_cons_succ, List.filterMap_cons]
   simp only [List.filterMap_cons] at hn
   split at hn
   ·exact ih hn
   ·refine List.nodup_cons.2 ⟨fun hb => (List.nodup_cons.1 hn).1 ?_, ih (List.nodup_cons.1 hn).2⟩
    exact set_gone_blks (m := r) hb
theorem fr_gone {i : Nat} : Fr m h (m.set i .gone) h := ⟨Nat.le_refl _, fun _ _ _ => rfl, fun _ hb => .inl (set_gone_blks hb), fun _ cs hc => ⟨cs, hc, Nat.le_refl _⟩⟩
theorem up_gone {i : Nat} : Up m (m.set i .gone) := fun j mb hj => by
 by_cases e : i = j
 ·subst e; right; rw [List.getElem?_set_self', hj]; rfl
 ·left; rw [List.getElem?_set_ne e]; exact hj
theorem HR.gone (hr : HR X P A m H h) (i : Nat) : HR X P A (m.set i .gone) (H.set i .gone) h := by
 refine hr.next fr_gone up_gone (by simp [hr.len]) (nodup_set_gone hr.nodup) fun j b hj => ?_
 by_cases e : i = j
 ·subst e
  right
  rw [List.getElem?_set_self'] at hj
  cases hx : H[i]? with
  | none => rw [hx] at hj; cases hj
  | some y =>
   rw [hx] at hj; cases hj
   obtain ⟨mb, h1, _⟩ := hr.at_ i y hx
   exact ⟨.gone, by rw [List.getElem?_set_self', h1]; rfl, trivial⟩
 ·rw [List.getElem?_set_ne e] at hj
  left
  obtain ⟨mb, h1, _⟩ := hr.at_ j b hj
  exact ⟨mb, hj, h1, by rw [List.getElem?_set_ne e]; exact h1, fun _ _ => rfl⟩
def goneM : List Nat → List MB → List MB
 | [], m => m
 | i :: is, m => goneM is (m.set i .gone)
theorem fr_goneM : ∀ (is : List Nat) (m : List MB), Fr m h (goneM is m) h ∧ Up m (goneM is m)
 | [], m => ⟨.refl, .refl⟩
 | i :: is, m => ⟨fr_gone.trans (fr_goneM is _).1, up_gone.trans (fr_goneM is _).2⟩
theorem HR.goneAll : ∀ (is : List Nat) {m : List MB} {H : List (PB X.Γ)}, HR X P A m H h → HR X P A (goneM is m) (goneAll is H) h
 | [], _, _, hr => hr
 | i :: is, _, _, hr => HR.goneAll is (hr.gone i)
theorem goneAll_length : ∀ (is : List Nat) (H : List (PB X.Γ)), (Pv.goneAll is H).length = H.length
 | [], _ => rfl
 | i :: is, H => by rw [Pv.goneAll, goneAll_length is]; simp [gone1]
theorem goneM_length : ∀ (is : List Nat) (m : List MB), (goneM is m).length = m.length
 | [], _ => rfl
 | i :: is, m => by rw [goneM, goneM_length is]; simp
theorem goneM_at : ∀ (is : List Nat) {m : List MB} {i : Nat} {mb : MB}, m[i]? = some mb → (goneM is m)[i]? = some (if is.contains i then .gone else mb)
 | [], _, _, _, h => by simpa [goneM] using h
 | j :: is, m, i, mb, h => by
  rw [goneM]
  by_cases e : j = i
  ·subst e
   have : (m.set j .gone)[j]? = some .gone := by rw [List.getElem?_set_self', h]; rfl
   rw [goneM_at is this]
   simp
  ·rw [goneM_at is (by rw [List.getElem?_set_ne e]; exact h)]
   have : (i == j) = false := by simp; omega
   simp only [List.contains_cons, this, Bool.false_or]
end
end Pv
namespace Pv
open Go Tw
section
variable {X : Cod} {P : Program} {A : Nat → Prop} {m m' : List MB} {h h' : List HB} {H H' : List (PB X.Γ)}
theorem VRs.nil : VRs X P A m h [] [] := ⟨rfl, fun i x y hx => by simp at hx⟩
theorem VRs.cons {v : PV X.Γ} {x : TV} {vs : List (PV X.Γ)} {xs : List TV} (h1 : VR X P A m h v x) (h2 : VRs X P A m h vs xs) : VRs X P A m h (v :: vs) (x :: xs) := by
 refine ⟨by simp [h2.1], fun i a b ha hb => ?_⟩
 cases i with
 | zero => simp only [List.getElem?_cons_zero, Option.some.injEq] at ha hb; subst ha; subst hb; exact h1
 | succ i => exact h2.2 i a b (by simpa using ha) (by simpa using hb)
theorem VRs.inv {v : PV X.Γ} {vs : List (PV X.Γ)} {xs : List TV} (hv : VRs X P A m h (v :: vs) xs) : ∃ x r, xs = x :: r ∧ VR X P A m h v x ∧ VRs X P A m h vs r := by
 cases xs with
 | nil => have := hv.1; simp at this
 | cons x r => exact ⟨x, r, rfl, hv.2 0 v x rfl rfl, by have := hv.1; simpa using this, fun i a b ha hb => hv.2 (i + 1) a b (by simpa using ha) (by simpa using hb)⟩
theorem VRs.inv0 {xs : List TV} (hv : VRs X P A m h [] xs) : xs = [] := by have := hv.1; cases xs <;> simp_all
theorem VRs.app {a b : List (PV X.Γ)} {x y : List TV} (h1 : VRs X P A m h a x) (h2 : VRs X P A m h b y) : VRs X P A m h (a ++ b) (x ++ y) := by
 refine ⟨by simp [h1.1, h2.1], fun i c d hc hd => ?_⟩
 rcases Nat.lt_or_ge i a.length with hl | hl
 ·rw [List.getElem?_append_left hl] at hc
  rw [List.getElem?_append_left (by rw [← h1.1]; exact hl)] at hd
  exact h1.2 i c d hc hd
 ·rw [List.getElem?_append_right hl] at hc
  rw [List.getElem?_append_right (by rw [← h1.1]; exact hl), ← h1.1] at hd
  exact h2.2 _ c d hc hd
theorem VRs.drop {a : List (PV X.Γ)} {x : List TV} (h1 : VRs X P A m h a x) (n : Nat) : VRs X P A m h (a.drop n) (x.drop n) :=
 ⟨by simp [h1.1], fun i c d hc hd => h1.2 (n + i) c d (by rw [← hc, List.getElem?_drop]) (by rw [← hd, List.getElem?_drop])⟩
theorem VRs.take {a : List (PV X.Γ)} {x : List TV} (h1 : VRs X P A m h a x) (n : Nat) : VRs X P A m h (a.take n) (x.take n) := by
 refine ⟨by simp [h1.1], fun i c d hc hd => ?_⟩
 rw [List.getElem?_take] at hc hd
 split at hc
 ·rename_i hl
  rw [if_pos hl] at hd
  exact h1.2 i c d hc hd
 ·cases hc
theorem VRs.get {a : List (PV X.Γ)} {x : List TV} (h1 : VRs X P A m h a x) {i : Nat} {c : PV X.Γ} (hc : a[i]? = some c) : ∃ v, x[i]? = some v ∧ VR X P A m h c v := by
 have hl : i < x.length := by rw [← h1.1]; exact (List.getElem?_eq_some_iff.1 hc).1
 exact ⟨x[i], List.getElem?_eq_getElem hl, h1.2 i c _ hc (List.getElem?_eq_getElem hl)⟩
theorem plainC_eq {v : PV X.Γ} {x tv : TV} (hv : VR X P A m h v x) (hp : plainC v = some tv) : x = tv := by
 cases hv with
 | gone hi _ _ => cases v <;> simp [idOf] at hi <;> simp [plainC] at hp
 | _ => first | (simp only [plainC, Option.some.injEq] at hp; exact hp) | (simp [plainC] at hp; done)
theorem plainCs_eq : ∀ {vs : List (PV X.Γ)} {xs tvs : List TV}, VRs X P A m h vs xs → plainCs vs = some tvs → xs = tvs
 | [], xs, tvs, hv, hp => by simp only [plainCs, Option.some.injEq] at hp; rw [hv.inv0, hp]
 | v :: vs, xs, tvs, hv, hp => by
  obtain ⟨x, r, rfl, h1, h2⟩ := hv.inv
  simp only [plainCs] at hp
  split at hp
  ·rename_i a b ha hb
   cases hp
   rw [plainC_eq h1 ha, plainCs_eq h2 hb]
  ·cases hp
theorem toT_eq {v : PV X.Γ} {x tv : TV} (hv : VR X P A m h v x) (hp : toT v = some tv) : x = tv := by
 cases v with
 | agg cs =>
  simp only [toT, Option.map_eq_some_iff] at hp
  obtain ⟨tvs, h1, rfl⟩ := hp
  cases hv with
  | agg h2 h3 => rw [plainCs_eq ⟨h2, h3⟩ h1]
  | gone hi _ _ => simp [idOf] at hi
 | _ => exact plainC_eq hv hp
theorem toTs_eq : ∀ {vs : List (PV X.Γ)} {xs tvs : List TV}, VRs X P A m h vs xs → toTs vs = some tvs → xs = tvs
 | [], xs, tvs, hv, hp => by simp only [toTs, Option.some.injEq] at hp; rw [hv.inv0, hp]
 | v :: vs, xs, tvs, hv, hp => by
  obtain ⟨x, r, rfl, h1, h2⟩ := hv.inv
  simp only [toTs] at hp
  split at hp
  ·rename_i a b ha hb
   cases hp
   rw [toT_eq h1 ha, toTs_eq h2 hb]
  ·cases hp
theorem ofC_VR {v : PV X.Γ} {x : TV} (hp : ofC x = some v) : VR X P A m h v x := by
 cases x <;> simp [ofC] at hp <;> subst hp <;> constructor
theorem ofCs_VR : ∀ {xs : List TV} {vs : List (PV X.Γ)}, ofCs xs = some vs → VRs X P A m h vs xs
 | [], vs, hp => by simp only [ofCs, Option.some.injEq] at hp; subst hp; exact .nil
 | x :: xs, vs, hp => by
  simp only [ofCs] at hp
  split at hp
  ·rename_i a b ha hb
   cases hp
   exact .cons (ofC_VR ha) (ofCs_VR hb)
  ·cases hp
theorem ofT_VR {v : PV X.Γ} {x : TV} (hp : ofT x = some v) : VR X P A m h v x := by
 cases x with
 | agg cs =>
  simp only [ofT, Option.map_eq_some_iff] at hp
  obtain ⟨vs, h1, rfl⟩ := hp
  have := ofCs_VR (X := X) (P := P) (A := A) (m := m) (h := h) h1
  exact .agg this.1 this.2
 | _ => exact ofC_VR hp
theorem plainC_VR {v : PV X.Γ} {x : TV} (hp : plainC v = some x) : VR X P A m h v x := by
 cases v <;> simp only [plainC, Option.some.injEq, reduceCtorEq] at hp <;> subst hp
 ·exact .bool _
 ·exact .int _ _
 ·exact .str _
 ·exact .nil _
theorem plainCs_VR : ∀ {vs : List (PV X.Γ)} {xs : List TV}, plainCs vs = some xs → VRs X P A m h vs xs
 | [], xs, hp => by simp only [plainCs, Option.some.injEq] at hp; subst hp; exact .nil
 | v :: vs, xs, hp => by
  simp only [plainCs] at hp
  split at hp
  ·rename_i a b ha hb
   cases hp
   exact .cons (plainC_VR ha) (plainCs_VR hb)
  ·cases hp
theorem toT_VR {v : PV X.Γ} {x : TV} (hp : toT v = some x) : VR X P A m h v x := by
 cases v with
 | agg cs =>
  simp only [toT, Option.map_eq_some_iff] at hp
  obtain ⟨vs, h1, rfl⟩ := hp
  have := plainCs_VR (X := X) (P := P) (A := A) (m := m) (h := h) h1
  exact .agg this.1 this.2
 | _ => exact plainC_VR hp
theorem unlit_VR {v : PV X.Γ} {x : TV} (hv : VR X P A m h v x) : VR X P A m h (unlit v) x := by
 cases v with
 | lit b =>
  cases hv with
  | lit => exact .bool _
  | gone hi _ _ => simp [idOf] at hi
 | _ => exact hv
theorem one_VR {v : PV X.Γ} {x : TV} (hv : VR X P A m h v x) : oneT x = oneP v := by
 cases hv with
 | own _ o => exact o
 | gone hi _ o => rw [o]; cases v <;> simp [idOf] at hi <;> rfl
 | _ => rfl
theorem cells_VR {v : PV X.Γ} {x : TV} (hv : VR X P A m h v x) : VRs X P A m h v.cells x.cells := by
 have hq := one_VR hv
 cases v with
 | agg cs =>
  cases hv with
  | agg h1 h2 => exact ⟨h1, h2⟩
  | gone hi _ _ => simp [idOf] at hi
 | tup cs =>
  have hv' := hv
  cases hv with
  | tup h1 h2 => exact .cons hv' .nil
  | gone hi _ _ => simp [idOf] at hi
 | _ =>
  have : x.cells = [x] := by
   cases x <;> first | rfl | (simp [oneT, oneP] at hq; done)
  rw [this]
  exact .cons hv .nil
theorem allOne_VR : ∀ {vs : List (PV X.Γ)} {xs : List TV}, VRs X P A m h vs xs → xs.all oneT = vs.all oneP
 | [], xs, hv => by rw [hv.inv0]; rfl
 | v :: vs, xs, hv => by
  obtain ⟨x, r, rfl, h1, h2⟩ := hv.inv
  simp only [List.all_cons, one_VR h1, allOne_VR h2]
theorem sub_VR {cs : List (PV X.Γ)} {xs : List TV} (hv : VRs X P A m h cs xs) {off n : Nat} {r : List (PV X.Γ)} (hs : psub cs off n = some r) : ∃ r', sub xs off n = some r' ∧ VRs X P A m h r r' := by
 unfold psub at hs
 split at hs
 ·rename_i hl
  cases hs
  exact ⟨_, by unfold sub; rw [if_pos (by rw [← hv.1]; exact hl)], (hv.drop off).take n⟩
 ·cases hs
theorem over_VR {cs new : List (PV X.Γ)} {xs xnew : List TV} (hv : VRs X P A m h cs xs) (hn : VRs X P A m h new xnew) {off : Nat} {r : List (PV X.Γ)} (hs : pover cs off new = some r) : ∃ r', over xs off xnew = some r' ∧ VRs X P A m h r r' := by
 unfold pover at hs
 split at hs
 ·rename_i hl
  cases hs
  refine ⟨_, by unfold over; rw [if_pos (by rw [← hv.1, ← hn.1]; exact hl)], ?_⟩
  rw [← hn.1]
  exact ((hv.take off).app hn).app (hv.drop _)
 ·cases hs
theorem part_VR {cs : List (PV X.Γ)} {xs : List TV} (hv : VRs X P A m h cs xs) {t : TypeId} {off : Nat} {v : PV X.Γ} (hs : ppart P t cs off = some v) : ∃ x, partT P t xs off = some x ∧ VR X P A m h v x := by
 unfold ppart at hs
 unfold partT
 split at hs
 ·rename_i n ha hn
  simp only [Option.map_eq_some_iff] at hs
  obtain ⟨r, h1, rfl⟩ := hs
  obtain ⟨r', g1, g2⟩ := sub_VR hv h1
  exact ⟨.agg r', by simp only [ha, hn, g1, Option.map_some], .agg g2.1 g2.2⟩
 ·rename_i n ha hn
  split at hs
  ·rename_i h1
   obtain ⟨x, g1, g2⟩ := hv.get hs
   exact ⟨x, by simp only [ha, hn, h1, if_true, g1], g2⟩
  ·cases hs
 ·cases hs
theorem zero_VR {t : TypeId} {z : List (PV X.Γ)} (hz : pzero P t = some z) : ∃ z', zeroT P t = some z' ∧ VRs X P A m h z z' := by
 unfold pzero at hz
 split at hz
 ·rename_i z' h1
  exact ⟨z', h1, ofCs_VR hz⟩
 ·cases hz
def VPs (X : Cod) (P : Program) (A : Nat → Prop) (m : List MB) (h : List HB) (ps : List (Nat × PV X.Γ)) (qs : List (Nat × TV)) : Prop :=
 ps.length = qs.length ∧ ∀ (i : Nat) a b, ps[i]? = some a → qs[i]? = some b → a.1 = b.1 ∧ VR X P A m h a.2 b.2
theorem VPs.inv {a : Nat × PV X.Γ} {ps : List (Nat × PV X.Γ)} {qs : List (Nat × TV)} (hv : VPs X P A m h (a :: ps) qs) : ∃ x r, qs = (a.1, x) :: r ∧ VR X P A m h a.2 x ∧ VPs X P A m h ps r := by
 cases qs with
 | nil => have := hv.1; simp at this
 | cons q r =>
  obtain ⟨h1, h2⟩ := hv.2 0 a q rfl rfl
  refine ⟨q.2, r, by rw [h1], h2, by have := hv.1; simpa using this, fun i x y hx hy => hv.2 (i + 1) x y (by simpa using hx) (by simpa using hy)⟩
theorem fill_VR {pl : Nat → Option (Nat × Nat)} : ∀ {ps : List (Nat × PV X.Γ)} {qs : List (Nat × TV)} {cs : List (PV X.Γ)} {xs : List TV}, VPs X P A m h ps qs → VRs X P A m h cs xs → ∀ {r : List (PV X.Γ)}, pfill pl cs ps = some r → ∃ r', fillT pl xs qs = some r' ∧ VRs X P A m h r r'
 | [], qs, cs, xs, hp, hv, r, hs => by
  have : qs = [] := by have := hp.1; cases qs <;> simp_all
  subst this
  simp only [pfill, Option.some.injEq] at hs; subst hs
  exact ⟨xs, rfl, hv⟩
 | (i, v) :: ps, qs, cs, xs, hp, hv, r, hs => by
  obtain ⟨x, rest, rfl, h1, h2⟩ := hp.inv
  have hc := cells_VR h1
  simp only [pfill] at hs
  split at hs
  ·rename_i off size hpl
   split at hs
   ·rename_i hsz
    split at hs
    ·rename_i cs' ho
     obtain ⟨xs', g1, g2⟩ := over_VR hv hc ho
     obtain ⟨r', g3, g4⟩ := fill_VR h2 g2 hs
     have hsz' : x.cells.length = size := by rw [← hc.1]; exact hsz
     exact ⟨r', by simp only [fillT, hpl, hsz', if_true, g1, g3], g4⟩
    ·cases hs
   ·cases hs
  ·cases hs
theorem build_VR {t : TypeId} {ps : List (Nat × PV X.Γ)} {qs : List (Nat × TV)} (hp : VPs X P A m h ps qs) {v : PV X.Γ} (hs : pbuild P t ps = some v) : ∃ x, buildT P t qs = some x ∧ VR X P A m h v x := by
 unfold pbuild at hs
 unfold buildT
 split at hs
 ·rename_i z fs hz hu
  obtain ⟨z', g1, g2⟩ := zero_VR (A := A) (m := m) (h := h) hz
  split at hs
  ·rename_i ha
   simp only [Option.map_eq_some_iff] at hs
   obtain ⟨r, h1, rfl⟩ := hs
   obtain ⟨r', g3, g4⟩ := fill_VR hp g2 h1
   exact ⟨.agg r', by simp only [g1, hu, ha, if_true, g3, Option.map_some], .agg g4.1 g4.2⟩
  ·cases hs
 ·rename_i z n e hz hu
  obtain ⟨z', g1, g2⟩ := zero_VR (A := A) (m := m) (h := h) hz
  split at hs
  ·rename_i k hk
   simp only [Option.map_eq_some_iff] at hs
   obtain ⟨r, h1, rfl⟩ := hs
   obtain ⟨r', g3, g4⟩ := fill_VR hp g2 h1
   exact ⟨.agg r', by simp only [g1, hu, hk, g3, Option.map_some], .agg g4.1 g4.2⟩
  ·cases hs
 ·cases hs
theorem times_VR {z : List (PV X.Γ)} {z' : List TV} (hz : VRs X P A m h z z') : ∀ n, VRs X P A m h (ptimes z n) (times z' n)
 | 0 => .nil
 | n + 1 => hz.app (times_VR hz n)
section
variable {env : List (Nat × PE X.Γ)} {env' : List (Nat × EV)}
theorem look_VR (he : EnvR X P A m h env env') {t : Nat} : (lookP t env = none ∧ lookE t env' = none) ∨ ∃ v x, lookP t env = some v ∧ lookE t env' = some x ∧ PER X P A m h v x := by
 induction he with
 | nil => exact .inl ⟨rfl, rfl⟩
 | cons h1 _ ih =>
  rename_i k v x r r' _
  simp only [lookP, lookE]
  by_cases e : k = t
  ·right; exact ⟨v, x, by rw [if_pos e], by rw [if_pos e], h1⟩
  ·rw [if_neg e, if_neg e]; exact ih
theorem look_some (he : EnvR X P A m h env env') {t : Nat} {v : PE X.Γ} (hl : lookP t env = some v) : ∃ x, lookE t env' = some x ∧ PER X P A m h v x := by
 rcases look_VR he (t := t) with ⟨h1, _⟩ | ⟨w, x, h1, h2, h3⟩
 ·rw [hl] at h1; cases h1
 ·rw [hl] at h1; cases h1; exact ⟨x, h2, h3⟩
theorem evO_VR (he : EnvR X P A m h env env') {o : Operand} {v : PE X.Γ} (hl : pevO env o = some v) : ∃ x, evO env' o = some x ∧ PER X P A m h v x := by
 cases o with
 | tmp t => exact look_some he hl
 | const c =>
  simp only [pevO] at hl
  split at hl
  ·rename_i b hb
   cases hl
   exact ⟨.val (.bool b), by simp only [evO, hb, Option.map_some], VR.lit b⟩
  ·rename_i x _ hx
   simp only [Option.map_eq_some_iff] at hl
   obtain ⟨w, h1, rfl⟩ := hl
   exact ⟨.val x, by simp only [evO, hx, Option.map_some], ofT_VR h1⟩
  ·cases hl
 | func f =>
  simp only [pevO, Option.some.injEq] at hl; subst hl
  exact ⟨.val (.fn f [] []), rfl, .fn rfl (by simp) rfl (by simp)⟩
 | global g => cases hl
theorem per_val {v : PV X.Γ} {x : EV} (hp : PER X P A m h (.val v) x) : ∃ y, x = .val y ∧ VR X P A m h v y := by
 cases x with
 | val y => exact ⟨y, rfl, hp⟩
 | _ => exact hp.elim
theorem per_loc {k o : Nat} {x : EV} (hp : PER X P A m h (.loc k o) x) : x = .loc k o := by
 cases x with
 | loc k' o' => obtain ⟨rfl, rfl⟩ := hp; rfl
 | _ => exact hp.elim
theorem per_undef {x : EV} (hp : PER X P A m h .undef x) : x = .undef := by
 cases x with
 | undef => rfl
 | _ => exact hp.elim
theorem ptest_VR (he : EnvR X P A m h env env') {o : Operand} {v : PV X.Γ} (hl : ptest env o = some v) : ∃ x, tvO env' o = some x ∧ VR X P A m h v x := by
 unfold ptest at hl
 split at hl
 ·rename_i w hw
  cases hl
  obtain ⟨x, h1, h2⟩ := evO_VR he hw
  obtain ⟨y, rfl, h3⟩ := per_val h2
  exact ⟨y, by simp only [tvO, h1], h3⟩
 ·cases hl
theorem vO_VR (he : EnvR X P A m h env env') {o : Operand} {v : PV X.Γ} (hl : pvO env o = some v) : ∃ x, tvO env' o = some x ∧ VR X P A m h v x := by
 unfold pvO at hl
 split at hl
 ·rename_i w hw
  cases hl
  obtain ⟨x, h1, h2⟩ := evO_VR he hw
  obtain ⟨y, rfl, h3⟩ := per_val h2
  exact ⟨y, by simp only [tvO, h1], unlit_VR h3⟩
 ·cases hl
theorem vOs_VR (he : EnvR X P A m h env env') : ∀ {os : List Operand} {vs : List (PV X.Γ)}, pvOs env os = some vs → ∃ xs, tvOs env' os = some xs ∧ VRs X P A m h vs xs
 | [], vs, hl => by simp only [pvOs, Option.some.injEq] at hl; subst hl; exact ⟨[], rfl, .nil⟩
 | o :: os, vs, hl => by
  simp only [pvOs] at hl
  split at hl
  ·rename_i v ws h1 h2
   cases hl
   obtain ⟨x, g1, g2⟩ := vO_VR he h1
   obtain ⟨xs, g3, g4⟩ := vOs_VR he h2
   exact ⟨x :: xs, by simp only [tvOs, g1, g3], .cons g2 g4⟩
  ·cases hl
theorem vPs_VR (he : EnvR X P A m h env env') : ∀ {os : List (Nat × Operand)} {vs : List (Nat × PV X.Γ)}, pvPs env os = some vs → ∃ xs, tvPs env' os = some xs ∧ VPs X P A m h vs xs
 | [], vs, hl => by simp only [pvPs, Option.some.injEq] at hl; subst hl; exact ⟨[], rfl, rfl, fun i a b ha => by simp at ha⟩
 | (i, o) :: os, vs, hl => by
  simp only [pvPs] at hl
  split at hl
  ·rename_i v ws h1 h2
   cases hl
   obtain ⟨x, g1, g2⟩ := vO_VR he h1
   obtain ⟨xs, g3, g4⟩ := vPs_VR he h2
   refine ⟨(i, x) :: xs, by simp only [tvPs, g1, g3], by simp [g4.1], fun j a b ha hb => ?_⟩
   cases j with
   | zero => simp only [List.getElem?_cons_zero, Option.some.injEq] at ha hb; subst ha; subst hb; exact ⟨rfl, g2⟩
   | succ j => exact g4.2 j a b (by simpa using ha) (by simpa using hb)
  ·cases hl
def OR (X : Cod) (P : Program) (A : Nat → Prop) (m : List MB) (h : List HB) : Option (PV X.Γ) → Option TV → Prop
 | none, none => True
 | some v, some x => VR X P A m h v x
 | _, _ => False
theorem vOpt_VR (he : EnvR X P A m h env env') {o : Option Operand} {v : Option (PV X.Γ)} (hl : pvOpt env o = some v) : ∃ x, optT env' o = some x ∧ OR X P A m h v x := by
 cases o with
 | none => simp only [pvOpt, Option.some.injEq] at hl; subst hl; exact ⟨none, rfl, trivial⟩
 | some o =>
  simp only [pvOpt] at hl
  split at hl
  ·rename_i w hw
   cases hl
   obtain ⟨x, g1, g2⟩ := vO_VR he hw
   exact ⟨some x, by simp only [optT, g1], g2⟩
  ·cases hl
theorem pick_VR (he : EnvR X P A m h env env') : ∀ live, EnvR X P A m h (ppick live env) (pick live env')
 | [] => .nil
 | t :: r => by
  simp only [ppick, pick]
  rcases look_VR he (t := t) with ⟨h1, h2⟩ | ⟨v, x, h1, h2, h3⟩
  ·rw [h1, h2]; exact pick_VR he r
  ·rw [h1, h2]; exact .cons h3 (pick_VR he r)
theorem know_VR (he : EnvR X P A m h env env') {t : Nat} {b : Bool} (hb : lookE t env' = some (.val (.bool b))) : EnvR X P A m h (Pv.know t b env) env' := by
 induction he with
 | nil => exact .nil
 | cons h1 h2 ih =>
  rename_i k v x r r'
  simp only [lookE] at hb
  simp only [Pv.know]
  by_cases e : k = t
  ·rw [if_pos e] at hb ⊢
   cases hb
   exact .cons (VR.lit b) h2
  ·rw [if_neg e] at hb ⊢
   exact .cons h1 (ih hb)
theorem top_VR (he : EnvR X P A m h env env') : ptop X env = topL env' := by
 induction he with
 | nil => rfl
 | cons h1 _ ih =>
  rename_i k v x r r' _
  cases v with
  | val v => obtain ⟨y, rfl, _⟩ := per_val h1; simpa [ptop, topL] using ih
  | loc a b => rw [per_loc h1]; simp only [ptop, topL, ih]
  | undef => rw [per_undef h1]; simpa [ptop, topL] using ih
end
end
end Pv
namespace Pv
open Go Tw
structure CodOk (X : Cod) (P : Program) : Prop where
 dec : ∀ {t : Nat} {vs : List (PV X.Γ)} {a : X.Γ t}, X.dec t vs = some a → ∀ {A : Nat → Prop} {m : List MB} {h : List HB} {xs : List TV}, VRs X P A m h vs xs → VRs X P A m h (X.enc t a) xs
 clos : ∀ (t : Nat) (a : X.Γ t), clos.closs (X.enc t a) = true
section
variable {X : Cod} {P : Program} {A B : Nat → Prop} {m m' : List MB} {h h' : List HB} {H H' : List (PB X.Γ)}
theorem VR.mono (hAB : ∀ b, A b → B b) {v : PV X.Γ} {x : TV} (hv : VR X P A m h v x) : VR X P B m h v x := by
 induction hv with
 | bool => exact .bool _
 | lit => exact .lit _
 | int => exact .int _ _
 | str => exact .str _
 | nil => exact .nil _
 | ptr e => exact .ptr e
 | slc e => exact .slc e
 | own e o => exact .own e o
 | win e q q' q2 => exact .win e q q' q2
 | winN e => exact .winN e
 | map e => exact .map e
 | fn h1 _ h3 _ i2 i4 => exact .fn h1 i2 h3 i4
 | yld e => exact .yld e
 | agg h1 _ i2 => exact .agg h1 i2
 | tup h1 _ i2 => exact .tup h1 i2
 | lstN => exact .lstN
 | lst a c c2 s z o k f e _ ih => exact .lst (hAB _ a) c c2 s z o k f e ih
 | el a c l o e q _ ih => exact .el (hAB _ a) c l o e q ih
 | row e j q => exact .row e j q
 | gone i e o => exact .gone i e o
theorem VRs.mono (hAB : ∀ b, A b → B b) {v : List (PV X.Γ)} {x : List TV} (hv : VRs X P A m h v x) : VRs X P B m h v x := ⟨hv.1, fun i a b ha hb => (hv.2 i a b ha hb).mono hAB⟩
theorem closs_get : ∀ {vs : List (PV X.Γ)} {i : Nat} {v : PV X.Γ}, clos.closs vs = true → vs[i]? = some v → clos v = true
 | [], _, _, _, h => by simp at h
 | a :: vs, i, v, hc, h => by
  simp only [clos.closs, Bool.and_eq_true] at hc
  cases i with
  | zero => simp only [List.getElem?_cons_zero, Option.some.injEq] at h; subst h; exact hc.1
  | succ i => exact closs_get hc.2 (by simpa using h)
theorem VR.clos (hX : CodOk X P) {v : PV X.Γ} {x : TV} (hv : VR X P A m h v x) (hc : Pv.clos v = true) : VR X P A m' h v x := by
 induction hv with
 | bool => exact .bool _
 | lit => exact .lit _
 | int => exact .int _ _
 | str => exact .str _
 | nil => exact .nil _
 | fn h1 _ h3 _ i2 i4 =>
  simp only [Pv.clos, Bool.and_eq_true] at hc
  exact .fn h1 (fun i x y hx hy => i2 i x y hx hy (closs_get hc.1 hx)) h3 (fun i x y hx hy => i4 i x y hx hy (closs_get hc.2 hx))
 | agg h1 _ i2 =>
  simp only [Pv.clos] at hc
  exact .agg h1 (fun i x y hx hy => i2 i x y hx hy (closs_get hc hx))
 | tup h1 _ i2 =>
  simp only [Pv.clos] at hc
  exact .tup h1 (fun i x y hx hy => i2 i x y hx hy (closs_get hc hx))
 | lstN => exact .lstN
 | lst a c c2 s z o k f e _ ih => exact .lst a c c2 s z o k f e fun j y i d v h1 h2 h3 => ih j y i d v h1 h2 h3 (closs_get (hX.clos _ _) h2)
 | el a c l o e q _ ih => exact .el a c l o e q fun i d v h1 h2 => ih i d v h1 h2 (closs_get (hX.clos _ _) h1)
 | gone i e o => rename_i v _ _; cases v <;> simp [idOf] at i <;> simp [Pv.clos] at hc
 | _ => simp [Pv.clos] at hc
theorem VRs.clos (hX : CodOk X P) {v : List (PV X.Γ)} {x : List TV} (hv : VRs X P A m h v x) (hc : clos.closs v = true) : VRs X P A m' h v x :=
 ⟨hv.1, fun i a b ha hb => (hv.2 i a b ha hb).clos hX (closs_get hc ha)⟩
theorem RowsR.clos (hX : CodOk X P) {t : Nat} {l : List (X.Γ t)} {cs : List TV} {off sz : Nat} (hv : RowsR X P A m h t l cs off sz) : RowsR X P A m' h t l cs off sz :=
 ⟨hv.1, hv.2.1, fun j a i c v h1 h2 h3 => (hv.2.2 j a i c v h1 h2 h3).clos hX (closs_get (hX.clos _ _) h2)⟩
theorem RowsR.mono (hAB : ∀ b, A b → B b) {t : Nat} {l : List (X.Γ t)} {cs : List TV} {off sz : Nat} (hv : RowsR X P A m h t l cs off sz) : RowsR X P B m h t l cs off sz :=
 ⟨hv.1, hv.2.1, fun j a i c v h1 h2 h3 => (hv.2.2 j a i c v h1 h2 h3).mono hAB⟩
theorem VR.move (hX : CodOk X P) (hA : ∀ q cs, A q → blkCells h q = some cs → B q ∧ h'[q]? = h[q]?) {v : PV X.Γ} {x : TV} (hv : VR X P A m h v x) (hc : Pv.clos v = true) : VR X P B m' h' v x := by
 induction hv with
 | bool => exact .bool _
 | lit => exact .lit _
 | int => exact .int _ _
 | str => exact .str _
 | nil => exact .nil _
 | fn h1 _ h3 _ i2 i4 =>
  simp only [Pv.clos, Bool.and_eq_true] at hc
  exact .fn h1 (fun i x y hx hy => i2 i x y hx hy (closs_get hc.1 hx)) h3 (fun i x y hx hy => i4 i x y hx hy (closs_get hc.2 hx))
 | agg h1 _ i2 =>
  simp only [Pv.clos] at hc
  exact .agg h1 (fun i x y hx hy => i2 i x y hx hy (closs_get hc hx))
 | tup h1 _ i2 =>
  simp only [Pv.clos] at hc
  exact .tup h1 (fun i x y hx hy => i2 i x y hx hy (closs_get hc hx))
 | lstN => exact .lstN
 | lst a c c2 s z o k f e _ ih => obtain ⟨a', c'⟩ := hA _ _ a c; exact .lst a' ((blkCells_same c').trans c) (fun hl => (blkLim_same c').trans (c2 hl)) s z o k f e fun j y i d v h1 h2 h3 => ih j y i d v h1 h2 h3 (closs_get (hX.clos _ _) h2)
 | el a c l o e q _ ih => obtain ⟨a', c'⟩ := hA _ _ a (blkLim_cells c); exact .el a' ((blkLim_same c').trans c) l o e q fun i d v h1 h2 => ih i d v h1 h2 (closs_get (hX.clos _ _) h1)
 | gone i e o => rename_i v _ _; cases v <;> simp [idOf] at i <;> simp [Pv.clos] at hc
 | _ => simp [Pv.clos] at hc
theorem RowsR.move (hX : CodOk X P) (hA : ∀ q cs, A q → blkCells h q = some cs → B q ∧ h'[q]? = h[q]?) {t : Nat} {l : List (X.Γ t)} {cs : List TV} {off sz : Nat} (hv : RowsR X P A m h t l cs off sz) : RowsR X P B m' h' t l cs off sz :=
 ⟨hv.1, hv.2.1, fun j a i c v h1 h2 h3 => (hv.2.2 j a i c v h1 h2 h3).move hX hA (closs_get (hX.clos _ _) h2)⟩
def FA (A : Nat → Prop) (m : List MB) (is : List Nat) : Nat → Prop := fun b => AA A m b ∨ ∃ i mb, i ∈ is ∧ m[i]? = some mb ∧ mb.own = some b
theorem FA.mono {is js : List Nat} (hs : ∀ i, i ∈ is → i ∈ js) {b : Nat} (hb : FA A m is b) : FA A m js b := by
 rcases hb with h | ⟨i, mb, h1, h2, h3⟩
 ·exact .inl h
 ·exact .inr ⟨i, mb, hs i h1, h2, h3⟩
theorem goneM_back : ∀ (is : List Nat) {m : List MB} {i : Nat} {mb : MB}, (goneM is m)[i]? = some mb → mb.own ≠ none → i ∉ is ∧ m[i]? = some mb
 | [], _, _, _, h, _ => ⟨by simp, h⟩
 | j :: is, m, i, mb, h, hn => by
  obtain ⟨h1, h2⟩ := goneM_back is (m := m.set j .gone) h hn
  by_cases e : j = i
  ·subst e
   rw [List.getElem?_set_self'] at h2
   cases hx : m[j]? with
   | none => rw [hx] at h2; cases h2
   | some y => rw [hx] at h2; cases h2; exact absurd rfl hn
  ·rw [List.getElem?_set_ne e] at h2
   exact ⟨by simp [h1, Ne.symm e], h2⟩
theorem blks_goneM {is : List Nat} {m : List MB} {b : Nat} (hb : b ∈ blks (goneM is m)) : ∃ i mb, i ∉ is ∧ m[i]? = some mb ∧ mb.own = some b := by
 obtain ⟨mb, hm, ho⟩ := List.mem_filterMap.1 hb
 obtain ⟨i, hi⟩ := List.getElem?_of_mem hm
 obtain ⟨h1, h2⟩ := goneM_back is hi (by rw [ho]; simp)
 exact ⟨i, mb, h1, h2, ho⟩
theorem FA.gone (hr : HR X P A m H h) {is : List Nat} {b : Nat} (hb : FA A m is b) : AA A (goneM is m) b := by
 rcases hb with hb | ⟨i, mb, h1, h2, h3⟩
 ·refine ⟨hb.1, fun hm => ?_⟩
  obtain ⟨i, mb, _, h2, h3⟩ := blks_goneM hm
  exact hb.2 (own_mem h2 h3)
 ·refine ⟨hr.ownA b (own_mem h2 h3), fun hm => ?_⟩
  obtain ⟨j, mb', g1, g2, g3⟩ := blks_goneM hm
  have := own_inj hr.nodup h2 g2 h3 g3
  exact g1 (this ▸ h1)
theorem frozen_LR (hX : CodOk X P) (hr : HR X P A m H h) {k ex : Bool} {t i : Nat} {l : List (X.Γ t)} {x : TV} (hl : LR X P (AA A m) m h k ex t l x) (hi : m[i]? = some (.lst x)) {is : List Nat} (hs : i ∈ is) : VR X P (FA A m is) m' h (.lst t l false) x := by
 cases hl with
 | nil => exact .lstN
 | emp h0 h1 h2 h3 h4 => exact .lst (.inl h0) h1 (fun e => absurd rfl e) h3 h4 (by simpa using h2) (Nat.le_refl _) (by simp) (fun j a hj => by simp at hj) (fun j a i c v hj => by simp at hj)
 | some h1 h2 h3 h4 h5 h6 h7 h8 h9 =>
  refine .lst (cs := _) (.inr ⟨i, _, hs, hi, ?_⟩) (by unfold blkCells; rw [h4]) (fun _ => blkLim_end h4 (by omega)) h2 h3 (by omega) (Nat.le_refl _) (by simp) h9.1 ?_
  ·simp only [MB.own]; rw [if_neg (by simpa using h1)]
  ·intro j a q c v e1 e2 e3
   exact ((h9.2.2 j a q c v e1 e2 e3).mono fun b hb => .inl hb).clos hX (closs_get (hX.clos _ _) e2)
theorem VR.part {F : Nat → Prop} {t : Nat} {l : List (X.Γ t)} {fu : Bool} {b off len cap sz : Nat} {ex : Bool} (hv : VR X P F m h (.lst t l fu) (.slc b off len cap sz ex)) {o n cap' : Nat} {ex' fu' : Bool} (hn : o + n ≤ len) (hc : n ≤ cap') (hw : n = 0 ∨ o + cap' = cap) (hfu : fu' = true → ex' = true ∧ cap' = n) :
  VR X P F m h (.lst t ((l.drop o).take n) fu') (.slc b (off + o * sz) n cap' sz ex') := by
 cases hv with
 | lst a c c2 s z ol k f e r =>
  have hlen : ((l.drop o).take n).length = n := by rw [List.length_take, List.length_drop]; omega
  have := @VR.lst X P F m h t ((l.drop o).take n) fu' b (off + o * sz) cap' sz ex' _ a c (fun hne => by
   have h1 : n ≠ 0 := fun e => hne (by subst e; simp)
   have h2 := hw.resolve_left h1
   have h3 : off + o * sz + cap' * sz = off + cap * sz := by rw [← h2, Nat.add_mul]; omega
   rw [h3]
   exact c2 (fun e => by subst e; simp at hlen; omega)) s z (by
   rw [hlen]
   have : (o + n) * sz ≤ l.length * sz := Nat.mul_le_mul_right sz hn
   rw [Nat.add_mul] at this; omega) (by rw [hlen]; exact hc) (by rw [hlen]; exact hfu) (fun j y hy => by
    rw [List.getElem?_take] at hy
    split at hy
    ·rw [List.getElem?_drop] at hy; exact e _ _ hy
    ·cases hy) (fun j y i d v hy h2 h3 => by
    rw [List.getElem?_take] at hy
    split at hy
    ·rw [List.getElem?_drop] at hy
     refine r _ _ i d v hy h2 ?_
     rw [← h3]; congr 1; rw [Nat.add_mul]; omega
    ·cases hy)
  rwa [hlen] at this
 | gone hi _ _ => simp [idOf] at hi
mutual
theorem view_VR (hX : CodOk X P) (hr : HR X P A m H h) : ∀ {v w : PV X.Γ} {x : TV}, VR X P (AA A m) m h v x → view H v = some w → ∀ {is : List Nat}, (∀ i, i ∈ owns v → i ∈ is) → VR X P (FA A m is) m' h w x
 | .own i, w, x, hv, hw, is, hs => by
  simp only [view] at hw
  split at hw
  ·rename_i k ex t l hH
   cases hw
   obtain ⟨mb, h1, h2⟩ := hr.at_ i _ hH
   cases mb with
   | lst y =>
    cases hv with
    | own e o => rw [h1] at e; cases e; exact frozen_LR hX hr h2 h1 (hs i (by simp [owns]))
    | gone hi e o => simp only [idOf, Option.some.injEq] at hi; subst hi; rw [h1] at e; cases e
   | _ => exact h2.elim
  ·cases hw
 | .win i o n, w, x, hv, hw, is, hs => by
  simp only [view] at hw
  split at hw
  ·rename_i k ex t l hH
   cases hw
   obtain ⟨mb, h1, h2⟩ := hr.at_ i _ hH
   cases mb with
   | lst y =>
    have h2' : LR X P (AA A m) m h k ex t l y := h2
    have hfz : VR X P (FA A m is) m' h (.lst t l false) y := frozen_LR hX hr h2' h1 (hs i (by simp [owns]))
    cases hv with
    | win e q q' q2 =>
     rw [h1] at e; cases e
     exact hfz.part q q' q2 (by simp)
    | winN e =>
     rw [h1] at e; cases e
     cases h2' with
     | nil => simp only [List.drop_nil, List.take_nil]; exact .lstN
    | gone hi e o => simp only [idOf, Option.some.injEq] at hi; subst hi; rw [h1] at e; cases e
   | _ => exact h2.elim
  ·cases hw
 | .fn f a c, w, x, hv, hw, is, hs => by
  simp only [view] at hw
  split at hw
  ·rename_i a' c' h1 h2
   cases hw
   cases hv with
   | fn e1 e2 e3 e4 =>
    have g1 := views_VR hX hr ⟨e1, e2⟩ h1 (is := is) fun i hi => hs i (by simp [owns, hi])
    have g2 := views_VR hX hr ⟨e3, e4⟩ h2 (is := is) fun i hi => hs i (by simp [owns, hi])
    exact .fn g1.1 g1.2 g2.1 g2.2
   | gone hi _ _ => simp [idOf] at hi
  ·cases hw
 | .agg cs, w, x, hv, hw, is, hs => by
  simp only [view, Option.map_eq_some_iff] at hw
  obtain ⟨cs', h1, rfl⟩ := hw
  cases hv with
  | agg e1 e2 => have g1 := views_VR hX hr ⟨e1, e2⟩ h1 (is := is) fun i hi => hs i (by simp [owns, hi]); exact .agg g1.1 g1.2
  | gone hi _ _ => simp [idOf] at hi
 | .tup cs, w, x, hv, hw, is, hs => by
  simp only [view, Option.map_eq_some_iff] at hw
  obtain ⟨cs', h1, rfl⟩ := hw
  cases hv with
  | tup e1 e2 => have g1 := views_VR hX hr ⟨e1, e2⟩ h1 (is := is) fun i hi => hs i (by simp [owns, hi]); exact .tup g1.1 g1.2
  | gone hi _ _ => simp [idOf] at hi
 | .bool b, w, x, hv, hw, is, hs => by simp only [view, Option.some.injEq] at hw; subst hw; exact (hv.mono fun b hb => .inl hb).clos hX rfl
 | .lit b, w, x, hv, hw, is, hs => by
  simp only [view, Option.some.injEq] at hw; subst hw
  cases hv with
  | lit => exact .bool _
  | gone hi _ _ => simp [idOf] at hi
 | .int k n, w, x, hv, hw, is, hs => by simp only [view, Option.some.injEq] at hw; subst hw; exact (hv.mono fun b hb => .inl hb).clos hX rfl
 | .str b, w, x, hv, hw, is, hs => by simp only [view, Option.some.injEq] at hw; subst hw; exact (hv.mono fun b hb => .inl hb).clos hX rfl
 | .nil b, w, x, hv, hw, is, hs => by simp only [view, Option.some.injEq] at hw; subst hw; exact (hv.mono fun b hb => .inl hb).clos hX rfl
 | .lst t l f, w, x, hv, hw, is, hs => by simp only [view, Option.some.injEq] at hw; subst hw; exact (hv.mono fun b hb => .inl hb).clos hX rfl
 | .ptr _ _ _, w, x, hv, hw, is, hs => by simp [view] at hw
 | .slc _ _ _ _ _ _, w, x, hv, hw, is, hs => by simp [view] at hw
 | .map _, w, x, hv, hw, is, hs => by simp [view] at hw
 | .yld _, w, x, hv, hw, is, hs => by simp [view] at hw
 | .el _ _ _, w, x, hv, hw, is, hs => by simp [view] at hw
 | .row _ _ _, w, x, hv, hw, is, hs => by simp [view] at hw
theorem views_VR (hX : CodOk X P) (hr : HR X P A m H h) : ∀ {vs ws : List (PV X.Γ)} {xs : List TV}, VRs X P (AA A m) m h vs xs → views H vs = some ws → ∀ {is : List Nat}, (∀ i, i ∈ owns.ownss vs → i ∈ is) → VRs X P (FA A m is) m' h ws xs
 | [], ws, xs, hv, hw, is, hs => by simp only [view.views, Option.some.injEq] at hw; subst hw; rw [hv.inv0]; exact .nil
 | v :: vs, ws, xs, hv, hw, is, hs => by
  obtain ⟨x, r, rfl, h1, h2⟩ := hv.inv
  simp only [view.views] at hw
  split at hw
  ·rename_i w ws' g1 g2
   cases hw
   exact .cons (view_VR hX hr h1 g1 fun i hi => hs i (by simp [owns.ownss, hi])) (views_VR hX hr h2 g2 fun i hi => hs i (by simp [owns.ownss, hi]))
  ·cases hw
end
end
end Pv
namespace Pv
open Go Tw
section
variable {X : Cod} {P : Program} {A B F : Nat → Prop} {m m' : List MB} {h h' : List HB} {H H' : List (PB X.Γ)}
theorem decE_VR (hX : CodOk X P) (hr : HR X P A m H h) {t : Nat} {cs : List (PV X.Γ)} {xs : List TV} (hv : VRs X P (AA A m) m h cs xs) {a : X.Γ t} {is : List Nat} (hd : decE X H t cs = some (a, is)) : VRs X P (FA A m is) m' h (X.enc t a) xs := by
 unfold decE at hd
 split at hd
 ·rename_i vs h1
  split at hd
  ·rename_i b h2
   simp only [Option.some.injEq, Prod.mk.injEq] at hd
   obtain ⟨rfl, rfl⟩ := hd
   exact hX.dec h2 (views_VR hX hr hv h1 fun i hi => hi)
  ·cases hd
 ·cases hd
theorem decRows_VR (hX : CodOk X P) (hr : HR X P A m H h) {t sz : Nat} : ∀ {n : Nat} {cs : List (PV X.Γ)} {xs : List TV}, VRs X P (AA A m) m h cs xs → ∀ {l : List (X.Γ t)} {is : List Nat}, decRows X H t sz n cs = some (l, is) → l.length = n ∧ RowsR X P (FA A m is) m' h t l xs 0 sz
 | 0, cs, xs, hv, l, is, hd => by
  simp only [decRows, Option.some.injEq, Prod.mk.injEq] at hd
  obtain ⟨rfl, rfl⟩ := hd
  exact ⟨rfl, fun j a hj => by simp at hj, by simp, fun j a i c v hj => by simp at hj⟩
 | n + 1, cs, xs, hv, l, is, hd => by
  simp only [decRows] at hd
  split at hd
  ·rename_i hsz
   split at hd
   ·rename_i a js l' ks h1 h2
    simp only [Option.some.injEq, Prod.mk.injEq] at hd
    obtain ⟨rfl, rfl⟩ := hd
    have g1 := (decE_VR (m' := m') hX hr (hv.take sz) h1).mono fun b hb => FA.mono (js := js ++ ks) (fun i hi => List.mem_append_left _ hi) hb
    obtain ⟨e2, g2⟩ := decRows_VR hX hr (hv.drop sz) h2
    have g2 := g2.mono fun b hb => FA.mono (js := js ++ ks) (fun i hi => List.mem_append_right _ hi) hb
    have hl : (X.enc t a).length = sz := by rw [g1.1, List.length_take, ← hv.1]; omega
    refine ⟨by simp [e2], fun j b hj => ?_, ?_, fun j b i c v hj hi hx => ?_⟩
    ·cases j with
     | zero => simp only [List.getElem?_cons_zero, Option.some.injEq] at hj; subst hj; exact hl
     | succ j => exact g2.1 j b (by simpa using hj)
    ·have := g2.2.1
     rw [List.length_drop] at this
     have h3 := hv.1
     simp only [List.length_cons, Nat.add_mul]; omega
    ·cases j with
     | zero =>
      simp only [List.getElem?_cons_zero, Option.some.injEq] at hj; subst hj
      have hlt : i < sz := by rw [← hl]; exact (List.getElem?_eq_some_iff.1 hi).1
      refine g1.2 i c v hi ?_
      rw [List.getElem?_take, if_pos hlt, ← hx]; simp
     | succ j =>
      refine g2.2.2 j b i c v (by simpa using hj) hi ?_
      rw [List.getElem?_drop, ← hx]; congr 1; rw [Nat.add_mul]; omega
   ·cases hd
  ·cases hd
def SlR (X : Cod) (P : Program) (F : Nat → Prop) (m : List MB) (h : List HB) (t sz : Nat) (l : List (X.Γ t)) (x : TV) : Prop :=
 (x = .nil .slc ∧ l = []) ∨ ∃ b off cap ex cs, x = .slc b off l.length cap sz ex ∧ l.length ≤ cap ∧ blkCells h b = some cs ∧ (l ≠ [] → blkLim h b (off + cap * sz) = some cs) ∧ RowsR X P F m h t l cs off sz
theorem lst_SlR {t sz : Nat} {l : List (X.Γ t)} {fu : Bool} {x : TV} (hv : VR X P F m h (.lst t l fu) x) (hz : sizeT P t = some sz) : SlR X P F m h t sz l x := by
 cases hv with
 | lstN => exact .inl ⟨rfl, rfl⟩
 | lst a c c2 s z o k f e r =>
  rw [hz] at s; cases s
  exact .inr ⟨_, _, _, _, _, rfl, k, c, c2, e, o, r⟩
 | gone hi _ _ => simp [idOf] at hi
theorem lr_SlR {k ex : Bool} {t sz : Nat} {l : List (X.Γ t)} {x : TV} (hv : LR X P F m h k ex t l x) (hz : sizeT P t = some sz) : SlR X P F m h t sz l x := by
 cases hv with
 | nil => exact .inl ⟨rfl, rfl⟩
 | emp h0 h1 h2 h3 h4 =>
  rw [hz] at h3; cases h3
  exact .inr ⟨_, _, _, _, _, rfl, Nat.le_refl _, h1, fun e => absurd rfl e, fun j a hj => by simp at hj, by simpa using h2, fun j a i c v hj => by simp at hj⟩
 | some h1 h2 h3 h4 h5 h6 h7 h8 h9 =>
  rw [hz] at h2; cases h2
  exact .inr ⟨_, _, _, _, _, rfl, Nat.le_refl _, by unfold blkCells; rw [h4], fun _ => blkLim_end h4 (by omega), h9⟩
theorem RowsR.part {t sz : Nat} {l : List (X.Γ t)} {cs : List TV} {off o n : Nat} (hv : RowsR X P F m h t l cs off sz) (hn : o + n ≤ l.length) : RowsR X P F m h t ((l.drop o).take n) cs (off + o * sz) sz := by
 have hlen : ((l.drop o).take n).length = n := by rw [List.length_take, List.length_drop]; omega
 refine ⟨fun j y hy => ?_, ?_, fun j y i c v hy h2 h3 => ?_⟩
 ·rw [List.getElem?_take] at hy
  split at hy
  ·rw [List.getElem?_drop] at hy; exact hv.1 _ _ hy
  ·cases hy
 ·have := hv.2.1
  have h2 : (o + n) * sz ≤ l.length * sz := Nat.mul_le_mul_right sz hn
  rw [hlen]; rw [Nat.add_mul] at h2; omega
 ·rw [List.getElem?_take] at hy
  split at hy
  ·rw [List.getElem?_drop] at hy
   refine hv.2.2 _ y i c v hy h2 ?_
   rw [← h3]; congr 1; rw [Nat.add_mul]; omega
  ·cases hy
theorem RowsR.take {t sz : Nat} {l : List (X.Γ t)} {cs : List TV} {off : Nat} (hv : RowsR X P F m h t l cs off sz) : RowsR X P F m h t l ((cs.drop off).take (l.length * sz)) 0 sz := by
 refine ⟨hv.1, ?_, fun j a i c v h1 h2 h3 => ?_⟩
 ·have := hv.2.1; rw [List.length_take, List.length_drop]; omega
 ·rw [List.getElem?_take] at h3
  split at h3
  ·rw [List.getElem?_drop] at h3
   exact hv.2.2 j a i c v h1 h2 (by rw [← h3]; congr 1; omega)
  ·cases h3
theorem SlR.src {t sz : Nat} {l : List (X.Γ t)} {x : TV} (hv : SlR X P F m h t sz l x) : ∃ new, srcCells sz h x = some (l.length, new) ∧ new.length = l.length * sz ∧ RowsR X P F m h t l new 0 sz := by
 rcases hv with ⟨rfl, rfl⟩ | ⟨b, off, cap, ex, cs, rfl, hk, hc, hc2, hw⟩
 ·exact ⟨[], rfl, by simp, fun j a hj => by simp at hj, by simp, fun j a i c v hj => by simp at hj⟩
 ·refine ⟨(cs.drop off).take (l.length * sz), ?_, ?_, hw.take⟩
  ·have := hw.2.1
   simp only [srcCells, if_true, sub]
   by_cases h0 : l.length = 0
   ·rw [if_pos h0, h0]; simp
   ·rw [if_neg h0, hc2 (fun e => h0 (by rw [e]; rfl))]
    simp only
    rw [if_pos this]; rfl
  ·have := hw.2.1; rw [List.length_take, List.length_drop]; omega
theorem RowsR.app {t sz : Nat} {l r : List (X.Γ t)} {a b : List TV} (h1 : RowsR X P F m h t l a 0 sz) (h2 : RowsR X P F m h t r b 0 sz) (ha : a.length = l.length * sz) : RowsR X P F m h t (l ++ r) (a ++ b) 0 sz := by
 refine ⟨fun j y hy => ?_, ?_, fun j y i c v hy hi hx => ?_⟩
 ·rcases Nat.lt_or_ge j l.length with hl | hl
  ·rw [List.getElem?_append_left hl] at hy; exact h1.1 j y hy
  ·rw [List.getElem?_append_right hl] at hy; exact h2.1 _ y hy
 ·have := h2.2.1; simp only [List.length_append, Nat.add_mul]; omega
 ·rcases Nat.lt_or_ge j l.length with hl | hl
  ·rw [List.getElem?_append_left hl] at hy
   have hlt : i < sz := by rw [← h1.1 j y hy]; exact (List.getElem?_eq_some_iff.1 hi).1
   have : (j + 1) * sz ≤ l.length * sz := Nat.mul_le_mul_right sz hl
   rw [Nat.add_mul] at this
   rw [List.getElem?_append_left (by omega)] at hx
   exact h1.2.2 j y i c v hy hi hx
  ·rw [List.getElem?_append_right hl] at hy
   have : l.length * sz ≤ j * sz := Nat.mul_le_mul_right sz hl
   rw [List.getElem?_append_right (by omega)] at hx
   refine h2.2.2 _ y i c v hy hi ?_
   rw [← hx]; congr 1; rw [ha, Nat.sub_mul]; omega
theorem castL_eq {Γ : Nat → Type} {t t' : Nat} {l : List (Γ t')} {r : List (Γ t)} (h : castL t t' l = some r) : ∃ e : t' = t, r = e ▸ l := by
 unfold castL at h
 split at h
 ·rename_i e; cases h; exact ⟨e, rfl⟩
 ·cases h
theorem srcP_VR (hX : CodOk X P) (hr : HR X P A m H h) {e sz : Nat} {x : PV X.Γ} {tx : TV} (hv : VR X P (AA A m) m h x tx) (hz : sizeT P e = some sz) {rows : List (X.Γ e)} {is : List Nat} (hs : srcP X H e sz x = some (rows, is)) :
  ∃ new, srcCells sz h tx = some (rows.length, new) ∧ new.length = rows.length * sz ∧ RowsR X P (FA A m is) m' h e rows new 0 sz := by
 have up : ∀ {l : List (X.Γ e)} {y : TV}, SlR X P (AA A m) m h e sz l y → ∃ new, srcCells sz h y = some (l.length, new) ∧ new.length = l.length * sz ∧ RowsR X P (FA A m []) m' h e l new 0 sz := by
  intro l y hy
  obtain ⟨new, h1, h2, h3⟩ := hy.src
  exact ⟨new, h1, h2, (h3.mono fun b hb => .inl hb).clos hX⟩
 cases x with
 | nil k =>
  cases k <;> simp only [srcP] at hs <;> try (cases hs; done)
  simp only [Option.some.injEq, Prod.mk.injEq] at hs
  obtain ⟨rfl, rfl⟩ := hs
  cases hv with
  | nil => exact up (.inl ⟨rfl, rfl⟩)
  | gone hi _ _ => simp [idOf] at hi
 | lst t l fu =>
  simp only [srcP, Option.map_eq_some_iff, Prod.mk.injEq] at hs
  obtain ⟨r, h1, rfl, rfl⟩ := hs
  obtain ⟨rfl, rfl⟩ := castL_eq h1
  exact up (lst_SlR hv hz)
 | own i =>
  simp only [srcP] at hs
  split at hs
  ·rename_i k ex t l hH
   simp only [Option.map_eq_some_iff, Prod.mk.injEq] at hs
   obtain ⟨r, h1, rfl, rfl⟩ := hs
   obtain ⟨rfl, rfl⟩ := castL_eq h1
   obtain ⟨mb, g1, g2⟩ := hr.at_ i _ hH
   cases mb with
   | lst y =>
    cases hv with
    | own e' o => rw [g1] at e'; cases e'; exact up (lr_SlR g2 hz)
    | gone hi e' o => simp only [idOf, Option.some.injEq] at hi; subst hi; rw [g1] at e'; cases e'
   | _ => exact g2.elim
  ·cases hs
 | win i o n =>
  simp only [srcP] at hs
  split at hs
  ·rename_i k ex t l hH
   simp only [Option.map_eq_some_iff, Prod.mk.injEq] at hs
   obtain ⟨r, h1, rfl, rfl⟩ := hs
   obtain ⟨rfl, rfl⟩ := castL_eq h1
   obtain ⟨mb, g1, g2⟩ := hr.at_ i _ hH
   cases mb with
   | lst y =>
    have hsl := lr_SlR g2 hz
    cases hv with
    | win e' q q' q2 =>
     rw [g1] at e'; cases e'
     rcases hsl with ⟨h, _⟩ | ⟨b, off, cap, ex', cs, he, hk, hc, hc2, hw⟩
     ·cases h
     ·cases he
      have hlen : n = ((r.drop o).take n).length := by rw [List.length_take, List.length_drop]; omega
      refine up (.inr ⟨_, _, _, _, cs, congrArg (fun k => TV.slc _ _ k _ _ _) hlen, hlen ▸ q', hc, fun hne => ?_, hw.part q⟩)
      have h1 : n ≠ 0 := fun e => hne (by subst e; simp)
      have h2 := q2.resolve_left h1
      rw [← hc2 (fun e => hne (by rw [e]; simp)), ← h2]
      congr 1
      rw [Nat.add_mul]; omega
    | winN e' =>
     rw [g1] at e'; cases e'
     refine up (.inl ⟨rfl, by simp⟩)
    | gone hi e' o => simp only [idOf, Option.some.injEq] at hi; subst hi; rw [g1] at e'; cases e'
   | _ => exact g2.elim
  ·cases hs
 | slc b off len cap sz' ex =>
  simp only [srcP] at hs
  split at hs
  ·rename_i cs hH
   split at hs
   ·rename_i hsz
    obtain ⟨hsz, hoff⟩ := hsz
    subst hsz
    obtain ⟨mb, g1, g2⟩ := hr.at_ b _ hH
    cases mb with
    | blk c =>
     obtain ⟨cs', g3, g4⟩ := g2
     cases hv with
     | slc e' =>
      rw [g1] at e'; cases e'
      obtain ⟨hl, hw⟩ := decRows_VR (m' := m') hX hr (g4.drop off) hs
      subst hl
      rw [g4.1] at hoff
      refine ⟨(cs'.drop off).take (rows.length * sz'), ?_, by rw [List.length_take, List.length_drop]; omega, by simpa using hw.take⟩
      simp only [srcCells, if_true, blkLim_own g3 (by simp), sub]
      split
      ·rename_i h0; rw [h0, Nat.zero_mul, List.take_zero]
      ·simp only [hoff, if_true, Option.map_some]
     | gone hi e' o => simp only [idOf, Option.some.injEq] at hi; subst hi; rw [g1] at e'; cases e'
    | _ => exact g2.elim
   ·cases hs
  ·cases hs
 | _ => simp [srcP] at hs
end
end Pv
namespace Pv
open Go Tw
def Own (m : List MB) (i b : Nat) : Prop := ∃ mb, m[i]? = some mb ∧ mb.own = some b
structure IR (m : List MB) (h : List HB) (p : PI) (t : Inf) : Prop where
 all : t.all = true → p.i.all = true
 tl : ∀ k, .l k ∈ t.ts → .l k ∈ p.i.ts
 wl : ∀ k, .l k ∈ t.ws → .l k ∈ p.i.ws
 wh : ∀ b, .h b ∈ t.ws → (∃ i, .h i ∈ p.i.ws ∧ Own m i b) ∨ (p.wall = true ∧ b ∈ blks m)
 th : ∀ b, .h b ∈ t.ts → ((∃ i, .h i ∈ p.i.ts ∧ Own m i b) ∨ b ∉ blks m) ∧ b < h.length
 hp : p.hp = false → t.all = false ∧ (∀ b, .h b ∉ t.ts) ∧ ∀ b, .h b ∉ t.ws
theorem IR.none {m : List MB} {h : List HB} {p : PI} : IR m h p noInf := ⟨fun h => (by cases h), fun _ h => (by cases h), fun _ h => (by cases h), fun _ h => (by cases h), fun _ h => (by cases h), fun _ => ⟨rfl, fun _ h => (by cases h), fun _ h => (by cases h)⟩⟩
section
variable {X : Cod} {P : Program} {A F : Nat → Prop} {m m' : List MB} {h h' : List HB} {H H' : List (PB X.Γ)}
structure StR (X : Cod) (P : Program) (A : Nat → Prop) (m : List MB) (ps : PSt X.Γ) (ts : St) : Prop where
 heap : HR X P A m ps.heap ts.heap
 llen : ps.loc.length = ts.loc.length
 loc : ∀ (k : Nat) cs, ps.loc[k]? = some cs → ∃ cs', ts.loc[k]? = some cs' ∧ VRs X P (AA A m) m ts.heap cs cs'
 env : EnvR X P (AA A m) m ts.heap ps.env ts.env
theorem StR.step {ps : PSt X.Γ} {ts : St} (hR : StR X P A m ps ts) {H1 : List (PB X.Γ)} {h1 : List HB} (hr : HR X P A m' H1 h1) (hF : Fr m ts.heap m' h1) (hU : Up m m') : StR X P A m' { ps with heap := H1 } { ts with heap := h1 } :=
 ⟨hr, hR.llen, fun k cs hk => let ⟨cs', g1, g2⟩ := hR.loc k cs hk; ⟨cs', g1, g2.step hF hU⟩, hR.env.step hF hU⟩
def OpR (X : Cod) (P : Program) (A : Nat → Prop) (m : List MB) (call : CallT) (site : Nat → Bool) (ts : St) (o : Oper) (pe : PE X.Γ) (ps1 : PSt X.Γ) (pi : PI) : Prop :=
 ∃ ev ts1 ti m1, opT P call site ts o = some (ev, ts1, ti) ∧ ts1.env = ts.env ∧ ts1.ws = ts.ws ∧ StR X P A m1 ps1 ts1 ∧ PER X P (AA A m1) m1 ts1.heap pe ev ∧ Fr m ts.heap m1 ts1.heap ∧ Up m m1 ∧ IR m ts.heap pi ti ∧ ∀ b, .h b ∈ ti.ws → b ∈ blks m
theorem opR_pure {call : CallT} {site : Nat → Bool} {ps : PSt X.Γ} {ts : St} {o : Oper} {pe : PE X.Γ} {ev : EV} {pi : PI} (hR : StR X P A m ps ts) (h : opT P call site ts o = some (ev, ts, noInf)) (hp : PER X P (AA A m) m ts.heap pe ev) : OpR X P A m call site ts o pe ps pi :=
 ⟨ev, ts, noInf, m, h, rfl, rfl, hR, hp, .refl, .refl, .none, fun b hb => by cases hb⟩
theorem StR.know {ps : PSt X.Γ} {ts : St} (hR : StR X P A m ps ts) {x : Operand} {b : Bool} (hb : tvO ts.env x = some (.bool b)) : StR X P A m (ps.know x b) ts := by
 cases x with
 | tmp t =>
  refine ⟨hR.heap, hR.llen, hR.loc, know_VR hR.env ?_⟩
  simp only [tvO, evO] at hb
  split at hb
  ·rename_i v hv; cases hb; exact hv
  ·cases hb
 | _ => exact hR
theorem newBox_ok {ps : PSt X.Γ} {ts : St} (hR : StR X P A m ps ts) {site : Bool} {cs : List (PV X.Γ)} {cs' : List TV} (hc : VRs X P (AA A m) m ts.heap cs cs') :
  ∃ m1, (newBox site ts cs').2.env = ts.env ∧ (newBox site ts cs').2.ws = ts.ws ∧ StR X P A m1 (pnewBox site ps cs).2 (newBox site ts cs').2 ∧ PER X P (AA A m1) m1 (newBox site ts cs').2.heap (pnewBox site ps cs).1 (newBox site ts cs').1 ∧ Fr m ts.heap m1 (newBox site ts cs').2.heap ∧ Up m m1 := by
 cases site with
 | true =>
  have hp := hR.heap.push (pb := .cells cs) (hb := .cells .own cs') (mb := .blk ts.heap.length) (.inl rfl) ?_
  ·refine ⟨m ++ [.blk ts.heap.length], rfl, rfl, hR.step hp.1 hp.2.1 hp.2.2, ?_, hp.2.1, hp.2.2⟩
   show VR X P _ _ _ (.ptr ps.heap.length 0 cs.length) (.ptr ts.heap.length 0 cs'.length)
   rw [hc.1]
   exact .ptr (by rw [← hR.heap.len]; simp)
  ·refine ⟨cs', by simp, hc.step ?_ (up_app _)⟩
   refine ⟨by simp, fun b hb _ => by rw [List.getElem?_append_left hb], fun b hb => ?_, fun b cs hc => ⟨cs, by rw [blkCells_same (List.getElem?_append_left (blkCells_lt hc)), hc], Nat.le_refl _⟩⟩
   rw [blks_app, List.mem_append, blks_one] at hb
   rcases hb with hb | hb
   ·exact .inl hb
   ·simp [MB.own] at hb; exact .inr (by omega)
 | false =>
  refine ⟨m, rfl, rfl, ⟨hR.heap, by simp [pnewBox, newBox, hR.llen], fun k ds hk => ?_, hR.env⟩, ?_, .refl, .refl⟩
  ·simp only [pnewBox, newBox, Bool.false_eq_true, if_false] at hk ⊢
   rcases Nat.lt_or_ge k ps.loc.length with hl | hl
   ·rw [List.getElem?_append_left hl] at hk
    obtain ⟨ds', g1, g2⟩ := hR.loc k ds hk
    exact ⟨ds', by rw [List.getElem?_append_left (by rw [← hR.llen]; exact hl)]; exact g1, g2⟩
   ·rw [List.getElem?_append_right hl] at hk
    have : k - ps.loc.length = 0 := by
     rcases Nat.eq_zero_or_pos (k - ps.loc.length) with e | e
     ·exact e
     ·rw [List.getElem?_eq_none (by simp; omega)] at hk; cases hk
    rw [this] at hk
    simp only [List.getElem?_cons_zero, Option.some.injEq] at hk; subst hk
    exact ⟨cs', by rw [List.getElem?_append_right (by rw [← hR.llen]; exact hl), ← hR.llen, this]; rfl, hc⟩
  ·exact ⟨hR.llen, rfl⟩
theorem own_of {i : Nat} {mb : MB} {b : Nat} (h1 : m[i]? = some mb) (h2 : mb.own = some b) : Own m i b := ⟨mb, h1, h2⟩
theorem own_in {i b : Nat} (h : Own m i b) : b ∈ blks m := let ⟨_, h1, h2⟩ := h; own_mem h1 h2
theorem IR.rdH {i b : Nat} (h0 : Own m i b) (hl : b < h.length) : IR m h ⟨rdK (.h i), false, false, true⟩ (rdK (.h b)) :=
 ⟨fun h => (by cases h), fun k hk => (by simp [rdK] at hk), fun k hk => (by simp [rdK] at hk), fun b hb => (by simp [rdK] at hb), fun c hc => (by simp [rdK] at hc; subst hc; exact ⟨.inl ⟨i, by simp [rdK], h0⟩, hl⟩), fun h => (by cases h)⟩
theorem IR.wrH {i b : Nat} (h0 : Own m i b) (hl : b < h.length) : IR m h ⟨wrK (.h i), false, false, true⟩ (wrK (.h b)) :=
 ⟨fun h => (by cases h), fun k hk => (by simp [wrK] at hk), fun k hk => (by simp [wrK] at hk), fun c hc => (by simp [wrK] at hc; subst hc; exact .inl ⟨i, by simp [wrK], h0⟩), fun c hc => (by simp [wrK] at hc; subst hc; exact ⟨.inl ⟨i, by simp [wrK], h0⟩, hl⟩), fun h => (by cases h)⟩
theorem IR.loc {k : Nat} : IR m h ⟨rdK (.l k), false, false, false⟩ (rdK (.l k)) :=
 ⟨fun h => (by cases h), fun j hj => by simpa [rdK] using hj, fun k hk => (by simp [rdK] at hk), fun b hb => (by simp [rdK] at hb), fun c hc => (by simp [rdK] at hc), fun _ => ⟨rfl, fun b hb => (by simp [rdK] at hb), fun b hb => (by simp [rdK] at hb)⟩⟩
theorem IR.wloc {k : Nat} : IR m h ⟨wrK (.l k), false, false, false⟩ (wrK (.l k)) :=
 ⟨fun h => (by cases h), fun j hj => by simpa [wrK] using hj, fun j hj => by simpa [wrK] using hj, fun c hc => (by simp [wrK] at hc), fun c hc => (by simp [wrK] at hc), fun _ => ⟨rfl, fun b hb => (by simp [wrK] at hb), fun b hb => (by simp [wrK] at hb)⟩⟩
theorem part_row {t : TypeId} {cs : List TV} {o sz off n : Nat} {x : TV} (ho : o + sz ≤ cs.length) (hp : partT P t ((cs.drop o).take sz) off = some x) (hn : sizeT P t = some n) : partT P t cs (o + off) = some x ∧ off + n ≤ sz ∧ o + off + n ≤ cs.length := by
 unfold partT at hp ⊢
 split at hp
 ·rename_i k ha hk
  rw [hn] at hk; cases hk
  simp only [Option.map_eq_some_iff] at hp
  obtain ⟨r, h1, rfl⟩ := hp
  unfold sub at h1
  split at h1
  ·rename_i hl
   rw [List.length_take, List.length_drop] at hl
   refine ⟨?_, by omega, by omega⟩
   cases h1
   simp only [ha, hn, sub]
   rw [if_pos (by omega)]
   simp only [Option.map_some, Option.some.injEq, TV.agg.injEq]
   rw [List.drop_take, List.drop_drop, List.take_take, Nat.min_eq_left (by omega)]
  ·cases h1
 ·rename_i k ha hk
  rw [hn] at hk; cases hk
  split at hp
  ·rename_i h1
   subst h1
   rw [List.getElem?_take] at hp
   split at hp
   ·rename_i h2
    rw [List.getElem?_drop] at hp
    have := (List.getElem?_eq_some_iff.1 hp).1
    refine ⟨by simp only [ha, hn, if_true]; exact hp, by omega, by omega⟩
   ·cases hp
  ·cases hp
 ·cases hp
theorem part_size {t : TypeId} {cs : List TV} {off : Nat} {x : TV} (hp : partT P t cs off = some x) : ∃ n, sizeT P t = some n := by
 unfold partT at hp
 split at hp
 ·rename_i n _ hn; exact ⟨n, hn⟩
 ·rename_i n _ hn; exact ⟨n, hn⟩
 ·cases hp
theorem RowsR.row {t sz : Nat} {l : List (X.Γ t)} {cs : List TV} {off j : Nat} {a : X.Γ t} (hw : RowsR X P F m h t l cs off sz) (hj : l[j]? = some a) : VRs X P F m h (X.enc t a) ((cs.drop (off + j * sz)).take sz) ∧ off + j * sz + sz ≤ cs.length := by
 have hlen := hw.1 j a hj
 have hlt : j < l.length := (List.getElem?_eq_some_iff.1 hj).1
 have h2 : (j + 1) * sz ≤ l.length * sz := Nat.mul_le_mul_right sz hlt
 have h3 := hw.2.1
 rw [Nat.add_mul] at h2
 refine ⟨⟨by rw [hlen, List.length_take, List.length_drop]; omega, fun i c v hc hv => ?_⟩, by omega⟩
 rw [List.getElem?_take] at hv
 split at hv
 ·rw [List.getElem?_drop] at hv
  exact hw.2.2 j a i c v hj hc hv
 ·cases hv
theorem getD_at {t : Nat} {l : List (X.Γ t)} {j : Nat} (hj : j < l.length) : l[j]? = some (l.getD j (X.d0 t)) := by
 rw [List.getD_eq_getElem?_getD, List.getElem?_eq_getElem hj]; rfl
theorem load_ok (hX : CodOk X P) {ps : PSt X.Γ} {ts : St} (hR : StR X P A m ps ts) {t : TypeId} {pa : PE X.Γ} {ea : EV} (ha : PER X P (AA A m) m ts.heap pa ea) {v : PV X.Γ} {pi : Inf} (hl : ploadT X P t ps pa = some (v, pi)) :
  ∃ x ti, loadT P t ts ea = some (x, ti) ∧ VR X P (AA A m) m ts.heap v x ∧ IR m ts.heap ⟨pi, false, false, !isLocP pa⟩ ti ∧ ti.ws = [] := by
 cases pa with
 | loc k off =>
  rw [per_loc ha]
  simp only [ploadT] at hl
  split at hl
  ·rename_i cs hk
   simp only [Option.map_eq_some_iff, Prod.mk.injEq] at hl
   obtain ⟨w, h1, rfl, rfl⟩ := hl
   obtain ⟨cs', g1, g2⟩ := hR.loc k cs hk
   obtain ⟨x, g3, g4⟩ := part_VR g2 h1
   exact ⟨x, rdK (.l k), by simp only [loadT, g1, g3, Option.map_some], g4, .loc, rfl⟩
  ·cases hl
 | undef => simp [ploadT] at hl
 | val a =>
  obtain ⟨y, rfl, hy⟩ := per_val ha
  cases a with
  | ptr b off lim =>
   simp only [ploadT] at hl
   split at hl
   ·rename_i cs n hb hn
    split at hl
    ·rename_i hlim
     simp only [Option.map_eq_some_iff, Prod.mk.injEq] at hl
     obtain ⟨w, h1, rfl, rfl⟩ := hl
     obtain ⟨mb, g1, g2⟩ := hR.heap.at_ b _ hb
     cases mb with
     | blk c =>
      obtain ⟨cs', g3, g4⟩ := g2
      cases hy with
      | ptr e =>
       rw [g1] at e; cases e
       obtain ⟨x, g5, g6⟩ := part_VR g4 h1
       refine ⟨x, rdK (.h c), ?_, g6, .rdH (own_of g1 rfl) (List.getElem?_eq_some_iff.1 g3).1, rfl⟩
       simp only [loadT, blkLim_own g3 (show BK.own ≠ .last by simp), hn, hlim, if_true, g5, Option.map_some]
      | gone hi e _ => simp only [idOf, Option.some.injEq] at hi; subst hi; rw [g1] at e; cases e
     | _ => exact g2.elim
    ·cases hl
   ·rename_i cs n hb hn
    split at hl
    ·rename_i hlim
     simp only [Option.map_eq_some_iff, Prod.mk.injEq] at hl
     obtain ⟨w, h1, rfl, rfl⟩ := hl
     obtain ⟨mb, g1, g2⟩ := hR.heap.at_ b _ hb
     cases mb with
     | rblk c =>
      obtain ⟨g0, cs', g3, g4⟩ := g2
      cases hy with
      | ptr e => rw [g1] at e; cases e
      | gone hi e _ =>
       simp only [idOf, Option.some.injEq] at hi; subst hi; rw [g1] at e
       cases e with
       | r _ e =>
        simp only [roV, Option.some.injEq] at e; subst e
        obtain ⟨x, g5, g6⟩ := part_VR g4 h1
        refine ⟨x, rdK (.h c), ?_, g6, ⟨fun h => (by cases h), fun k hk => (by simp [rdK] at hk), fun k hk => (by simp [rdK] at hk), fun b hb => (by simp [rdK] at hb), fun d hd => ?_, fun h => (by cases h)⟩, rfl⟩
        ·simp only [loadT, blkLim_own g3 (show BK.own ≠ .last by simp), hn, hlim, if_true, g5, Option.map_some]
        ·simp [rdK] at hd; subst hd; exact ⟨.inr g0, (List.getElem?_eq_some_iff.1 g3).1⟩
     | _ => exact g2.elim
    ·cases hl
   ·cases hl
  | row b j off =>
   simp only [ploadT] at hl
   split at hl
   ·rename_i k ex e l hb
    simp only [Option.map_eq_some_iff, Prod.mk.injEq] at hl
    obtain ⟨w, h1, rfl, rfl⟩ := hl
    obtain ⟨mb, g1, g2⟩ := hR.heap.at_ b _ hb
    cases mb with
    | lst z =>
     cases hy with
     | row e' hj hq =>
      rw [g1] at e'; cases e'
      cases (g2 : LR X P _ _ _ _ _ _ _ _) with
      | emp => omega
      | some q1 q2 q3 q4 q5 q6 q7 q8 q9 =>
       have hrow := q9.row (getD_at hj)
       obtain ⟨x, g5, g6⟩ := part_VR hrow.1 h1
       obtain ⟨n, hn⟩ := part_size g5
       obtain ⟨g7, g8, _⟩ := part_row hrow.2 g5 hn
       rw [Nat.zero_add] at g7
       refine ⟨x, rdK (.h _), ?_, g6, .rdH (own_of g1 (by simp only [MB.own]; rw [if_neg (by simpa using q1)])) (List.getElem?_eq_some_iff.1 q4).1, rfl⟩
       have hj2 := hrow.2
       simp only [loadT, blkLim_end q4 q8.symm, hn]
       rw [if_pos (by omega), g7]; rfl
     | gone hi e' _ => simp only [idOf, Option.some.injEq] at hi; subst hi; rw [g1] at e'; cases e'
    | _ => exact g2.elim
   ·cases hl
  | el e a off =>
   simp only [ploadT, Option.map_eq_some_iff, Prod.mk.injEq] at hl
   obtain ⟨w, h1, rfl, rfl⟩ := hl
   cases hy with
   | el q1 q2 q2' q3 q4 q5 q6 =>
    rename_i b o sz lim cs
    have hrow : VRs X P (AA A m) m ts.heap (X.enc e a) ((cs.drop o).take sz) := by
     refine ⟨by rw [q4, List.length_take, List.length_drop]; omega, fun i c v hc hv => ?_⟩
     rw [List.getElem?_take] at hv
     split at hv
     ·rw [List.getElem?_drop] at hv; exact q6 i c v hc hv
     ·cases hv
    obtain ⟨x, g5, g6⟩ := part_VR hrow h1
    obtain ⟨n, hn⟩ := part_size g5
    obtain ⟨g7, g8, _⟩ := part_row q3 g5 hn
    refine ⟨x, rdK (.h b), ?_, g6, ⟨fun h => (by cases h), fun k hk => (by simp [rdK] at hk), fun k hk => (by simp [rdK] at hk), fun b hb => (by simp [rdK] at hb), fun c hc => ?_, fun h => (by cases h)⟩, rfl⟩
    ·simp only [loadT, q2, hn]
     rw [if_pos (by omega), g7]; rfl
    ·simp [rdK] at hc; subst hc; exact ⟨.inr q1.2, blkLim_lt q2⟩
   | gone hi e' _ => simp [idOf] at hi
  | _ => simp [ploadT] at hl
end
end Pv
