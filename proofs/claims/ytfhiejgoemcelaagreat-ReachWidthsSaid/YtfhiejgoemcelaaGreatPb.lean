/- Part 2 of a proof: For every input, the function of the statement ReachWidths hands back true: the bits of the reaches are those of the reference, or the error is. -/
import Derived.Laws.StructEq
import Derived.Test.YtfhiejgoemcelaaGreatProg
import Derived.KernelRfl
import Derived.Test.YtfhiejgoemcelaaGreatPa
set_option linter.unusedVariables false
set_option linter.unusedSimpArgs false
set_option linter.unusedSectionVars false
namespace Tw
open Go
section
variable {P : Program} {call : CallT} {site : Nat → Bool} {nt : Nat} {ops : Array Oper} {M0 : Mp} {h0 : List HB} {w0 : World} {S : Nat → St} {I : Nat → Inf}
variable {D : Nat → Prop} {M : Mp} {a : Act} {w : World} {i : Nat} {oi : Oper}
theorem Inv.alloc_none (hZ : Sched P call site nt ops M0 h0 w0 S I) (h : Inv nt ops M0 h0 w0 S I D M a w) {j : Nat} {o : Oper} (hj : ops[j]? = some o) (hd : ¬ D j) {k : Key} (h1 : (S j).get k = none) (h2 : ((S (j + 1)).get k).isSome = true) : M k = none := by
  cases hm : M k with
  | none => rfl
  | some l =>
    obtain ⟨τ, ht, hg, b, h3, _⟩ := h.mem k l hm
    have hlj : j < ops.size := (Array.getElem?_eq_some_iff.1 hj).1
    by_cases hle : τ ≤ j
    · have := hZ.mono hle (by omega) (k := k) (by simp [h3])
      simp [h1] at this
    · exact absurd (hg.2.1 j (by omega) ⟨o, hj, .inr ⟨h1, h2⟩⟩) hd
theorem Inv.noconf (hZ : Sched P call site nt ops M0 h0 w0 S I) (h : Inv nt ops M0 h0 w0 S I D M a w) (hi : ops[i]? = some oi) (hnd : ¬ D i) (hw : Waits D oi) {k : Key} {l : Lc} (hk : M k = some l)
    (hs : ((S i).get k).isSome = true) (ht : touches (I i) k) : ∀ j, Wk ops S I k j → ¬ Conf D i j := by
  intro j hwk hc
  have hlj := hwk.lt
  obtain ⟨oj, hj, h1 | ⟨h1, h2⟩⟩ := hwk
  · exact (h.conf hZ hi hj hnd hw hc).1 k h1 ht
  · rcases hc with ⟨hlt, hd⟩ | ⟨hlt, hd⟩
    · have := h.alloc_none hZ hj hd h1 h2
      rw [hk] at this; cases this
    · have := hZ.mono (k := k) (Nat.le_of_lt hlt) (by omega) hs
      simp [h1] at this
theorem Inv.cur (hZ : Sched P call site nt ops M0 h0 w0 S I) (h : Inv nt ops M0 h0 w0 S I D M a w) (hi : ops[i]? = some oi) (hnd : ¬ D i) (hw : Waits D oi) {k : Key} {l : Lc} (hk : M k = some l)
    (hs : ((S i).get k).isSome = true) (ht : touches (I i) k) : ∃ b, (S i).get k = some b ∧ okBlk (resM M (S i).get).h w b l ∧ (wr b = true → ∀ k' l', k ≠ k' → M k' = some l' → ∀ c ∈ cblocks l, c ∉ cblocks l') := by
  have hli : i < ops.size := (Array.getElem?_eq_some_iff.1 hi).1
  obtain ⟨τ, hτ, hg, b, h1, h2, h3⟩ := h.mem k l hk
  obtain ⟨g1, g2⟩ := hg.le hnd (h.noconf hZ hi hnd hw hk hs ht)
  refine ⟨b, ?_, h2.mono (resM_mle (.refl M) fun k' hk' => hZ.mono g1 (by omega) hk').h fun _ _ => rfl, h3⟩
  rw [hZ.const g1 (by omega) g2, h1]
theorem Inv.slot_at (hZ : Sched P call site nt ops M0 h0 w0 S I) (h : Inv nt ops M0 h0 w0 S I D M a w) (hi : ops[i]? = some oi) (hnd : ¬ D i) (hw : Waits D oi) {t : Nat} (ht : t ∈ oi.looksAt ops) {e : EV}
    (he : lookE t (S i).env = some e) : ER (resM M (S i).get) e (a.tmps.getD t Go.undef) := by
  have hli : i < ops.size := (Array.getElem?_eq_some_iff.1 hi).1
  obtain ⟨τ, hτ, hg, h1⟩ := h.slot t
  obtain ⟨g1, g2⟩ := hg.le hnd fun j hwt hc => by
    obtain ⟨oj, hj, hd⟩ := hwt
    exact (Oper.apart_spec (h.conf hZ hi hj hnd hw hc).2.2.1).1 t hd ht
  rw [hZ.constT g1 (by omega) g2] at he
  exact (h1 e he).mono (resM_mle (.refl M) fun k' hk' => hZ.mono g1 (by omega) hk') fun k l hk => by
    obtain ⟨x1, x2⟩ := resM_some hk
    exact resM_of (hZ.mono g1 (by omega) x1) x2
def plusM (M' M : Mp) : Mp := fun k => match M' k with
  | some l => some l
  | none => M k
theorem inv_step (hC : CallOk P call) (hZ : Sched P call site nt ops M0 h0 w0 S I) (h : Inv nt ops M0 h0 w0 S I D M a w) (hi : ops[i]? = some oi) (hnd : ¬ D i) (hw : Waits D oi)
    {r : Option Nat} {n : Nat} {Q : Exit → Act → World → Prop} {K : Act → World → Prop} (hK : ∀ M' a' w', Inv nt ops M0 h0 w0 S I (fun j => D j ∨ j = i) M' a' w' → a'.defers = a.defers → K a' w') :
    wpOpIn (wideAt r) n P ops Q i K a w := by
  have hli : i < ops.size := (Array.getElem?_eq_some_iff.1 hi).1
  have hS := hZ.step i oi hi
  have hV : Valid (resM M (S i).get) (touches (I i)) (S i).get w := by
    refine ⟨fun k l hk ht => ?_, fun k k' l l' b hne hk hk' ht hb hwr => ?_, fun k l hk => h.inb k l (resM_some hk).2⟩
    · obtain ⟨x1, x2⟩ := resM_some hk
      obtain ⟨b, h1, h2, _⟩ := h.cur hZ hi hnd hw x2 x1 ht
      exact ⟨b, h1, h2⟩
    · obtain ⟨x1, x2⟩ := resM_some hk
      obtain ⟨b', h1, _, h3⟩ := h.cur hZ hi hnd hw x2 x1 ht
      rw [hb] at h1; cases h1
      exact h3 hwr k' l' hne (resM_some hk').2
  have hnh : resM M (S i).get (.h (S i).heap.length) = none := by simp [resM, St.get]
  have hnl : resM M (S i).get (.l (S i).loc.length) = none := by simp [resM, St.get]
  have hloc : ∀ j l, resM M (S i).get (.l j) = some l → ∀ k' l', Key.l j ≠ k' → resM M (S i).get k' = some l' → ∀ c ∈ cblocks l, c ∉ cblocks l' := by
    intro j l hj k' l' hne hk'
    obtain ⟨τ, _, _, b, h1, _, h3⟩ := h.mem _ _ (resM_some hj).2
    refine h3 ?_ k' l' hne (resM_some hk').2
    simp only [St.get, Option.map_eq_some_iff] at h1
    obtain ⟨_, _, rfl⟩ := h1
    rfl
  have hE : EnvOn (resM M (S i).get) (S i).env a oi.op.operands := by
    intro x hx e he
    cases x with
    | tmp t => exact h.slot_at hZ hi hnd hw (List.mem_append_left _ (List.mem_filterMap.2 ⟨.tmp t, by simpa using hx, rfl⟩)) he
    | const v =>
      simp only [evO, Option.map_eq_some_iff] at he
      obtain ⟨t, h1, rfl⟩ := he
      exact .val (.of_ofV h1)
    | func f =>
      simp only [evO, Option.some.injEq] at he; subst he
      exact .val (VR.fn (xs := []) (ys := []) rfl (by simp) rfl (by simp))
    | global g => simp [evO] at he
  have hG : GuardOn (resM M (S i).get) (S i).env a.tmps ops oi := by
    intro j want d hg hd e he
    exact h.slot_at hZ hi hnd hw (List.mem_append_right _ (by simp [hg, hd])) he
  refine (step_ok hC hS hV hnh hnl hloc hE hG fun _ ht _ => ht).2 r n Q i K hi fun x w' hst => ?_
  obtain ⟨v, M', he, hp⟩ := hst
  have hX := hp.ext
  have F1 : ∀ k l, M' k = some l → ((S (i + 1)).get k).isSome = true := by
    intro k l hk
    cases hc : (S (i + 1)).get k with
    | some b => rfl
    | none =>
      have hn : k ∉ (I i).ws := fun hin => by
        have := hX.has k (hX.wsub k hin)
        simp [hc] at this
      have := hX.keepM k (.inr hc) hn
      rw [hk] at this
      have := hX.has k (resM_some this.symm).1
      simp [hc] at this
  have F5 : ∀ k l l', M k = some l → M' k = some l' → ((S i).get k).isSome = true := by
    intro k l l' hk hk'
    cases hc : (S i).get k with
    | some b => rfl
    | none =>
      have := h.alloc_none hZ hi hnd hc (F1 k l' hk')
      rw [hk] at this; cases this
  have F4 : Mle M (plusM M' M) := by
    intro k l hk
    cases hm : M' k with
    | none => exact ⟨l, by simp [plusM, hm, hk], .refl l⟩
    | some l' =>
      obtain ⟨l'', h1, h2⟩ := hX.mle k l (resM_of (F5 k l l' hk hm) hk)
      exact ⟨l'', by simp [plusM, h1], h2⟩
  have F2 : ∀ k, ¬ Wk ops S I k i → plusM M' M k = M k := by
    intro k hn
    cases hm : M' k with
    | none => simp [plusM, hm]
    | some l' =>
      cases hc : (S i).get k with
      | none =>
        exact absurd ⟨oi, hi, .inr ⟨hc, F1 k l' hm⟩⟩ hn
      | some b =>
        have h1 := hX.keepM k (.inl (by simp [hc])) fun hin => hn ⟨oi, hi, .inl hin⟩
        rw [hm] at h1
        simp only [plusM, hm, (resM_some h1.symm).2]
  have F6 : Mle M' (resM (plusM M' M) (S (i + 1)).get) := fun k l hk => ⟨l, resM_of (F1 k l hk) (by simp [plusM, hk]), .refl l⟩
  have F7 : ∀ k l, M (.l k) = some l → plusM M' M (.l k) = some l := by
    intro k l hk
    cases hm : M' (.l k) with
    | none => simp [plusM, hm, hk]
    | some l' =>
      have := hp.loc k l (resM_of (F5 _ l l' hk hm) hk)
      simp [plusM, this]
  have hcurW : ∀ k ∈ (I i).ws, ∀ l, M k = some l → ∀ k' l', k ≠ k' → M k' = some l' → ∀ c ∈ cblocks l, c ∉ cblocks l' := by
    intro k hk l hl
    have hs := hX.wsub k hk
    obtain ⟨b, h1, _, h3⟩ := h.cur hZ hi hnd hw hl hs (.inr (.inl hk))
    exact h3 ((hX.wrote k hk).2 b h1)
  have hWM : ∀ k l, Wk ops S I k i → plusM M' M k = some l → M' k = some l ∧ (touches (I i) k ∨ ((S i).get k = none ∧ ((S (i + 1)).get k).isSome = true)) := by
    intro k l hW hk
    obtain ⟨o, ho, h1 | ⟨h1, h2⟩⟩ := hW
    · obtain ⟨l0, hl0⟩ := Option.isSome_iff_exists.1 (hX.wrote k h1).1
      obtain ⟨l', h2, _⟩ := hX.mle k l0 hl0
      simp only [plusM, h2] at hk
      exact ⟨h2.trans hk, .inl (.inr (.inl h1))⟩
    · have := h.alloc_none hZ hi hnd h1 h2
      cases hm : M' k with
      | none => simp [plusM, hm, this] at hk
      | some l' => simp only [plusM, hm] at hk; exact ⟨hk, .inr ⟨h1, h2⟩⟩
  have hncW : ∀ k, Wk ops S I k i → ∀ j, Wk ops S I k j → ¬ Conf D i j := by
    intro k hW
    obtain ⟨o, ho, h1 | ⟨h1, h2⟩⟩ := hW
    · obtain ⟨l0, hl0⟩ := Option.isSome_iff_exists.1 (hX.wrote k h1).1
      exact h.noconf hZ hi hnd hw (resM_some hl0).2 (hX.wsub k h1) (.inr (.inl h1))
    · intro j hwk hc
      have hlj := hwk.lt
      obtain ⟨oj, hj, g1 | ⟨g1, g2⟩⟩ := hwk
      · have hsj := hZ.wsub hj g1
        rcases hc with ⟨hlt, hd⟩ | ⟨hlt, hd⟩
        · have := hZ.mono (k := k) (Nat.le_of_lt hlt) (by omega) hsj
          simp [h1] at this
        · have := h.wdone j oj k hj hd g1
          rw [h.alloc_none hZ hi hnd h1 h2] at this
          cases this
      · rcases hc with ⟨hlt, hd⟩ | ⟨hlt, hd⟩
        · have := hZ.mono (k := k) (i := j + 1) (j := i) hlt (by omega) g2
          simp [h1] at this
        · have := hZ.mono (k := k) (i := i + 1) (j := j) hlt (by omega) h2
          simp [g1] at this
  refine hK (plusM M' M) _ w' ?_ defers_put
  refine
    { closed := fun j o ho hd e hm hb => ?_
      size := by rw [size_put]; exact h.size
      mem := fun k l hk => ?_
      inb := fun k l hk c hc => ?_
      slot := fun t => ?_
      wdone := fun j o k ho hd hk => ?_
      mle := h.mle.trans F4
      frame := fun c hc hf => ?_
      keepM := fun k hk hn => ?_
      fresh := fun k l hk c hc hlt => ?_
      hsize := Nat.le_trans h.hsize hX.size
      os := hX.os.trans h.os
      output := hX.output.trans h.output
      tape := hX.tape.trans h.tape
      marks := fun d hd => by
        rw [defers_put] at hd
        obtain ⟨k, r, h1, h2, h3, h4, h5⟩ := h.marks d hd
        obtain ⟨l', g1, g2⟩ := F4 _ _ h3
        have hl : l' = .obj r := by
          cases l' with
          | cells ls => exact g2.elim
          | obj r' => cases g2; rfl
        refine ⟨k, r, h1, h2, by rw [g1, hl], h4, ?_⟩
        rw [hX.frame r (Array.getElem?_eq_some_iff.1 h5).1 fun k' hk' l0 hl0 hc => ?_, h5]
        have hne : k' ≠ .h k := fun e => by
          have := (hX.wrote _ hk').2 _ (e ▸ h4 i (by omega))
          cases this
        exact hcurW k' hk' l0 (resM_some hl0).2 _ _ hne h3 r hc (by simp [cblocks])
      apart := by rw [defers_put]; exact h.apart }
  · rcases hd with hd | rfl
    · exact .inl (h.closed j o ho hd e hm hb)
    · rw [hi] at ho; cases ho
      exact .inl (hw e hm hb)
  · by_cases hW : Wk ops S I k i
    · obtain ⟨hm, hD⟩ := hWM k l hW hk
      obtain ⟨b, h1, h2⟩ := hp.val.ok k l hm hD
      refine ⟨i + 1, by omega, Good.next hW (hncW k hW), b, h1, h2.mono F6.h fun _ _ => rfl, fun hwr k' l' hne hk' => ?_⟩
      cases hm' : M' k' with
      | some l'' =>
        simp only [plusM, hm'] at hk'
        cases hk'
        exact hp.val.own k k' l l' b hne hm hm' hD h1 hwr
      | none =>
        simp only [plusM, hm'] at hk'
        intro c hc hc'
        obtain ⟨l0, g1, g2⟩ := hX.fresh k l hm c hc (h.inb k' l' hk' c hc')
        obtain ⟨g3, g4⟩ := resM_some g1
        obtain ⟨o, ho, g5 | ⟨g5, _⟩⟩ := hW
        · exact hcurW k g5 l0 g4 k' l' hne hk' c g2 hc'
        · simp [g5] at g3
    · rw [F2 k hW] at hk
      obtain ⟨τ, hτ, hg, b, h1, h2, h3⟩ := h.mem k l hk
      refine ⟨τ, hτ, hg.other hW, b, h1, h2.mono (resM_mle F4 fun _ hs => hs).h fun c hc => ?_, fun hwr k' l' hne hk' => ?_⟩
      · refine hX.frame c (h.inb k l hk c hc) fun k'' hk'' l'' hl'' hc'' => ?_
        have hne : k'' ≠ k := fun e => hW ⟨oi, hi, .inl (e ▸ hk'')⟩
        exact hcurW k'' hk'' l'' (resM_some hl'').2 k l hne hk c hc'' hc
      · cases hm' : M' k' with
        | some l'' =>
          simp only [plusM, hm'] at hk'
          cases hk'
          intro c hc hc'
          obtain ⟨l0, g1, g2⟩ := hX.fresh k' l' hm' c hc' (h.inb k l hk c hc)
          exact h3 hwr k' l0 hne (resM_some g1).2 c hc g2
        | none =>
          simp only [plusM, hm'] at hk'
          exact h3 hwr k' l' hne hk'
  · cases hm : M' k with
    | some l' =>
      simp only [plusM, hm] at hk
      cases hk
      exact hp.val.inb k l hm c hc
    | none =>
      simp only [plusM, hm] at hk
      exact Nat.lt_of_lt_of_le (h.inb k l hk c hc) hX.size
  · by_cases hT : oi.dst = some t
    · refine ⟨i + 1, by omega, Good.next (W := Wt ops t) ⟨oi, hi, hT⟩ (fun j hwt hc => ?_), fun e hl => ?_⟩
      · obtain ⟨oj, hj, hd⟩ := hwt
        exact (Oper.apart_spec (h.conf hZ hi hj hnd hw hc).2.2.2).2.1 t hT hd
      · rw [he, lookE_put, if_pos hT] at hl
        cases hl
        have h1 := hS.dst hT
        have h2 := h.size
        rw [getD_put, if_pos ⟨hT, by omega⟩]
        exact hp.er.mono F6 fun k l hk => resM_of (F1 _ l hk) (by simp [plusM, hk])
    · obtain ⟨τ, hτ, hg, h1⟩ := h.slot t
      refine ⟨τ, hτ, hg.other fun ⟨o, ho, hd⟩ => ?_, fun e hl => ?_⟩
      · rw [hi] at ho; cases ho; exact hT hd
      · rw [getD_put, if_neg fun hh => hT hh.1]
        refine (h1 e hl).mono (resM_mle F4 fun _ hs => hs) fun k l hk => ?_
        obtain ⟨g1, g2⟩ := resM_some hk
        exact resM_of g1 (F7 k l g2)
  · have hM : ∀ k, (M k).isSome = true → (plusM M' M k).isSome = true := by
      intro k hk
      obtain ⟨l, hl⟩ := Option.isSome_iff_exists.1 hk
      obtain ⟨l', h1, _⟩ := F4 k l hl
      simp [h1]
    rcases hd with hd | rfl
    · exact hM k (h.wdone j o k ho hd hk)
    · obtain ⟨l0, hl0⟩ := Option.isSome_iff_exists.1 (hX.wrote k hk).1
      exact hM k (by simp [(resM_some hl0).2])
  · rw [← h.frame c hc hf]
    refine hX.frame c (Nat.lt_of_lt_of_le hc h.hsize) fun k hk l hl hcl => ?_
    obtain ⟨l0, h1, h2⟩ := h.fresh k l (resM_some hl).2 c hcl hc
    exact hf k (hZ.ws_in hi hk (hZ.base.val.has h1)) l0 h1 h2
  · rw [← h.keepM k hk hn]
    refine F2 k fun hW => ?_
    obtain ⟨o, ho, h1 | ⟨h1, h2⟩⟩ := hW
    · rcases hk with hk | hk
      · exact hn (hZ.ws_in hi h1 hk)
      · have := hZ.mono (k := k) (i := i) (Nat.le_of_lt hli) (Nat.le_refl _) (hX.wsub k h1)
        simp [hk] at this
    · rcases hk with hk | hk
      · have := hZ.old (Nat.le_of_lt hli) hk
        simp [h1] at this
      · have := hZ.mono (k := k) (i := i + 1) hli (Nat.le_refl _) h2
        simp [hk] at this
  · cases hm : M' k with
    | some l' =>
      simp only [plusM, hm] at hk
      cases hk
      obtain ⟨l0, h1, h2⟩ := hX.fresh k l hm c hc (Nat.lt_of_lt_of_le hlt h.hsize)
      exact h.fresh k l0 (resM_some h1).2 c h2 hlt
    | none =>
      simp only [plusM, hm] at hk
      exact h.fresh k l hk c hc hlt
def und (listed : Array Bool) : Nat → Nat
  | 0 => 0
  | k + 1 => und listed k + if listed.getD k false = true then 0 else 1
theorem und_le (listed : Array Bool) : ∀ k, und listed k ≤ k
  | 0 => Nat.le_refl _
  | k + 1 => by have := und_le listed k; simp only [und]; split <;> omega
theorem und_zero {listed : Array Bool} : ∀ {k : Nat}, und listed k = 0 → ∀ j, j < k → listed.getD j false = true
  | 0, _, j, hj => by omega
  | k + 1, h, j, hj => by
    simp only [und] at h
    by_cases he : j = k
    · subst he
      split at h
      · assumption
      · omega
    · exact und_zero (k := k) (by omega) j (by omega)
theorem getD_set {listed : Array Bool} {i : Nat} (hi : i < listed.size) (j : Nat) : (listed.setIfInBounds i true).getD j false = if j = i then true else listed.getD j false := by
  simp only [Array.getD_eq_getD_getElem?, Array.getElem?_setIfInBounds]
  by_cases h : i = j
  · subst h; simp [hi]
  · simp [h, Ne.symm h]
theorem und_set {listed : Array Bool} {i : Nat} (hi : i < listed.size) (hn : listed.getD i false = false) : ∀ k, und (listed.setIfInBounds i true) k + (if i < k then 1 else 0) = und listed k
  | 0 => by simp [und]
  | k + 1 => by
    have ih := und_set hi hn k
    simp only [und, getD_set hi]
    by_cases he : k = i
    · subst he
      simp only [if_true, hn]
      simp at ih ⊢
      omega
    · simp only [he, if_false]
      by_cases hlt : i < k
      · rw [if_pos hlt] at ih
        rw [if_pos (by omega : i < k + 1)]
        omega
      · rw [if_neg hlt] at ih
        rw [if_neg (by omega : ¬ i < k + 1)]
        omega
theorem ready_spec {listed : Array Bool} (hsz : listed.size = ops.size) {i : Nat} : i ∈ Region.ready .any ops listed ↔ ∃ o, ops[i]? = some o ∧ listed.getD i false = false ∧ Waits (fun j => listed.getD j false = true) o := by
  simp only [Region.ready, List.mem_filter, List.mem_range, Bool.and_eq_true]
  constructor
  · rintro ⟨h1, h2, h3⟩
    refine ⟨ops[i], Array.getElem?_eq_getElem h1, ?_, ?_⟩
    · have hl : i < listed.size := by omega
      simp only [Array.getD, hl, dite_true] at h2 ⊢
      simpa using h2
    · intro e he hb
      rw [Array.getElem?_eq_getElem h1] at h3
      simp only [Option.map_some, Option.getD_some, Array.all_eq_true_iff_forall_mem] at h3
      have := h3 e he
      simpa [hb] using this
  · rintro ⟨o, ho, h2, h3⟩
    have h1 : i < ops.size := (Array.getElem?_eq_some_iff.1 ho).1
    refine ⟨h1, ?_, ?_⟩
    · have hl : i < listed.size := by omega
      simp only [Array.getD, hl, dite_true] at h2 ⊢
      simpa using h2
    · rw [ho]
      simp only [Option.map_some, Option.getD_some, Array.all_eq_true_iff_forall_mem]
      intro e he
      cases hb : Region.binds .any e with
      | false => rfl
      | true => simpa using h3 e he hb
theorem any_ok (hC : CallOk P call) (hZ : Sched P call site nt ops M0 h0 w0 S I) {r : Option Nat} {n : Nat} {Q : Exit → Act → World → Prop} {ds : List Deferred}
    (hQ : ∀ M' a' w', Rel M0 h0 w0 nt M' (S ops.size) a' w' → a'.defers = ds → Q .normal a' w') : ∀ (fuel : Nat) (listed : Array Bool) (M : Mp) (a : Act) (w : World), listed.size = ops.size →
    Inv nt ops M0 h0 w0 S I (fun j => listed.getD j false = true) M a w → und listed ops.size ≤ fuel → a.defers = ds → wpAnyIn (wideAt r) n P .any ops Q fuel listed a w := by
  intro fuel
  have hall : ∀ (listed : Array Bool), listed.size = ops.size → Region.ready .any ops listed = [] → ∀ j, j < ops.size → listed.getD j false = true := by
    intro listed hsz hr j
    induction j using Nat.strongRecOn with
    | _ j ih =>
      intro hj
      cases hd : listed.getD j false with
      | true => rfl
      | false =>
        have : j ∈ Region.ready .any ops listed := (ready_spec hsz).2 ⟨ops[j], Array.getElem?_eq_getElem hj, hd, fun e he hb => by
          have hlt := static_acyc hZ.stat (i := j) (o := ops[j]) (by simp) he hb
          exact ih e.on hlt (by omega)⟩
        rw [hr] at this; cases this
  induction fuel with
  | zero =>
    intro listed M a w hsz hI hu hd
    have hz := und_zero (Nat.le_zero.1 hu)
    refine ⟨?_, hQ M a w (inv_end hZ hI hz) hd⟩
    refine List.eq_nil_iff_forall_not_mem.2 fun i hi => ?_
    obtain ⟨o, ho, h1, _⟩ := (ready_spec hsz).1 hi
    rw [hz i (Array.getElem?_eq_some_iff.1 ho).1] at h1
    cases h1
  | succ fuel ih =>
    intro listed M a w hsz hI hu hd
    refine ⟨fun hr => hQ M a w (inv_end hZ hI (hall listed hsz hr)) hd, fun i hi => ?_⟩
    obtain ⟨o, ho, h1, h2⟩ := (ready_spec hsz).1 hi
    have hli : i < ops.size := (Array.getElem?_eq_some_iff.1 ho).1
    refine inv_step hC hZ hI ho (by simp [h1]) h2 fun M' a' w' hI' hd' => ih _ M' a' w' (by simp [hsz]) ?_ ?_ (hd'.trans hd)
    · have : (fun j => (listed.setIfInBounds i true).getD j false = true) = fun j => listed.getD j false = true ∨ j = i := by
        funext j
        rw [getD_set (by omega)]
        by_cases he : j = i
        · simp [he]
        · simp [he]
      rw [this]; exact hI'
    · have := und_set (listed := listed) (i := i) (by omega) h1 ops.size
      rw [if_pos hli] at this
      omega
theorem drawReg_ok (hC : CallOk P call) (hB : Base M0 h0 w0) (hm : P.follows .mixedOrders = true) {r : Option Nat} {n : Nat} {Q : Exit → Act → World → Prop} {id : Nat} {s s' : St} {is : List Inf} {M : Mp} {a : Act} {w : World}
    (h : runOps P call site h0.length nt ops ops.toList s = some (s', is)) (hs : staticOk ops.toList = true) (hd : dynOk is (hotPairs ops.toList) = true) (hR : Rel M0 h0 w0 nt M s a w)
    (hQ : ∀ M' a' w', Rel M0 h0 w0 nt M' s' a' w' → a'.defers = a.defers → Q .normal a' w') : (Code.region id ops true).wpIn (wideAt r) n P Q a w := by
  obtain ⟨S, I, e1, e2, hZ⟩ := sched_of hC hB h hR hs hd
  refine wpIn_region_any hm ?_
  have hR' : Rel M0 h0 w0 nt M (S 0) a { w with drawn := w.drawn + 1 } := by
    rw [e1]
    exact ⟨hR.val.of_heap rfl, hR.ext.drew rfl rfl rfl rfl, hR.env, hR.size, hR.marks, hR.apart⟩
  refine any_ok hC hZ (ds := a.defers) (fun M' a' w' hr hd => hQ M' a' w' (by rw [e2] at hr; exact hr) hd) ops.size _ M a _ (by simp) ?_ (und_le _ _) rfl
  have : (fun j => (Array.replicate ops.size false).getD j false = true) = fun _ => False := by
    funext j
    simp only [Array.getD_eq_getD_getElem?, Array.getElem?_replicate]
    split <;> simp
  rw [this]
  exact inv_start hZ hR'
end
end Tw
namespace Tw
open Go
def exOf : Ex → Exit
  | .norm => .normal
  | .exit id => .exit id
  | .ret => .ret
theorem lookE_pick {t : Nat} {e : EV} {env : List (Nat × EV)} : ∀ {live : List Nat}, lookE t (pick live env) = some e → lookE t env = some e
  | [], h => by simp [pick, lookE] at h
  | x :: r, h => by
    simp only [pick] at h
    split at h
    · rename_i v hv
      simp only [lookE] at h
      split at h
      · rename_i hx; subst hx; rw [hv, h]
      · exact lookE_pick h
    · exact lookE_pick h
theorem top_lt {t k off : Nat} : ∀ {env : List (Nat × EV)}, lookE t env = some (.loc k off) → k < topL env
  | [], h => by simp [lookE] at h
  | (x, v) :: r, h => by
    simp only [lookE] at h
    split at h
    · cases h
      simp only [topL]; omega
    · have := top_lt h
      cases v <;> simp only [topL] <;> omega
section
variable {M0 : Mp} {h0 : List HB} {w0 : World} {nt : Nat} {M : Mp} {s : St} {a : Act} {w : World}
theorem Rel.pick (hR : Rel M0 h0 w0 nt M s a w) (live : List Nat) : Rel M0 h0 w0 nt M { s with env := Tw.pick live s.env } a w := by
  have hg : St.get { s with env := Tw.pick live s.env } = s.get := getEnv s _ _
  refine ⟨by rw [hg]; exact hR.val, by rw [hg]; exact hR.ext, fun t e h => hR.env t e (lookE_pick h), hR.size, ?_, hR.apart⟩
  rw [hg]; exact hR.marks
def topM (n : Nat) (M : Mp) : Mp
  | .h b => M (.h b)
  | .l j => if j < n then M (.l j) else none
theorem Rel.head (hB : Base M0 h0 w0) (hR : Rel M0 h0 w0 nt M s a w) (live : List Nat) : Rel M0 h0 w0 nt (topM (topL (Tw.pick live s.env)) M) (atHead live s) a w := by
  have hR := hR.pick live
  generalize he : Tw.pick live s.env = env at hR ⊢
  have hs : atHead live s = { s with env := env, loc := s.loc.take (topL env) } := by simp [atHead, he]
  rw [hs]
  have hsub : ∀ k l, topM (topL env) M k = some l → M k = some l := by
    intro k l h
    cases k with
    | h b => exact h
    | l j =>
      simp only [topM] at h
      split at h
      · exact h
      · cases h
  have hget : ∀ k l, topM (topL env) M k = some l → St.get { s with env := env, loc := s.loc.take (topL env) } k = St.get { s with env := env } k := by
    intro k l h
    cases k with
    | h b => rfl
    | l j =>
      simp only [topM] at h
      split at h
      · rename_i hj
        simp [St.get, hj]
      · cases h
  refine ⟨⟨?_, ?_, fun k l hk => hR.val.inb k l (hsub k l hk)⟩, ?_, ?_, hR.size, ?_, hR.apart⟩
  · intro k l hk _
    obtain ⟨b, h1, h2⟩ := hR.val.ok k l (hsub k l hk) trivial
    exact ⟨b, by rw [hget k l hk]; exact h1, h2⟩
  · intro k k' l l' b hne hk hk' _ hb hw
    rw [hget k l hk] at hb
    exact hR.val.own k k' l l' b hne (hsub k l hk) (hsub k' l' hk') trivial hb hw
  · have hX := hR.ext
    have hk : ∀ k, (ctH h0 k).isSome = true → ∃ b, k = .h b := fun k h => let ⟨b, e, _⟩ := ctH_some h; ⟨b, e⟩
    exact
      { mle := fun k l h => by
          cases k with
          | l j => rw [hB.loc j] at h; cases h
          | h b => exact hX.mle _ _ h
        frame := hX.frame
        keep := fun k h hn => by obtain ⟨b, rfl⟩ := hk k h; exact hX.keep _ h hn
        keepM := fun k h hn => by
          cases k with
          | h b => exact hX.keepM (.h b) h hn
          | l j =>
            rw [hB.loc j]
            simp only [topM]
            split
            · rename_i hj
              cases hm : M (.l j) with
              | none => rfl
              | some l =>
                have h1 := hR.val.has hm
                rcases h with h | h
                · obtain ⟨b, hb⟩ := hk _ h; cases hb
                · have := hget (.l j) l (by simp [topM, hj, hm])
                  rw [h] at this
                  rw [← this] at h1; cases h1
            · rfl
        fresh := fun k l h => hX.fresh k l (hsub k l h)
        size := hX.size
        has := fun k h => by obtain ⟨b, rfl⟩ := hk k h; exact hX.has _ h
        wsub := hX.wsub
        wrote := hX.wrote
        os := hX.os
        output := hX.output
        tape := hX.tape }
  · intro t e h
    have := hR.env t e h
    generalize a.tmps.getD t Go.undef = z at this
    cases this with
    | val hv => exact .val hv
    | undef => exact .undef
    | loc hm hb =>
      have hlt := top_lt (env := env) h
      exact .loc (by simp [topM, hlt, hm]) hb
  · intro d hd
    obtain ⟨k, r, h1, h2, h3, h4, h5⟩ := hR.marks d hd
    exact ⟨k, r, h1, h2, h3, h4, h5⟩
theorem push_ok (hV : Valid M allK s.get w) (b : HB) (o : Obj) (hok : okBlk (updM M (.h s.heap.length) (.obj w.heap.size)).h (w.alloc o) b (.obj w.heap.size)) :
    Valid (updM M (.h s.heap.length) (.obj w.heap.size)) allK (St.get { s with heap := s.heap ++ [b] }) (w.alloc o) ∧
    Ext M s.get w (updM M (.h s.heap.length) (.obj w.heap.size)) (St.get { s with heap := s.heap ++ [b] }) (w.alloc o) [] ∧ M (.h s.heap.length) = none := by
  have hget : s.get (.h s.heap.length) = none := by simp [St.get]
  have hnh : M (.h s.heap.length) = none := by
    cases h : M (.h s.heap.length) with
    | none => rfl
    | some l => have := hV.has h; simp [hget] at this
  have hle : Mle M (updM M (.h s.heap.length) (.obj w.heap.size)) := updM_le fun l0 h0 => by rw [hnh] at h0; cases h0
  have hframe : ∀ c, c < w.heap.size → c ∉ cblocks (.obj w.heap.size) → (w.alloc o).heap[c]? = w.heap[c]? := fun c hc _ => heap_alloc_old w _ c hc
  have hnew : ∀ c ∈ cblocks (.obj w.heap.size), (∃ l0, M (.h s.heap.length) = some l0 ∧ c ∈ cblocks l0) ∨ w.heap.size ≤ c := fun c hc => .inr (by simp [cblocks] at hc; omega)
  rw [get_push]
  exact ⟨hV.upd _ _ _ (fun j _ => .inl trivial) (fun l0 h0 => by rw [hnh] at h0; cases h0) hframe hnew (by simp) hok,
    Ext.upd _ _ _ [] (.inr ⟨hget, hnh, rfl⟩) hle hframe hnew (by simp) rfl rfl rfl, hnh⟩
theorem objset_ok (hV : Valid M allK s.get w) {k r : Nat} {b b' : HB} {o' : Obj} (hm : M (.h k) = some (.obj r)) (hb : s.heap[k]? = some b) (hw : wr b = true)
    (hok : okBlk M.h { w with heap := w.heap.setIfInBounds r o' } b' (.obj r)) :
    Valid M allK (St.get { s with heap := s.heap.set k b' }) { w with heap := w.heap.setIfInBounds r o' } ∧
    Ext M s.get w M (St.get { s with heap := s.heap.set k b' }) { w with heap := w.heap.setIfInBounds r o' } [.h k] := by
  have hg : s.get (.h k) = some b := by simp [St.get, hb]
  have hbl := (List.getElem?_eq_some_iff.1 hb).1
  have hself : updM M (.h k) (.obj r) = M := updM_self hm
  have hframe : ∀ c, c < w.heap.size → c ∉ cblocks (.obj r) → (w.heap.setIfInBounds r o')[c]? = w.heap[c]? := fun c _ hc => by
    rw [Array.getElem?_setIfInBounds, if_neg (by simp [cblocks] at hc; omega)]
  have hnew : ∀ c ∈ cblocks (.obj r), (∃ l0, M (.h k) = some l0 ∧ c ∈ cblocks l0) ∨ w.heap.size ≤ c := fun c hc => .inl ⟨_, hm, hc⟩
  rw [get_set s k _ hbl]
  constructor
  · have := hV.upd (D' := allK) (w' := { w with heap := w.heap.setIfInBounds r o' }) (.h k) b' (.obj r) (fun j hj => .inl hj) (fun l0 h0 => by
      rw [hm] at h0; cases h0
      exact ⟨trivial, .refl _, fun b0 hb0 => by rw [hg] at hb0; cases hb0; exact hw⟩) hframe hnew (by simp) (by rw [hself]; exact hok)
    rwa [hself] at this
  · have := Ext.upd (M := M) (C := s.get) (w := w) (w' := { w with heap := w.heap.setIfInBounds r o' }) (.h k) b' (.obj r) [.h k] (.inl ⟨by simp [hg], rfl, by simp [hm], fun b0 hb0 => by rw [hg] at hb0; cases hb0; exact hw⟩) (by rw [hself]; exact .refl _) hframe hnew (by simp) rfl rfl rfl
    rwa [hself] at this
theorem Rel.next (hB : Base M0 h0 w0) (hR : Rel M0 h0 w0 nt M s a w) {M' : Mp} {s' : St} {w' : World} {ks : List Key} (hV : Valid M' allK s'.get w') (hX : Ext M s.get w M' s'.get w' ks)
    (he : s'.env = s.env) (hws : s'.ws = addKs h0.length ks s.ws) (hl : ∀ k l, M (.l k) = some l → M' (.l k) = some l) : Rel M0 h0 w0 nt M' s' a w' := by
  refine ⟨hV, ?_, ?_, hR.size, marks_ext hR hX, hR.apart⟩
  · refine hR.ext.trans hX (fun k l hk => hB.val.has hk) (fun k hk hin => ?_) (fun k hk => ?_)
    · obtain ⟨b, rfl, hb⟩ := ctH_some hk
      rw [hws]
      refine List.mem_map.2 ⟨b, mem_addKs.2 ?_, rfl⟩
      rcases hin with h1 | h1
      · obtain ⟨b', h2, h3⟩ := List.mem_map.1 h1
        cases h3; exact .inl h2
      · exact .inr ⟨h1, hb⟩
    · rw [hws] at hk
      obtain ⟨b, hb, rfl⟩ := List.mem_map.1 hk
      rcases mem_addKs.1 hb with h1 | ⟨h1, h2⟩
      · have : Key.h b ∈ s.ws.map .h := List.mem_map.2 ⟨b, h1, rfl⟩
        exact ⟨hR.ext.wsub _ this, .inl this⟩
      · exact ⟨ctH_of h2, .inr h1⟩
  · rw [he]
    intro t e h
    exact (hR.env t e h).mono hX.mle hl
theorem Rel.long (hR : Rel M0 h0 w0 nt M s a w) : h0.length ≤ s.heap.length := by
  refine Nat.le_of_not_lt fun h => ?_
  have := hR.ext.has _ (ctH_of h)
  simp [St.get] at this
end
end Tw
namespace Tw
open Go
theorem least {J : Nat → Prop} (h : ∃ k, J k) : ∃ k, J k ∧ ∀ j, J j → k ≤ j := by
  obtain ⟨k, hk⟩ := h
  induction k using Nat.strongRecOn with
  | _ k ih =>
    by_cases hj : ∃ j, j < k ∧ J j
    · obtain ⟨j, h1, h2⟩ := hj
      exact ih j h1 h2
    · exact ⟨k, hk, fun j h => Nat.le_of_not_lt fun hlt => hj ⟨j, hlt, h⟩⟩
noncomputable def leastOf (J : Nat → Prop) : Nat := open Classical in if h : ∃ k, J k then Classical.choose (least h) else 0
theorem leastOf_spec {J : Nat → Prop} (h : ∃ k, J k) : J (leastOf J) ∧ ∀ j, J j → leastOf J ≤ j := by
  unfold leastOf
  rw [dif_pos h]
  exact Classical.choose_spec (least h)
section
variable {P : Program} {T : Tab} {call : CallT} {L f : Nat} {rnd : Bool} {nt : Nat} {M0 : Mp} {h0 : List HB} {w0 : World} {r : Option Nat}
def ExecOk (P : Program) (M0 : Mp) (h0 : List HB) (w0 : World) (nt : Nat) (r : Option Nat) (c : Code) (s : St) (e : Ex) (s' : St) : Prop :=
  ∀ (n : Nat) (Q : Exit → Act → World → Prop) (M : Mp) (a : Act) (w : World), Rel M0 h0 w0 nt M s a w → (∀ M' a' w', Rel M0 h0 w0 nt M' s' a' w' → Q (exOf e) a' w') → c.wpIn (wideAt r) n P Q a w
theorem loop_ok (hB : Base M0 h0 w0) {c : Code} {live : List Nat} {g : St → Option (Ex × St)} (ih : ∀ s e s', g s = some (e, s') → ExecOk P M0 h0 w0 nt r c (atHead live s) e s') {k : Nat} {s : St} {e : Ex} {s' : St}
    (h : iter g k s = some (e, s')) : ExecOk P M0 h0 w0 nt r (.loop c) s e s' := by
  intro n Q M a w hR hQ
  let J : Act → World → Nat → Prop := fun a w k => ∃ s M, iter g k s = some (e, s') ∧ Rel M0 h0 w0 nt M s a w
  refine wpIn_loop (fun a w => ∃ k, J a w k) (fun a w => leastOf (J a w)) ⟨k, s, M, h, hR⟩ ?_
  intro a1 w1 hI
  obtain ⟨⟨s1, M1, hit, hR1⟩, _⟩ := leastOf_spec hI
  generalize leastOf (J a1 w1) = k1 at hit ⊢
  cases k1 with
  | zero => simp [iter] at hit
  | succ k1 =>
    simp only [iter] at hit
    split at hit
    · rename_i s2 hg
      refine ih s1 .norm s2 hg n _ _ a1 w1 (hR1.head hB live) fun M2 a2 w2 hR2 => ?_
      have hJ : J a2 w2 k1 := ⟨s2, M2, hit, hR2⟩
      exact ⟨⟨k1, hJ⟩, Nat.lt_succ_of_le ((leastOf_spec ⟨k1, hJ⟩).2 k1 hJ)⟩
    · rename_i hne
      refine ih s1 e s' hit n _ _ a1 w1 (hR1.head hB live) fun M2 a2 w2 hR2 => ?_
      cases e with
      | norm => exact (hne s' hit).elim
      | exit id => exact hQ M2 a2 w2 hR2
      | ret => exact hQ M2 a2 w2 hR2
theorem all_isVal {env : List (Nat × EV)} (h : env.all isVal = true) {t : Nat} {e : EV} (hl : lookE t env = some e) : (∃ v, e = .val v) ∨ e = .undef := by
  induction env with
  | nil => simp [lookE] at hl
  | cons x r ih =>
    obtain ⟨k, v⟩ := x
    simp only [List.all_cons, Bool.and_eq_true] at h
    simp only [lookE] at hl
    split at hl
    · cases hl
      cases e with
      | val v => exact .inl ⟨v, rfl⟩
      | undef => exact .inr rfl
      | loc k off => simp [isVal] at h
    · exact ih h.2 hl
theorem range_ok (hC : CallOk P call) (hB : Base M0 h0 w0) {g : Operand} {ps : Array Tmp} {asg body : Code} {s s' : St} {e : Ex} {f1 : FuncId} {a1 b1 : List TV} {v : TV} {h : List HB} {ws : List Nat} {rd : Bool} {f2 nt2 : Nat} {e2 : List (Nat × EV)} {ps2 : List Nat} {a2 b2 : Code} {pend : Option Code}
    (hg : tvO s.env g = some (.fn f1 a1 b1)) (hv : s.env.all isVal = true) (hcall : call (.fn f1 a1 b1) [.yld (s.heap.length + 1)] (s.heap ++ [.mark, .loop true f nt s.env ps.toList asg body none]) = some (v, h, ws))
    (hh : h[s.heap.length + 1]? = some (.loop rd f2 nt2 e2 ps2 a2 b2 pend)) (hj : jumpT rd pend = some e)
    (hs : s' = { s with heap := h.set (s.heap.length + 1) (.loop false f2 nt2 e2 ps2 a2 b2 (some .skip)), ws := addKs h0.length (ws.map .h) s.ws }) :
    ExecOk P M0 h0 w0 nt none (.rangeFunc g ps asg body) s e s' := by
  intro n Q M a w hR hQ
  refine wpIn_rangeFunc fun fn _ => ?_
  let lp : Loop := { state := .ready, pending := none, fn := fn, tmps := a.tmps, params := ps, assign := asg, body := body, defers := w.heap.size }
  let w1 := (w.alloc (.deferred (some []))).alloc (.loop lp)
  obtain ⟨v1, x1, n1⟩ := push_ok hR.val .mark (.deferred (some [])) (show w.heap.size < (w.alloc _).heap.size by simp)
  let M1 := updM M (.h s.heap.length) (.obj w.heap.size)
  let s1 : St := { s with heap := s.heap ++ [.mark] }
  have hR1 : Rel M0 h0 w0 nt M1 s1 a (w.alloc (.deferred (some []))) := hR.next hB v1 x1 rfl rfl (updM_loc n1)
  have hlen1 : s1.heap.length = s.heap.length + 1 := by simp [s1]
  have hsz1 : (w.alloc (.deferred (some []))).heap.size = w.heap.size + 1 := by simp
  have hok2 : okBlk (updM M1 (.h s1.heap.length) (.obj (w.alloc (.deferred (some []))).heap.size)).h w1 (.loop true f nt s.env ps.toList asg body none) (.obj (w.alloc (.deferred (some []))).heap.size) := by
    refine ⟨lp, heap_alloc_new _ _, ?_⟩
    exact
      { ps := rfl, asg := rfl, body := rfl, size := hR.size
        envR := fun t v hl => by
          have h1 := (hR1.env t _ hl).inv_val
          have hm : Mle M1 (updM M1 (.h s1.heap.length) (.obj (w.alloc (.deferred (some []))).heap.size)) := updM_le fun l0 h0 => by
            rw [hR1.nh] at h0; cases h0
          exact h1.mono hm.h
        und := fun t hl => by
          have h1 := hR.env t _ hl
          show a.tmps.getD t Go.undef = Go.undef
          generalize a.tmps.getD t Go.undef = z at h1
          cases h1; rfl
        nol := fun t k o hl => by rcases all_isVal hv hl with ⟨v, e⟩ | e <;> cases e
        ready := fun _ => ⟨rfl, rfl⟩
        busy := by simp
        done := by simp }
  obtain ⟨v2, x2, n2⟩ := push_ok hR1.val (.loop true f nt s.env ps.toList asg body none) (.loop lp) hok2
  let M2 := updM M1 (.h s1.heap.length) (.obj (w.alloc (.deferred (some []))).heap.size)
  let s2 : St := { s1 with heap := s1.heap ++ [.loop true f nt s.env ps.toList asg body none] }
  have hR2a : Rel M0 h0 w0 nt M2 s2 a w1 := hR1.next hB v2 x2 rfl rfl (updM_loc n2)
  have hlong := hR.long
  have hmk : M2 (.h s.heap.length) = some (.obj w.heap.size) := by
    simp only [M2, M1, updM, hlen1]
    simp
  have hR2 : Rel M0 h0 w0 nt M2 s2 { a with defers := [{ target := .collected w.heap.size, args := #[] }] ++ a.defers } w1 := by
    refine ⟨hR2a.val, hR2a.ext, hR2a.env, hR2a.size, fun d hd => ?_, ?_⟩
    · rcases List.mem_cons.1 hd with rfl | hd
      · refine ⟨s.heap.length, w.heap.size, rfl, by simp [ctH, St.get]; omega, hmk, by simp [s2, s1, St.get], ?_⟩
        have e1 : w1.heap[w.heap.size]? = (w.alloc (.deferred (some []))).heap[w.heap.size]? := heap_alloc_old _ _ _ (by simp)
        rw [e1]
        exact heap_alloc_new _ _
      · exact hR2a.marks d hd
    · refine List.pairwise_cons.2 ⟨fun d hd e => ?_, hR2a.apart⟩
      obtain ⟨k, r', e1, _, _, _, e5⟩ := hR.marks d hd
      rw [e1] at e
      have : w.heap.size = r' := by injection e with e e'; injection e
      have := (Array.getElem?_eq_some_iff.1 e5).1
      omega
  have hl2 : M2 (.h (s.heap.length + 1)) = some (.obj (w.heap.size + 1)) := by
    simp only [M2, updM, hlen1, hsz1, if_true]
  have hs2h : s2.heap = s.heap ++ [.mark, .loop true f nt s.env ps.toList asg body none] := by simp [s2, s1]
  rw [← hs2h] at hcall
  have hV2 := only_valid hR2.val (fun _ _ _ => trivial)
  have hgx : VR M2.only.h (.fn f1 a1 b1) (a.eval g) := (tvO_ok hR2.env hg)
  have hyx : VRs M2.only.h [.yld (s.heap.length + 1)] [.func (.yield (w.heap.size + 1)) #[] #[]] := .cons (.yld hl2) .nil
  obtain ⟨d, hd, hcase⟩ := hC _ _ _ _ _ _ hcall M2.only w1 (a.eval g) [.func (.yield (w.heap.size + 1)) #[] #[]] hV2 (fun _ => rfl) hgx hyx
  have hcase' : EntersR P d w1 (CallR M2.only s2.heap w1 v h ws) := by
    rcases hcase with hx | ⟨_, _, hx⟩
    · exact hx.1
    · cases hx
  obtain ⟨f3, as3, hinv, hcl⟩ := hcase'
  refine ⟨w.heap.size + 1, [{ target := .collected w.heap.size, args := #[] }], w1, d, w1, f3, as3, w1, ?_, ?_, fun _ _ => trivial, hinv, fun h => by simp [Fence.wide] at h, ?_⟩
  · simp [Instr.enterLoop, newObj, Sem.run, w1, lp]
  · have := hd w1
    simpa [resolve, rangeCall, Act.eval] using this
  · refine CallsIn.mono (F := wideAt none) (hcl (n - 1)) fun en w3 hen => ?_
    cases en with
    | panicked c => exact hen.elim
    | outgrown => exact hen.elim
    | returned y =>
      obtain ⟨M3, hp⟩ := join_post hR2.val hR2.loc (show CallR M2.only s2.heap w1 v h ws y w3 from hen)
      have hR3 : Rel M0 h0 w0 nt M3 { s2 with heap := h, ws := addKs h0.length (ws.map .h) s.ws } _ w3 := hR2.next hB (s' := { s2 with heap := h, ws := addKs h0.length (ws.map .h) s.ws }) (hp.val.sub fun _ _ => .inl trivial) hp.ext rfl rfl hp.loc
      obtain ⟨l', g1, g2⟩ := hp.ext.mle _ _ hl2
      have hl3 : M3 (.h (s.heap.length + 1)) = some (.obj (w.heap.size + 1)) := by
        cases l' with
        | cells ls => exact g2.elim
        | obj r' => cases g2; exact g1
      obtain ⟨blk, k1, k2⟩ := hR3.val.ok _ _ hl3 trivial
      have k1' : blk = .loop rd f2 nt2 e2 ps2 a2 b2 pend := by
        simp only [St.get, hh, Option.some.injEq] at k1
        exact k1.symm
      subst k1'
      obtain ⟨lp3, l1, l2⟩ := k2
      have hnb : lp3.state ≠ .busy ∧ lp3.pending = jumpOf e := by
        unfold jumpT at hj
        split at hj
        · cases hj
          obtain ⟨q1, q2⟩ := l2.ready rfl
          exact ⟨by rw [q1]; simp, q2⟩
        · cases hj
          obtain ⟨q1, q2⟩ := l2.done rfl _ rfl (by simp)
          exact ⟨by rw [q1]; simp, q2⟩
        · cases hj
          obtain ⟨q1, q2⟩ := l2.done rfl _ rfl (by simp)
          exact ⟨by rw [q1]; simp, q2⟩
        · cases hj
      obtain ⟨v4, x4⟩ := objset_ok (s := { s2 with heap := h, ws := addKs h0.length (ws.map .h) s.ws }) hR3.val hl3 hh rfl (b' := .loop false f2 nt2 e2 ps2 a2 b2 (some .skip)) (o' := .loop { lp3 with state := .exhausted }) ⟨{ lp3 with state := .exhausted }, by simp [(Array.getElem?_eq_some_iff.1 l1).1],
        { ps := l2.ps, asg := l2.asg, body := l2.body, size := l2.size, envR := l2.envR, und := l2.und, nol := l2.nol, ready := by simp, busy := by simp, done := fun _ j hj hne => by simp at hj; exact absurd hj.symm hne }⟩
      subst hs
      have hR4 := hR3.next hB (s' := { s with heap := h.set (s.heap.length + 1) (.loop false f2 nt2 e2 ps2 a2 b2 (some .skip)), ws := addKs h0.length (ws.map .h) s.ws }) v4 x4 rfl
        (by simp only [addKs, addW]; rw [if_neg (by omega)]) (fun _ _ h => h)
      refine ⟨lp3.pending, { w3 with heap := w3.heap.setIfInBounds (w.heap.size + 1) (.loop { lp3 with state := .exhausted }) }, ?_, ?_⟩
      · have h1 := hnb.1
        cases hst : lp3.state <;> simp_all [Instr.endLoop, Instr.getLoop, getObj, setObj, Sem.run] <;> rfl
      · have h2 := hQ _ _ _ hR4
        have h3 := hnb.2
        generalize lp3.pending = pe at h2 h3 ⊢
        subst h3
        cases e with
        | norm => exact h2
        | ret => exact wpIn_ret h2
        | exit id => exact wpIn_exit h2
theorem exec_ok (hm : P.follows .mixedOrders = true) (hC : CallOk P call) (hB : Base M0 h0 w0) (hr : rnd = false → r = none) : ∀ (c : Code) (s s' : St) (e : Ex), exec P T call L f rnd h0.length nt c s = some (e, s') → ExecOk P M0 h0 w0 nt r c s e s' := by
  intro c
  induction c with
  | skip =>
    intro s s' e h n Q M a w hR hQ
    simp only [exec, Option.some.injEq, Prod.mk.injEq] at h
    obtain ⟨rfl, rfl⟩ := h
    exact wpIn_skip (hQ _ _ _ hR)
  | label l =>
    intro s s' e h n Q M a w hR hQ
    simp only [exec, Option.some.injEq, Prod.mk.injEq] at h
    obtain ⟨rfl, rfl⟩ := h
    exact wpIn_label (hQ _ _ _ hR)
  | exit id =>
    intro s s' e h n Q M a w hR hQ
    simp only [exec, Option.some.injEq, Prod.mk.injEq] at h
    obtain ⟨rfl, rfl⟩ := h
    exact wpIn_exit (hQ _ _ _ hR)
  | ret =>
    intro s s' e h n Q M a w hR hQ
    simp only [exec, Option.some.injEq, Prod.mk.injEq] at h
    obtain ⟨rfl, rfl⟩ := h
    exact wpIn_ret (hQ _ _ _ hR)
  | region id ops draw =>
    intro s s' e h n Q M a w hR hQ
    simp only [exec] at h
    split at h
    · rename_i s1 infs hrun
      split at h
      · rename_i hd
        simp only [Option.some.injEq, Prod.mk.injEq] at h
        obtain ⟨rfl, rfl⟩ := h
        cases draw with
        | false => exact seqReg_ok hC hB hrun hR fun M' a' w' hR' _ => hQ _ _ _ (hR'.pick _)
        | true =>
          simp only [Bool.not_true, Bool.false_or, Bool.and_eq_true] at hd
          exact drawReg_ok hC hB hm hrun hd.1 hd.2 hR fun M' a' w' hR' _ => hQ _ _ _ (hR'.pick _)
      · simp at h
    · simp at h
  | seq x y ihx ihy =>
    intro s s' e h n Q M a w hR hQ
    simp only [exec] at h
    split at h
    · rename_i s1 hx
      exact wpIn_seq (ihx s s1 .norm hx n _ M a w hR fun M1 a1 w1 hR1 => ihy s1 s' e h n Q M1 a1 w1 hR1 hQ)
    · rename_i hne
      refine wpIn_seq (ihx s s' e h n _ M a w hR fun M1 a1 w1 hR1 => ?_)
      cases e with
      | norm => exact (hne s' h).elim
      | exit id => exact hQ _ _ _ hR1
      | ret => exact hQ _ _ _ hR1
  | cond c x y ihx ihy =>
    intro s s' e h n Q M a w hR hQ
    simp only [exec] at h
    have hev : ∀ b, tvO s.env c = some (.bool b) → a.eval c = .bool b := by
      intro b hb
      have := tvO_ok hR.env hb
      generalize a.eval c = z at this
      cases this; rfl
    split at h
    · rename_i hc
      exact wpIn_cond_true (hev _ hc) (ihx s s' e h n Q M a w hR hQ)
    · rename_i hc
      exact wpIn_cond_false (hev _ hc) (ihy s s' e h n Q M a w hR hQ)
    · simp at h
  | block id b ih =>
    intro s s' e h n Q M a w hR hQ
    simp only [exec] at h
    split at h
    · rename_i i s1 hb
      simp only [Option.some.injEq, Prod.mk.injEq] at h
      obtain ⟨rfl, rfl⟩ := h
      refine wpIn_block (ih s s1 (.exit i) hb n _ M a w hR fun M1 a1 w1 hR1 => ?_)
      have := hQ _ _ _ hR1
      by_cases hi : i = id
      · simp only [hi, if_true] at this
        simp only [exOf, Exit.inBlock, hi, if_true]
        exact this
      · simp only [hi, if_false] at this
        simp only [exOf, Exit.inBlock, hi, if_false]
        exact this
    · rename_i hne
      refine wpIn_block (ih s s' e h n _ M a w hR fun M1 a1 w1 hR1 => ?_)
      cases e with
      | norm => exact hQ _ _ _ hR1
      | exit i => exact (hne i s' h).elim
      | ret => exact hQ _ _ _ hR1
  | loop b ih =>
    intro s s' e h
    simp only [exec] at h
    exact loop_ok hB (live := T.headAt f (headId b)) (fun s e s' hs => ih _ _ _ hs) h
  | rangeFunc g ps asg body iha ihb =>
    intro s s' e h
    simp only [exec] at h
    split at h
    · rename_i f1 a1 b1 hg
      split at h
      · rename_i hv
        simp only [Bool.and_eq_true, Bool.not_eq_true'] at hv
        rw [hr hv.2]
        split at h
        · rename_i v h1 ws hcall
          split at h
          · rename_i rd f2 nt2 e2 ps2 a2 b2 pend hh
            split at h
            · rename_i e' hj
              simp only [Option.some.injEq, Prod.mk.injEq] at h
              obtain ⟨rfl, rfl⟩ := h
              exact range_ok hC hB hg hv.1 hcall hh hj rfl
            · simp at h
          · simp at h
        · simp at h
      · simp at h
    · simp at h
  | _ => intro s s' e h; simp [exec] at h
end
end Tw
namespace Tw
open Go
def resS (tmps : Array Value) : ResultVar → Sem Value
  | .tmp t => pure (tmps.getD t Go.undef)
  | .cell b t => do loadVar t (← asAddr (tmps.getD b Go.undef))
theorem results_eq (fn : Func) (tmps : Array Value) : results fn tmps = (do
    let vs ← fn.results.mapM (resS tmps)
    pure (if h : vs.size = 1 then vs[0] else .tuple vs)) := by
  have key : ∀ g : ResultVar → Sem Value, (∀ r, g r = resS tmps r) → (do
      let vs ← fn.results.mapM g
      pure (if h : vs.size = 1 then vs[0] else Value.tuple vs) : Sem Value) = (do
      let vs ← fn.results.mapM (resS tmps)
      pure (if h : vs.size = 1 then vs[0] else Value.tuple vs)) := fun g hg => by rw [show g = resS tmps from funext hg]
  exact key _ fun r => by cases r <;> rfl
section
variable {P : Program} {T : Tab} {call : CallT} {L : Nat} {nt : Nat} {M0 : Mp} {h0 : List HB} {w0 : World} {M : Mp} {s : St} {a : Act} {w : World}
theorem res_ok (hR : Rel M0 h0 w0 nt M s a w) {r : ResultVar} {v : TV} (h : resT P s r = some v) :
    ∃ x, VR M.h v x ∧ (resS a.tmps r).run P w = .ok x w := by
  unfold resT at h
  split at h
  · rename_i t
    split at h
    · rename_i v' hv
      simp only [Option.some.injEq] at h; subst h
      exact ⟨_, (hR.env t _ hv).inv_val, rfl⟩
    · simp at h
  · rename_i b t
    split at h
    · rename_i e he
      simp only [Option.map_eq_some_iff] at h
      obtain ⟨⟨v', i⟩, hl, rfl⟩ := h
      have hx := hR.env b _ he
      obtain ⟨_, y, h1, h2⟩ := load_ok hR.val hl hx (fun _ _ => trivial)
      refine ⟨y, h1, ?_⟩
      show (do loadVar t (← asAddr (a.tmps.getD b Go.undef)) : Sem Value).run P w = _
      generalize a.tmps.getD b Go.undef = z at hx h2
      have hz : ∃ ad, z = .pointer (some ad) := by
        cases hx with
        | loc hm hb => exact ⟨_, rfl⟩
        | undef => simp [loadT] at hl
        | val hv =>
          cases hv with
          | ptr => exact ⟨_, rfl⟩
          | _ => simp [loadT] at hl
      obtain ⟨ad, rfl⟩ := hz
      simpa [asAddr, Instr.loadAt, Instr.sureAddr] using h2
    · simp at h
theorem ress_ok (hR : Rel M0 h0 w0 nt M s a w) : ∀ {rs : List ResultVar} {vs : List TV}, resTs P s rs = some vs →
    ∃ xs, VRs M.h vs xs ∧ (rs.mapM (resS a.tmps)).run P w = .ok xs w
  | [], vs, h => by simp [resTs] at h; subst h; exact ⟨[], .nil, by simp⟩
  | r :: rs, vs, h => by
    simp only [resTs] at h
    split at h
    · rename_i v vs' h1 h2
      simp only [Option.some.injEq] at h; subst h
      obtain ⟨x, g1, g2⟩ := res_ok hR h1
      obtain ⟨xs, g3, g4⟩ := ress_ok hR h2
      exact ⟨x :: xs, .cons g1 g3, by simp only [List.mapM_cons, Sem.run_bind, g2, g4, Result.andThen_ok, Sem.run_pure]⟩
    · simp at h
theorem results_ok (hR : Rel M0 h0 w0 nt M s a w) {fn : Func} {vs : List TV} (h : resTs P s fn.results.toList = some vs) : ∃ y, VR M.h (one vs) y ∧ (results fn a.tmps).run P w = .ok y w := by
  obtain ⟨xs, h1, h2⟩ := ress_ok hR h
  have hrun : (results fn a.tmps).run P w = .ok (if h : xs.toArray.size = 1 then xs.toArray[0] else .tuple xs.toArray) w := by
    rw [results_eq, Array.mapM_eq_mapM_toList]
    simp only [Sem.run_bind, Sem.run_map, h2, Result.andThen_ok, Sem.run_pure]
  refine ⟨_, ?_, hrun⟩
  match vs, xs, h1 with
  | [], xs, h1 =>
    have := h1.inv_nil; subst this
    exact .tup' .nil
  | [v], xs, h1 =>
    obtain ⟨x, xs', rfl, hx, hx'⟩ := h1.inv_cons
    have := hx'.inv_nil; subst this
    exact hx
  | v :: v' :: vs, xs, h1 =>
    obtain ⟨x, xs', rfl, hx, hx'⟩ := h1.inv_cons
    obtain ⟨x', xs'', rfl, hy, hy'⟩ := hx'.inv_cons
    simp only [one, List.size_toArray, List.length_cons]
    rw [dif_neg (by omega)]
    exact .tup' h1
theorem mark_step (hB : Base M0 h0 w0) {d : Deferred} {ds : List Deferred} (hR : Rel M0 h0 w0 nt M s a w) (hd : a.defers = d :: ds) :
    ∃ r w', d.target = .collected r ∧ (Instr.takeDeferred r).run P w = .ok [] w' ∧ Rel M0 h0 w0 nt M s { a with defers := ds } w' := by
  obtain ⟨k, r, rfl, h2, h3, h4, h5⟩ := hR.marks d (by rw [hd]; exact List.mem_cons_self)
  have hlt := (Array.getElem?_eq_some_iff.1 h5).1
  have hap := hR.apart
  rw [hd] at hap
  obtain ⟨ha1, ha2⟩ := List.pairwise_cons.1 hap
  refine ⟨r, { w with heap := w.heap.setIfInBounds r (.deferred none) }, rfl, ?_, ?_⟩
  · simp [Instr.takeDeferred, getObj, setObj, Sem.run, h5]
  have hother : ∀ c, c ≠ r → (w.heap.setIfInBounds r (.deferred none))[c]? = w.heap[c]? := fun c hc => by
    rw [Array.getElem?_setIfInBounds, if_neg (fun e => hc e.symm)]
  refine ⟨⟨?_, hR.val.own, fun k l hk c hc => by simpa using hR.val.inb k l hk c hc⟩, ?_, hR.env, hR.size, ?_, ha2⟩
  · intro k' l hk' _
    obtain ⟨b, g1, g2⟩ := hR.val.ok k' l hk' trivial
    refine ⟨b, g1, ?_⟩
    by_cases hin : r ∈ cblocks l
    · cases b with
      | cells kk cs =>
        cases l with
        | obj r' => exact g2.elim
        | cells ls =>
          obtain ⟨p, hp, e⟩ := List.mem_map.1 hin
          obtain ⟨arr, ty, fz, e1, _⟩ := (g2.2.1 p hp).row
          rw [e, h5] at e1; cases e1
      | map es =>
        cases l with
        | cells ls => exact g2.elim
        | obj r' =>
          simp [cblocks] at hin; subst hin
          obtain ⟨xs, ck, e1, _⟩ := g2
          rw [h5] at e1; cases e1
      | loop rd f nt env ps a b pend =>
        cases l with
        | cells ls => exact g2.elim
        | obj r' =>
          simp [cblocks] at hin; subst hin
          obtain ⟨lp, e1, _⟩ := g2
          rw [h5] at e1; cases e1
      | mark =>
        cases l with
        | cells ls => exact g2.elim
        | obj r' =>
          show r' < (w.heap.setIfInBounds r (.deferred none)).size
          have g2' : r' < w.heap.size := g2
          simpa using g2'
    · exact g2.mono (.refl _) fun c hc => hother c fun e => hin (e ▸ hc)
  · have hX := hR.ext
    refine ⟨hX.mle, fun c hc hf => ?_, hX.keep, hX.keepM, hX.fresh, by simpa using hX.size, hX.has, hX.wsub, hX.wrote, hX.os, hX.output, hX.tape⟩
    rw [← hX.frame c hc hf]
    refine hother c fun e => ?_
    obtain ⟨l0, g1, _⟩ := hX.fresh _ _ h3 c (by simp [cblocks, e]) hc
    have := hB.val.has g1
    rw [h2] at this; cases this
  · intro d' hd'
    obtain ⟨k', r', e1, e2, e3, e4, e5⟩ := hR.marks d' (by rw [hd]; exact List.mem_cons_of_mem _ hd')
    refine ⟨k', r', e1, e2, e3, e4, ?_⟩
    rw [hother r' fun e => ha1 d' hd' (by rw [e1, e]), e5]
theorem leave_ok (hB : Base M0 h0 w0) {F : Fence} {n : Nat} {fn : Func} {R : Ending → World → Prop} : ∀ (ds : List Deferred) (a : Act) (w : World), a.defers = ds → Rel M0 h0 w0 nt M s a w →
    (∀ w', Rel M0 h0 w0 nt M s { a with defers := [] } w' → ∃ v, (results fn a.tmps).run P w' = .ok v w' ∧ R (.returned v) w') → LeavesInM F n P fn a.tmps R ds .returning w
  | [], a, w, hd, hR, hK => by
    simp only [LeavesInM, LeavesIn]
    exact hK w (by
      have : a = { a with defers := [] } := by cases a; simp at hd; subst hd; rfl
      rw [← this]; exact hR)
  | d :: ds, a, w, hd, hR, hK => by
    obtain ⟨r, w', h1, h2, h3⟩ := mark_step (P := P) hB hR hd
    refine ⟨by simp, .inl ⟨r, w', h1, h2, ?_⟩⟩
    exact leave_ok hB ds { a with defers := ds } w' rfl h3 hK
end
theorem flatC_VR {N N' : Np} {v : TV} {y : Value} (h : v.flatC = true) (hv : VR N v y) : VR N' v y := by
  cases hv <;> first | (constructor; done) | (simp [TV.flatC] at h; done)
theorem flatCs_VR {N N' : Np} {vs : List TV} {ys : List Value} (h : vs.all TV.flatC = true) (hv : VRs N vs ys) : VRs N' vs ys :=
  ⟨hv.len, fun i c v h1 h2 => flatC_VR (List.all_eq_true.1 h c (List.mem_of_getElem? h1)) (hv.at_ i c v h1 h2)⟩
theorem flat1_VR {N N' : Np} {v : TV} {y : Value} (h : v.flat1 = true) (hv : VR N v y) : VR N' v y := by
  cases hv with
  | agg h1 h2 => exact .agg' (flatCs_VR h ⟨h1, h2⟩)
  | _ => first | (constructor; done) | (simp [TV.flat1, TV.flatC] at h; done)
theorem flat_VR {N N' : Np} {v : TV} {y : Value} (h : v.flat = true) (hv : VR N v y) : VR N' v y := by
  cases hv with
  | tup h1 h2 =>
    simp only [TV.flat] at h
    exact .tup h1 fun i c v e1 e2 => flat1_VR (List.all_eq_true.1 h c (List.mem_of_getElem? e1)) (h2 i c v e1 e2)
  | agg h1 h2 => exact flat1_VR h (.agg h1 h2)
  | _ => first | (constructor; done) | (simp [TV.flat, TV.flat1, TV.flatC] at h; done)
section
variable {P : Program} {T : Tab} {call : CallT} {L : Nat} {nt : Nat} {M : Mp} {h : List HB} {w : World} {M' : Mp} {s : St} {a : Act} {w' : World}
theorem fin_ok (hB : Base M h w) (hR : Rel M h w nt M' s a w') {v : TV} {y : Value} (hv : VR M'.h v y) : CallR M h w v s.heap s.ws y w' := by
  refine ⟨M'.only, only_valid hR.val (fun _ _ _ => trivial), fun _ => rfl, ?_, hv⟩
  have hX := hR.ext
  have hk : ∀ k, (ctH h k).isSome = true → ∃ b, k = .h b := fun k hk => let ⟨b, e, _⟩ := ctH_some hk; ⟨b, e⟩
  exact
    { mle := fun k l hl => by
        cases k with
        | l j => rw [hB.loc j] at hl; cases hl
        | h b => exact hX.mle _ _ hl
      frame := hX.frame
      keep := fun k e hn => by obtain ⟨b, rfl⟩ := hk k e; exact hX.keep _ e hn
      keepM := fun k e hn => by
        cases k with
        | h b => exact hX.keepM (.h b) e hn
        | l j => exact (hB.loc j).symm
      fresh := fun k l hl => by
        cases k with
        | h b => exact hX.fresh (.h b) l hl
        | l j => cases hl
      size := hX.size
      has := fun k e => by obtain ⟨b, rfl⟩ := hk k e; exact hX.has _ e
      wsub := hX.wsub
      wrote := hX.wrote
      os := hX.os
      output := hX.output
      tape := hX.tape }
theorem fin_flat (hB : Base M h w) (hR : Rel M h w nt M' s a w') (hws : s.ws = []) {v : TV} {y : Value} (hv : VR M'.h v y) (hf : v.flat = true) : CallR M h w v h [] y w' := by
  have hX := hR.ext
  rw [hws] at hX
  have hfr : ∀ c, c < w.heap.size → w'.heap[c]? = w.heap[c]? := fun c hc => hX.frame c hc (by simp)
  refine ⟨M, ⟨fun k l hk _ => ?_, hB.val.own, fun k l hk c hc => Nat.lt_of_lt_of_le (hB.val.inb k l hk c hc) hX.size⟩, hB.loc, ?_, flat_VR hf hv⟩
  · obtain ⟨b, h1, h2⟩ := hB.val.ok k l hk trivial
    exact ⟨b, h1, h2.mono (.refl _) fun c hc => hfr c (hB.val.inb k l hk c hc)⟩
  · exact ⟨.refl _, fun c hc _ => hfr c hc, fun _ _ _ => rfl, fun _ _ _ => rfl, fun k l hk c hc _ => ⟨l, hk, hc⟩, hX.size, fun _ e => e, by simp, by simp, hX.os, hX.output, hX.tape⟩
theorem argEnv_ok {N : Np} : ∀ {args : List TV} {xs : List Value} {k t : Nat} {e : EV}, VRs N args xs → lookE t (argEnv k args) = some e → ∃ i v x, t = k + i ∧ e = .val v ∧ xs[i]? = some x ∧ VR N v x
  | [], xs, k, t, e, h, hl => by simp [argEnv, lookE] at hl
  | v :: vs, xs, k, t, e, h, hl => by
    obtain ⟨x, xs', rfl, h1, h2⟩ := h.inv_cons
    simp only [argEnv, lookE] at hl
    split at hl
    · rename_i hk
      cases hl
      exact ⟨0, v, x, by omega, rfl, rfl, h1⟩
    · obtain ⟨i, v', x', e1, e2, e3, e4⟩ := argEnv_ok h2 hl
      exact ⟨i + 1, v', x', by omega, e2, by simpa using e3, e4⟩
theorem fun_ok (hm : P.follows .mixedOrders = true) (hC : CallOk P call) {f : Nat} {args : List TV} {v : TV} {h' : List HB} {ws : List Nat} (hf : funT P T call L f args h = some (v, h', ws)) (hB : Base M h w) {xs : List Value} (hx : VRs M.h args xs) :
    ∃ fn c, P.funcs[f]? = some fn ∧ (fn.name == "runtime.NumGoroutine") = false ∧ fn.body = some c ∧ ∀ n, CallsIn Fence.wide n P f xs.toArray w (RetR (CallR M h w v h' ws)) := by
  unfold funT fnT at hf
  split at hf
  · rename_i t ht
    split at ht
    · rename_i fn hfn
      split at ht
      · cases ht
      · rename_i hname
        split at ht
        · rename_i c hc
          cases ht
          refine ⟨fn, c, hfn, by simpa using hname, hc, fun n => ?_⟩
          have hR0 : Rel M h w fn.ntmps M ⟨argEnv 0 args, [], h, []⟩ { tmps := xs.toArray ++ Array.replicate (fn.ntmps - xs.toArray.size) Go.undef, defers := [] } w := by
            have hg : St.get ⟨argEnv 0 args, [], h, []⟩ = ctH h := getEnv ⟨[], [], h, []⟩ _ _
            refine ⟨by rw [hg]; exact hB.val, by rw [hg]; exact .refl _ _ _, fun t e hl => ?_, by simp; omega, by simp, .nil⟩
            obtain ⟨i, v', x, e1, rfl, e3, e4⟩ := argEnv_ok hx hl
            have hi : i < xs.length := (List.getElem?_eq_some_iff.1 e3).1
            have : (xs.toArray ++ Array.replicate (fn.ntmps - xs.toArray.size) Go.undef).getD t Go.undef = x := by
              rw [Array.getD_eq_getD_getElem?, Array.getElem?_append_left (by simp; omega)]
              have : t = i := by omega
              subst this
              simp [e3]
            rw [this]
            exact .val e4
          have hfin : ∀ (s : St), (match resTs P s fn.results.toList with
              | some vs => if s.ws.isEmpty && (one vs).flat then some (one vs, h, []) else some (one vs, s.heap, s.ws)
              | none => none) = some (v, h', ws) → ∀ (M' : Mp) (a' : Act) (w' : World), Rel M h w fn.ntmps M' s a' w' → LeavesInM Fence.wide n P fn a'.tmps (RetR (CallR M h w v h' ws)) a'.defers .returning w' := by
            intro s hs M' a' w' hR'
            split at hs
            · rename_i vs hvs
              refine leave_ok hB a'.defers a' w' rfl hR' fun w'' hR'' => ?_
              obtain ⟨y, g1, g2⟩ := results_ok (P := P) hR'' hvs
              refine ⟨y, g2, ?_⟩
              split at hs
              · rename_i hfl
                simp only [Bool.and_eq_true, List.isEmpty_iff] at hfl
                simp only [Option.some.injEq, Prod.mk.injEq] at hs
                obtain ⟨rfl, rfl, rfl⟩ := hs
                exact fin_flat hB hR'' hfl.1 g1 hfl.2
              · simp only [Option.some.injEq, Prod.mk.injEq] at hs
                obtain ⟨rfl, rfl, rfl⟩ := hs
                exact fin_ok hB hR'' g1
            · cases hs
          refine callsIn_of_wp_marks (F := Fence.wide) hfn hc trivial ?_
          split at hf
          · rename_i s hex
            exact exec_ok (rnd := false) hm hC hB (fun _ => rfl) _ _ _ _ hex n _ M _ w hR0 fun M' a' w' hR' => hfin s hf M' a' w' hR'
          · rename_i s hex
            exact exec_ok (rnd := false) hm hC hB (fun _ => rfl) _ _ _ _ hex n _ M _ w hR0 fun M' a' w' hR' => hfin s hf M' a' w' hR'
          · cases hf
        · cases ht
    · cases ht
  · cases hf
end
end Tw
namespace Tw
open Go
section
variable {P : Program} {T : Tab} {call : CallT} {L : Nat} {nt : Nat} {M : Mp} {h : List HB} {w : World}
def putV (tmps : Array Value) : List (Nat × Value) → Array Value
  | [] => tmps
  | (t, a) :: r => putV (tmps.setIfInBounds t a) r
theorem putV_size : ∀ {l : List (Nat × Value)} {tmps : Array Value}, (putV tmps l).size = tmps.size
  | [], _ => rfl
  | (t, a) :: r, tmps => by rw [putV, putV_size]; simp
theorem putV_foldl : ∀ (l : List (Nat × Value)) (tmps : Array Value), l.foldl (fun tmps (t, a) => tmps.setIfInBounds t a) tmps = putV tmps l
  | [], _ => rfl
  | (t, a) :: r, tmps => by rw [List.foldl_cons, putV_foldl r]; rfl
theorem putAll_ok {N : Np} {nt : Nat} : ∀ {ps : List Nat} {args : List TV} {xs : List Value} {env : List (Nat × EV)} {tmps : Array Value}, VRs N args xs → args.length = ps.length → (∀ p ∈ ps, p < nt) → nt ≤ tmps.size →
    (∀ t v, lookE t env = some (.val v) → VR N v (tmps.getD t Go.undef)) → (∀ t, lookE t env = some .undef → tmps.getD t Go.undef = Go.undef) → (∀ t k o, lookE t env ≠ some (.loc k o)) →
    (∀ t v, lookE t (putAll env ps args) = some (.val v) → VR N v ((putV tmps (ps.zip xs)).getD t Go.undef)) ∧ (∀ t, lookE t (putAll env ps args) = some .undef → (putV tmps (ps.zip xs)).getD t Go.undef = Go.undef) ∧
      (∀ t k o, lookE t (putAll env ps args) ≠ some (.loc k o))
  | [], [], xs, env, tmps, _, _, _, _, h1, h2, h3 => ⟨h1, h2, h3⟩
  | [], v :: vs, xs, env, tmps, _, hl, _, _, _, _, _ => by simp at hl
  | p :: ps, [], xs, env, tmps, _, hl, _, _, _, _, _ => by simp at hl
  | p :: ps, v :: vs, xs, env, tmps, hx, hl, hp, hn, h1, h2, h3 => by
    obtain ⟨x, xs', rfl, hx1, hx2⟩ := hx.inv_cons
    have hpn := hp p List.mem_cons_self
    simp only [putAll, List.zip_cons_cons, putV]
    have hg : ∀ t, (tmps.setIfInBounds p x).getD t Go.undef = if p = t then x else tmps.getD t Go.undef := by
      intro t
      simp only [Array.getD_eq_getD_getElem?, Array.getElem?_setIfInBounds]
      by_cases h : p = t
      · subst h; simp [show p < tmps.size by omega]
      · simp [h]
    refine putAll_ok hx2 (by simpa using hl) (fun q hq => hp q (List.mem_cons_of_mem _ hq)) (by simpa using hn) ?_ ?_ ?_
    · intro t v' he
      rw [hg]
      simp only [lookE] at he
      split at he
      · rename_i h; rw [if_pos h]; cases he; exact hx1
      · rename_i h; rw [if_neg h]; exact h1 t v' he
    · intro t he
      rw [hg]
      simp only [lookE] at he
      split at he
      · cases he
      · rename_i h; rw [if_neg h]; exact h2 t he
    · intro t k o he
      simp only [lookE] at he
      split at he
      · cases he
      · exact h3 t k o he
theorem round_ok (hm : P.follows .mixedOrders = true) (hC : CallOk P call) {l l' : Nat} {args : List TV} {v : TV} {h' : List HB} {ws : List Nat} (hf : roundT P T call L l args h = some (v, h', ws)) (hB : Base M h w) (hl : M (.h l) = some (.obj l'))
    {xs : List Value} (hx : VRs M.h args xs) : RoundsR P { target := .fn (.yield l') #[], args := xs.toArray } w (CallR M h w v h' ws) := by
  unfold roundT at hf
  split at hf
  · rename_i f nt env ps asg body pend hh
    split at hf
    · rename_i hc
      obtain ⟨hlen, hps⟩ := hc
      have hps' : ∀ p ∈ ps, p < nt := fun p hp => by simpa using List.all_eq_true.1 hps p hp
      obtain ⟨blk, k1, k2⟩ := hB.val.ok _ _ hl trivial
      simp only [ctH, St.get, hh, Option.some.injEq] at k1
      subst k1
      obtain ⟨lp, l1, l2⟩ := k2
      have hlb : l < h.length := (List.getElem?_eq_some_iff.1 hh).1
      have hpa : lp.params.size = xs.length := by
        have := l2.ps
        rw [← hx.len, hlen, ← this]; simp
      have hzip : (lp.params.zip xs.toArray).foldl (fun tmps (t, a) => tmps.setIfInBounds t a) lp.tmps = putV lp.tmps (ps.zip xs) := by
        rw [← Array.foldl_toList, Array.toList_zip, l2.ps]
        exact putV_foldl _ _
      refine ⟨l', lp.fn, putV lp.tmps (ps.zip xs), asg, body, ?_, fun n => ?_⟩
      · have h1 : (Instr.yield l' xs.toArray).run P w = .ok (.round l' lp.fn ((lp.params.zip xs.toArray).foldl (fun tmps (t, a) => tmps.setIfInBounds t a) lp.tmps) lp.assign lp.body) w := by
          simp [Instr.yield, Instr.getLoop, getObj, Sem.run, l1, hpa]
        rw [hzip, l2.asg, l2.body] at h1
        exact h1
      obtain ⟨p1, p2, p3⟩ := putAll_ok hx hlen hps' l2.size l2.envR l2.und l2.nol
      have hR0 : Rel M h w nt M ⟨putAll env ps args, [], h, []⟩ { tmps := putV lp.tmps (ps.zip xs), defers := [] } w := by
        have hg : St.get ⟨putAll env ps args, [], h, []⟩ = ctH h := getEnv ⟨[], [], h, []⟩ _ _
        refine ⟨by rw [hg]; exact hB.val, by rw [hg]; exact .refl _ _ _, fun t e he => ?_, by rw [putV_size]; exact l2.size, by simp, .nil⟩
        cases e with
        | val v => exact .val (p1 t v he)
        | loc k o => exact absurd he (p3 t k o)
        | undef =>
          have := p2 t he
          simp only at this ⊢
          rw [this]; exact .undef
      refine roundIn_of_wpIn (F := Fence.wide) trivial ?_
      split at hf
      · rename_i s1 hex
        refine exec_ok (rnd := true) (r := some l') hm hC hB (by simp) _ _ _ _ hex n _ M _ w hR0 fun M1 a1 w1 hR1 => ?_
        split at hf
        · rename_i f' nt' env' ps' a' b' pend' hh1
          have hl1 : M1 (.h l) = some (.obj l') := by
            obtain ⟨l0, g1, g2⟩ := hR1.ext.mle _ _ hl
            cases l0 with
            | cells ls => exact g2.elim
            | obj r' => cases g2; exact g1
          obtain ⟨blk, k1, k2⟩ := hR1.val.ok _ _ hl1 trivial
          simp only [St.get, hh1, Option.some.injEq] at k1
          subst k1
          obtain ⟨lp1, m1, m2⟩ := k2
          obtain ⟨v2, x2⟩ := objset_ok hR1.val hl1 hh1 rfl (b' := .loop false f' nt' env' ps' a' b' none) (o' := .loop { lp1 with state := .busy }) ⟨{ lp1 with state := .busy }, by simp [(Array.getElem?_eq_some_iff.1 m1).1],
            { ps := m2.ps, asg := m2.asg, body := m2.body, size := m2.size, envR := m2.envR, und := m2.und, nol := m2.nol, ready := by simp, busy := fun _ _ => rfl, done := by simp }⟩
          have hR2 := hR1.next hB (s' := { s1 with heap := s1.heap.set l (.loop false f' nt' env' ps' a' b' none), ws := addW h.length l s1.ws }) v2 x2 rfl rfl (fun _ _ e => e)
          refine ⟨{ w1 with heap := w1.heap.setIfInBounds l' (.loop { lp1 with state := .busy }) }, ?_, ?_⟩
          · simp [Instr.beginRound, Instr.getLoop, getObj, setObj, Sem.run, m1, (m2.ready rfl).1]
          · split at hf
            · rename_i e s2 hex2
              refine exec_ok (rnd := true) (r := some l') hm hC hB (by simp) _ _ _ _ hex2 n _ M1 _ _ hR2 fun M3 a3 w3 hR3 => ?_
              split at hf
              · rename_i f3 nt3 env3 ps3 a3' b3 hh3
                simp only [Option.some.injEq, Prod.mk.injEq] at hf
                obtain ⟨rfl, rfl, rfl⟩ := hf
                have hl3 : M3 (.h l) = some (.obj l') := by
                  obtain ⟨l0, g1, g2⟩ := hR3.ext.mle _ _ hl
                  cases l0 with
                  | cells ls => exact g2.elim
                  | obj r' => cases g2; exact g1
                obtain ⟨blk, k1, k2⟩ := hR3.val.ok _ _ hl3 trivial
                simp only [St.get, hh3, Option.some.injEq] at k1
                subst k1
                obtain ⟨lp3, q1, q2⟩ := k2
                let lp4 : Loop := { lp3 with state := if (jumpOf e).isNone then .ready else .done, pending := jumpOf e }
                obtain ⟨v4, x4⟩ := objset_ok hR3.val hl3 hh3 rfl (b' := .loop (isNorm e) f3 nt3 env3 ps3 a3' b3 (jumpOf e)) (o' := .loop lp4) ⟨lp4, by simp [(Array.getElem?_eq_some_iff.1 q1).1],
                  { ps := q2.ps, asg := q2.asg, body := q2.body, size := q2.size, envR := q2.envR, und := q2.und, nol := q2.nol
                    ready := fun hn => by cases e <;> simp [isNorm] at hn; exact ⟨rfl, rfl⟩
                    busy := fun hn hp => by cases e <;> simp [isNorm, jumpOf] at hn hp
                    done := fun hn j hj _ => by cases e <;> simp [isNorm] at hn <;> (simp only [jumpOf, Option.some.injEq] at hj; subst hj; exact ⟨rfl, rfl⟩) }⟩
                have hR4 := hR3.next hB (s' := { s2 with heap := s2.heap.set l (.loop (isNorm e) f3 nt3 env3 ps3 a3' b3 (jumpOf e)), ws := addW h.length l s2.ws }) v4 x4 rfl rfl (fun _ _ e => e)
                have hfin := fin_ok hB hR4 (v := .bool (isNorm e)) (y := .bool (isNorm e)) (.bool _)
                have hend : (Instr.endRound l' (jumpOf e)).run P w3 = .ok (.bool (isNorm e)) { w3 with heap := w3.heap.setIfInBounds l' (.loop lp4) } := by
                  cases e <;> simp [Instr.endRound, Instr.getLoop, getObj, setObj, Sem.run, q1, isNorm, jumpOf, lp4]
                cases e with
                | norm => exact ⟨_, _, hend, hfin⟩
                | exit id => exact ⟨_, _, hend, hfin⟩
                | ret => exact ⟨_, _, hend, hfin⟩
              · cases hf
            · cases hf
        · cases hf
      · cases hf
    · cases hf
  · cases hf
theorem ap_ok (hm : P.follows .mixedOrders = true) : ∀ n, CallOk P (ap P T L n)
  | 0 => by
    intro fv args h v h' ws hc
    simp [ap] at hc
  | n + 1 => by
    intro fv args h v h' ws hc M w x xs hV hl hx hxs
    have ih := ap_ok hm n
    cases fv with
    | fn f first cap =>
      simp only [ap] at hc
      cases hx with
      | fn h1 h2 h3 h4 =>
        rename_i ys zs
        have hargs : VRs M.h (first ++ args ++ cap) (ys ++ xs ++ zs) := (VRs.append ⟨h1, h2⟩ hxs).append ⟨h3, h4⟩
        obtain ⟨fn, c, e1, e2, e3, e4⟩ := fun_ok hm ih hc ⟨hV, hl⟩ hargs
        refine ⟨{ target := .fn (.func f) zs.toArray, args := ys.toArray ++ xs.toArray }, fun w => by simp [Deferred.ofValue], .inl ⟨⟨f, (ys ++ xs ++ zs).toArray, ?_, e4⟩, f, first, cap, rfl⟩⟩
        have e2' : ¬ fn.name = "runtime.NumGoroutine" := by simpa using e2
        simp [invoke, callFunc, program, Sem.run, e1, e2', e3]
    | yld l =>
      simp only [ap] at hc
      cases hx with
      | yld hm' =>
        rename_i l'
        refine ⟨{ target := .fn (.yield l') #[], args := xs.toArray }, fun w => by simp [Deferred.ofValue], .inr ⟨round_ok hm ih hc ⟨hV, hl⟩ hm' hxs, l, rfl⟩⟩
    | _ => simp [ap] at hc
theorem run_ok (hm : P.follows .mixedOrders = true) {n f : Nat} {args : List TV} {v : TV} {h' : List HB} {ws : List Nat} (hr : run P T L (n + 1) f args h = some (v, h', ws)) (hV : Valid M allK (ctH h) w) (hl : ∀ k, M (.l k) = none)
    {xs : List Value} (hx : VRs M.h args xs) (k : Nat) : CallsIn Fence.wide k P f xs.toArray w (RetR (CallR M h w v h' ws)) := by
  simp only [run, ap] at hr
  have hargs : VRs M.h ([] ++ args ++ []) xs := by simpa using hx
  obtain ⟨fn, c, _, _, _, e4⟩ := fun_ok hm (ap_ok hm n) hr ⟨hV, hl⟩ hargs
  exact e4 k
end
end Tw
namespace Tw
open Go
section
variable {P : Program}
abbrev onH (h : List HB) : St := ⟨[], [], h, []⟩
theorem appendT_onH {at_ : Array TypeId} {s s1 : St} {d x v : TV} {i : Inf} (h : appendT P at_ (onH s.heap) d x = some (v, s1, i)) : appendT P at_ s d x = some (v, { s with heap := s1.heap }, i) := by
  unfold appendT at h ⊢
  split at h
  · split at h
    · simp at h
    · rename_i hc
      rw [if_neg hc]
      split at h
      · rename_i e size he
        split at h
        · rename_i n new hs
          simp only [he, hs]
          split at h
          · rename_i hn
            rw [if_pos hn]
            split at h
            · simp only [Option.some.injEq, Prod.mk.injEq] at h
              obtain ⟨rfl, rfl, rfl⟩ := h; rfl
            · split at h
              · rename_i hz
                simp only [Option.some.injEq, Prod.mk.injEq] at h
                obtain ⟨rfl, rfl, rfl⟩ := h
                simp only [hz, if_true]
              · simp at h
            · simp at h
          · rename_i hn
            rw [if_neg hn]
            split at h
            · rename_i hl
              rw [if_pos hl]
              split at h
              · split at h
                · rename_i hb
                  simp only [Option.some.injEq, Prod.mk.injEq] at h
                  obtain ⟨rfl, rfl, rfl⟩ := h
                  simp only [hb, if_true]
                · simp at h
              · rename_i b off len cap sz ex
                split at h
                · rename_i hz
                  rw [if_pos hz]
                  split at h
                  · rename_i hf
                    rw [if_pos hf]
                    simp only [Option.map_eq_some_iff, Prod.mk.injEq] at h ⊢
                    obtain ⟨h', h1, rfl, rfl, rfl⟩ := h
                    exact ⟨h', h1, rfl, rfl, rfl⟩
                  · rename_i hf
                    rw [if_neg hf]
                    split at h
                    · rename_i hb
                      rw [if_pos hb]
                      split at h
                      · rename_i hx
                        rw [if_pos hx]
                        split at h
                        · rename_i cs hc
                          simp only [Option.map_eq_some_iff, Prod.mk.injEq] at h
                          obtain ⟨old, h1, rfl, rfl, rfl⟩ := h
                          simp only [hc, h1, Option.map_some]
                        · simp at h
                      · rename_i hx
                        rw [if_neg hx]
                        split at h
                        · rename_i k cs hc
                          split at h
                          · simp at h
                          · rename_i hcc
                            simp only [Option.some.injEq, Prod.mk.injEq] at h
                            obtain ⟨rfl, rfl, rfl⟩ := h
                            simp only [hc]
                            rw [if_neg hcc]
                        · simp at h
                    · simp at h
                · simp at h
              · simp at h
            · simp at h
        · simp at h
      · simp at h
  · simp at h
theorem copyT_onH {at_ : Array TypeId} {s s1 : St} {d x v : TV} {i : Inf} (h : copyT P at_ (onH s.heap) d x = some (v, s1, i)) : copyT P at_ s d x = some (v, { s with heap := s1.heap }, i) := by
  unfold copyT at h ⊢
  split at h
  · split at h
    · rename_i e size he
      split at h
      · rename_i n new hs
        simp only [hs]
        split at h
        · rename_i hc
          rw [if_pos hc]
          split at h
          · simp only [Option.some.injEq, Prod.mk.injEq] at h
            obtain ⟨rfl, rfl, rfl⟩ := h; rfl
          · rename_i b off len cap sz ex
            split at h
            · rename_i hz
              rw [if_pos hz]
              split at h
              · rename_i hm
                rw [if_pos hm]
                simp only [Option.some.injEq, Prod.mk.injEq] at h
                obtain ⟨rfl, rfl, rfl⟩ := h; rfl
              · rename_i hm
                rw [if_neg hm]
                simp only [Option.map_eq_some_iff, Prod.mk.injEq] at h ⊢
                obtain ⟨h', h1, rfl, rfl, rfl⟩ := h
                exact ⟨h', h1, rfl, rfl, rfl⟩
            · simp at h
          · simp at h
        · simp at h
      · simp at h
    · simp at h
  · simp at h
theorem makeSliceT_onH {t : TypeId} {s s1 : St} {l c v : TV} (h : makeSliceT P t (onH s.heap) l c = some (v, s1)) : makeSliceT P t s l c = some (v, { s with heap := s1.heap }) := by
  unfold makeSliceT at h ⊢
  split at h
  · split at h
    · rename_i hc
      rw [if_pos hc]
      split at h
      · split at h
        · rename_i hz
          simp only [Option.some.injEq, Prod.mk.injEq] at h
          obtain ⟨rfl, rfl⟩ := h
          simp only [hz, if_true]
        · simp at h
      · simp at h
    · simp at h
  · simp at h
theorem updateT_onH {t : TypeId} {s s1 : St} {m k v : TV} {i : Inf} (h : updateT P t (onH s.heap) m k v = some (s1, i)) : updateT P t s m k v = some ({ s with heap := s1.heap }, i) := by
  unfold updateT at h ⊢
  split at h
  · split at h
    · rename_i es h1 h2
      simp only [h1, h2]
      split at h
      · rename_i i0 hf
        split at h
        · rename_i old o2 he
          split at h
          · rename_i ov hov
            split at h
            · rename_i hs
              simp only [Option.some.injEq, Prod.mk.injEq] at h
              obtain ⟨rfl, rfl⟩ := h
              simp only [hs, if_true, he, hov]
            · simp at h
          · simp at h
        · simp at h
      · simp only [Option.some.injEq, Prod.mk.injEq] at h
        obtain ⟨rfl, rfl⟩ := h
        rfl
      · simp at h
    · simp at h
  · simp at h
end
end Tw
namespace Tw
open Go
inductive Ans where
  | br (b : Bool)
  | dyn
  | calm
  | fa
  | bx
  | ev (v : EV) (i : Inf)
  | ld (v : TV)
  | st (h : List HB) (ws : List Nat)
  | ix (j : Nat)
  | pt (b off lim : Nat)
  | up (h : List HB) (ws : List Nat)
  | hp (v : TV) (h : List HB) (i : Inf) (ws : List Nat)
  | rd (v : TV)
  | mem (v : EV) (h : List HB) (i : Inf) (ws : List Nat)
  | call (v : TV) (h : List HB) (ws ws' : List Nat)
  | loop (e : Ex) (s : St)
def askBin : BinOp → Bool
  | .quo | .rem | .shl | .shr => true
  | _ => false
def isLoc : Option EV → Bool
  | some (.loc _ _) => true
  | _ => false
def isAggE : Option EV → Bool
  | some (.val (.agg _)) => true
  | _ => false
def asks (s : St) (o : Oper) : Bool :=
  match o.op with
  | .load _ a => !isLoc (evO s.env a)
  | .store _ a _ => !isLoc (evO s.env a)
  | .indexAddr _ a _ => !isLoc (evO s.env a)
  | .fieldAddr _ a _ => !isLoc (evO s.env a)
  | .index .. | .slice .. | .lookup .. | .mapUpdate .. | .insert .. | .makeSlice .. | .pick .. => true
  | .binOp op _ x _ _ => askBin op || isAggE (evO s.env x)
  | .call c => match c.callee with
    | .builtin .min | .builtin .max => false
    | _ => true
  | _ => false
def rdAt (agg : Bool) (n : Nat) (h : List HB) (b off lim : Nat) : Option TV :=
  match blkCells h b with
  | some cs => if off + n ≤ lim then (if agg then (sub cs off n).map .agg else if n = 1 then cs[off]? else none) else none
  | none => none
theorem loadT_rd {P : Program} {t : TypeId} {s : St} {b off lim n : Nat} {agg : Bool} {v : TV} (ha : isAggT P t = some agg) (hn : sizeT P t = some n) (h : rdAt agg n s.heap b off lim = some v) :
    loadT P t s (.val (.ptr b off lim)) = some (v, rdK (.h b)) := by
  unfold rdAt at h
  simp only [loadT, hn]
  split at h
  · rename_i cs hc
    split at h
    · rename_i hl
      simp only [hc, hl, if_true, partT, ha, hn]
      cases agg with
      | true =>
        simp only [if_true] at h
        show Option.map _ (Option.map TV.agg (sub cs off n)) = _
        rw [h]; rfl
      | false =>
        simp only [Bool.false_eq_true, if_false] at h
        show Option.map _ (if n = 1 then cs[off]? else none) = _
        rw [h]; rfl
    · cases h
  · cases h
def AllP : List Prop → Prop
  | [] => True
  | p :: ps => p ∧ AllP ps
theorem AllP.app : ∀ {p q : List Prop}, AllP (p ++ q) → AllP p ∧ AllP q
  | [], _, h => ⟨trivial, h⟩
  | _ :: _, _, h => ⟨⟨h.1, (AllP.app h.2).1⟩, (AllP.app h.2).2⟩
section
variable (P : Program) (T : Tab) (call : CallT) (L : Nat)
def isBx (o : Oper) (az : List Ans) : Bool :=
  match az, o.op with
  | .bx :: _, .box .. => true
  | .bx :: _, .store .. => true
  | _, _ => false
def opO (site : Nat → Bool) (fl : Nat) (s : St) (o : Oper) (az : List Ans) : Option (EV × St × Inf × List Ans × List Prop) :=
  if asks s o then
    match az with
    | .br t :: az => match o.op with
      | .pick c a b => match tvO s.env c with
        | some (.bool u) => match t with
          | true => match evO s.env a with
            | some v => some (v, s, noInf, az, [u = true])
            | none => none
          | false => match evO s.env b with
            | some v => some (v, s, noInf, az, [u = false])
            | none => none
        | _ => none
      | _ => none
    | .fa :: az => match o.op with
      | .fieldAddr t x f => match evO s.env x, fieldOff P t f with
        | some (.val (.ptr b off lim)), some n => some (.val (.ptr b (off + n) lim), s, noInf, az, [off + n ≤ lim])
        | _, _ => none
      | _ => none
    | .ev v i :: az => some (v, s, i, az, [opT P call site s o = some (v, s, i), i.ws = []])
    | .ld v :: az => match o.op with
      | .load t a => match evO s.env a, isAggT P t, sizeT P t with
        | some (.val (.ptr b off lim)), some agg, some n => some (.val v, s, rdK (.h b), az, [rdAt agg n s.heap b off lim = some v])
        | _, _, _ => none
      | _ => none
    | .st h ws :: az => match o.op with
      | .store t a x => match evO s.env a, tvO s.env x, sizeT P t with
        | some (.val (.ptr b off lim)), some v, some n =>
          if v.cells.length = n ∧ v.cells.all oneT = true then some (.undef, { s with heap := h, ws := ws }, wrK (.h b), az, [setH s.heap b off v.cells = some h, off + n ≤ lim, addW fl b s.ws = ws]) else none
        | _, _, _ => none
      | _ => none
    | .ix j :: az => match o.op with
      | .indexAddr t x i => match P.underlying t, evO s.env x, tvO s.env i with
        | some (.slice e), some (.val (.slc b off len _ sz _)), some iv => if sizeT P e = some sz then some (.val (.ptr b (off + j * sz) (off + j * sz + sz)), s, noInf, az, [idx len iv = some j]) else none
        | _, _, _ => none
      | _ => none
    | .pt b off lim :: az => match o.op with
      | .indexAddr t x i => match evO s.env x, tvO s.env i with
        | some (.val xv), some iv => some (.val (.ptr b off lim), s, noInf, az, [indexAddrT P t (.val xv) iv = some (.val (.ptr b off lim))])
        | _, _ => none
      | _ => none
    | .up h ws :: az => match o.op with
      | .mapUpdate t m k x | .insert t m k x => match tvO s.env m, tvO s.env k, tvO s.env x with
        | some (.map r), some k, some v => some (.undef, { s with heap := h, ws := ws }, wrK (.h r), az, [updateT P t (onH s.heap) (.map r) k v = some (onH h, wrK (.h r)), addW fl r s.ws = ws])
        | _, _, _ => none
      | _ => none
    | .hp v h i ws :: az => match o.op with
      | .call c => match c.callee, tvOs s.env c.args.toList with
        | .builtin .append, some [d, x] => some (.val v, { s with heap := h, ws := ws }, i, az, [appendT P c.argTypes (onH s.heap) d x = some (v, onH h, i), addKs fl i.ws s.ws = ws])
        | .builtin .copy, some [d, x] => some (.val v, { s with heap := h, ws := ws }, i, az, [copyT P c.argTypes (onH s.heap) d x = some (v, onH h, i), addKs fl i.ws s.ws = ws])
        | _, _ => none
      | .makeSlice t l c => match tvO s.env l, tvO s.env c with
        | some l, some c => some (.val v, { s with heap := h, ws := ws }, noInf, az, [makeSliceT P t (onH s.heap) l c = some (v, onH h), s.ws = ws])
        | _, _ => none
      | _ => none
    | .rd v :: az => match o.op with
      | .call c => match c.callee, tvOs s.env c.args.toList with
        | .builtin .len, some [x] => some (.val v, s, noInf, az, [lenT P c.argTypes s.heap x = some (v, noInf)])
        | _, _ => none
      | .binOp op t x y _ => match tvO s.env x, tvO s.env y with
        | some a, some b => some (.val v, s, noInf, az, [binT P op t x y a b = some v])
        | _, _ => none
      | .lookup t m k ok => match tvO s.env m, tvO s.env k with
        | some m, some k => some (.val v, s, rdKs (match m with | .map r => [.h r] | _ => []), az, [lookupT P t s.heap m k ok = some v])
        | _, _ => none
      | .index t x i => match tvO s.env x, tvO s.env i with
        | some a, some i => some (.val v, s, noInf, az, [indexT P t a i = some v])
        | _, _ => none
      | .slice t x lo hi mx => match P.underlying t, evO s.env x, optT s.env lo, optT s.env hi, optT s.env mx with
        | some (.slice _), some (.val x), some lo, some hi, some mx => some (.val v, s, noInf, az, [sliceT P t x lo hi mx = some v])
        | some .string, some (.val x), some lo, some hi, some mx => some (.val v, s, noInf, az, [sliceT P t x lo hi mx = some v])
        | some (.array _ _), some x, some lo, some hi, some mx => some (.val v, s, noInf, az, [sliceArrT P t x lo hi mx = some v])
        | _, _, _, _, _ => none
      | _ => none
    | .mem v h i ws :: az => some (v, { s with heap := h, ws := ws }, i, az, [opT P call site s o = some (v, { s with heap := h }, i), addKs fl i.ws s.ws = ws])
    | .call v h ws ws' :: az => match o.op with
      | .call c => match c.callee, tvOs s.env c.args.toList with
        | .value f, some xs => match tvO s.env f with
          | some fv => some (.val v, { s with heap := h, ws := ws' }, ⟨true, [], ws.map .h⟩, az, [call fv xs s.heap = some (v, h, ws), addKs fl (ws.map .h) s.ws = ws'])
          | none => none
        | _, _ => none
      | _ => none
    | _ => none
  else if isBx o az then match az with
    | .bx :: az => match o.op with
      | .box _ x => match tvO s.env x with
        | some v => match newBox (site (o.dst.getD 0)) s v.cells with
          | (e, s1) => some (e, s1, noInf, az, [v.cells.all oneT = true])
        | none => none
      | .store t a x => match evO s.env a, tvO s.env x, sizeT P t with
        | some (.loc k off), some v, some n => if v.cells.length = n then (match s.loc[k]? with
          | some cs => match over cs off v.cells with
            | some cs' => some (.undef, { s with loc := s.loc.set k cs' }, wrK (.l k), az, [v.cells.all oneT = true])
            | none => none
          | none => none) else none
        | _, _, _ => none
      | _ => none
    | _ => none
  else match opT P call site s o with
    | some (v, s1, i) => some (v, { s1 with ws := addKs fl i.ws s.ws }, i, az, [])
    | none => none
def wantO (ops : Array Oper) (env : List (Nat × EV)) (o : Oper) (az : List Ans) : Option (Bool × List Ans × List Prop) :=
  match o.guard with
  | none => some (true, az, [])
  | some (j, want) => match (ops[j]?).bind (·.dst) with
    | some d => match lookE d env with
      | some (.val (.bool b)) => match az with
        | .br true :: az => some (true == want, az, [b = true])
        | .br false :: az => some (false == want, az, [b = false])
        | _ => none
      | some .undef => some (false, az, [])
      | _ => none
    | none => none
def runO (site : Nat → Bool) (fl nt : Nat) (ops : Array Oper) : List Oper → St → List Ans → Option (St × List Inf × List Ans × List Prop)
  | [], s, az => some (s, [], az, [])
  | o :: os, s, az => if !dstOk nt o then none else match wantO ops s.env o az with
    | some (true, az, r) => match opO P call site fl s o az with
      | some (v, s1, i, az, p) => match runO site fl nt ops os (s1.put o.dst v) az with
        | some (s', is, az, q) => some (s', i :: is, az, r ++ (p ++ q))
        | none => none
      | none => none
    | some (false, az, r) => match runO site fl nt ops os (s.put o.dst .undef) az with
      | some (s', is, az, q) => some (s', noInf :: is, az, r ++ q)
      | none => none
    | none => none
def execO (f : Nat) (rnd : Bool) (fl nt : Nat) : Code → St → List Ans → Option (Ex × St × List Ans × List Prop)
  | .skip, s, az => some (.norm, s, az, [])
  | .label _, s, az => some (.norm, s, az, [])
  | .region id ops draw, s, az => match runO P call (fun d => rnd || T.siteAt f d) fl nt ops ops.toList s az with
    | some (s', infs, az, p) =>
      match az with
      | .calm :: az => if infs.all (fun i => i.ws.isEmpty) then some (.norm, { s' with env := pick (T.liveAt f id) s'.env }, az, p ++ [staticOk ops.toList = true]) else none
      | .dyn :: az => if staticOk ops.toList then some (.norm, { s' with env := pick (T.liveAt f id) s'.env }, az, p ++ [dynOk infs (hotPairs ops.toList) = true]) else none
      | az => if !draw || (staticOk ops.toList && dynOk infs (hotPairs ops.toList)) then some (.norm, { s' with env := pick (T.liveAt f id) s'.env }, az, p) else none
    | none => none
  | .seq a b, s, az => match execO f rnd fl nt a s az with
    | some (.norm, s, az, p) => match execO f rnd fl nt b s az with
      | some (e, s, az, q) => some (e, s, az, p ++ q)
      | none => none
    | r => r
  | .cond c a b, s, az => match az with
    | .br t :: az => match tvO s.env c with
      | some (.bool u) => match t with
        | true => match execO f rnd fl nt a s az with
          | some (e, s, az, q) => some (e, s, az, (u = true) :: q)
          | none => none
        | false => match execO f rnd fl nt b s az with
          | some (e, s, az, q) => some (e, s, az, (u = false) :: q)
          | none => none
      | _ => none
    | _ => none
  | .block id b, s, az => match execO f rnd fl nt b s az with
    | some (.exit i, s, az, p) => some (if i = id then .norm else .exit i, s, az, p)
    | r => r
  | .loop b, s, az => match az with
    | .loop e s' :: az => some (e, s', az, [exec P T call L f rnd fl nt (.loop b) s = some (e, s')])
    | _ => none
  | .exit id, s, az => some (.exit id, s, az, [])
  | .ret, s, az => some (.ret, s, az, [])
  | .rangeFunc g ps assign body, s, az => match az with
    | .loop e s' :: az => some (e, s', az, [exec P T call L f rnd fl nt (.rangeFunc g ps assign body) s = some (e, s')])
    | _ => none
  | _, _, _ => none
def resOs (s : St) : List Ans → List ResultVar → Option (List TV × List Ans × List Prop)
  | az, [] => some ([], az, [])
  | az, .tmp t :: rs => match lookE t s.env with
    | some (.val v) => match resOs s az rs with
      | some (vs, az, q) => some (v :: vs, az, q)
      | none => none
    | _ => none
  | az, .cell a t :: rs => match lookE a s.env with
    | some (.loc k off) => match loadT P t s (.loc k off) with
      | some (v, _) => match resOs s az rs with
        | some (vs, az, q) => some (v :: vs, az, q)
        | none => none
      | none => none
    | some (.val (.ptr b off lim)) => match az, isAggT P t, sizeT P t with
      | .ld v :: az, some agg, some n => match resOs s az rs with
        | some (vs, az, q) => some (v :: vs, az, (rdAt agg n s.heap b off lim = some v) :: q)
        | none => none
      | _, _, _ => none
    | _ => none
end
section
variable {P : Program} {T : Tab} {call : CallT} {L : Nat}
theorem opO_ok {site : Nat → Bool} {fl : Nat} {s s1 : St} {o : Oper} {az as' : List Ans} {v : EV} {i : Inf} {p : List Prop} (h : opO P call site fl s o az = some (v, s1, i, as', p)) (hp : AllP p) :
    ∃ s0, opT P call site s o = some (v, s0, i) ∧ s1 = { s0 with ws := addKs fl i.ws s.ws } := by
  unfold opO at h
  split at h
  · split at h
    · split at h
      · rename_i c a b ho
        split at h
        · rename_i u hc
          split at h
          · split at h
            · rename_i v1 hv
              simp only [Option.some.injEq, Prod.mk.injEq] at h
              obtain ⟨rfl, rfl, rfl, rfl, rfl⟩ := h
              obtain ⟨rfl, _⟩ := hp
              exact ⟨s, by simp only [opT, ho, hc, hv, if_true]; rfl, rfl⟩
            · cases h
          · split at h
            · rename_i v1 hv
              simp only [Option.some.injEq, Prod.mk.injEq] at h
              obtain ⟨rfl, rfl, rfl, rfl, rfl⟩ := h
              obtain ⟨rfl, _⟩ := hp
              exact ⟨s, by simp only [opT, ho, hc, hv, Bool.false_eq_true, if_false]; rfl, rfl⟩
            · cases h
        · cases h
      · cases h
    · split at h
      · rename_i t x f ho
        split at h
        · rename_i b off lim n hx hn
          simp only [Option.some.injEq, Prod.mk.injEq] at h
          obtain ⟨rfl, rfl, rfl, rfl, rfl⟩ := h
          have h1 : off + n ≤ lim := hp.1
          exact ⟨s, by simp only [opT, ho, hx, hn, offT, h1, if_true]; rfl, rfl⟩
        · cases h
      · cases h
    · simp only [Option.some.injEq, Prod.mk.injEq] at h
      obtain ⟨rfl, rfl, rfl, rfl, rfl⟩ := h
      exact ⟨_, hp.1, by rw [hp.2.1]; rfl⟩
    · split at h
      · rename_i t a ho
        split at h
        · rename_i b off lim agg n ha hg hn
          simp only [Option.some.injEq, Prod.mk.injEq] at h
          obtain ⟨rfl, rfl, rfl, rfl, rfl⟩ := h
          exact ⟨s, by simp only [opT, ho, ha, loadT_rd hg hn hp.1]; rfl, rfl⟩
        · cases h
      · cases h
    · split at h
      · rename_i t a x ho
        split at h
        · rename_i b off lim w n ha hx hn
          split at h
          · rename_i hc
            simp only [Option.some.injEq, Prod.mk.injEq] at h
            obtain ⟨rfl, rfl, rfl, rfl, rfl⟩ := h
            obtain ⟨p1, p2, p3, _⟩ := hp
            rename_i h9 ws9 _ _ _ _ _ _
            refine ⟨{ s with heap := h9 }, ?_, by simp only [wrK, addKs, p3]⟩
            simp only [opT, ho, ha, hx, storeT, hn]
            rw [if_pos hc, if_pos p2, p1]
            rfl
          · cases h
        · cases h
      · cases h
    · split at h
      · rename_i t x i0 ho
        split at h
        · rename_i e b off len cap sz ex iv hu hx hi
          split at h
          · rename_i hsz
            simp only [Option.some.injEq, Prod.mk.injEq] at h
            obtain ⟨rfl, rfl, rfl, rfl, rfl⟩ := h
            refine ⟨s, ?_, rfl⟩
            simp only [opT, ho, hx, hi, indexAddrT, hu, hsz, if_true, hp.1]
            rfl
          · cases h
        · cases h
      · cases h
    · split at h
      · rename_i t x i0 ho
        split at h
        · rename_i xv iv hx hi
          simp only [Option.some.injEq, Prod.mk.injEq] at h
          obtain ⟨rfl, rfl, rfl, rfl, rfl⟩ := h
          exact ⟨s, by simp only [opT, ho, hx, hi, hp.1]; rfl, rfl⟩
        · cases h
      · cases h
    · split at h
      · rename_i t m k x ho
        split at h
        · rename_i r kv v hm hk hx
          simp only [Option.some.injEq, Prod.mk.injEq] at h
          obtain ⟨rfl, rfl, rfl, rfl, rfl⟩ := h
          exact ⟨_, by simp only [opT, ho, hm, hk, hx, updateT_onH hp.1]; rfl, by simp only [wrK, addKs, hp.2.1]⟩
        · cases h
      · rename_i t m k x ho
        split at h
        · rename_i r kv v hm hk hx
          simp only [Option.some.injEq, Prod.mk.injEq] at h
          obtain ⟨rfl, rfl, rfl, rfl, rfl⟩ := h
          exact ⟨_, by simp only [opT, ho, hm, hk, hx, updateT_onH hp.1]; rfl, by simp only [wrK, addKs, hp.2.1]⟩
        · cases h
      · cases h
    · split at h
      · rename_i c ho
        split at h
        · rename_i d x hc hxs
          simp only [Option.some.injEq, Prod.mk.injEq] at h
          obtain ⟨rfl, rfl, rfl, rfl, rfl⟩ := h
          exact ⟨_, by simp only [opT, ho, callT, hc, hxs, builtinT, appendT_onH hp.1]; rfl, by rw [hp.2.1]⟩
        · rename_i d x hc hxs
          simp only [Option.some.injEq, Prod.mk.injEq] at h
          obtain ⟨rfl, rfl, rfl, rfl, rfl⟩ := h
          exact ⟨_, by simp only [opT, ho, callT, hc, hxs, builtinT, copyT_onH hp.1]; rfl, by rw [hp.2.1]⟩
        · cases h
      · rename_i t l c ho
        split at h
        · rename_i l' c' hl hc
          simp only [Option.some.injEq, Prod.mk.injEq] at h
          obtain ⟨rfl, rfl, rfl, rfl, rfl⟩ := h
          exact ⟨_, by simp only [opT, ho, hl, hc, makeSliceT_onH hp.1]; rfl, by simp only [noInf, addKs, hp.2.1]⟩
        · cases h
      · cases h
    · split at h
      · rename_i c ho
        split at h
        · rename_i x hc hxs
          simp only [Option.some.injEq, Prod.mk.injEq] at h
          obtain ⟨rfl, rfl, rfl, rfl, rfl⟩ := h
          exact ⟨s, by simp only [opT, ho, callT, hc, hxs, builtinT, hp.1]; rfl, rfl⟩
        · cases h
      · rename_i op t x y t' ho
        split at h
        · rename_i u w hu hw
          simp only [Option.some.injEq, Prod.mk.injEq] at h
          obtain ⟨rfl, rfl, rfl, rfl, rfl⟩ := h
          exact ⟨_, by simp only [opT, ho, hu, hw, hp.1]; rfl, rfl⟩
        · cases h
      · rename_i t m k ok ho
        split at h
        · rename_i u w hu hw
          simp only [Option.some.injEq, Prod.mk.injEq] at h
          obtain ⟨rfl, rfl, rfl, rfl, rfl⟩ := h
          exact ⟨s, by simp only [opT, ho, hu, hw, hp.1]; rfl, rfl⟩
        · cases h
      · rename_i t x i0 ho
        split at h
        · rename_i u w hu hw
          simp only [Option.some.injEq, Prod.mk.injEq] at h
          obtain ⟨rfl, rfl, rfl, rfl, rfl⟩ := h
          exact ⟨_, by simp only [opT, ho, hu, hw, hp.1]; rfl, rfl⟩
        · cases h
      · rename_i t x lo hi mx ho
        split at h
        · rename_i x' lo' hi' mx' ht hx hlo hhi hmx
          simp only [Option.some.injEq, Prod.mk.injEq] at h
          obtain ⟨rfl, rfl, rfl, rfl, rfl⟩ := h
          exact ⟨s, by simp only [opT, ho, hx, hlo, hhi, hmx, ht, hp.1]; rfl, rfl⟩
        · rename_i x' lo' hi' mx' ht hx hlo hhi hmx
          simp only [Option.some.injEq, Prod.mk.injEq] at h
          obtain ⟨rfl, rfl, rfl, rfl, rfl⟩ := h
          exact ⟨s, by simp only [opT, ho, hx, hlo, hhi, hmx, ht, hp.1]; rfl, rfl⟩
        · rename_i x' lo' hi' mx' ht hx hlo hhi hmx
          simp only [Option.some.injEq, Prod.mk.injEq] at h
          obtain ⟨rfl, rfl, rfl, rfl, rfl⟩ := h
          exact ⟨s, by simp only [opT, ho, hx, hlo, hhi, hmx, ht, hp.1]; rfl, rfl⟩
        · cases h
      · cases h
    · simp only [Option.some.injEq, Prod.mk.injEq] at h
      obtain ⟨rfl, rfl, rfl, rfl, rfl⟩ := h
      exact ⟨_, hp.1, by rw [hp.2.1]⟩
    · split at h
      · rename_i c ho
        obtain ⟨callee, args, ats⟩ := c
        simp only at h
        split at h
        · rename_i f xs hxs
          split at h
          · rename_i fv hfv
            simp only [Option.some.injEq, Prod.mk.injEq] at h
            obtain ⟨rfl, rfl, rfl, rfl, rfl⟩ := h
            rename_i _ v1 h1 ws1 ws2 _ _ _ _ _
            refine ⟨{ s with heap := h1 }, ?_, by rw [hp.2.1]⟩
            simp only [opT, ho, callT, hxs, hfv, hp.1]
          · cases h
        · cases h
      · cases h
    · cases h
  · split at h
    · split at h
      · split at h
        · rename_i e x ho
          split at h
          · rename_i v hv
            split at h
            rename_i e1 s1 hb
            simp only [Option.some.injEq, Prod.mk.injEq] at h
            obtain ⟨rfl, rfl, rfl, rfl, rfl⟩ := h
            refine ⟨s1, ?_, ?_⟩
            · simp only [opT, ho, hv, hp.1, if_true, hb]
            · have : s1.ws = s.ws := by
                unfold newBox at hb
                split at hb <;> (cases hb; rfl)
              simp only [noInf, addKs, ← this]
          · cases h
        · rename_i t a x ho
          split at h
          · rename_i k off v n ha hx hn
            split at h
            · rename_i hl
              split at h
              · rename_i cs hk
                split at h
                · rename_i cs' hov
                  simp only [Option.some.injEq, Prod.mk.injEq] at h
                  obtain ⟨rfl, rfl, rfl, rfl, rfl⟩ := h
                  refine ⟨{ s with loc := s.loc.set k cs' }, ?_, rfl⟩
                  simp only [opT, ho, ha, hx, storeT, hn]
                  rw [if_pos ⟨hl, hp.1⟩]
                  simp only [hk, hov]
                  rfl
                · cases h
              · cases h
            · cases h
          · cases h
        · cases h
      · cases h
    · split at h
      · rename_i v0 s0 i0 hop
        simp only [Option.some.injEq, Prod.mk.injEq] at h
        obtain ⟨rfl, rfl, rfl, rfl, rfl⟩ := h
        exact ⟨s0, hop, rfl⟩
      · cases h
theorem wantO_ok {ops : Array Oper} {env : List (Nat × EV)} {o : Oper} {az as' : List Ans} {w : Bool} {p : List Prop} (h : wantO ops env o az = some (w, as', p)) (hp : AllP p) : wantT ops env o = some w := by
  unfold wantO at h
  unfold wantT
  split at h
  · rename_i hg
    simp only [Option.some.injEq, Prod.mk.injEq] at h
    obtain ⟨rfl, rfl, rfl⟩ := h
    simp only [hg]
  · rename_i j want hg
    simp only [hg]
    split at h
    · rename_i d hd
      simp only [hd]
      split at h
      · rename_i b hb
        simp only [hb]
        split at h
        · simp only [Option.some.injEq, Prod.mk.injEq] at h
          obtain ⟨rfl, rfl, rfl⟩ := h
          rw [hp.1]
        · simp only [Option.some.injEq, Prod.mk.injEq] at h
          obtain ⟨rfl, rfl, rfl⟩ := h
          rw [hp.1]
        · cases h
      · rename_i hb
        simp only [Option.some.injEq, Prod.mk.injEq] at h
        obtain ⟨rfl, rfl, rfl⟩ := h
        simp only [hb]
      · cases h
    · cases h
theorem runO_ok {site : Nat → Bool} {fl nt : Nat} {ops : Array Oper} : ∀ {os : List Oper} {s s' : St} {az as' : List Ans} {is : List Inf} {p : List Prop}, runO P call site fl nt ops os s az = some (s', is, as', p) → AllP p →
    runOps P call site fl nt ops os s = some (s', is)
  | [], s, s', az, as', is, p, h, hp => by
    simp only [runO, Option.some.injEq, Prod.mk.injEq] at h
    obtain ⟨rfl, rfl, _, _⟩ := h
    rfl
  | o :: os, s, s', az, as', is, p, h, hp => by
    simp only [runO] at h
    simp only [runOps]
    split at h
    · cases h
    · rename_i hd
      rw [if_neg hd]
      split at h
      · rename_i as0 r hw
        split at h
        · rename_i v s1 i as1 p1 hop
          split at h
          · rename_i s2 is2 as2 q hr
            simp only [Option.some.injEq, Prod.mk.injEq] at h
            obtain ⟨rfl, rfl, rfl, rfl⟩ := h
            have hw := wantO_ok hw hp.app.1
            obtain ⟨s0, h1, rfl⟩ := opO_ok hop hp.app.2.app.1
            have h2 := runO_ok hr hp.app.2.app.2
            simp only [hw, h1, h2]
          · cases h
        · cases h
      · rename_i as0 r hw
        split at h
        · rename_i s2 is2 as2 q hr
          simp only [Option.some.injEq, Prod.mk.injEq] at h
          obtain ⟨rfl, rfl, rfl, rfl⟩ := h
          have hw := wantO_ok hw hp.app.1
          have h2 := runO_ok hr hp.app.2
          simp only [hw, h2]
        · cases h
      · cases h
theorem dynOk_quiet {infs : List Inf} (hq : ∀ i ∈ infs, i.ws = []) : ∀ {ps : List (Nat × Nat)}, (∀ x ∈ ps, x.1 < infs.length ∧ x.2 < infs.length) → dynOk infs ps = true
  | [], _ => rfl
  | (i, j) :: r, hr => by
    have h0 := hr (i, j) (List.mem_cons_self ..)
    have hi : infs[i]? = some (infs[i]'h0.1) := List.getElem?_eq_getElem h0.1
    have hj : infs[j]? = some (infs[j]'h0.2) := List.getElem?_eq_getElem h0.2
    simp only [dynOk, hi, hj, Bool.and_eq_true]
    refine ⟨?_, dynOk_quiet hq fun x hx => hr x (List.mem_cons_of_mem _ hx)⟩
    have e1 := hq _ (List.getElem_mem h0.1)
    have e2 := hq _ (List.getElem_mem h0.2)
    simp only [calm, calm1, e1, e2, List.all_nil, Bool.and_self]
theorem hot_range {ops : List Oper} : ∀ x ∈ hotPairs ops, x.1 < ops.length ∧ x.2 < ops.length := by
  intro x hx
  simp only [hotPairs, List.mem_filter] at hx
  have h := hx.1
  simp only [openPairs, List.mem_flatMap, List.mem_map, List.mem_filter, List.mem_range] at h
  obtain ⟨j, hj, i, ⟨hi, _⟩, rfl⟩ := h
  exact ⟨by simp only; omega, hj⟩
theorem runO_len {site : Nat → Bool} {fl nt : Nat} {ops : Array Oper} : ∀ {os : List Oper} {s s' : St} {az as' : List Ans} {is : List Inf} {p : List Prop},
    runO P call site fl nt ops os s az = some (s', is, as', p) → is.length = os.length
  | [], s, s', az, as', is, p, h => by
    simp only [runO, Option.some.injEq, Prod.mk.injEq] at h
    obtain ⟨_, rfl, _⟩ := h; rfl
  | o :: os, s, s', az, as', is, p, h => by
    simp only [runO] at h
    split at h
    · cases h
    · split at h
      · split at h
        · split at h
          · rename_i hr
            simp only [Option.some.injEq, Prod.mk.injEq] at h
            obtain ⟨_, rfl, _⟩ := h
            simp only [List.length_cons, runO_len hr]
          · cases h
        · cases h
      · split at h
        · rename_i hr
          simp only [Option.some.injEq, Prod.mk.injEq] at h
          obtain ⟨_, rfl, _⟩ := h
          simp only [List.length_cons, runO_len hr]
        · cases h
      · cases h
theorem execO_ok {f : Nat} {rnd : Bool} {fl nt : Nat} : ∀ {c : Code} {s s' : St} {az as' : List Ans} {e : Ex} {p : List Prop}, execO P T call L f rnd fl nt c s az = some (e, s', as', p) → AllP p →
    exec P T call L f rnd fl nt c s = some (e, s') := by
  intro c
  induction c with
  | skip => intro s s' az as' e p h hp; simp only [execO, Option.some.injEq, Prod.mk.injEq] at h; obtain ⟨rfl, rfl, _, _⟩ := h; rfl
  | label l => intro s s' az as' e p h hp; simp only [execO, Option.some.injEq, Prod.mk.injEq] at h; obtain ⟨rfl, rfl, _, _⟩ := h; rfl
  | exit id => intro s s' az as' e p h hp; simp only [execO, Option.some.injEq, Prod.mk.injEq] at h; obtain ⟨rfl, rfl, _, _⟩ := h; rfl
  | ret => intro s s' az as' e p h hp; simp only [execO, Option.some.injEq, Prod.mk.injEq] at h; obtain ⟨rfl, rfl, _, _⟩ := h; rfl
  | region id ops draw =>
    intro s s' az as' e p h hp
    simp only [execO] at h
    split at h
    · rename_i s1 infs as1 q hr
      split at h
      · split at h
        · rename_i hs
          simp only [Option.some.injEq, Prod.mk.injEq] at h
          obtain ⟨rfl, rfl, rfl, rfl⟩ := h
          have h1 := runO_ok hr hp.app.1
          simp only [exec, h1]
          rw [if_pos]
          simp only [Bool.or_eq_true, Bool.and_eq_true]
          refine .inr ⟨hp.app.2.1, dynOk_quiet (fun i hi => ?_) ?_⟩
          · have := List.all_eq_true.mp hs i hi
            exact List.isEmpty_iff.mp this
          · rw [runO_len hr]; exact hot_range
        · cases h
      · split at h
        · rename_i hs
          simp only [Option.some.injEq, Prod.mk.injEq] at h
          obtain ⟨rfl, rfl, rfl, rfl⟩ := h
          have h1 := runO_ok hr hp.app.1
          simp only [exec, h1]
          rw [if_pos]
          simp only [Bool.or_eq_true, Bool.and_eq_true]
          exact .inr ⟨hs, hp.app.2.1⟩
        · cases h
      · split at h
        · rename_i hd
          simp only [Option.some.injEq, Prod.mk.injEq] at h
          obtain ⟨rfl, rfl, rfl, rfl⟩ := h
          have h1 := runO_ok hr hp
          simp only [exec, h1, hd, if_true]
        · cases h
    · cases h
  | seq a b iha ihb =>
    intro s s' az as' e p h hp
    simp only [execO] at h
    simp only [exec]
    split at h
    · rename_i s1 as1 q ha
      split at h
      · rename_i e2 s2 as2 q2 hb
        simp only [Option.some.injEq, Prod.mk.injEq] at h
        obtain ⟨rfl, rfl, rfl, rfl⟩ := h
        rw [iha ha hp.app.1]
        exact ihb hb hp.app.2
      · cases h
    · rename_i hne
      have := iha h hp
      rw [this]
      cases e with
      | norm => exact (hne _ _ _ h).elim
      | _ => rfl
  | cond c a b iha ihb =>
    intro s s' az as' e p h hp
    simp only [execO] at h
    simp only [exec]
    split at h
    · rename_i t as1
      split at h
      · rename_i u hu
        rw [hu]
        split at h
        · split at h
          · rename_i e2 s2 as2 q hx
            simp only [Option.some.injEq, Prod.mk.injEq] at h
            obtain ⟨rfl, rfl, rfl, rfl⟩ := h
            obtain ⟨rfl, hq⟩ := hp
            exact iha hx hq
          · cases h
        · split at h
          · rename_i e2 s2 as2 q hx
            simp only [Option.some.injEq, Prod.mk.injEq] at h
            obtain ⟨rfl, rfl, rfl, rfl⟩ := h
            obtain ⟨rfl, hq⟩ := hp
            exact ihb hx hq
          · cases h
      · cases h
    · cases h
  | block id b ih =>
    intro s s' az as' e p h hp
    simp only [execO] at h
    simp only [exec]
    split at h
    · rename_i i s1 as1 q hb
      simp only [Option.some.injEq, Prod.mk.injEq] at h
      obtain ⟨rfl, rfl, rfl, rfl⟩ := h
      rw [ih hb hp]
    · rename_i hne
      rw [ih h hp]
      cases e with
      | exit i => exact (hne _ _ _ _ h).elim
      | _ => rfl
  | loop b ih =>
    intro s s' az as' e p h hp
    simp only [execO] at h
    split at h
    · simp only [Option.some.injEq, Prod.mk.injEq] at h
      obtain ⟨rfl, rfl, rfl, rfl⟩ := h
      exact hp.1
    · cases h
  | rangeFunc g ps asg body iha ihb =>
    intro s s' az as' e p h hp
    simp only [execO] at h
    split at h
    · simp only [Option.some.injEq, Prod.mk.injEq] at h
      obtain ⟨rfl, rfl, rfl, rfl⟩ := h
      exact hp.1
    · cases h
  | _ => intro s s' az as' e p h hp; simp [execO] at h
theorem resOs_ok {s : St} : ∀ {rs : List ResultVar} {az as' : List Ans} {vs : List TV} {q : List Prop}, resOs P s az rs = some (vs, as', q) → AllP q → resTs P s rs = some vs
  | [], az, as', vs, q, h, _ => by
    simp only [resOs, Option.some.injEq, Prod.mk.injEq] at h
    obtain ⟨rfl, _, _⟩ := h
    rfl
  | .tmp t :: rs, az, as', vs, q, h, hq => by
    simp only [resOs] at h
    split at h
    · rename_i v hv
      split at h
      · rename_i vs1 as1 q1 hr
        simp only [Option.some.injEq, Prod.mk.injEq] at h
        obtain ⟨rfl, rfl, rfl⟩ := h
        simp only [resTs, resT, hv, resOs_ok hr hq]
      · cases h
    · cases h
  | .cell a t :: rs, az, as', vs, q, h, hq => by
    simp only [resOs] at h
    split at h
    · rename_i k off ha
      split at h
      · rename_i v i hv
        split at h
        · rename_i vs1 as1 q1 hr
          simp only [Option.some.injEq, Prod.mk.injEq] at h
          obtain ⟨rfl, rfl, rfl⟩ := h
          simp only [resTs, resT, ha, hv, Option.map_some, resOs_ok hr hq]
        · cases h
      · cases h
    · rename_i b off lim ha
      split at h
      · rename_i v as0 agg n hg hn
        split at h
        · rename_i vs1 as1 q1 hr
          simp only [Option.some.injEq, Prod.mk.injEq] at h
          obtain ⟨rfl, rfl, rfl⟩ := h
          simp only [resTs, resT, ha, loadT_rd hg hn hq.1, Option.map_some, resOs_ok hr hq.2]
        · cases h
      · cases h
    · cases h
end
end Tw
namespace Tw
open Go
def loopsOf : Code → List Code
  | .seq a b => loopsOf a ++ loopsOf b
  | .cond _ a b => loopsOf a ++ loopsOf b
  | .block _ b => loopsOf b
  | .loop b => b :: loopsOf b
  | .scope b => loopsOf b
  | .rangeFunc _ _ a b => loopsOf a ++ loopsOf b
  | _ => []
def bodyAt (P : Program) (f k : Nat) : Code :=
  match fnT P f with
  | some t => (loopsOf t.body).getD k .skip
  | none => .skip
def ntOf (P : Program) (f : Nat) : Nat :=
  match fnT P f with
  | some t => t.nt
  | none => 0
section
variable (P : Program) (T : Tab) (call : CallT) (L f k : Nat) (fl : Nat)
def headOf (s : St) : St := atHead (T.headAt f (headId (bodyAt P f k))) s
def rounds (m : Nat) (s : St) : Option (Ex × St) :=
  iter (fun s => exec P T call L f false fl (ntOf P f) (bodyAt P f k) (headOf P T f k s)) m s
end
end Tw
namespace Tw
open Go
inductive Fs (call : CallT) (fl : Nat) : List Ans → List Prop → Prop where
  | n : Fs call fl [] []
  | a {az : List Ans} {ps : List Prop} (x : Ans) (r : Fs call fl az ps) : Fs call fl (x :: az) ps
  | o {az : List Ans} {ps : List Prop} {p : Prop} (h : p) (r : Fs call fl az ps) : Fs call fl az (p :: ps)
namespace Fs
variable {call : CallT} {fl : Nat} {az : List Ans} {ps : List Prop}
theorem all (h : Fs call fl az ps) : AllP ps := by
  induction h with
  | n => trivial
  | a _ _ ih => exact ih
  | o h _ ih => exact ⟨h, ih⟩
theorem b {c b : Bool} (h : c = b) (r : Fs call fl az ps) : Fs call fl (.br b :: az) ((c = b) :: ps) := .a _ (.o h r)
theorem b2 {c b : Bool} (h : c = b) (r : Fs call fl az ps) : Fs call fl (.br b :: .br b :: az) ((c = b) :: (c = b) :: ps) := .b h (.b h r)
theorem b3 {c b : Bool} (h : c = b) (r : Fs call fl az ps) : Fs call fl (.br b :: .br b :: .br b :: az) ((c = b) :: (c = b) :: (c = b) :: ps) := .b h (.b2 h r)
theorem b4 {c b : Bool} (h : c = b) (r : Fs call fl az ps) : Fs call fl (.br b :: .br b :: .br b :: .br b :: az) ((c = b) :: (c = b) :: (c = b) :: (c = b) :: ps) := .b2 h (.b2 h r)
theorem b8 {c b : Bool} (h : c = b) (r : Fs call fl az ps) : Fs call fl (.br b :: .br b :: .br b :: .br b :: .br b :: .br b :: .br b :: .br b :: az) ((c = b) :: (c = b) :: (c = b) :: (c = b) :: (c = b) :: (c = b) :: (c = b) :: (c = b) :: ps) := .b4 h (.b4 h r)
theorem c {fv : TV} {xs : List TV} {h h' : List HB} {v : TV} (e : call fv xs h = some (v, h', [])) (r : Fs call fl az ps) : Fs call fl (.call v h' [] [] :: az) ((call fv xs h = some (v, h', [])) :: (addKs fl [] [] = []) :: ps) := .a _ (.o e (.o rfl r))
theorem l {g : Bool} {k : Nat} {h : List HB} {b off lim : Nat} {v : TV} (e : rdAt g k h b off lim = some v) (r : Fs call fl az ps) : Fs call fl (.ld v :: az) ((rdAt g k h b off lim = some v) :: ps) := .a _ (.o e r)
theorem i {len : Nat} {iv : TV} {j : Nat} (e : idx len iv = some j) (r : Fs call fl az ps) : Fs call fl (.ix j :: az) ((idx len iv = some j) :: ps) := .a _ (.o e r)
theorem p {P : Program} {t : TypeId} {xv iv : TV} {b off lim : Nat} (e : indexAddrT P t (.val xv) iv = some (.val (.ptr b off lim))) (r : Fs call fl az ps) : Fs call fl (.pt b off lim :: az) ((indexAddrT P t (.val xv) iv = some (.val (.ptr b off lim))) :: ps) := .a _ (.o e r)
theorem r {X : Option TV} {v : TV} (e : X = some v) (r : Fs call fl az ps) : Fs call fl (.rd v :: az) ((X = some v) :: ps) := .a _ (.o e r)
theorem k {X : Option (TV × Inf)} {v : TV} (e : X = some (v, noInf)) (r : Fs call fl az ps) : Fs call fl (.rd v :: az) ((X = some (v, noInf)) :: ps) := .a _ (.o e r)
theorem w {P : Program} {T : Tab} {L f k m : Nat} {q : St} {x : Ex} {s : St} (e : rounds P T call L f k fl m q = some (x, s)) (r : Fs call fl az ps) : Fs call fl (.loop x s :: az) ((rounds P T call L f k fl m q = some (x, s)) :: ps) := .a _ (.o e r)
theorem v {X : Option (Ex × St)} {x : Ex} {s : St} (e : X = some (x, s)) (r : Fs call fl az ps) : Fs call fl (.loop x s :: az) ((X = some (x, s)) :: ps) := .a _ (.o e r)
theorem g {P : Program} {at_ : Array TypeId} {h h' : List HB} {d x v : TV} {i : Inf} (e : appendT P at_ (onH h) d x = some (v, onH h', i)) {ws ws' : List Nat} (k : addKs fl i.ws ws = ws') (r : Fs call fl az ps) : Fs call fl (.hp v h' i ws' :: az) ((appendT P at_ (onH h) d x = some (v, onH h', i)) :: (addKs fl i.ws ws = ws') :: ps) := .a _ (.o e (.o k r))
theorem u {P : Program} {t : TypeId} {h h' : List HB} {m : Nat} {k v : TV} (e : updateT P t (onH h) (.map m) k v = some (onH h', wrK (.h m))) {ws ws' : List Nat} (q : addW fl m ws = ws') (r : Fs call fl az ps) : Fs call fl (.up h' ws' :: az) ((updateT P t (onH h) (.map m) k v = some (onH h', wrK (.h m))) :: (addW fl m ws = ws') :: ps) := .a _ (.o e (.o q r))
theorem f {p : Prop} (e : p) (r : Fs call fl az ps) : Fs call fl (.fa :: az) (p :: ps) := .a _ (.o e r)
theorem x {p : Prop} (e : p) (r : Fs call fl az ps) : Fs call fl (.bx :: az) (p :: ps) := .a _ (.o e r)
theorem d {p : Prop} (e : p) (r : Fs call fl az ps) : Fs call fl (.dyn :: az) (p :: ps) := .a _ (.o e r)
theorem m {p : Prop} (e : p) (r : Fs call fl az ps) : Fs call fl (.calm :: az) (p :: ps) := .a _ (.o e r)
end Fs
section
variable {P : Program} {T : Tab} {call : CallT} {L f k : Nat} {fl : Nat}
theorem round_on {m : Nat} {s s1 : St} {an : List Ans} {p : List Prop} {r : Option (Ex × St)} (h : execO P T call L f false fl (ntOf P f) (bodyAt P f k) (headOf P T f k s) an = some (.norm, s1, [], p)) (hp : Fs call fl an p)
    (hr : rounds P T call L f k fl m s1 = r) : rounds P T call L f k fl (m + 1) s = r := by
  rw [← hr]
  unfold rounds
  conv => lhs; unfold iter
  rw [execO_ok h hp.all]
theorem round_out {m : Nat} {s s1 : St} {e : Ex} {an : List Ans} {p : List Prop} (h : execO P T call L f false fl (ntOf P f) (bodyAt P f k) (headOf P T f k s) an = some (e, s1, [], p)) (hp : Fs call fl an p) (he : isNorm e = false) :
    rounds P T call L f k fl (m + 1) s = some (e, s1) := by
  unfold rounds
  conv => lhs; unfold iter
  rw [execO_ok h hp.all]
  cases e with
  | norm => cases he
  | _ => rfl
end
end Tw
namespace Tw
open Go
abbrev u8 (n : Int) : TV := .int .u8 n
abbrev andI (k : IntKind) (x y : Int) : Int := k.wrap ((BitVec.ofInt k.bits x &&& BitVec.ofInt k.bits y).toNat : Nat)
abbrev orI (k : IntKind) (x y : Int) : Int := k.wrap ((BitVec.ofInt k.bits x ||| BitVec.ofInt k.bits y).toNat : Nat)
abbrev andnI (k : IntKind) (x y : Int) : Int := k.wrap ((BitVec.ofInt k.bits x &&& ~~~ BitVec.ofInt k.bits y).toNat : Nat)
abbrev quoI (k : IntKind) (x y : Int) : Int := k.wrap (x.tdiv y)
abbrev remI (_k : IntKind) (x y : Int) : Int := x.tmod y
abbrev shlI (k : IntKind) (x y : Int) : Int := k.wrap (x * 2 ^ (min y.toNat k.bits))
abbrev shrI (k : IntKind) (x y : Int) : Int := x.fdiv (2 ^ (min y.toNat k.bits))
abbrev minI (x y : Int) : Int := if y < x then y else x
abbrev maxI (x y : Int) : Int := if x < y then y else x
theorem ite_b {R X : Type} {f : R → X} {x : X} {u : Bool} {a b : R} (ha : u = true → x = f a) (hb : u = false → x = f b) : x = f (if u = true then a else b) := by
  cases u with
  | true => exact ha rfl
  | false => exact hb rfl
def Rw (h : List HB) (b off : Nat) (cs : List TV) : Prop := ∃ all, blkCells h b = some all ∧ sub all off cs.length = some cs
theorem sub_get {all : List TV} {off n : Nat} {cs : List TV} (h : sub all off n = some cs) {i : Nat} (hi : i < n) : all[off + i]? = cs[i]? := by
  unfold sub at h
  split at h
  · cases h
    rw [List.getElem?_take_of_lt hi, List.getElem?_drop]
  · cases h
theorem sub_len {all : List TV} {off n : Nat} {cs : List TV} (h : sub all off n = some cs) : cs.length = n ∧ off + n ≤ all.length := by
  unfold sub at h
  split at h
  · cases h
    simp only [List.length_take, List.length_drop]; omega
  · cases h
theorem sub_sub {all : List TV} {off n o m : Nat} {cs ds : List TV} (h : sub all off n = some cs) (hd : sub cs o m = some ds) : sub all (off + o) m = some ds := by
  have h1 := sub_len h
  have h2 := sub_len hd
  unfold sub at h hd ⊢
  rw [if_pos h1.2] at h
  cases h
  rw [if_pos (by omega)] at hd
  cases hd
  rw [if_pos (by omega)]
  rw [List.drop_take, List.take_take, List.drop_drop, Nat.min_eq_left (by simp only [List.length_take, List.length_drop] at h2; omega)]
theorem Rw.agg {h : List HB} {b off n : Nat} {cs : List TV} (hr : Rw h b off cs) (hn : cs.length = n) {lim : Nat} (hl : off + n ≤ lim) : rdAt true n h b off lim = some (.agg cs) := by
  obtain ⟨all, h1, h2⟩ := hr
  subst hn
  simp only [rdAt, h1, hl, if_true, h2, Option.map]
theorem Rw.fld {h : List HB} {b off : Nat} {cs : List TV} (hr : Rw h b off cs) (k : Nat) {v : TV} (hv : cs[k]? = some v) {o lim : Nat} (ho : o = off + k) (hl : o + 1 ≤ lim) : rdAt false 1 h b o lim = some v := by
  obtain ⟨all, h1, h2⟩ := hr
  subst ho
  have hk : k < cs.length := by
    rcases Nat.lt_or_ge k cs.length with h | h
    · exact h
    · rw [List.getElem?_eq_none h] at hv; cases hv
  simp only [rdAt, h1, hl, if_true, Bool.false_eq_true, if_false, sub_get h2 hk, hv]
theorem Rw.part {h : List HB} {b off : Nat} {cs : List TV} (hr : Rw h b off cs) (k n : Nat) {ds : List TV} (hv : sub cs k n = some ds) {o lim : Nat} (ho : o = off + k) (hl : o + n ≤ lim) : rdAt true n h b o lim = some (.agg ds) := by
  obtain ⟨all, h1, h2⟩ := hr
  subst ho
  simp only [rdAt, h1, hl, if_true, sub_sub h2 hv, Option.map]
def RwS (h : List HB) (b off sz : Nat) (rows : List (List TV)) : Prop :=
  (∀ r ∈ rows, r.length = sz) ∧ ∃ all, blkCells h b = some all ∧ sub all off (rows.length * sz) = some rows.flatten
theorem flat_get {sz : Nat} : ∀ {rows : List (List TV)}, (∀ r ∈ rows, r.length = sz) → ∀ {j : Nat} {r : List TV}, rows[j]? = some r → sub rows.flatten (j * sz) sz = some r ∧ rows.flatten.length = rows.length * sz
  | [], _, j, r, h => by simp at h
  | x :: xs, hl, 0, r, h => by
    simp only [List.getElem?_cons_zero, Option.some.injEq] at h
    subst h
    have hx := hl x (List.mem_cons_self ..)
    have hf : ∀ ys : List (List TV), (∀ r ∈ ys, r.length = sz) → ys.flatten.length = ys.length * sz := by
      intro ys
      induction ys with
      | nil => intro _; simp
      | cons y ys ih => intro hy; simp only [List.flatten_cons, List.length_append, List.length_cons, Nat.add_mul, Nat.one_mul]; rw [ih fun r hr => hy r (List.mem_cons_of_mem _ hr), hy y (List.mem_cons_self ..)]; omega
    refine ⟨?_, hf _ hl⟩
    unfold sub
    simp only [List.flatten_cons, List.length_append]
    rw [if_pos (by omega)]
    simp only [Nat.zero_mul, List.drop_zero, Option.some.injEq]
    rw [List.take_append_of_le_length (by omega), List.take_of_length_le (by omega)]
  | x :: xs, hl, j + 1, r, h => by
    simp only [List.getElem?_cons_succ] at h
    have hx := hl x (List.mem_cons_self ..)
    obtain ⟨h1, h2⟩ := flat_get (fun r hr => hl r (List.mem_cons_of_mem _ hr)) h
    refine ⟨?_, ?_⟩
    · have h3 := sub_len h1
      unfold sub at h1 ⊢
      simp only [List.flatten_cons, List.length_append]
      rw [if_pos (by omega)] at h1
      rw [if_pos (by rw [hx, Nat.add_mul]; omega)]
      rw [← h1, Nat.add_mul, Nat.one_mul, ← hx, Nat.add_comm (j * _), ← List.drop_drop, List.drop_left]
    · simp only [List.flatten_cons, List.length_append, List.length_cons, h2, Nat.add_mul, Nat.one_mul, hx]; omega
theorem RwS.row {h : List HB} {b off sz : Nat} {rows : List (List TV)} (hr : RwS h b off sz rows) {j : Nat} {r : List TV} (hj : rows[j]? = some r) : Rw h b (off + j * sz) r := by
  obtain ⟨hl, all, h1, h2⟩ := hr
  obtain ⟨h3, h4⟩ := flat_get hl hj
  refine ⟨all, h1, ?_⟩
  rw [hl r (List.mem_of_getElem? hj)]
  exact sub_sub h2 h3
theorem blkCells_app {h ext : List HB} {b : Nat} {cs : List TV} (hb : blkCells h b = some cs) : blkCells (h ++ ext) b = some cs := by
  unfold blkCells at hb ⊢
  have : b < h.length := by
    rcases Nat.lt_or_ge b h.length with e | e
    · exact e
    · rw [List.getElem?_eq_none e] at hb; cases hb
  rw [List.getElem?_append_left this]
  exact hb
theorem RwS.app {h : List HB} {b off sz : Nat} {rows : List (List TV)} (hr : RwS h b off sz rows) (ext : List HB) : RwS (h ++ ext) b off sz rows := by
  obtain ⟨hl, all, h1, h2⟩ := hr
  exact ⟨hl, all, blkCells_app h1, h2⟩
theorem Rw.app {h : List HB} {b off : Nat} {cs : List TV} (hr : Rw h b off cs) (ext : List HB) : Rw (h ++ ext) b off cs := by
  obtain ⟨all, h1, h2⟩ := hr
  exact ⟨all, blkCells_app h1, h2⟩
theorem blkCells_new {h : List HB} {k : BK} {cs : List TV} : blkCells (h ++ [.cells k cs]) h.length = some cs := by
  simp [blkCells]
theorem idx_nat {len i : Nat} (h : i < len) : idx len (.int .i64 (i : Int)) = some i := by
  simp only [idx]
  rw [if_pos (by omega)]; simp
theorem idx_int {len : Nat} {i : Int} (h0 : 0 ≤ i) (h : i < len) : idx len (.int .i64 i) = some i.toNat := by
  simp only [idx]
  rw [if_pos ⟨h0, h⟩]
theorem iter_le {g : St → Option (Ex × St)} : ∀ {m L : Nat} {s : St} {r : Ex × St}, iter g m s = some r → m ≤ L → iter g L s = some r
  | 0, _, _, _, h, _ => by simp [iter] at h
  | m + 1, L, s, r, h, hl => by
    obtain ⟨L, rfl⟩ : ∃ k, L = k + 1 := ⟨L - 1, by omega⟩
    unfold iter at h ⊢
    split at h
    · exact iter_le h (by omega)
    · exact h
section
variable {P : Program} {T : Tab} {call : CallT} {L f k : Nat} {fl : Nat}
theorem rounds_le {m M : Nat} {s : St} {r : Ex × St} (h : rounds P T call L f k fl m s = some r) (hl : m ≤ M) : rounds P T call L f k fl M s = some r := iter_le h hl
end
end Tw
namespace Tw
open Go
theorem rounds_congr {P : Program} {T : Tab} {call : CallT} {L f k fl m : Nat} {s s' : St} (h : headOf P T f k s = headOf P T f k s') : rounds P T call L f k fl m s = rounds P T call L f k fl m s' := by
  cases m with
  | zero => rfl
  | succ m =>
    unfold rounds
    unfold iter
    simp only [h]
end Tw
namespace Tw
open Go
section
variable {P : Program}
theorem pr_equalIn_struct (d : Nat) (t : TypeId) (xs ys : Array Value) (fs : Array Field) (ht : P.underlying t = some (.struct fs)) (hp : P.stoodInHeld t = false) :
    pureRun P (Op.equalIn (d + 1) t (.agg xs) (.agg ys)) = pureRun P (Op.eqFields d xs ys fs.toList) := by
  have hu : pureRun P (underlying t) = some (.struct fs) := by
    simp only [underlying, pureRun_bind]
    have : pureRun P program = some P := rfl
    simp [this, ht, pureRun]
    rfl
  simp only [Op.equalIn, pureRun_bind, hu, Option.bind_some, show pureRun P program = some P from rfl, hp, Bool.false_eq_true, if_false]
  rw [← Array.forIn_toList]
  generalize fs.toList = fs
  clear ht hu
  induction fs with
  | nil => simp [Op.eqFields, pureRun, pureRun_bind]; rfl
  | cons f fs ih =>
    simp only [List.forIn_cons, Op.eqFields, pureRun_bind] at ih ⊢
    split
    · simp only [pureRun_bind]
      generalize pureRun P (part f.type xs f.offset) = r1
      cases r1 with
      | none => simp
      | some a =>
        simp only [Option.bind_some]
        generalize pureRun P (part f.type ys f.offset) = r2
        cases r2 with
        | none => simp
        | some b =>
          simp only [Option.bind_some]
          generalize pureRun P (Op.equalIn d f.type a b) = r3
          cases r3 with
          | none => simp
          | some r =>
            cases r with
            | false => simp only [Option.bind_some, Bool.not_false, if_true]; rfl
            | true => simp only [Option.bind_some, Bool.not_true, Bool.false_eq_true, if_false]; exact ih
    · exact ih
theorem pr_equalIn_int (d : Nat) (t : TypeId) (k k' : IntKind) (a b : Int) (h : P.underlying t = some (.int k')) : pureRun P (Op.equalIn (d + 1) t (.int k a) (.int k b)) = some (a == b) := by
  have hu : pureRun P (underlying t) = some (.int k') := by
    simp only [underlying, pureRun_bind, show pureRun P program = some P from rfl, Option.bind_some, h]
    rfl
  simp only [Op.equalIn, pureRun_bind, hu, Option.bind_some, if_true]
  rfl
theorem pr_eqFields_cons {d : Nat} {xs ys : Array Value} {f : Field} {fs : List Field} {a b : Value} {r : Bool} (hn : f.name ≠ "_") (ha : pureRun P (part f.type xs f.offset) = some a) (hb : pureRun P (part f.type ys f.offset) = some b)
    (hr : pureRun P (Op.equalIn d f.type a b) = some r) : pureRun P (Op.eqFields d xs ys (f :: fs)) = if r = true then pureRun P (Op.eqFields d xs ys fs) else some false := by
  simp only [Op.eqFields]
  rw [if_pos hn]
  simp only [pureRun_bind, ha, hb, hr, Option.bind_some]
  cases r with
  | true => rfl
  | false => rfl
theorem binT_eql_agg {t : TypeId} {x y : Operand} {xs ys : List TV} {us vs : List Value} {r : Bool} (hx : TV.toCs xs = some us) (hy : TV.toCs ys = some vs) (hg : P.eqGuardType P.depth t = false)
    {d : Nat} (hd : d = 10000) (h : pureRun P (Op.equalIn d t (.agg us.toArray) (.agg vs.toArray)) = some r) : binT P .eql t x y (.agg xs) (.agg ys) = some (.bool r) ∧ binT P .neq t x y (.agg xs) (.agg ys) = some (.bool (!r)) := by
  subst hd
  constructor
  all_goals
    simp only [binT, TV.toV, hx, hy, Option.map_some]
    simp only [eqGuard, binOp, Op.equal, Op.maxDepth, pureRun_bind, show pureRun P program = some P from rfl, hg, Option.bind_some, Bool.not_true, Bool.not_false, Bool.false_eq_true, if_false, if_true, h]
    rfl
theorem binT_shl {t : TypeId} {x y : Operand} {k k' : IntKind} {a b : Int} (h : 0 ≤ b) : binT P .shl t x y (.int k a) (.int k' b) = some (.int k (shlI k a b)) := by
  simp only [binT, TV.toV, TV.toC, eqGuard, binOp, Op.shift]
  rw [if_neg (show ¬ b < 0 by omega)]
  rfl
theorem binT_shr {t : TypeId} {x y : Operand} {k k' : IntKind} {a b : Int} (h : 0 ≤ b) : binT P .shr t x y (.int k a) (.int k' b) = some (.int k (shrI k a b)) := by
  simp only [binT, TV.toV, TV.toC, eqGuard, binOp, Op.shift]
  rw [if_neg (show ¬ b < 0 by omega)]
  rfl
theorem binT_quo {t : TypeId} {x y : Operand} {k : IntKind} {a b : Int} (h : b ≠ 0) : binT P .quo t x y (.int k a) (.int k b) = some (.int k (quoI k a b)) := by
  simp only [binT, TV.toV, TV.toC, eqGuard, binOp, Op.intDiv]
  rw [if_neg h]
  cases k <;> rfl
theorem binT_rem {t : TypeId} {x y : Operand} {k : IntKind} {a b : Int} (h : b ≠ 0) : binT P .rem t x y (.int k a) (.int k b) = some (.int k (remI k a b)) := by
  simp only [binT, TV.toV, TV.toC, eqGuard, binOp, Op.intDiv]
  rw [if_neg h]
  cases k <;> rfl
theorem wrap_u8_nn (z : Int) : 0 ≤ IntKind.u8.wrap z := by
  simp only [IntKind.wrap, IntKind.bits, IntKind.signed]
  simp
  omega
end
end Tw
namespace Tw
open Go
def eb : TV → Nat
  | .slc b _ _ _ _ _ => b
  | _ => 0
def eo : TV → Int → Nat
  | .slc _ off _ _ sz _, i => off + i.toNat * sz
  | _, _ => 0
def SV {α : Type} (h : List HB) (x : TV) (sz : Nat) (enc : α → List TV) (l : List α) : Prop :=
  (x = .nil .slc ∧ l = []) ∨ ∃ b off cap ex, x = .slc b off l.length cap sz ex ∧ RwS h b off sz (l.map enc)
section
variable {P : Program} {α : Type} {h : List HB} {x : TV} {sz : Nat} {enc : α → List TV} {l : List α}
theorem SV.app (hs : SV h x sz enc l) (ext : List HB) : SV (h ++ ext) x sz enc l := by
  rcases hs with h | ⟨b, off, cap, ex, h1, h2⟩
  · exact .inl h
  · exact .inr ⟨b, off, cap, ex, h1, h2.app ext⟩
theorem SV.len (hs : SV h x sz enc l) {t e : TypeId} (ht : P.underlying t = some (.slice e)) : lenT P #[t] h x = some (.int .i64 (l.length : Nat), noInf) := by
  rcases hs with ⟨rfl, rfl⟩ | ⟨b, off, cap, ex, rfl, h2⟩
  · simp only [lenT, show (#[t] : Array TypeId)[0]? = some t from rfl, ht, List.length_nil]; rfl
  · simp only [lenT, show (#[t] : Array TypeId)[0]? = some t from rfl, ht]
theorem SV.ix (hs : SV h x sz enc l) {t e : TypeId} (ht : P.underlying t = some (.slice e)) (he : sizeT P e = some sz) {i : Int} (h0 : 0 ≤ i) (h1 : i < l.length) :
    indexAddrT P t (.val x) (.int .i64 i) = some (.val (.ptr (eb x) (eo x i) (eo x i + sz))) := by
  rcases hs with ⟨rfl, rfl⟩ | ⟨b, off, cap, ex, rfl, h2⟩
  · simp only [List.length_nil] at h1; omega
  · simp only [indexAddrT, ht, he, if_true, idx_int h0 h1, Option.map_some, eb, eo]
theorem SV.rw (hs : SV h x sz enc l) {i : Int} (h0 : 0 ≤ i) (h1 : i < l.length) (d : α) : Rw h (eb x) (eo x i) (enc (l.getD i.toNat d)) := by
  rcases hs with ⟨rfl, rfl⟩ | ⟨b, off, cap, ex, rfl, h2⟩
  · simp only [List.length_nil] at h1; omega
  · have hlt : i.toNat < l.length := by omega
    exact h2.row (by simp [List.getD, List.getElem?_eq_getElem hlt])
theorem SV.agg (hs : SV h x sz enc l) {i : Int} (h0 : 0 ≤ i) (h1 : i < l.length) (d : α) (hz : (enc (l.getD i.toNat d)).length = sz) : rdAt true sz h (eb x) (eo x i) (eo x i + sz) = some (.agg (enc (l.getD i.toNat d))) :=
  (hs.rw h0 h1 d).agg hz (Nat.le_refl _)
theorem SV.fld (hs : SV h x sz enc l) {i : Int} (h0 : 0 ≤ i) (h1 : i < l.length) (d : α) (k : Nat) {v : TV} (hk : k < sz) (hv : (enc (l.getD i.toNat d))[k]? = some v) : rdAt false 1 h (eb x) (eo x i + k) (eo x i + sz) = some v :=
  (hs.rw h0 h1 d).fld k hv rfl (by omega)
theorem SV.fld0 (hs : SV h x sz enc l) {i : Int} (h0 : 0 ≤ i) (h1 : i < l.length) (d : α) {v : TV} (hk : 0 < sz) (hv : (enc (l.getD i.toNat d))[0]? = some v) : rdAt false 1 h (eb x) (eo x i) (eo x i + sz) = some v :=
  (hs.rw h0 h1 d).fld 0 hv rfl (by omega)
theorem SV.new {h : List HB} {k : BK} {cap : Nat} {ex : Bool} (l : List α) (hz : ∀ a ∈ l, (enc a).length = sz) {cs : List TV} (hc : cs = (l.map enc).flatten) : SV (h ++ [.cells k cs]) (.slc h.length 0 l.length cap sz ex) sz enc l := by
  subst hc
  refine .inr ⟨_, _, _, _, rfl, ?_⟩
  refine ⟨by simpa using hz, _, blkCells_new, ?_⟩
  unfold sub
  have : (l.map enc).flatten.length = l.length * sz := by
    clear h
    induction l with
    | nil => simp
    | cons a l ih => simp only [List.map_cons, List.flatten_cons, List.length_append, List.length_cons, Nat.add_mul, Nat.one_mul, ih fun b hb => hz b (List.mem_cons_of_mem _ hb), hz a (List.mem_cons_self ..)]; omega
  rw [if_pos (by simp only [List.length_map]; omega), List.drop_zero, List.take_of_length_le (by simp only [List.length_map]; omega)]
theorem SV.nil : SV h (.nil .slc) sz enc ([] : List α) := .inl ⟨rfl, rfl⟩
end
end Tw
namespace Tw
theorem SV.one {α : Type} {h : List HB} {x : TV} {sz : Nat} {enc : α → List TV} {l : List α} (hs : SV h x sz enc l) : oneT x = true := by
  rcases hs with ⟨rfl, rfl⟩ | ⟨b, off, cap, ex, rfl, h2⟩ <;> rfl
end Tw
namespace Tw
theorem one_map {r : Nat} : oneT (.map r) = true := rfl
theorem one_int {k : Go.IntKind} {r : Int} : oneT (.int k r) = true := rfl
theorem one_bool {r : Bool} : oneT (.bool r) = true := rfl
theorem one_str {r : ByteArray} : oneT (.str r) = true := rfl
theorem one_nil {k : NK} : oneT (.nil k) = true := rfl
theorem one_ptr {b o l : Nat} : oneT (.ptr b o l) = true := rfl
theorem one_slc {b o l c z : Nat} {e : Bool} : oneT (.slc b o l c z e) = true := rfl
theorem one_fn {f : Nat} {a b : List TV} : oneT (.fn f a b) = true := rfl
end Tw
namespace Tw
open Go
theorem SV.part {α : Type} {sz : Nat} {enc : α → List TV} {h : List HB} {k : BK} {cap : Nat} {ex : Bool} (off : Nat) (l : List α) {cs : List TV} (hz : ∀ a ∈ l, (enc a).length = sz) (hc : (cs.drop off).take (l.length * sz) = (l.map enc).flatten) (hle : off + l.length * sz ≤ cs.length) :
    SV (h ++ [.cells k cs]) (.slc h.length off l.length cap sz ex) sz enc l := by
  refine .inr ⟨_, _, _, _, rfl, ?_⟩
  refine ⟨by simpa using hz, _, blkCells_new, ?_⟩
  unfold sub
  rw [List.length_map, if_pos hle, hc]
end Tw
namespace Tw
open Go
theorem wrap_succ {i : Nat} (h : i < 2 ^ 60) : IntKind.i64.wrap ((i : Int) + 1) = ((i + 1 : Nat) : Int) := by
  simp only [IntKind.wrap, IntKind.bits, IntKind.signed]
  have : ((i : Int) + 1) % (2 ^ 64 : Int) = (i : Int) + 1 := Int.emod_eq_of_lt (by omega) (by omega)
  simp only [this]
  rw [if_neg (by simp; omega)]
  omega
def runL {α σ ρ : Type} (step : Nat → α → σ → σ ⊕ ρ) : List α → Nat → σ → σ ⊕ ρ
  | [], _, s => .inl s
  | a :: l, i, s => match step i a s with
    | .inl s' => runL step l (i + 1) s'
    | .inr r => .inr r
def lpEnd {σ ρ : Type} (e : Ex) (X : σ → St) (R : ρ → Ex × St) : σ ⊕ ρ → Option (Ex × St)
  | .inl s => some (e, X s)
  | .inr r => some (R r)
def isL {σ ρ : Type} : σ ⊕ ρ → Bool
  | .inl _ => true
  | .inr _ => false
def getL {σ ρ : Type} (d : σ) : σ ⊕ ρ → σ
  | .inl s => s
  | .inr _ => d
def getR {σ ρ : Type} (d : ρ) : σ ⊕ ρ → ρ
  | .inl _ => d
  | .inr r => r
def getE {σ : Type} : σ ⊕ Empty → σ
  | .inl s => s
theorem lpEnd_l {σ ρ : Type} {e : Ex} {X : σ → St} {R : ρ → Ex × St} {r : σ ⊕ ρ} (d : σ) (h : isL r = true) : lpEnd e X R r = some (e, X (getL d r)) := by
  cases r with
  | inl s => rfl
  | inr r => cases h
theorem lpEnd_r {σ ρ : Type} {e : Ex} {X : σ → St} {R : ρ → Ex × St} {r : σ ⊕ ρ} (d : ρ) (h : isL r = false) : lpEnd e X R r = some (R (getR d r)) := by
  cases r with
  | inl s => cases h
  | inr r => rfl
theorem lpEnd_e {σ : Type} {e : Ex} {X : σ → St} {R : Empty → Ex × St} {r : σ ⊕ Empty} : lpEnd e X R r = some (e, X (getE r)) := by
  cases r with
  | inl s => rfl
  | inr r => exact r.elim
section
variable {P : Program} {T : Tab} {call : CallT} {L f k fl : Nat}
def StepOk {σ ρ : Type} (P : Program) (T : Tab) (call : CallT) (L f k fl : Nat) (W : σ → Int → St) (R : ρ → Ex × St) (Inv : Nat → σ → Prop) (i m : Nat) (s : σ) : σ ⊕ ρ → Prop
  | .inl s' => Inv (i + 1) s' ∧ rounds P T call L f k fl (m + 1) (W s i) = rounds P T call L f k fl m (W s' (IntKind.i64.wrap ((i : Int) + 1)))
  | .inr r => rounds P T call L f k fl (m + 1) (W s i) = some (R r)
theorem step_ite {σ ρ : Type} {W : σ → Int → St} {R : ρ → Ex × St} {Inv : Nat → σ → Prop} {i m : Nat} {s : σ} {u : Bool} {a b : σ ⊕ ρ} (ha : u = true → StepOk P T call L f k fl W R Inv i m s a) (hb : u = false → StepOk P T call L f k fl W R Inv i m s b) :
    StepOk P T call L f k fl W R Inv i m s (if u = true then a else b) := by
  cases u with
  | true => exact ha rfl
  | false => exact hb rfl
theorem foreach {α σ ρ : Type} {W : σ → Int → St} {X : σ → Int → St} {e : Ex} {R : ρ → Ex × St} {step : Nat → α → σ → σ ⊕ ρ} {all : List α} (Inv : Nat → σ → Prop)
    (hstep : ∀ (i : Nat) (a : α) (s : σ) (m : Nat), Inv i s → all[i]? = some a → StepOk P T call L f k fl W R Inv i m s (step i a s))
    (hout : ∀ (s : σ) (m : Nat), Inv all.length s → rounds P T call L f k fl (m + 1) (W s all.length) = some (e, X s all.length)) (hlen : all.length < 2 ^ 60) :
    ∀ (l : List α) (i : Nat) (s : σ) (m : Nat), all.drop i = l → i ≤ all.length → Inv i s → l.length < m →
      rounds P T call L f k fl m (W s i) = match runL step l i s with
        | .inl s' => some (e, X s' all.length)
        | .inr r => some (R r)
  | [], i, s, m, hd, hi, hI, hm => by
    obtain ⟨m, rfl⟩ : ∃ k, m = k + 1 := ⟨m - 1, by omega⟩
    have : i = all.length := by
      have := congrArg List.length hd
      simp only [List.length_drop, List.length_nil] at this
      omega
    subst this
    exact hout s m hI
  | a :: l, i, s, m, hd, hi, hI, hm => by
    obtain ⟨m, rfl⟩ : ∃ k, m = k + 1 := ⟨m - 1, by omega⟩
    have hlt : i < all.length := by
      have := congrArg List.length hd
      simp only [List.length_drop, List.length_cons] at this
      omega
    have ha : all[i]? = some a := by
      have := congrArg (·[0]?) hd
      simpa using this
    have hd' : all.drop (i + 1) = l := by
      have := congrArg List.tail hd
      simpa using this
    have := hstep i a s m hI ha
    simp only [runL]
    cases hs : step i a s with
    | inl s' =>
      rw [hs] at this
      rw [this.2, wrap_succ (by omega)]
      exact foreach Inv hstep hout hlen l (i + 1) s' m hd' hlt this.1 (by simp only [List.length_cons] at hm; omega)
    | inr r =>
      rw [hs] at this
      exact this
theorem foreach0 {α σ ρ : Type} {W : σ → Int → St} {X : σ → Int → St} {e : Ex} {R : ρ → Ex × St} {step : Nat → α → σ → σ ⊕ ρ} {all : List α} (Inv : Nat → σ → Prop)
    (hstep : ∀ (i : Nat) (a : α) (s : σ) (m : Nat), Inv i s → all[i]? = some a → StepOk P T call L f k fl W R Inv i m s (step i a s))
    (hout : ∀ (s : σ) (m : Nat), Inv all.length s → rounds P T call L f k fl (m + 1) (W s all.length) = some (e, X s all.length)) (hlen : all.length < 2 ^ 60) (s : σ) (m : Nat) (hI : Inv 0 s) (hm : all.length < m) :
      rounds P T call L f k fl m (W s 0) = lpEnd e (fun s => X s all.length) R (runL step all 0 s) := by
  have := foreach Inv hstep hout hlen all 0 s m rfl (Nat.zero_le _) hI hm
  rw [show ((0 : Nat) : Int) = 0 from rfl] at this
  rw [this]
  cases runL step all 0 s <;> rfl
end
theorem SV.at {α : Type} {h : List HB} {x : TV} {sz : Nat} {enc : α → List TV} {l : List α} (hs : SV h x sz enc l) {i : Nat} {a : α} (ha : l[i]? = some a) : (i : Int) < l.length ∧ Rw h (eb x) (eo x i) (enc a) := by
  have h1 : i < l.length := by
    rcases Nat.lt_or_ge i l.length with h | h
    · exact h
    · rw [List.getElem?_eq_none h] at ha; cases ha
  have := hs.rw (i := i) (by omega) (by omega) a
  simp only [Int.toNat_natCast, List.getD, ha, Option.getD_some] at this
  exact ⟨by omega, this⟩
end Tw
namespace Tw
open Go
inductive AT where
  | n
  | a (x : Ans) (r : AT)
  | s (t e : AT)
  | z (c : Bool) (t e : AT)
  | l (m : Nat) (r : AT)
inductive OT where
  | ret (v : TV) (h : List HB) (ws : List Nat)
  | o (p : Prop) (r : OT)
  | br (c : Bool) (t e : OT)
def OT.Ok : OT → Prop
  | .ret .. => True
  | .o p r => p ∧ r.Ok
  | .br c t e => (c = true → t.Ok) ∧ (c = false → e.Ok)
def OT.val : OT → TV × List HB × List Nat
  | .ret v h ws => (v, h, ws)
  | .o _ r => r.val
  | .br true t _ => t.val
  | .br false _ e => e.val
def both (c : Bool) : Option OT → Option OT → Option OT
  | some t, some e => some (.br c t e)
  | _, _ => none
def oweAll : List Prop → Option OT → Option OT
  | [], x => x
  | p :: ps, x => match oweAll ps x with
    | some r => some (.o p r)
    | none => none
def splitK : AT → (AT → Option OT) → Option OT
  | .z c a b, k => both c (splitK a k) (splitK b k)
  | .n, k => k .n
  | .a x r, k => k (.a x r)
  | .s a b, k => k (.s a b)
  | .l m r, k => k (.l m r)
def iterK (step : St → AT → (Ex → St → AT → Option OT) → Option OT) : Nat → St → AT → (Ex → St → AT → Option OT) → Option OT
  | 0, _, _, _ => none
  | m + 1, s, an, k => step s an fun e s an => match e with
    | .norm => iterK step m s an k
    | e => k e s an
def flatA : AT → Option (List Ans)
  | .n => some []
  | .a x r => match flatA r with
    | some l => some (x :: l)
    | none => none
  | _ => none
section
variable (P : Program) (T : Tab) (call : CallT) (L : Nat)
def op1 (site : Nat → Bool) (fl : Nat) (s : St) (o : Oper) (az : List Ans) (an : AT) (k : EV → St → Inf → AT → Option OT) : Option OT :=
  match opO P call site fl s o az with
  | some (v, s1, i, [], ps) => oweAll ps (k v s1 i an)
  | _ => none
def opK (site : Nat → Bool) (fl : Nat) (s : St) (o : Oper) (an : AT) (k : EV → St → Inf → AT → Option OT) : Option OT :=
  match an with
  | .a x r => if asks s o || isBx o [x] then op1 P call site fl s o [x] r k else op1 P call site fl s o [] (.a x r) k
  | .s a b => match o.op with
    | .pick c x y => match tvO s.env c with
      | some (.bool u) => match evO s.env x, evO s.env y with
        | some v, some w => both u (k v s noInf a) (k w s noInf b)
        | _, _ => none
      | _ => none
    | _ => op1 P call site fl s o [] (.s a b) k
  | an => op1 P call site fl s o [] an k
def wantK (ops : Array Oper) (env : List (Nat × EV)) (o : Oper) (an : AT) (k : Bool → AT → Option OT) : Option OT :=
  match o.guard with
  | none => k true an
  | some (j, want) => match (ops[j]?).bind (·.dst) with
    | some d => match lookE d env with
      | some (.val (.bool b)) => match an with
        | .s x y => both b (k (true == want) x) (k (false == want) y)
        | .a (.br true) r => oweAll [b = true] (k (true == want) r)
        | .a (.br false) r => oweAll [b = false] (k (false == want) r)
        | _ => none
      | some .undef => k false an
      | _ => none
    | none => none
def runK (site : Nat → Bool) (fl nt : Nat) (ops : Array Oper) : List Oper → St → AT → (St → List Inf → AT → Option OT) → Option OT
  | [], s, an, k => k s [] an
  | o :: os, s, an, k => if !dstOk nt o then none else splitK an fun an => wantK ops s.env o an fun w an => match w with
    | true => splitK an fun an => opK P call site fl s o an fun v s1 i an => runK site fl nt ops os (s1.put o.dst v) an fun s' is an => k s' (i :: is) an
    | false => runK site fl nt ops os (s.put o.dst .undef) an fun s' is an => k s' (noInf :: is) an
def execK (f : Nat) (rnd : Bool) (fl nt : Nat) : Code → St → AT → (Ex → St → AT → Option OT) → Option OT
  | .skip, s, an, k => k .norm s an
  | .label _, s, an, k => k .norm s an
  | .region id ops draw, s, an, k => runK P call (fun d => rnd || T.siteAt f d) fl nt ops ops.toList s an fun s' infs an =>
    match an with
    | .a .calm r => if infs.all (fun i => i.ws.isEmpty) then oweAll [staticOk ops.toList = true] (k .norm { s' with env := pick (T.liveAt f id) s'.env } r) else none
    | .a .dyn r => if staticOk ops.toList then oweAll [dynOk infs (hotPairs ops.toList) = true] (k .norm { s' with env := pick (T.liveAt f id) s'.env } r) else none
    | an => if !draw || (staticOk ops.toList && dynOk infs (hotPairs ops.toList)) then k .norm { s' with env := pick (T.liveAt f id) s'.env } an else none
  | .seq a b, s, an, k => execK f rnd fl nt a s an fun e s an => match e with
    | .norm => execK f rnd fl nt b s an k
    | e => k e s an
  | .cond c a b, s, an, k => splitK an fun an => match tvO s.env c with
    | some (.bool u) => match an with
      | .s x y => both u (execK f rnd fl nt a s x k) (execK f rnd fl nt b s y k)
      | .a (.br true) r => oweAll [u = true] (execK f rnd fl nt a s r k)
      | .a (.br false) r => oweAll [u = false] (execK f rnd fl nt b s r k)
      | _ => none
    | _ => none
  | .block id b, s, an, k => execK f rnd fl nt b s an fun e s an => match e with
    | .exit i => k (if i = id then .norm else .exit i) s an
    | e => k e s an
  | .loop b, s, an, k => splitK an fun an => match an with
    | .a (.loop e s') r => oweAll [exec P T call L f rnd fl nt (.loop b) s = some (e, s')] (k e s' r)
    | .l m r => oweAll [m ≤ L] (iterK (fun s an k => execK f rnd fl nt b (atHead (T.headAt f (headId b)) s) an k) m s r k)
    | _ => none
  | .exit id, s, an, k => k (.exit id) s an
  | .ret, s, an, k => k .ret s an
  | .rangeFunc g ps assign body, s, an, k => splitK an fun an => match an with
    | .a (.loop e s') r => oweAll [exec P T call L f rnd fl nt (.rangeFunc g ps assign body) s = some (e, s')] (k e s' r)
    | _ => none
  | _, _, _, _ => none
def endK (rs : List ResultVar) (h : List HB) (e : Ex) (s : St) (an : AT) : Option OT :=
  match e with
  | .exit _ => none
  | _ => splitK an fun an => match flatA an with
    | some az => match resOs P s az rs with
      | some (vs, [], q) => oweAll q (if s.ws.isEmpty && (one vs).flat then some (.ret (one vs) h []) else some (.ret (one vs) s.heap s.ws))
      | _ => none
    | none => none
def funK (f : Nat) (args : List TV) (h : List HB) (an : AT) : Option OT :=
  match fnT P f with
  | some t => execK P T call L f false h.length t.nt t.body ⟨argEnv 0 args, [], h, []⟩ an (endK P t.results h)
  | none => none
end
def Way (ot : OT) (r : Option OT) : Prop := ∃ o', r = some o' ∧ o'.Ok ∧ o'.val = ot.val
theorem both_ok {c : Bool} {x y : Option OT} {ot : OT} (h : both c x y = some ot) (hk : ot.Ok) : (c = true ∧ Way ot x) ∨ (c = false ∧ Way ot y) := by
  unfold both at h
  split at h
  · cases h
    cases c with
    | true => exact .inl ⟨rfl, _, rfl, hk.1 rfl, rfl⟩
    | false => exact .inr ⟨rfl, _, rfl, hk.2 rfl, rfl⟩
  · cases h
theorem oweAll_ok : ∀ {ps : List Prop} {x : Option OT} {ot : OT}, oweAll ps x = some ot → ot.Ok → AllP ps ∧ Way ot x
  | [], x, ot, h, hk => ⟨trivial, _, h, hk, rfl⟩
  | p :: ps, x, ot, h, hk => by
    simp only [oweAll] at h
    split at h
    · rename_i r hr
      cases h
      obtain ⟨h1, o', h2, h3, h4⟩ := oweAll_ok hr hk.2
      exact ⟨⟨hk.1, h1⟩, o', h2, h3, h4⟩
    · cases h
theorem splitK_ok : ∀ {an : AT} {k : AT → Option OT} {ot : OT}, splitK an k = some ot → ot.Ok → ∃ an', Way ot (k an')
  | .z c a b, k, ot, h, hk => by
    simp only [splitK] at h
    rcases both_ok h hk with ⟨_, o', h1, h2, h3⟩ | ⟨_, o', h1, h2, h3⟩
    · obtain ⟨an', o2, g1, g2, g3⟩ := splitK_ok h1 h2
      exact ⟨an', o2, g1, g2, g3.trans h3⟩
    · obtain ⟨an', o2, g1, g2, g3⟩ := splitK_ok h1 h2
      exact ⟨an', o2, g1, g2, g3.trans h3⟩
  | .n, k, ot, h, hk => ⟨_, _, h, hk, rfl⟩
  | .a x r, k, ot, h, hk => ⟨_, _, h, hk, rfl⟩
  | .s x r, k, ot, h, hk => ⟨_, _, h, hk, rfl⟩
  | .l x r, k, ot, h, hk => ⟨_, _, h, hk, rfl⟩
theorem Way.some {ot o1 : OT} {r : Option OT} (h : Way o1 r) (hv : o1.val = ot.val) : Way ot r := by
  obtain ⟨o', h1, h2, h3⟩ := h
  exact ⟨o', h1, h2, h3.trans hv⟩
section
variable {P : Program} {T : Tab} {call : CallT} {L : Nat}
theorem op1_ok {site : Nat → Bool} {fl : Nat} {s : St} {o : Oper} {az : List Ans} {an : AT} {k : EV → St → Inf → AT → Option OT} {ot : OT} (h : op1 P call site fl s o az an k = some ot) (hk : ot.Ok) :
    ∃ v s0 i an', opT P call site s o = some (v, s0, i) ∧ Way ot (k v { s0 with ws := addKs fl i.ws s.ws } i an') := by
  unfold op1 at h
  split at h
  · rename_i v s1 i ps hop
    obtain ⟨hp, hw⟩ := oweAll_ok h hk
    obtain ⟨s0, h1, rfl⟩ := opO_ok hop hp
    exact ⟨v, s0, i, an, h1, hw⟩
  · cases h
theorem opK_ok {site : Nat → Bool} {fl : Nat} {s : St} {o : Oper} {an : AT} {k : EV → St → Inf → AT → Option OT} {ot : OT} (h : opK P call site fl s o an k = some ot) (hk : ot.Ok) :
    ∃ v s0 i an', opT P call site s o = some (v, s0, i) ∧ Way ot (k v { s0 with ws := addKs fl i.ws s.ws } i an') := by
  unfold opK at h
  split at h
  · split at h
    · exact op1_ok h hk
    · exact op1_ok h hk
  · split at h
    · rename_i c x y ho
      split at h
      · rename_i u hu
        split at h
        · rename_i v w hv hw
          rcases both_ok h hk with ⟨rfl, hway⟩ | ⟨rfl, hway⟩
          · exact ⟨v, s, noInf, _, by simp only [opT, ho, hu, hv, if_true]; rfl, hway⟩
          · exact ⟨w, s, noInf, _, by simp only [opT, ho, hu, hw, Bool.false_eq_true, if_false]; rfl, hway⟩
        · cases h
      · cases h
    · exact op1_ok h hk
  · exact op1_ok h hk
theorem wantK_ok {ops : Array Oper} {env : List (Nat × EV)} {o : Oper} {an : AT} {k : Bool → AT → Option OT} {ot : OT} (h : wantK ops env o an k = some ot) (hk : ot.Ok) :
    ∃ w an', wantT ops env o = some w ∧ Way ot (k w an') := by
  unfold wantK at h
  unfold wantT
  split at h
  · rename_i hg
    exact ⟨true, an, by simp only [hg], _, h, hk, rfl⟩
  · rename_i j want hg
    simp only [hg]
    split at h
    · rename_i d hd
      simp only [hd]
      split at h
      · rename_i b hb
        simp only [hb]
        split at h
        · rcases both_ok h hk with ⟨rfl, hway⟩ | ⟨rfl, hway⟩
          · exact ⟨_, _, rfl, hway⟩
          · exact ⟨_, _, rfl, hway⟩
        · obtain ⟨⟨rfl, _⟩, hway⟩ := oweAll_ok h hk
          exact ⟨_, _, rfl, hway⟩
        · obtain ⟨⟨rfl, _⟩, hway⟩ := oweAll_ok h hk
          exact ⟨_, _, rfl, hway⟩
        · cases h
      · rename_i hb
        simp only [hb]
        exact ⟨_, _, rfl, _, h, hk, rfl⟩
      · cases h
    · cases h
theorem runK_ok {site : Nat → Bool} {fl nt : Nat} {ops : Array Oper} : ∀ {os : List Oper} {s : St} {an : AT} {k : St → List Inf → AT → Option OT} {ot : OT}, runK P call site fl nt ops os s an k = some ot → ot.Ok →
    ∃ s' is an', runOps P call site fl nt ops os s = some (s', is) ∧ is.length = os.length ∧ Way ot (k s' is an')
  | [], s, an, k, ot, h, hk => ⟨s, [], an, rfl, rfl, _, h, hk, rfl⟩
  | o :: os, s, an, k, ot, h, hk => by
    simp only [runK] at h
    simp only [runOps]
    split at h
    · cases h
    · rename_i hd
      rw [if_neg hd]
      obtain ⟨an1, o1, h1, k1, v1⟩ := splitK_ok h hk
      obtain ⟨w, an2, hw, o2, h2, k2, v2⟩ := wantK_ok h1 k1
      rw [hw]
      cases w with
      | true =>
        obtain ⟨an3, o3, h3, k3, v3⟩ := splitK_ok h2 k2
        obtain ⟨v, s0, i, an4, hop, o4, h4, k4, v4⟩ := opK_ok h3 k3
        obtain ⟨s', is, an5, hr, hl, o5, h5, k5, v5⟩ := runK_ok h4 k4
        refine ⟨s', i :: is, an5, ?_, by simp only [List.length_cons, hl], o5, h5, k5, v5.trans (v4.trans (v3.trans (v2.trans v1)))⟩
        simp only [hop, hr]
      | false =>
        obtain ⟨s', is, an5, hr, hl, o5, h5, k5, v5⟩ := runK_ok h2 k2
        refine ⟨s', noInf :: is, an5, ?_, by simp only [List.length_cons, hl], o5, h5, k5, v5.trans (v2.trans v1)⟩
        simp only [hr]
theorem iterK_ok {F : St → Option (Ex × St)} {step : St → AT → (Ex → St → AT → Option OT) → Option OT} (hs : ∀ (s : St) (an : AT) (k : Ex → St → AT → Option OT) (ot : OT), step s an k = some ot → ot.Ok → ∃ e s' an', F s = some (e, s') ∧ Way ot (k e s' an')) :
    ∀ {m : Nat} {s : St} {an : AT} {k : Ex → St → AT → Option OT} {ot : OT}, iterK step m s an k = some ot → ot.Ok → ∃ e s' an', iter F m s = some (e, s') ∧ Way ot (k e s' an')
  | 0, s, an, k, ot, h, hk => by simp [iterK] at h
  | m + 1, s, an, k, ot, h, hk => by
    simp only [iterK] at h
    obtain ⟨e, s1, an1, h1, o1, h2, k2, v2⟩ := hs _ _ _ _ h hk
    cases e with
    | norm =>
      obtain ⟨e3, s3, an3, h3, hw⟩ := iterK_ok hs h2 k2
      exact ⟨e3, s3, an3, by simp only [iter, h1]; exact h3, hw.some v2⟩
    | exit i => exact ⟨_, _, _, by simp only [iter, h1], _, h2, k2, v2⟩
    | ret => exact ⟨_, _, _, by simp only [iter, h1], _, h2, k2, v2⟩
theorem execK_ok {f : Nat} {rnd : Bool} {fl nt : Nat} : ∀ {c : Code} {s : St} {an : AT} {k : Ex → St → AT → Option OT} {ot : OT}, execK P T call L f rnd fl nt c s an k = some ot → ot.Ok →
    ∃ e s' an', exec P T call L f rnd fl nt c s = some (e, s') ∧ Way ot (k e s' an') := by
  intro c
  induction c with
  | skip => intro s an k ot h hk; exact ⟨_, _, _, rfl, _, h, hk, rfl⟩
  | label l => intro s an k ot h hk; exact ⟨_, _, _, rfl, _, h, hk, rfl⟩
  | exit id => intro s an k ot h hk; exact ⟨_, _, _, rfl, _, h, hk, rfl⟩
  | ret => intro s an k ot h hk; exact ⟨_, _, _, rfl, _, h, hk, rfl⟩
  | region id ops draw =>
    intro s an k ot h hk
    simp only [execK] at h
    obtain ⟨s', is, an1, hr, hl, o1, h1, k1, v1⟩ := runK_ok h hk
    split at h1
    · split at h1
      · rename_i hs
        obtain ⟨⟨hst, _⟩, hw⟩ := oweAll_ok h1 k1
        refine ⟨.norm, _, _, ?_, hw.some v1⟩
        simp only [exec, hr]
        rw [if_pos]
        simp only [Bool.or_eq_true, Bool.and_eq_true]
        refine .inr ⟨hst, dynOk_quiet (fun i hi => ?_) ?_⟩
        · have := List.all_eq_true.mp hs i hi
          exact List.isEmpty_iff.mp this
        · rw [hl]; exact hot_range
      · cases h1
    · split at h1
      · rename_i hs
        obtain ⟨⟨hdy, _⟩, hw⟩ := oweAll_ok h1 k1
        refine ⟨.norm, _, _, ?_, hw.some v1⟩
        simp only [exec, hr]
        rw [if_pos]
        simp only [Bool.or_eq_true, Bool.and_eq_true]
        exact .inr ⟨hs, hdy⟩
      · cases h1
    · split at h1
      · rename_i hd
        refine ⟨.norm, _, _, ?_, _, h1, k1, v1⟩
        simp only [exec, hr, hd, if_true]
      · cases h1
  | seq a b iha ihb =>
    intro s an k ot h hk
    simp only [execK] at h
    obtain ⟨e, s1, an1, ha, o1, h1, k1, v1⟩ := iha h hk
    cases e with
    | norm =>
      obtain ⟨e2, s2, an2, hb, hw⟩ := ihb h1 k1
      exact ⟨e2, s2, an2, by simp only [exec, ha]; exact hb, hw.some v1⟩
    | exit i => exact ⟨_, _, _, by simp only [exec, ha], _, h1, k1, v1⟩
    | ret => exact ⟨_, _, _, by simp only [exec, ha], _, h1, k1, v1⟩
  | cond c a b iha ihb =>
    intro s an k ot h hk
    simp only [execK] at h
    obtain ⟨an1, o1, h1, k1, v1⟩ := splitK_ok h hk
    split at h1
    · rename_i u hu
      split at h1
      · rcases both_ok h1 k1 with ⟨rfl, o2, h2, k2, v2⟩ | ⟨rfl, o2, h2, k2, v2⟩
        · obtain ⟨e, s', an', hx, hw⟩ := iha h2 k2
          exact ⟨e, s', an', by simp only [exec, hu]; exact hx, hw.some (v2.trans v1)⟩
        · obtain ⟨e, s', an', hx, hw⟩ := ihb h2 k2
          exact ⟨e, s', an', by simp only [exec, hu]; exact hx, hw.some (v2.trans v1)⟩
      · obtain ⟨⟨rfl, _⟩, o2, h2, k2, v2⟩ := oweAll_ok h1 k1
        obtain ⟨e, s', an', hx, hw⟩ := iha h2 k2
        exact ⟨e, s', an', by simp only [exec, hu]; exact hx, hw.some (v2.trans v1)⟩
      · obtain ⟨⟨rfl, _⟩, o2, h2, k2, v2⟩ := oweAll_ok h1 k1
        obtain ⟨e, s', an', hx, hw⟩ := ihb h2 k2
        exact ⟨e, s', an', by simp only [exec, hu]; exact hx, hw.some (v2.trans v1)⟩
      · cases h1
    · cases h1
  | block id b ih =>
    intro s an k ot h hk
    simp only [execK] at h
    obtain ⟨e, s1, an1, ha, o1, h1, k1, v1⟩ := ih h hk
    cases e with
    | norm => exact ⟨_, _, _, by simp only [exec, ha], _, h1, k1, v1⟩
    | exit i => exact ⟨_, _, _, by simp only [exec, ha], _, h1, k1, v1⟩
    | ret => exact ⟨_, _, _, by simp only [exec, ha], _, h1, k1, v1⟩
  | loop b ih =>
    intro s an k ot h hk
    simp only [execK] at h
    obtain ⟨an1, o1, h1, k1, v1⟩ := splitK_ok h hk
    split at h1
    · obtain ⟨⟨hx, _⟩, hw⟩ := oweAll_ok h1 k1
      exact ⟨_, _, _, hx, hw.some v1⟩
    · obtain ⟨⟨hm, _⟩, o2, h2, k2, v2⟩ := oweAll_ok h1 k1
      obtain ⟨e, s', an', hi, hw⟩ := iterK_ok (F := fun s => exec P T call L f rnd fl nt b (atHead (T.headAt f (headId b)) s)) (fun _ _ _ _ h hk => ih h hk) h2 k2
      exact ⟨e, s', an', by simp only [exec]; exact iter_le hi hm, hw.some (v2.trans v1)⟩
    · cases h1
  | rangeFunc g ps asg body iha ihb =>
    intro s an k ot h hk
    simp only [execK] at h
    obtain ⟨an1, o1, h1, k1, v1⟩ := splitK_ok h hk
    split at h1
    · obtain ⟨⟨hx, _⟩, hw⟩ := oweAll_ok h1 k1
      exact ⟨_, _, _, hx, hw.some v1⟩
    · cases h1
  | _ => intro s an k ot h hk; simp [execK] at h
theorem funK_ok {f : Nat} {args : List TV} {h : List HB} {an : AT} {ot : OT} (hf : funK P T call L f args h an = some ot) (hk : ot.Ok) : funT P T call L f args h = some ot.val := by
  unfold funK at hf
  unfold funT
  split at hf
  · rename_i t ht
    obtain ⟨e, s, an1, hx, o1, h1, k1, v1⟩ := execK_ok hf hk
    simp only [ht, hx]
    rw [← v1]
    have go : ∀ {o2 : OT}, (splitK an1 fun an => match flatA an with
        | some az => match resOs P s az t.results with
          | some (vs, [], q) => oweAll q (if s.ws.isEmpty && (one vs).flat then some (.ret (one vs) h []) else some (.ret (one vs) s.heap s.ws))
          | _ => none
        | none => none) = some o2 → o2.Ok → (match resTs P s t.results with
          | some vs => if s.ws.isEmpty && (one vs).flat then some (one vs, h, []) else some (one vs, s.heap, s.ws)
          | none => none) = some o2.val := by
      intro o2 h2 k2
      obtain ⟨an2, o3, h3, k3, v3⟩ := splitK_ok h2 k2
      split at h3
      · split at h3
        · rename_i vs q hvs
          obtain ⟨hq, o4, h4, k4, v4⟩ := oweAll_ok h3 k3
          simp only [resOs_ok hvs hq]
          rw [← v3, ← v4]
          split at h4
          · rename_i hc
            cases h4
            simp only [hc, if_true, OT.val]
          · rename_i hc
            cases h4
            simp only [hc, OT.val]
            rfl
        · cases h3
      · cases h3
    cases e with
    | norm => exact go h1 k1
    | exit i => simp [endK] at h1
    | ret => exact go h1 k1
  · cases hf
end
inductive Ft (call : CallT) (fl : Nat) : AT → OT → TV × List HB × List Nat → Prop where
  | n {v : TV} {h : List HB} {ws : List Nat} : Ft call fl .n (.ret v h ws) (v, h, ws)
  | a {az : AT} {ot : OT} {y : TV × List HB × List Nat} (x : Ans) (r : Ft call fl az ot y) : Ft call fl (.a x az) ot y
  | o {az : AT} {ot : OT} {y : TV × List HB × List Nat} {p : Prop} (h : p) (r : Ft call fl az ot y) : Ft call fl az (.o p ot) y
  | s' {c : Bool} {a1 a2 : AT} {o1 o2 : OT} {y : TV × List HB × List Nat} (t : c = true → Ft call fl a1 o1 y) (e : c = false → Ft call fl a2 o2 y) : Ft call fl (.s a1 a2) (.br c o1 o2) y
  | l' {az : AT} {ot : OT} {y : TV × List HB × List Nat} {m : Nat} {p : Prop} (h : p) (r : Ft call fl az ot y) : Ft call fl (.l m az) (.o p ot) y
  | z' {c : Bool} {a1 a2 : AT} {o1 o2 : OT} {y : TV × List HB × List Nat} (t : c = true → Ft call fl a1 o1 y) (e : c = false → Ft call fl a2 o2 y) : Ft call fl (.z c a1 a2) (.br c o1 o2) y
namespace Ft
variable {call : CallT} {fl : Nat} {az : AT} {ps : OT} {y : TV × List HB × List Nat}
theorem ok (h : Ft call fl az ps y) : ps.Ok ∧ ps.val = y := by
  induction h with
  | n => exact ⟨trivial, rfl⟩
  | a _ _ ih => exact ih
  | o h _ ih => exact ⟨⟨h, ih.1⟩, ih.2⟩
  | l' h _ ih => exact ⟨⟨h, ih.1⟩, ih.2⟩
  | @s' c a1 a2 o1 o2 y t e iht ihe =>
    cases c with
    | true => exact ⟨⟨fun _ => (iht rfl).1, fun h => by cases h⟩, (iht rfl).2⟩
    | false => exact ⟨⟨(fun h => by cases h), fun _ => (ihe rfl).1⟩, (ihe rfl).2⟩
  | @z' c a1 a2 o1 o2 y t e iht ihe =>
    cases c with
    | true => exact ⟨⟨fun _ => (iht rfl).1, fun h => by cases h⟩, (iht rfl).2⟩
    | false => exact ⟨⟨(fun h => by cases h), fun _ => (ihe rfl).1⟩, (ihe rfl).2⟩
theorem s {ρ : Type} {f : ρ → TV × List HB × List Nat} {c : Bool} {a1 a2 : AT} {o1 o2 : OT} {u v : ρ} (t : c = true → Ft call fl a1 o1 (f u)) (e : c = false → Ft call fl a2 o2 (f v)) : Ft call fl (.s a1 a2) (.br c o1 o2) (f (if c = true then u else v)) :=
  .s' (fun h => by rw [if_pos h]; exact t h) (fun h => by rw [if_neg (by rw [h]; exact Bool.false_ne_true)]; exact e h)
theorem z {ρ : Type} {f : ρ → TV × List HB × List Nat} {c : Bool} {a1 a2 : AT} {o1 o2 : OT} {u v : ρ} (t : c = true → Ft call fl a1 o1 (f u)) (e : c = false → Ft call fl a2 o2 (f v)) : Ft call fl (.z c a1 a2) (.br c o1 o2) (f (if c = true then u else v)) :=
  .z' (fun h => by rw [if_pos h]; exact t h) (fun h => by rw [if_neg (by rw [h]; exact Bool.false_ne_true)]; exact e h)
theorem L {m L : Nat} (h : m ≤ L) (r : Ft call fl az ps y) : Ft call fl (.l m az) (.o (m ≤ L) ps) y := .l' h r
theorem b {c b : Bool} (h : c = b) (r : Ft call fl az ps y) : Ft call fl (.a (.br b) az) (.o (c = b) ps) y := .a _ (.o h r)
theorem b2 {c b : Bool} (h : c = b) (r : Ft call fl az ps y) : Ft call fl (.a (.br b) (.a (.br b) az)) (.o (c = b) (.o (c = b) ps)) y := .b h (.b h r)
theorem b3 {c b : Bool} (h : c = b) (r : Ft call fl az ps y) : Ft call fl (.a (.br b) (.a (.br b) (.a (.br b) az))) (.o (c = b) (.o (c = b) (.o (c = b) ps))) y := .b h (.b2 h r)
theorem b4 {c b : Bool} (h : c = b) (r : Ft call fl az ps y) : Ft call fl (.a (.br b) (.a (.br b) (.a (.br b) (.a (.br b) az)))) (.o (c = b) (.o (c = b) (.o (c = b) (.o (c = b) ps)))) y := .b2 h (.b2 h r)
theorem c {fv : TV} {xs : List TV} {h h' : List HB} {v : TV} (e : call fv xs h = some (v, h', [])) (r : Ft call fl az ps y) : Ft call fl (.a (.call v h' [] []) az) (.o (call fv xs h = some (v, h', [])) (.o (addKs fl [] [] = []) ps)) y := .a _ (.o e (.o rfl r))
theorem l {g : Bool} {k : Nat} {h : List HB} {b off lim : Nat} {v : TV} (e : rdAt g k h b off lim = some v) (r : Ft call fl az ps y) : Ft call fl (.a (.ld v) az) (.o (rdAt g k h b off lim = some v) ps) y := .a _ (.o e r)
theorem i {len : Nat} {iv : TV} {j : Nat} (e : idx len iv = some j) (r : Ft call fl az ps y) : Ft call fl (.a (.ix j) az) (.o (idx len iv = some j) ps) y := .a _ (.o e r)
theorem p {P : Program} {t : TypeId} {xv iv : TV} {b off lim : Nat} (e : indexAddrT P t (.val xv) iv = some (.val (.ptr b off lim))) (r : Ft call fl az ps y) : Ft call fl (.a (.pt b off lim) az) (.o (indexAddrT P t (.val xv) iv = some (.val (.ptr b off lim))) ps) y := .a _ (.o e r)
theorem r {X : Option TV} {v : TV} (e : X = some v) (r : Ft call fl az ps y) : Ft call fl (.a (.rd v) az) (.o (X = some v) ps) y := .a _ (.o e r)
theorem k {X : Option (TV × Inf)} {v : TV} (e : X = some (v, noInf)) (r : Ft call fl az ps y) : Ft call fl (.a (.rd v) az) (.o (X = some (v, noInf)) ps) y := .a _ (.o e r)
theorem w {P : Program} {T : Tab} {L f k m : Nat} {q : St} {x : Ex} {s : St} (e : rounds P T call L f k fl m q = some (x, s)) (r : Ft call fl az ps y) : Ft call fl (.a (.loop x s) az) (.o (rounds P T call L f k fl m q = some (x, s)) ps) y := .a _ (.o e r)
theorem v {X : Option (Ex × St)} {x : Ex} {s : St} (e : X = some (x, s)) (r : Ft call fl az ps y) : Ft call fl (.a (.loop x s) az) (.o (X = some (x, s)) ps) y := .a _ (.o e r)
theorem g {P : Program} {at_ : Array TypeId} {h h' : List HB} {d x v : TV} {i : Inf} (e : appendT P at_ (onH h) d x = some (v, onH h', i)) {ws ws' : List Nat} (k : addKs fl i.ws ws = ws') (r : Ft call fl az ps y) : Ft call fl (.a (.hp v h' i ws') az) (.o (appendT P at_ (onH h) d x = some (v, onH h', i)) (.o (addKs fl i.ws ws = ws') ps)) y := .a _ (.o e (.o k r))
theorem u {P : Program} {t : TypeId} {h h' : List HB} {m : Nat} {k v : TV} (e : updateT P t (onH h) (.map m) k v = some (onH h', wrK (.h m))) {ws ws' : List Nat} (q : addW fl m ws = ws') (r : Ft call fl az ps y) : Ft call fl (.a (.up h' ws') az) (.o (updateT P t (onH h) (.map m) k v = some (onH h', wrK (.h m))) (.o (addW fl m ws = ws') ps)) y := .a _ (.o e (.o q r))
theorem f {p : Prop} (e : p) (r : Ft call fl az ps y) : Ft call fl (.a .fa az) (.o p ps) y := .a _ (.o e r)
theorem x {p : Prop} (e : p) (r : Ft call fl az ps y) : Ft call fl (.a .bx az) (.o p ps) y := .a _ (.o e r)
theorem d {p : Prop} (e : p) (r : Ft call fl az ps y) : Ft call fl (.a .dyn az) (.o p ps) y := .a _ (.o e r)
theorem m {p : Prop} (e : p) (r : Ft call fl az ps y) : Ft call fl (.a .calm az) (.o p ps) y := .a _ (.o e r)
end Ft
section
variable {P : Program} {T : Tab} {L : Nat}
theorem ap_t {n f : Nat} {first args cap : List TV} {h : List HB} {an : AT} {ot : OT} {y : TV × List HB × List Nat} (hn : 0 < n) (hf : funK P T (ap P T L (n - 1)) L f (first ++ args ++ cap) h an = some ot) (hp : Ft (ap P T L (n - 1)) h.length an ot y) :
    ap P T L n (.fn f first cap) args h = some y := by
  obtain ⟨m, rfl⟩ : ∃ m, n = m + 1 := ⟨n - 1, by omega⟩
  have := funK_ok hf hp.ok.1
  rw [hp.ok.2] at this
  simpa [ap] using this
end
end Tw
namespace Go.Proofs.YtfhiejgoemcelaaGreat
def T : Tw.Tab := {
  live := [(3, [(0, [1]), (1, [1, 8]), (2, [2]), (3, [1, 3, 4]), (4, [1, 3, 4, 5]), (5, [1, 3, 4, 5, 19]), (6, [2]), (7, [2])]),
    (4, [(0, [1, 2]), (1, [1, 2, 17]), (2, [4]), (3, [1, 2, 5, 6]), (4, [1, 2, 5, 6, 7]), (5, [1, 2, 5, 6, 7, 8]), (6, [1, 2, 5, 6, 7, 8, 41]), (7, [1, 2, 5, 6, 7, 8]), (8, [1, 2, 5, 6, 7, 8, 43]), (9, [4]), (10, [5, 6, 7, 9]), (11, [5, 6, 7, 9, 62]), (12, [4]), (13, [4])]),
    (5, [(0, [1]), (1, [1, 8]), (2, [2]), (3, [1, 3, 4]), (4, [1, 3, 4, 5]), (5, [1, 3, 4, 5, 19]), (6, [2]), (7, [2])]),
    (6, [(0, [1, 2]), (1, [1, 2, 10]), (2, [4]), (3, [1, 2, 5, 6]), (4, [1, 2, 5, 6, 7]), (5, [1, 2, 5, 6, 7, 33]), (6, [1, 2, 5, 6, 7]), (7, [1, 2, 5, 6, 7, 35]), (8, [4]), (9, [4])]),
    (7, [(0, [1]), (1, [1, 10]), (2, [2]), (3, [1, 3, 4]), (4, [1, 3, 4, 5]), (5, [1, 3, 4, 5, 41]), (6, [1, 3, 4, 5]), (7, [1, 3, 4, 5, 49]), (8, [1, 3, 4, 5]), (9, [1, 3, 4, 5, 51]), (10, [2]), (11, [1, 3, 4, 6]), (12, [3, 4, 6, 75]), (13, [2]), (14, [2])]),
    (8, [(0, [1]), (1, [1, 10]), (2, [2]), (3, [1, 3, 4]), (4, [1, 3, 4, 5]), (5, [1, 3, 4, 5, 21]), (6, [2]), (7, [3, 4, 6]), (8, [3, 6, 44]), (9, [2]), (10, [3, 6, 7]), (11, [3, 6, 7, 48]), (12, [3, 6, 7]), (13, [3, 6, 7, 60]), (14, [2]), (15, [2])]),
    (9, [(0, []), (1, [1, 2, 3]), (2, [1, 2, 3]), (3, [2, 3, 4, 5]), (4, [3, 4, 5, 6, 7]), (5, [4, 5, 6, 7, 9]), (6, [4, 5, 6, 7, 9, 10, 11]), (7, [4, 5, 6, 7, 9, 10, 11, 13]), (8, [4, 5, 6, 7, 9, 10, 11, 13, 14, 15]), (9, [4, 5, 6, 7, 9, 10, 11, 13, 14, 15, 16, 17]), (10, [4, 5, 6, 7, 9, 10, 11, 13, 14, 15, 16, 17, 18, 19]), (11, [4, 5, 6, 7, 9, 10, 11, 13, 14, 15, 16, 17, 18, 19, 20, 21]), (12, [18, 20, 157]), (13, [0]), (14, [18, 20, 22]), (15, [18, 20, 22, 23]), (16, [18, 20, 22, 23, 160]), (17, [18, 20, 22, 23]), (18, [18, 20, 22, 23, 195]), (19, [0]), (20, [5]), (21, [5, 7]), (22, [5, 7, 9]), (23, [5, 7, 9, 11]), (24, [5, 7, 9, 11, 24, 25]), (25, [5, 7, 9, 11, 24, 25]), (26, [5, 7, 9, 11, 24, 25]), (27, [5, 7, 9, 11, 13, 25]), (28, [5, 7, 9, 11, 13, 15, 25]), (29, [5, 7, 9, 11, 13, 15, 17]), (30, [0])]),
    (10, [(0, [1, 2, 3]), (1, [1, 2, 3, 14]), (2, [6]), (3, [1, 2, 3, 7, 8]), (4, [2, 3, 7, 8, 9, 10]), (5, [2, 3, 7, 9, 41]), (6, [6]), (7, [3, 9, 11]), (8, [6])]),
    (11, [(0, [1]), (1, [1, 15]), (2, [2]), (3, [1, 3, 4]), (4, [1, 3, 4, 5, 6]), (5, [1, 5, 48]), (6, [2]), (7, [1, 5, 7]), (8, [1, 5, 7, 8]), (9, [1, 5, 7, 8, 55]), (10, [1, 5, 7, 8]), (11, [1, 5, 7, 8]), (12, [1, 5, 7, 9]), (13, [1, 5, 7, 9, 65]), (14, [1, 5, 7, 9]), (15, [1, 5, 7, 9, 10, 11]), (16, [1, 5, 7, 9, 10, 83]), (17, [2]), (18, [1, 5, 7, 9, 10, 12]), (19, [1, 5, 7, 9, 10, 12, 87]), (20, [1, 5, 7, 9, 10, 12]), (21, [1, 5, 7, 9, 10, 12]), (22, [2])]),
    (12, [(0, [1, 2, 3]), (1, [1, 2, 3, 17]), (2, [6]), (3, [1, 2, 3, 7, 8]), (4, [1, 2, 3, 7, 42]), (5, [6]), (6, [2, 3, 7, 9]), (7, [2, 3, 7, 56]), (8, [6]), (9, [6])]),
    (13, [(0, [1, 2, 3]), (1, [1, 2, 3, 25]), (2, [6]), (3, [1, 2, 3, 7]), (4, [2, 3, 7, 8]), (5, [3, 7]), (6, [3, 7, 63]), (7, [6]), (8, [3, 7, 9, 10]), (9, [3, 7, 9, 10, 11, 12]), (10, [7, 9, 10, 11, 12, 13, 14]), (11, [9, 10, 11, 12, 13, 14, 15, 16]), (12, [6])]),
    (14, [(0, [1, 2]), (1, [1, 2, 33]), (2, [4]), (3, [1, 2, 5]), (4, [1, 2, 5, 6, 7]), (5, [2, 5, 6, 7, 8, 9]), (6, [2, 5, 6, 7, 8, 9, 10, 11]), (7, [2, 5, 6, 8, 10, 11, 83]), (8, [4]), (9, [2, 5, 6, 8, 10, 11, 85]), (10, [4]), (11, [2, 5, 6, 10, 119]), (12, [4]), (13, [4])]),
    (15, [(0, [1, 2, 3]), (1, [1, 2, 3, 27]), (2, [6]), (3, [2, 3, 7]), (4, [2, 3, 7, 8]), (5, [2, 3, 7, 8, 9, 10]), (6, [3, 7, 8, 9, 10, 11, 12]), (7, [3, 8, 9, 84]), (8, [6]), (9, [3, 8, 9, 13]), (10, [3, 8, 9, 98]), (11, [6]), (12, [3, 8, 9, 14]), (13, [3, 8, 9, 14, 15]), (14, [3, 8, 9, 14, 15, 105]), (15, [3, 8, 9, 14, 15]), (16, [3, 8, 9, 14, 15, 113]), (17, [3, 9, 14, 15]), (18, [3, 9, 14, 15, 16]), (19, [3, 9, 14, 15, 16, 122]), (20, [3, 9, 14, 15, 16]), (21, [3, 9, 14, 15, 16, 17, 18]), (22, [3, 9, 14, 15, 16, 17, 136]), (23, [6]), (24, [3, 9, 14, 15, 16]), (25, [6])]),
    (16, [(0, [1, 2]), (1, [1, 2, 14]), (2, [4]), (3, [1, 2, 5, 6]), (4, [1, 2, 5, 6, 7, 8]), (5, [5, 6, 7, 8, 9, 10]), (6, [5, 7, 9, 59]), (7, [4]), (8, [5, 7, 9, 11]), (9, [5, 7, 9, 11, 63]), (10, [5, 7, 9, 11]), (11, [5, 7, 9, 11, 135]), (12, [4]), (13, [4])]),
    (17, [(0, [1]), (1, [1, 18]), (2, [2]), (3, [2])]),
    (18, [(0, []), (1, [1, 2]), (2, [1, 2, 4]), (3, [1, 2, 4, 5, 6]), (4, [1, 2, 4, 5, 6, 7, 8]), (5, [1, 2, 4, 5, 6, 7, 8, 9, 10]), (6, [1, 2, 4, 5, 6, 7, 8, 9, 10, 11, 12]), (7, [0])]),
    (19, [(0, [1]), (1, [1, 4]), (2, [1, 4, 8]), (3, [2, 3]), (4, [2, 3])]),
    (20, [(0, [1, 2]), (1, [1, 2]), (2, [2])]),
    (21, [(0, [1]), (1, [1, 3]), (2, [1, 3, 8]), (3, [2]), (4, [1, 4]), (5, [1, 4, 14]), (6, [1, 4]), (7, [1, 4, 23]), (8, [2]), (9, [2])]),
    (22, [(0, [0, 1]), (1, [0, 1, 10]), (2, [4]), (3, [0, 1, 5]), (4, [0, 1, 5, 14]), (5, [0, 1, 5]), (6, [0, 1, 5, 25]), (7, [4]), (8, [4])]),
    (23, [(0, [1, 3, 5]), (1, [1, 3, 5, 7]), (2, [1, 3, 5, 7, 8]), (3, [1, 3, 5, 7, 8, 14]), (4, [1, 3, 5, 7, 8]), (5, [1, 3, 5, 7, 8, 9]), (6, [1, 3, 5, 7, 8, 9, 27]), (7, [1, 3, 5, 7, 8, 9]), (8, [1, 3, 5, 7, 8]), (9, [6])]),
    (24, [(0, [1, 2]), (1, [1, 2, 6]), (2, [1, 2, 6, 12]), (3, [4, 5]), (4, [1, 2, 24]), (5, [4, 5]), (6, [1, 2, 7]), (7, [1, 7, 30, 31]), (8, [1, 7, 30, 31, 32]), (9, [1, 7, 8, 30, 31]), (10, [1, 7, 8, 30, 31, 44]), (11, [4, 5]), (12, [1, 7, 30, 31]), (13, [4, 5])]),
    (25, [(0, [0]), (1, [2])]),
    (26, [(0, [1, 2]), (1, [6]), (2, [4])]),
    (27, [(0, [1, 2]), (1, [1, 2, 5]), (2, [1, 2, 5, 9]), (3, [1, 2, 5]), (4, [1, 2, 5, 17]), (5, [4]), (6, [4])]),
    (28, [(0, [1, 2]), (1, [1, 2, 5]), (2, [1, 2, 5, 10]), (3, [1, 2, 5]), (4, [1, 2, 5, 26]), (5, [4]), (6, [4])]),
    (29, [(0, [1, 2, 3]), (1, [1, 2, 3, 4]), (2, [1, 2, 3, 4, 18]), (3, [2, 3]), (4, [1, 2, 3, 5]), (5, [1, 2, 3, 5, 21, 22, 23]), (6, [1, 2, 3, 5, 21, 22, 23, 24]), (7, [1, 2, 3, 5, 7, 21, 22, 23]), (8, [1, 2, 3, 5, 21, 22, 23]), (9, [1, 2, 3, 5, 21, 22, 23]), (10, [1, 2, 3, 37]), (11, [2, 3]), (12, [1, 2, 3, 8]), (13, [1, 2, 3, 8, 47]), (14, [1, 2, 3, 8, 9]), (15, [2, 3, 8, 10, 11]), (16, [2, 3, 8, 10, 11, 56]), (17, [2, 3]), (18, [8, 58, 59, 60]), (19, [8, 58, 59, 60, 61]), (20, [8, 12, 13, 58, 59, 60]), (21, [8, 12, 13, 14, 58, 59, 60]), (22, [8, 12, 13, 14, 58, 59, 60, 72]), (23, [8, 12, 14, 58, 59, 60]), (24, [8, 58, 59, 60]), (25, [8, 58, 59, 60]), (26, [2, 3])]),
    (30, [(0, [1]), (1, [1, 3]), (2, [1, 3, 4]), (3, [1, 3, 4, 15]), (4, [1, 3, 4]), (5, [1, 3, 4]), (6, [1, 3, 5]), (7, [1, 3, 5, 25]), (8, [1, 3, 5]), (9, [1, 3, 5, 6]), (10, [1, 3, 5, 6, 7]), (11, [1, 3, 5, 6, 7, 36]), (12, [1, 3, 5, 6, 7]), (13, [1, 3, 5, 6, 7]), (14, [2])]),
    (31, [(0, [1, 2]), (1, [1, 6, 7]), (2, [1, 6, 7, 13]), (3, [4, 5]), (4, [1, 6, 17]), (5, [4, 5]), (6, [4, 5])]),
    (32, [(0, [3, 4, 5]), (1, [3, 4, 5, 8]), (2, [3, 4, 8, 9]), (3, [3, 4, 8, 9, 16]), (4, [6, 7]), (5, [3, 4, 9, 20]), (6, [6, 7]), (7, [3, 4, 9, 30]), (8, [6, 7]), (9, [3, 4, 9, 10]), (10, [10, 11]), (11, [11, 38]), (12, [6, 7]), (13, [6, 7])]),
    (33, [(0, [1]), (1, [1, 5]), (2, [2]), (3, [2])]),
    (34, [(0, [1]), (1, [2])]),
    (35, [(0, [1]), (1, [4, 5]), (2, [4, 5, 17]), (3, [2, 3]), (4, [4, 6]), (5, [6, 19, 20, 21]), (6, [6, 19, 20, 21, 22]), (7, [6, 8, 19, 20, 21]), (8, [6, 8, 9, 19, 20, 21]), (9, [6, 8, 9, 10, 19, 20, 21]), (10, [6, 8, 9, 10, 19, 20, 21, 27]), (11, [6, 8, 9, 10, 19, 20, 21]), (12, [6, 8, 9, 10, 19, 20, 21]), (13, [6, 8, 9, 10, 19, 20, 21, 42]), (14, [6, 19, 20, 21]), (15, [6, 19, 20, 21]), (16, [2, 3])]),
    (36, [(0, [1]), (1, [1, 3]), (2, [1, 3, 7]), (3, [1, 3]), (4, [2])]),
    (37, [(0, []), (1, [0])]),
    (38, [(0, [0, 1, 2, 6]), (1, [6])]),
    (39, [(0, [0]), (1, [0, 1]), (2, [0, 2]), (3, [0])]),
    (40, [(0, [1]), (1, [2])]),
    (41, [(0, [1, 2]), (1, [2, 6, 7]), (2, [4, 5])]),
    (42, [(0, [1, 2]), (1, [4])]),
    (43, [(0, [0, 1]), (1, [0, 1, 5]), (2, [0, 1, 5, 15]), (3, [0, 1, 5]), (4, [0, 1, 5, 27]), (5, [4]), (6, [4])]),
    (44, [(0, [1, 2]), (1, [1, 2, 5]), (2, [1, 2, 5, 6]), (3, [1, 2, 5, 6, 11]), (4, [1, 2, 5, 6]), (5, [1, 2, 5, 6]), (6, [4])]),
    (45, [(0, [0, 1]), (1, [1, 5]), (2, [1, 5, 6]), (3, [1, 5, 6, 23]), (4, [1, 5, 6]), (5, [1, 5, 6, 7]), (6, [1, 5, 6, 7, 8]), (7, [1, 5, 6, 7, 8]), (8, [1, 5, 6, 7, 8, 56]), (9, [1, 5, 6]), (10, [4])]),
    (46, [(0, [0, 1]), (1, [0, 1, 10]), (2, [4]), (3, [0, 1, 5]), (4, [0, 1, 5, 14]), (5, [0, 1, 5]), (6, [0, 1, 5, 26]), (7, [4]), (8, [4])]),
    (47, [(0, [0]), (1, [0])]),
    (48, [(0, [1]), (1, [1, 3]), (2, [1, 3, 4]), (3, [1, 3, 4, 9]), (4, [1, 3, 4]), (5, [1, 3, 4]), (6, [2])]),
    (49, [(0, [1, 2]), (1, [1, 2, 5]), (2, [1, 2, 5, 6]), (3, [1, 2, 5, 6, 16]), (4, [1, 2, 5, 6]), (5, [1, 2, 5, 6, 7]), (6, [1, 2, 5, 6, 7]), (7, [1, 2, 5, 6]), (8, [4])]),
    (50, [(0, [2, 3, 4]), (1, [2, 3, 4, 7]), (2, [2, 4]), (3, [4]), (4, [4])]),
    (51, [(0, [2, 3]), (1, [2, 3, 7]), (2, [4]), (3, [4])]),
    (52, [(0, [2, 3]), (1, [4])]),
    (53, [(0, [1, 2]), (1, [4])]),
    (54, [(0, [1]), (1, [1, 3]), (2, [1, 3, 7]), (3, [2]), (4, [11]), (5, [2]), (6, [2])]),
    (55, [(0, [1, 2]), (1, [1, 2, 5]), (2, [1, 2, 5, 6]), (3, [1, 5, 6, 13, 14]), (4, [1, 5, 6, 13, 14, 15]), (5, [1, 5, 6, 7, 13, 14]), (6, [1, 5, 6, 13, 14]), (7, [1, 5, 6, 13, 14]), (8, [4])]),
    (56, [(0, [3, 4]), (1, [4])]),
    (57, [(0, [1]), (1, [1, 22]), (2, [2]), (3, [1, 3]), (4, [1, 3, 27]), (5, [1, 3]), (6, [1, 3, 4]), (7, [1, 3, 53]), (8, [2]), (9, [1, 5]), (10, [1, 5, 58]), (11, [1, 5]), (12, [1, 5, 71]), (13, [2]), (14, [1, 6]), (15, [1, 6, 76]), (16, [1, 6]), (17, [1, 6, 89]), (18, [2]), (19, [2])]),
    (58, [(0, [2, 3, 4, 6]), (1, [2, 3, 4, 6, 14]), (2, [2, 3, 4, 6, 14, 15]), (3, [6]), (4, [2, 3, 4, 6, 14, 22]), (5, [6]), (6, [2, 3, 4, 6, 29]), (7, [6]), (8, [2, 4, 6, 7]), (9, [2, 4, 6, 7, 53]), (10, [6]), (11, [2, 4, 6, 7, 64]), (12, [6]), (13, [2, 4, 6, 7, 8]), (14, [2, 4, 6, 7, 8]), (15, [2, 4, 6, 7, 8, 9, 10]), (16, [2, 4, 6, 7, 8, 9, 10, 11, 12]), (17, [2, 4, 6, 7, 8, 9, 10, 11, 12, 83]), (18, [6, 7, 8, 11, 12]), (19, [2, 4, 6, 7, 8, 9, 10, 11, 12, 83, 94]), (20, [6]), (21, [2, 4, 6, 7, 8, 9, 10, 11, 12, 83, 105]), (22, [6, 7, 8, 11, 12]), (23, [2, 4, 6, 7, 8, 9, 10, 11, 12, 83, 109]), (24, [6, 7, 8, 11, 12]), (25, [2, 4, 6, 7, 8, 10, 11, 12, 117]), (26, [6, 7, 8, 11, 12]), (27, [6, 7, 8, 11, 12, 126]), (28, [6, 7, 8, 12]), (29, [6, 8, 12, 131]), (30, [6, 8]), (31, [6])]),
    (59, [(0, [2, 3, 4]), (1, [2, 3, 4, 5]), (2, [4, 5, 36]), (3, [4, 5]), (4, [4])]),
    (60, [(0, [0, 3]), (1, [4])]),
    (61, [(0, [1]), (1, [2])]),
    (62, [(0, [1]), (1, [1, 6]), (2, [2]), (3, [2])]),
    (63, [(0, []), (1, [0])]),
    (64, [(0, [1, 2, 3, 6]), (1, [2, 3, 6, 7]), (2, [2, 3, 6, 7, 19]), (3, [2, 3, 6, 7, 19, 20]), (4, [6]), (5, [2, 3, 6, 7, 19, 27]), (6, [6]), (7, [2, 3, 6, 7, 36]), (8, [6]), (9, [2, 6, 7, 8]), (10, [2, 6, 7, 8, 9]), (11, [2, 6, 8, 9, 69, 70, 71]), (12, [2, 6, 8, 9, 69, 70, 71, 72]), (13, [2, 6, 8, 9, 10, 11, 69, 70, 71]), (14, [2, 6, 8, 9, 69, 70, 71]), (15, [2, 6, 8, 9, 69, 70, 71]), (16, [6, 8, 9, 87]), (17, [6]), (18, [6])]),
    (65, [(0, [2, 3]), (1, [4])]),
    (66, [(0, [0, 1]), (1, [0, 1, 10]), (2, [0, 1]), (3, [0, 5, 6]), (4, [0, 6, 26]), (5, [0, 6]), (6, [0, 7]), (7, [7, 8]), (8, [7, 8, 37]), (9, [7, 8]), (10, [4])]),
    (67, [(0, [0]), (1, [0])]),
    (68, [(0, [1]), (1, [2])]),
    (69, [(0, [1, 2, 4]), (1, [1, 2, 4, 5]), (2, [1, 2, 4, 5, 10]), (3, [4, 5]), (4, [1, 2, 4, 14]), (5, [4, 5]), (6, [1, 2, 4, 18]), (7, [4, 5]), (8, [1, 4, 24, 25, 26]), (9, [1, 4, 24, 25, 26, 27]), (10, [1, 4, 7, 24, 25, 26]), (11, [1, 4, 24, 25, 26]), (12, [1, 4, 24, 25, 26]), (13, [4, 5])]),
    (70, [(0, [0, 1, 4]), (1, [4])]),
    (71, [(0, [1, 2, 4]), (1, [2, 4, 7, 8, 9]), (2, [2, 4, 7, 8, 9, 10]), (3, [2, 4, 6, 7, 8, 9]), (4, [2, 4, 7, 8, 9]), (5, [2, 4, 7, 8, 9]), (6, [4])]),
    (72, [(0, [0]), (1, [2])]),
    (73, [(0, [2, 3, 4, 6]), (1, [3, 4, 6, 7]), (2, [6]), (3, [3, 4, 6, 11]), (4, [6]), (5, [3, 4, 6, 21]), (6, [6]), (7, [6])]),
    (74, [(0, [1, 2]), (1, [1, 2, 5]), (2, [1, 2, 5, 6]), (3, [1, 2, 5, 6, 12]), (4, [1, 2, 5, 6]), (5, [1, 2, 5, 6]), (6, [4])]),
    (75, [(0, [0, 2, 3, 4, 6, 7]), (1, [3, 4, 6, 7, 10]), (2, [7]), (3, [4, 6, 7]), (4, [6, 7]), (5, [7])]),
    (76, [(0, [2, 3, 4]), (1, [2, 3, 4, 5]), (2, [2, 3, 4, 5, 33]), (3, [2, 3, 4, 5]), (4, [4])]),
    (77, [(0, [1]), (1, [2])]),
    (78, [(0, [1]), (1, [2])]),
    (79, [(0, [0, 1, 2, 6]), (1, [6])]),
    (80, [(0, [2, 3, 4]), (1, [2, 3, 4, 5]), (2, [2, 3, 4, 5, 13]), (3, [4]), (4, [2, 3, 4, 5, 22]), (5, [4]), (6, [4])]),
    (81, [(0, [0]), (1, [2])]),
    (82, [(0, [1, 2, 4]), (1, [4])]),
    (83, [(0, [1]), (1, [1, 4]), (2, [1, 4]), (3, [1, 4]), (4, [2]), (5, [1, 17]), (6, [2]), (7, [1, 21]), (8, [2]), (9, [1, 32, 33]), (10, [1, 32, 33, 34]), (11, [1, 3, 32, 33]), (12, [1, 32, 33, 39]), (13, [2]), (14, [1, 32, 33]), (15, [2])]),
    (84, [(0, [0, 1]), (1, [4])]),
    (85, [(0, [1]), (1, [2])]),
    (86, [(0, [0, 1, 2]), (1, [6])]),
    (87, [(0, [1, 2, 3]), (1, [1, 3, 7, 8, 9]), (2, [1, 3, 7, 25]), (3, [6]), (4, [1, 7, 10]), (5, [1, 7, 10, 11]), (6, [1, 7, 10, 11, 34]), (7, [1, 7, 10, 11]), (8, [1, 7, 10, 11, 61]), (9, [6]), (10, [6])]),
    (88, [(0, [0, 4, 5, 6]), (1, [0, 4, 5, 6, 7]), (2, [0, 4, 5, 6, 7, 8]), (3, [0, 4, 5, 6, 7, 8, 17]), (4, [6, 7]), (5, [6]), (6, [0, 4, 5, 6, 7, 8, 21]), (7, [0, 5, 6, 7, 8]), (8, [0, 4, 5, 6, 7, 8, 21, 26]), (9, [0, 5, 6, 7, 8]), (10, [0, 4, 5, 6, 7, 8, 21, 31]), (11, [0, 5, 6, 7, 8]), (12, [0, 4, 5, 6, 7, 8, 21, 65]), (13, [0, 5, 6, 7, 8]), (14, [0, 4, 5, 6, 7, 8, 78]), (15, [0, 5, 6, 7, 8]), (16, [6, 7, 8, 100]), (17, [6, 7, 8]), (18, [6, 7]), (19, [6])]),
    (89, [(0, [1]), (1, [2])]),
    (90, [(0, [1]), (1, [2])]),
    (91, [(0, [0, 1]), (1, [4])]),
    (92, [(0, [1, 2]), (1, [3])]),
    (93, [(0, [3, 6]), (1, [6])]),
    (94, [(0, [3, 6]), (1, [6])]),
    (95, [(0, [1]), (1, [2])]),
    (96, [(0, [2, 3, 4]), (1, [4])]),
    (97, [(0, [2, 3, 4]), (1, [4])]),
    (98, [(0, [2, 3, 4]), (1, [4])]),
    (99, [(0, [2, 3, 4]), (1, [2, 3, 4, 5]), (2, [2, 3, 4, 5, 18, 19, 20]), (3, [2, 3, 4, 5, 18, 19, 20, 21]), (4, [2, 3, 4, 5, 7, 18, 19, 20]), (5, [2, 3, 4, 5, 7, 18, 19, 20, 31]), (6, [2, 3, 4, 5, 7, 18, 19, 20, 38, 39]), (7, [2, 3, 4, 5, 7, 18, 19, 20, 38, 39, 40]), (8, [2, 3, 4, 5, 7, 9, 18, 19, 20, 38, 39]), (9, [2, 3, 4, 5, 7, 10, 18, 19, 20, 38, 39]), (10, [2, 3, 4, 5, 7, 18, 19, 20, 38, 39]), (11, [2, 3, 4, 5, 7, 18, 19, 20, 38, 39]), (12, [2, 3, 4, 5, 18, 19, 20]), (13, [4])]),
    (100, [(0, [2, 3, 4]), (1, [2, 3, 4, 8]), (2, [4]), (3, [2, 3, 4, 5]), (4, [2, 3, 4, 5, 18]), (5, [2, 3, 4, 5]), (6, [2, 3, 4, 5, 28]), (7, [2, 3, 4, 5]), (8, [2, 3, 4, 5, 44]), (9, [3, 4, 5]), (10, [4])]),
    (101, [(0, [2, 3, 4]), (1, [4])]),
    (102, [(0, [2, 3, 4]), (1, [4])]),
    (103, [(0, [2, 3, 4]), (1, [4])]),
    (104, [(0, [3, 4, 6]), (1, [6])]),
    (105, [(0, [3, 4, 6]), (1, [6])]),
    (106, [(0, [3, 4, 5, 6]), (1, [6])]),
    (107, [(0, [0, 1]), (1, [6, 7]), (2, [4, 5]), (3, [8, 9]), (4, [4, 5])]),
    (108, [(0, [1, 2]), (1, [1, 2, 3]), (2, [3]), (3, [])]),
    (109, [(0, [0, 1, 2, 3]), (1, [0, 1, 2, 3, 12]), (2, [5]), (3, [0, 3, 6]), (4, [0, 3, 6, 7]), (5, [0, 3, 6, 7, 26]), (6, [0, 3, 6, 7]), (7, [0, 3, 6, 7, 36]), (8, [5]), (9, [5])]),
    (110, [(0, [0]), (1, [0, 4]), (2, [2]), (3, [2])]),
    (111, [(0, [1]), (1, [2])]),
    (112, [(0, [1, 2]), (1, [4])]),
    (113, [(0, [1, 2, 3, 6]), (1, [1, 2, 3, 6, 8]), (2, [6]), (3, [1, 2, 3, 6, 8, 25]), (4, [6]), (5, [1, 2, 3, 6, 8, 30]), (6, [6]), (7, [1, 2, 3, 6, 8, 36]), (8, [6]), (9, [2, 3, 6, 8, 44]), (10, [2, 3, 6, 8, 44]), (11, [6]), (12, [2, 3, 6, 58]), (13, [6]), (14, [6])]),
    (114, [(0, [1, 2, 3, 6]), (1, [1, 2, 3, 6, 7]), (2, [6]), (3, [1, 2, 3, 6, 14]), (4, [6]), (5, [1, 2, 3, 6, 22]), (6, [6]), (7, [1, 3, 6, 32]), (8, [6]), (9, [1, 3, 6, 52]), (10, [6]), (11, [6])]),
    (115, [(0, [0, 1]), (1, [4])]),
    (116, [(0, [1]), (1, [2])]),
    (117, [(0, [2, 3, 4]), (1, [6])]),
    (118, [(0, [1, 2]), (1, [1, 2, 5]), (2, [1, 5, 26]), (3, [4]), (4, [1, 6, 7]), (5, [4])]),
    (119, [(0, [0, 1]), (1, [0, 1, 7, 8]), (2, [0, 1, 7, 8, 9]), (3, [0, 1, 5, 7, 8]), (4, [0, 1, 5, 7, 8, 16]), (5, [4]), (6, [0, 1, 7, 8]), (7, [4])]),
    (120, [(0, [0, 1]), (1, [0, 1, 7]), (2, [4, 5, 6]), (3, [0, 1, 10]), (4, [4, 5, 6]), (5, [0, 1, 13]), (6, [4, 5, 6]), (7, [0, 18]), (8, [4, 5, 6]), (9, [0, 21]), (10, [4, 5, 6]), (11, [0, 28]), (12, [4, 5, 6]), (13, [35]), (14, [4, 5, 6]), (15, [4, 5, 6])]),
    (121, [(0, [2, 3, 4]), (1, [2, 3, 4, 9]), (2, [4]), (3, [2, 3, 4, 5, 6]), (4, [2, 3, 4, 5, 6, 13]), (5, [2, 3, 4, 5, 6]), (6, [2, 3, 4, 5, 6, 19]), (7, [2, 3, 4, 5, 6]), (8, [2, 4, 5, 6, 30]), (9, [4, 5, 6]), (10, [4])]),
    (122, [(0, [0, 1, 4]), (1, [1, 4, 5]), (2, [4]), (3, [4, 7]), (4, [4]), (5, [4])]),
    (123, [(0, [0, 4, 5, 6]), (1, [0, 4, 5, 6, 7]), (2, [0, 5, 6, 7, 8, 9]), (3, [0, 5, 6, 7, 8, 9, 18]), (4, [0, 6, 7, 8, 9]), (5, [0, 6, 7, 8, 9, 10]), (6, [0, 6, 7, 8, 9, 10, 24]), (7, [0, 6, 7, 8, 9, 10]), (8, [0, 6, 7, 8, 9, 10, 11]), (9, [0, 6, 7, 8, 9, 10, 11, 30]), (10, [0, 6, 7, 8, 9, 10, 11]), (11, [0, 6, 7, 8, 9, 10, 11]), (12, [6])]),
    (124, [(0, [0, 1]), (1, [0, 1, 7, 8]), (2, [0, 1, 7, 8, 9]), (3, [0, 1, 5, 7, 8]), (4, [0, 1, 5, 7, 8, 16]), (5, [4]), (6, [0, 1, 7, 8]), (7, [4])]),
    (125, [(0, [1]), (1, [2])]),
    (126, [(0, [1]), (1, [2])]),
    (127, [(0, [3, 4, 5, 7]), (1, [3, 4, 5, 7, 8]), (2, [3, 4, 5, 7, 8, 11]), (3, [4, 5, 7, 8]), (4, [7])]),
    (128, [(0, [2, 3, 4, 6]), (1, [2, 3, 4, 6, 7]), (2, [2, 4, 6, 7, 21, 22]), (3, [2, 4, 6, 7, 21, 22, 23]), (4, [2, 4, 6, 7, 9, 21, 22]), (5, [2, 4, 6, 7, 9, 21, 22, 31, 32]), (6, [2, 4, 6, 7, 9, 21, 22, 31, 32, 33]), (7, [2, 4, 6, 7, 9, 11, 21, 22, 31, 32]), (8, [2, 4, 6, 7, 9, 12, 21, 22, 31, 32]), (9, [2, 4, 6, 7, 9, 21, 22, 31, 32]), (10, [2, 4, 6, 7, 9, 21, 22, 31, 32]), (11, [2, 4, 6, 7, 21, 22]), (12, [6, 7, 13]), (13, [6, 7, 13, 49]), (14, [6]), (15, [6])]),
    (129, [(0, [0, 1]), (1, [4])]),
    (130, [(0, [0, 1]), (1, [4])]),
    (131, [(0, [0, 1]), (1, [4])]),
    (132, [(0, [1, 2]), (1, [4])]),
    (133, [(0, [0, 1]), (1, [0, 1, 5]), (2, [5, 19]), (3, [5]), (4, [4])]),
    (134, [(0, [1]), (1, [4]), (2, [2]), (3, [2])]),
    (135, [(0, [0, 1, 4]), (1, [1, 4, 5]), (2, [4]), (3, [4, 8]), (4, [4]), (5, [4])]),
    (136, [(0, [0, 1]), (1, [6]), (2, [4, 5])]),
    (137, [(0, [0, 1]), (1, [0, 1, 6]), (2, [0, 1, 6, 7]), (3, [0, 1, 6, 7, 8]), (4, [0, 1, 6, 7, 8, 9]), (5, [0, 1, 6, 7, 8, 9, 10]), (6, [0, 1, 6, 7, 9, 11]), (7, [0, 1, 6, 7, 9, 11, 12]), (8, [0, 1, 6, 7, 9, 12, 13]), (9, [0, 1, 7, 9, 12, 13]), (10, [0, 1, 4]), (11, [4, 5])]),
    (138, [(0, [0, 1, 2]), (1, [0, 1, 2, 14]), (2, [6]), (3, [1, 2, 15, 16, 17]), (4, [1, 2, 15, 16, 17, 18]), (5, [1, 2, 7, 8, 15, 16, 17]), (6, [1, 2, 8, 9, 15, 16, 17]), (7, [1, 2, 15, 16, 17, 30]), (8, [6]), (9, [1, 2, 15, 16, 17]), (10, [6])]),
    (139, [(0, [1, 2]), (1, [4])]),
    (140, [(0, [0, 2]), (1, [0, 2, 6]), (2, [2]), (3, [2])]),
    (141, [(0, [0, 3, 4]), (1, [3, 4, 6]), (2, [3, 4, 6, 17]), (3, [4, 5]), (4, [3, 4, 6, 7, 8]), (5, [3, 4, 6, 7, 25]), (6, [4, 5]), (7, [4, 5])]),
    (142, [(0, [3, 4, 5, 6]), (1, [3, 4, 5, 6, 8]), (2, [6, 7]), (3, [3, 4, 5, 6, 16]), (4, [6, 7]), (5, [4, 5, 6, 21]), (6, [6, 7]), (7, [6, 7])]),
    (143, [(0, [0, 4, 5, 6]), (1, [0, 4, 5, 6, 11]), (2, [0, 4, 5, 6, 11, 12]), (3, [6, 7]), (4, [0, 4, 5, 6, 20]), (5, [6, 7]), (6, [4, 5, 6, 8]), (7, [4, 5, 6, 8, 38]), (8, [6, 7]), (9, [4, 5, 6, 8, 9, 10]), (10, [4, 5, 6, 8, 9, 47]), (11, [6, 7]), (12, [6, 7])]),
    (144, [(0, [0, 2]), (1, [2])]),
    (145, [(0, [0, 2]), (1, [2])]),
    (146, [(0, [3, 4, 5, 6]), (1, [3, 4, 5, 6, 7]), (2, [6]), (3, [4, 5, 6, 12]), (4, [6]), (5, [6])]),
    (147, [(0, [0, 3, 4]), (1, [0, 3, 4, 5]), (2, [4]), (3, [3, 4, 10]), (4, [4]), (5, [4])]),
    (148, [(0, [0, 4, 5, 6]), (1, [0, 4, 5, 6, 8]), (2, [6]), (3, [0, 4, 5, 6, 13]), (4, [6]), (5, [0, 4, 5, 6, 22]), (6, [6]), (7, [0, 4, 5, 6, 31]), (8, [6]), (9, [0, 4, 5, 6, 39]), (10, [6]), (11, [0, 4, 5, 6, 44]), (12, [0, 4, 5, 6, 44, 45]), (13, [6]), (14, [0, 4, 5, 6, 44, 53]), (15, [6]), (16, [0, 4, 5, 6, 44, 61]), (17, [6]), (18, [0, 4, 5, 6, 44, 69]), (19, [6]), (20, [0, 4, 5, 6, 44, 77]), (21, [6]), (22, [0, 4, 5, 6, 85]), (23, [6]), (24, [0, 4, 5, 6, 95]), (25, [6]), (26, [0, 4, 5, 6, 7]), (27, [4, 5, 6, 7, 103]), (28, [6]), (29, [6])]),
    (149, [(0, [0, 1]), (1, [0, 1, 7, 8]), (2, [0, 1, 7, 8, 9]), (3, [0, 1, 5, 7, 8]), (4, [0, 1, 5, 7, 8, 16]), (5, [4]), (6, [0, 1, 7, 8]), (7, [4])]),
    (150, [(0, [0, 1]), (1, [4])]),
    (151, [(0, [0, 1, 2]), (1, [4])]),
    (152, [(0, [2, 3]), (1, [2, 3, 6]), (2, [2, 3, 6, 7]), (3, [4]), (4, [2, 3, 6, 13]), (5, [4]), (6, [2, 3, 6, 19]), (7, [4]), (8, [3, 29]), (9, [4]), (10, [4])]),
    (153, [(0, [1, 2]), (1, [2])]),
    (154, [(0, [0]), (1, [0, 3]), (2, [2]), (3, [0, 6]), (4, [2]), (5, [9]), (6, [2]), (7, [2])]),
    (155, [(0, [1]), (1, [2])]),
    (156, [(0, [1]), (1, [1, 3]), (2, [1, 3, 4]), (3, [1, 3, 4, 5]), (4, [1, 3, 4, 5, 14]), (5, [1, 3, 4, 5]), (6, [1, 3, 4, 5, 39]), (7, [1, 3, 4, 5]), (8, [2])]),
    (157, [(0, [0, 1, 2]), (1, [0, 1, 2, 8]), (2, [6]), (3, [0, 1, 2, 13]), (4, [6]), (5, [1, 2, 18]), (6, [6]), (7, [6])]),
    (158, [(0, [1, 2]), (1, [1, 2, 5]), (2, [2]), (3, [1, 2, 14]), (4, [1, 2]), (5, [1, 2]), (6, [1, 2, 32]), (7, [1, 2]), (8, [2])]),
    (159, [(0, [2, 3, 4]), (1, [6])]),
    (160, [(0, [0, 2]), (1, [2])]),
    (161, [(0, [0]), (1, [3]), (2, [3, 4]), (3, [2]), (4, [6]), (5, [2]), (6, [2])]),
    (162, [(0, [1]), (1, [1, 5]), (2, [2]), (3, [2])]),
    (163, [(0, [0, 2]), (1, [0, 2, 4]), (2, [0, 2, 4, 8]), (3, [2, 3]), (4, [2, 3])]),
    (164, [(0, [0]), (1, [2])]),
    (165, [(0, [0]), (1, [3]), (2, [3, 4]), (3, [2]), (4, [3, 6]), (5, [2]), (6, [3, 8]), (7, [2]), (8, [3, 10]), (9, [2]), (10, [3, 13]), (11, [2]), (12, [3, 16]), (13, [2]), (14, [3, 19]), (15, [2]), (16, [22]), (17, [2]), (18, [2])]),
    (166, [(0, [0, 2]), (1, [2, 3]), (2, [2]), (3, [2])]),
    (167, [(0, [0, 2]), (1, [0, 2, 8]), (2, [2]), (3, [2])]),
    (168, [(0, [0, 1]), (1, [0, 1, 7]), (2, [0, 1]), (3, [0, 1, 5]), (4, [0, 1, 5, 17]), (5, [0, 1, 5]), (6, [0, 1, 5, 24]), (7, [0, 1, 5]), (8, [4])]),
    (169, [(0, [0, 1]), (1, [0, 1, 7, 8]), (2, [0, 1, 7, 8, 9]), (3, [0, 1, 5, 7, 8]), (4, [0, 1, 5, 7, 8, 16]), (5, [4]), (6, [0, 1, 7, 8]), (7, [4])]),
    (170, [(0, [0, 1]), (1, [0, 1, 5]), (2, [5, 19]), (3, [5]), (4, [4])]),
    (171, [(0, [0, 1, 2]), (1, [4])]),
    (172, [(0, [0, 2]), (1, [2])]),
    (173, [(0, [0, 2]), (1, [2])]),
    (174, [(0, [0, 2]), (1, [2, 3]), (2, [2]), (3, [2])]),
    (175, [(0, [0, 1]), (1, [0, 1, 7, 8]), (2, [0, 1, 7, 8, 9]), (3, [0, 1, 5, 7, 8]), (4, [0, 1, 5, 7, 8, 16]), (5, [4]), (6, [0, 1, 7, 8]), (7, [4])]),
    (176, [(0, [1]), (1, [2])]),
    (177, [(0, [0, 1]), (1, [4])]),
    (178, [(0, [1]), (1, [2])]),
    (179, [(0, [0, 1, 4]), (1, [4])]),
    (180, [(0, [0, 1, 4]), (1, [4])]),
    (181, [(0, [0, 1, 4]), (1, [4])]),
    (182, [(0, [1]), (1, [2])]),
    (183, [(0, [0]), (1, [4])]),
    (184, [(0, [1]), (1, [4])]),
    (185, [(0, [1]), (1, [2])]),
    (186, [(0, [0]), (1, [2])]),
    (187, [(0, [0]), (1, [2])]),
    (188, [(0, [0]), (1, [2])]),
    (189, [(0, [0, 1, 2, 5]), (1, [0, 1, 2, 5, 7]), (2, [5]), (3, [5])]),
    (190, [(0, [0, 1]), (1, [1, 4, 5]), (2, [1, 4, 5, 20]), (3, [4, 5]), (4, [4, 5])]),
    (191, [(0, [0, 1, 2, 5]), (1, [5])]),
    (192, [(0, [0, 1]), (1, [0, 1, 5]), (2, [0, 1, 5, 6]), (3, [0, 1, 6, 11]), (4, [12]), (5, [4]), (6, [4]), (7, [0, 1, 13]), (8, [4]), (9, [0, 1, 16]), (10, [4]), (11, [19]), (12, [4]), (13, [4])]),
    (193, [(0, [0]), (1, [2])])],
  head := [(8, [(11, [3, 6, 7])]),
    (9, [(16, [18, 20, 22, 23])]),
    (11, [(9, [1, 5, 7, 8]), (13, [1, 5, 7, 9]), (19, [1, 5, 7, 9, 10, 12])]),
    (15, [(19, [3, 9, 14, 15, 16])]),
    (16, [(9, [5, 7, 9, 11])]),
    (21, [(5, [1, 4])]),
    (22, [(4, [0, 1, 5])]),
    (23, [(3, [1, 3, 5, 7, 8])]),
    (24, [(8, [1, 7, 30, 31])]),
    (27, [(2, [1, 2, 5])]),
    (28, [(2, [1, 2, 5])]),
    (29, [(6, [1, 2, 3, 5, 21, 22, 23]), (19, [8, 58, 59, 60])]),
    (30, [(3, [1, 3, 4]), (7, [1, 3, 5]), (11, [1, 3, 5, 6, 7])]),
    (35, [(6, [6, 19, 20, 21]), (10, [6, 8, 9, 10, 19, 20, 21])]),
    (36, [(2, [1, 3])]),
    (43, [(2, [0, 1, 5])]),
    (44, [(3, [1, 2, 5, 6])]),
    (45, [(3, [1, 5, 6])]),
    (46, [(4, [0, 1, 5])]),
    (48, [(3, [1, 3, 4])]),
    (49, [(3, [1, 2, 5, 6])]),
    (55, [(4, [1, 5, 6, 13, 14])]),
    (57, [(4, [1, 3]), (10, [1, 5]), (15, [1, 6])]),
    (64, [(12, [2, 6, 8, 9, 69, 70, 71])]),
    (66, [(8, [7, 8])]),
    (69, [(9, [1, 4, 24, 25, 26])]),
    (71, [(2, [2, 4, 7, 8, 9])]),
    (74, [(3, [1, 2, 5, 6])]),
    (83, [(10, [1, 32, 33])]),
    (87, [(6, [1, 7, 10, 11])]),
    (99, [(3, [2, 3, 4, 5, 18, 19, 20]), (7, [2, 3, 4, 5, 7, 18, 19, 20, 38, 39])]),
    (109, [(5, [0, 3, 6, 7])]),
    (119, [(2, [0, 1, 7, 8])]),
    (123, [(6, [0, 6, 7, 8, 9, 10]), (9, [0, 6, 7, 8, 9, 10, 11])]),
    (124, [(2, [0, 1, 7, 8])]),
    (128, [(3, [2, 4, 6, 7, 21, 22]), (6, [2, 4, 6, 7, 9, 21, 22, 31, 32])]),
    (138, [(4, [1, 2, 15, 16, 17])]),
    (149, [(2, [0, 1, 7, 8])]),
    (156, [(4, [1, 3, 4, 5])]),
    (168, [(4, [0, 1, 5]), (6, [0, 1, 5])]),
    (169, [(2, [0, 1, 7, 8])]),
    (175, [(2, [0, 1, 7, 8])])],
  site := [(29, [1, 2, 3, 7, 8, 13, 14]), (32, [4, 9, 10]), (60, [3]), (68, [1]), (95, [1]), (108, [2, 3]), (117, [3, 4]), (118, [6]), (159, [3, 4]), (182, [1]), (185, [1])] }
end Go.Proofs.YtfhiejgoemcelaaGreat
namespace Go.Proofs.YtfhiejgoemcelaaGreat
open Go Tw
noncomputable abbrev AP (L n : Nat) : CallT := ap Tryz.prog T L n
structure B where
  lo : Int
  hi : Int
  f : Int
  deriving DecidableEq
structure O where
  code : Int
  a : Int
  b : Int
  c : Int
  n : Int
  deriving DecidableEq
structure K where
  name : ByteArray
  lo : Int
  hi : Int
structure V where
  f : Int
  n : Int
  deriving DecidableEq
abbrev B.tv (b : B) : TV := .agg [.int .i64 b.lo, .int .i64 b.hi, .int .u8 b.f]
abbrev O.tv (o : O) : TV := .agg [.int .u8 o.code, .int .i64 o.a, .int .i64 o.b, .int .i64 o.c, .int .i64 o.n]
abbrev K.tv (c : K) : TV := .agg [.str c.name, .int .i64 c.lo, .int .i64 c.hi]
abbrev V.tv (v : V) : TV := .agg [.int .u8 v.f, .int .i64 v.n]
abbrev B.tvs (b : B) : List TV := [.int .i64 b.lo, .int .i64 b.hi, .int .u8 b.f]
abbrev O.tvs (o : O) : List TV := [.int .u8 o.code, .int .i64 o.a, .int .i64 o.b, .int .i64 o.c, .int .i64 o.n]
abbrev K.tvs (c : K) : List TV := [.str c.name, .int .i64 c.lo, .int .i64 c.hi]
abbrev V.tvs (v : V) : List TV := [.int .u8 v.f, .int .i64 v.n]
abbrev I.tvs (i : Int) : List TV := [.int .i64 i]
abbrev U.tvs (i : Int) : List TV := [.int .u8 i]
abbrev H.tvs (i : Int) : List TV := [.int .u16 i]
abbrev B0 : B := ⟨0, 0, 0⟩
abbrev O0 : O := ⟨0, 0, 0, 0, 0⟩
abbrev K0 : K := ⟨ByteArray.empty, 0, 0⟩
abbrev V0 : V := ⟨0, 0⟩
abbrev fb (h : List HB) (r : Bool) : TV × List HB × List Nat := (.bool r, h, [])
abbrev fB (h : List HB) (r : B) : TV × List HB × List Nat := (B.tv r, h, [])
abbrev fV (h : List HB) (r : V) : TV × List HB × List Nat := (V.tv r, h, [])
theorem one3 {a b c : TV} (ha : oneT a = true) (hb : oneT b = true) (hc : oneT c = true) : (.agg [a, b, c] : TV).cells.all oneT = true := by
  simp only [TV.cells, List.all_cons, List.all_nil, Bool.and_true, ha, hb, hc]
theorem one3m {a b c : TV} {m : Nat} (ha : oneT a = true) (hb : oneT b = true) (hc : oneT c = true) : (.agg [a, b, c, .map m] : TV).cells.all oneT = true := by
  simp only [TV.cells, List.all_cons, List.all_nil, Bool.and_true, ha, hb, hc, one_map]
theorem u22 : Tryz.prog.underlying 22 = some (.slice 62) := by kernel_rfl
theorem u23 : Tryz.prog.underlying 23 = some (.slice 60) := by kernel_rfl
theorem u24 : Tryz.prog.underlying 24 = some (.slice 3) := by kernel_rfl
theorem u29 : Tryz.prog.underlying 29 = some (.slice 38) := by kernel_rfl
theorem u64 : Tryz.prog.underlying 64 = some (.slice 63) := by kernel_rfl
theorem u65 : Tryz.prog.underlying 65 = some (.slice 78) := by kernel_rfl
theorem z62 : sizeT Tryz.prog 62 = some 3 := by kernel_rfl
theorem z60 : sizeT Tryz.prog 60 = some 5 := by kernel_rfl
theorem z3 : sizeT Tryz.prog 3 = some 1 := by kernel_rfl
theorem z38 : sizeT Tryz.prog 38 = some 3 := by kernel_rfl
theorem z78 : sizeT Tryz.prog 78 = some 2 := by kernel_rfl
theorem RwS_new {h : List HB} {k : BK} {sz : Nat} (rows : List (List TV)) (hl : ∀ r ∈ rows, r.length = sz) : RwS (h ++ [.cells k rows.flatten]) h.length 0 sz rows := by
  refine ⟨hl, _, blkCells_new, ?_⟩
  unfold sub
  have : rows.flatten.length = rows.length * sz := by
    cases rows with
    | nil => simp
    | cons r rs => exact (flat_get hl (j := 0) (r := r) rfl).2
  rw [if_pos (by omega), List.drop_zero, List.take_of_length_le (by omega)]
abbrev addI (a b : Int) : Int := IntKind.i64.wrap (a + b)
theorem addI_nat {i : Nat} (h : i < 2 ^ 60) : addI i 1 = ((i + 1 : Nat) : Int) := by
  simp only [addI, IntKind.wrap, IntKind.bits, IntKind.signed]
  have : ((i : Int) + 1) % (2 ^ 64 : Int) = (i : Int) + 1 := Int.emod_eq_of_lt (by omega) (by omega)
  simp only [this]
  rw [if_neg (by simp; omega)]
  omega
def ors : Int → List Int → Int
  | f, [] => f
  | f, g :: gs => ors (orI .u8 f g) gs
theorem u38 : Tryz.prog.underlying 38 = some (.struct #[⟨"Lo", 3, 0, false, "", "", 0⟩, ⟨"Hi", 3, 1, false, "", "", 8⟩, ⟨"Faults", 5, 2, false, "", "", 16⟩]) := by kernel_rfl
theorem u94 : Tryz.prog.underlying 94 = some (.struct #[⟨"Reach", 38, 0, true, "", "", 0⟩]) := by kernel_rfl
theorem u3 : Tryz.prog.underlying 3 = some (.int .i64) := by kernel_rfl
theorem u5 : Tryz.prog.underlying 5 = some (.int .u8) := by kernel_rfl
theorem pr38 (d : Nat) (a b : B) : pureRun Tryz.prog (Op.equalIn (d + 2) 38 (.agg #[.int .i64 a.lo, .int .i64 a.hi, .int .u8 a.f]) (.agg #[.int .i64 b.lo, .int .i64 b.hi, .int .u8 b.f])) = some (decide (a = b)) := by
  rw [pr_equalIn_struct (d + 1) 38 _ _ _ u38 (by kernel_rfl)]
  have p0 : ∀ x y z : Value, pureRun Tryz.prog (part 3 #[x, y, z] 0) = some x := by intro x y z; kernel_rfl
  have p1 : ∀ x y z : Value, pureRun Tryz.prog (part 3 #[x, y, z] 1) = some y := by intro x y z; kernel_rfl
  have p2 : ∀ x y z : Value, pureRun Tryz.prog (part 5 #[x, y, z] 2) = some z := by intro x y z; kernel_rfl
  have n1 : ("Lo" : String) ≠ "_" := by decide
  have n2 : ("Hi" : String) ≠ "_" := by decide
  have n3 : ("Faults" : String) ≠ "_" := by decide
  have q1 := pr_eqFields_cons (f := ⟨"Lo", 3, 0, false, "", "", 0⟩) (fs := [⟨"Hi", 3, 1, false, "", "", 8⟩, ⟨"Faults", 5, 2, false, "", "", 16⟩]) n1 (p0 (.int .i64 a.lo) (.int .i64 a.hi) (.int .u8 a.f)) (p0 (.int .i64 b.lo) (.int .i64 b.hi) (.int .u8 b.f)) (pr_equalIn_int d _ _ _ _ _ u3)
  have q2 := pr_eqFields_cons (f := ⟨"Hi", 3, 1, false, "", "", 8⟩) (fs := [⟨"Faults", 5, 2, false, "", "", 16⟩]) n2 (p1 (.int .i64 a.lo) (.int .i64 a.hi) (.int .u8 a.f)) (p1 (.int .i64 b.lo) (.int .i64 b.hi) (.int .u8 b.f)) (pr_equalIn_int d _ _ _ _ _ u3)
  have q3 := pr_eqFields_cons (f := ⟨"Faults", 5, 2, false, "", "", 16⟩) (fs := []) n3 (p2 (.int .i64 a.lo) (.int .i64 a.hi) (.int .u8 a.f)) (p2 (.int .i64 b.lo) (.int .i64 b.hi) (.int .u8 b.f)) (pr_equalIn_int d _ _ _ _ _ u5)
  rw [q1, q2, q3]
  rw [show pureRun Tryz.prog (Op.eqFields (d + 1) #[.int .i64 a.lo, .int .i64 a.hi, .int .u8 a.f] #[.int .i64 b.lo, .int .i64 b.hi, .int .u8 b.f] []) = some true from rfl]
  rcases a with ⟨a1, a2, a3⟩
  rcases b with ⟨b1, b2, b3⟩
  by_cases h1 : a1 = b1 <;> by_cases h2 : a2 = b2 <;> by_cases h3 : a3 = b3 <;> simp [h1, h2, h3]
theorem pr94 (d : Nat) (a b : B) : pureRun Tryz.prog (Op.equalIn (d + 3) 94 (.agg #[.int .i64 a.lo, .int .i64 a.hi, .int .u8 a.f]) (.agg #[.int .i64 b.lo, .int .i64 b.hi, .int .u8 b.f])) = some (decide (a = b)) := by
  rw [pr_equalIn_struct (d + 2) 94 _ _ _ u94 (by kernel_rfl)]
  have p0 : ∀ x y z : Value, pureRun Tryz.prog (part 38 #[x, y, z] 0) = some (.agg #[x, y, z]) := by intro x y z; kernel_rfl
  rw [pr_eqFields_cons (f := ⟨"Reach", 38, 0, true, "", "", 0⟩) (by decide) (p0 _ _ _) (p0 _ _ _) (pr38 d a b)]
  rw [show pureRun Tryz.prog (Op.eqFields (d + 2) #[.int .i64 a.lo, .int .i64 a.hi, .int .u8 a.f] #[.int .i64 b.lo, .int .i64 b.hi, .int .u8 b.f] []) = some true from rfl]
  by_cases h : a = b <;> simp [h]
theorem eq_B38 (x y : Operand) (a b : B) : binT Tryz.prog .eql 38 x y (B.tv a) (B.tv b) = some (.bool (decide (a = b))) := (binT_eql_agg rfl rfl (by kernel_rfl) (by decide) (pr38 9998 a b)).1
theorem ne_B38 (x y : Operand) (a b : B) : binT Tryz.prog .neq 38 x y (B.tv a) (B.tv b) = some (.bool (!decide (a = b))) := (binT_eql_agg rfl rfl (by kernel_rfl) (by decide) (pr38 9998 a b)).2
theorem eq_B94 (x y : Operand) (a b : B) : binT Tryz.prog .eql 94 x y (B.tv a) (B.tv b) = some (.bool (decide (a = b))) := (binT_eql_agg rfl rfl (by kernel_rfl) (by decide) (pr94 9997 a b)).1
theorem ne_B94 (x y : Operand) (a b : B) : binT Tryz.prog .neq 94 x y (B.tv a) (B.tv b) = some (.bool (!decide (a = b))) := (binT_eql_agg rfl rfl (by kernel_rfl) (by decide) (pr94 9997 a b)).2
end Go.Proofs.YtfhiejgoemcelaaGreat
namespace Go.Proofs.YtfhiejgoemcelaaGreat
open Go Tw
abbrev W_with (lo : Int) (hi : Int) (f : Int) (b : Nat) (off : Nat) (cap : Nat) (len : Nat) (ex : Bool) (i : Int) (h : List HB) : St := ⟨[(2, .loc 0 0), (4, .loc 1 0), (7, .val (.slc b off len cap 1 ex)), (8, .val (.int .i64 ((len : Nat) : Int))), (9, .val (.int .i64 (i)))], [[.int .i64 (lo), .int .i64 (hi), .int .u8 (f)], [.int .i64 0, .int .i64 0, .int .u8 0]], h, []⟩
theorem r_with_0 {L n m fl : Nat} (hn : 1 ≤ n) (hL : 30000 ≤ L) (lo : Int) (hi : Int) (f : Int) (b : Nat) (off : Nat) (cap : Nat) (len : Nat) (ex : Bool) (i : Int) (h : List HB) (g : Int) (j : Nat)  (h0 : (decide ((i) < ((len : Nat) : Int))) = true) (hj : idx len (.int .i64 (i)) = some j) (hg : rdAt false 1 h b (off + j * 1) (off + j * 1 + 1) = some (.int .u8 (g))) : rounds Tryz.prog T (AP L (n - 1)) L 71 0 fl (m + 1) (W_with lo hi f b off cap len ex i h) = rounds Tryz.prog T (AP L (n - 1)) L 71 0 fl m (W_with lo hi (orI .u8 (f) (g)) b off cap len ex (IntKind.i64.wrap ((i) + 1)) h) :=
  round_on (s1 := ⟨[(2, .loc 0 0), (4, .loc 1 0), (7, .val (.slc b off len cap 1 ex)), (8, .val (.int .i64 ((len : Nat) : Int))), (9, .val (.int .i64 (IntKind.i64.wrap ((i) + 1))))], [[.int .i64 (lo), .int .i64 (hi), .int .u8 (orI .u8 (f) (g))], [.int .i64 0, .int .i64 0, .int .u8 0]], h, []⟩) (by kernel_rfl) (.b h0 <| .i (hj : idx len (.int .i64 (i)) = some j) <| .l hg <| .n) (rounds_congr (by kernel_rfl))
abbrev X_with_1 (lo : Int) (hi : Int) (f : Int) (b : Nat) (off : Nat) (cap : Nat) (len : Nat) (ex : Bool) (i : Int) (h : List HB)  : St := ⟨[(2, .loc 0 0), (4, .loc 1 0), (7, .val (.slc b off len cap 1 ex)), (8, .val (.int .i64 ((len : Nat) : Int))), (9, .val (.int .i64 (i))), (10, .val (.bool (decide ((i) < ((len : Nat) : Int)))))], [[.int .i64 (lo), .int .i64 (hi), .int .u8 (f)], [.int .i64 0, .int .i64 0, .int .u8 0]], h, []⟩
theorem r_with_1 {L n m fl : Nat} (hn : 1 ≤ n) (hL : 30000 ≤ L) (lo : Int) (hi : Int) (f : Int) (b : Nat) (off : Nat) (cap : Nat) (len : Nat) (ex : Bool) (i : Int) (h : List HB)   (h0 : (decide ((i) < ((len : Nat) : Int))) = false) : rounds Tryz.prog T (AP L (n - 1)) L 71 0 fl (m + 1) (W_with lo hi f b off cap len ex i h) = some ((.exit 0), X_with_1 lo hi f b off cap len ex i h ) :=
  round_out (s1 := X_with_1 lo hi f b off cap len ex i h ) (by kernel_rfl) (.b h0 <| .n) rfl
def S_with (b : B) (gs : List Int) : B := ⟨b.lo, b.hi, ors b.f gs⟩
theorem l_with {L n fl : Nat} (hn : 1 ≤ n) (hL : 30000 ≤ L) (lo hi : Int) (b off cap : Nat) (ex : Bool) (h : List HB) (len : Nat) (hlen : len < 2 ^ 60) : ∀ (gs : List Int) (f : Int) (i m : Nat), i + gs.length = len → gs.length < m →
    (∀ j g, gs[j]? = some g → rdAt false 1 h b (off + (i + j) * 1) (off + (i + j) * 1 + 1) = some (.int .u8 g)) →
    rounds Tryz.prog T (AP L (n - 1)) L 71 0 fl m (W_with lo hi f b off cap len ex i h) = some (.exit 0, X_with_1 lo hi (ors f gs) b off cap len ex len h)
  | [], f, i, m, hi', hm, hg => by
    obtain ⟨m, rfl⟩ : ∃ k, m = k + 1 := ⟨m - 1, by omega⟩
    simp only [List.length_nil, Nat.add_zero] at hi'; subst hi'
    exact r_with_1 hn hL lo hi f b off cap i ex i h (by simp)
  | g :: gs, f, i, m, hi', hm, hg => by
    obtain ⟨m, rfl⟩ : ∃ k, m = k + 1 := ⟨m - 1, by omega⟩
    simp only [List.length_cons] at hi' hm
    rw [r_with_0 hn hL lo hi f b off cap len ex i h g i (by simp; omega) (idx_nat (by omega)) (by simpa using hg 0 g rfl)]
    have := addI_nat (i := i) (by omega)
    unfold addI at this
    rw [this]
    exact l_with hn hL lo hi b off cap ex h len hlen gs _ (i + 1) m (by omega) (by omega) fun j g' hj => by
      have := hg (j + 1) g' (by simpa using hj)
      rwa [show i + (j + 1) = i + 1 + j by omega] at this
theorem c_with {L n : Nat} (hn : 1 ≤ n) (hL : 30000 ≤ L) (h : List HB) (x : B) (gs : List Int) (b off len : Nat) (ex : Bool) (hr : RwS h b off 1 (gs.map fun g => [.int .u8 g])) (hl : gs.length = len) (hlt : gs.length < 1000) :
    AP L n (.fn 71 [] []) [B.tv x, .slc b off len len 1 ex] h = some (B.tv (S_with x gs), h, []) := by
  subst hl
  exact ap_t (by omega) (by kernel_rfl) (.k (by kernel_rfl : lenT Tryz.prog #[135] h (.slc b off gs.length gs.length 1 ex) = some (.int .i64 ((gs.length : Nat) : Int), noInf)) <| .w (l_with hn hL x.lo x.hi b off gs.length ex h gs.length (by omega) gs x.f 0 L (by omega) (by omega) fun j g hj => by
      have := hr.row (j := j) (r := [.int .u8 g]) (by simp [hj])
      simpa using this.fld 0 rfl (by simp) (by omega)) <| .n)
def S_from (lo : Int) (hi : Int) : B :=
  (⟨lo, hi, 0⟩ : B)
theorem c_from {L n : Nat} (hn : 1 ≤ n) (hL : 30000 ≤ L) (h : List HB) (lo : Int) (hi : Int)  : AP L n (.fn 70 [] []) [.int .i64 (lo), .int .i64 (hi)] h = some (B.tv (((S_from lo hi))), h, []) :=
  (ap_t (by omega) (by kernel_rfl) .n)
def S_nothing  : B :=
  (⟨1, 0, 0⟩ : B)
theorem c_nothing {L n : Nat} (hn : 2 ≤ n) (hL : 30000 ≤ L) (h : List HB)  : AP L n (.fn 67 [] []) [] h = some (B.tv S_nothing, h, []) :=
  (ap_t (by omega) (by kernel_rfl) (.c (c_from (by omega) hL h 1 0) <| .n))
def S_any (b : B) : Bool :=
  decide ((b.lo) ≤ (b.hi))
theorem c_any {L n : Nat} (hn : 1 ≤ n) (hL : 30000 ≤ L) (h : List HB) (b : B)  : AP L n (.fn 78 [] []) [B.tv b] h = some (.bool ((S_any b)), h, []) :=
  (ap_t (by omega) (by kernel_rfl) .n)
def S_has (b : B) (k : Int) : Bool :=
  if (decide ((b.lo) ≤ (k))) = true then decide ((k) ≤ (b.hi)) else false
theorem c_has {L n : Nat} (hn : 1 ≤ n) (hL : 30000 ≤ L) (h : List HB) (b : B) (k : Int)  : AP L n (.fn 132 [] []) [B.tv b, .int .i64 (k)] h = some (.bool ((S_has b k)), h, []) :=
  ap_t (by omega) (by kernel_rfl) (.s (f := fb h) (fun h0 => .b4 h0 <| .b h0 <| .n) (fun h0 => .b4 h0 <| .b h0 <| .n))
def S_mayBe0 (b : B) : Bool :=
  S_has b 0
theorem c_mayBe0 {L n : Nat} (hn : 2 ≤ n) (hL : 30000 ≤ L) (h : List HB) (b : B)  : AP L n (.fn 125 [] []) [B.tv b] h = some (.bool ((S_mayBe0 b)), h, []) :=
  (ap_t (by omega) (by kernel_rfl) (.c (c_has (by omega) hL h b 0) <| .n))
def S_mayBeOther (b : B) : Bool :=
  if (decide (b.lo ≤ b.hi)) = true then if ((b.lo) != 0) = true then true else (b.hi) != 0 else false
theorem c_mayBeOther {L n : Nat} (hn : 2 ≤ n) (hL : 30000 ≤ L) (h : List HB) (b : B)  : AP L n (.fn 126 [] []) [B.tv b] h = some (.bool ((S_mayBeOther b)), h, []) :=
  ap_t (by omega) (by kernel_rfl) (.c (c_any (by omega) hL h b) <| .s (f := fb h) (fun h0 => .b4 h0 <| .s (f := fb h) (fun h1 => .b3 h1 <| .b h0 <| .b h1 <| .b h0 <| .n) (fun h1 => .b3 h1 <| .b h0 <| .b h1 <| .b h0 <| .n)) (fun h0 => .b4 h0 <| .b2 h0 <| .n))
def S_inside (b : B) (x : B) : Bool :=
  if ((andnI .u8 (b.f) (x.f)) == 0) = true then if (!(decide (b.lo ≤ b.hi))) = true then true else if (decide (x.lo ≤ x.hi)) = true then if (decide ((x.lo) ≤ (b.lo))) = true then decide ((b.hi) ≤ (x.hi)) else false else false else false
theorem c_inside {L n : Nat} (hn : 2 ≤ n) (hL : 30000 ≤ L) (h : List HB) (b : B) (x : B)  : AP L n (.fn 65 [] []) [B.tv b, B.tv x] h = some (.bool ((S_inside b x)), h, []) :=
  ap_t (by omega) (by kernel_rfl) (.s (f := fb h) (fun h0 => .b h0 <| .c (c_any (by omega) hL h b) <| .b2 h0 <| .s (f := fb h) (fun h1 => .b4 h1 <| .b h1 <| .b h0 <| .b h1 <| .b h0 <| .n) (fun h1 => .b h1 <| .c (c_any (by omega) hL h x) <| .b h1 <| .s (f := fb h) (fun h2 => .b4 h2 <| .b2 h2 <| .b h1 <| .b h2 <| .b h1 <| .s (f := fb h) (fun h3 => .b4 h3 <| .b2 h3 <| .b h1 <| .b h3 <| .b h0 <| .b h1 <| .b h0 <| .n) (fun h3 => .b4 h3 <| .b2 h3 <| .b h1 <| .b h3 <| .b h0 <| .b h1 <| .b h0 <| .n)) (fun h2 => .b4 h2 <| .b2 h2 <| .b h1 <| .b h2 <| .b h1 <| .b4 (rfl : false = false) <| .b3 (rfl : false = false) <| .b h1 <| .b (rfl : false = false) <| .b h0 <| .b h1 <| .b h0 <| .n))) (fun h0 => .b4 h0 <| .b h0 <| .n))
def S_hull (b : B) (x : B) (c : Bool) : B :=
  if (!c) = true then b else if (!(decide (x.lo ≤ x.hi))) = true then S_with b [x.f] else if (!(decide (b.lo ≤ b.hi))) = true then S_with x [b.f] else S_with ((⟨minI (b.lo) (x.lo), maxI (b.hi) (x.hi), 0⟩ : B)) [b.f, x.f]
theorem c_hull {L n : Nat} (hn : 2 ≤ n) (hL : 30000 ≤ L) (h : List HB) (b : B) (x : B) (c : Bool)  : AP L n (.fn 73 [] []) [B.tv b, B.tv x, .bool c] h = some (B.tv (((S_hull b x c))), h, []) :=
  ap_t (by omega) (by kernel_rfl) (.s (f := fB h) (fun h0 => .n) (fun h0 => .c (c_any (by omega) hL h x) <| .s (f := fB h) (fun h1 => .c (c_with (by omega) hL (h ++ [HB.cells .own [.int .u8 (x.f)]]) b [x.f] _ 0 1 true (RwS_new [[.int .u8 (x.f)]] (by simp)) rfl (by simp)) <| .n) (fun h1 => .c (c_any (by omega) hL h b) <| .s (f := fB h) (fun h2 => .c (c_with (by omega) hL (h ++ [HB.cells .own [.int .u8 (b.f)]]) x [b.f] _ 0 1 true (RwS_new [[.int .u8 (b.f)]] (by simp)) rfl (by simp)) <| .n) (fun h2 => .c (c_from (by omega) hL h (minI (b.lo) (x.lo)) (maxI (b.hi) (x.hi))) <| .c (c_with (by omega) hL (h ++ [HB.cells .own [.int .u8 (b.f), .int .u8 (x.f)]]) ((⟨minI (b.lo) (x.lo), maxI (b.hi) (x.hi), 0⟩ : B)) [b.f, x.f] _ 0 2 true (RwS_new [[.int .u8 (b.f)], [.int .u8 (x.f)]] (by simp)) rfl (by simp)) <| .n))))
def S_common (b : B) (x : B) : B :=
  if (!(decide (b.lo ≤ b.hi))) = true then S_with ((⟨1, 0, 0⟩ : B)) [andI .u8 (b.f) (x.f)] else if (!(decide (x.lo ≤ x.hi))) = true then S_with ((⟨1, 0, 0⟩ : B)) [andI .u8 (b.f) (x.f)] else if (!(decide (((⟨maxI (b.lo) (x.lo), minI (b.hi) (x.hi), 0⟩ : B)).lo ≤ ((⟨maxI (b.lo) (x.lo), minI (b.hi) (x.hi), 0⟩ : B)).hi))) = true then S_with ((⟨1, 0, 0⟩ : B)) [andI .u8 (b.f) (x.f)] else S_with ((⟨maxI (b.lo) (x.lo), minI (b.hi) (x.hi), 0⟩ : B)) [andI .u8 (b.f) (x.f)]
theorem c_common {L n : Nat} (hn : 3 ≤ n) (hL : 30000 ≤ L) (h : List HB) (b : B) (x : B)  : AP L n (.fn 76 [] []) [B.tv b, B.tv x] h = some (B.tv (((S_common b x))), h, []) :=
  ap_t (by omega) (by kernel_rfl) (.c (c_from (by omega) hL h (maxI (b.lo) (x.lo)) (minI (b.hi) (x.hi))) <| .c (c_any (by omega) hL h b) <| .s (f := fB h) (fun h0 => .b3 h0 <| .b4 (rfl : true = true) <| .b (rfl : true = true) <| .c (c_nothing (by omega) hL h) <| .c (c_with (by omega) hL (h ++ [HB.cells .own [.int .u8 (andI .u8 (b.f) (x.f))]]) ((⟨1, 0, 0⟩ : B)) [andI .u8 (b.f) (x.f)] _ 0 1 true (RwS_new [[.int .u8 (andI .u8 (b.f) (x.f))]] (by simp)) rfl (by simp)) <| .n) (fun h0 => .b h0 <| .c (c_any (by omega) hL h x) <| .b2 h0 <| .s (f := fB h) (fun h1 => .b3 h1 <| .b (rfl : true = true) <| .c (c_nothing (by omega) hL h) <| .c (c_with (by omega) hL (h ++ [HB.cells .own [.int .u8 (andI .u8 (b.f) (x.f))]]) ((⟨1, 0, 0⟩ : B)) [andI .u8 (b.f) (x.f)] _ 0 1 true (RwS_new [[.int .u8 (andI .u8 (b.f) (x.f))]] (by simp)) rfl (by simp)) <| .n) (fun h1 => .b h1 <| .c (c_any (by omega) hL h ((⟨maxI (b.lo) (x.lo), minI (b.hi) (x.hi), 0⟩ : B))) <| .b2 h1 <| .s (f := fB h) (fun h2 => .c (c_nothing (by omega) hL h) <| .c (c_with (by omega) hL (h ++ [HB.cells .own [.int .u8 (andI .u8 (b.f) (x.f))]]) ((⟨1, 0, 0⟩ : B)) [andI .u8 (b.f) (x.f)] _ 0 1 true (RwS_new [[.int .u8 (andI .u8 (b.f) (x.f))]] (by simp)) rfl (by simp)) <| .n) (fun h2 => .c (c_with (by omega) hL (h ++ [HB.cells .own [.int .u8 (andI .u8 (b.f) (x.f))]]) ((⟨maxI (b.lo) (x.lo), minI (b.hi) (x.hi), 0⟩ : B)) [andI .u8 (b.f) (x.f)] _ 0 1 true (RwS_new [[.int .u8 (andI .u8 (b.f) (x.f))]] (by simp)) rfl (by simp)) <| .n))))
end Go.Proofs.YtfhiejgoemcelaaGreat
namespace Go.Proofs.YtfhiejgoemcelaaGreat
open Go Tw
def S_bit (a : Int) : Int :=
  shlI .u8 (1 : Int) (IntKind.u8.wrap ((a) - 1))
theorem c_bit {L n : Nat} (hn : 1 ≤ n) (hL : 30000 ≤ L) (h : List HB) (a : Int)  : AP L n (.fn 72 [] []) [.int .u8 (a)] h = some (.int .u8 ((S_bit a)), h, []) :=
  (ap_t (by omega) (by kernel_rfl) (.r (binT_shl (wrap_u8_nn _) : binT Tryz.prog .shl 5 ((.const (.int .u8 1))) ((.tmp 4)) (.int .u8 1) (.int .u8 (IntKind.u8.wrap ((a) - 1))) = some (.int .u8 (shlI .u8 (1 : Int) (IntKind.u8.wrap ((a) - 1))))) <| .n))
def S_quotient (a : Int) (b : Int) : Int :=
  if ((remI .i64 (a) (b)) != 0) = true then if ((decide ((a) < 0)) != (decide ((b) < 0))) = true then IntKind.i64.wrap ((quoI .i64 (a) (b)) - 1) else quoI .i64 (a) (b) else quoI .i64 (a) (b)
theorem c_quotient {L n : Nat} (hn : 1 ≤ n) (hL : 30000 ≤ L) (h : List HB) (a : Int) (b : Int)  (hb : b ≠ 0) : AP L n (.fn 133 [] []) [.int .i64 (a), .int .i64 (b)] h = some (.int .i64 ((S_quotient a b)), h, []) :=
  ap_t (by omega) (by kernel_rfl) (.r (binT_quo (hb) : binT Tryz.prog .quo 3 ((.tmp 6)) ((.tmp 7)) (.int .i64 (a)) (.int .i64 (b)) = some (.int .i64 (quoI .i64 (a) (b)))) <| .r (binT_rem (hb) : binT Tryz.prog .rem 3 ((.tmp 9)) ((.tmp 10)) (.int .i64 (a)) (.int .i64 (b)) = some (.int .i64 (remI .i64 (a) (b)))) <| .s (f := fun r : Int => (.int .i64 (r), h, [])) (fun h0 => .b4 h0 <| .b h0 <| .s (f := fun r : Int => (.int .i64 (r), h, [])) (fun h1 => .n) (fun h1 => .n)) (fun h0 => .b4 h0 <| .b h0 <| .b (rfl : false = false) <| .n))
def S_by0 (b : B) : Int :=
  if (S_mayBe0 b) = true then S_bit 1 else 0
theorem c_by0 {L n : Nat} (hn : 3 ≤ n) (hL : 30000 ≤ L) (h : List HB) (b : B)  : AP L n (.fn 134 [] []) [B.tv b] h = some (.int .u8 ((S_by0 b)), h, []) :=
  ap_t (by omega) (by kernel_rfl) (.c (c_mayBe0 (by omega) hL h b) <| .s (f := fun r : Int => (.int .u8 (r), h, [])) (fun h0 => .c (c_bit (by omega) hL h 1) <| .n) (fun h0 => .n))
def S_sums1 (x : Int) (y : Int) : Int :=
  IntKind.i64.wrap ((x) + (y))
theorem c_sums1 {L n : Nat} (hn : 1 ≤ n) (hL : 30000 ≤ L) (h : List HB) (x : Int) (y : Int)  : AP L n (.fn 129 [] []) [.int .i64 (x), .int .i64 (y)] h = some (.int .i64 ((S_sums1 x y)), h, []) :=
  (ap_t (by omega) (by kernel_rfl) .n)
def S_differences1 (x : Int) (y : Int) : Int :=
  IntKind.i64.wrap ((x) - (y))
theorem c_differences1 {L n : Nat} (hn : 1 ≤ n) (hL : 30000 ≤ L) (h : List HB) (x : Int) (y : Int)  : AP L n (.fn 130 [] []) [.int .i64 (x), .int .i64 (y)] h = some (.int .i64 ((S_differences1 x y)), h, []) :=
  (ap_t (by omega) (by kernel_rfl) .n)
def S_products1 (x : Int) (y : Int) : Int :=
  IntKind.i64.wrap ((x) * (y))
theorem c_products1 {L n : Nat} (hn : 1 ≤ n) (hL : 30000 ≤ L) (h : List HB) (x : Int) (y : Int)  : AP L n (.fn 131 [] []) [.int .i64 (x), .int .i64 (y)] h = some (.int .i64 ((S_products1 x y)), h, []) :=
  (ap_t (by omega) (by kernel_rfl) .n)
def S_corners (g : Int → Int → Int) (a : B) (b : B) : B :=
  if (S_inside (S_hull (S_hull (S_hull (S_hull ((⟨1, 0, 0⟩ : B)) ((⟨g (a.lo) (b.lo), g (a.lo) (b.lo), 0⟩ : B)) true) ((⟨g (a.lo) (b.hi), g (a.lo) (b.hi), 0⟩ : B)) true) ((⟨g (a.hi) (b.lo), g (a.hi) (b.lo), 0⟩ : B)) true) ((⟨g (a.hi) (b.hi), g (a.hi) (b.hi), 0⟩ : B)) true) ((⟨-9999, 9999, 0⟩ : B))) = true then S_hull (S_hull (S_hull (S_hull ((⟨1, 0, 0⟩ : B)) ((⟨g (a.lo) (b.lo), g (a.lo) (b.lo), 0⟩ : B)) true) ((⟨g (a.lo) (b.hi), g (a.lo) (b.hi), 0⟩ : B)) true) ((⟨g (a.hi) (b.lo), g (a.hi) (b.lo), 0⟩ : B)) true) ((⟨g (a.hi) (b.hi), g (a.hi) (b.hi), 0⟩ : B)) true else S_with (S_common (S_hull (S_hull (S_hull (S_hull ((⟨1, 0, 0⟩ : B)) ((⟨g (a.lo) (b.lo), g (a.lo) (b.lo), 0⟩ : B)) true) ((⟨g (a.lo) (b.hi), g (a.lo) (b.hi), 0⟩ : B)) true) ((⟨g (a.hi) (b.lo), g (a.hi) (b.lo), 0⟩ : B)) true) ((⟨g (a.hi) (b.hi), g (a.hi) (b.hi), 0⟩ : B)) true) ((⟨-9999, 9999, 0⟩ : B))) [S_bit 2]
theorem c_corners {L n : Nat} (hn : 4 ≤ n) (hL : 30000 ≤ L) (h : List HB) (a : B) (b : B)  (fv : TV) (g : Int → Int → Int) (hf : ∀ (h : List HB) (x y : Int), AP L (n - 1) fv [.int .i64 x, .int .i64 y] h = some (.int .i64 (g x y), h, [])) : AP L n (.fn 128 [] []) [B.tv a, B.tv b, fv] h = some (B.tv (((S_corners g a b))), h, []) :=
  ap_t (by omega) (by kernel_rfl) (.c (c_nothing (by omega) hL h) <| .L (by omega : 3 ≤ L) <| .b (rfl : true = true) <| .r (by kernel_rfl : indexT Tryz.prog 148 (.agg [.int .i64 (a.lo), .int .i64 (a.hi)]) (.int .i64 0) = some (.int .i64 (a.lo))) <| .L (by omega : 3 ≤ L) <| .b (rfl : true = true) <| .r (by kernel_rfl : indexT Tryz.prog 148 (.agg [.int .i64 (b.lo), .int .i64 (b.hi)]) (.int .i64 0) = some (.int .i64 (b.lo))) <| .c (hf h (a.lo) (b.lo)) <| .c (c_from (by omega) hL h (g (a.lo) (b.lo)) (g (a.lo) (b.lo))) <| .c (c_hull (by omega) hL h ((⟨1, 0, 0⟩ : B)) ((⟨g (a.lo) (b.lo), g (a.lo) (b.lo), 0⟩ : B)) true) <| .b (rfl : true = true) <| .r (by kernel_rfl : indexT Tryz.prog 148 (.agg [.int .i64 (b.lo), .int .i64 (b.hi)]) (.int .i64 1) = some (.int .i64 (b.hi))) <| .c (hf h (a.lo) (b.hi)) <| .c (c_from (by omega) hL h (g (a.lo) (b.hi)) (g (a.lo) (b.hi))) <| .c (c_hull (by omega) hL h (S_hull ((⟨1, 0, 0⟩ : B)) ((⟨g (a.lo) (b.lo), g (a.lo) (b.lo), 0⟩ : B)) true) ((⟨g (a.lo) (b.hi), g (a.lo) (b.hi), 0⟩ : B)) true) <| .b (rfl : false = false) <| .b (rfl : true = true) <| .r (by kernel_rfl : indexT Tryz.prog 148 (.agg [.int .i64 (a.lo), .int .i64 (a.hi)]) (.int .i64 1) = some (.int .i64 (a.hi))) <| .L (by omega : 3 ≤ L) <| .b (rfl : true = true) <| .r (by kernel_rfl : indexT Tryz.prog 148 (.agg [.int .i64 (b.lo), .int .i64 (b.hi)]) (.int .i64 0) = some (.int .i64 (b.lo))) <| .c (hf h (a.hi) (b.lo)) <| .c (c_from (by omega) hL h (g (a.hi) (b.lo)) (g (a.hi) (b.lo))) <| .c (c_hull (by omega) hL h (S_hull (S_hull ((⟨1, 0, 0⟩ : B)) ((⟨g (a.lo) (b.lo), g (a.lo) (b.lo), 0⟩ : B)) true) ((⟨g (a.lo) (b.hi), g (a.lo) (b.hi), 0⟩ : B)) true) ((⟨g (a.hi) (b.lo), g (a.hi) (b.lo), 0⟩ : B)) true) <| .b (rfl : true = true) <| .r (by kernel_rfl : indexT Tryz.prog 148 (.agg [.int .i64 (b.lo), .int .i64 (b.hi)]) (.int .i64 1) = some (.int .i64 (b.hi))) <| .c (hf h (a.hi) (b.hi)) <| .c (c_from (by omega) hL h (g (a.hi) (b.hi)) (g (a.hi) (b.hi))) <| .c (c_hull (by omega) hL h (S_hull (S_hull (S_hull ((⟨1, 0, 0⟩ : B)) ((⟨g (a.lo) (b.lo), g (a.lo) (b.lo), 0⟩ : B)) true) ((⟨g (a.lo) (b.hi), g (a.lo) (b.hi), 0⟩ : B)) true) ((⟨g (a.hi) (b.lo), g (a.hi) (b.lo), 0⟩ : B)) true) ((⟨g (a.hi) (b.hi), g (a.hi) (b.hi), 0⟩ : B)) true) <| .b2 (rfl : false = false) <| .c (c_from (by omega) hL h (-9999) 9999) <| .c (c_inside (by omega) hL h (S_hull (S_hull (S_hull (S_hull ((⟨1, 0, 0⟩ : B)) ((⟨g (a.lo) (b.lo), g (a.lo) (b.lo), 0⟩ : B)) true) ((⟨g (a.lo) (b.hi), g (a.lo) (b.hi), 0⟩ : B)) true) ((⟨g (a.hi) (b.lo), g (a.hi) (b.lo), 0⟩ : B)) true) ((⟨g (a.hi) (b.hi), g (a.hi) (b.hi), 0⟩ : B)) true) ((⟨-9999, 9999, 0⟩ : B))) <| .s (f := fB h) (fun h0 => .n) (fun h0 => .c (c_common (by omega) hL h (S_hull (S_hull (S_hull (S_hull ((⟨1, 0, 0⟩ : B)) ((⟨g (a.lo) (b.lo), g (a.lo) (b.lo), 0⟩ : B)) true) ((⟨g (a.lo) (b.hi), g (a.lo) (b.hi), 0⟩ : B)) true) ((⟨g (a.hi) (b.lo), g (a.hi) (b.lo), 0⟩ : B)) true) ((⟨g (a.hi) (b.hi), g (a.hi) (b.hi), 0⟩ : B)) true) ((⟨-9999, 9999, 0⟩ : B))) <| .c (c_bit (by omega) hL h 2) <| .c (c_with (by omega) hL (h ++ [HB.cells .own [.int .u8 (S_bit 2)]]) (S_common (S_hull (S_hull (S_hull (S_hull ((⟨1, 0, 0⟩ : B)) ((⟨g (a.lo) (b.lo), g (a.lo) (b.lo), 0⟩ : B)) true) ((⟨g (a.lo) (b.hi), g (a.lo) (b.hi), 0⟩ : B)) true) ((⟨g (a.hi) (b.lo), g (a.hi) (b.lo), 0⟩ : B)) true) ((⟨g (a.hi) (b.hi), g (a.hi) (b.hi), 0⟩ : B)) true) ((⟨-9999, 9999, 0⟩ : B))) [S_bit 2] _ 0 1 true (RwS_new [[.int .u8 (S_bit 2)]] (by simp)) rfl (by simp)) <| .n))
def S_sums (a : B) (b : B) : B :=
  S_corners S_sums1 a b
theorem c_sums {L n : Nat} (hn : 5 ≤ n) (hL : 30000 ≤ L) (h : List HB) (a : B) (b : B)  : AP L n (.fn 96 [] []) [B.tv a, B.tv b] h = some (B.tv (((S_sums a b))), h, []) :=
  (ap_t (by omega) (by kernel_rfl) (.c (c_corners (by omega) hL h a b _ S_sums1 (fun h x y => c_sums1 (by omega) hL h x y)) <| .n))
def S_differences (a : B) (b : B) : B :=
  S_corners S_differences1 a b
theorem c_differences {L n : Nat} (hn : 5 ≤ n) (hL : 30000 ≤ L) (h : List HB) (a : B) (b : B)  : AP L n (.fn 97 [] []) [B.tv a, B.tv b] h = some (B.tv (((S_differences a b))), h, []) :=
  (ap_t (by omega) (by kernel_rfl) (.c (c_corners (by omega) hL h a b _ S_differences1 (fun h x y => c_differences1 (by omega) hL h x y)) <| .n))
def S_products (a : B) (b : B) : B :=
  S_corners S_products1 a b
theorem c_products {L n : Nat} (hn : 5 ≤ n) (hL : 30000 ≤ L) (h : List HB) (a : B) (b : B)  : AP L n (.fn 98 [] []) [B.tv a, B.tv b] h = some (B.tv (((S_products a b))), h, []) :=
  (ap_t (by omega) (by kernel_rfl) (.c (c_corners (by omega) hL h a b _ S_products1 (fun h x y => c_products1 (by omega) hL h x y)) <| .n))
def S_verdict (a : Bool) (b : Bool) : B :=
  if a = true then (⟨1, 1, 0⟩ : B) else if b = true then (⟨0, 0, 0⟩ : B) else (⟨0, 1, 0⟩ : B)
theorem c_verdict {L n : Nat} (hn : 2 ≤ n) (hL : 30000 ≤ L) (h : List HB) (a : Bool) (b : Bool)  : AP L n (.fn 135 [] []) [.bool a, .bool b] h = some (B.tv (((S_verdict a b))), h, []) :=
  ap_t (by omega) (by kernel_rfl) (.s (f := fB h) (fun h0 => .c (c_from (by omega) hL h 1 1) <| .n) (fun h0 => .s (f := fB h) (fun h1 => .c (c_from (by omega) hL h 0 0) <| .n) (fun h1 => .c (c_from (by omega) hL h 0 1) <| .n)))
def S_eq (b : B) (x : B) : B :=
  if ((b.lo) == (b.hi)) = true then if ((x.lo) == (x.hi)) = true then if (decide ((b.hi) < (x.lo))) = true then S_verdict ((b.lo) == (x.lo)) true else S_verdict ((b.lo) == (x.lo)) (decide ((x.hi) < (b.lo))) else if (decide ((b.hi) < (x.lo))) = true then S_verdict false true else S_verdict false (decide ((x.hi) < (b.lo))) else if (decide ((b.hi) < (x.lo))) = true then S_verdict false true else S_verdict false (decide ((x.hi) < (b.lo)))
theorem c_eq {L n : Nat} (hn : 3 ≤ n) (hL : 30000 ≤ L) (h : List HB) (b : B) (x : B)  : AP L n (.fn 101 [] []) [B.tv b, B.tv x] h = some (B.tv (((S_eq b x))), h, []) :=
  ap_t (by omega) (by kernel_rfl) (.s (f := fB h) (fun h0 => .b4 h0 <| .b3 h0 <| .s (f := fB h) (fun h1 => .b4 h1 <| .b3 h1 <| .s (f := fB h) (fun h2 => .b4 h2 <| .b3 h2 <| .c (c_verdict (by omega) hL h ((b.lo) == (x.lo)) true) <| .n) (fun h2 => .b4 h2 <| .b3 h2 <| .c (c_verdict (by omega) hL h ((b.lo) == (x.lo)) (decide ((x.hi) < (b.lo)))) <| .n)) (fun h1 => .b4 h1 <| .b3 h1 <| .s (f := fB h) (fun h2 => .b4 h2 <| .b3 h2 <| .c (c_verdict (by omega) hL h false true) <| .n) (fun h2 => .b4 h2 <| .b3 h2 <| .c (c_verdict (by omega) hL h false (decide ((x.hi) < (b.lo)))) <| .n))) (fun h0 => .b4 h0 <| .b3 h0 <| .b4 (rfl : false = false) <| .b4 (rfl : false = false) <| .s (f := fB h) (fun h1 => .b4 h1 <| .b3 h1 <| .c (c_verdict (by omega) hL h false true) <| .n) (fun h1 => .b4 h1 <| .b3 h1 <| .c (c_verdict (by omega) hL h false (decide ((x.hi) < (b.lo)))) <| .n)))
def S_lt (b : B) (x : B) : B :=
  S_verdict (decide ((b.hi) < (x.lo))) (decide ((b.lo) ≥ (x.hi)))
theorem c_lt {L n : Nat} (hn : 3 ≤ n) (hL : 30000 ≤ L) (h : List HB) (b : B) (x : B)  : AP L n (.fn 102 [] []) [B.tv b, B.tv x] h = some (B.tv (((S_lt b x))), h, []) :=
  (ap_t (by omega) (by kernel_rfl) (.c (c_verdict (by omega) hL h (decide ((b.hi) < (x.lo))) (decide ((b.lo) ≥ (x.hi)))) <| .n))
def S_le (b : B) (x : B) : B :=
  S_verdict (decide ((b.hi) ≤ (x.lo))) (decide ((b.lo) > (x.hi)))
theorem c_le {L n : Nat} (hn : 3 ≤ n) (hL : 30000 ≤ L) (h : List HB) (b : B) (x : B)  : AP L n (.fn 103 [] []) [B.tv b, B.tv x] h = some (B.tv (((S_le b x))), h, []) :=
  (ap_t (by omega) (by kernel_rfl) (.c (c_verdict (by omega) hL h (decide ((b.hi) ≤ (x.lo))) (decide ((b.lo) > (x.hi)))) <| .n))
def S_mod (b : B) (y : B) : B :=
  if (!(S_mayBeOther y)) = true then S_with ((⟨1, 0, 0⟩ : B)) [S_by0 y] else if (decide ((y.lo) < 0)) = true then if (decide ((y.hi) > 0)) = true then if (decide ((b.lo) ≥ 0)) = true then if (decide ((y.lo) ≥ 0)) = true then S_with ((⟨IntKind.i64.wrap ((y.lo) + 1), minI (IntKind.i64.wrap ((y.hi) - 1)) (b.hi), 0⟩ : B)) [S_by0 y] else S_with ((⟨IntKind.i64.wrap ((y.lo) + 1), IntKind.i64.wrap ((y.hi) - 1), 0⟩ : B)) [S_by0 y] else S_with ((⟨IntKind.i64.wrap ((y.lo) + 1), IntKind.i64.wrap ((y.hi) - 1), 0⟩ : B)) [S_by0 y] else if (decide ((b.lo) ≥ 0)) = true then if (decide ((y.lo) ≥ 0)) = true then S_with ((⟨IntKind.i64.wrap ((y.lo) + 1), minI 0 (b.hi), 0⟩ : B)) [S_by0 y] else S_with ((⟨IntKind.i64.wrap ((y.lo) + 1), 0, 0⟩ : B)) [S_by0 y] else S_with ((⟨IntKind.i64.wrap ((y.lo) + 1), 0, 0⟩ : B)) [S_by0 y] else if (decide ((y.hi) > 0)) = true then if (decide ((b.lo) ≥ 0)) = true then if (decide ((y.lo) ≥ 0)) = true then S_with ((⟨0, minI (IntKind.i64.wrap ((y.hi) - 1)) (b.hi), 0⟩ : B)) [S_by0 y] else S_with ((⟨0, IntKind.i64.wrap ((y.hi) - 1), 0⟩ : B)) [S_by0 y] else S_with ((⟨0, IntKind.i64.wrap ((y.hi) - 1), 0⟩ : B)) [S_by0 y] else if (decide ((b.lo) ≥ 0)) = true then if (decide ((y.lo) ≥ 0)) = true then S_with ((⟨0, minI 0 (b.hi), 0⟩ : B)) [S_by0 y] else S_with ((⟨0, 0, 0⟩ : B)) [S_by0 y] else S_with ((⟨0, 0, 0⟩ : B)) [S_by0 y]
theorem c_mod {L n : Nat} (hn : 4 ≤ n) (hL : 30000 ≤ L) (h : List HB) (b : B) (y : B)  : AP L n (.fn 100 [] []) [B.tv b, B.tv y] h = some (B.tv (((S_mod b y))), h, []) :=
  ap_t (by omega) (by kernel_rfl) (.c (c_mayBeOther (by omega) hL h y) <| .s (f := fB h) (fun h0 => .c (c_nothing (by omega) hL h) <| .c (c_by0 (by omega) hL h y) <| .c (c_with (by omega) hL (h ++ [HB.cells .own [.int .u8 (S_by0 y)]]) ((⟨1, 0, 0⟩ : B)) [S_by0 y] _ 0 1 true (RwS_new [[.int .u8 (S_by0 y)]] (by simp)) rfl (by simp)) <| .n) (fun h0 => .c (c_from (by omega) hL h 0 0) <| .s (f := fB h) (fun h1 => .s (f := fB h) (fun h2 => .s (f := fB h) (fun h3 => .b4 h3 <| .s (f := fB h) (fun h4 => .c (c_by0 (by omega) hL h y) <| .c (c_with (by omega) hL (h ++ [HB.cells .own [.int .u8 (S_by0 y)]]) ((⟨IntKind.i64.wrap ((y.lo) + 1), minI (IntKind.i64.wrap ((y.hi) - 1)) (b.hi), 0⟩ : B)) [S_by0 y] _ 0 1 true (RwS_new [[.int .u8 (S_by0 y)]] (by simp)) rfl (by simp)) <| .n) (fun h4 => .c (c_by0 (by omega) hL h y) <| .c (c_with (by omega) hL (h ++ [HB.cells .own [.int .u8 (S_by0 y)]]) ((⟨IntKind.i64.wrap ((y.lo) + 1), IntKind.i64.wrap ((y.hi) - 1), 0⟩ : B)) [S_by0 y] _ 0 1 true (RwS_new [[.int .u8 (S_by0 y)]] (by simp)) rfl (by simp)) <| .n)) (fun h3 => .b4 h3 <| .b (rfl : false = false) <| .c (c_by0 (by omega) hL h y) <| .c (c_with (by omega) hL (h ++ [HB.cells .own [.int .u8 (S_by0 y)]]) ((⟨IntKind.i64.wrap ((y.lo) + 1), IntKind.i64.wrap ((y.hi) - 1), 0⟩ : B)) [S_by0 y] _ 0 1 true (RwS_new [[.int .u8 (S_by0 y)]] (by simp)) rfl (by simp)) <| .n)) (fun h2 => .s (f := fB h) (fun h3 => .b4 h3 <| .s (f := fB h) (fun h4 => .c (c_by0 (by omega) hL h y) <| .c (c_with (by omega) hL (h ++ [HB.cells .own [.int .u8 (S_by0 y)]]) ((⟨IntKind.i64.wrap ((y.lo) + 1), minI 0 (b.hi), 0⟩ : B)) [S_by0 y] _ 0 1 true (RwS_new [[.int .u8 (S_by0 y)]] (by simp)) rfl (by simp)) <| .n) (fun h4 => .c (c_by0 (by omega) hL h y) <| .c (c_with (by omega) hL (h ++ [HB.cells .own [.int .u8 (S_by0 y)]]) ((⟨IntKind.i64.wrap ((y.lo) + 1), 0, 0⟩ : B)) [S_by0 y] _ 0 1 true (RwS_new [[.int .u8 (S_by0 y)]] (by simp)) rfl (by simp)) <| .n)) (fun h3 => .b4 h3 <| .b (rfl : false = false) <| .c (c_by0 (by omega) hL h y) <| .c (c_with (by omega) hL (h ++ [HB.cells .own [.int .u8 (S_by0 y)]]) ((⟨IntKind.i64.wrap ((y.lo) + 1), 0, 0⟩ : B)) [S_by0 y] _ 0 1 true (RwS_new [[.int .u8 (S_by0 y)]] (by simp)) rfl (by simp)) <| .n))) (fun h1 => .s (f := fB h) (fun h2 => .s (f := fB h) (fun h3 => .b4 h3 <| .s (f := fB h) (fun h4 => .c (c_by0 (by omega) hL h y) <| .c (c_with (by omega) hL (h ++ [HB.cells .own [.int .u8 (S_by0 y)]]) ((⟨0, minI (IntKind.i64.wrap ((y.hi) - 1)) (b.hi), 0⟩ : B)) [S_by0 y] _ 0 1 true (RwS_new [[.int .u8 (S_by0 y)]] (by simp)) rfl (by simp)) <| .n) (fun h4 => .c (c_by0 (by omega) hL h y) <| .c (c_with (by omega) hL (h ++ [HB.cells .own [.int .u8 (S_by0 y)]]) ((⟨0, IntKind.i64.wrap ((y.hi) - 1), 0⟩ : B)) [S_by0 y] _ 0 1 true (RwS_new [[.int .u8 (S_by0 y)]] (by simp)) rfl (by simp)) <| .n)) (fun h3 => .b4 h3 <| .b (rfl : false = false) <| .c (c_by0 (by omega) hL h y) <| .c (c_with (by omega) hL (h ++ [HB.cells .own [.int .u8 (S_by0 y)]]) ((⟨0, IntKind.i64.wrap ((y.hi) - 1), 0⟩ : B)) [S_by0 y] _ 0 1 true (RwS_new [[.int .u8 (S_by0 y)]] (by simp)) rfl (by simp)) <| .n)) (fun h2 => .s (f := fB h) (fun h3 => .b4 h3 <| .s (f := fB h) (fun h4 => .c (c_by0 (by omega) hL h y) <| .c (c_with (by omega) hL (h ++ [HB.cells .own [.int .u8 (S_by0 y)]]) ((⟨0, minI 0 (b.hi), 0⟩ : B)) [S_by0 y] _ 0 1 true (RwS_new [[.int .u8 (S_by0 y)]] (by simp)) rfl (by simp)) <| .n) (fun h4 => .c (c_by0 (by omega) hL h y) <| .c (c_with (by omega) hL (h ++ [HB.cells .own [.int .u8 (S_by0 y)]]) ((⟨0, 0, 0⟩ : B)) [S_by0 y] _ 0 1 true (RwS_new [[.int .u8 (S_by0 y)]] (by simp)) rfl (by simp)) <| .n)) (fun h3 => .b4 h3 <| .b (rfl : false = false) <| .c (c_by0 (by omega) hL h y) <| .c (c_with (by omega) hL (h ++ [HB.cells .own [.int .u8 (S_by0 y)]]) ((⟨0, 0, 0⟩ : B)) [S_by0 y] _ 0 1 true (RwS_new [[.int .u8 (S_by0 y)]] (by simp)) rfl (by simp)) <| .n)))))
def S_and (a : B) (b : B) (c : B) : B :=
  S_with (S_hull (S_hull ((⟨1, 0, 0⟩ : B)) ((⟨0, 0, 0⟩ : B)) (S_mayBe0 a)) b (S_mayBeOther a)) [a.f]
theorem c_and {L n : Nat} (hn : 3 ≤ n) (hL : 30000 ≤ L) (h : List HB) (a : B) (b : B) (c : B)  : AP L n (.fn 104 [] []) [B.tv a, B.tv b, B.tv c] h = some (B.tv (((S_and a b c))), h, []) :=
  (ap_t (by omega) (by kernel_rfl) (.c (c_nothing (by omega) hL h) <| .c (c_from (by omega) hL h 0 0) <| .c (c_mayBe0 (by omega) hL h a) <| .c (c_hull (by omega) hL h ((⟨1, 0, 0⟩ : B)) ((⟨0, 0, 0⟩ : B)) (S_mayBe0 a)) <| .c (c_mayBeOther (by omega) hL h a) <| .c (c_hull (by omega) hL h (S_hull ((⟨1, 0, 0⟩ : B)) ((⟨0, 0, 0⟩ : B)) (S_mayBe0 a)) b (S_mayBeOther a)) <| .c (c_with (by omega) hL (h ++ [HB.cells .own [.int .u8 (a.f)]]) (S_hull (S_hull ((⟨1, 0, 0⟩ : B)) ((⟨0, 0, 0⟩ : B)) (S_mayBe0 a)) b (S_mayBeOther a)) [a.f] _ 0 1 true (RwS_new [[.int .u8 (a.f)]] (by simp)) rfl (by simp)) <| .n))
def S_or (a : B) (b : B) (c : B) : B :=
  S_with (S_hull (S_hull ((⟨1, 0, 0⟩ : B)) b (S_mayBe0 a)) ((⟨1, 1, 0⟩ : B)) (S_mayBeOther a)) [a.f]
theorem c_or {L n : Nat} (hn : 3 ≤ n) (hL : 30000 ≤ L) (h : List HB) (a : B) (b : B) (c : B)  : AP L n (.fn 105 [] []) [B.tv a, B.tv b, B.tv c] h = some (B.tv (((S_or a b c))), h, []) :=
  (ap_t (by omega) (by kernel_rfl) (.c (c_nothing (by omega) hL h) <| .c (c_mayBe0 (by omega) hL h a) <| .c (c_hull (by omega) hL h ((⟨1, 0, 0⟩ : B)) b (S_mayBe0 a)) <| .c (c_from (by omega) hL h 1 1) <| .c (c_mayBeOther (by omega) hL h a) <| .c (c_hull (by omega) hL h (S_hull ((⟨1, 0, 0⟩ : B)) b (S_mayBe0 a)) ((⟨1, 1, 0⟩ : B)) (S_mayBeOther a)) <| .c (c_with (by omega) hL (h ++ [HB.cells .own [.int .u8 (a.f)]]) (S_hull (S_hull ((⟨1, 0, 0⟩ : B)) b (S_mayBe0 a)) ((⟨1, 1, 0⟩ : B)) (S_mayBeOther a)) [a.f] _ 0 1 true (RwS_new [[.int .u8 (a.f)]] (by simp)) rfl (by simp)) <| .n))
def S_choose (a : B) (b : B) (c : B) : B :=
  S_with (S_hull (S_hull ((⟨1, 0, 0⟩ : B)) b (S_mayBeOther a)) c (S_mayBe0 a)) [a.f]
theorem c_choose {L n : Nat} (hn : 3 ≤ n) (hL : 30000 ≤ L) (h : List HB) (a : B) (b : B) (c : B)  : AP L n (.fn 106 [] []) [B.tv a, B.tv b, B.tv c] h = some (B.tv (((S_choose a b c))), h, []) :=
  (ap_t (by omega) (by kernel_rfl) (.c (c_nothing (by omega) hL h) <| .c (c_mayBeOther (by omega) hL h a) <| .c (c_hull (by omega) hL h ((⟨1, 0, 0⟩ : B)) b (S_mayBeOther a)) <| .c (c_mayBe0 (by omega) hL h a) <| .c (c_hull (by omega) hL h (S_hull ((⟨1, 0, 0⟩ : B)) b (S_mayBeOther a)) c (S_mayBe0 a)) <| .c (c_with (by omega) hL (h ++ [HB.cells .own [.int .u8 (a.f)]]) (S_hull (S_hull ((⟨1, 0, 0⟩ : B)) b (S_mayBeOther a)) c (S_mayBe0 a)) [a.f] _ 0 1 true (RwS_new [[.int .u8 (a.f)]] (by simp)) rfl (by simp)) <| .n))
def S_neg (a : B) (b : B) (c : B) : B :=
  S_with ((⟨IntKind.i64.wrap (0 - (a.hi)), IntKind.i64.wrap (0 - (a.lo)), 0⟩ : B)) [a.f]
theorem c_neg {L n : Nat} (hn : 2 ≤ n) (hL : 30000 ≤ L) (h : List HB) (a : B) (b : B) (c : B)  : AP L n (.fn 93 [] []) [B.tv a, B.tv b, B.tv c] h = some (B.tv (((S_neg a b c))), h, []) :=
  (ap_t (by omega) (by kernel_rfl) (.c (c_from (by omega) hL h (IntKind.i64.wrap (0 - (a.hi))) (IntKind.i64.wrap (0 - (a.lo)))) <| .c (c_with (by omega) hL (h ++ [HB.cells .own [.int .u8 (a.f)]]) ((⟨IntKind.i64.wrap (0 - (a.hi)), IntKind.i64.wrap (0 - (a.lo)), 0⟩ : B)) [a.f] _ 0 1 true (RwS_new [[.int .u8 (a.f)]] (by simp)) rfl (by simp)) <| .n))
def S_not (a : B) (b : B) (c : B) : B :=
  S_with (S_hull (S_hull ((⟨1, 0, 0⟩ : B)) ((⟨1, 1, 0⟩ : B)) (S_mayBe0 a)) ((⟨0, 0, 0⟩ : B)) (S_mayBeOther a)) [a.f]
theorem c_not {L n : Nat} (hn : 3 ≤ n) (hL : 30000 ≤ L) (h : List HB) (a : B) (b : B) (c : B)  : AP L n (.fn 94 [] []) [B.tv a, B.tv b, B.tv c] h = some (B.tv (((S_not a b c))), h, []) :=
  (ap_t (by omega) (by kernel_rfl) (.c (c_nothing (by omega) hL h) <| .c (c_from (by omega) hL h 1 1) <| .c (c_mayBe0 (by omega) hL h a) <| .c (c_hull (by omega) hL h ((⟨1, 0, 0⟩ : B)) ((⟨1, 1, 0⟩ : B)) (S_mayBe0 a)) <| .c (c_from (by omega) hL h 0 0) <| .c (c_mayBeOther (by omega) hL h a) <| .c (c_hull (by omega) hL h (S_hull ((⟨1, 0, 0⟩ : B)) ((⟨1, 1, 0⟩ : B)) (S_mayBe0 a)) ((⟨0, 0, 0⟩ : B)) (S_mayBeOther a)) <| .c (c_with (by omega) hL (h ++ [HB.cells .own [.int .u8 (a.f)]]) (S_hull (S_hull ((⟨1, 0, 0⟩ : B)) ((⟨1, 1, 0⟩ : B)) (S_mayBe0 a)) ((⟨0, 0, 0⟩ : B)) (S_mayBeOther a)) [a.f] _ 0 1 true (RwS_new [[.int .u8 (a.f)]] (by simp)) rfl (by simp)) <| .n))
end Go.Proofs.YtfhiejgoemcelaaGreat
namespace Go.Proofs.YtfhiejgoemcelaaGreat
open Go Tw
def S_both1 (g : B → B → B) (a : B) (b : B) (c : B) : B :=
  if (decide (b.lo ≤ b.hi)) = true then S_with (g a b) [a.f, b.f] else S_with ((⟨1, 0, 0⟩ : B)) [a.f, b.f]
theorem c_both1 {L n : Nat} (hn : 3 ≤ n) (hL : 30000 ≤ L) (h : List HB) (a : B) (b : B) (c : B)  (fv : TV) (bx : Nat) (g : B → B → B) (hbx : rdAt false 1 h bx 0 1 = some fv) (hf : ∀ (h : List HB) (x y : B), AP L (n - 1) fv [B.tv x, B.tv y] h = some (B.tv (g x y), h, [])) : AP L n (.fn 127 [] [.ptr bx 0 1]) [B.tv a, B.tv b, B.tv c] h = some (B.tv (((S_both1 g a b c))), h, []) :=
  ap_t (by omega) (by kernel_rfl) (.c (c_nothing (by omega) hL h) <| .c (c_any (by omega) hL h b) <| .s (f := fB h) (fun h0 => .l hbx <| .c (hf h a b) <| .c (c_with (by omega) hL (h ++ [HB.cells .own [.int .u8 (a.f), .int .u8 (b.f)]]) (g a b) [a.f, b.f] _ 0 2 true (RwS_new [[.int .u8 (a.f)], [.int .u8 (b.f)]] (by simp)) rfl (by simp)) <| .n) (fun h0 => .c (c_with (by omega) hL (h ++ [HB.cells .own [.int .u8 (a.f), .int .u8 (b.f)]]) ((⟨1, 0, 0⟩ : B)) [a.f, b.f] _ 0 2 true (RwS_new [[.int .u8 (a.f)], [.int .u8 (b.f)]] (by simp)) rfl (by simp)) <| .n))
abbrev W_div (b : B) (y : B) (o : B) (xs : TV) (len : Nat) (i : Int) (h : List HB) : St := ⟨[(2, .loc 0 0), (3, .loc 1 0), (4, .loc 2 0), (5, .loc 3 0), (18, .val (xs)), (19, .val (.int .i64 ((len : Nat) : Int))), (20, .val (.int .i64 (i)))], [[.int .i64 (b.lo), .int .i64 (b.hi), .int .u8 (b.f)], [.int .i64 (y.lo), .int .i64 (y.hi), .int .u8 (y.f)], [.int .i64 0, .int .i64 0, .int .u8 0], [.int .i64 (o.lo), .int .i64 (o.hi), .int .u8 (o.f)]], h, []⟩
theorem r_div_0 {L n m fl : Nat} (hn : 3 ≤ n) (hL : 30000 ≤ L) (b : B) (y : B) (o : B) (xs : TV) (len : Nat) (i : Int) (h : List HB) (x : Int) (b_x : Nat) (o_x : Nat)  (h0 : (decide ((i) < ((len : Nat) : Int))) = true) (h1 : ((x) == 0) = true) (hi_x : indexAddrT Tryz.prog 24 (.val xs) (.int .i64 (i)) = some (.val (.ptr b_x o_x (o_x + 1)))) (hr_x : Rw h b_x o_x (I.tvs x)) : rounds Tryz.prog T (AP L (n - 1)) L 99 0 fl (m + 1) (W_div b y o xs len i h) = rounds Tryz.prog T (AP L (n - 1)) L 99 0 fl m (W_div b y o xs len (IntKind.i64.wrap ((i) + 1)) h) :=
  round_on (s1 := ⟨[(2, .loc 0 0), (3, .loc 1 0), (4, .loc 2 0), (5, .loc 3 0), (18, .val (xs)), (19, .val (.int .i64 ((len : Nat) : Int))), (20, .val (.int .i64 (IntKind.i64.wrap ((i) + 1))))], [[.int .i64 (b.lo), .int .i64 (b.hi), .int .u8 (b.f)], [.int .i64 (y.lo), .int .i64 (y.hi), .int .u8 (y.f)], [.int .i64 0, .int .i64 0, .int .u8 0], [.int .i64 (o.lo), .int .i64 (o.hi), .int .u8 (o.f)]], h, []⟩) (by kernel_rfl) (.b h0 <| .p hi_x <| .l (hr_x.fld 0 rfl rfl (by omega) : rdAt false 1 h b_x o_x (o_x + 1) = some (.int .i64 (x))) <| .b4 h1 <| .b h1 <| .b (rfl : true = true) <| .n) (rounds_congr (by kernel_rfl))
theorem r_div_1 {L n m fl : Nat} (hn : 3 ≤ n) (hL : 30000 ≤ L) (b : B) (y : B) (o : B) (xs : TV) (len : Nat) (i : Int) (h : List HB) (x : Int) (b_x : Nat) (o_x : Nat)  (h0 : (decide ((i) < ((len : Nat) : Int))) = true) (h1 : ((x) == 0) = false) (h2 : (!(S_has y x)) = true) (hi_x : indexAddrT Tryz.prog 24 (.val xs) (.int .i64 (i)) = some (.val (.ptr b_x o_x (o_x + 1)))) (hr_x : Rw h b_x o_x (I.tvs x)) : rounds Tryz.prog T (AP L (n - 1)) L 99 0 fl (m + 1) (W_div b y o xs len i h) = rounds Tryz.prog T (AP L (n - 1)) L 99 0 fl m (W_div b y o xs len (IntKind.i64.wrap ((i) + 1)) h) :=
  round_on (s1 := ⟨[(2, .loc 0 0), (3, .loc 1 0), (4, .loc 2 0), (5, .loc 3 0), (18, .val (xs)), (19, .val (.int .i64 ((len : Nat) : Int))), (20, .val (.int .i64 (IntKind.i64.wrap ((i) + 1))))], [[.int .i64 (b.lo), .int .i64 (b.hi), .int .u8 (b.f)], [.int .i64 (y.lo), .int .i64 (y.hi), .int .u8 (y.f)], [.int .i64 0, .int .i64 0, .int .u8 0], [.int .i64 (o.lo), .int .i64 (o.hi), .int .u8 (o.f)]], h, []⟩) (by kernel_rfl) (.b h0 <| .p hi_x <| .l (hr_x.fld 0 rfl rfl (by omega) : rdAt false 1 h b_x o_x (o_x + 1) = some (.int .i64 (x))) <| .b3 h1 <| .c (c_has (by omega) hL h y x) <| .b2 h1 <| .b h2 <| .n) (rounds_congr (by kernel_rfl))
theorem r_div_2 {L n m fl : Nat} (hn : 3 ≤ n) (hL : 30000 ≤ L) (b : B) (y : B) (o : B) (xs : TV) (len : Nat) (i : Int) (h : List HB) (x : Int) (b_x : Nat) (o_x : Nat)  (h0 : (decide ((i) < ((len : Nat) : Int))) = true) (h1 : ((x) == 0) = false) (h2 : (!(S_has y x)) = false) (hi_x : indexAddrT Tryz.prog 24 (.val xs) (.int .i64 (i)) = some (.val (.ptr b_x o_x (o_x + 1)))) (hr_x : Rw h b_x o_x (I.tvs x)) : rounds Tryz.prog T (AP L (n - 1)) L 99 0 fl (m + 1) (W_div b y o xs len i h) = rounds Tryz.prog T (AP L (n - 1)) L 99 0 fl m (W_div b y (S_hull (S_hull o ((⟨S_quotient b.lo x, S_quotient b.lo x, 0⟩ : B)) true) ((⟨S_quotient b.hi x, S_quotient b.hi x, 0⟩ : B)) true) xs len (IntKind.i64.wrap ((i) + 1)) h) :=
  round_on (s1 := ⟨[(2, .loc 0 0), (3, .loc 1 0), (4, .loc 2 0), (5, .loc 3 0), (18, .val (xs)), (19, .val (.int .i64 ((len : Nat) : Int))), (20, .val (.int .i64 (IntKind.i64.wrap ((i) + 1))))], [[.int .i64 (b.lo), .int .i64 (b.hi), .int .u8 (b.f)], [.int .i64 (y.lo), .int .i64 (y.hi), .int .u8 (y.f)], [.int .i64 0, .int .i64 0, .int .u8 0], [.int .i64 ((S_hull (S_hull o ((⟨S_quotient b.lo x, S_quotient b.lo x, 0⟩ : B)) true) ((⟨S_quotient b.hi x, S_quotient b.hi x, 0⟩ : B)) true).lo), .int .i64 ((S_hull (S_hull o ((⟨S_quotient b.lo x, S_quotient b.lo x, 0⟩ : B)) true) ((⟨S_quotient b.hi x, S_quotient b.hi x, 0⟩ : B)) true).hi), .int .u8 ((S_hull (S_hull o ((⟨S_quotient b.lo x, S_quotient b.lo x, 0⟩ : B)) true) ((⟨S_quotient b.hi x, S_quotient b.hi x, 0⟩ : B)) true).f)]], h, []⟩) (by kernel_rfl) (.b h0 <| .p hi_x <| .l (hr_x.fld 0 rfl rfl (by omega) : rdAt false 1 h b_x o_x (o_x + 1) = some (.int .i64 (x))) <| .b3 h1 <| .c (c_has (by omega) hL h y x) <| .b2 h1 <| .b h2 <| .w (rounds_le (m := 3) (round_on (m := 2) (s1 := ⟨[(2, .loc 0 0), (3, .loc 1 0), (4, .loc 2 0), (5, .loc 3 0), (7, .val (.int .i64 (x))), (18, .val (xs)), (19, .val (.int .i64 ((len : Nat) : Int))), (20, .val (.int .i64 (i))), (38, .val (.agg [.int .i64 (b.lo), .int .i64 (b.hi)])), (39, .val (.int .i64 1))], [[.int .i64 (b.lo), .int .i64 (b.hi), .int .u8 (b.f)], [.int .i64 (y.lo), .int .i64 (y.hi), .int .u8 (y.f)], [.int .i64 0, .int .i64 0, .int .u8 0], [.int .i64 ((S_hull o ((⟨S_quotient b.lo x, S_quotient b.lo x, 0⟩ : B)) true).lo), .int .i64 ((S_hull o ((⟨S_quotient b.lo x, S_quotient b.lo x, 0⟩ : B)) true).hi), .int .u8 ((S_hull o ((⟨S_quotient b.lo x, S_quotient b.lo x, 0⟩ : B)) true).f)]], h, []⟩) (by kernel_rfl) (.b (rfl : true = true) <| .r (by kernel_rfl : indexT Tryz.prog 148 (.agg [.int .i64 (b.lo), .int .i64 (b.hi)]) (.int .i64 0) = some (.int .i64 (b.lo))) <| .c (c_quotient (by omega) hL h b.lo x (by simpa using h1)) <| .c (c_from (by omega) hL h (S_quotient b.lo x) (S_quotient b.lo x)) <| .c (c_hull (by omega) hL h o ((⟨S_quotient b.lo x, S_quotient b.lo x, 0⟩ : B)) true) <| .n) (round_on (m := 1) (s1 := ⟨[(2, .loc 0 0), (3, .loc 1 0), (4, .loc 2 0), (5, .loc 3 0), (7, .val (.int .i64 (x))), (18, .val (xs)), (19, .val (.int .i64 ((len : Nat) : Int))), (20, .val (.int .i64 (i))), (38, .val (.agg [.int .i64 (b.lo), .int .i64 (b.hi)])), (39, .val (.int .i64 2))], [[.int .i64 (b.lo), .int .i64 (b.hi), .int .u8 (b.f)], [.int .i64 (y.lo), .int .i64 (y.hi), .int .u8 (y.f)], [.int .i64 0, .int .i64 0, .int .u8 0], [.int .i64 ((S_hull (S_hull o ((⟨S_quotient b.lo x, S_quotient b.lo x, 0⟩ : B)) true) ((⟨S_quotient b.hi x, S_quotient b.hi x, 0⟩ : B)) true).lo), .int .i64 ((S_hull (S_hull o ((⟨S_quotient b.lo x, S_quotient b.lo x, 0⟩ : B)) true) ((⟨S_quotient b.hi x, S_quotient b.hi x, 0⟩ : B)) true).hi), .int .u8 ((S_hull (S_hull o ((⟨S_quotient b.lo x, S_quotient b.lo x, 0⟩ : B)) true) ((⟨S_quotient b.hi x, S_quotient b.hi x, 0⟩ : B)) true).f)]], h, []⟩) (by kernel_rfl) (.b (rfl : true = true) <| .r (by kernel_rfl : indexT Tryz.prog 148 (.agg [.int .i64 (b.lo), .int .i64 (b.hi)]) (.int .i64 1) = some (.int .i64 (b.hi))) <| .c (c_quotient (by omega) hL h b.hi x (by simpa using h1)) <| .c (c_from (by omega) hL h (S_quotient b.hi x) (S_quotient b.hi x)) <| .c (c_hull (by omega) hL h (S_hull o ((⟨S_quotient b.lo x, S_quotient b.lo x, 0⟩ : B)) true) ((⟨S_quotient b.hi x, S_quotient b.hi x, 0⟩ : B)) true) <| .n) (round_out (m := 0) (s1 := ⟨[(2, .loc 0 0), (3, .loc 1 0), (4, .loc 2 0), (5, .loc 3 0), (7, .val (.int .i64 (x))), (18, .val (xs)), (19, .val (.int .i64 ((len : Nat) : Int))), (20, .val (.int .i64 (i))), (38, .val (.agg [.int .i64 (b.lo), .int .i64 (b.hi)])), (39, .val (.int .i64 2)), (40, .val (.bool false))], [[.int .i64 (b.lo), .int .i64 (b.hi), .int .u8 (b.f)], [.int .i64 (y.lo), .int .i64 (y.hi), .int .u8 (y.f)], [.int .i64 0, .int .i64 0, .int .u8 0], [.int .i64 ((S_hull (S_hull o ((⟨S_quotient b.lo x, S_quotient b.lo x, 0⟩ : B)) true) ((⟨S_quotient b.hi x, S_quotient b.hi x, 0⟩ : B)) true).lo), .int .i64 ((S_hull (S_hull o ((⟨S_quotient b.lo x, S_quotient b.lo x, 0⟩ : B)) true) ((⟨S_quotient b.hi x, S_quotient b.hi x, 0⟩ : B)) true).hi), .int .u8 ((S_hull (S_hull o ((⟨S_quotient b.lo x, S_quotient b.lo x, 0⟩ : B)) true) ((⟨S_quotient b.hi x, S_quotient b.hi x, 0⟩ : B)) true).f)]], h, []⟩) (by kernel_rfl) (.b (rfl : false = false) <| .n) rfl))) (by omega) : rounds Tryz.prog T (AP L (n - 1)) L 99 1 fl L ⟨[(2, .loc 0 0), (3, .loc 1 0), (4, .loc 2 0), (5, .loc 3 0), (7, .val (.int .i64 (x))), (18, .val (xs)), (19, .val (.int .i64 ((len : Nat) : Int))), (20, .val (.int .i64 (i))), (38, .val (.agg [.int .i64 (b.lo), .int .i64 (b.hi)])), (39, .val (.int .i64 0))], [[.int .i64 (b.lo), .int .i64 (b.hi), .int .u8 (b.f)], [.int .i64 (y.lo), .int .i64 (y.hi), .int .u8 (y.f)], [.int .i64 0, .int .i64 0, .int .u8 0], [.int .i64 (o.lo), .int .i64 (o.hi), .int .u8 (o.f)]], h, []⟩ = some ((.exit 2), ⟨[(2, .loc 0 0), (3, .loc 1 0), (4, .loc 2 0), (5, .loc 3 0), (7, .val (.int .i64 (x))), (18, .val (xs)), (19, .val (.int .i64 ((len : Nat) : Int))), (20, .val (.int .i64 (i))), (38, .val (.agg [.int .i64 (b.lo), .int .i64 (b.hi)])), (39, .val (.int .i64 2)), (40, .val (.bool false))], [[.int .i64 (b.lo), .int .i64 (b.hi), .int .u8 (b.f)], [.int .i64 (y.lo), .int .i64 (y.hi), .int .u8 (y.f)], [.int .i64 0, .int .i64 0, .int .u8 0], [.int .i64 ((S_hull (S_hull o ((⟨S_quotient b.lo x, S_quotient b.lo x, 0⟩ : B)) true) ((⟨S_quotient b.hi x, S_quotient b.hi x, 0⟩ : B)) true).lo), .int .i64 ((S_hull (S_hull o ((⟨S_quotient b.lo x, S_quotient b.lo x, 0⟩ : B)) true) ((⟨S_quotient b.hi x, S_quotient b.hi x, 0⟩ : B)) true).hi), .int .u8 ((S_hull (S_hull o ((⟨S_quotient b.lo x, S_quotient b.lo x, 0⟩ : B)) true) ((⟨S_quotient b.hi x, S_quotient b.hi x, 0⟩ : B)) true).f)]], h, []⟩)) <| .n) (rounds_congr (by kernel_rfl))
abbrev X_div_3 (b : B) (y : B) (o : B) (xs : TV) (len : Nat) (i : Int) (h : List HB)  : St := ⟨[(2, .loc 0 0), (3, .loc 1 0), (4, .loc 2 0), (5, .loc 3 0), (18, .val (xs)), (19, .val (.int .i64 ((len : Nat) : Int))), (20, .val (.int .i64 (i))), (21, .val (.bool (decide ((i) < ((len : Nat) : Int)))))], [[.int .i64 (b.lo), .int .i64 (b.hi), .int .u8 (b.f)], [.int .i64 (y.lo), .int .i64 (y.hi), .int .u8 (y.f)], [.int .i64 0, .int .i64 0, .int .u8 0], [.int .i64 (o.lo), .int .i64 (o.hi), .int .u8 (o.f)]], h, []⟩
theorem r_div_3 {L n m fl : Nat} (hn : 3 ≤ n) (hL : 30000 ≤ L) (b : B) (y : B) (o : B) (xs : TV) (len : Nat) (i : Int) (h : List HB)   (h0 : (decide ((i) < ((len : Nat) : Int))) = false) : rounds Tryz.prog T (AP L (n - 1)) L 99 0 fl (m + 1) (W_div b y o xs len i h) = some ((.exit 0), X_div_3 b y o xs len i h ) :=
  round_out (s1 := X_div_3 b y o xs len i h ) (by kernel_rfl) (.b h0 <| .n) rfl
def F_div (b : B) (y : B) (i : Nat) (x : Int) (s : B) : (B) ⊕ (Empty) :=
  if ((x) == 0) = true then .inl (s) else if (!(S_has y x)) = true then .inl (s) else .inl (S_hull (S_hull s ((⟨S_quotient b.lo x, S_quotient b.lo x, 0⟩ : B)) true) ((⟨S_quotient b.hi x, S_quotient b.hi x, 0⟩ : B)) true)
theorem l_div {L n fl : Nat} (hn : 3 ≤ n) (hL : 30000 ≤ L) (b : B) (y : B) (xs : TV) (h : List HB) (ds : List Int) (hs : SV h xs 1 I.tvs ds) (hlen : ds.length < 4000)  (s : B) : rounds Tryz.prog T (AP L (n - 1)) L 99 0 fl L (W_div b y s xs ds.length 0 h) = lpEnd (.exit 0) (fun s => (fun (s : B) i => X_div_3 b y s xs ds.length i h) s ds.length) (fun (r : Empty) => (r.elim : Ex × St)) (runL (F_div b y) ds 0 s) :=
  foreach0 (fl := fl) (step := F_div b y) (W := (fun (s : B) i => W_div b y s xs ds.length i h)) (X := (fun (s : B) i => X_div_3 b y s xs ds.length i h)) (R := (fun (r : Empty) => (r.elim : Ex × St))) (fun _ _ => True) (fun i x s m hI ha => by
    obtain ⟨hi, hr⟩ := hs.at ha
    have h0 : (decide (((((i : Nat) : Int))) < ((ds.length : Nat) : Int))) = true := by simp; omega
    unfold F_div
    exact (step_ite (fun h1 => ⟨trivial, r_div_0 hn hL b y s xs ds.length ((i : Int)) h x (eb xs) (eo xs i)  h0 h1 (hs.ix u24 z3 (by omega) hi) hr⟩)
      (fun h1 => (step_ite (fun h2 => ⟨trivial, r_div_1 hn hL b y s xs ds.length ((i : Int)) h x (eb xs) (eo xs i)  h0 h1 h2 (hs.ix u24 z3 (by omega) hi) hr⟩)
      (fun h2 => ⟨trivial, r_div_2 hn hL b y s xs ds.length ((i : Int)) h x (eb xs) (eo xs i)  h0 h1 h2 (hs.ix u24 z3 (by omega) hi) hr⟩)))))
    (fun s m _ => r_div_3 hn hL b y s xs ds.length ((ds.length : Int)) h (by simp)) (by omega) s L trivial (by omega)
def S_div (b : B) (y : B) : B :=
  S_with ((getE (runL (F_div b y) (([y.lo, y.hi, -1, 1] : List Int)) 0 ((⟨1, 0, 0⟩ : B))))) [S_by0 y]
theorem c_div {L n : Nat} (hn : 4 ≤ n) (hL : 30000 ≤ L) (h : List HB) (b : B) (y : B)  : AP L n (.fn 99 [] []) [B.tv b, B.tv y] h = some (B.tv (((S_div b y))), h, []) :=
  (ap_t (by omega) (by kernel_rfl) (.c (c_nothing (by omega) hL h) <| .k (by kernel_rfl : lenT Tryz.prog #[24] (h ++ [HB.cells .own [.int .i64 (y.lo), .int .i64 (y.hi), .int .i64 (-1), .int .i64 1]]) (.slc h.length 0 4 4 1 true) = some (.int .i64 4, noInf)) <| .w ((l_div (by omega) hL b y (.slc h.length 0 4 4 1 true) (h ++ [HB.cells .own [.int .i64 (y.lo), .int .i64 (y.hi), .int .i64 (-1), .int .i64 1]]) (([y.lo, y.hi, -1, 1] : List Int)) ((SV.new (h := h) (k := .own) (cap := 4) (ex := true) (sz := 1) (enc := I.tvs) ([y.lo, y.hi, -1, 1] : List Int) (by simp) rfl)) (by simp) ((⟨1, 0, 0⟩ : B))).trans lpEnd_e) <| .c (c_by0 (by omega) hL (h ++ [HB.cells .own [.int .i64 (y.lo), .int .i64 (y.hi), .int .i64 (-1), .int .i64 1]]) y) <| .c (c_with (by omega) hL (h ++ [HB.cells .own [.int .i64 (y.lo), .int .i64 (y.hi), .int .i64 (-1), .int .i64 1]] ++ [HB.cells .own [.int .u8 (S_by0 y)]]) ((getE (runL (F_div b y) (([y.lo, y.hi, -1, 1] : List Int)) 0 ((⟨1, 0, 0⟩ : B))))) [S_by0 y] _ 0 1 true (RwS_new [[.int .u8 (S_by0 y)]] (by simp)) rfl (by simp)) <| .n))
end Go.Proofs.YtfhiejgoemcelaaGreat
namespace Go.Proofs.YtfhiejgoemcelaaGreat
open Go Tw
theorem c_both {L n : Nat} (hn : 1 ≤ n) (hL : 30000 ≤ L) (h : List HB) (k : Nat)  : AP L n (.fn 95 [] []) [.fn k [] []] h = some (.fn 127 [] [.ptr h.length 0 1], h ++ [HB.cells .own [.fn k [] []]], []) :=
  ap_t (by omega) (by kernel_rfl) .n
theorem u95 : Tryz.prog.underlying 95 = some (.map 5 125) := by kernel_rfl
theorem updateT_new {P : Program} {t kt et : TypeId} {h tl : List HB} {es : List (TV × TV)} {k v : TV} {kv : Value} (hu : P.underlying t = some (.map kt et)) (hk : k.toV = some kv) (hc : pureRun P (Instr.checkKey false 10000 kt kv) = some ()) (hf : findT P kt kv es = some none) :
    updateT P t (onH (h ++ .map es :: tl)) (.map h.length) k v = some (onH (h ++ .map (es ++ [(k, v)]) :: tl), wrK (.h h.length)) := by
  unfold updateT
  simp only [hu, hk, hc]
  simp [hf]
def rulesM (b : Nat) : List (TV × TV) := [(.int .u8 5, .agg [.int .i64 1, .fn 93 [] []]), (.int .u8 6, .agg [.int .i64 1, .fn 94 [] []]), (.int .u8 7, .agg [.int .i64 2, .fn 127 [] [.ptr (b + 1) 0 1]]), (.int .u8 8, .agg [.int .i64 2, .fn 127 [] [.ptr (b + 2) 0 1]]), (.int .u8 9, .agg [.int .i64 2, .fn 127 [] [.ptr (b + 3) 0 1]]), (.int .u8 10, .agg [.int .i64 2, .fn 127 [] [.ptr (b + 4) 0 1]]), (.int .u8 11, .agg [.int .i64 2, .fn 127 [] [.ptr (b + 5) 0 1]]), (.int .u8 12, .agg [.int .i64 2, .fn 127 [] [.ptr (b + 6) 0 1]]), (.int .u8 13, .agg [.int .i64 2, .fn 127 [] [.ptr (b + 7) 0 1]]), (.int .u8 14, .agg [.int .i64 2, .fn 127 [] [.ptr (b + 8) 0 1]]), (.int .u8 15, .agg [.int .i64 2, .fn 104 [] []]), (.int .u8 16, .agg [.int .i64 2, .fn 105 [] []]), (.int .u8 17, .agg [.int .i64 3, .fn 106 [] []])]
def rulesL (b : Nat) : List HB :=
  [HB.map (rulesM b), HB.cells .own [.fn 96 [] []], HB.cells .own [.fn 97 [] []], HB.cells .own [.fn 98 [] []], HB.cells .own [.fn 99 [] []], HB.cells .own [.fn 100 [] []], HB.cells .own [.fn 101 [] []], HB.cells .own [.fn 102 [] []], HB.cells .own [.fn 103 [] []]]
theorem c_rules {L n : Nat} (hn : 2 ≤ n) (hL : 30000 ≤ L) (h : List HB)   : AP L n (.fn 63 [] []) [] h = some (.map h.length, h ++ rulesL h.length, []) :=
  ap_t (by omega) (by kernel_rfl) (.u (updateT_new (kv := .int .u8 5) u95 rfl (by kernel_rfl) (by kernel_rfl) : updateT Tryz.prog 95 (onH (h ++ [HB.map []])) (.map h.length) (.int .u8 5) (.agg [.int .i64 1, .fn 93 [] []]) = some (onH (h ++ [HB.map [(.int .u8 5, .agg [.int .i64 1, .fn 93 [] []])]]), wrK (.h h.length))) (by simp [addW] : addW h.length h.length [] = []) <| .u (updateT_new (kv := .int .u8 6) u95 rfl (by kernel_rfl) (by kernel_rfl) : updateT Tryz.prog 95 (onH (h ++ [HB.map [(.int .u8 5, .agg [.int .i64 1, .fn 93 [] []])]])) (.map h.length) (.int .u8 6) (.agg [.int .i64 1, .fn 94 [] []]) = some (onH (h ++ [HB.map [(.int .u8 5, .agg [.int .i64 1, .fn 93 [] []]), (.int .u8 6, .agg [.int .i64 1, .fn 94 [] []])]]), wrK (.h h.length))) (by simp [addW] : addW h.length h.length [] = []) <| .c (by have := c_both (n := n - 1) (by omega) hL (h ++ [HB.map [(.int .u8 5, .agg [.int .i64 1, .fn 93 [] []]), (.int .u8 6, .agg [.int .i64 1, .fn 94 [] []])]]) 96; simpa using this : AP L (n - 1) (.fn 95 [] []) [.fn 96 [] []] (h ++ [HB.map [(.int .u8 5, .agg [.int .i64 1, .fn 93 [] []]), (.int .u8 6, .agg [.int .i64 1, .fn 94 [] []])]]) = some (.fn 127 [] [.ptr (h.length + 1) 0 1], h ++ [HB.map [(.int .u8 5, .agg [.int .i64 1, .fn 93 [] []]), (.int .u8 6, .agg [.int .i64 1, .fn 94 [] []])], HB.cells .own [.fn 96 [] []]], [])) <| .u (updateT_new (kv := .int .u8 7) u95 rfl (by kernel_rfl) (by kernel_rfl) : updateT Tryz.prog 95 (onH (h ++ [HB.map [(.int .u8 5, .agg [.int .i64 1, .fn 93 [] []]), (.int .u8 6, .agg [.int .i64 1, .fn 94 [] []])], HB.cells .own [.fn 96 [] []]])) (.map h.length) (.int .u8 7) (.agg [.int .i64 2, .fn 127 [] [.ptr (h.length + 1) 0 1]]) = some (onH (h ++ [HB.map [(.int .u8 5, .agg [.int .i64 1, .fn 93 [] []]), (.int .u8 6, .agg [.int .i64 1, .fn 94 [] []]), (.int .u8 7, .agg [.int .i64 2, .fn 127 [] [.ptr (h.length + 1) 0 1]])], HB.cells .own [.fn 96 [] []]]), wrK (.h h.length))) (by simp [addW] : addW h.length h.length [] = []) <| .c (by have := c_both (n := n - 1) (by omega) hL (h ++ [HB.map [(.int .u8 5, .agg [.int .i64 1, .fn 93 [] []]), (.int .u8 6, .agg [.int .i64 1, .fn 94 [] []]), (.int .u8 7, .agg [.int .i64 2, .fn 127 [] [.ptr (h.length + 1) 0 1]])], HB.cells .own [.fn 96 [] []]]) 97; simpa using this : AP L (n - 1) (.fn 95 [] []) [.fn 97 [] []] (h ++ [HB.map [(.int .u8 5, .agg [.int .i64 1, .fn 93 [] []]), (.int .u8 6, .agg [.int .i64 1, .fn 94 [] []]), (.int .u8 7, .agg [.int .i64 2, .fn 127 [] [.ptr (h.length + 1) 0 1]])], HB.cells .own [.fn 96 [] []]]) = some (.fn 127 [] [.ptr (h.length + 2) 0 1], h ++ [HB.map [(.int .u8 5, .agg [.int .i64 1, .fn 93 [] []]), (.int .u8 6, .agg [.int .i64 1, .fn 94 [] []]), (.int .u8 7, .agg [.int .i64 2, .fn 127 [] [.ptr (h.length + 1) 0 1]])], HB.cells .own [.fn 96 [] []], HB.cells .own [.fn 97 [] []]], [])) <| .u (updateT_new (kv := .int .u8 8) u95 rfl (by kernel_rfl) (by kernel_rfl) : updateT Tryz.prog 95 (onH (h ++ [HB.map [(.int .u8 5, .agg [.int .i64 1, .fn 93 [] []]), (.int .u8 6, .agg [.int .i64 1, .fn 94 [] []]), (.int .u8 7, .agg [.int .i64 2, .fn 127 [] [.ptr (h.length + 1) 0 1]])], HB.cells .own [.fn 96 [] []], HB.cells .own [.fn 97 [] []]])) (.map h.length) (.int .u8 8) (.agg [.int .i64 2, .fn 127 [] [.ptr (h.length + 2) 0 1]]) = some (onH (h ++ [HB.map [(.int .u8 5, .agg [.int .i64 1, .fn 93 [] []]), (.int .u8 6, .agg [.int .i64 1, .fn 94 [] []]), (.int .u8 7, .agg [.int .i64 2, .fn 127 [] [.ptr (h.length + 1) 0 1]]), (.int .u8 8, .agg [.int .i64 2, .fn 127 [] [.ptr (h.length + 2) 0 1]])], HB.cells .own [.fn 96 [] []], HB.cells .own [.fn 97 [] []]]), wrK (.h h.length))) (by simp [addW] : addW h.length h.length [] = []) <| .c (by have := c_both (n := n - 1) (by omega) hL (h ++ [HB.map [(.int .u8 5, .agg [.int .i64 1, .fn 93 [] []]), (.int .u8 6, .agg [.int .i64 1, .fn 94 [] []]), (.int .u8 7, .agg [.int .i64 2, .fn 127 [] [.ptr (h.length + 1) 0 1]]), (.int .u8 8, .agg [.int .i64 2, .fn 127 [] [.ptr (h.length + 2) 0 1]])], HB.cells .own [.fn 96 [] []], HB.cells .own [.fn 97 [] []]]) 98; simpa using this : AP L (n - 1) (.fn 95 [] []) [.fn 98 [] []] (h ++ [HB.map [(.int .u8 5, .agg [.int .i64 1, .fn 93 [] []]), (.int .u8 6, .agg [.int .i64 1, .fn 94 [] []]), (.int .u8 7, .agg [.int .i64 2, .fn 127 [] [.ptr (h.length + 1) 0 1]]), (.int .u8 8, .agg [.int .i64 2, .fn 127 [] [.ptr (h.length + 2) 0 1]])], HB.cells .own [.fn 96 [] []], HB.cells .own [.fn 97 [] []]]) = some (.fn 127 [] [.ptr (h.length + 3) 0 1], h ++ [HB.map [(.int .u8 5, .agg [.int .i64 1, .fn 93 [] []]), (.int .u8 6, .agg [.int .i64 1, .fn 94 [] []]), (.int .u8 7, .agg [.int .i64 2, .fn 127 [] [.ptr (h.length + 1) 0 1]]), (.int .u8 8, .agg [.int .i64 2, .fn 127 [] [.ptr (h.length + 2) 0 1]])], HB.cells .own [.fn 96 [] []], HB.cells .own [.fn 97 [] []], HB.cells .own [.fn 98 [] []]], [])) <| .u (updateT_new (kv := .int .u8 9) u95 rfl (by kernel_rfl) (by kernel_rfl) : updateT Tryz.prog 95 (onH (h ++ [HB.map [(.int .u8 5, .agg [.int .i64 1, .fn 93 [] []]), (.int .u8 6, .agg [.int .i64 1, .fn 94 [] []]), (.int .u8 7, .agg [.int .i64 2, .fn 127 [] [.ptr (h.length + 1) 0 1]]), (.int .u8 8, .agg [.int .i64 2, .fn 127 [] [.ptr (h.length + 2) 0 1]])], HB.cells .own [.fn 96 [] []], HB.cells .own [.fn 97 [] []], HB.cells .own [.fn 98 [] []]])) (.map h.length) (.int .u8 9) (.agg [.int .i64 2, .fn 127 [] [.ptr (h.length + 3) 0 1]]) = some (onH (h ++ [HB.map [(.int .u8 5, .agg [.int .i64 1, .fn 93 [] []]), (.int .u8 6, .agg [.int .i64 1, .fn 94 [] []]), (.int .u8 7, .agg [.int .i64 2, .fn 127 [] [.ptr (h.length + 1) 0 1]]), (.int .u8 8, .agg [.int .i64 2, .fn 127 [] [.ptr (h.length + 2) 0 1]]), (.int .u8 9, .agg [.int .i64 2, .fn 127 [] [.ptr (h.length + 3) 0 1]])], HB.cells .own [.fn 96 [] []], HB.cells .own [.fn 97 [] []], HB.cells .own [.fn 98 [] []]]), wrK (.h h.length))) (by simp [addW] : addW h.length h.length [] = []) <| .c (by have := c_both (n := n - 1) (by omega) hL (h ++ [HB.map [(.int .u8 5, .agg [.int .i64 1, .fn 93 [] []]), (.int .u8 6, .agg [.int .i64 1, .fn 94 [] []]), (.int .u8 7, .agg [.int .i64 2, .fn 127 [] [.ptr (h.length + 1) 0 1]]), (.int .u8 8, .agg [.int .i64 2, .fn 127 [] [.ptr (h.length + 2) 0 1]]), (.int .u8 9, .agg [.int .i64 2, .fn 127 [] [.ptr (h.length + 3) 0 1]])], HB.cells .own [.fn 96 [] []], HB.cells .own [.fn 97 [] []], HB.cells .own [.fn 98 [] []]]) 99; simpa using this : AP L (n - 1) (.fn 95 [] []) [.fn 99 [] []] (h ++ [HB.map [(.int .u8 5, .agg [.int .i64 1, .fn 93 [] []]), (.int .u8 6, .agg [.int .i64 1, .fn 94 [] []]), (.int .u8 7, .agg [.int .i64 2, .fn 127 [] [.ptr (h.length + 1) 0 1]]), (.int .u8 8, .agg [.int .i64 2, .fn 127 [] [.ptr (h.length + 2) 0 1]]), (.int .u8 9, .agg [.int .i64 2, .fn 127 [] [.ptr (h.length + 3) 0 1]])], HB.cells .own [.fn 96 [] []], HB.cells .own [.fn 97 [] []], HB.cells .own [.fn 98 [] []]]) = some (.fn 127 [] [.ptr (h.length + 4) 0 1], h ++ [HB.map [(.int .u8 5, .agg [.int .i64 1, .fn 93 [] []]), (.int .u8 6, .agg [.int .i64 1, .fn 94 [] []]), (.int .u8 7, .agg [.int .i64 2, .fn 127 [] [.ptr (h.length + 1) 0 1]]), (.int .u8 8, .agg [.int .i64 2, .fn 127 [] [.ptr (h.length + 2) 0 1]]), (.int .u8 9, .agg [.int .i64 2, .fn 127 [] [.ptr (h.length + 3) 0 1]])], HB.cells .own [.fn 96 [] []], HB.cells .own [.fn 97 [] []], HB.cells .own [.fn 98 [] []], HB.cells .own [.fn 99 [] []]], [])) <| .u (updateT_new (kv := .int .u8 10) u95 rfl (by kernel_rfl) (by kernel_rfl) : updateT Tryz.prog 95 (onH (h ++ [HB.map [(.int .u8 5, .agg [.int .i64 1, .fn 93 [] []]), (.int .u8 6, .agg [.int .i64 1, .fn 94 [] []]), (.int .u8 7, .agg [.int .i64 2, .fn 127 [] [.ptr (h.length + 1) 0 1]]), (.int .u8 8, .agg [.int .i64 2, .fn 127 [] [.ptr (h.length + 2) 0 1]]), (.int .u8 9, .agg [.int .i64 2, .fn 127 [] [.ptr (h.length + 3) 0 1]])], HB.cells .own [.fn 96 [] []], HB.cells .own [.fn 97 [] []], HB.cells .own [.fn 98 [] []], HB.cells .own [.fn 99 [] []]])) (.map h.length) (.int .u8 10) (.agg [.int .i64 2, .fn 127 [] [.ptr (h.length + 4) 0 1]]) = some (onH (h ++ [HB.map [(.int .u8 5, .agg [.int .i64 1, .fn 93 [] []]), (.int .u8 6, .agg [.int .i64 1, .fn 94 [] []]), (.int .u8 7, .agg [.int .i64 2, .fn 127 [] [.ptr (h.length + 1) 0 1]]), (.int .u8 8, .agg [.int .i64 2, .fn 127 [] [.ptr (h.length + 2) 0 1]]), (.int .u8 9, .agg [.int .i64 2, .fn 127 [] [.ptr (h.length + 3) 0 1]]), (.int .u8 10, .agg [.int .i64 2, .fn 127 [] [.ptr (h.length + 4) 0 1]])], HB.cells .own [.fn 96 [] []], HB.cells .own [.fn 97 [] []], HB.cells .own [.fn 98 [] []], HB.cells .own [.fn 99 [] []]]), wrK (.h h.length))) (by simp [addW] : addW h.length h.length [] = []) <| .c (by have := c_both (n := n - 1) (by omega) hL (h ++ [HB.map [(.int .u8 5, .agg [.int .i64 1, .fn 93 [] []]), (.int .u8 6, .agg [.int .i64 1, .fn 94 [] []]), (.int .u8 7, .agg [.int .i64 2, .fn 127 [] [.ptr (h.length + 1) 0 1]]), (.int .u8 8, .agg [.int .i64 2, .fn 127 [] [.ptr (h.length + 2) 0 1]]), (.int .u8 9, .agg [.int .i64 2, .fn 127 [] [.ptr (h.length + 3) 0 1]]), (.int .u8 10, .agg [.int .i64 2, .fn 127 [] [.ptr (h.length + 4) 0 1]])], HB.cells .own [.fn 96 [] []], HB.cells .own [.fn 97 [] []], HB.cells .own [.fn 98 [] []], HB.cells .own [.fn 99 [] []]]) 100; simpa using this : AP L (n - 1) (.fn 95 [] []) [.fn 100 [] []] (h ++ [HB.map [(.int .u8 5, .agg [.int .i64 1, .fn 93 [] []]), (.int .u8 6, .agg [.int .i64 1, .fn 94 [] []]), (.int .u8 7, .agg [.int .i64 2, .fn 127 [] [.ptr (h.length + 1) 0 1]]), (.int .u8 8, .agg [.int .i64 2, .fn 127 [] [.ptr (h.length + 2) 0 1]]), (.int .u8 9, .agg [.int .i64 2, .fn 127 [] [.ptr (h.length + 3) 0 1]]), (.int .u8 10, .agg [.int .i64 2, .fn 127 [] [.ptr (h.length + 4) 0 1]])], HB.cells .own [.fn 96 [] []], HB.cells .own [.fn 97 [] []], HB.cells .own [.fn 98 [] []], HB.cells .own [.fn 99 [] []]]) = some (.fn 127 [] [.ptr (h.length + 5) 0 1], h ++ [HB.map [(.int .u8 5, .agg [.int .i64 1, .fn 93 [] []]), (.int .u8 6, .agg [.int .i64 1, .fn 94 [] []]), (.int .u8 7, .agg [.int .i64 2, .fn 127 [] [.ptr (h.length + 1) 0 1]]), (.int .u8 8, .agg [.int .i64 2, .fn 127 [] [.ptr (h.length + 2) 0 1]]), (.int .u8 9, .agg [.int .i64 2, .fn 127 [] [.ptr (h.length + 3) 0 1]]), (.int .u8 10, .agg [.int .i64 2, .fn 127 [] [.ptr (h.length + 4) 0 1]])], HB.cells .own [.fn 96 [] []], HB.cells .own [.fn 97 [] []], HB.cells .own [.fn 98 [] []], HB.cells .own [.fn 99 [] []], HB.cells .own [.fn 100 [] []]], [])) <| .u (updateT_new (kv := .int .u8 11) u95 rfl (by kernel_rfl) (by kernel_rfl) : updateT Tryz.prog 95 (onH (h ++ [HB.map [(.int .u8 5, .agg [.int .i64 1, .fn 93 [] []]), (.int .u8 6, .agg [.int .i64 1, .fn 94 [] []]), (.int .u8 7, .agg [.int .i64 2, .fn 127 [] [.ptr (h.length + 1) 0 1]]), (.int .u8 8, .agg [.int .i64 2, .fn 127 [] [.ptr (h.length + 2) 0 1]]), (.int .u8 9, .agg [.int .i64 2, .fn 127 [] [.ptr (h.length + 3) 0 1]]), (.int .u8 10, .agg [.int .i64 2, .fn 127 [] [.ptr (h.length + 4) 0 1]])], HB.cells .own [.fn 96 [] []], HB.cells .own [.fn 97 [] []], HB.cells .own [.fn 98 [] []], HB.cells .own [.fn 99 [] []], HB.cells .own [.fn 100 [] []]])) (.map h.length) (.int .u8 11) (.agg [.int .i64 2, .fn 127 [] [.ptr (h.length + 5) 0 1]]) = some (onH (h ++ [HB.map [(.int .u8 5, .agg [.int .i64 1, .fn 93 [] []]), (.int .u8 6, .agg [.int .i64 1, .fn 94 [] []]), (.int .u8 7, .agg [.int .i64 2, .fn 127 [] [.ptr (h.length + 1) 0 1]]), (.int .u8 8, .agg [.int .i64 2, .fn 127 [] [.ptr (h.length + 2) 0 1]]), (.int .u8 9, .agg [.int .i64 2, .fn 127 [] [.ptr (h.length + 3) 0 1]]), (.int .u8 10, .agg [.int .i64 2, .fn 127 [] [.ptr (h.length + 4) 0 1]]), (.int .u8 11, .agg [.int .i64 2, .fn 127 [] [.ptr (h.length + 5) 0 1]])], HB.cells .own [.fn 96 [] []], HB.cells .own [.fn 97 [] []], HB.cells .own [.fn 98 [] []], HB.cells .own [.fn 99 [] []], HB.cells .own [.fn 100 [] []]]), wrK (.h h.length))) (by simp [addW] : addW h.length h.length [] = []) <| .c (by have := c_both (n := n - 1) (by omega) hL (h ++ [HB.map [(.int .u8 5, .agg [.int .i64 1, .fn 93 [] []]), (.int .u8 6, .agg [.int .i64 1, .fn 94 [] []]), (.int .u8 7, .agg [.int .i64 2, .fn 127 [] [.ptr (h.length + 1) 0 1]]), (.int .u8 8, .agg [.int .i64 2, .fn 127 [] [.ptr (h.length + 2) 0 1]]), (.int .u8 9, .agg [.int .i64 2, .fn 127 [] [.ptr (h.length + 3) 0 1]]), (.int .u8 10, .agg [.int .i64 2, .fn 127 [] [.ptr (h.length + 4) 0 1]]), (.int .u8 11, .agg [.int .i64 2, .fn 127 [] [.ptr (h.length + 5) 0 1]])], HB.cells .own [.fn 96 [] []], HB.cells .own [.fn 97 [] []], HB.cells .own [.fn 98 [] []], HB.cells .own [.fn 99 [] []], HB.cells .own [.fn 100 [] []]]) 101; simpa using this : AP L (n - 1) (.fn 95 [] []) [.fn 101 [] []] (h ++ [HB.map [(.int .u8 5, .agg [.int .i64 1, .fn 93 [] []]), (.int .u8 6, .agg [.int .i64 1, .fn 94 [] []]), (.int .u8 7, .agg [.int .i64 2, .fn 127 [] [.ptr (h.length + 1) 0 1]]), (.int .u8 8, .agg [.int .i64 2, .fn 127 [] [.ptr (h.length + 2) 0 1]]), (.int .u8 9, .agg [.int .i64 2, .fn 127 [] [.ptr (h.length + 3) 0 1]]), (.int .u8 10, .agg [.int .i64 2, .fn 127 [] [.ptr (h.length + 4) 0 1]]), (.int .u8 11, .agg [.int .i64 2, .fn 127 [] [.ptr (h.length + 5) 0 1]])], HB.cells .own [.fn 96 [] []], HB.cells .own [.fn 97 [] []], HB.cells .own [.fn 98 [] []], HB.cells .own [.fn 99 [] []], HB.cells .own [.fn 100 [] []]]) = some (.fn 127 [] [.ptr (h.length + 6) 0 1], h ++ [HB.map [(.int .u8 5, .agg [.int .i64 1, .fn 93 [] []]), (.int .u8 6, .agg [.int .i64 1, .fn 94 [] []]), (.int .u8 7, .agg [.int .i64 2, .fn 127 [] [.ptr (h.length + 1) 0 1]]), (.int .u8 8, .agg [.int .i64 2, .fn 127 [] [.ptr (h.length + 2) 0 1]]), (.int .u8 9, .agg [.int .i64 2, .fn 127 [] [.ptr (h.length + 3) 0 1]]), (.int .u8 10, .agg [.int .i64 2, .fn 127 [] [.ptr (h.length + 4) 0 1]]), (.int .u8 11, .agg [.int .i64 2, .fn 127 [] [.ptr (h.length + 5) 0 1]])], HB.cells .own [.fn 96 [] []], HB.cells .own [.fn 97 [] []], HB.cells .own [.fn 98 [] []], HB.cells .own [.fn 99 [] []], HB.cells .own [.fn 100 [] []], HB.cells .own [.fn 101 [] []]], [])) <| .u (updateT_new (kv := .int .u8 12) u95 rfl (by kernel_rfl) (by kernel_rfl) : updateT Tryz.prog 95 (onH (h ++ [HB.map [(.int .u8 5, .agg [.int .i64 1, .fn 93 [] []]), (.int .u8 6, .agg [.int .i64 1, .fn 94 [] []]), (.int .u8 7, .agg [.int .i64 2, .fn 127 [] [.ptr (h.length + 1) 0 1]]), (.int .u8 8, .agg [.int .i64 2, .fn 127 [] [.ptr (h.length + 2) 0 1]]), (.int .u8 9, .agg [.int .i64 2, .fn 127 [] [.ptr (h.length + 3) 0 1]]), (.int .u8 10, .agg [.int .i64 2, .fn 127 [] [.ptr (h.length + 4) 0 1]]), (.int .u8 11, .agg [.int .i64 2, .fn 127 [] [.ptr (h.length + 5) 0 1]])], HB.cells .own [.fn 96 [] []], HB.cells .own [.fn 97 [] []], HB.cells .own [.fn 98 [] []], HB.cells .own [.fn 99 [] []], HB.cells .own [.fn 100 [] []], HB.cells .own [.fn 101 [] []]])) (.map h.length) (.int .u8 12) (.agg [.int .i64 2, .fn 127 [] [.ptr (h.length + 6) 0 1]]) = some (onH (h ++ [HB.map [(.int .u8 5, .agg [.int .i64 1, .fn 93 [] []]), (.int .u8 6, .agg [.int .i64 1, .fn 94 [] []]), (.int .u8 7, .agg [.int .i64 2, .fn 127 [] [.ptr (h.length + 1) 0 1]]), (.int .u8 8, .agg [.int .i64 2, .fn 127 [] [.ptr (h.length + 2) 0 1]]), (.int .u8 9, .agg [.int .i64 2, .fn 127 [] [.ptr (h.length + 3) 0 1]]), (.int .u8 10, .agg [.int .i64 2, .fn 127 [] [.ptr (h.length + 4) 0 1]]), (.int .u8 11, .agg [.int .i64 2, .fn 127 [] [.ptr (h.length + 5) 0 1]]), (.int .u8 12, .agg [.int .i64 2, .fn 127 [] [.ptr (h.length + 6) 0 1]])], HB.cells .own [.fn 96 [] []], HB.cells .own [.fn 97 [] []], HB.cells .own [.fn 98 [] []], HB.cells .own [.fn 99 [] []], HB.cells .own [.fn 100 [] []], HB.cells .own [.fn 101 [] []]]), wrK (.h h.length))) (by simp [addW] : addW h.length h.length [] = []) <| .c (by have := c_both (n := n - 1) (by omega) hL (h ++ [HB.map [(.int .u8 5, .agg [.int .i64 1, .fn 93 [] []]), (.int .u8 6, .agg [.int .i64 1, .fn 94 [] []]), (.int .u8 7, .agg [.int .i64 2, .fn 127 [] [.ptr (h.length + 1) 0 1]]), (.int .u8 8, .agg [.int .i64 2, .fn 127 [] [.ptr (h.length + 2) 0 1]]), (.int .u8 9, .agg [.int .i64 2, .fn 127 [] [.ptr (h.length + 3) 0 1]]), (.int .u8 10, .agg [.int .i64 2, .fn 127 [] [.ptr (h.length + 4) 0 1]]), (.int .u8 11, .agg [.int .i64 2, .fn 127 [] [.ptr (h.length + 5) 0 1]]), (.int .u8 12, .agg [.int .i64 2, .fn 127 [] [.ptr (h.length + 6) 0 1]])], HB.cells .own [.fn 96 [] []], HB.cells .own [.fn 97 [] []], HB.cells .own [.fn 98 [] []], HB.cells .own [.fn 99 [] []], HB.cells .own [.fn 100 [] []], HB.cells .own [.fn 101 [] []]]) 102; simpa using this : AP L (n - 1) (.fn 95 [] []) [.fn 102 [] []] (h ++ [HB.map [(.int .u8 5, .agg [.int .i64 1, .fn 93 [] []]), (.int .u8 6, .agg [.int .i64 1, .fn 94 [] []]), (.int .u8 7, .agg [.int .i64 2, .fn 127 [] [.ptr (h.length + 1) 0 1]]), (.int .u8 8, .agg [.int .i64 2, .fn 127 [] [.ptr (h.length + 2) 0 1]]), (.int .u8 9, .agg [.int .i64 2, .fn 127 [] [.ptr (h.length + 3) 0 1]]), (.int .u8 10, .agg [.int .i64 2, .fn 127 [] [.ptr (h.length + 4) 0 1]]), (.int .u8 11, .agg [.int .i64 2, .fn 127 [] [.ptr (h.length + 5) 0 1]]), (.int .u8 12, .agg [.int .i64 2, .fn 127 [] [.ptr (h.length + 6) 0 1]])], HB.cells .own [.fn 96 [] []], HB.cells .own [.fn 97 [] []], HB.cells .own [.fn 98 [] []], HB.cells .own [.fn 99 [] []], HB.cells .own [.fn 100 [] []], HB.cells .own [.fn 101 [] []]]) = some (.fn 127 [] [.ptr (h.length + 7) 0 1], h ++ [HB.map [(.int .u8 5, .agg [.int .i64 1, .fn 93 [] []]), (.int .u8 6, .agg [.int .i64 1, .fn 94 [] []]), (.int .u8 7, .agg [.int .i64 2, .fn 127 [] [.ptr (h.length + 1) 0 1]]), (.int .u8 8, .agg [.int .i64 2, .fn 127 [] [.ptr (h.length + 2) 0 1]]), (.int .u8 9, .agg [.int .i64 2, .fn 127 [] [.ptr (h.length + 3) 0 1]]), (.int .u8 10, .agg [.int .i64 2, .fn 127 [] [.ptr (h.length + 4) 0 1]]), (.int .u8 11, .agg [.int .i64 2, .fn 127 [] [.ptr (h.length + 5) 0 1]]), (.int .u8 12, .agg [.int .i64 2, .fn 127 [] [.ptr (h.length + 6) 0 1]])], HB.cells .own [.fn 96 [] []], HB.cells .own [.fn 97 [] []], HB.cells .own [.fn 98 [] []], HB.cells .own [.fn 99 [] []], HB.cells .own [.fn 100 [] []], HB.cells .own [.fn 101 [] []], HB.cells .own [.fn 102 [] []]], [])) <| .u (updateT_new (kv := .int .u8 13) u95 rfl (by kernel_rfl) (by kernel_rfl) : updateT Tryz.prog 95 (onH (h ++ [HB.map [(.int .u8 5, .agg [.int .i64 1, .fn 93 [] []]), (.int .u8 6, .agg [.int .i64 1, .fn 94 [] []]), (.int .u8 7, .agg [.int .i64 2, .fn 127 [] [.ptr (h.length + 1) 0 1]]), (.int .u8 8, .agg [.int .i64 2, .fn 127 [] [.ptr (h.length + 2) 0 1]]), (.int .u8 9, .agg [.int .i64 2, .fn 127 [] [.ptr (h.length + 3) 0 1]]), (.int .u8 10, .agg [.int .i64 2, .fn 127 [] [.ptr (h.length + 4) 0 1]]), (.int .u8 11, .agg [.int .i64 2, .fn 127 [] [.ptr (h.length + 5) 0 1]]), (.int .u8 12, .agg [.int .i64 2, .fn 127 [] [.ptr (h.length + 6) 0 1]])], HB.cells .own [.fn 96 [] []], HB.cells .own [.fn 97 [] []], HB.cells .own [.fn 98 [] []], HB.cells .own [.fn 99 [] []], HB.cells .own [.fn 100 [] []], HB.cells .own [.fn 101 [] []], HB.cells .own [.fn 102 [] []]])) (.map h.length) (.int .u8 13) (.agg [.int .i64 2, .fn 127 [] [.ptr (h.length + 7) 0 1]]) = some (onH (h ++ [HB.map [(.int .u8 5, .agg [.int .i64 1, .fn 93 [] []]), (.int .u8 6, .agg [.int .i64 1, .fn 94 [] []]), (.int .u8 7, .agg [.int .i64 2, .fn 127 [] [.ptr (h.length + 1) 0 1]]), (.int .u8 8, .agg [.int .i64 2, .fn 127 [] [.ptr (h.length + 2) 0 1]]), (.int .u8 9, .agg [.int .i64 2, .fn 127 [] [.ptr (h.length + 3) 0 1]]), (.int .u8 10, .agg [.int .i64 2, .fn 127 [] [.ptr (h.length + 4) 0 1]]), (.int .u8 11, .agg [.int .i64 2, .fn 127 [] [.ptr (h.length + 5) 0 1]]), (.int .u8 12, .agg [.int .i64 2, .fn 127 [] [.ptr (h.length + 6) 0 1]]), (.int .u8 13, .agg [.int .i64 2, .fn 127 [] [.ptr (h.length + 7) 0 1]])], HB.cells .own [.fn 96 [] []], HB.cells .own [.fn 97 [] []], HB.cells .own [.fn 98 [] []], HB.cells .own [.fn 99 [] []], HB.cells .own [.fn 100 [] []], HB.cells .own [.fn 101 [] []], HB.cells .own [.fn 102 [] []]]), wrK (.h h.length))) (by simp [addW] : addW h.length h.length [] = []) <| .c (by have := c_both (n := n - 1) (by omega) hL (h ++ [HB.map [(.int .u8 5, .agg [.int .i64 1, .fn 93 [] []]), (.int .u8 6, .agg [.int .i64 1, .fn 94 [] []]), (.int .u8 7, .agg [.int .i64 2, .fn 127 [] [.ptr (h.length + 1) 0 1]]), (.int .u8 8, .agg [.int .i64 2, .fn 127 [] [.ptr (h.length + 2) 0 1]]), (.int .u8 9, .agg [.int .i64 2, .fn 127 [] [.ptr (h.length + 3) 0 1]]), (.int .u8 10, .agg [.int .i64 2, .fn 127 [] [.ptr (h.length + 4) 0 1]]), (.int .u8 11, .agg [.int .i64 2, .fn 127 [] [.ptr (h.length + 5) 0 1]]), (.int .u8 12, .agg [.int .i64 2, .fn 127 [] [.ptr (h.length + 6) 0 1]]), (.int .u8 13, .agg [.int .i64 2, .fn 127 [] [.ptr (h.length + 7) 0 1]])], HB.cells .own [.fn 96 [] []], HB.cells .own [.fn 97 [] []], HB.cells .own [.fn 98 [] []], HB.cells .own [.fn 99 [] []], HB.cells .own [.fn 100 [] []], HB.cells .own [.fn 101 [] []], HB.cells .own [.fn 102 [] []]]) 103; simpa using this : AP L (n - 1) (.fn 95 [] []) [.fn 103 [] []] (h ++ [HB.map [(.int .u8 5, .agg [.int .i64 1, .fn 93 [] []]), (.int .u8 6, .agg [.int .i64 1, .fn 94 [] []]), (.int .u8 7, .agg [.int .i64 2, .fn 127 [] [.ptr (h.length + 1) 0 1]]), (.int .u8 8, .agg [.int .i64 2, .fn 127 [] [.ptr (h.length + 2) 0 1]]), (.int .u8 9, .agg [.int .i64 2, .fn 127 [] [.ptr (h.length + 3) 0 1]]), (.int .u8 10, .agg [.int .i64 2, .fn 127 [] [.ptr (h.length + 4) 0 1]]), (.int .u8 11, .agg [.int .i64 2, .fn 127 [] [.ptr (h.length + 5) 0 1]]), (.int .u8 12, .agg [.int .i64 2, .fn 127 [] [.ptr (h.length + 6) 0 1]]), (.int .u8 13, .agg [.int .i64 2, .fn 127 [] [.ptr (h.length + 7) 0 1]])], HB.cells .own [.fn 96 [] []], HB.cells .own [.fn 97 [] []], HB.cells .own [.fn 98 [] []], HB.cells .own [.fn 99 [] []], HB.cells .own [.fn 100 [] []], HB.cells .own [.fn 101 [] []], HB.cells .own [.fn 102 [] []]]) = some (.fn 127 [] [.ptr (h.length + 8) 0 1], h ++ [HB.map [(.int .u8 5, .agg [.int .i64 1, .fn 93 [] []]), (.int .u8 6, .agg [.int .i64 1, .fn 94 [] []]), (.int .u8 7, .agg [.int .i64 2, .fn 127 [] [.ptr (h.length + 1) 0 1]]), (.int .u8 8, .agg [.int .i64 2, .fn 127 [] [.ptr (h.length + 2) 0 1]]), (.int .u8 9, .agg [.int .i64 2, .fn 127 [] [.ptr (h.length + 3) 0 1]]), (.int .u8 10, .agg [.int .i64 2, .fn 127 [] [.ptr (h.length + 4) 0 1]]), (.int .u8 11, .agg [.int .i64 2, .fn 127 [] [.ptr (h.length + 5) 0 1]]), (.int .u8 12, .agg [.int .i64 2, .fn 127 [] [.ptr (h.length + 6) 0 1]]), (.int .u8 13, .agg [.int .i64 2, .fn 127 [] [.ptr (h.length + 7) 0 1]])], HB.cells .own [.fn 96 [] []], HB.cells .own [.fn 97 [] []], HB.cells .own [.fn 98 [] []], HB.cells .own [.fn 99 [] []], HB.cells .own [.fn 100 [] []], HB.cells .own [.fn 101 [] []], HB.cells .own [.fn 102 [] []], HB.cells .own [.fn 103 [] []]], [])) <| .u (updateT_new (kv := .int .u8 14) u95 rfl (by kernel_rfl) (by kernel_rfl) : updateT Tryz.prog 95 (onH (h ++ [HB.map [(.int .u8 5, .agg [.int .i64 1, .fn 93 [] []]), (.int .u8 6, .agg [.int .i64 1, .fn 94 [] []]), (.int .u8 7, .agg [.int .i64 2, .fn 127 [] [.ptr (h.length + 1) 0 1]]), (.int .u8 8, .agg [.int .i64 2, .fn 127 [] [.ptr (h.length + 2) 0 1]]), (.int .u8 9, .agg [.int .i64 2, .fn 127 [] [.ptr (h.length + 3) 0 1]]), (.int .u8 10, .agg [.int .i64 2, .fn 127 [] [.ptr (h.length + 4) 0 1]]), (.int .u8 11, .agg [.int .i64 2, .fn 127 [] [.ptr (h.length + 5) 0 1]]), (.int .u8 12, .agg [.int .i64 2, .fn 127 [] [.ptr (h.length + 6) 0 1]]), (.int .u8 13, .agg [.int .i64 2, .fn 127 [] [.ptr (h.length + 7) 0 1]])], HB.cells .own [.fn 96 [] []], HB.cells .own [.fn 97 [] []], HB.cells .own [.fn 98 [] []], HB.cells .own [.fn 99 [] []], HB.cells .own [.fn 100 [] []], HB.cells .own [.fn 101 [] []], HB.cells .own [.fn 102 [] []], HB.cells .own [.fn 103 [] []]])) (.map h.length) (.int .u8 14) (.agg [.int .i64 2, .fn 127 [] [.ptr (h.length + 8) 0 1]]) = some (onH (h ++ [HB.map [(.int .u8 5, .agg [.int .i64 1, .fn 93 [] []]), (.int .u8 6, .agg [.int .i64 1, .fn 94 [] []]), (.int .u8 7, .agg [.int .i64 2, .fn 127 [] [.ptr (h.length + 1) 0 1]]), (.int .u8 8, .agg [.int .i64 2, .fn 127 [] [.ptr (h.length + 2) 0 1]]), (.int .u8 9, .agg [.int .i64 2, .fn 127 [] [.ptr (h.length + 3) 0 1]]), (.int .u8 10, .agg [.int .i64 2, .fn 127 [] [.ptr (h.length + 4) 0 1]]), (.int .u8 11, .agg [.int .i64 2, .fn 127 [] [.ptr (h.length + 5) 0 1]]), (.int .u8 12, .agg [.int .i64 2, .fn 127 [] [.ptr (h.length + 6) 0 1]]), (.int .u8 13, .agg [.int .i64 2, .fn 127 [] [.ptr (h.length + 7) 0 1]]), (.int .u8 14, .agg [.int .i64 2, .fn 127 [] [.ptr (h.length + 8) 0 1]])], HB.cells .own [.fn 96 [] []], HB.cells .own [.fn 97 [] []], HB.cells .own [.fn 98 [] []], HB.cells .own [.fn 99 [] []], HB.cells .own [.fn 100 [] []], HB.cells .own [.fn 101 [] []], HB.cells .own [.fn 102 [] []], HB.cells .own [.fn 103 [] []]]), wrK (.h h.length))) (by simp [addW] : addW h.length h.length [] = []) <| .u (updateT_new (kv := .int .u8 15) u95 rfl (by kernel_rfl) (by kernel_rfl) : updateT Tryz.prog 95 (onH (h ++ [HB.map [(.int .u8 5, .agg [.int .i64 1, .fn 93 [] []]), (.int .u8 6, .agg [.int .i64 1, .fn 94 [] []]), (.int .u8 7, .agg [.int .i64 2, .fn 127 [] [.ptr (h.length + 1) 0 1]]), (.int .u8 8, .agg [.int .i64 2, .fn 127 [] [.ptr (h.length + 2) 0 1]]), (.int .u8 9, .agg [.int .i64 2, .fn 127 [] [.ptr (h.length + 3) 0 1]]), (.int .u8 10, .agg [.int .i64 2, .fn 127 [] [.ptr (h.length + 4) 0 1]]), (.int .u8 11, .agg [.int .i64 2, .fn 127 [] [.ptr (h.length + 5) 0 1]]), (.int .u8 12, .agg [.int .i64 2, .fn 127 [] [.ptr (h.length + 6) 0 1]]), (.int .u8 13, .agg [.int .i64 2, .fn 127 [] [.ptr (h.length + 7) 0 1]]), (.int .u8 14, .agg [.int .i64 2, .fn 127 [] [.ptr (h.length + 8) 0 1]])], HB.cells .own [.fn 96 [] []], HB.cells .own [.fn 97 [] []], HB.cells .own [.fn 98 [] []], HB.cells .own [.fn 99 [] []], HB.cells .own [.fn 100 [] []], HB.cells .own [.fn 101 [] []], HB.cells .own [.fn 102 [] []], HB.cells .own [.fn 103 [] []]])) (.map h.length) (.int .u8 15) (.agg [.int .i64 2, .fn 104 [] []]) = some (onH (h ++ [HB.map [(.int .u8 5, .agg [.int .i64 1, .fn 93 [] []]), (.int .u8 6, .agg [.int .i64 1, .fn 94 [] []]), (.int .u8 7, .agg [.int .i64 2, .fn 127 [] [.ptr (h.length + 1) 0 1]]), (.int .u8 8, .agg [.int .i64 2, .fn 127 [] [.ptr (h.length + 2) 0 1]]), (.int .u8 9, .agg [.int .i64 2, .fn 127 [] [.ptr (h.length + 3) 0 1]]), (.int .u8 10, .agg [.int .i64 2, .fn 127 [] [.ptr (h.length + 4) 0 1]]), (.int .u8 11, .agg [.int .i64 2, .fn 127 [] [.ptr (h.length + 5) 0 1]]), (.int .u8 12, .agg [.int .i64 2, .fn 127 [] [.ptr (h.length + 6) 0 1]]), (.int .u8 13, .agg [.int .i64 2, .fn 127 [] [.ptr (h.length + 7) 0 1]]), (.int .u8 14, .agg [.int .i64 2, .fn 127 [] [.ptr (h.length + 8) 0 1]]), (.int .u8 15, .agg [.int .i64 2, .fn 104 [] []])], HB.cells .own [.fn 96 [] []], HB.cells .own [.fn 97 [] []], HB.cells .own [.fn 98 [] []], HB.cells .own [.fn 99 [] []], HB.cells .own [.fn 100 [] []], HB.cells .own [.fn 101 [] []], HB.cells .own [.fn 102 [] []], HB.cells .own [.fn 103 [] []]]), wrK (.h h.length))) (by simp [addW] : addW h.length h.length [] = []) <| .u (updateT_new (kv := .int .u8 16) u95 rfl (by kernel_rfl) (by kernel_rfl) : updateT Tryz.prog 95 (onH (h ++ [HB.map [(.int .u8 5, .agg [.int .i64 1, .fn 93 [] []]), (.int .u8 6, .agg [.int .i64 1, .fn 94 [] []]), (.int .u8 7, .agg [.int .i64 2, .fn 127 [] [.ptr (h.length + 1) 0 1]]), (.int .u8 8, .agg [.int .i64 2, .fn 127 [] [.ptr (h.length + 2) 0 1]]), (.int .u8 9, .agg [.int .i64 2, .fn 127 [] [.ptr (h.length + 3) 0 1]]), (.int .u8 10, .agg [.int .i64 2, .fn 127 [] [.ptr (h.length + 4) 0 1]]), (.int .u8 11, .agg [.int .i64 2, .fn 127 [] [.ptr (h.length + 5) 0 1]]), (.int .u8 12, .agg [.int .i64 2, .fn 127 [] [.ptr (h.length + 6) 0 1]]), (.int .u8 13, .agg [.int .i64 2, .fn 127 [] [.ptr (h.length + 7) 0 1]]), (.int .u8 14, .agg [.int .i64 2, .fn 127 [] [.ptr (h.length + 8) 0 1]]), (.int .u8 15, .agg [.int .i64 2, .fn 104 [] []])], HB.cells .own [.fn 96 [] []], HB.cells .own [.fn 97 [] []], HB.cells .own [.fn 98 [] []], HB.cells .own [.fn 99 [] []], HB.cells .own [.fn 100 [] []], HB.cells .own [.fn 101 [] []], HB.cells .own [.fn 102 [] []], HB.cells .own [.fn 103 [] []]])) (.map h.length) (.int .u8 16) (.agg [.int .i64 2, .fn 105 [] []]) = some (onH (h ++ [HB.map [(.int .u8 5, .agg [.int .i64 1, .fn 93 [] []]), (.int .u8 6, .agg [.int .i64 1, .fn 94 [] []]), (.int .u8 7, .agg [.int .i64 2, .fn 127 [] [.ptr (h.length + 1) 0 1]]), (.int .u8 8, .agg [.int .i64 2, .fn 127 [] [.ptr (h.length + 2) 0 1]]), (.int .u8 9, .agg [.int .i64 2, .fn 127 [] [.ptr (h.length + 3) 0 1]]), (.int .u8 10, .agg [.int .i64 2, .fn 127 [] [.ptr (h.length + 4) 0 1]]), (.int .u8 11, .agg [.int .i64 2, .fn 127 [] [.ptr (h.length + 5) 0 1]]), (.int .u8 12, .agg [.int .i64 2, .fn 127 [] [.ptr (h.length + 6) 0 1]]), (.int .u8 13, .agg [.int .i64 2, .fn 127 [] [.ptr (h.length + 7) 0 1]]), (.int .u8 14, .agg [.int .i64 2, .fn 127 [] [.ptr (h.length + 8) 0 1]]), (.int .u8 15, .agg [.int .i64 2, .fn 104 [] []]), (.int .u8 16, .agg [.int .i64 2, .fn 105 [] []])], HB.cells .own [.fn 96 [] []], HB.cells .own [.fn 97 [] []], HB.cells .own [.fn 98 [] []], HB.cells .own [.fn 99 [] []], HB.cells .own [.fn 100 [] []], HB.cells .own [.fn 101 [] []], HB.cells .own [.fn 102 [] []], HB.cells .own [.fn 103 [] []]]), wrK (.h h.length))) (by simp [addW] : addW h.length h.length [] = []) <| .u (updateT_new (kv := .int .u8 17) u95 rfl (by kernel_rfl) (by kernel_rfl) : updateT Tryz.prog 95 (onH (h ++ [HB.map [(.int .u8 5, .agg [.int .i64 1, .fn 93 [] []]), (.int .u8 6, .agg [.int .i64 1, .fn 94 [] []]), (.int .u8 7, .agg [.int .i64 2, .fn 127 [] [.ptr (h.length + 1) 0 1]]), (.int .u8 8, .agg [.int .i64 2, .fn 127 [] [.ptr (h.length + 2) 0 1]]), (.int .u8 9, .agg [.int .i64 2, .fn 127 [] [.ptr (h.length + 3) 0 1]]), (.int .u8 10, .agg [.int .i64 2, .fn 127 [] [.ptr (h.length + 4) 0 1]]), (.int .u8 11, .agg [.int .i64 2, .fn 127 [] [.ptr (h.length + 5) 0 1]]), (.int .u8 12, .agg [.int .i64 2, .fn 127 [] [.ptr (h.length + 6) 0 1]]), (.int .u8 13, .agg [.int .i64 2, .fn 127 [] [.ptr (h.length + 7) 0 1]]), (.int .u8 14, .agg [.int .i64 2, .fn 127 [] [.ptr (h.length + 8) 0 1]]), (.int .u8 15, .agg [.int .i64 2, .fn 104 [] []]), (.int .u8 16, .agg [.int .i64 2, .fn 105 [] []])], HB.cells .own [.fn 96 [] []], HB.cells .own [.fn 97 [] []], HB.cells .own [.fn 98 [] []], HB.cells .own [.fn 99 [] []], HB.cells .own [.fn 100 [] []], HB.cells .own [.fn 101 [] []], HB.cells .own [.fn 102 [] []], HB.cells .own [.fn 103 [] []]])) (.map h.length) (.int .u8 17) (.agg [.int .i64 3, .fn 106 [] []]) = some (onH (h ++ [HB.map [(.int .u8 5, .agg [.int .i64 1, .fn 93 [] []]), (.int .u8 6, .agg [.int .i64 1, .fn 94 [] []]), (.int .u8 7, .agg [.int .i64 2, .fn 127 [] [.ptr (h.length + 1) 0 1]]), (.int .u8 8, .agg [.int .i64 2, .fn 127 [] [.ptr (h.length + 2) 0 1]]), (.int .u8 9, .agg [.int .i64 2, .fn 127 [] [.ptr (h.length + 3) 0 1]]), (.int .u8 10, .agg [.int .i64 2, .fn 127 [] [.ptr (h.length + 4) 0 1]]), (.int .u8 11, .agg [.int .i64 2, .fn 127 [] [.ptr (h.length + 5) 0 1]]), (.int .u8 12, .agg [.int .i64 2, .fn 127 [] [.ptr (h.length + 6) 0 1]]), (.int .u8 13, .agg [.int .i64 2, .fn 127 [] [.ptr (h.length + 7) 0 1]]), (.int .u8 14, .agg [.int .i64 2, .fn 127 [] [.ptr (h.length + 8) 0 1]]), (.int .u8 15, .agg [.int .i64 2, .fn 104 [] []]), (.int .u8 16, .agg [.int .i64 2, .fn 105 [] []]), (.int .u8 17, .agg [.int .i64 3, .fn 106 [] []])], HB.cells .own [.fn 96 [] []], HB.cells .own [.fn 97 [] []], HB.cells .own [.fn 98 [] []], HB.cells .own [.fn 99 [] []], HB.cells .own [.fn 100 [] []], HB.cells .own [.fn 101 [] []], HB.cells .own [.fn 102 [] []], HB.cells .own [.fn 103 [] []]]), wrK (.h h.length))) (by simp [addW] : addW h.length h.length [] = []) <| .n)
end Go.Proofs.YtfhiejgoemcelaaGreat
