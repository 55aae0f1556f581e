/- Part 3 of a proof: the contracts of the functions that the statements on reaches (mistlaw13) call, and the laws of their rules. -/
import Derived.Test.YtfhiejgoemcelaaGreatProg
import Derived.KernelRfl
import Derived.Test.YtfhiejgoemcelaaGreatPb
set_option linter.constructorNameAsVariable false
set_option linter.unusedVariables false
set_option linter.unusedSimpArgs false
set_option linter.unusedSectionVars false
namespace Pv
open Go Tw
theorem putL_length {α : Type} {l rows : List α} {o k : Nat} (h : o + k ≤ l.length) (hk : k ≤ rows.length) : (putL l o k rows).length = l.length := by
 unfold putL; simp; omega
theorem putL_zero {α : Type} {l rows : List α} {o : Nat} : putL l o 0 rows = l := by unfold putL; simp
section
variable {X : Cod} {P : Program} {A F : Nat → Prop} {m m' : List MB} {h h' : List HB} {H H' : List (PB X.Γ)}
theorem RowsR.put {t sz o k : Nat} {l rows : List (X.Γ t)} {cs new : List TV} (h1 : RowsR X P F m h t l cs 0 sz) (h2 : RowsR X P F m h t rows new 0 sz) (hc : cs.length = l.length * sz) (hn : new.length = rows.length * sz) (ho : o + k ≤ l.length) (hk : k ≤ rows.length) :
  RowsR X P F m h t (putL l o k rows) (cs.take (o * sz) ++ new.take (k * sz) ++ cs.drop (o * sz + k * sz)) 0 sz := by
 have a1 := (h1.part (o := 0) (n := o) (by omega)).take
 have a2 := (h2.part (o := 0) (n := k) (by omega)).take
 have a3 := (h1.part (o := o + k) (n := l.length - (o + k)) (by omega)).take
 have l1 : ((l.drop 0).take o).length = o := by simp; omega
 have l2 : ((rows.drop 0).take k).length = k := by simp; omega
 have l3 : ((l.drop (o + k)).take (l.length - (o + k))).length = l.length - (o + k) := by simp
 rw [l1] at a1; rw [l2] at a2; rw [l3] at a3
 simp only [Nat.zero_mul, Nat.add_zero, Nat.zero_add, List.drop_zero] at a1 a2 a3
 have m1 : o * sz ≤ cs.length := by rw [hc]; exact Nat.mul_le_mul_right _ (by omega)
 have m2 : k * sz ≤ new.length := by rw [hn]; exact Nat.mul_le_mul_right _ hk
 have r := (a1.app a2 (by rw [List.length_take, List.length_take]; rw [Nat.min_eq_left m1, Nat.min_eq_left (by omega)])).app a3 (by
  simp only [List.length_append, List.length_take]
  rw [Nat.min_eq_left m1, Nat.min_eq_left m2, Nat.min_eq_left (by omega), Nat.min_eq_left hk, Nat.add_mul])
 have e1 : l.drop (o + k) = (l.drop (o + k)).take (l.length - (o + k)) := by rw [List.take_of_length_le (by simp)]
 have e2 : cs.drop (o * sz + k * sz) = (cs.drop ((o + k) * sz)).take ((l.length - (o + k)) * sz) := by
  rw [Nat.add_mul, List.take_of_length_le]
  rw [List.length_drop, hc, Nat.sub_mul, Nat.add_mul]; omega
 unfold putL
 rw [e1, e2]
 exact r
theorem copy_core (hX : CodOk X P) {ps : PSt X.Γ} {ts : St} (hR : StR X P A m ps ts) {at_ : Array TypeId} {st e size b o n : Nat} {ex : Bool} {l rows : List (X.Γ e)} {x : PV X.Γ} {td tx : TV} (hst : at_[0]? = some st) (hse : sliceElem P st = some (e, size)) (hx : VR X P (AA A m) m ts.heap x tx)
  (hs : srcP X ps.heap e size x = some (rows, [])) (hb : ps.heap[b]? = some (.list true ex e l)) {mb : MB} (g1 : m[b]? = some mb) (g2 : BR X P (AA A m) m ts.heap (.list true ex e l) mb)
  (htd : (∃ c sz' xx' xx cap, mb = .lst (.slc c 0 l.length l.length sz' xx') ∧ l ≠ [] ∧ td = .slc c (o * sz') n cap sz' xx) ∨ (n = 0 ∧ (td = .nil .slc ∨ ∃ c f cap xx, td = .slc c f 0 cap size xx))) (hon : o + n ≤ l.length) (hstr : isStr tx = false) :
  MemR X P A m ts (copyT P at_ ts td tx) (.int .i64 ((min rows.length n : Nat) : Int)) (ps.heap.set b (.list true ex e (putL l o (min rows.length n) rows))) ⟨⟨false, .h b :: keyP X x, [.h b]⟩, false, false, true⟩ := by
 have hr := hR.heap
 obtain ⟨hz, h0⟩ := sliceElem_size hse
 obtain ⟨new, s1, s2, s3⟩ := srcP_VR (m' := m) hX hr hx hz hs
 have s3' : RowsR X P (AA A m) m ts.heap e rows new 0 size := s3.mono fun q hq => by
  rcases hq with hq | ⟨i, _, hi, _⟩
  ·exact hq
  ·simp at hi
 have hk2 : IR m ts.heap ⟨⟨false, .h b :: keyP X x, [.h b]⟩, false, false, true⟩ (rdKs (srcKeys tx)) := IR.reads rfl (fun d hd => by
  obtain ⟨h0, h9⟩ := keys_ok hr hx hz hs hd
  rcases h0 with ⟨i, h1, h2⟩ | h1
  ·exact ⟨.inl ⟨i, List.mem_cons_of_mem _ h1, h2⟩, h9⟩
  ·exact ⟨.inr h1, h9⟩) fun j hj => srcKeys_l hj
 have same : ps.heap.set b (.list true ex e l) = ps.heap := by
  apply List.ext_getElem?
  intro i
  by_cases e : b = i
  ·subst e; rw [List.getElem?_set_self (List.getElem?_eq_some_iff.1 hb).1, hb]
  ·rw [List.getElem?_set_ne e]
 by_cases hk : min rows.length n = 0
 ·rw [hk, putL_zero, same]
  refine ⟨.int .i64 0, ts.heap, rdKs (srcKeys tx), m, ?_, hr, .int _ _, .refl, .refl, hk2, fun c hc => by simp [rdKs] at hc⟩
  unfold copyT
  simp only [hst, hse, s1, s2, hstr, and_self, if_true]
  rcases htd with ⟨c, sz', xx', xx, cap, rfl, hne, rfl⟩ | ⟨rfl, rfl | ⟨c, f, cap, xx, rfl⟩⟩
  ·have : sz' = size := by cases g2 with | some _ q2 _ _ _ _ _ _ _ => rw [hz] at q2; cases q2; rfl | emp => exact absurd rfl hne
   simp only [this, if_true, hk]
  ·rfl
  ·simp only [if_true, hk]
 ·rcases htd with ⟨c, sz', xx', xx, cap, rfl, hne, rfl⟩ | ⟨rfl, _⟩
  ·cases g2 with
   | emp => exact absurd rfl hne
   | some p1 p2 p3 p4 p5 p6 p7 p8 p9 =>
    rename_i kk cs
    rw [hz] at p2; cases p2
    have hkk := p6 rfl
    subst hkk
    have hlt := (List.getElem?_eq_some_iff.1 p4).1
    have hown : (MB.lst (TV.slc c 0 l.length l.length size xx')).own = some c := by simp only [MB.own]; rw [if_neg (by simpa using p1)]
    have hkn : o + min rows.length n ≤ l.length := by omega
    have hkr : min rows.length n ≤ rows.length := Nat.min_le_left _ _
    have m1 : o * size + min rows.length n * size ≤ cs.length := by rw [p8, ← Nat.add_mul]; exact Nat.mul_le_mul_right _ hkn
    have m2 : min rows.length n * size ≤ new.length := by rw [s2]; exact Nat.mul_le_mul_right _ hkr
    have m3 : min (min rows.length n * size) (rows.length * size) = min rows.length n * size := Nat.min_eq_left (by rw [← s2]; exact m2)
    have hput := RowsR.put p9 s3' p8 s2 hkn hkr
    have hcl : (cs.take (o * size) ++ new.take (min rows.length n * size) ++ cs.drop (o * size + min rows.length n * size)).length = cs.length := by simp; omega
    have hl := putL_length (rows := rows) hkn hkr
    obtain ⟨q1, q2⟩ := hr.set (i := b) (c := c) (pb := .list true ex e (putL l o (min rows.length n) rows)) (hb := .cells .own (cs.take (o * size) ++ new.take (min rows.length n * size) ++ cs.drop (o * size + min rows.length n * size))) g1 hown
     (fun cs2 hc2 => ⟨_, by simp only [blkCells]; rw [List.getElem?_set_self hlt], by
      simp only [blkCells, p4, Option.some.injEq] at hc2; subst hc2; rw [hcl]; exact Nat.le_refl _⟩)
     (fun hF => by
      have hne' : putL l o (min rows.length n) rows ≠ [] := fun e0 => by rw [e0] at hl; simp at hl; exact p1 (List.length_eq_zero_iff.1 hl.symm)
      have r := LR.some (k := true) (ex := ex) (e := xx') hne' hz p3 (by rw [List.getElem?_set_self hlt]) (by simp) (fun _ => rfl) p7 (by rw [hcl, hl, p8]) (hput.step hF .refl)
      rw [hl] at r
      exact r)
    refine ⟨.int .i64 ((min rows.length n : Nat) : Int), _, ⟨false, .h c :: srcKeys tx, [.h c]⟩, m, ?_, q1, .int _ _, q2, .refl, ?_, fun d hd => ?_⟩
    ·unfold copyT
     simp only [hst, hse, s1, s2, hstr, and_self, if_true, hk, if_false, setH, p4, over, List.length_take, m3, m1, Option.map_some]
    ·refine ⟨fun h => (by cases h), fun k hk => ?_, fun k hk => (by simp at hk), fun d hd => ?_, fun d hd => ?_, fun h => (by cases h)⟩
     ·rcases List.mem_cons.1 hk with e0 | e0
      ·cases e0
      ·exact absurd e0 srcKeys_l
     ·simp at hd; subst hd; exact .inl ⟨b, List.mem_cons_self, own_of g1 hown⟩
     ·rcases List.mem_cons.1 hd with e0 | e0
      ·cases e0; exact ⟨.inl ⟨b, List.mem_cons_self, own_of g1 hown⟩, hlt⟩
      ·obtain ⟨h0, h9⟩ := keys_ok hr hx hz hs e0
       rcases h0 with ⟨i, h1, h2⟩ | h1
       ·exact ⟨.inl ⟨i, List.mem_cons_of_mem _ h1, h2⟩, h9⟩
       ·exact ⟨.inr h1, h9⟩
    ·simp at hd; subst hd; exact own_mem g1 hown
  ·simp at hk
theorem src_nstr (hr : HR X P A m H h) {e sz : Nat} {x : PV X.Γ} {tx : TV} (hv : VR X P (AA A m) m h x tx) {rows : List (X.Γ e)} {is : List Nat} (hs : srcP X H e sz x = some (rows, is)) : isStr tx = false := by
 cases hv with
 | own e' _ =>
  unfold srcP at hs
  simp only at hs
  split at hs
  ·rename_i hb
   obtain ⟨mb, g1, g2⟩ := hr.at_ _ _ hb
   rw [e'] at g1; cases g1
   cases g2 <;> rfl
  ·cases hs
 | gone hi e' _ =>
  cases x <;> simp only [idOf, Option.some.injEq] at hi <;> first | cases hi | skip
  all_goals (unfold srcP at hs; simp only at hs)
  all_goals first | (cases hs; done) | skip
  all_goals
   split at hs
   ·rename_i hb
    obtain ⟨mb, g1, g2⟩ := hr.at_ _ _ hb
    rw [e'] at g1; cases g1; exact g2.elim
   ·cases hs
 | str => simp [srcP] at hs
 | _ => rfl
theorem copy_ok (hX : CodOk X P) {ps : PSt X.Γ} {ts : St} (hR : StR X P A m ps ts) {at_ : Array TypeId} {d x : PV X.Γ} {td tx : TV} (hd : VR X P (AA A m) m ts.heap d td) (hx : VR X P (AA A m) m ts.heap x tx) {v : PV X.Γ} {H1 : List (PB X.Γ)} {pi : Inf}
  (hl : pcopy X P at_ ps.heap d x = some (v, H1, pi)) : MemR X P A m ts (copyT P at_ ts td tx) v H1 ⟨pi, false, false, true⟩ := by
 have hr := hR.heap
 unfold pcopy at hl
 split at hl
 ·rename_i st hst
  split at hl
  ·rename_i e size hse
   obtain ⟨hz, h0⟩ := sliceElem_size hse
   split at hl
   ·rename_i rows hs
    obtain ⟨new, s1, s2, s3⟩ := srcP_VR (m' := m) hX hr hx hz hs
    have hstr : isStr tx = false := src_nstr hr hx hs
    split at hl
    ·simp only [Option.some.injEq, Prod.mk.injEq] at hl
     obtain ⟨rfl, rfl, rfl⟩ := hl
     have : td = .nil .slc := by
      cases hd with
      | nil => rfl
      | gone hi _ _ => simp [idOf] at hi
     subst this
     exact ⟨_, ts.heap, _, m, by unfold copyT; simp only [hst, hse, s1, s2, hstr, and_self, if_true], hr, .int _ _, .refl, .refl, IR.reads rfl (fun b hb => keys_ok hr hx hz hs hb) fun k => srcKeys_l, fun b hb => by simp [rdKs] at hb⟩
    ·rename_i b
     split at hl
     ·rename_i ex t' l hb
      split at hl
      ·rename_i l2 hcast
       obtain ⟨rfl, rfl⟩ := castL_eq hcast
       simp only [Option.some.injEq, Prod.mk.injEq] at hl
       obtain ⟨rfl, rfl, rfl⟩ := hl
       obtain ⟨mb, g1, g2⟩ := hr.at_ b _ hb
       refine copy_core (o := 0) (n := l2.length) hX hR hst hse hx hs hb g1 g2 ?_ (by omega) hstr
       cases hd with
       | gone hi e' _ => simp only [idOf, Option.some.injEq] at hi; subst hi; rw [g1] at e'; cases e'; exact g2.elim
       | own e' o =>
        rw [g1] at e'; cases e'
        cases g2 with
        | nil => exact .inr ⟨rfl, .inl rfl⟩
        | emp q1 q2 q3 q4 q5 => rw [hz] at q4; cases q4; exact .inr ⟨rfl, .inr ⟨_, _, _, _, rfl⟩⟩
        | some q1 q2 => rw [hz] at q2; cases q2; exact .inl ⟨_, _, _, _, _, rfl, q1, by rw [Nat.zero_mul]⟩
      ·cases hl
     ·cases hl
    ·rename_i b o n
     split at hl
     ·rename_i ex t' l hb
      split at hl
      ·rename_i l2 hcast
       obtain ⟨rfl, rfl⟩ := castL_eq hcast
       simp only [Option.some.injEq, Prod.mk.injEq] at hl
       obtain ⟨rfl, rfl, rfl⟩ := hl
       obtain ⟨mb, g1, g2⟩ := hr.at_ b _ hb
       cases hd with
       | gone hi e' _ => simp only [idOf, Option.some.injEq] at hi; subst hi; rw [g1] at e'; cases e'; exact g2.elim
       | win e' o1 o2 =>
        rw [g1] at e'; cases e'
        cases g2 with
        | emp q1 q2 q3 q4 q5 =>
         rw [hz] at q4; cases q4
         have : n = 0 := by omega
         subst this
         exact copy_core hX hR hst hse hx hs hb g1 (LR.emp q1 q2 q3 hz q5) (.inr ⟨rfl, .inr ⟨_, _, _, _, rfl⟩⟩) o1 hstr
        | some q1 q2 q3 q4 q5 q6 q7 q8 q9 => exact copy_core hX hR hst hse hx hs hb g1 (LR.some q1 q2 q3 q4 q5 q6 q7 q8 q9) (.inl ⟨_, _, _, _, _, rfl, q1, by rw [Nat.zero_add]⟩) o1 hstr
       | winN e' =>
        rw [g1] at e'; cases e'
        exact copy_core hX hR hst hse hx hs hb g1 g2 (.inr ⟨rfl, .inl rfl⟩) (by omega) hstr
      ·cases hl
     ·cases hl
    ·cases hl
   ·cases hl
  ·cases hl
 ·cases hl
end
end Pv
namespace Pv
open Go Tw
section
variable {X : Cod} {P : Program} {A F : Nat → Prop} {m m' : List MB} {h h' : List HB} {H H' : List (PB X.Γ)}
theorem VPs.allOne {ps : List (Nat × PV X.Γ)} {qs : List (Nat × TV)} (hp : VPs X P A m h ps qs) : qs.all (fun p => p.2.cells.all oneT) = ps.all fun p => p.2.cells.all oneP := by
 induction ps generalizing qs with
 | nil =>
  have := hp.1
  cases qs with
  | nil => rfl
  | cons => simp at this
 | cons a ps ih =>
  obtain ⟨x, r, rfl, h1, h2⟩ := hp.inv
  simp only [List.all_cons, allOne_VR (cells_VR h1), ih h2]
theorem fill_len {pl : Nat → Option (Nat × Nat)} : ∀ {qs : List (Nat × TV)} {xs r : List TV}, fillT pl xs qs = some r → r.length = xs.length
 | [], xs, r, h => by simp only [fillT, Option.some.injEq] at h; rw [h]
 | (i, v) :: qs, xs, r, h => by
  simp only [fillT] at h
  split at h
  ·split at h
   ·split at h
    ·rename_i cs' ho
     rw [fill_len h]
     unfold over at ho
     split at ho
     ·cases ho; simp only [List.length_append, List.length_take, List.length_drop]; omega
     ·cases ho
    ·cases h
   ·cases h
  ·cases h
theorem times_len {z : List TV} : ∀ n, (times z n).length = n * z.length
 | 0 => by simp [times]
 | n + 1 => by simp [times, times_len n, Nat.add_mul]; omega
theorem buildSlice_ok (hX : CodOk X P) {ps : PSt X.Γ} {ts : St} (hR : StR X P A m ps ts) {t : TypeId} {len : Nat} {vs : List (Nat × PV X.Γ)} {xs : List (Nat × TV)} (hv : VPs X P (AA A m) m ts.heap vs xs) {v : PV X.Γ} {H1 : List (PB X.Γ)}
  (hl : pbuildSlice X P t len ps.heap vs = some (v, H1)) : MemR X P A m ts ((buildSliceT P t len ts xs).map fun (v, s) => (v, s, noInf)) v H1 pi0 := by
 have hr := hR.heap
 unfold pbuildSlice at hl
 split at hl
 ·rename_i e n hse
  obtain ⟨hz, h0⟩ := sliceElem_size hse
  split at hl
  ·rename_i hc
   split at hl
   ·rename_i z hzz
    obtain ⟨z', q1, q2⟩ := zero_VR (A := AA A m) (m := m) (h := ts.heap) hzz
    split at hl
    ·rename_i hzl
     split at hl
     ·rename_i cs hf
      obtain ⟨cs', q3, q4⟩ := fill_VR hv (times_VR q2 len) hf
      have hlen : cs'.length = len * n := by rw [fill_len q3, times_len, ← q2.1, hzl]
      have hT : ∀ w h1, (w, h1) = (TV.slc ts.heap.length 0 len len n true, ts.heap ++ [HB.cells .own cs']) → (buildSliceT P t len ts xs).map (fun (v, s) => (v, s, noInf)) = some (w, { ts with heap := h1 }, noInf) := by
       intro w h1 e0; cases e0
       simp only [buildSliceT, hse, hv.allOne, hc, and_self, if_true, q1, ← q2.1, hzl, q3, Option.map_some]
      split at hl
      ·rename_i rows is hd
       cases hl
       obtain ⟨e1, hw⟩ := decRows_VR (m' := goneM is m) hX hr q4 hd
       by_cases hn : rows = []
       ·subst hn
        have e2 : len = 0 := by simpa using e1.symm
        subst e2
        have hcs : cs' = [] := List.length_eq_zero_iff.1 (by omega)
        subst hcs
        have hpush : HR X P A (goneM is m ++ [.lst (.slc ts.heap.length 0 0 0 n true)]) (goneAll is ps.heap ++ [.list true true e []]) (ts.heap ++ [.cells .own []]) ∧ _ := (hr.goneAll is).push (pb := .list true true e []) (hb := .cells .own []) (mb := .lst (.slc ts.heap.length 0 0 0 n true)) (.inr rfl)
         (LR.emp (b := ts.heap.length) (cs := []) ⟨hr.up _ (Nat.le_refl _), fun hm => by
          rw [blks_app, List.mem_append, blks_one] at hm
          simp [MB.own] at hm
          have := (hr.goneAll is).inb hm; omega⟩ (by simp [blkCells]) (Nat.le_refl _) hz h0)
        have hFU := fr_goneM (h := ts.heap) is m
        refine ⟨_, _, _, _, hT _ _ rfl, hpush.1, .own ?_ rfl, hFU.1.trans hpush.2.1, hFU.2.trans hpush.2.2, .none, fun b hb => by cases hb⟩
        rw [← hr.len, ← goneM_length is m]; simp
       ·have hpush := push_list hr is (k := true) (ex := true) (x := true) hw (by rw [hlen, e1]) hn hz h0 (by simp)
        obtain ⟨m1, g1, g2, g3, g4⟩ := hpush
        refine ⟨_, _, _, m1, hT _ _ rfl, g1, ?_, g2, g3, .none, fun b hb => by cases hb⟩
        rw [e1] at g4; exact g4
      ·cases hl
       have hp := hr.push (pb := .cells cs) (hb := .cells .own cs') (mb := .blk ts.heap.length) (.inl rfl) ⟨cs', by simp, q4.step (by
        refine ⟨by simp, fun b hb _ => by rw [List.getElem?_append_left hb], fun b hb => ?_, fun b cs hc => ⟨cs, by rw [blkCells_same (List.getElem?_append_left (blkCells_lt hc)), hc], Nat.le_refl _⟩⟩
        rw [blks_app, List.mem_append, blks_one] at hb
        rcases hb with hb | hb
        ·exact .inl hb
        ·simp [MB.own] at hb; exact .inr (by omega)) (up_app _)⟩
       exact ⟨_, _, _, _, hT _ _ rfl, hp.1, .slc (by rw [← hr.len]; simp), hp.2.1, hp.2.2, .none, fun b hb => by cases hb⟩
     ·cases hl
    ·cases hl
   ·cases hl
  ·cases hl
 ·cases hl
theorem int_VR {k : IntKind} {n : Int} {x : TV} (hv : VR X P A m h (.int k n) x) : x = .int k n := by
 cases hv with
 | int => rfl
 | gone hi _ _ => simp [idOf] at hi
theorem rep_rows {t sz : Nat} {a : X.Γ t} {z : List TV} (ha : VRs X P F m h (X.enc t a) z) (hz : z.length = sz) : ∀ n, RowsR X P F m h t (List.replicate n a) (times z n) 0 sz
 | 0 => ⟨fun j a hj => by simp at hj, by simp, fun j a i c v hj => by simp at hj⟩
 | n + 1 => by
  have h1 : RowsR X P F m h t [a] z 0 sz := by
   refine ⟨fun j b hj => ?_, by simp [hz], fun j b i c v hj hi hx => ?_⟩
   ·cases j with
    | zero => simp only [List.getElem?_cons_zero, Option.some.injEq] at hj; subst hj; rw [ha.1, hz]
    | succ j => simp at hj
   ·cases j with
    | zero => simp only [List.getElem?_cons_zero, Option.some.injEq] at hj; subst hj; exact ha.2 i c v hi (by simpa using hx)
    | succ j => simp at hj
  have := h1.app (rep_rows ha hz n) (by simp [hz])
  simpa [List.replicate_succ, times] using this
theorem makeSlice_ok (hX : CodOk X P) {ps : PSt X.Γ} {ts : St} (hR : StR X P A m ps ts) {t : TypeId} {l c : PV X.Γ} {tl tc : TV} (hvl : VR X P (AA A m) m ts.heap l tl) (hvc : VR X P (AA A m) m ts.heap c tc) {v : PV X.Γ} {H1 : List (PB X.Γ)} {qs : List Prop}
  (hl : pmakeSlice X P t ps.heap l c = some (v, H1, qs)) (hq : ∀ q ∈ qs, q) : MemR X P A m ts ((makeSliceT P t ts tl tc).map fun (v, s) => (v, s, noInf)) v H1 pi0 := by
 have hr := hR.heap
 unfold pmakeSlice at hl
 split at hl
 ·rename_i e n kl li kc ci hse
  obtain ⟨hz, h0⟩ := sliceElem_size hse
  rw [int_VR hvl, int_VR hvc]
  split at hl
  ·rename_i hbig
   split at hl
   ·rename_i z hzz
    obtain ⟨z', q1, q2⟩ := zero_VR (A := AA A m) (m := m) (h := ts.heap) hzz
    split at hl
    ·rename_i hzl
     split at hl
     ·rename_i a ha
      cases hl
      have e1 : li = ci := hq _ (by simp)
      have e2 : 0 ≤ li := hq _ (by simp)
      have e3 : li ≤ (most : Nat) := hq _ (by simp)
      subst e1
      have hm : li.toNat ≤ most := by omega
      have hm2 : most = 2 ^ 20 := rfl
      have hz2 : z'.length = n := by rw [← q2.1]; exact hzl
      have hT : ∀ w h1, (w, h1) = (TV.slc ts.heap.length 0 li.toNat li.toNat n true, ts.heap ++ [HB.cells .own (times z' li.toNat)]) → (makeSliceT P t ts (.int kl li) (.int kc li)).map (fun (v, s) => (v, s, noInf)) = some (w, { ts with heap := h1 }, noInf) := by
       intro w h1 e0; cases e0
       have hN : ∀ k, natT (.int k li) = some li.toNat := fun k => by
        have h9 : li ≤ 2 ^ 40 := by
         have : ((2 ^ 20 : Nat) : Int) ≤ 2 ^ 40 := by decide
         rw [hm2] at e3; omega
        simp only [natT]; rw [if_pos ⟨e2, h9⟩]
       simp only [makeSliceT, hse, hN, Nat.le_refl, true_and, bigRoom_le hbig hm, if_true, q1, hz2, Option.map_some]
      have hrow := rep_rows (m := m) (h := ts.heap) (F := AA A m) (hX.dec ha q2) hz2 li.toNat
      have hlen : (times z' li.toNat).length = li.toNat * n := by rw [times_len, hz2]
      by_cases hn : li.toNat = 0
      ·rw [hn] at hT ⊢
       simp only [List.replicate_zero]
       have hpush := hr.push (pb := .list true true e []) (hb := .cells .own (times z' 0)) (mb := .lst (.slc ts.heap.length 0 0 0 n true)) (.inr rfl)
         (LR.emp (b := ts.heap.length) (cs := times z' 0) ⟨hr.up _ (Nat.le_refl _), fun hm => by
          rw [blks_app, List.mem_append, blks_one] at hm
          simp [MB.own] at hm
          have := hr.inb hm; omega⟩ (by simp [blkCells]) (Nat.zero_le _) hz h0)
       exact ⟨_, _, _, _, hT _ _ rfl, hpush.1, .own (by rw [← hr.len]; simp) rfl, hpush.2.1, hpush.2.2, .none, fun b hb => by cases hb⟩
      ·obtain ⟨m1, g1, g2, g3, g4⟩ := push_list hr [] (k := true) (ex := true) (x := true) (rows := List.replicate li.toNat a) (hrow.mono fun b hb => .inl hb) (by rw [List.length_replicate]; exact hlen) (by intro e0; exact hn (by simpa using congrArg List.length e0)) hz h0 (by simp)
       refine ⟨_, _, _, m1, hT _ _ rfl, g1, ?_, g2, g3, .none, fun b hb => by cases hb⟩
       rw [List.length_replicate] at g4; exact g4
     ·cases hl
    ·cases hl
   ·cases hl
  ·cases hl
 ·cases hl
end
end Pv
namespace Pv
open Go Tw
section
variable {X : Cod} {P : Program} {A F : Nat → Prop} {m m' : List MB} {h h' : List HB} {H H' : List (PB X.Γ)}
theorem end_ok {o : Option (PV X.Γ)} {to : Option TV} (ho : OR X P A m h o to) {d n : Nat} {a : Int} (he : endP X d o = some a) (h0 : 0 ≤ a) (h1 : a ≤ n) : optB n d to = some a.toNat := by
 cases o with
 | none =>
  cases to with
  | none => simp only [endP, Option.some.injEq] at he; subst he; simp [optB]
  | some => exact ho.elim
 | some v =>
  cases to with
  | none => exact ho.elim
  | some x =>
   cases v <;> simp only [endP] at he <;> try (cases he; done)
   cases he
   rw [int_VR ho]
   simp only [optB, boundT]
   rw [if_pos ⟨h0, h1⟩]
theorem int_OR {k : IntKind} {n : Int} {to : Option TV} (ho : OR X P A m h (some (.int k n)) to) : to = some (.int k n) := by
 cases to with
 | none => exact ho.elim
 | some x => rw [int_VR ho]
theorem none_OR {to : Option TV} (ho : OR X P A m h none to) : to = none := by
 cases to with
 | none => rfl
 | some x => exact ho.elim
theorem some_OR {v : PV X.Γ} {to : Option TV} (ho : OR X P A m h (some v) to) : ∃ x, to = some x := by
 cases to with
 | none => exact ho.elim
 | some x => exact ⟨x, rfl⟩
theorem cut2 {t e : TypeId} {b off len cap sz : Nat} {ex : Bool} (hu : P.underlying t = some (.slice e)) (hz : sizeT P e = some sz) {lo hi : Option (PV X.Γ)} {tlo thi : Option TV} (h1 : OR X P A m h lo tlo) (h2 : OR X P A m h hi thi) {a z : Int} (e1 : endP X 0 lo = some a) (e2 : endP X len hi = some z)
  (q0 : 0 ≤ a) (q1 : a ≤ z) (q2 : z ≤ len) : sliceT P t (.slc b off len cap sz ex) tlo thi none = some (.slc b (off + a.toNat * sz) (z.toNat - a.toNat) (cap - a.toNat) sz ex) := by
 have g1 := end_ok h1 e1 (n := z.toNat) q0 (by omega)
 have g2 := end_ok h2 e2 (n := len) (by omega) q2
 simp only [sliceT, hu, hz, if_true, g2, g1]
theorem cut3 {t e : TypeId} {b off len cap sz : Nat} {ex : Bool} (hu : P.underlying t = some (.slice e)) (hz : sizeT P e = some sz) {lo hi : Option (PV X.Γ)} {tlo thi : Option TV} (h1 : OR X P A m h lo tlo) (h2 : OR X P A m h hi thi) {a z : Int} (e1 : endP X 0 lo = some a) (e2 : endP X len hi = some z) (hs : hi.isSome)
  (q0 : 0 ≤ a) (q1 : a ≤ z) (q2 : z ≤ len) (hcap : len ≤ cap) {k : IntKind} : sliceT P t (.slc b off len cap sz ex) tlo thi (some (.int k z)) = some (.slc b (off + a.toNat * sz) (z.toNat - a.toNat) (z.toNat - a.toNat) sz true) := by
 have g1 := end_ok h1 e1 (n := z.toNat) q0 (by omega)
 obtain ⟨hv, rfl⟩ := Option.isSome_iff_exists.1 hs
 obtain ⟨x, rfl⟩ := some_OR h2
 have g3 : boundT cap (.int k z) = some z.toNat := by simp only [boundT]; rw [if_pos (by omega)]
 have g2 : boundT (min z.toNat len) x = some z.toNat := by
  cases hv <;> simp only [endP] at e2 <;> try (cases e2; done)
  cases e2
  rw [int_VR (show VR X P A m h _ x from h2)]
  simp only [boundT]; rw [if_pos (by omega)]
 simp only [sliceT, hu, hz, if_true, g3, g2, g1]
theorem cutN {t e : TypeId} {sz : Nat} (hu : P.underlying t = some (.slice e)) (hz : sizeT P e = some sz) {lo hi : Option (PV X.Γ)} {tlo thi : Option TV} (h1 : OR X P A m h lo tlo) (h2 : OR X P A m h hi thi) {a z : Int} (e1 : endP X 0 lo = some a) (e2 : endP X 0 hi = some z) (q0 : a = 0) (q1 : z = 0) :
  sliceT P t (.nil .slc) tlo thi none = some (.nil .slc) ∧ ∀ {k : IntKind}, hi.isSome → sliceT P t (.nil .slc) tlo thi (some (.int k 0)) = some (.nil .slc) := by
 subst q0; subst q1
 have g1 := end_ok h1 e1 (n := 0) (by omega) (by omega)
 have g2 := end_ok h2 e2 (n := 0) (by omega) (by omega)
 have g0 : optB 0 0 none = some 0 := rfl
 refine ⟨by simp only [sliceT, hu, hz, g0, g1, g2]; rfl, fun {k} hs => ?_⟩
 obtain ⟨hv, rfl⟩ := Option.isSome_iff_exists.1 hs
 obtain ⟨x, rfl⟩ := some_OR h2
 have g3 : optB 0 0 (some (.int k 0)) = some 0 := rfl
 simp only [sliceT, hu, hz, g1, g2, g3] ; rfl
theorem slice_ok {ps : PSt X.Γ} {ts : St} (hR : StR X P A m ps ts) {t : TypeId} {x : PV X.Γ} {tx : TV} (hx : VR X P (AA A m) m ts.heap x tx) {lo hi mx : Option (PV X.Γ)} {tlo thi tmx : Option TV} (h1 : OR X P (AA A m) m ts.heap lo tlo) (h2 : OR X P (AA A m) m ts.heap hi thi) (h3 : OR X P (AA A m) m ts.heap mx tmx) {v : PV X.Γ} {qs : List Prop}
  (hl : pslice X P t ps.heap x lo hi mx = some (v, qs)) (hq : ∀ q ∈ qs, q) : ∃ w, sliceT P t tx tlo thi tmx = some w ∧ VR X P (AA A m) m ts.heap v w := by
 have hr := hR.heap
 unfold pslice at hl
 split at hl
 ·rename_i e t' l fu hu
  split at hl
  ·rename_i n a z hz e1 e2
   split at hl
   ·rename_i ht
    subst ht
    cases hl
    have q0 : 0 ≤ a := hq _ (by simp)
    have q1 : a ≤ z := hq _ (by simp)
    have q2 : z ≤ (l.length : Nat) := hq _ (by simp)
    rw [none_OR h3, List.drop_take]
    cases hx with
    | lstN =>
     have ea : a = 0 := by simp at q2; omega
     have ez : z = 0 := by simp at q2; omega
     exact ⟨_, (cutN hu hz h1 h2 e1 e2 ea ez).1, by simp only [List.drop_nil, List.take_nil]; exact .lstN⟩
    | lst p1 p2 p3 p4 p5 p6 p7 p8 p9 =>
     rw [hz] at p3; cases p3
     exact ⟨_, cut2 hu hz h1 h2 e1 e2 q0 q1 q2, (VR.lst p1 p2 hz p4 p5 p6 p7 p8 p9).part (by omega) (by omega) (by simp)⟩
    | gone hi _ _ => simp [idOf] at hi
   ·cases hl
  ·rename_i n a z k mv hz e1 e2
   split at hl
   ·rename_i ht
    obtain ⟨ht, hsome⟩ := ht
    subst ht
    cases hl
    have q0 : 0 ≤ a := hq _ (by simp)
    have q1 : a ≤ z := hq _ (by simp)
    have q2 : z ≤ (l.length : Nat) := hq _ (by simp)
    have q3 : mv = z := hq _ (by simp)
    subst q3
    rw [int_OR h3, List.drop_take]
    cases hx with
    | lstN =>
     have ea : a = 0 := by simp at q2; omega
     have ez : mv = 0 := by simp at q2; omega
     have := (cutN hu hz h1 h2 e1 e2 ea ez).2 (k := k) hsome
     rw [← ez] at this
     exact ⟨_, this, by simp only [List.drop_nil, List.take_nil]; exact .lstN⟩
    | lst p1 p2 p3 p4 p5 p6 p7 p8 p9 =>
     rw [hz] at p3; cases p3
     exact ⟨_, cut3 hu hz h1 h2 e1 e2 hsome q0 q1 q2 p6, (VR.lst p1 p2 hz p4 p5 p6 p7 p8 p9).part (by omega) (by omega) (by simp)⟩
    | gone hi _ _ => simp [idOf] at hi
   ·cases hl
  ·cases hl
 ·rename_i e i hu
  split at hl
  ·rename_i kk ex t' l hb
   obtain ⟨mb, g1, g2⟩ := hr.at_ i _ hb
   cases mb with
   | lst y =>
    cases hx with
    | gone hi e' _ => simp only [idOf, Option.some.injEq] at hi; subst hi; rw [g1] at e'; cases e'
    | own e' o =>
     rw [g1] at e'; cases e'
     have hlr : LR X P (AA A m) m ts.heap kk ex t' l tx := g2
     split at hl
     ·rename_i n a z hz e1 e2
      split at hl
      ·rename_i ht
       subst ht
       cases hl
       have q0 : 0 ≤ a := hq _ (by simp)
       have q1 : a ≤ z := hq _ (by simp)
       have q2 : z ≤ (l.length : Nat) := hq _ (by simp)
       rw [none_OR h3]
       cases hlr with
       | nil =>
        have ea : a = 0 := by simp at q2; omega
        have ez : z = 0 := by simp at q2; omega
        refine ⟨_, (cutN hu hz h1 h2 e1 e2 ea ez).1, ?_⟩
        subst ea; subst ez; exact .winN g1
       | emp p0 p1 p2 p3 p4 =>
        rw [hz] at p3; cases p3
        exact ⟨_, cut2 (len := 0) hu hz h1 h2 e1 e2 q0 q1 q2, .win g1 (by simp at q2; omega) (by simp at q2; omega)⟩
       | some p1 p2 p3 p4 p5 p6 p7 p8 p9 =>
        rw [hz] at p2; cases p2
        exact ⟨_, cut2 hu hz h1 h2 e1 e2 q0 q1 q2, .win g1 (by omega) (by omega)⟩
      ·cases hl
     ·rename_i n a z k mv hz e1 e2
      split at hl
      ·rename_i ht
       obtain ⟨ht, hsome⟩ := ht
       subst ht
       cases hl
       have q0 : 0 ≤ a := hq _ (by simp)
       have q1 : a ≤ z := hq _ (by simp)
       have q2 : z ≤ (l.length : Nat) := hq _ (by simp)
       have q3 : mv = z := hq _ (by simp)
       subst q3
       rw [int_OR h3]
       cases hlr with
       | nil =>
        have ea : a = 0 := by simp at q2; omega
        have ez : mv = 0 := by simp at q2; omega
        have := (cutN hu hz h1 h2 e1 e2 ea ez).2 (k := k) hsome
        rw [← ez] at this
        refine ⟨_, this, ?_⟩
        subst ea; subst ez; exact .winN g1
       | emp p0 p1 p2 p3 p4 =>
        rw [hz] at p3; cases p3
        exact ⟨_, cut3 (len := 0) hu hz h1 h2 e1 e2 hsome q0 q1 q2 (Nat.le_refl _), .win g1 (by simp at q2; omega) (by omega)⟩
       | some p1 p2 p3 p4 p5 p6 p7 p8 p9 =>
        rw [hz] at p2; cases p2
        exact ⟨_, cut3 hu hz h1 h2 e1 e2 hsome q0 q1 q2 (Nat.le_refl _), .win g1 (by omega) (by omega)⟩
      ·cases hl
     ·cases hl
   | _ => exact g2.elim
  ·cases hl
 ·rename_i e hu
  have : tx = .nil .slc := by
   cases hx with
   | nil => rfl
   | gone hi _ _ => simp [idOf] at hi
  subst this
  split at hl
  ·rename_i n a z hz e1 e2
   cases hl
   have q0 : a = 0 := hq _ (by simp)
   have q1 : z = 0 := hq _ (by simp)
   rw [none_OR h3]
   exact ⟨_, (cutN hu hz h1 h2 e1 e2 q0 q1).1, .nil _⟩
  ·rename_i n a z k mv hz e1 e2
   split at hl
   ·rename_i hsome
    cases hl
    have q0 : a = 0 := hq _ (by simp)
    have q1 : z = 0 := hq _ (by simp)
    have q2 : mv = 0 := hq _ (by simp)
    subst q2
    rw [int_OR h3]
    exact ⟨_, (cutN hu hz h1 h2 e1 e2 q0 q1).2 hsome, .nil _⟩
   ·cases hl
  ·cases hl
 ·cases hl
theorem sliceArr_ok (hX : CodOk X P) {ps : PSt X.Γ} {ts : St} (hR : StR X P A m ps ts) {t : TypeId} {x : PE X.Γ} {ex : EV} (hx : PER X P (AA A m) m ts.heap x ex) {lo hi mx : Option (PV X.Γ)} {tlo thi tmx : Option TV} (h1 : OR X P (AA A m) m ts.heap lo tlo) (h2 : OR X P (AA A m) m ts.heap hi thi) (h3 : OR X P (AA A m) m ts.heap mx tmx) {v : PV X.Γ} {H1 : List (PB X.Γ)} {qs : List Prop}
  (hl : psliceArr X P t ps.heap x lo hi mx = some (v, H1, qs)) (hq : ∀ q ∈ qs, q) : MemR X P A m ts ((sliceArrT P t ex tlo thi tmx).map fun v => (v, ts, noInf)) v H1 pi0 := by
 have hr := hR.heap
 unfold psliceArr at hl
 split at hl
 ·rename_i n e b off lim hu
  split at hl
  ·rename_i size hz
   split at hl
   ·cases hl
   ·rename_i hlim
    split at hl
    ·cases hl
    ·rw [none_OR h3]
     obtain ⟨y, rfl, hy⟩ := per_val hx
     split at hl
     ·split at hl
      ·rename_i cs hb
       cases hl
       rw [none_OR h1, none_OR h2]
       obtain ⟨mb, g1, g2⟩ := hr.at_ b _ hb
       cases mb with
       | blk c =>
        cases hy with
        | gone hi e' _ => simp only [idOf, Option.some.injEq] at hi; subst hi; rw [g1] at e'; cases e'
        | ptr e' =>
         rw [g1] at e'; cases e'
         exact ⟨.slc c off n n size true, ts.heap, noInf, m, by simp [sliceArrT, hu, hz, hlim, optB], hr, .slc g1, .refl, .refl, .none, fun d hd => by cases hd⟩
       | _ => exact g2.elim
      ·cases hl
     ·rename_i lo' hi' _
      split at hl
      ·rename_i cs a z hb e1 e2
       split at hl
       ·cases hl
       rename_i hoff
       split at hl
       ·rename_i rows is hd
        cases hl
        have q0 : 0 ≤ a := hq _ (by simp)
        have q1 : a ≤ z := hq _ (by simp)
        have q2 : z ≤ (n : Nat) := hq _ (by simp)
        obtain ⟨mb, g1, g2⟩ := hr.at_ b _ hb
        cases mb with
        | blk c =>
         obtain ⟨cs', g3, g4⟩ := g2
         cases hy with
         | gone hi e' _ => simp only [idOf, Option.some.injEq] at hi; subst hi; rw [g1] at e'; cases e'
         | ptr e' =>
          rw [g1] at e'; cases e'
          have f1 := end_ok h1 e1 (n := z.toNat) q0 (by omega)
          have f2 := end_ok h2 e2 (n := n) (by omega) q2
          obtain ⟨w1, w2⟩ := decRows_VR (m' := goneM (b :: is) m) hX hr (g4.drop off) hd
          have w3 := w2.2.1
          rw [List.length_drop] at w3
          have hgo := hr.goneAll (b :: is)
          have hFU := fr_goneM (h := ts.heap) (b :: is) m
          have hnc : AA A (goneM (b :: is) m) c := by
           refine FA.gone hr (.inr ⟨b, _, List.mem_cons_self, g1, rfl⟩)
          refine ⟨.slc c (off + a.toNat * size) (z.toNat - a.toNat) (n - a.toNat) size true, ts.heap, noInf, goneM (b :: is) m, ?_, hgo, ?_, hFU.1, hFU.2, .none, fun d hd => by cases hd⟩
          ·have f0 : optB n n none = some n := rfl
           simp only [sliceArrT, hu, hz, hlim, if_false, f0, f2, f1, Option.isSome_none, Bool.false_and, Bool.false_eq_true, Option.map_some]
          ·rw [List.drop_take]
           have hbase : VR X P (AA A (goneM (b :: is) m)) (goneM (b :: is) m) ts.heap (.lst e rows false) (.slc c off rows.length n size true) := by
            refine .lst hnc (by unfold blkCells; rw [g3]) hz (by omega) ?_ (by omega) (by simp) w2.1 (fun j y i d v hj hi hx => ?_)
            ·rw [w1, ← g4.1]; omega
            ·refine (w2.2.2 j y i d v hj hi ?_).mono fun q hq => FA.gone hr (FA.mono (fun i hi => List.mem_cons_of_mem _ hi) hq)
             rw [List.getElem?_drop, ← hx]; congr 1; omega
           exact hbase.part (by omega) (by omega) (by simp)
        | _ => exact g2.elim
       ·cases hl
      ·cases hl
  ·cases hl
 ·cases hl
theorem sliceArrW_ok {ps : PSt X.Γ} {ts : St} (hR : StR X P A m ps ts) {t : TypeId} {x : PE X.Γ} {ex : EV} (hx : PER X P (AA A m) m ts.heap x ex) {lo hi : Option (PV X.Γ)} {tlo thi tmx : Option TV} (h1 : OR X P (AA A m) m ts.heap lo tlo) (h2 : OR X P (AA A m) m ts.heap hi thi) (h3 : OR X P (AA A m) m ts.heap none tmx) {v : PV X.Γ}
  (hl : psliceArrW X P t ps.heap x lo hi = some v) : MemR X P A m ts ((sliceArrT P t ex tlo thi tmx).map fun v => (v, ts, noInf)) v ps.heap pi0 := by
 have hr := hR.heap
 unfold psliceArrW at hl
 split at hl
 ·rename_i n e b off lim hu
  split at hl
  ·rename_i size cs a z hz hb e1 e2
   split at hl
   ·cases hl
   ·rename_i hlim
    split at hl
    ·rename_i hq
     cases hl
     rw [none_OR h3]
     obtain ⟨y, rfl, hy⟩ := per_val hx
     obtain ⟨mb, g1, g2⟩ := hr.at_ b _ hb
     cases mb with
     | blk c =>
      cases hy with
      | gone hi e' _ => simp only [idOf, Option.some.injEq] at hi; subst hi; rw [g1] at e'; cases e'
      | ptr e' =>
       rw [g1] at e'; cases e'
       have f1 := end_ok h1 e1 (n := z.toNat) hq.1 (by omega)
       have f2 := end_ok h2 e2 (n := n) (by omega) hq.2.2
       refine ⟨.slc c (off + a.toNat * size) (z.toNat - a.toNat) (n - a.toNat) size true, ts.heap, noInf, m, ?_, hr, .slc g1, .refl, .refl, .none, fun d hd => by cases hd⟩
       have f0 : optB n n none = some n := rfl
       simp only [sliceArrT, hu, hz, hlim, if_false, f0, f2, f1, Option.isSome_none, Bool.false_and, Bool.false_eq_true, Option.map_some]
     | _ => exact g2.elim
    ·cases hl
  ·cases hl
 ·cases hl
end
end Pv
namespace Pv
open Go Tw
section
variable {X : Cod} {P : Program} {A B F : Nat → Prop} {m m' : List MB} {h h' : List HB} {H H' : List (PB X.Γ)}
theorem hasLs_get : ∀ {vs : List (PV X.Γ)} {i : Nat} {v : PV X.Γ}, hasL.hasLs vs = false → vs[i]? = some v → hasL v = false
 | [], _, _, _, h => by simp at h
 | a :: vs, i, v, hc, h => by
  simp only [hasL.hasLs, Bool.or_eq_false_iff] at hc
  cases i with
  | zero => simp only [List.getElem?_cons_zero, Option.some.injEq] at h; subst h; exact hc.1
  | succ i => exact hasLs_get hc.2 (by simpa using h)
theorem shifts_get {k : Nat} : ∀ {vs : List (PV X.Γ)} {i : Nat} {v : PV X.Γ}, (shift.shifts k vs)[i]? = some v → ∃ u, vs[i]? = some u ∧ v = shift k u
 | [], _, _, h => by simp [shift.shifts] at h
 | a :: vs, i, v, h => by
  cases i with
  | zero => simp only [shift.shifts, List.getElem?_cons_zero, Option.some.injEq] at h; exact ⟨a, rfl, h.symm⟩
  | succ i => obtain ⟨u, h1, h2⟩ := shifts_get (vs := vs) (i := i) (by simpa [shift.shifts] using h); exact ⟨u, by simpa using h1, h2⟩
theorem shifts_len {k : Nat} : ∀ {vs : List (PV X.Γ)}, (shift.shifts k vs).length = vs.length
 | [] => rfl
 | a :: vs => by simp [shift.shifts, shifts_len (vs := vs)]
theorem idOf_shift {k i : Nat} {v : PV X.Γ} (h : idOf v = some i) : idOf (shift k v) = some (i + k) := by
 cases v <;> simp [idOf] at h <;> subst h <;> rfl
theorem VR.shift (hX : CodOk X P) {m0 : List MB} {v : PV X.Γ} {x : TV} (hv : VR X P A m h v x) (hq : (∀ b, A b → B b) ∨ hasL v = false) : VR X P B (m0 ++ m) h (Pv.shift m0.length v) x := by
 have at' : ∀ {i : Nat} {mb : MB}, m[i]? = some mb → (m0 ++ m)[i + m0.length]? = some mb := by
  intro i mb hi
  rw [List.getElem?_append_right (by omega)]
  simpa using hi
 induction hv with
 | bool => exact .bool _
 | lit => exact .lit _
 | int => exact .int _ _
 | str => exact .str _
 | nil => exact .nil _
 | ptr e => exact .ptr (at' e)
 | slc e => exact .slc (at' e)
 | own e o => exact .own (at' e) o
 | win e q q' => exact .win (at' e) q q'
 | winN e => exact .winN (at' e)
 | map e => exact .map (at' e)
 | fn h1 _ h3 _ i2 i4 =>
  refine .fn (by rw [shifts_len, h1]) (fun i x y hx hy => ?_) (by rw [shifts_len, h3]) (fun i x y hx hy => ?_)
  ·obtain ⟨u, g1, rfl⟩ := shifts_get hx
   exact i2 i u y g1 hy (hq.imp_right fun hq => by simp only [hasL, Bool.or_eq_false_iff] at hq; exact hasLs_get hq.1 g1)
  ·obtain ⟨u, g1, rfl⟩ := shifts_get hx
   exact i4 i u y g1 hy (hq.imp_right fun hq => by simp only [hasL, Bool.or_eq_false_iff] at hq; exact hasLs_get hq.2 g1)
 | yld e => exact .yld (at' e)
 | agg h1 _ i2 =>
  refine .agg (by rw [shifts_len, h1]) (fun i x y hx hy => ?_)
  obtain ⟨u, g1, rfl⟩ := shifts_get hx
  exact i2 i u y g1 hy (hq.imp_right fun hq => by simp only [hasL] at hq; exact hasLs_get hq g1)
 | tup h1 _ i2 =>
  refine .tup (by rw [shifts_len, h1]) (fun i x y hx hy => ?_)
  obtain ⟨u, g1, rfl⟩ := shifts_get hx
  exact i2 i u y g1 hy (hq.imp_right fun hq => by simp only [hasL] at hq; exact hasLs_get hq g1)
 | lstN => exact .lstN
 | lst a c s z o k f e r _ =>
  rcases hq with hq | hq
  ·exact .lst (hq _ a) c s z o k f e fun j y i d v h1 h2 h3 => ((r j y i d v h1 h2 h3).mono hq).clos hX (closs_get (hX.clos _ _) h2)
  ·simp [hasL] at hq
 | el a c o e q r _ =>
  rcases hq with hq | hq
  ·exact .el (hq _ a) c o e q fun i d v h1 h2 => ((r i d v h1 h2).mono hq).clos hX (closs_get (hX.clos _ _) h1)
  ·simp [hasL] at hq
 | row e j q => exact .row (at' e) j q
 | gone i e o => exact .gone (idOf_shift i) (at' e) o
theorem VRs.shift (hX : CodOk X P) {m0 : List MB} {v : List (PV X.Γ)} {x : List TV} (hv : VRs X P A m h v x) (hq : (∀ b, A b → B b) ∨ hasL.hasLs v = false) : VRs X P B (m0 ++ m) h (Pv.shift.shifts m0.length v) x := by
 refine ⟨by rw [shifts_len, hv.1], fun i a b ha hb => ?_⟩
 obtain ⟨u, g1, rfl⟩ := shifts_get ha
 exact (hv.2 i u b g1 hb).shift hX (hq.imp_right fun hq => hasLs_get hq g1)
theorem BR.shift (hX : CodOk X P) {m0 : List MB} {b b' : PB X.Γ} {mb : MB} (hb : BR X P A m h b mb) (hs : shiftB X m0.length b = some b') (hq : (∀ c, A c → B c) ∨ hasB X b = false) : BR X P B (m0 ++ m) h b' mb := by
 cases b with
 | cells cs =>
  cases mb with
  | blk c =>
   simp only [shiftB, Option.some.injEq] at hs; subst hs
   obtain ⟨cs', h1, h2⟩ := hb
   exact ⟨cs', h1, h2.shift hX hq⟩
  | _ => exact hb.elim
 | list k ex t l =>
  cases mb with
  | lst y =>
   simp only [shiftB, Option.some.injEq] at hs; subst hs
   rcases hq with hq | hq
   ·cases (hb : LR X P A m h k ex t l y) with
    | nil => exact LR.nil
    | emp p0 p1 p2 p3 p4 => exact LR.emp (hq _ p0) p1 p2 p3 p4
    | some p1 p2 p3 p4 p5 p6 p7 p8 p9 => exact LR.some p1 p2 p3 p4 p5 p6 p7 p8 ((p9.mono hq).clos hX)
   ·simp [hasB] at hq
  | _ => exact hb.elim
 | gone =>
  cases mb with
  | gone => simp only [shiftB, Option.some.injEq] at hs; subst hs; trivial
  | _ => exact hb.elim
 | _ => simp [shiftB] at hs
theorem shiftBs_get {k : Nat} : ∀ {bs bs' : List (PB X.Γ)} {i : Nat} {b' : PB X.Γ}, shiftBs X k bs = some bs' → bs'[i]? = some b' → ∃ b, bs[i]? = some b ∧ shiftB X k b = some b'
 | [], bs', i, b', h, hi => by simp only [shiftBs, Option.some.injEq] at h; subst h; simp at hi
 | b :: bs, bs', i, b', h, hi => by
  simp only [shiftBs] at h
  split at h
  ·rename_i c cs h1 h2
   cases h
   cases i with
   | zero => simp only [List.getElem?_cons_zero, Option.some.injEq] at hi; subst hi; exact ⟨b, rfl, h1⟩
   | succ i => obtain ⟨d, g1, g2⟩ := shiftBs_get h2 (i := i) (by simpa using hi); exact ⟨d, by simpa using g1, g2⟩
  ·cases h
theorem shiftBs_len {k : Nat} : ∀ {bs bs' : List (PB X.Γ)}, shiftBs X k bs = some bs' → bs'.length = bs.length
 | [], bs', h => by simp only [shiftBs, Option.some.injEq] at h; subst h; rfl
 | b :: bs, bs', h => by
  simp only [shiftBs] at h
  split at h
  ·rename_i c cs h1 h2
   cases h; simp [shiftBs_len h2]
  ·cases h
def Con (X : Cod) (P : Program) (call : CallT) (f : FuncId) (vs : List (PV X.Γ)) (v : PV X.Γ) (ext : List (PB X.Γ)) : Prop :=
 ∀ (A : Nat → Prop) (h : List HB) (first args cap : List TV), (∀ b, h.length ≤ b → A b) → VRs X P A [] h vs (first ++ args ++ cap) →
  ∃ w h' m', call (.fn f first cap) args h = some (w, h', []) ∧ HR X P A m' ext h' ∧ VR X P (AA A m') m' h' v w ∧ Fr [] h m' h'
theorem con_use (hX : CodOk X P) {call : CallT} {f : FuncId} {first xs cap vs : List (PV X.Γ)} {v : PV X.Γ} {ext ext' : List (PB X.Γ)} (hc : Con X P call f vs v ext) (hr : HR X P A m H h) (hv : views H (first ++ xs ++ cap) = some vs) (hs : shiftBs X H.length ext = some ext')
  {t1 t2 t3 : List TV} (h1 : VRs X P (AA A m) m h first t1) (h2 : VRs X P (AA A m) m h xs t2) (h3 : VRs X P (AA A m) m h cap t3) :
  ∃ w h' m1, call (.fn f t1 t3) t2 h = some (w, h', []) ∧ HR X P A m1 ((if hasL v || ext.any (hasB X) then goneAll (owns.ownss (first ++ xs ++ cap)) H else H) ++ ext') h' ∧ VR X P (AA A m1) m1 h' (shift H.length v) w ∧ Fr m h m1 h' ∧ Up m m1 := by
 have hvs := views_VR (m' := []) hX hr ((h1.app h2).app h3) hv (is := owns.ownss (first ++ xs ++ cap)) fun i hi => hi
 generalize owns.ownss (first ++ xs ++ cap) = is at hvs ⊢
 obtain ⟨w, h', m', c1, c2, c3, c4⟩ := hc (fun b => FA A m is b ∨ h.length ≤ b) h t1 t2 t3 (fun b hb => .inr hb) (hvs.mono fun b hb => .inl hb)
 have hold : ∀ b, b < h.length → h'[b]? = h[b]? := fun b hb => c4.same b hb (by simp [blks])
 have hnew : ∀ b, b ∈ blks m' → h.length ≤ b := fun b hb => by
  rcases c4.new b hb with h0 | h0
  ·simp [blks] at h0
  ·exact h0
 have key : ∀ (m0 : List MB) (H0 : List (PB X.Γ)), HR X P A m0 H0 h → Fr m h m0 h → Up m m0 → m0.length = H.length → ((∀ b, FA A m is b → AA A m0 b) ∨ (hasL v || ext.any (hasB X)) = false) →
   ∃ m1, HR X P A m1 (H0 ++ ext') h' ∧ VR X P (AA A m1) m1 h' (shift H.length v) w ∧ Fr m h m1 h' ∧ Up m m1 := by
  intro m0 H0 hr0 hF0 hU0 hl0 hq
  have hF : Fr m0 h (m0 ++ m') h' := by
   refine ⟨c4.len, fun b hb _ => hold b hb, fun b hb => ?_, fun b cs hc => ⟨cs, by rw [blkCells_same (hold b (blkCells_lt hc)), hc], Nat.le_refl _⟩⟩
   rw [blks_app, List.mem_append] at hb
   exact hb.imp_right fun hb => hnew b hb
  have hA : (∀ b, AA (fun b => FA A m is b ∨ h.length ≤ b) m' b → AA A (m0 ++ m') b) ∨ (hasL v || ext.any (hasB X)) = false := by
   refine hq.imp_left fun hq b hb => ?_
   refine ⟨?_, fun hm => ?_⟩
   ·rcases hb.1 with h0 | h0
    ·exact (hq b h0).1
    ·exact hr.up b h0
   ·rw [blks_app, List.mem_append] at hm
    rcases hm with hm | hm
    ·rcases hb.1 with h0 | h0
     ·exact (hq b h0).2 hm
     ·have := hr0.inb hm; omega
    ·exact hb.2 hm
  refine ⟨m0 ++ m', ?_, ?_, hF0.trans hF, hU0.trans (up_app _)⟩
  ·refine hr0.next hF (up_app _) (by rw [List.length_append, List.length_append, hr0.len, shiftBs_len hs, c2.len]) ?_ fun i b hi => ?_
   ·rw [blks_app]
    refine List.nodup_append.2 ⟨hr0.nodup, c2.nodup, fun a ha b hb e => ?_⟩
    subst e
    have := hr0.inb ha
    have := hnew a hb
    omega
   ·rcases Nat.lt_or_ge i H0.length with hlt | hge
    ·left
     rw [List.getElem?_append_left hlt] at hi
     obtain ⟨mb, g1, g2⟩ := hr0.at_ i b hi
     exact ⟨mb, hi, g1, by rw [List.getElem?_append_left (by rw [hr0.len]; exact hlt)]; exact g1, fun c hc => hold c (g2.has hc)⟩
    ·right
     rw [List.getElem?_append_right hge] at hi
     obtain ⟨b0, g1, g2⟩ := shiftBs_get hs hi
     obtain ⟨mb, g3, g4⟩ := c2.at_ _ _ g1
     refine ⟨mb, by rw [List.getElem?_append_right (by rw [hr0.len]; exact hge), hr0.len]; exact g3, ?_⟩
     rw [← hl0] at g2
     refine g4.shift hX g2 (hA.imp_right fun hq => ?_)
     simp only [Bool.or_eq_false_iff, List.any_eq_false] at hq
     simpa using hq.2 b0 (List.mem_of_getElem? g1)
  ·rw [← hl0]
   exact c3.shift hX (hA.imp_right fun hq => by simp only [Bool.or_eq_false_iff] at hq; exact hq.1)
 refine ⟨w, h', ?_⟩
 by_cases hL : (hasL v || ext.any (hasB X)) = true
 ·rw [if_pos hL]
  obtain ⟨m1, e1, e2, e3, e4⟩ := key (goneM is m) (goneAll is H) (hr.goneAll is) (fr_goneM (h := h) is m).1 (fr_goneM (h := h) is m).2 (by rw [goneM_length, hr.len]) (.inl fun b hb => hb.gone hr)
  exact ⟨m1, c1, e1, e2, e3, e4⟩
 ·rw [if_neg hL]
  obtain ⟨m1, e1, e2, e3, e4⟩ := key m H hr .refl .refl hr.len (.inr (by simpa using hL))
  exact ⟨m1, c1, e1, e2, e3, e4⟩
end
end Pv
namespace Pv
open Go Tw
section
variable {X : Cod} {P : Program} {A B F : Nat → Prop} {m m' : List MB} {h h' : List HB} {H H' : List (PB X.Γ)}
def Sim (X : Cod) (P : Program) (call : CallT) : SimT X.Γ := fun fv xs H v H1 =>
 ∀ (A : Nat → Prop) (m : List MB) (h : List HB) (tf : TV) (txs : List TV), HR X P A m H h → VR X P (AA A m) m h fv tf → VRs X P (AA A m) m h xs txs →
  ∃ w h1 ws m1, call tf txs h = some (w, h1, ws) ∧ HR X P A m1 H1 h1 ∧ VR X P (AA A m1) m1 h1 v w ∧ Fr m h m1 h1 ∧ Up m m1 ∧ ∀ b ∈ ws, b ∈ blks m
def OrcOk (X : Cod) (P : Program) (call : CallT) (orc : Orc X.Γ) : Prop := ∀ f vs v ext ps, orc f vs = some (v, ext, ps) → (∀ p ∈ ps, p) → Con X P call f vs v ext
theorem owe_ends {ρ : Type} {y : ρ} : ∀ {ps : List Prop} {x : OT ρ}, (owe ps x).Ends y → (∀ p ∈ ps, p) ∧ x.Ends y
 | [], x, h => ⟨by simp, h⟩
 | p :: ps, x, h => by
  have := owe_ends h.2
  exact ⟨fun q hq => by rcases List.mem_cons.1 hq with rfl | hq; exact h.1; exact this.1 q hq, this.2⟩
theorem byB_ok {ρ : Type} {y : ρ} {u : PV X.Γ} {an : PT X.Γ} {k : Bool → PT X.Γ → OT ρ} (hk : (byB X u an k).Ends y) {tu : TV} (hu : VR X P A m h u tu) : ∃ t an', tu = .bool t ∧ (k t an').Ends y := by
 cases u with
 | lit b =>
  have : tu = .bool b := by
   cases hu with
   | lit => rfl
   | gone hi _ _ => simp [idOf] at hi
  exact ⟨b, an, this, hk⟩
 | bool b =>
  have hb : tu = .bool b := by
   cases hu with
   | bool => rfl
   | gone hi _ _ => simp [idOf] at hi
  subst hb
  cases an with
  | s x z =>
   rcases hk with ⟨h1, h2⟩ | ⟨h1, h2⟩
   ·subst h1; exact ⟨true, x, rfl, h2⟩
   ·subst h1; exact ⟨false, z, rfl, h2⟩
  | a x r =>
   cases x with
   | br t => obtain ⟨h1, h2⟩ := hk; subst h1; exact ⟨_, r, rfl, h2⟩
   | _ => exact hk.elim
  | _ => exact hk.elim
 | _ => exact hk.elim
theorem pkeys_eq : ∀ {es : List (PV X.Γ × PV X.Γ)} {es' : List (TV × TV)} {ks : List TV}, es.length = es'.length → (∀ (i : Nat) x y, es[i]? = some x → es'[i]? = some y → VR X P A m h x.1 y.1 ∧ VR X P A m h x.2 y.2) → pkeys X es = some ks → es'.map (·.1) = ks
 | [], es', ks, hl, _, hk => by
  simp only [pkeys, Option.some.injEq] at hk; subst hk
  cases es' with
  | nil => rfl
  | cons => simp at hl
 | (k, v) :: es, es', ks, hl, he, hk => by
  cases es' with
  | nil => simp at hl
  | cons y es' =>
   simp only [pkeys] at hk
   split at hk
   ·rename_i a b h1 h2
    cases hk
    have := toT_eq (he 0 _ _ rfl rfl).1 h1
    simp only [List.map_cons, this]
    rw [pkeys_eq (by simpa using hl) (fun i x z hx hz => he (i + 1) x z (by simpa using hx) (by simpa using hz)) h2]
   ·cases hk
theorem toVs_len : ∀ {ks : List TV} {vs : List Value}, toVs ks = some vs → vs.length = ks.length
 | [], vs, h => by simp only [toVs, Option.some.injEq] at h; subst h; rfl
 | k :: ks, vs, h => by
  simp only [toVs] at h
  split at h
  ·rename_i v ws _ h2
   cases h; simp [toVs_len h2]
  ·cases h
theorem findT_eq {kt : TypeId} {k : Value} {es' : List (TV × TV)} : findT P kt k es' = findK P kt k (es'.map (·.1)) := by
 unfold findT findK
 cases hv : toVs (es'.map (·.1)) with
 | none => rfl
 | some vs =>
  have hl := toVs_len hv
  have : es'.isEmpty = vs.isEmpty := by
   cases es' <;> cases vs <;> simp at hl <;> rfl
  simp only [this]
def mapKT : TV → List Key
 | .map r => [.h r]
 | _ => []
def entT (h : List HB) : TV → Option (List (TV × TV))
 | .nil .map => some []
 | .map r => match h[r]? with
  | some (.map es) => some es
  | _ => none
 | _ => none
theorem lookupT_ent {t : TypeId} {h : List HB} {tm tk : TV} {ok : Bool} {kt e : TypeId} {kv : Value} {es : List (TV × TV)} (hu : P.underlying t = some (.map kt e)) (hk : tk.toV = some kv) (he : entT h tm = some es) :
  lookupT P t h tm tk ok = match findT P kt kv es with
   | some (some i) => match es[i]? with
    | some (_, v) => some (if ok then .tup [v, .bool true] else v)
    | none => none
   | some none => match P.info? e with
    | some i => match i.zero with
     | some z => (TV.ofV z).map fun z => if ok then .tup [z, .bool false] else z
     | none => none
    | none => none
   | none => none := by
 unfold lookupT
 simp only [hu, hk]
 cases tm with
 | nil k =>
  cases k <;> simp only [entT] at he <;> try (cases he; done)
  cases he; rfl
 | map r =>
  simp only [entT] at he
  split at he
  ·rename_i es0 hb
   cases he
   simp only [hb]
   rfl
  ·cases he
 | _ => simp [entT] at he
theorem ent_ok {ps : PSt X.Γ} {ts : St} (hR : StR X P A m ps ts) {mv : PV X.Γ} {tm : TV} (hm : VR X P (AA A m) m ts.heap mv tm) {es : List (PV X.Γ × PV X.Γ)} (he : entP X ps.heap mv = some es) :
  ∃ es', entT ts.heap tm = some es' ∧ es.length = es'.length ∧ (∀ (i : Nat) x y, es[i]? = some x → es'[i]? = some y → VR X P (AA A m) m ts.heap x.1 y.1 ∧ VR X P (AA A m) m ts.heap x.2 y.2) ∧
   IR m ts.heap ⟨rdKs (mapKP X mv), false, false, true⟩ (rdKs (mapKT tm)) := by
 cases mv with
 | nil k =>
  cases hm with
  | nil =>
   cases k <;> simp only [entP] at he <;> try (cases he; done)
   cases he
   exact ⟨[], rfl, rfl, fun i x y hx => by simp at hx, IR.reads rfl (by simp [mapKT]) (by simp [mapKT])⟩
  | gone hi _ _ => simp [idOf] at hi
 | map r =>
  simp only [entP] at he
  split at he
  ·rename_i es0 hb
   cases he
   obtain ⟨mb, g1, g2⟩ := hR.heap.at_ r _ hb
   cases mb with
   | blk c =>
    obtain ⟨es', g3, g4, g5⟩ := g2
    cases hm with
    | map e =>
     rw [g1] at e; cases e
     exact ⟨es', by simp only [entT, g3], g4, g5, IR.reads rfl (fun b hb => by simp [mapKT] at hb; subst hb; exact ⟨.inl ⟨r, by simp [rdKs, mapKP], own_of g1 rfl⟩, (List.getElem?_eq_some_iff.1 g3).1⟩) (by simp [mapKT])⟩
    | gone hi e _ => simp only [idOf, Option.some.injEq] at hi; subst hi; rw [g1] at e; cases e
   | _ => exact g2.elim
  ·cases he
 | _ => simp [entP] at he
theorem tup2_VR {a b : PV X.Γ} {x y : TV} (h1 : VR X P A m h a x) (h2 : VR X P A m h b y) : VR X P A m h (.tup [a, b]) (.tup [x, y]) := by
 have := (VRs.nil (X := X) (P := P) (A := A) (m := m) (h := h)).cons h2 |>.cons h1
 exact .tup this.1 this.2
theorem look_ok {ρ : Type} {y : ρ} {ps : PSt X.Γ} {ts : St} (hR : StR X P A m ps ts) {t : TypeId} {mv kv : PV X.Γ} {tm tk : TV} (hm : VR X P (AA A m) m ts.heap mv tm) (hk : VR X P (AA A m) m ts.heap kv tk) {ok : Bool} {an : PT X.Γ} {c : PE X.Γ → PI → PT X.Γ → OT ρ}
  (hl : (plookK X P t ps mv kv ok an c).Ends y) : ∃ v pi an' w, lookupT P t ts.heap tm tk ok = some w ∧ VR X P (AA A m) m ts.heap v w ∧ (c (.val v) pi an').Ends y ∧ IR m ts.heap pi (rdKs (mapKT tm)) := by
 unfold plookK at hl
 split at hl
 ·rename_i kt e tk' es hu htk hes
  have := toT_eq hk htk
  subst this
  obtain ⟨es', f1, f2, f3, f4⟩ := ent_ok hR hm hes
  split at hl
  ·rename_i kval ks hkv hks
   have hkeys := pkeys_eq f2 f3 hks
   split at hl
   ·rename_i j r
    split at hl
    ·rename_i k0 v hj
     obtain ⟨hfind, hl⟩ := hl
     have hlt : j < es'.length := by rw [← f2]; exact (List.getElem?_eq_some_iff.1 hj).1
     have hj' := List.getElem?_eq_getElem hlt
     have hv := (f3 j _ _ hj hj').2
     refine ⟨_, _, _, (if ok then .tup [es'[j].2, .bool true] else es'[j].2), ?_, ?_, hl, f4⟩
     ·rw [lookupT_ent hu hkv f1]
      simp only [findT_eq, hkeys, hfind, hj']
     ·cases ok with
      | true => exact tup2_VR hv (.bool _)
      | false => exact hv
    ·exact hl.elim
   ·rename_i r
    split at hl
    ·rename_i i hi
     split at hl
     ·rename_i z hz
      split at hl
      ·rename_i z1 hz1
       split at hl
       ·rename_i z2 hz2
        obtain ⟨hfind, hl⟩ := hl
        refine ⟨_, _, _, (if ok then .tup [z1, .bool false] else z1), ?_, ?_, hl, f4⟩
        ·rw [lookupT_ent hu hkv f1]
         simp only [findT_eq, hkeys, hfind, hi, hz, hz1, Option.map_some]
        ·cases ok with
         | true => exact tup2_VR (ofT_VR hz2) (.bool _)
         | false => exact ofT_VR hz2
       ·exact hl.elim
      ·exact hl.elim
     ·exact hl.elim
    ·exact hl.elim
   ·exact hl.elim
  ·exact hl.elim
 ·exact hl.elim
theorem upd_ok {ρ : Type} {y : ρ} {ps : PSt X.Γ} {ts : St} (hR : StR X P A m ps ts) {t : TypeId} {mv kv v : PV X.Γ} {tm tk tv : TV} (hm : VR X P (AA A m) m ts.heap mv tm) (hk : VR X P (AA A m) m ts.heap kv tk) (hv : VR X P (AA A m) m ts.heap v tv) {an : PT X.Γ} {c : PSt X.Γ → PI → PT X.Γ → OT ρ}
  (hl : (pupdK X P t ps mv kv v an c).Ends y) : ∃ ps1 pi an' h1 ti, updateT P t ts tm tk tv = some ({ ts with heap := h1 }, ti) ∧ StR X P A m ps1 { ts with heap := h1 } ∧ Fr m ts.heap m h1 ∧ (c ps1 pi an').Ends y ∧ IR m ts.heap pi ti ∧ ∀ b, .h b ∈ ti.ws → b ∈ blks m := by
 unfold pupdK at hl
 split at hl
 ·rename_i kt e tk' r hu htk
  have := toT_eq hk htk
  subst this
  split at hl
  ·rename_i kval es hkv hb
   split at hl
   ·rename_i ks hks
    obtain ⟨mb, g1, g2⟩ := hR.heap.at_ r _ hb
    cases mb with
    | blk cb =>
     obtain ⟨es', f1, f2, f3⟩ := g2
     cases hm with
     | gone hi e' _ => simp only [idOf, Option.some.injEq] at hi; subst hi; rw [g1] at e'; cases e'
     | map e' =>
      rw [g1] at e'; cases e'
      have hkeys := pkeys_eq f2 f3 hks
      have hlt := (List.getElem?_eq_some_iff.1 f1).1
      have wr : ∀ (en : List (PV X.Γ × PV X.Γ)) (en' : List (TV × TV)), en.length = en'.length → (∀ (i : Nat) x y, en[i]? = some x → en'[i]? = some y → VR X P (AA A m) m ts.heap x.1 y.1 ∧ VR X P (AA A m) m ts.heap x.2 y.2) →
        StR X P A m { ps with heap := ps.heap.set r (.map en) } { ts with heap := ts.heap.set cb (.map en') } ∧ Fr m ts.heap m (ts.heap.set cb (.map en')) := by
       intro en en' h1 h2
       obtain ⟨q1, q2⟩ := hR.heap.set (pb := .map en) (hb := .map en') g1 (c := cb) rfl (fun cs hc => by simp [blkCells, f1] at hc) fun hF => ⟨en', by simp [hlt], h1, fun i x y hx hy => ⟨(h2 i x y hx hy).1.step hF .refl, (h2 i x y hx hy).2.step hF .refl⟩⟩
       exact ⟨hR.step q1 q2 .refl, q2⟩
      split at hl
      ·rename_i j rest
       split at hl
       ·rename_i x0 old hj hold
        split at hl
        ·rename_i ov hov
         obtain ⟨c1, c2, c3, hl⟩ := hl
         have hj' : ∃ y0, es'[j]? = some y0 := by
          have : j < es'.length := by rw [← f2]; exact (List.getElem?_eq_some_iff.1 hj).1
          exact ⟨_, List.getElem?_eq_getElem this⟩
         obtain ⟨y0, hy0⟩ := hj'
         have hy1 : y0.1 = old := by
          have : (es'.map (·.1))[j]? = some y0.1 := by rw [List.getElem?_map, hy0]; rfl
          rw [hkeys, hold] at this; exact (Option.some.inj this).symm
         obtain ⟨w1, w2⟩ := wr (es.set j (kv, v)) (es'.set j (tk, tv)) (by simp [f2]) fun i a b ha hb' => by
          by_cases e : j = i
          ·subst e
           rw [List.getElem?_set_self'] at ha hb'
           rw [hj] at ha; rw [hy0] at hb'
           cases ha; cases hb'; exact ⟨hk, hv⟩
          ·rw [List.getElem?_set_ne e] at ha hb'; exact f3 i a b ha hb'
         refine ⟨_, _, _, _, wrK (.h cb), ?_, w1, w2, hl, .wrH (own_of g1 rfl) hlt, fun b hb => by simp [wrK] at hb; subst hb; exact own_mem g1 rfl⟩
         unfold updateT
         simp only [hu, hkv, f1, c1, findT_eq, hkeys, c2, hy0, hy1, hov, c3, if_true]
        ·exact hl.elim
       ·exact hl.elim
      ·rename_i rest
       obtain ⟨c1, c2, hl⟩ := hl
       obtain ⟨w1, w2⟩ := wr (es ++ [(kv, v)]) (es' ++ [(tk, tv)]) (by simp [f2]) fun i a b ha hb' => by
        rcases Nat.lt_or_ge i es.length with hlt | hge
        ·rw [List.getElem?_append_left hlt] at ha
         rw [List.getElem?_append_left (by rw [← f2]; exact hlt)] at hb'
         exact f3 i a b ha hb'
        ·rw [List.getElem?_append_right hge] at ha
         rw [List.getElem?_append_right (by rw [← f2]; exact hge), ← f2] at hb'
         cases hx : i - es.length with
         | zero =>
          rw [hx] at ha hb'
          simp only [List.getElem?_cons_zero, Option.some.injEq] at ha hb'
          subst ha; subst hb'; exact ⟨hk, hv⟩
         | succ n => rw [hx] at ha; simp at ha
       refine ⟨_, _, _, _, wrK (.h cb), ?_, w1, w2, hl, .wrH (own_of g1 rfl) hlt, fun b hb => by simp [wrK] at hb; subst hb; exact own_mem g1 rfl⟩
       unfold updateT
       simp only [hu, hkv, f1, c1, findT_eq, hkeys, c2]
      ·exact hl.elim
    | _ => exact g2.elim
   ·exact hl.elim
  ·exact hl.elim
 ·exact hl.elim
end
end Pv
namespace Pv
open Go Tw
theorem blks_own {m : List MB} {b : Nat} (h : b ∈ blks m) : ∃ i, Own m i b := by
 obtain ⟨mb, h1, h2⟩ := List.mem_filterMap.1 h
 obtain ⟨i, hi⟩ := List.getElem?_of_mem h1
 exact ⟨i, mb, hi, h2⟩
section
variable {X : Cod} {P : Program} {A B : Nat → Prop} {m m1 : List MB} {h : List HB} {g : Nat → Option Nat}
theorem nodup_of_own : ∀ {m : List MB}, (∀ i j c, Own m i c → Own m j c → i = j) → (blks m).Nodup
 | [], _ => by simp [blks]
 | x :: m, hu => by
  have ih : (blks m).Nodup := nodup_of_own fun i j c h1 h2 => by
   have := hu (i + 1) (j + 1) c (by obtain ⟨mb, a, b⟩ := h1; exact ⟨mb, by simpa using a, b⟩) (by obtain ⟨mb, a, b⟩ := h2; exact ⟨mb, by simpa using a, b⟩)
   omega
  unfold blks at ih ⊢
  rw [List.filterMap_cons]
  split
  ·exact ih
  ·rename_i b hb
   refine List.nodup_cons.2 ⟨fun hm => ?_, ih⟩
   obtain ⟨i, mb, h1, h2⟩ := blks_own (m := m) hm
   have := hu 0 (i + 1) b ⟨x, rfl, hb⟩ ⟨mb, by simpa using h1, h2⟩
   omega
theorem posN_get : ∀ {ks : List Nat} {i p : Nat}, posN ks i = some p → ks[p]? = some i
 | [], i, p, h => by cases h
 | a :: ks, i, p, h => by
  simp only [posN] at h
  split at h
  ·rename_i e; cases h; simp [e]
  ·simp only [Option.map_eq_some_iff] at h
   obtain ⟨q, h1, rfl⟩ := h
   simpa using posN_get h1
section
variable {g : Nat → Option Nat} {m1 : List MB}
theorem renV_VR (hg : ∀ i j, g i = some j → m1[j]? = m[i]?) {B : Nat → Prop} (hA : ∀ b, A b → B b) (hX : CodOk X P) {v : PV X.Γ} {x : TV} (hv : VR X P A m h v x) : ∀ {w : PV X.Γ}, renV g v = some w → VR X P B m1 h w x := by
 have lists : ∀ {vs : List (PV X.Γ)} {xs : List TV}, vs.length = xs.length → (∀ (i : Nat) a b, vs[i]? = some a → xs[i]? = some b → ∀ {w : PV X.Γ}, renV g a = some w → VR X P B m1 h w b) → ∀ {ws : List (PV X.Γ)}, renV.renVs g vs = some ws → ws.length = xs.length ∧ ∀ (i : Nat) a b, ws[i]? = some a → xs[i]? = some b → VR X P B m1 h a b := by
  intro vs
  induction vs with
  | nil =>
   intro xs hl _ ws hw
   simp only [renV.renVs, Option.some.injEq] at hw; subst hw
   exact ⟨hl, fun i a b ha => by simp at ha⟩
  | cons v vs ih =>
   intro xs hl hh ws hw
   cases xs with
   | nil => simp at hl
   | cons x xs =>
    simp only [renV.renVs] at hw
    split at hw
    ·rename_i w ws' h1 h2
     cases hw
     obtain ⟨e1, e2⟩ := ih (xs := xs) (by simpa using hl) (fun i a b ha hb => hh (i + 1) a b (by simpa using ha) (by simpa using hb)) h2
     refine ⟨by simp [e1], fun i a b ha hb => ?_⟩
     cases i with
     | zero => simp only [List.getElem?_cons_zero, Option.some.injEq] at ha hb; subst ha; subst hb; exact hh 0 v x rfl rfl h1
     | succ i => exact e2 i a b (by simpa using ha) (by simpa using hb)
    ·cases hw
 induction hv with
 | bool => intro w hw; simp only [renV, Option.some.injEq] at hw; subst hw; exact .bool _
 | lit => intro w hw; simp only [renV, Option.some.injEq] at hw; subst hw; exact .lit _
 | int => intro w hw; simp only [renV, Option.some.injEq] at hw; subst hw; exact .int _ _
 | str => intro w hw; simp only [renV, Option.some.injEq] at hw; subst hw; exact .str _
 | nil => intro w hw; simp only [renV, Option.some.injEq] at hw; subst hw; exact .nil _
 | ptr e => intro w hw; simp only [renV, Option.map_eq_some_iff] at hw; obtain ⟨j, h1, rfl⟩ := hw; exact .ptr (by rw [hg _ _ h1]; exact e)
 | slc e => intro w hw; simp only [renV, Option.map_eq_some_iff] at hw; obtain ⟨j, h1, rfl⟩ := hw; exact .slc (by rw [hg _ _ h1]; exact e)
 | own e o => intro w hw; simp only [renV, Option.map_eq_some_iff] at hw; obtain ⟨j, h1, rfl⟩ := hw; exact .own (by rw [hg _ _ h1]; exact e) o
 | win e q q' => intro w hw; simp only [renV, Option.map_eq_some_iff] at hw; obtain ⟨j, h1, rfl⟩ := hw; exact .win (by rw [hg _ _ h1]; exact e) q q'
 | winN e => intro w hw; simp only [renV, Option.map_eq_some_iff] at hw; obtain ⟨j, h1, rfl⟩ := hw; exact .winN (by rw [hg _ _ h1]; exact e)
 | map e => intro w hw; simp only [renV, Option.map_eq_some_iff] at hw; obtain ⟨j, h1, rfl⟩ := hw; exact .map (by rw [hg _ _ h1]; exact e)
 | yld e => intro w hw; simp only [renV, Option.map_eq_some_iff] at hw; obtain ⟨j, h1, rfl⟩ := hw; exact .yld (by rw [hg _ _ h1]; exact e)
 | row e j q => intro w hw; simp only [renV, Option.map_eq_some_iff] at hw; obtain ⟨j, h1, rfl⟩ := hw; exact .row (by rw [hg _ _ h1]; exact e) (by assumption) q
 | fn h1 _ h3 _ i2 i4 =>
  intro w hw
  simp only [renV] at hw
  split at hw
  ·rename_i a c ha hc
   cases hw
   obtain ⟨e1, e2⟩ := lists h1 i2 ha
   obtain ⟨e3, e4⟩ := lists h3 i4 hc
   exact .fn e1 e2 e3 e4
  ·cases hw
 | agg h1 _ i2 =>
  intro w hw
  simp only [renV, Option.map_eq_some_iff] at hw
  obtain ⟨cs, hc, rfl⟩ := hw
  obtain ⟨e1, e2⟩ := lists h1 i2 hc
  exact .agg e1 e2
 | tup h1 _ i2 =>
  intro w hw
  simp only [renV, Option.map_eq_some_iff] at hw
  obtain ⟨cs, hc, rfl⟩ := hw
  obtain ⟨e1, e2⟩ := lists h1 i2 hc
  exact .tup e1 e2
 | lstN => intro w hw; simp only [renV, Option.some.injEq] at hw; subst hw; exact .lstN
 | lst a c s z o k f e r _ => intro w hw; simp only [renV, Option.some.injEq] at hw; subst hw; exact .lst (hA _ a) c s z o k f e fun j y i d v h1 h2 h3 => ((r j y i d v h1 h2 h3).mono hA).clos hX (closs_get (hX.clos _ _) h2)
 | el a c o e q r _ => intro w hw; simp only [renV, Option.some.injEq] at hw; subst hw; exact .el (hA _ a) c o e q fun i d v h1 h2 => ((r i d v h1 h2).mono hA).clos hX (closs_get (hX.clos _ _) h1)
 | gone i e o =>
  intro w hw
  rename_i v _ x
  have : ∃ j, idOf w = some j ∧ m1[j]? = some .gone := by
   cases v <;> simp [idOf] at i <;> subst i <;> simp only [renV, Option.map_eq_some_iff] at hw <;> obtain ⟨j, h1, rfl⟩ := hw <;> exact ⟨j, rfl, by rw [hg _ _ h1]; exact e⟩
  obtain ⟨j, h1, h2⟩ := this
  exact .gone h1 h2 o
variable {B : Nat → Prop}
theorem renVs_VR (hX : CodOk X P) (hg : ∀ i j, g i = some j → m1[j]? = m[i]?) (hA : ∀ b, A b → B b) : ∀ {vs : List (PV X.Γ)} {xs : List TV} {ws : List (PV X.Γ)}, VRs X P A m h vs xs → renV.renVs g vs = some ws → VRs X P B m1 h ws xs
 | [], xs, ws, hv, hw => by simp only [renV.renVs, Option.some.injEq] at hw; subst hw; rw [hv.inv0]; exact .nil
 | v :: vs, xs, ws, hv, hw => by
  obtain ⟨x, r, rfl, h1, h2⟩ := hv.inv
  simp only [renV.renVs] at hw
  split at hw
  ·rename_i w ws' g1 g2
   cases hw
   exact .cons (renV_VR hg hA hX h1 g1) (renVs_VR hX hg hA h2 g2)
  ·cases hw
theorem renEs_VR (hX : CodOk X P) (hg : ∀ i j, g i = some j → m1[j]? = m[i]?) (hA : ∀ b, A b → B b) {env : List (Nat × PE X.Γ)} {env' : List (Nat × EV)} (he : EnvR X P A m h env env') : ∀ {r : List (Nat × PE X.Γ)}, renEs g env = some r → EnvR X P B m1 h r env' := by
 induction he with
 | nil => intro r h; simp only [renEs, Option.some.injEq] at h; subst h; exact .nil
 | cons h1 h2 ih =>
  rename_i k v x q q'
  intro r hr
  simp only [renEs] at hr
  split at hr
  ·rename_i w r' e1 e2
   cases hr
   refine .cons ?_ (ih e2)
   cases v with
   | val v =>
    obtain ⟨y, rfl, h3⟩ := per_val h1
    simp only [renE, Option.map_eq_some_iff] at e1
    obtain ⟨u, e3, rfl⟩ := e1
    exact per_of (renV_VR hg hA hX h3 e3)
   | loc a b => simp only [renE, Option.some.injEq] at e1; subst e1; rw [per_loc h1]; exact ⟨rfl, rfl⟩
   | undef => simp only [renE, Option.some.injEq] at e1; subst e1; rw [per_undef h1]; trivial
  ·cases hr
theorem renM_VR (hX : CodOk X P) (hg : ∀ i j, g i = some j → m1[j]? = m[i]?) (hA : ∀ b, A b → B b) : ∀ {es r : List (PV X.Γ × PV X.Γ)} {es' : List (TV × TV)}, es.length = es'.length → (∀ (i : Nat) x y, es[i]? = some x → es'[i]? = some y → VR X P A m h x.1 y.1 ∧ VR X P A m h x.2 y.2) → renM g es = some r →
  r.length = es'.length ∧ ∀ (i : Nat) x y, r[i]? = some x → es'[i]? = some y → VR X P B m1 h x.1 y.1 ∧ VR X P B m1 h x.2 y.2
 | [], r, es', hl, _, hr => by simp only [renM, Option.some.injEq] at hr; subst hr; exact ⟨hl, fun i x y hx => by simp at hx⟩
 | (k, v) :: es, r, es', hl, he, hr => by
  cases es' with
  | nil => simp at hl
  | cons y es' =>
   simp only [renM] at hr
   split at hr
   ·rename_i a b c h1 h2 h3
    cases hr
    obtain ⟨e1, e2⟩ := renM_VR hX hg hA (es' := es') (by simpa using hl) (fun i x z hx hz => he (i + 1) x z (by simpa using hx) (by simpa using hz)) h3
    refine ⟨by simp [e1], fun i x z hx hz => ?_⟩
    cases i with
    | zero =>
     simp only [List.getElem?_cons_zero, Option.some.injEq] at hx hz; subst hx; subst hz
     have := he 0 _ _ rfl rfl
     exact ⟨renV_VR hg hA hX this.1 h1, renV_VR hg hA hX this.2 h2⟩
    | succ i => exact e2 i x z (by simpa using hx) (by simpa using hz)
   ·cases hr
theorem renB_BR (hX : CodOk X P) (hg : ∀ i j, g i = some j → m1[j]? = m[i]?) (hA : ∀ b, A b → B b) {b b' : PB X.Γ} {mb : MB} (hb : BR X P A m h b mb) (hr : renB g b = some b') : BR X P B m1 h b' mb := by
 cases b with
 | cells cs =>
  cases mb with
  | blk c =>
   simp only [renB, Option.map_eq_some_iff] at hr
   obtain ⟨cs', h1, rfl⟩ := hr
   obtain ⟨xs, h2, h3⟩ := hb
   exact ⟨xs, h2, renVs_VR hX hg hA h3 h1⟩
  | _ => exact hb.elim
 | list k ex t l =>
  cases mb with
  | lst y =>
   simp only [renB, Option.some.injEq] at hr; subst hr
   cases (hb : LR X P A m h k ex t l y) with
   | nil => exact LR.nil
   | emp p0 p1 p2 p3 p4 => exact LR.emp (hA _ p0) p1 p2 p3 p4
   | some p1 p2 p3 p4 p5 p6 p7 p8 p9 => exact LR.some p1 p2 p3 p4 p5 p6 p7 p8 ((p9.mono hA).clos hX)
  | _ => exact hb.elim
 | map es =>
  cases mb with
  | blk c =>
   simp only [renB, Option.map_eq_some_iff] at hr
   obtain ⟨es', h1, rfl⟩ := hr
   obtain ⟨xs, h2, h3, h4⟩ := hb
   exact ⟨xs, h2, renM_VR hX hg hA h3 h4 h1⟩
  | _ => exact hb.elim
 | mark =>
  cases mb with
  | blk c => simp only [renB, Option.some.injEq] at hr; subst hr; exact hb
  | _ => exact hb.elim
 | loop rd f nt env ps a c pend =>
  cases mb with
  | blk cb =>
   simp only [renB, Option.map_eq_some_iff] at hr
   obtain ⟨env1, h1, rfl⟩ := hr
   obtain ⟨xs, h2, h3⟩ := hb
   exact ⟨xs, h2, renEs_VR hX hg hA h3 h1⟩
  | _ => exact hb.elim
 | gone =>
  cases mb with
  | gone => simp only [renB, Option.some.injEq] at hr; subst hr; trivial
  | _ => exact hb.elim
theorem renBs_get : ∀ {bs r : List (PB X.Γ)}, renBs g bs = some r → r.length = bs.length ∧ ∀ {i : Nat} {b' : PB X.Γ}, r[i]? = some b' → ∃ b, bs[i]? = some b ∧ renB g b = some b'
 | [], r, h => by simp only [renBs, Option.some.injEq] at h; subst h; exact ⟨rfl, fun {i b'} hi => by simp at hi⟩
 | b :: bs, r, h => by
  simp only [renBs] at h
  split at h
  ·rename_i c cs h1 h2
   cases h
   obtain ⟨e1, e2⟩ := renBs_get h2
   refine ⟨by simp [e1], fun {i b'} hi => ?_⟩
   cases i with
   | zero => simp only [List.getElem?_cons_zero, Option.some.injEq] at hi; subst hi; exact ⟨b, rfl, h1⟩
   | succ i => obtain ⟨d, q1, q2⟩ := e2 (i := i) (by simpa using hi); exact ⟨d, by simpa using q1, q2⟩
  ·cases h
theorem renL_get : ∀ {bs r : List (List (PV X.Γ))}, renL g bs = some r → r.length = bs.length ∧ ∀ {i : Nat} {b' : List (PV X.Γ)}, r[i]? = some b' → ∃ b, bs[i]? = some b ∧ renV.renVs g b = some b'
 | [], r, h => by simp only [renL, Option.some.injEq] at h; subst h; exact ⟨rfl, fun {i b'} hi => by simp at hi⟩
 | b :: bs, r, h => by
  simp only [renL] at h
  split at h
  ·rename_i c cs h1 h2
   cases h
   obtain ⟨e1, e2⟩ := renL_get h2
   refine ⟨by simp [e1], fun {i b'} hi => ?_⟩
   cases i with
   | zero => simp only [List.getElem?_cons_zero, Option.some.injEq] at hi; subst hi; exact ⟨b, rfl, h1⟩
   | succ i => obtain ⟨d, q1, q2⟩ := e2 (i := i) (by simpa using hi); exact ⟨d, by simpa using q1, q2⟩
  ·cases h
theorem pickB_get : ∀ {ks : List Nat} {H r : List (PB X.Γ)}, pickB H ks = some r → r.length = ks.length ∧ ∀ {i k : Nat}, ks[i]? = some k → ∃ b, H[k]? = some b ∧ r[i]? = some b
 | [], H, r, h => by simp only [pickB, Option.some.injEq] at h; subst h; exact ⟨rfl, fun {i k} hi => by simp at hi⟩
 | k :: ks, H, r, h => by
  simp only [pickB] at h
  split at h
  ·rename_i b rs h1 h2
   cases h
   obtain ⟨e1, e2⟩ := pickB_get h2
   refine ⟨by simp [e1], fun {i j} hi => ?_⟩
   cases i with
   | zero => simp only [List.getElem?_cons_zero, Option.some.injEq] at hi; subst hi; exact ⟨b, h1, rfl⟩
   | succ i => obtain ⟨d, q1, q2⟩ := e2 (i := i) (k := j) (by simpa using hi); exact ⟨d, q1, by simpa using q2⟩
  ·cases h
end
theorem putAt_len {α : Type} : ∀ {ks : List Nat} {bs l : List α}, (putAt ks bs l).length = l.length
 | [], _, _ => rfl
 | _ :: _, [], _ => rfl
 | k :: ks, b :: bs, l => by simp only [putAt]; rw [putAt_len, List.length_set]
theorem putAt_in {α : Type} : ∀ {ks : List Nat} {bs l : List α} {p i : Nat}, ks.Nodup → (∀ k ∈ ks, k < l.length) → ks.length ≤ bs.length → ks[p]? = some i → (putAt ks bs l)[i]? = bs[p]?
 | [], _, _, p, i, _, _, _, h => by simp at h
 | a :: ks, [], _, _, _, _, _, hl, _ => by simp at hl
 | a :: ks, b :: bs, l, 0, i, hn, hk, hl, h => by
  simp only [List.getElem?_cons_zero, Option.some.injEq] at h
  subst h
  have hn := List.nodup_cons.1 hn
  simp only [putAt]
  have : ∀ {ks : List Nat} {bs l : List α} {i : Nat}, i ∉ ks → (putAt ks bs l)[i]? = l[i]? := by
   intro ks
   induction ks with
   | nil => intro bs l i _; rfl
   | cons c ks ih =>
    intro bs l i hi
    simp only [List.mem_cons, not_or] at hi
    cases bs with
    | nil => rfl
    | cons b bs => simp only [putAt]; rw [ih hi.2, List.getElem?_set_ne (fun e => hi.1 e.symm)]
  rw [this hn.1, List.getElem?_set_self (hk a (List.mem_cons_self ..))]; rfl
 | a :: ks, b :: bs, l, p + 1, i, hn, hk, hl, h => by
  simp only [List.getElem?_cons_succ] at h
  simp only [putAt]
  rw [putAt_in (List.nodup_cons.1 hn).2 (fun k hk' => by rw [List.length_set]; exact hk k (List.mem_cons_of_mem _ hk')) (by simpa using hl) h]
  rfl
theorem putAt_out {α : Type} : ∀ {ks : List Nat} {bs l : List α} {i : Nat}, i ∉ ks → (putAt ks bs l)[i]? = l[i]?
 | [], _, _, _, _ => rfl
 | a :: ks, [], _, _, _ => rfl
 | a :: ks, b :: bs, l, i, hi => by
  simp only [List.mem_cons, not_or] at hi
  simp only [putAt]; rw [putAt_out hi.2, List.getElem?_set_ne (fun e => hi.1 e.symm)]
theorem frame_use (hX : CodOk X P) {call : CallT} {ks : List Nat} {H' Hp H H1 H1r : List (PB X.Γ)} {fv fv' v v' : PV X.Γ} {xs xs' : List (PV X.Γ)} (hs : Sim X P call fv xs H v H1)
  (hnd : ks.Nodup) (hp : pickB H' ks = some Hp) (hH : renBs (posN ks) Hp = some H) (hf : renV (posN ks) fv' = some fv) (hx : renV.renVs (posN ks) xs' = some xs)
  (hv : renV (bk ks H'.length) v = some v') (hH1 : renBs (bk ks H'.length) H1 = some H1r) :
  ∀ (A : Nat → Prop) (m' : List MB) (h : List HB) (tf : TV) (txs : List TV), HR X P A m' H' h → VR X P (AA A m') m' h fv' tf → VRs X P (AA A m') m' h xs' txs →
  ∃ w h1 ws m1, call tf txs h = some (w, h1, ws) ∧ HR X P A m1 (putAt ks H1r H' ++ H1r.drop ks.length) h1 ∧ VR X P (AA A m1) m1 h1 v' w ∧ Fr m' h m1 h1 ∧ Up m' m1 ∧ ∀ b ∈ ws, ∃ k ∈ ks, Own m' k b := by
 intro A m' h tf txs hr hf' hx'
 have hpg := pickB_get hp
 have hHg := renBs_get hH
 have hkH : ∀ {p k : Nat}, ks[p]? = some k → k < m'.length := fun {p k} hk => by
  obtain ⟨b, q1, _⟩ := hpg.2 hk
  rw [hr.len]; exact (List.getElem?_eq_some_iff.1 q1).1
 have hkm : ∀ k ∈ ks, k < m'.length := fun k hk => by
  obtain ⟨i, hi⟩ := List.getElem?_of_mem hk
  exact hkH hi
 let m : List MB := ks.map fun k => m'.getD k .gone
 have hm : ∀ {p k : Nat}, ks[p]? = some k → m[p]? = m'[k]? := fun {p k} hk => by
  show (ks.map _)[p]? = _
  rw [List.getElem?_map, hk]
  have := hkH hk
  simp [List.getD_eq_getElem?_getD, this]
 have hmlen : m.length = ks.length := List.length_map ..
 have hmold : ∀ {p : Nat} {mb : MB}, m[p]? = some mb → ∃ k, ks[p]? = some k ∧ m'[k]? = some mb := fun {p mb} hpm => by
  have : p < ks.length := by rw [← hmlen]; exact (List.getElem?_eq_some_iff.1 hpm).1
  have hk := List.getElem?_eq_getElem this
  exact ⟨_, hk, by rw [← hm hk]; exact hpm⟩
 have hsub : ∀ b, b ∈ blks m → b ∈ blks m' := fun b hb => by
  obtain ⟨j, mb, q1, q2⟩ := blks_own hb
  obtain ⟨k, _, q3⟩ := hmold q1
  exact own_mem q3 q2
 have hdis : ∀ {i : Nat} {mb : MB} {b : Nat}, i ∉ ks → m'[i]? = some mb → mb.own = some b → b ∉ blks m := fun {i mb b} hi h1 h2 hb => by
  obtain ⟨j, mc, q1, q2⟩ := blks_own hb
  obtain ⟨k, q3, q4⟩ := hmold q1
  have := own_inj hr.nodup h1 q4 h2 q2
  subst this
  exact hi (List.mem_of_getElem? q3)
 let A2 : Nat → Prop := fun b => A b ∧ (b ∈ blks m' → b ∈ blks m)
 have hA : ∀ b, AA A m' b → AA A2 m b := fun b hb => ⟨⟨hb.1, fun h9 => absurd h9 hb.2⟩, fun h9 => hb.2 (hsub b h9)⟩
 have hg : ∀ i j, posN ks i = some j → m[j]? = m'[i]? := fun i j hij => hm (posN_get hij)
 have hr2 : HR X P A2 m H h := by
  refine ⟨by rw [hmlen, hHg.1, hpg.1], fun j b hj => ?_, nodup_of_own fun i j c q1 q2 => ?_, fun b hb => ⟨hr.up b hb, fun h9 => absurd (hr.inb h9) (by omega)⟩, fun b hb => ⟨hr.ownA b (hsub b hb), fun _ => hb⟩⟩
  ·obtain ⟨b0, q1, q2⟩ := hHg.2 hj
   have hj2 : j < ks.length := by rw [← hpg.1]; exact (List.getElem?_eq_some_iff.1 q1).1
   have hk := List.getElem?_eq_getElem hj2
   obtain ⟨b9, q5, q6⟩ := hpg.2 hk
   rw [q1] at q6; cases q6
   obtain ⟨mb, q3, q4⟩ := hr.at_ _ _ q5
   exact ⟨mb, by rw [hm hk]; exact q3, renB_BR hX hg hA q4 q2⟩
  ·obtain ⟨ma, a1, a2⟩ := q1
   obtain ⟨mc, c1, c2⟩ := q2
   obtain ⟨k, a3, a4⟩ := hmold a1
   obtain ⟨l, c3, c4⟩ := hmold c1
   have e := own_inj hr.nodup a4 c4 a2 c2
   subst e
   exact (List.getElem?_inj (List.getElem?_eq_some_iff.1 a3).1 hnd).1 (by rw [a3, c3])
 obtain ⟨w, h1, ws, m1, c1, c2, c3, c4, c5, c6⟩ := hs A2 m h tf txs hr2 (renV_VR hg hA hX hf' hf) (renVs_VR hX hg hA hx' hx)
 have hm1len : ks.length ≤ m1.length := by
  rcases Nat.eq_zero_or_pos ks.length with e | e
  ·omega
  ·have hlt : ks.length - 1 < m.length := by omega
   have := c5 (ks.length - 1) m[ks.length - 1] (List.getElem?_eq_getElem hlt)
   rcases this with g | g <;> (have := (List.getElem?_eq_some_iff.1 g).1; omega)
 let m1' : List MB := putAt ks m1 m' ++ m1.drop ks.length
 have hn : m'.length = H'.length := hr.len
 have lenL : (putAt ks m1 m').length = m'.length := putAt_len
 have at_in : ∀ {p k : Nat}, ks[p]? = some k → m1'[k]? = m1[p]? := fun {p k} hk => by
  show (putAt ks m1 m' ++ _)[k]? = _
  rw [List.getElem?_append_left (by rw [lenL]; exact hkH hk), putAt_in hnd hkm hm1len hk]
 have at_out : ∀ {i : Nat}, i < m'.length → i ∉ ks → m1'[i]? = m'[i]? := fun {i} hi hk => by
  show (putAt ks m1 m' ++ _)[i]? = _
  rw [List.getElem?_append_left (by rw [lenL]; exact hi), putAt_out hk]
 have at_new : ∀ {j : Nat}, ks.length ≤ j → m1'[m'.length + (j - ks.length)]? = m1[j]? := fun {j} hj => by
  show (putAt ks m1 m' ++ _)[_]? = _
  rw [List.getElem?_append_right (by rw [lenL]; omega), lenL, Nat.add_sub_cancel_left, List.getElem?_drop]
  congr 1; omega
 have hgb : ∀ j i, bk ks H'.length j = some i → m1'[i]? = m1[j]? := fun j i hij => by
  unfold bk at hij
  split at hij
  ·rename_i k hk; cases hij; exact at_in hk
  ·rename_i hk
   cases hij
   rw [← hn]
   exact at_new (by rw [List.getElem?_eq_none_iff] at hk; exact hk)
 have hcase : ∀ {i : Nat} {mb : MB}, m1'[i]? = some mb → (∃ p, ks[p]? = some i ∧ m1[p]? = some mb) ∨ (i < m'.length ∧ i ∉ ks ∧ m'[i]? = some mb) ∨ (∃ j, ks.length ≤ j ∧ i = m'.length + (j - ks.length) ∧ m1[j]? = some mb) := fun {i mb} hi => by
  rcases Nat.lt_or_ge i m'.length with hlt | hge
  ·by_cases hk : i ∈ ks
   ·obtain ⟨p, hp⟩ := List.getElem?_of_mem hk
    exact .inl ⟨p, hp, by rw [← at_in hp]; exact hi⟩
   ·exact .inr (.inl ⟨hlt, hk, by rw [← at_out hlt hk]; exact hi⟩)
  ·refine .inr (.inr ⟨i - m'.length + ks.length, by omega, by omega, ?_⟩)
   rw [← at_new (by omega)]
   rw [← hi]; congr 1; omega
 have hbl : ∀ {b : Nat}, b ∈ blks m1' → b ∈ blks m1 ∨ ∃ i mb, i ∉ ks ∧ m'[i]? = some mb ∧ mb.own = some b := fun {b} hb => by
  obtain ⟨i, mb, q1, q2⟩ := blks_own hb
  rcases hcase q1 with ⟨p, _, q3⟩ | ⟨_, q3, q4⟩ | ⟨j, _, _, q3⟩
  ·exact .inl (own_mem q3 q2)
  ·exact .inr ⟨i, mb, q3, q4, q2⟩
  ·exact .inl (own_mem q3 q2)
 have hunp : ∀ {i b : Nat} {mb : MB}, i ∉ ks → m'[i]? = some mb → mb.own = some b → b ∉ blks m1 := fun {i b mb} h1 h2 h3 h4 => by
  rcases c4.new b h4 with g | g
  ·exact hdis h1 h2 h3 g
  ·exact absurd (hr.inb (own_mem h2 h3)) (by omega)
 have hA3 : ∀ b, AA A2 m1 b → AA A m1' b := fun b hb => ⟨hb.1.1, fun h9 => by
  rcases hbl h9 with g | ⟨i, mb, g1, g2, g3⟩
  ·exact hb.2 g
  ·exact hdis g1 g2 g3 (hb.1.2 (own_mem g2 g3))⟩
 have hF : Fr m' h m1' h1 := ⟨c4.len, fun b hb hnb => c4.same b hb fun h9 => hnb (hsub b h9), fun b hb => by
  rcases hbl hb with g | ⟨i, mb, g1, g2, g3⟩
  ·rcases c4.new b g with g | g
   ·exact .inl (hsub b g)
   ·exact .inr g
  ·exact .inl (own_mem g2 g3), c4.grow⟩
 have hU : Up m' m1' := fun i mb hi => by
  have hlt := (List.getElem?_eq_some_iff.1 hi).1
  by_cases hk : i ∈ ks
  ·obtain ⟨p, hp⟩ := List.getElem?_of_mem hk
   rw [at_in hp]
   exact c5 p mb (by rw [hm hp]; exact hi)
  ·exact .inl (by rw [at_out hlt hk]; exact hi)
 have hr1g := renBs_get hH1
 have lenR : m1.length = H1.length := c2.len
 refine ⟨w, h1, ws, m1', c1, ⟨?_, fun i b hi => ?_, ?_, fun b hb => (c2.up b hb).1, fun b hb => ?_⟩, renV_VR hgb hA3 hX c3 hv, hF, hU, fun b hb => ?_⟩
 ·show (putAt ks m1 m' ++ _).length = _
  rw [List.length_append, List.length_append, putAt_len, putAt_len, List.length_drop, List.length_drop, hr1g.1, lenR, hn]
 ·have hRlen : ks.length ≤ H1r.length := by rw [hr1g.1, ← lenR]; exact hm1len
  have hkH' : ∀ k ∈ ks, k < H'.length := fun k hk => by rw [← hn]; exact hkm k hk
  have back : ∀ {j : Nat} {b : PB X.Γ}, H1r[j]? = some b → ∃ mb, m1[j]? = some mb ∧ BR X P (AA A m1') m1' h1 b mb := fun {j b} hj => by
   obtain ⟨b0, q1, q2⟩ := hr1g.2 hj
   obtain ⟨mb, q3, q4⟩ := c2.at_ j b0 q1
   exact ⟨mb, q3, renB_BR hX hgb hA3 q4 q2⟩
  rcases Nat.lt_or_ge i H'.length with hlt | hge
  ·rw [List.getElem?_append_left (by rw [putAt_len]; exact hlt)] at hi
   by_cases hk : i ∈ ks
   ·obtain ⟨p, hpk⟩ := List.getElem?_of_mem hk
    rw [putAt_in hnd hkH' hRlen hpk] at hi
    obtain ⟨mb, q1, q2⟩ := back hi
    exact ⟨mb, by rw [at_in hpk]; exact q1, q2⟩
   ·rw [putAt_out hk] at hi
    obtain ⟨mb, q1, q2⟩ := hr.at_ i b hi
    refine ⟨mb, by rw [at_out (by rw [hn]; exact hlt) hk]; exact q1, q2.step hF hU fun c hc => ?_⟩
    exact c4.same c (hr.inb (own_mem q1 hc)) (hdis hk q1 hc)
  ·rw [List.getElem?_append_right (by rw [putAt_len]; exact hge), putAt_len, List.getElem?_drop] at hi
   obtain ⟨mb, q1, q2⟩ := back hi
   refine ⟨mb, ?_, q2⟩
   have := at_new (j := ks.length + (i - H'.length)) (by omega)
   rw [q1] at this
   rw [← this]; congr 1; omega
 ·refine nodup_of_own fun i j c q1 q2 => ?_
  obtain ⟨ma, a1, a2⟩ := q1
  obtain ⟨mc, b1, b2⟩ := q2
  rcases hcase a1 with ⟨p, a3, a4⟩ | ⟨a3, a4, a5⟩ | ⟨p, a3, a4, a5⟩ <;> rcases hcase b1 with ⟨q, b3, b4⟩ | ⟨b3, b4, b5⟩ | ⟨q, b3, b4, b5⟩
  ·have := own_inj c2.nodup a4 b4 a2 b2; subst this; rw [a3] at b3; cases b3; rfl
  ·exact absurd (own_mem a4 a2) (hunp b4 b5 b2)
  ·have := own_inj c2.nodup a4 b5 a2 b2
   subst this
   have := (List.getElem?_eq_some_iff.1 a3).1; omega
  ·exact absurd (own_mem b4 b2) (hunp a4 a5 a2)
  ·exact own_inj hr.nodup a5 b5 a2 b2
  ·exact absurd (own_mem b5 b2) (hunp a4 a5 a2)
  ·have := own_inj c2.nodup a5 b4 a2 b2
   subst this
   have := (List.getElem?_eq_some_iff.1 b3).1; omega
  ·exact absurd (own_mem a5 a2) (hunp b4 b5 b2)
  ·have := own_inj c2.nodup a5 b5 a2 b2; subst this; omega
 ·rcases hbl hb with g | ⟨i, mb, g1, g2, g3⟩
  ·exact (c2.ownA b g).1
  ·exact hr.ownA b (own_mem g2 g3)
 ·obtain ⟨j, mb, q1, q2⟩ := blks_own (c6 b hb)
  obtain ⟨k, q3, q4⟩ := hmold q1
  exact ⟨k, List.mem_of_getElem? q3, mb, q4, q2⟩
end
end Pv
namespace Pv
open Go Tw
section
variable {X : Cod} {P : Program} {A B F : Nat → Prop} {m m' : List MB} {h h' : List HB} {H H' : List (PB X.Γ)}
variable {call : CallT} {orc : Orc X.Γ} {site : Nat → Bool} {ρ : Type} {y : ρ}
def Went (X : Cod) (P : Program) (A : Nat → Prop) (m : List MB) (call : CallT) (site : Nat → Bool) (ts : St) (o : Oper) (k : PE X.Γ → PSt X.Γ → PI → PT X.Γ → OT ρ) (y : ρ) : Prop :=
 ∃ pe ps1 pi an', OpR X P A m call site ts o pe ps1 pi ∧ (k pe ps1 pi an').Ends y
theorem went_mem {ps : PSt X.Γ} {ts : St} (hR : StR X P A m ps ts) {o : Oper} {k : PE X.Γ → PSt X.Γ → PI → PT X.Γ → OT ρ} {r : Option (TV × St × Inf)} {v : PV X.Γ} {H1 : List (PB X.Γ)} {pi : PI} {an : PT X.Γ} (hm : MemR X P A m ts r v H1 pi)
  (ho : opT P call site ts o = r.map fun (v, s, i) => (.val v, s, i)) (hk : (k (.val v) { ps with heap := H1 } pi an).Ends y) : Went X P A m call site ts o k y := by
 obtain ⟨w, h1, ti, m1, rfl, e1, e2, e3, e4, e5, e6⟩ := hm
 exact ⟨.val v, _, _, _, ⟨.val w, _, ti, m1, ho, rfl, rfl, hR.step e1 e3 e4, e2, e3, e4, e5, e6⟩, hk⟩
theorem went_val {ps : PSt X.Γ} {ts : St} (hR : StR X P A m ps ts) {o : Oper} {k : PE X.Γ → PSt X.Γ → PI → PT X.Γ → OT ρ} {v : PV X.Γ} {w : TV} {pi : PI} {an : PT X.Γ} (hv : VR X P (AA A m) m ts.heap v w) (ho : opT P call site ts o = some (.val w, ts, noInf)) (hk : (k (.val v) ps pi an).Ends y) : Went X P A m call site ts o k y :=
 ⟨.val v, _, _, _, opR_pure hR ho (per_of hv), hk⟩
theorem div_ok {op : BinOp} {a b v : PV X.Γ} {ta tb : TV} {ps : List Prop} {t : TypeId} {x z : Operand} (ha : VR X P A m h a ta) (hb : VR X P A m h b tb) (hd : pdiv op a b = some (v, ps)) (hp : ∀ p ∈ ps, p) :
  ∃ w, binT P op t x z ta tb = some w ∧ VR X P A m h v w := by
 unfold pdiv at hd
 split at hd
 ·cases ha with
  | gone hi _ _ => simp [idOf] at hi
  | int =>
   cases hb with
   | gone hi _ _ => simp [idOf] at hi
   | int =>
    split at hd
    ·split at hd
     ·rename_i e; subst e; cases hd; exact ⟨_, binT_quo (hp _ (.head _)), .int _ _⟩
     ·cases hd
    ·split at hd
     ·rename_i e; subst e; cases hd; exact ⟨_, binT_rem (hp _ (.head _)), .int _ _⟩
     ·cases hd
    ·cases hd; exact ⟨_, binT_shl (hp _ (.head _)), .int _ _⟩
    ·cases hd; exact ⟨_, binT_shr (hp _ (.head _)), .int _ _⟩
    ·cases hd
 ·cases hd
theorem pop_ok (hX : CodOk X P) (hO : OrcOk X P call orc) {ps : PSt X.Γ} {ts : St} (hR : StR X P A m ps ts) {o : Oper} {an : PT X.Γ} {k : PE X.Γ → PSt X.Γ → PI → PT X.Γ → OT ρ} (hk : (popK X P orc (Sim X P call) site ps o an k).Ends y) : Went X P A m call site ts o k y := by
 have hE := hR.env
 unfold popK at hk
 split at hk
 ·-- move
  rename_i x ho
  split at hk
  ·rename_i v hv
   obtain ⟨e, h1, h2⟩ := evO_VR hE hv
   exact ⟨_, _, _, _, opR_pure hR (by simp only [opT, ho, h1, Option.map_some]) h2, hk⟩
  ·exact hk.elim
 ·rename_i x ho
  split at hk
  ·rename_i v hv
   obtain ⟨e, h1, h2⟩ := evO_VR hE hv
   exact ⟨_, _, _, _, opR_pure hR (by simp only [opT, ho, h1, Option.map_some]) h2, hk⟩
  ·exact hk.elim
 ·-- pick
  rename_i c a b ho
  split at hk
  ·rename_i u hu
   obtain ⟨tu, h1, h2⟩ := ptest_VR hE hu
   obtain ⟨t, an', rfl, hk⟩ := byB_ok hk h2
   split at hk
   ·rename_i v hv
    obtain ⟨e, g1, g2⟩ := evO_VR hE hv
    exact ⟨_, _, _, _, opR_pure (hR.know h1) (by simp only [opT, ho, h1, g1, Option.map_some]) g2, hk⟩
   ·exact hk.elim
  ·exact hk.elim
 ·-- alloc
  rename_i e ho
  split at hk
  ·rename_i z hz
   obtain ⟨z', g1, g2⟩ := zero_VR (A := AA A m) (m := m) (h := ts.heap) hz
   obtain ⟨m1, e1, e2, e3, e4, e5, e6⟩ := newBox_ok hR (site := site (o.dst.getD 0)) g2
   exact ⟨_, _, _, _, ⟨_, _, noInf, m1, by simp only [opT, ho, g1, Option.map_some], e1, e2, e3, e4, e5, e6, .none, fun b hb => by cases hb⟩, hk⟩
  ·exact hk.elim
 ·-- box
  rename_i t x ho
  split at hk
  ·rename_i v hv
   obtain ⟨w, g1, g2⟩ := vO_VR hE hv
   split at hk
   ·rename_i hone
    have hc := cells_VR g2
    obtain ⟨m1, e1, e2, e3, e4, e5, e6⟩ := newBox_ok hR (site := site (o.dst.getD 0)) hc
    exact ⟨_, _, _, _, ⟨_, _, noInf, m1, by simp only [opT, ho, g1, allOne_VR hc, hone, if_true], e1, e2, e3, e4, e5, e6, .none, fun b hb => by cases hb⟩, hk⟩
   ·exact hk.elim
  ·exact hk.elim
 ·-- build
  rename_i t qs ho
  split at hk
  ·rename_i vs hvs
   obtain ⟨ws, g1, g2⟩ := vPs_VR hE hvs
   split at hk
   ·rename_i v hv
    obtain ⟨w, g3, g4⟩ := build_VR g2 hv
    exact went_val hR g4 (by simp only [opT, ho, g1, g3, Option.map_some]) hk
   ·exact hk.elim
  ·exact hk.elim
 ·-- buildSlice
  rename_i t len qs ho
  split at hk
  ·rename_i vs hvs
   obtain ⟨ws, g1, g2⟩ := vPs_VR hE hvs
   split at hk
   ·rename_i v H1 hv
    refine went_mem hR (buildSlice_ok hX hR g2 hv) ?_ hk
    simp only [opT, ho, g1, Option.map_map]
    rfl
   ·exact hk.elim
  ·exact hk.elim
 ·-- load
  rename_i t a ho
  split at hk
  ·rename_i pa ha
   obtain ⟨ea, g1, g2⟩ := evO_VR hE ha
   split at hk
   ·rename_i v i hv
    obtain ⟨w, ti, g3, g4, g5, g6⟩ := load_ok hX hR g2 hv
    exact ⟨.val v, _, _, _, ⟨.val w, ts, ti, m, by simp only [opT, ho, g1, g3, Option.map_some], rfl, rfl, hR, g4, .refl, .refl, g5, fun b hb => by rw [g6] at hb; cases hb⟩, hk⟩
   ·exact hk.elim
  ·exact hk.elim
 ·-- store
  rename_i t a x ho
  split at hk
  ·rename_i pa v ha hv
   obtain ⟨ea, g1, g2⟩ := evO_VR hE ha
   obtain ⟨w, g3, g4⟩ := vO_VR hE hv
   split at hk
   ·rename_i s i hs
    obtain ⟨ts1, ti, m1, e1, e2, e3, e4, e5, e6, e7, e8⟩ := store_ok hX hR g2 g4 hs
    exact ⟨.undef, _, _, _, ⟨.undef, ts1, ti, m1, by simp only [opT, ho, g1, g3, e1, Option.map_some], e2, e3, e4, trivial, e5, e6, e7, e8⟩, hk⟩
   ·exact hk.elim
  ·exact hk.elim
 ·-- nilCheck
  rename_i x ho
  have go : ∀ {pe : PE X.Γ} {ev : EV}, evO ts.env x = some ev → PER X P (AA A m) m ts.heap pe ev → (match ev with | .loc _ _ => True | .val (.ptr _ _ _) => True | .val (.fn _ _ _) => True | _ => False) → (k pe ps pi0 an).Ends y → Went X P A m call site ts o k y := by
   intro pe ev h1 h2 h3 h4
   refine ⟨_, _, _, _, opR_pure hR ?_ h2, h4⟩
   cases ev with
   | loc a b => simp only [opT, ho, h1]
   | val v => cases v <;> simp at h3 <;> simp only [opT, ho, h1]
   | undef => simp at h3
  split at hk
  ·rename_i a b ha
   obtain ⟨ea, g1, g2⟩ := evO_VR hE ha
   have := per_loc g2; subst this
   exact go g1 g2 trivial hk
  ·rename_i a b c ha
   obtain ⟨ea, g1, g2⟩ := evO_VR hE ha
   obtain ⟨w, rfl, g3⟩ := per_val g2
   split at hk
   ·rename_i cs hb
    obtain ⟨mb, f1, f2⟩ := hR.heap.at_ a _ hb
    cases mb with
    | blk cb =>
     cases g3 with
     | ptr e => exact go g1 g2 trivial hk
     | gone hi e _ => simp only [idOf, Option.some.injEq] at hi; subst hi; rw [f1] at e; cases e
    | _ => exact f2.elim
   ·exact hk.elim
  ·rename_i a b c ha
   obtain ⟨ea, g1, g2⟩ := evO_VR hE ha
   obtain ⟨w, rfl, g3⟩ := per_val g2
   split at hk
   ·rename_i q1 q2 q3 q4 hb
    obtain ⟨mb, f1, f2⟩ := hR.heap.at_ a _ hb
    cases mb with
    | lst cb =>
     cases g3 with
     | row e => exact go g1 g2 trivial hk
     | gone hi e _ => simp only [idOf, Option.some.injEq] at hi; subst hi; rw [f1] at e; cases e
    | _ => exact f2.elim
   ·exact hk.elim
  ·rename_i a b c ha
   obtain ⟨ea, g1, g2⟩ := evO_VR hE ha
   obtain ⟨w, rfl, g3⟩ := per_val g2
   cases g3 with
   | el => exact go g1 g2 trivial hk
   | gone hi _ _ => simp [idOf] at hi
  ·rename_i a b c ha
   obtain ⟨ea, g1, g2⟩ := evO_VR hE ha
   obtain ⟨w, rfl, g3⟩ := per_val g2
   cases g3 with
   | fn => exact go g1 g2 trivial hk
   | gone hi _ _ => simp [idOf] at hi
  ·exact hk.elim
 ·-- binOp
  rename_i op t x z w0 ho
  split at hk
  ·rename_i a b ha hb
   obtain ⟨ta, g1, g2⟩ := vO_VR hE ha
   obtain ⟨tb, g3, g4⟩ := vO_VR hE hb
   split at hk
   ·split at hk
    ·rename_i v ps hd
     obtain ⟨hp, hk⟩ := owe_ends hk
     obtain ⟨w, e1, e2⟩ := div_ok (P := P) (t := t) (x := x) (z := z) g2 g4 hd hp
     exact went_val hR e2 (by simp only [opT, ho, g1, g3, e1, Option.map_some]) hk
    ·exact hk.elim
   split at hk
   ·rename_i v q hv
    obtain ⟨w, e1, e2⟩ := lstNil_ok (x := x) (y := z) hR.heap g2 g4 hv hk.1
    exact went_val hR e2 (by simp only [opT, ho, g1, g3, e1, Option.map_some]) hk.2
   split at hk
   ·split at hk
    ·rename_i w r
     split at hk
     ·rename_i v ua ub e1 e2 e3
      obtain ⟨hbin, hk⟩ := hk
      rw [← toT_eq g2 e2, ← toT_eq g4 e3] at hbin
      exact went_val hR (ofT_VR e1) (by simp only [opT, ho, g1, g3, hbin, Option.map_some]) hk
     ·exact hk.elim
    ·exact hk.elim
   ·split at hk
    ·rename_i v hv
     obtain ⟨w, e1, e2⟩ := bin_ok g2 g4 hv
     exact went_val hR e2 (by simp only [opT, ho, g1, g3, e1, Option.map_some]) hk
    ·exact hk.elim
  ·exact hk.elim
 ·-- unOp
  rename_i op t x ho
  split at hk
  ·rename_i a ha
   obtain ⟨ta, g1, g2⟩ := vO_VR hE ha
   split at hk
   ·rename_i v hv
    obtain ⟨w, e1, e2⟩ := un_ok g2 hv
    exact went_val hR e2 (by simp only [opT, ho, g1, e1, Option.map_some]) hk
   ·exact hk.elim
  ·exact hk.elim
 ·-- convert
  rename_i s d x ho
  split at hk
  ·rename_i a ha
   obtain ⟨ta, g1, g2⟩ := vO_VR hE ha
   split at hk
   ·split at hk
    ·rename_i w r
     split at hk
     ·rename_i v ua e1 e2
      obtain ⟨hbin, hk⟩ := hk
      rw [← toT_eq g2 e2] at hbin
      exact went_val hR (ofT_VR e1) (by simp only [opT, ho, g1, hbin, Option.map_some]) hk
     ·exact hk.elim
    ·exact hk.elim
   ·split at hk
    ·rename_i v hv
     obtain ⟨w, e1, e2⟩ := conv_ok g2 hv
     exact went_val hR e2 (by simp only [opT, ho, g1, e1, Option.map_some]) hk
    ·exact hk.elim
  ·exact hk.elim
 ·-- makeFunc
  rename_i f first cap ho
  split at hk
  ·rename_i a b ha hb
   obtain ⟨ta, g1, g2⟩ := vOs_VR hE ha
   obtain ⟨tb, g3, g4⟩ := vOs_VR hE hb
   exact went_val hR (.fn g2.1 g2.2 g4.1 g4.2) (by simp only [opT, ho, g1, g3]) hk
  ·exact hk.elim
 ·-- makeMap
  rename_i t r ho
  have hp := hR.heap.push (pb := .map []) (hb := .map []) (mb := .blk ts.heap.length) (.inl rfl) ⟨[], by simp, rfl, fun i a b ha => by simp at ha⟩
  have go : opT P call site ts o = some (.val (.map ts.heap.length), { ts with heap := ts.heap ++ [.map []] }, noInf) → ∀ {an : PT X.Γ}, (k (.val (.map ps.heap.length)) { ps with heap := ps.heap ++ [.map []] } pi0 an).Ends y → Went X P A m call site ts o k y := fun h1 an h2 =>
   ⟨.val (.map ps.heap.length), _, _, _, ⟨_, _, noInf, _, h1, rfl, rfl, hR.step hp.1 hp.2.1 hp.2.2, per_of (.map (by rw [← hR.heap.len]; simp)), hp.2.1, hp.2.2, .none, fun b hb => by cases hb⟩, h2⟩
  split at hk
  ·rename_i h1
   obtain ⟨w, g1, g2⟩ := vOpt_VR hE h1
   have := none_OR g2; subst this
   exact go (by simp only [opT, ho, g1]) hk
  ·rename_i k0 n0 kt vt h1 hu
   obtain ⟨w, g1, g2⟩ := vOpt_VR hE h1
   have := int_OR g2; subst this
   exact go (by simp only [opT, ho, g1, hu]) hk
  ·exact hk.elim
 ·-- makeSlice
  rename_i t l c ho
  split at hk
  ·rename_i vl vc hl hc
   obtain ⟨tl, g1, g2⟩ := vO_VR hE hl
   obtain ⟨tc, g3, g4⟩ := vO_VR hE hc
   split at hk
   ·rename_i v H1 qs hv
    obtain ⟨hq, hk⟩ := owe_ends hk
    refine went_mem hR (makeSlice_ok hX hR g2 g4 hv hq) ?_ hk
    simp only [opT, ho, g1, g3, Option.map_map]
    rfl
   ·exact hk.elim
  ·exact hk.elim
 ·-- slice
  rename_i t x lo hi mx ho
  split at hk
  ·rename_i px plo phi pmx hx hlo hhi hmx
   obtain ⟨ex, g1, g2⟩ := evO_VR hE hx
   obtain ⟨tlo, g3, g4⟩ := vOpt_VR hE hlo
   obtain ⟨thi, g5, g6⟩ := vOpt_VR hE hhi
   obtain ⟨tmx, g7, g8⟩ := vOpt_VR hE hmx
   split at hk
   ·rename_i n e hu
    split at hk
    ·split at hk
     ·rename_i v hv
      refine went_mem (H1 := ps.heap) hR (sliceArrW_ok hR g2 g4 g6 g8 hv) ?_ hk
      simp only [opT, ho, g1, g3, g5, g7, hu, Option.map_map]
      rfl
     ·exact hk.elim
    ·split at hk
     ·rename_i v H1 qs hv
      obtain ⟨hq, hk⟩ := owe_ends hk
      refine went_mem hR (sliceArr_ok hX hR g2 g4 g6 g8 hv hq) ?_ hk
      simp only [opT, ho, g1, g3, g5, g7, hu, Option.map_map]
      rfl
     ·exact hk.elim
   ·rename_i hnot
    have hop : ∀ {w : TV}, ex = .val w → opT P call site ts o = (sliceT P t w tlo thi tmx).map fun v => (.val v, ts, noInf) := by
     intro w e; subst e
     simp only [opT, ho, g1, g3, g5, g7]
    split at hk
    ·rename_i b
     obtain ⟨w, rfl, g9⟩ := per_val g2
     have : w = .str b := by
      cases g9 with
      | str => rfl
      | gone hi _ _ => simp [idOf] at hi
     subst this
     split at hk
     ·rename_i w r
      split at hk
      ·rename_i v tl th e1 e2 e3
       split at hk
       ·rename_i hnone
        obtain ⟨hs, hk⟩ := hk
        have h7 : tmx = none := by
         cases pmx with
         | none => exact none_OR g8
         | some _ => simp at hnone
        have h5 : tlo = tl := by
         cases plo with
         | none => simp at e2; rw [none_OR g4, e2]
         | some q =>
          obtain ⟨tq, rfl⟩ := some_OR g4
          simp only [Option.map_eq_some_iff] at e2
          obtain ⟨q1, q2, rfl⟩ := e2
          rw [toT_eq (show VR X P (AA A m) m ts.heap q tq from g4) q2]
        have h6 : thi = th := by
         cases phi with
         | none => simp at e3; rw [none_OR g6, e3]
         | some q =>
          obtain ⟨tq, rfl⟩ := some_OR g6
          simp only [Option.map_eq_some_iff] at e3
          obtain ⟨q1, q2, rfl⟩ := e3
          rw [toT_eq (show VR X P (AA A m) m ts.heap q tq from g6) q2]
        subst h5; subst h6; subst h7
        exact went_val hR (ofT_VR e1) (by rw [hop rfl, hs]; rfl) hk
       ·exact hk.elim
      ·exact hk.elim
     ·exact hk.elim
    ·rename_i px' hns
     obtain ⟨w, rfl, g9⟩ := per_val g2
     split at hk
     ·rename_i v qs hv
      obtain ⟨hq, hk⟩ := owe_ends hk
      obtain ⟨w', e1, e2⟩ := slice_ok hR g9 g4 g6 g8 hv hq
      exact went_val hR e2 (by rw [hop rfl, e1]; rfl) hk
     ·exact hk.elim
    ·exact hk.elim
  ·exact hk.elim
 ·-- fieldAddr
  rename_i t x f ho
  split at hk
  ·rename_i pa n ha hn
   obtain ⟨ea, g1, g2⟩ := evO_VR hE ha
   split at hk
   ·rename_i v hv
    obtain ⟨eb, g3, g4⟩ := off_ok hR g2 hv
    exact ⟨_, _, _, _, opR_pure hR (by simp only [opT, ho, g1, hn, g3, Option.map_some]) g4, hk⟩
   ·exact hk.elim
  ·exact hk.elim
 ·-- field
  rename_i t x f ho
  split at hk
  ·rename_i a ha
   obtain ⟨ta, g1, g2⟩ := vO_VR hE ha
   split at hk
   ·rename_i v hv
    obtain ⟨w, e1, e2⟩ := field_ok g2 hv
    exact went_val hR e2 (by simp only [opT, ho, g1, e1, Option.map_some]) hk
   ·exact hk.elim
  ·exact hk.elim
 ·-- indexAddr
  rename_i t x i ho
  split at hk
  ·rename_i pa vi ha hi
   obtain ⟨ea, g1, g2⟩ := evO_VR hE ha
   obtain ⟨ti, g3, g4⟩ := vO_VR hE hi
   split at hk
   ·rename_i v qs hv
    obtain ⟨hq, hk⟩ := owe_ends hk
    obtain ⟨eb, g5, g6⟩ := indexAddr_ok hR g2 g4 hv hq
    exact ⟨_, _, _, _, opR_pure hR (by simp only [opT, ho, g1, g3, g5, Option.map_some]) g6, hk⟩
   ·exact hk.elim
  ·exact hk.elim
 ·-- index
  rename_i t x i ho
  split at hk
  ·rename_i a vi ha hi
   obtain ⟨ta, g1, g2⟩ := vO_VR hE ha
   obtain ⟨ti, g3, g4⟩ := vO_VR hE hi
   split at hk
   ·split at hk
    ·rename_i w r
     split at hk
     ·rename_i v ua ui e1 e2 e3
      obtain ⟨hbin, hk⟩ := hk
      rw [← toT_eq g2 e2, ← toT_eq g4 e3] at hbin
      exact went_val hR (ofT_VR e1) (by simp only [opT, ho, g1, g3, hbin, Option.map_some]) hk
     ·exact hk.elim
    ·exact hk.elim
   ·split at hk
    ·rename_i v hv
     obtain ⟨w, e1, e2⟩ := index_ok g2 g4 hv
     exact went_val hR e2 (by simp only [opT, ho, g1, g3, e1, Option.map_some]) hk
    ·exact hk.elim
  ·exact hk.elim
 ·-- lookup
  rename_i t mm i ok ho
  split at hk
  ·rename_i vm vi hm hi
   obtain ⟨tm, g1, g2⟩ := vO_VR hE hm
   obtain ⟨ti, g3, g4⟩ := vO_VR hE hi
   obtain ⟨v, pi, an', w, e1, e2, e3, e4⟩ := look_ok hR g2 g4 hk
   refine ⟨.val v, _, _, _, ⟨.val w, ts, _, m, ?_, rfl, rfl, hR, e2, .refl, .refl, e4, fun b hb => by cases hb⟩, e3⟩
   simp only [opT, ho, g1, g3, e1, Option.map_some]
   cases tm <;> rfl
  ·exact hk.elim
 ·-- mapUpdate
  rename_i t mm i x ho
  split at hk
  ·rename_i vm vi vx hm hi hx
   obtain ⟨tm, g1, g2⟩ := vO_VR hE hm
   obtain ⟨ti, g3, g4⟩ := vO_VR hE hi
   obtain ⟨tx, g5, g6⟩ := vO_VR hE hx
   obtain ⟨ps1, pi, an', h1, tinf, e1, e2, e3, e4, e5, e6⟩ := upd_ok hR g2 g4 g6 hk
   exact ⟨.undef, _, _, _, ⟨.undef, { ts with heap := h1 }, tinf, m, by simp only [opT, ho, g1, g3, g5, e1, Option.map_some], rfl, rfl, e2, trivial, e3, .refl, e5, e6⟩, e4⟩
  ·exact hk.elim
 ·-- insert
  rename_i t mm i x ho
  split at hk
  ·rename_i vm vi vx hm hi hx
   obtain ⟨tm, g1, g2⟩ := vO_VR hE hm
   obtain ⟨ti, g3, g4⟩ := vO_VR hE hi
   obtain ⟨tx, g5, g6⟩ := vO_VR hE hx
   obtain ⟨ps1, pi, an', h1, tinf, e1, e2, e3, e4, e5, e6⟩ := upd_ok hR g2 g4 g6 hk
   exact ⟨.undef, _, _, _, ⟨.undef, { ts with heap := h1 }, tinf, m, by simp only [opT, ho, g1, g3, g5, e1, Option.map_some], rfl, rfl, e2, trivial, e3, .refl, e5, e6⟩, e4⟩
  ·exact hk.elim
 ·-- extract
  rename_i t i ho
  split at hk
  ·rename_i vs hv
   obtain ⟨w, g1, g2⟩ := vO_VR hE hv
   split at hk
   ·rename_i v hvi
    cases g2 with
    | tup h1 h2 =>
     obtain ⟨x, e1, e2⟩ := VRs.get ⟨h1, h2⟩ hvi
     exact went_val hR e2 (by simp only [opT, ho, g1, e1, Option.map_some]) hk
    | gone hi _ _ => simp [idOf] at hi
   ·exact hk.elim
  ·exact hk.elim
 ·-- call
  rename_i c ho
  split at hk
  ·rename_i az has
   obtain ⟨tas, g1, g2⟩ := vOs_VR hE has
   have hcall : ∀ {b : Builtin}, c.callee = .builtin b → ∀ {r : Option (TV × St × Inf)}, builtinT P b c.argTypes o.type ts tas = r → opT P call site ts o = r.map fun (v, s, i) => (.val v, s, i) := by
    intro b hb r hr
    simp only [opT, ho, callT, hb, g1, hr]
   split at hk
   ·rename_i hb
    split at hk
    ·rename_i x
     obtain ⟨tx, r, rfl, q1, q2⟩ := g2.inv
     have := q2.inv0; subst this
     split at hk
     ·rename_i v i hv
      obtain ⟨w, ti, e1, e2, e3, e4⟩ := len_ok hR.heap q1 hv
      exact ⟨.val v, _, _, _, ⟨.val w, ts, ti, m, by rw [hcall hb (r := some (w, ts, ti)) (by simp only [builtinT, e1, Option.map_some])]; rfl, rfl, rfl, hR, per_of e2, .refl, .refl, e3, fun b hb => by rw [e4] at hb; cases hb⟩, hk⟩
     ·exact hk.elim
    ·exact hk.elim
   ·rename_i hb
    split at hk
    ·rename_i d x
     obtain ⟨td, r, rfl, q1, q2⟩ := g2.inv
     obtain ⟨tx, r, rfl, q3, q4⟩ := q2.inv
     have := q4.inv0; subst this
     split at hk
     ·rename_i v H1 i qs hv
      obtain ⟨hq, hk⟩ := owe_ends hk
      exact went_mem hR (append_ok hX hR q1 q3 hv hq) (hcall hb rfl) hk
     ·exact hk.elim
    ·exact hk.elim
   ·rename_i hb
    split at hk
    ·rename_i d x
     obtain ⟨td, r, rfl, q1, q2⟩ := g2.inv
     obtain ⟨tx, r, rfl, q3, q4⟩ := q2.inv
     have := q4.inv0; subst this
     split at hk
     ·rename_i v H1 i hv
      exact went_mem hR (copy_ok hX hR q1 q3 hv) (hcall hb rfl) hk
     ·exact hk.elim
    ·exact hk.elim
   ·rename_i hb
    split at hk
    ·rename_i v hv
     obtain ⟨w, e1, e2⟩ := minMax_ok g2 hv
     refine went_val hR e2 ?_ hk
     rw [hcall hb (r := some (w, ts, noInf)) (by simp only [builtinT, e1, Option.map_some])]; rfl
    ·exact hk.elim
   ·rename_i hb
    split at hk
    ·rename_i v hv
     obtain ⟨w, e1, e2⟩ := minMax_ok g2 hv
     refine went_val hR e2 ?_ hk
     rw [hcall hb (r := some (w, ts, noInf)) (by simp only [builtinT, e1, Option.map_some])]; rfl
    ·exact hk.elim
   ·rename_i f hb
    split at hk
    ·rename_i fv hfv
     obtain ⟨tf, f1, f2⟩ := vO_VR hE hfv
     have hop : ∀ {w : TV} {h1 : List HB} {ws : List Nat}, call tf tas ts.heap = some (w, h1, ws) → opT P call site ts o = some (.val w, { ts with heap := h1 }, ⟨true, [], ws.map .h⟩) := by
      intro w h1 ws hc
      simp only [opT, ho, callT, hb, g1, f1, hc]
     unfold pcallK at hk
     split at hk
     ·rename_i v H1 r
      obtain ⟨hs, hk⟩ := hk
      obtain ⟨w, h1, ws, m1, c1, c2, c3, c4, c5, c6⟩ := hs A m ts.heap tf tas hR.heap f2 g2
      refine ⟨.val v, _, _, _, ⟨.val w, _, _, m1, hop c1, rfl, rfl, hR.step c2 c4 c5, per_of c3, c4, c5, ⟨fun _ => rfl, fun k hk => (by cases hk), fun k hk => ?_, fun b hb => ?_, fun b hb => (by cases hb), fun h => (by cases h)⟩, fun b hb => ?_⟩, hk⟩
      ·simp at hk
      ·simp at hb; exact .inr ⟨rfl, c6 b hb⟩
      ·simp at hb; exact c6 b hb
     ·split at hk
      ·rename_i Hp hnd hp
       split at hk
       ·rename_i Hs fv1 xs1 hHs hfv1 hxs1
        split at hk
        ·rename_i v1 H1r hv1 hH1r
         obtain ⟨hs, hk⟩ := hk
         obtain ⟨w, h1, ws, m1, c1, c2, c3, c4, c5, c6⟩ := frame_use hX hs (of_decide_eq_true hnd) hp hHs hfv1 hxs1 hv1 hH1r A m ts.heap tf tas hR.heap f2 g2
         refine ⟨.val v1, _, _, _, ⟨.val w, _, _, m1, hop c1, rfl, rfl, hR.step c2 c4 c5, per_of c3, c4, c5, ⟨fun _ => rfl, fun k hk => (by cases hk), fun k hk => ?_, fun b hb => ?_, fun b hb => (by cases hb), fun h => (by cases h)⟩, fun b hb => ?_⟩, hk⟩
         ·simp at hk
         ·simp at hb
          obtain ⟨k, h8, h9⟩ := c6 b hb
          exact .inl ⟨k, List.mem_map.2 ⟨k, h8, rfl⟩, h9⟩
         ·simp at hb
          obtain ⟨k, _, mb, h8, h9⟩ := c6 b hb
          exact own_mem h8 h9
        ·exact hk.elim
       ·exact hk.elim
      ·exact hk.elim
     ·split at hk
      ·rename_i g first cap _
       cases f2 with
       | gone hi _ _ => simp [idOf] at hi
       | fn p1 p2 p3 p4 =>
        split at hk
        ·rename_i vs hvs
         split at hk
         ·rename_i v ext qs horc
          split at hk
          ·rename_i ext' hext
           obtain ⟨hq, hk⟩ := owe_ends hk
           obtain ⟨w, h1, m1, c1, c2, c3, c4, c5⟩ := con_use hX (hO _ _ _ _ _ horc hq) hR.heap hvs hext ⟨p1, p2⟩ g2 ⟨p3, p4⟩
           refine ⟨.val (shift ps.heap.length v), _, _, _, ⟨.val w, _, _, m1, hop c1, rfl, rfl, hR.step c2 c4 c5, per_of c3, c4, c5, ⟨fun _ => rfl, fun k hk => (by cases hk), fun k hk => (by simp at hk), fun b hb => (by simp at hb), fun b hb => (by cases hb), fun h => (by cases h)⟩, fun b hb => (by simp at hb)⟩, hk⟩
          ·exact hk.elim
         ·exact hk.elim
        ·exact hk.elim
      ·exact hk.elim
    ·exact hk.elim
   ·exact hk.elim
  ·exact hk.elim
 ·exact hk.elim
end
end Pv
namespace Pv
open Go Tw
inductive IRs : List MB → List HB → List PI → List Inf → Prop where
 | nil {m h} : IRs m h [] []
 | cons {m h p t m1 h1 ps ts} : (blks m).Nodup → (∀ b, b ∈ blks m → b < h.length) → IR m h p t → Fr m h m1 h1 → Up m m1 → (p.mv = false → ∀ (i : Nat), i < m.length → m1[i]? = some .gone → m[i]? = some .gone) → IRs m1 h1 ps ts → IRs m h (p :: ps) (t :: ts)
theorem addW_mem {fl b c : Nat} {ws : List Nat} (h : c ∈ addW fl b ws) : c ∈ ws ∨ (c = b ∧ b < fl) := by
 unfold addW at h
 split at h
 ·rename_i hl
  split at h
  ·exact .inl h
  ·rcases List.mem_cons.1 h with h | h
   ·exact .inr ⟨h, hl⟩
   ·exact .inl h
 ·exact .inl h
theorem addKs_mem {fl c : Nat} : ∀ {ks : List Key} {ws : List Nat}, c ∈ addKs fl ks ws → c ∈ ws ∨ (.h c ∈ ks ∧ c < fl)
 | [], ws, h => .inl h
 | .h b :: ks, ws, h => by
  rcases addKs_mem (ks := ks) h with h | ⟨h1, h2⟩
  ·rcases addW_mem h with h | ⟨rfl, h⟩
   ·exact .inl h
   ·exact .inr ⟨List.mem_cons_self, h⟩
  ·exact .inr ⟨List.mem_cons_of_mem _ h1, h2⟩
 | .l _ :: ks, ws, h => by
  rcases addKs_mem (ks := ks) h with h | ⟨h1, h2⟩
  ·exact .inl h
  ·exact .inr ⟨List.mem_cons_of_mem _ h1, h2⟩
theorem own_keep {m m1 : List MB} (hU : Up m m1) (hg : ∀ (i : Nat), i < m.length → m1[i]? = some .gone → m[i]? = some .gone) {i b : Nat} (h : Own m i b) : Own m1 i b := by
 obtain ⟨mb, h1, h2⟩ := h
 rcases hU i mb h1 with e | e
 ·exact ⟨mb, e, h2⟩
 ·have := hg i (List.getElem?_eq_some_iff.1 h1).1 e
  rw [h1] at this; cases this; cases h2
theorem own_uniq {m : List MB} (hn : (blks m).Nodup) {i j b : Nat} (h1 : Own m i b) (h2 : Own m j b) : i = j := by
 obtain ⟨_, a1, a2⟩ := h1
 obtain ⟨_, b1, b2⟩ := h2
 exact own_inj hn a1 b1 a2 b2
theorem calm_ok {ma mb : List MB} {ha hb : List HB} {pa pb : PI} {ta tb : Inf} (na : (blks ma).Nodup) (nb : (blks mb).Nodup) (la : ∀ b, b ∈ blks ma → b < ha.length) (hab : Fr ma ha mb hb) (A : IR ma ha pa ta) (B : IR mb hb pb tb) (hc : pcalm pa pb = true)
  (hmv : (∀ i b, Own ma i b → Own mb i b) ∨ pa.hp = false ∨ pb.hp = false) : calm ta tb = true := by
 simp only [pcalm, Bool.and_eq_true] at hc
 obtain ⟨c1, c2⟩ := hc
 simp only [pcalm1, Bool.and_eq_true, List.all_eq_true, Bool.not_eq_true', Bool.or_eq_true] at c1 c2
 obtain ⟨c1, c1w⟩ := c1
 obtain ⟨c2, c2w⟩ := c2
 simp only [calm, Bool.and_eq_true]
 constructor
 ·simp only [calm1, List.all_eq_true, Bool.and_eq_true, Bool.not_eq_true', Bool.and_eq_false_iff]
  intro k hk
  cases k with
  | l j =>
   have := c1 _ (A.wl j hk)
   simp only [List.contains_eq_mem, decide_eq_false_iff_not] at this ⊢
   exact ⟨⟨.inr rfl, fun h => this.1.1.2 (B.tl j h)⟩, fun h => this.1.2 (B.wl j h)⟩
  | h c =>
   rcases hmv with hkeep | hmv | hmv
   ·-- nothing is given up
    have hca : c ∈ blks ma := by
     rcases A.wh c hk with ⟨i, _, h2⟩ | ⟨_, h2⟩
     ·exact own_in h2
     ·exact h2
    obtain ⟨i0, hi0⟩ := blks_own hca
    have hi1 := hkeep _ _ hi0
    have hcb : c ∈ blks mb := own_in hi1
    rcases A.wh c hk with ⟨i, h1, h2⟩ | ⟨h1, h2⟩
    ·have hii := own_uniq na hi0 h2; subst hii
     have hcc := c1 _ h1
     simp only [List.contains_eq_mem, decide_eq_false_iff_not, Key.isH, Bool.and_true] at hcc
     refine ⟨⟨.inl ?_, ?_⟩, ?_⟩
     ·cases hq : tb.all with
      | false => rfl
      | true => rw [B.all hq] at hcc; simp at hcc
     ·simp only [List.contains_eq_mem, decide_eq_false_iff_not]
      intro hq
      rcases (B.th c hq).1 with ⟨j, g1, g2⟩ | g1
      ·have := own_uniq nb hi1 g2; subst this
       exact hcc.1.1.2 g1
      ·exact g1 hcb
     ·simp only [List.contains_eq_mem, decide_eq_false_iff_not]
      intro hq
      rcases B.wh c hq with ⟨j, g1, g2⟩ | ⟨g1, g2⟩
      ·have := own_uniq nb hi1 g2; subst this
       exact hcc.1.2 g1
      ·rw [g1] at hcc; simp at hcc
    ·rw [h1] at c1w
     simp only [Bool.true_eq_false, false_or] at c1w
     obtain ⟨⟨⟨w1, w2⟩, w3⟩, w4⟩ := c1w
     refine ⟨⟨.inl ?_, ?_⟩, ?_⟩
     ·cases hq : tb.all with
      | false => rfl
      | true => rw [B.all hq] at w1; cases w1
     ·simp only [List.contains_eq_mem, decide_eq_false_iff_not]
      intro hq
      rcases (B.th c hq).1 with ⟨j, g1, g2⟩ | g1
      ·have := w3 _ g1; simp [Key.isH] at this
      ·exact g1 hcb
     ·simp only [List.contains_eq_mem, decide_eq_false_iff_not]
      intro hq
      rcases B.wh c hq with ⟨j, g1, g2⟩ | ⟨g1, g2⟩
      ·have := w4 _ g1; simp [Key.isH] at this
      ·rw [g1] at w2; cases w2
   ·exact absurd hk ((A.hp hmv).2.2 c)
   ·obtain ⟨g1, g2, g3⟩ := B.hp hmv
    refine ⟨⟨.inl g1, ?_⟩, ?_⟩ <;> simp only [List.contains_eq_mem, decide_eq_false_iff_not]
    ·exact g2 c
    ·exact g3 c
 ·simp only [calm1, List.all_eq_true, Bool.and_eq_true, Bool.not_eq_true', Bool.and_eq_false_iff]
  intro k hk
  cases k with
  | l j =>
   have := c2 _ (B.wl j hk)
   simp only [List.contains_eq_mem, decide_eq_false_iff_not] at this ⊢
   exact ⟨⟨.inr rfl, fun h => this.1.1.2 (A.tl j h)⟩, fun h => this.1.2 (A.wl j h)⟩
  | h c =>
   rcases hmv with hkeep | hmv | hmv
   ·have hcb : c ∈ blks mb := by
     rcases B.wh c hk with ⟨i, _, h2⟩ | ⟨_, h2⟩
     ·exact own_in h2
     ·exact h2
    obtain ⟨j0, hj0⟩ := blks_own hcb
    have back : c < ha.length → c ∈ blks ma := fun hlt => by
     rcases hab.new c hcb with h1 | h1
     ·exact h1
     ·omega
    have own' : ∀ i, Own ma i c → i = j0 := fun i hi => own_uniq nb (hkeep _ _ hi) hj0
    rcases B.wh c hk with ⟨j, h1, h2⟩ | ⟨h1, h2⟩
    ·have hii := own_uniq nb hj0 h2; subst hii
     have hcc := c2 _ h1
     simp only [List.contains_eq_mem, decide_eq_false_iff_not, Key.isH, Bool.and_true] at hcc
     refine ⟨⟨.inl ?_, ?_⟩, ?_⟩
     ·cases hq : ta.all with
      | false => rfl
      | true => rw [A.all hq] at hcc; simp at hcc
     ·simp only [List.contains_eq_mem, decide_eq_false_iff_not]
      intro hq
      obtain ⟨g0, glt⟩ := A.th c hq
      rcases g0 with ⟨i, g1, g2⟩ | g1
      ·have := own' i g2; subst this
       exact hcc.1.1.2 g1
      ·exact g1 (back glt)
     ·simp only [List.contains_eq_mem, decide_eq_false_iff_not]
      intro hq
      rcases A.wh c hq with ⟨i, g1, g2⟩ | ⟨g1, g2⟩
      ·have := own' i g2; subst this
       exact hcc.1.2 g1
      ·rw [g1] at hcc; simp at hcc
    ·rw [h1] at c2w
     simp only [Bool.true_eq_false, false_or] at c2w
     obtain ⟨⟨⟨w1, w2⟩, w3⟩, w4⟩ := c2w
     refine ⟨⟨.inl ?_, ?_⟩, ?_⟩
     ·cases hq : ta.all with
      | false => rfl
      | true => rw [A.all hq] at w1; cases w1
     ·simp only [List.contains_eq_mem, decide_eq_false_iff_not]
      intro hq
      obtain ⟨g0, glt⟩ := A.th c hq
      rcases g0 with ⟨i, g1, g2⟩ | g1
      ·have := w3 _ g1; simp [Key.isH] at this
      ·exact g1 (back glt)
     ·simp only [List.contains_eq_mem, decide_eq_false_iff_not]
      intro hq
      rcases A.wh c hq with ⟨i, g1, g2⟩ | ⟨g1, g2⟩
      ·have := w4 _ g1; simp [Key.isH] at this
      ·rw [g1] at w2; cases w2
   ·obtain ⟨g1, g2, g3⟩ := A.hp hmv
    refine ⟨⟨.inl g1, ?_⟩, ?_⟩ <;> simp only [List.contains_eq_mem, decide_eq_false_iff_not]
    ·exact g2 c
    ·exact g3 c
   ·exact absurd hk ((B.hp hmv).2.2 c)
theorem irs_at : ∀ {ps : List PI} {ts : List Inf} {m : List MB} {h : List HB}, IRs m h ps ts → ∀ {j : Nat} {p : PI}, ps[j]? = some p → ∃ t mj hj, ts[j]? = some t ∧ IR mj hj p t ∧ (blks mj).Nodup ∧ (∀ b, b ∈ blks mj → b < hj.length) ∧ Fr m h mj hj ∧ ((∀ (i : Nat) q, i < j → ps[i]? = some q → q.mv = false) → ∀ i b, Own m i b → Own mj i b)
 | _, _, _, _, .nil, j, p, hj => by simp at hj
 | _, _, m, h, .cons n1 n2 i1 f1 u1 g1 rest, j, p, hj => by
  cases j with
  | zero =>
   simp only [List.getElem?_cons_zero, Option.some.injEq] at hj; subst hj
   exact ⟨_, m, h, rfl, i1, n1, n2, .refl, fun _ i b hb => hb⟩
  | succ j =>
   obtain ⟨t, mj, hj', e1, e2, e3, e4, e5, e6⟩ := irs_at rest (j := j) (by simpa using hj)
   refine ⟨t, mj, hj', by simpa using e1, e2, e3, e4, f1.trans e5, fun hq i b hb => e6 (fun i q hl hi => hq (i + 1) q (by omega) (by simpa using hi)) i b ?_⟩
   exact own_keep u1 (g1 (hq 0 _ (by omega) rfl)) hb
theorem irs_two : ∀ {ps : List PI} {ts : List Inf} {m : List MB} {h : List HB}, IRs m h ps ts → ∀ {i j : Nat} {p q : PI}, i < j → ps[i]? = some p → ps[j]? = some q → pcalm p q = true → ((∀ (k : Nat) q, i ≤ k → k < j → ps[k]? = some q → q.mv = false) ∨ p.hp = false ∨ q.hp = false) → ∃ a b, ts[i]? = some a ∧ ts[j]? = some b ∧ calm a b = true
 | _, _, _, _, .nil, i, j, p, q, _, hi, _, _, _ => by simp at hi
 | _, _, m, h, .cons n1 n2 i1 f1 u1 g1 rest, i, j, p, q, hij, hi, hj, hc, hmv => by
  cases j with
  | zero => omega
  | succ j =>
   cases i with
   | zero =>
    simp only [List.getElem?_cons_zero, Option.some.injEq] at hi; subst hi
    obtain ⟨t, mj, hj', e1, e2, e3, e4, e5, e6⟩ := irs_at rest (j := j) (by simpa using hj)
    refine ⟨_, t, rfl, by simpa using e1, calm_ok n1 e3 n2 (f1.trans e5) i1 e2 hc ?_⟩
    refine hmv.imp_left fun hq i b hb => e6 (fun i q hl hi => hq (i + 1) q (by omega) (by omega) (by simpa using hi)) i b (own_keep u1 (g1 (hq 0 _ (by omega) (by omega) rfl)) hb)
   | succ i =>
    obtain ⟨a, b, e1, e2, e3⟩ := irs_two rest (i := i) (j := j) (by omega) (by simpa using hi) (by simpa using hj) hc (hmv.imp_left fun hq k q h1 h2 hi => hq (k + 1) q (by omega) (by omega) (by simpa using hi))
    exact ⟨a, b, by simpa using e1, by simpa using e2, e3⟩
theorem dyn_ok {ps : List PI} {ts : List Inf} {m : List MB} {h : List HB} (hI : IRs m h ps ts) : ∀ {prs : List (Nat × Nat)}, (∀ q ∈ prs, q.1 < q.2) → pdynOk ps prs = true → dynOk ts prs = true
 | [], _, _ => rfl
 | (i, j) :: r, hlt, hd => by
  simp only [pdynOk, Bool.and_eq_true] at hd
  obtain ⟨h1, h2⟩ := hd
  split at h1
  ·rename_i a b ha hb
   simp only [Bool.and_eq_true, Bool.or_eq_true, Bool.not_eq_true'] at h1
   obtain ⟨x, y, e1, e2, e3⟩ := irs_two hI (hlt _ List.mem_cons_self) ha hb h1.1 (by
    rcases h1.2 with (h3 | h3) | h3
    ·exact .inr (.inl h3)
    ·exact .inr (.inr h3)
    ·left
     intro k q hk1 hk2 hk
     cases hq : q.mv with
     | false => rfl
     | true =>
      refine absurd (List.any_eq_true.2 ⟨q, List.mem_of_getElem? (i := k - i) ?_, hq⟩) (by rw [h3]; simp)
      rw [List.getElem?_take, if_pos (by omega), List.getElem?_drop, ← hk]; congr 1; omega)
   simp only [dynOk, e1, e2, e3, Bool.true_and]
   exact dyn_ok hI (fun q hq => hlt q (List.mem_cons_of_mem _ hq)) h2
  ·cases h1
theorem hot_lt {ops : List Oper} : ∀ q ∈ hotPairs ops, q.1 < q.2 := by
 intro q hq
 unfold hotPairs at hq
 have := (List.mem_filter.1 hq).1
 unfold openPairs at this
 simp only [List.mem_flatMap, List.mem_map, List.mem_filter, List.mem_range] at this
 obtain ⟨j, _, i, ⟨hi, _⟩, rfl⟩ := this
 exact hi
theorem calm_none {ts : List Inf} (hw : ∀ t ∈ ts, t.ws = []) : ∀ {prs : List (Nat × Nat)}, (∀ q ∈ prs, q.1 < ts.length ∧ q.2 < ts.length) → dynOk ts prs = true
 | [], _ => rfl
 | (i, j) :: r, hl => by
  obtain ⟨h1, h2⟩ := hl _ List.mem_cons_self
  simp only [dynOk, List.getElem?_eq_getElem h1, List.getElem?_eq_getElem h2, Bool.and_eq_true]
  refine ⟨?_, calm_none hw fun q hq => hl q (List.mem_cons_of_mem _ hq)⟩
  simp [calm, calm1, hw _ (List.getElem_mem h1), hw _ (List.getElem_mem h2)]
theorem hot_in {ops : List Oper} : ∀ q ∈ hotPairs ops, q.1 < ops.length ∧ q.2 < ops.length := by
 intro q hq
 unfold hotPairs at hq
 have := (List.mem_filter.1 hq).1
 unfold openPairs at this
 simp only [List.mem_flatMap, List.mem_map, List.mem_filter, List.mem_range] at this
 obtain ⟨j, hj, i, ⟨hi, _⟩, rfl⟩ := this
 exact ⟨by simp only; omega, hj⟩
end Pv
namespace Pv
open Go Tw
section
variable {X : Cod} {P : Program} {A W : Nat → Prop} {m m' : List MB} {h : List HB}
structure SR (X : Cod) (P : Program) (A W : Nat → Prop) (fl : Nat) (m : List MB) (ps : PSt X.Γ) (ts : St) : Prop where
 st : StR X P A m ps ts
 own : ∀ b, b ∈ blks m → W b ∨ fl ≤ b
 ws : ∀ b, b ∈ ts.ws → W b
 fl : fl ≤ ts.heap.length
def UpB (B : Nat) (m m1 : List MB) : Prop := ∀ (i : Nat) mb, i < B → m[i]? = some mb → m1[i]? = some mb ∨ m1[i]? = some .gone
theorem Up.b {B : Nat} {m m1 : List MB} (h : Up m m1) : UpB B m m1 := fun i mb _ hi => h i mb hi
theorem UpB.trans {B : Nat} {m m1 m2 : List MB} (a : UpB B m m1) (b : UpB B m1 m2) : UpB B m m2 := fun i mb hB hi => by
 rcases a i mb hB hi with h | h
 ·exact b i mb hB h
 ·rcases b i _ hB h with h | h <;> exact .inr h
theorem UpB.refl {B : Nat} {m : List MB} : UpB B m m := fun _ _ _ h => .inl h
def Weaker (X : Cod) (P : Program) (B : Nat) (ps ps1 : PSt X.Γ) : Prop :=
 ∀ (A W : Nat → Prop) (fl : Nat) (m : List MB) (ts : St), SR X P A W fl m ps ts → ∃ m1, SR X P A W fl m1 ps1 ts ∧ Fr m ts.heap m1 ts.heap ∧ UpB B m m1
theorem Weaker.refl {B : Nat} {ps : PSt X.Γ} : Weaker X P B ps ps := fun _ _ _ m _ hS => ⟨m, hS, .refl, .refl⟩
theorem Weaker.trans {B : Nat} {a b c : PSt X.Γ} (h1 : Weaker X P B a b) (h2 : Weaker X P B b c) : Weaker X P B a c := fun A W fl m ts hS => by
 obtain ⟨m1, g1, g2, g3⟩ := h1 A W fl m ts hS
 obtain ⟨m2, g4, g5, g6⟩ := h2 A W fl m1 ts g1
 exact ⟨m2, g4, g2.trans g5, g3.trans g6⟩
theorem litE_VR {env : List (Nat × PE X.Γ)} {env' : List (Nat × EV)} (he : EnvR X P A m h env env') : EnvR X P A m h (litE env) env' := by
 induction he with
 | nil => exact .nil
 | cons h1 _ ih =>
  rename_i k v x r r' _
  cases v with
  | val v => obtain ⟨y, rfl, h2⟩ := per_val h1; exact .cons (per_of (unlit_VR h2)) ih
  | loc => exact .cons h1 ih
  | undef => exact .cons h1 ih
theorem nilE_VR {t i : Nat} (hi : m[i]? = some (.lst (.nil .slc))) : ∀ {env : List (Nat × PE X.Γ)} {env' : List (Nat × EV)} {r : List (Nat × PE X.Γ)}, EnvR X P A m h env env' → nilE t i env = some r → EnvR X P A m h r env' := by
 intro env env' r he
 induction he generalizing r with
 | nil => intro h; cases h
 | cons h1 h2 ih =>
  rename_i k v x q q'
  intro hn
  simp only [nilE] at hn
  split at hn
  ·split at hn
   ·cases hn
    obtain ⟨y, rfl, h3⟩ := per_val h1
    have : y = .nil .slc := by
     cases h3 with
     | nil => rfl
     | gone hi _ _ => simp [idOf] at hi
    subst this
    exact .cons (per_of (.own hi rfl)) h2
   ·cases hn
  ·simp only [Option.map_eq_some_iff] at hn
   obtain ⟨q2, h3, rfl⟩ := hn
   exact .cons h1 (ih h3)
theorem nilC_VR {i off : Nat} (hi : m[i]? = some (.lst (.nil .slc))) {cs r : List (PV X.Γ)} {xs : List TV} (hv : VRs X P A m h cs xs) (hn : nilC off i cs = some r) : VRs X P A m h r xs := by
 unfold nilC at hn
 split at hn
 ·rename_i hc
  cases hn
  refine ⟨by rw [List.length_set, hv.1], fun j a b ha hb => ?_⟩
  by_cases e : off = j
  ·subst e
   rw [List.getElem?_set_self', hc] at ha
   cases ha
   have : b = .nil .slc := by
    cases hv.2 _ _ _ hc hb with
    | nil => rfl
    | gone hi _ _ => simp [idOf] at hi
   subst this
   exact .own hi rfl
  ·rw [List.getElem?_set_ne e] at ha
   exact hv.2 j a b ha hb
 ·cases hn
theorem SR.pushNil {fl : Nat} {ps : PSt X.Γ} {ts : St} (hS : SR X P A W fl m ps ts) (e : Nat) : ∃ m1, HR X P A m1 (ps.heap ++ [.list false false e []]) ts.heap ∧ Fr m ts.heap m1 ts.heap ∧ Up m m1 ∧ m1[ps.heap.length]? = some (.lst (.nil .slc)) ∧ (∀ b, b ∈ blks m1 → b ∈ blks m) := by
 obtain ⟨h1, h2, h3⟩ := hS.st.heap.pushE (pb := .list false false e []) (mb := .lst (.nil .slc)) rfl LR.nil
 refine ⟨_, h1, h2, h3, by rw [← hS.st.heap.len]; simp, fun b hb => ?_⟩
 rw [blks_app, List.mem_append, blks_one] at hb
 simpa [MB.own] using hb
theorem gstep_ok (hX : CodOk X P) {B : Nat} {g : G} {ps ps1 : PSt X.Γ} (hg : gstep B ps g = some ps1) : Weaker X P B ps ps1 := by
 intro A W fl m ts hS
 cases g with
 | lit =>
  simp only [gstep, Option.some.injEq] at hg; subst hg
  exact ⟨m, ⟨⟨hS.st.heap, hS.st.llen, hS.st.loc, litE_VR hS.st.env⟩, hS.own, hS.ws, hS.fl⟩, .refl, .refl⟩
 | nilE t e =>
  simp only [gstep, Option.map_eq_some_iff] at hg
  obtain ⟨env, h1, rfl⟩ := hg
  obtain ⟨m1, e1, e2, e3, e4, e5⟩ := hS.pushNil e
  exact ⟨m1, ⟨⟨e1, hS.st.llen, fun k cs hk => let ⟨cs', q1, q2⟩ := hS.st.loc k cs hk; ⟨cs', q1, q2.step e2 e3⟩, nilE_VR e4 (hS.st.env.step e2 e3) h1⟩, fun b hb => hS.own b (e5 b hb), hS.ws, hS.fl⟩, e2, e3.b⟩
 | nilL k off e =>
  simp only [gstep] at hg
  split at hg
  ·rename_i cs hk
   simp only [Option.map_eq_some_iff] at hg
   obtain ⟨cs1, h1, rfl⟩ := hg
   obtain ⟨m1, e1, e2, e3, e4, e5⟩ := hS.pushNil e
   refine ⟨m1, ⟨⟨e1, by simp [hS.st.llen], fun j ds hj => ?_, hS.st.env.step e2 e3⟩, fun b hb => hS.own b (e5 b hb), hS.ws, hS.fl⟩, e2, e3.b⟩
   by_cases e0 : k = j
   ·subst e0
    rw [List.getElem?_set_self', hk] at hj
    cases hj
    obtain ⟨cs', q1, q2⟩ := hS.st.loc k cs hk
    exact ⟨cs', q1, nilC_VR e4 (q2.step e2 e3) h1⟩
   ·rw [List.getElem?_set_ne e0] at hj
    obtain ⟨cs', q1, q2⟩ := hS.st.loc j ds hj
    exact ⟨cs', q1, q2.step e2 e3⟩
  ·cases hg
 | nilH i off e =>
  simp only [gstep] at hg
  split at hg
  ·rename_i cs hi
   simp only [Option.map_eq_some_iff] at hg
   obtain ⟨cs1, h1, rfl⟩ := hg
   obtain ⟨m1, e1, e2, e3, e4, e5⟩ := hS.pushNil e
   have hlt : i < ps.heap.length := (List.getElem?_eq_some_iff.1 hi).1
   have hr2 : HR X P A m1 (ps.heap.set i (.cells cs1) ++ [.list false false e []]) ts.heap := by
    refine e1.next .refl .refl (by simp [e1.len]) e1.nodup fun j b hj => ?_
    by_cases e0 : i = j
    ·subst e0
     right
     rw [List.getElem?_append_left (by simpa using hlt), List.getElem?_set_self', hi] at hj
     cases hj
     obtain ⟨mb, q1, q2⟩ := e1.at_ i (.cells cs) (by rw [List.getElem?_append_left hlt]; exact hi)
     refine ⟨mb, q1, ?_⟩
     cases mb with
     | blk c => obtain ⟨xs, q3, q4⟩ := q2; exact ⟨xs, q3, nilC_VR e4 q4 h1⟩
     | _ => exact q2.elim
    ·left
     have : (ps.heap ++ [PB.list false false e []])[j]? = some b := by
      rw [← hj]
      rcases Nat.lt_or_ge j ps.heap.length with h9 | h9
      ·rw [List.getElem?_append_left h9, List.getElem?_append_left (by simpa using h9), List.getElem?_set_ne e0]
      ·rw [List.getElem?_append_right h9, List.getElem?_append_right (by simpa using h9), List.length_set]
     obtain ⟨mb, q1, _⟩ := e1.at_ j b this
     exact ⟨mb, this, q1, q1, fun _ _ => rfl⟩
   exact ⟨m1, ⟨⟨hr2, hS.st.llen, fun k cs hk => let ⟨cs', q1, q2⟩ := hS.st.loc k cs hk; ⟨cs', q1, q2.step e2 e3⟩, hS.st.env.step e2 e3⟩, fun b hb => hS.own b (e5 b hb), hS.ws, hS.fl⟩, e2, e3.b⟩
  ·cases hg
 | flag i =>
  simp only [gstep] at hg
  split at hg
  ·rename_i k ex t l hi
   cases hg
   have hr := hS.st.heap
   refine ⟨m, ⟨⟨?_, hS.st.llen, hS.st.loc, hS.st.env⟩, hS.own, hS.ws, hS.fl⟩, .refl, .refl⟩
   refine hr.next .refl .refl (by simp [hr.len]) hr.nodup fun j b hj => ?_
   by_cases e0 : i = j
   ·subst e0
    right
    rw [List.getElem?_set_self', hi] at hj
    cases hj
    obtain ⟨mb, q1, q2⟩ := hr.at_ i _ hi
    refine ⟨mb, q1, ?_⟩
    cases mb with
    | lst y =>
     cases (q2 : LR X P _ _ _ _ _ _ _ y) with
     | nil => exact LR.nil
     | emp p0 p1 p2 p3 p4 => exact LR.emp p0 p1 p2 p3 p4
     | some p1 p2 p3 p4 p5 p6 p7 p8 p9 => exact LR.some p1 p2 p3 p4 p5 (by simp) (by simp) p8 p9
    | _ => exact q2.elim
   ·left
    rw [List.getElem?_set_ne e0] at hj
    obtain ⟨mb, q1, _⟩ := hr.at_ j b hj
    exact ⟨mb, hj, q1, q1, fun _ _ => rfl⟩
  ·cases hg
 | gc ks =>
  simp only [gstep] at hg
  split at hg
  ·rename_i hc
   simp only [Bool.and_eq_true, decide_eq_true_eq, List.all_eq_true] at hc
   obtain ⟨⟨hks, hnd⟩, hB⟩ := hc
   split at hg
   ·rename_i env loc b1 b2 h1 h2 h3 h4
    split at hg
    ·rename_i b3 h5
     cases hg
     have hr := hS.st.heap
     have hp := pickB_get h4
     have hklt : ∀ k ∈ ks, k < m.length := fun k hk => by
      obtain ⟨i, hi⟩ := List.getElem?_of_mem hk
      obtain ⟨b, q1, _⟩ := hp.2 hi
      rw [hr.len]; exact (List.getElem?_eq_some_iff.1 q1).1
     have hBm : B ≤ m.length := by rw [hr.len]; exact hB
     let m1 : List MB := m.take B ++ ks.map fun k => m.getD k .gone
     have hlt1 : (m.take B).length = B := by rw [List.length_take]; omega
     have hlo : ∀ i, i < B → m1[i]? = m[i]? := fun i hi => by
      show (m.take B ++ _)[i]? = _
      rw [List.getElem?_append_left (by omega), List.getElem?_take, if_pos hi]
     have hhi : ∀ p k, ks[p]? = some k → m1[p + B]? = m[k]? := fun p k hp => by
      show (m.take B ++ _)[p + B]? = _
      rw [List.getElem?_append_right (by omega), hlt1, Nat.add_sub_cancel, List.getElem?_map, hp]
      have := hklt k (List.mem_of_getElem? hp)
      simp [List.getD_eq_getElem?_getD, this]
     have hg : ∀ i j, (fun i => if i < B then some i else (posN ks i).map (· + B)) i = some j → m1[j]? = m[i]? := fun i j hij => by
      simp only at hij
      split at hij
      ·rename_i hi; cases hij; exact hlo i hi
      ·simp only [Option.map_eq_some_iff] at hij
       obtain ⟨p, hp, rfl⟩ := hij
       exact hhi p i (posN_get hp)
     have hold : ∀ j mb, m1[j]? = some mb → ∃ i, m[i]? = some mb ∧ ((j < B ∧ i = j) ∨ ∃ p, j = p + B ∧ ks[p]? = some i) := fun j mb hj => by
      rcases Nat.lt_or_ge j B with hlt | hge
      ·exact ⟨j, by rw [← hlo j hlt]; exact hj, .inl ⟨hlt, rfl⟩⟩
      ·have hj2 : j - B < ks.length := by
        have := (List.getElem?_eq_some_iff.1 hj).1
        have h9 : m1.length = B + ks.length := by show (m.take B ++ _).length = _; rw [List.length_append, hlt1, List.length_map]
        omega
       have hp := List.getElem?_eq_getElem hj2
       have hh := hhi (j - B) _ hp
       rw [show j - B + B = j by omega, hj] at hh
       exact ⟨_, hh.symm, .inr ⟨j - B, by omega, hp⟩⟩
     have hbl : ∀ b, b ∈ blks m1 → b ∈ blks m := fun b hb => by
      obtain ⟨j, mb, q1, q2⟩ := blks_own hb
      obtain ⟨i, q3, _⟩ := hold j mb q1
      exact own_mem q3 q2
     have hA : ∀ b, AA A m b → AA A m1 b := fun b hb => ⟨hb.1, fun hm => hb.2 (hbl b hm)⟩
     have hnd1 : (blks m1).Nodup := nodup_of_own fun i j c q1 q2 => by
      obtain ⟨ma, a1, a2⟩ := q1
      obtain ⟨mc, c1, c2⟩ := q2
      obtain ⟨i', a3, a4⟩ := hold i ma a1
      obtain ⟨j', c3, c4⟩ := hold j mc c1
      have e := own_inj hr.nodup a3 c3 a2 c2
      subst e
      rcases a4 with ⟨a5, a6⟩ | ⟨p, a5, a6⟩ <;> rcases c4 with ⟨c5, c6⟩ | ⟨q, c5, c6⟩
      ·omega
      ·have := hks _ (List.mem_of_getElem? c6); omega
      ·have := hks _ (List.mem_of_getElem? a6); omega
      ·have hpl := (List.getElem?_eq_some_iff.1 a6).1
       have : p = q := (List.getElem?_inj hpl hnd).1 (by rw [a6, c6])
       omega
     have hFr : Fr m ts.heap m1 ts.heap := ⟨Nat.le_refl _, fun _ _ _ => rfl, fun b hb => .inl (hbl b hb), fun b cs hc => ⟨cs, hc, Nat.le_refl _⟩⟩
     have hb1 := renBs_get h3
     have hb3 := renBs_get h5
     have hl2 := renL_get h2
     refine ⟨m1, ⟨⟨⟨?_, fun j b hj => ?_, hnd1, hr.up, fun b hb => hr.ownA b (hbl b hb)⟩, by rw [hl2.1]; exact hS.st.llen, fun k cs hk => ?_, renEs_VR hX hg hA hS.st.env h1⟩, fun b hb => hS.own b (hbl b hb), hS.ws, hS.fl⟩, hFr, fun i mb hi hm => .inl (by rw [hlo i hi]; exact hm)⟩
     ·show (m.take B ++ _).length = _
      rw [List.length_append, List.length_append, List.length_map, hb1.1, hb3.1, hp.1, hlt1, List.length_take]
      omega
     ·have hlen1 : b1.length = B := by rw [hb1.1, List.length_take]; omega
      rcases Nat.lt_or_ge j B with hlt | hge
      ·rw [List.getElem?_append_left (by omega)] at hj
       obtain ⟨b0, q1, q2⟩ := hb1.2 hj
       rw [List.getElem?_take, if_pos hlt] at q1
       obtain ⟨mb, q3, q4⟩ := hr.at_ j b0 q1
       exact ⟨mb, by rw [hlo j hlt]; exact q3, renB_BR hX hg hA q4 q2⟩
      ·rw [List.getElem?_append_right (by omega), hlen1] at hj
       obtain ⟨b0, q1, q2⟩ := hb3.2 hj
       have hj2 : j - B < ks.length := by rw [← hp.1]; exact (List.getElem?_eq_some_iff.1 q1).1
       obtain ⟨b9, q5, q6⟩ := hp.2 (List.getElem?_eq_getElem hj2)
       rw [q1] at q6; cases q6
       obtain ⟨mb, q3, q4⟩ := hr.at_ _ _ q5
       refine ⟨mb, ?_, renB_BR hX hg hA q4 q2⟩
       have := hhi (j - B) _ (List.getElem?_eq_getElem hj2)
       rw [show j - B + B = j by omega] at this
       rw [this]; exact q3
     ·obtain ⟨cs0, q1, q2⟩ := hl2.2 hk
      obtain ⟨cs', q3, q4⟩ := hS.st.loc k cs0 q1
      exact ⟨cs', q3, renVs_VR hX hg hA q4 q2⟩
    ·cases hg
   ·cases hg
  ·cases hg
theorem gsteps_ok (hX : CodOk X P) {B : Nat} : ∀ {gs : List G} {ps ps1 : PSt X.Γ}, gsteps B gs ps = some ps1 → Weaker X P B ps ps1
 | [], ps, ps1, h => by simp only [gsteps, Option.some.injEq] at h; subst h; exact .refl
 | g :: gs, ps, ps1, h => by
  simp only [gsteps] at h
  split at h
  ·rename_i s hs
   exact (gstep_ok hX hs).trans (gsteps_ok hX h)
  ·cases h
end
end Pv
namespace Pv
open Go Tw
section
variable {X : Cod} {P : Program} {T : Tab} {A W : Nat → Prop} {m m' : List MB}
variable {call : CallT} {orc : Orc X.Γ} {ρ : Type} {y : ρ}
theorem SR.know {fl : Nat} {ps : PSt X.Γ} {ts : St} (hS : SR X P A W fl m ps ts) {x : Operand} {b : Bool} (hb : tvO ts.env x = some (.bool b)) : SR X P A W fl m (ps.know x b) ts := ⟨hS.st.know hb, hS.own, hS.ws, hS.fl⟩
theorem StR.put {ps : PSt X.Γ} {ts : St} (hR : StR X P A m ps ts) {d : Option Nat} {pe : PE X.Γ} {ev : EV} (h : PER X P (AA A m) m ts.heap pe ev) : StR X P A m (ps.put d pe) (ts.put d ev) := by
 cases d with
 | none => exact hR
 | some d => exact ⟨hR.heap, hR.llen, hR.loc, .cons h hR.env⟩
theorem put_heap {ts : St} {d : Option Nat} {ev : EV} : (ts.put d ev).heap = ts.heap ∧ (ts.put d ev).ws = ts.ws := by cases d <;> exact ⟨rfl, rfl⟩
theorem gone_iff {H : List (PB X.Γ)} {h : List HB} (hr : HR X P A m H h) {i : Nat} {b : PB X.Γ} (hb : H[i]? = some b) : isGone b = true ↔ m[i]? = some .gone := by
 obtain ⟨mb, h1, h2⟩ := hr.at_ i b hb
 cases b with
 | gone =>
  cases mb with
  | gone => exact ⟨fun _ => h1, fun _ => rfl⟩
  | _ => exact h2.elim
 | cells cs => cases mb with
  | gone => exact h2.elim
  | _ => simp [isGone, h1]
 | list k ex t l => cases mb with
  | gone => exact h2.elim
  | _ => simp [isGone, h1]
 | map es => cases mb with
  | gone => exact h2.elim
  | _ => simp [isGone, h1]
 | mark => cases mb with
  | gone => exact h2.elim
  | _ => simp [isGone, h1]
 | loop => cases mb with
  | gone => exact h2.elim
  | _ => simp [isGone, h1]
theorem goneSame_at : ∀ {H H1 : List (PB X.Γ)}, goneSame H H1 = true → ∀ {i : Nat} {b : PB X.Γ}, H[i]? = some b → ∃ b1, H1[i]? = some b1 ∧ isGone b = isGone b1
 | [], H1, _, i, b, hi => by simp at hi
 | a :: H, [], h, i, b, hi => by simp [goneSame] at h
 | a :: H, a1 :: H1, h, i, b, hi => by
  simp only [goneSame, Bool.and_eq_true, beq_iff_eq] at h
  cases i with
  | zero => simp only [List.getElem?_cons_zero, Option.some.injEq] at hi; subst hi; exact ⟨a1, rfl, h.1⟩
  | succ i => obtain ⟨b1, e1, e2⟩ := goneSame_at h.2 (i := i) (by simpa using hi); exact ⟨b1, by simpa using e1, e2⟩
theorem noGone {H H1 : List (PB X.Γ)} {h h1 : List HB} {m1 : List MB} (hr : HR X P A m H h) (hr1 : HR X P A m1 H1 h1) (hs : (!goneSame H H1) = false) : ∀ (i : Nat), i < m.length → m1[i]? = some .gone → m[i]? = some .gone := by
 intro i hi hg
 have hi' : i < H.length := by rw [← hr.len]; exact hi
 have hb := List.getElem?_eq_getElem hi'
 obtain ⟨b1, e1, e2⟩ := goneSame_at (by simpa using hs) hb
 have := (gone_iff hr1 e1).2 hg
 rw [← e2] at this
 exact (gone_iff hr hb).1 this
theorem want_ok {fl : Nat} {ops : Array Oper} {ps : PSt X.Γ} {ts : St} (hS : SR X P A W fl m ps ts) {o : Oper} {an : PT X.Γ} {k : Bool → PSt X.Γ → PT X.Γ → OT ρ} (hk : (pwantK X ops ps o an k).Ends y) :
  ∃ w ps1 an', wantT ops ts.env o = some w ∧ SR X P A W fl m ps1 ts ∧ (k w ps1 an').Ends y ∧ ps1.heap = ps.heap := by
 unfold pwantK at hk
 unfold wantT
 split at hk
 ·rename_i hg
  exact ⟨true, ps, an, by simp only [hg], hS, hk, rfl⟩
 ·rename_i j want hg
  simp only [hg]
  split at hk
  ·rename_i d hd
   simp only [hd]
   split at hk
   ·rename_i b hb
    obtain ⟨ev, h1, h2⟩ := look_some hS.st.env hb
    obtain ⟨tv, rfl, h3⟩ := per_val h2
    obtain ⟨t, an', rfl, hk⟩ := byB_ok hk h3
    exact ⟨t == want, _, an', by simp only [h1], hS.know (x := .tmp d) (by simp only [tvO, evO, h1]), hk, rfl⟩
   ·rename_i hb
    obtain ⟨ev, h1, h2⟩ := look_some hS.st.env hb
    have := per_undef h2; subst this
    exact ⟨false, ps, an, by simp only [h1], hS, hk, rfl⟩
   ·exact hk.elim
  ·exact hk.elim
theorem run_ok (hX : CodOk X P) (hO : OrcOk X P call orc) {site : Nat → Bool} {fl nt : Nat} {ops : Array Oper} : ∀ {os : List Oper} {m : List MB} {ps : PSt X.Γ} {ts : St} {an : PT X.Γ} {k : PSt X.Γ → List PI → PT X.Γ → OT ρ}, SR X P A W fl m ps ts → (prunK X P orc (Sim X P call) site nt ops os ps an k).Ends y →
  ∃ ts1 is pis ps1 an' m1, runOps P call site fl nt ops os ts = some (ts1, is) ∧ (k ps1 pis an').Ends y ∧ SR X P A W fl m1 ps1 ts1 ∧ Fr m ts.heap m1 ts1.heap ∧ Up m m1 ∧ IRs m ts.heap pis is ∧ is.length = os.length
 | [], m, ps, ts, an, k, hS, hk => ⟨ts, [], [], ps, an, m, rfl, hk, hS, .refl, .refl, .nil, rfl⟩
 | o :: os, m, ps, ts, an, k, hS, hk => by
  simp only [prunK] at hk
  split at hk
  ·exact hk.elim
  ·rename_i hd
   obtain ⟨w, ps1, an1, hw, hS1, hk, hh⟩ := want_ok hS hk
   cases w with
   | true =>
    simp only at hk
    obtain ⟨pe, ps2, pi, an2, ⟨ev, ts2, ti, m2, e1, e2, e3, e4, e5, e6, e7, e8, e9⟩, hk⟩ := pop_ok hX hO hS1.st hk
    have hS2 : SR X P A W fl m2 (ps2.put o.dst pe) (({ ts2 with ws := addKs fl ti.ws ts.ws }).put o.dst ev) := by
     refine ⟨StR.put (ts := { ts2 with ws := addKs fl ti.ws ts.ws }) ⟨e4.heap, e4.llen, e4.loc, e4.env⟩ e5, fun b hb => ?_, fun b hb => ?_, ?_⟩
     ·rcases e6.new b hb with h1 | h1
      ·exact hS.own b h1
      ·exact .inr (Nat.le_trans hS.fl h1)
     ·rw [put_heap.2] at hb
      rcases addKs_mem hb with h1 | ⟨h1, h2⟩
      ·exact hS.ws b h1
      ·rcases hS.own b (e9 b h1) with h3 | h3
       ·exact h3
       ·omega
     ·rw [put_heap.1]; exact Nat.le_trans hS.fl e6.len
    obtain ⟨ts3, is, pis, ps3, an3, m3, g1, g2, g3, g4, g5, g6, g7⟩ := run_ok hX hO (os := os) hS2 hk
    rw [put_heap.1] at g4 g6
    refine ⟨ts3, ti :: is, _, ps3, an3, m3, ?_, g2, g3, e6.trans g4, e7.trans g5, .cons hS.st.heap.nodup (fun b hb => hS.st.heap.inb hb) ⟨e8.all, e8.tl, e8.wl, e8.wh, e8.th, e8.hp⟩ e6 e7 (noGone hS1.st.heap e4.heap) g6, by simp [g7]⟩
    simp only [runOps, hd, hw, e1, g1]
    rfl
   | false =>
    simp only at hk
    have hS2 : SR X P A W fl m (ps1.put o.dst .undef) (ts.put o.dst .undef) := by
     refine ⟨hS1.st.put trivial, hS.own, fun b hb => ?_, ?_⟩
     ·rw [put_heap.2] at hb; exact hS.ws b hb
     ·rw [put_heap.1]; exact hS.fl
    obtain ⟨ts3, is, pis, ps3, an3, m3, g1, g2, g3, g4, g5, g6, g7⟩ := run_ok hX hO (os := os) hS2 hk
    rw [put_heap.1] at g4 g6
    refine ⟨ts3, noInf :: is, _, ps3, an3, m3, ?_, g2, g3, g4, g5, .cons hS.st.heap.nodup (fun b hb => hS.st.heap.inb hb) .none .refl .refl (fun _ i _ hg => hg) g6, by simp [g7]⟩
    simp only [runOps, hd, hw, g1]
    rfl
def ExecS (X : Cod) (P : Program) (T : Tab) (call : CallT) (L f : Nat) (rnd : Bool) (nt B : Nat) (c : Code) (ps : PSt X.Γ) (e : Ex) (ps1 : PSt X.Γ) : Prop :=
 ∀ (A W : Nat → Prop) (fl : Nat) (m : List MB) (ts : St), SR X P A W fl m ps ts → ∃ ts1 m1, exec P T call L f rnd fl nt c ts = some (e, ts1) ∧ SR X P A W fl m1 ps1 ts1 ∧ Fr m ts.heap m1 ts1.heap ∧ UpB B m m1
theorem StR.pick {ps : PSt X.Γ} {ts : St} (hR : StR X P A m ps ts) (live : List Nat) : StR X P A m { ps with env := ppick live ps.env } { ts with env := Tw.pick live ts.env } :=
 ⟨hR.heap, hR.llen, hR.loc, pick_VR hR.env live⟩
theorem SR.pick {fl : Nat} {ps : PSt X.Γ} {ts : St} (hS : SR X P A W fl m ps ts) (live : List Nat) : SR X P A W fl m { ps with env := ppick live ps.env } { ts with env := Tw.pick live ts.env } := ⟨hS.st.pick live, hS.own, hS.ws, hS.fl⟩
theorem SR.head {fl : Nat} {ps : PSt X.Γ} {ts : St} (hS : SR X P A W fl m ps ts) (live : List Nat) : SR X P A W fl m (patHead X live ps) (atHead live ts) := by
 have h1 := hS.pick live
 have ht := top_VR h1.st.env
 refine ⟨⟨h1.st.heap, ?_, fun k cs hk => ?_, h1.st.env⟩, h1.own, h1.ws, h1.fl⟩
 ·simp only [patHead, atHead, List.length_take]
  have := h1.st.llen
  simp only at this ht
  omega
 ·simp only [patHead, atHead] at hk ⊢
  rw [List.getElem?_take] at hk
  split at hk
  ·rename_i hlt
   obtain ⟨cs', g1, g2⟩ := h1.st.loc k cs hk
   refine ⟨cs', ?_, g2⟩
   rw [List.getElem?_take, if_pos (by simp only at ht; omega)]
   exact g1
  ·cases hk
theorem iter_le {g : St → Option (Ex × St)} : ∀ {k j : Nat} {s : St} {r : Ex × St}, iter g k s = some r → k ≤ j → iter g j s = some r
 | 0, _, s, r, h, _ => by simp [iter] at h
 | k + 1, j, s, r, h, hj => by
  obtain ⟨j, rfl⟩ : ∃ i, j = i + 1 := ⟨j - 1, by omega⟩
  simp only [iter] at h ⊢
  split at h
  ·rename_i s1 hs; exact iter_le h (by omega)
  ·rename_i hn; exact h
section
variable {L f : Nat} {rnd : Bool} {nt B : Nat}
theorem loop_ok (hX : CodOk X P) {c : Code} {A W : Nat → Prop} {fl : Nat} {m : List MB} {ps : PSt X.Γ} {ts : St} {k : Ex → PSt X.Γ → PT X.Γ → OT ρ} (hS : SR X P A W fl m ps ts) : ∀ {an : PT X.Γ}, (ploopK X (ExecS X P T call L f rnd nt B) B c ps k an).Ends y →
  ∃ e ts1 ps1 an' m1, exec P T call L f rnd fl nt c ts = some (e, ts1) ∧ (k e ps1 an').Ends y ∧ SR X P A W fl m1 ps1 ts1 ∧ Fr m ts.heap m1 ts1.heap ∧ UpB B m m1 := by
 intro an
 induction an with
 | a x r =>
  intro hk
  cases x with
  | loop e s' =>
   simp only [ploopK] at hk
   obtain ⟨hlo, hk⟩ := hk
   obtain ⟨ts1, m1, h1, h2, h3, h4⟩ := hlo A W fl m ts hS
   exact ⟨_, ts1, _, _, m1, h1, hk, h2, h3, h4⟩
  | lg gs e s' =>
   simp only [ploopK] at hk
   split at hk
   ·rename_i hgs
    obtain ⟨hlo, hk⟩ := hk
    obtain ⟨m0, e1, e2, e3⟩ := gsteps_ok hX hgs A W fl m ts hS
    obtain ⟨ts1, m1, h1, h2, h3, h4⟩ := hlo A W fl m0 ts e1
    exact ⟨_, ts1, _, _, m1, h1, hk, h2, e2.trans h3, e3.trans h4⟩
   ·exact hk.elim
  | _ => simp only [ploopK] at hk; exact hk.elim
 | z c' a b iha ihb =>
  intro hk
  simp only [ploopK] at hk
  rcases hk with ⟨_, hk⟩ | ⟨_, hk⟩
  ·exact iha hk
  ·exact ihb hk
 | _ => intro hk; simp only [ploopK] at hk; exact hk.elim
theorem exec_ok (hX : CodOk X P) (hO : OrcOk X P call orc) : ∀ (c : Code) {A W : Nat → Prop} {fl : Nat} {m : List MB} {ps : PSt X.Γ} {ts : St} {an : PT X.Γ} {k : Ex → PSt X.Γ → PT X.Γ → OT ρ}, SR X P A W fl m ps ts → (pexecK X P T orc (Sim X P call) (ExecS X P T call L f rnd nt B) B L f rnd nt c ps an k).Ends y →
  ∃ e ts1 ps1 an' m1, exec P T call L f rnd fl nt c ts = some (e, ts1) ∧ (k e ps1 an').Ends y ∧ SR X P A W fl m1 ps1 ts1 ∧ Fr m ts.heap m1 ts1.heap ∧ UpB B m m1 := by
 intro c
 induction c with
 | skip => intro A W fl m ps ts an k hS hk; exact ⟨.norm, ts, ps, an, m, rfl, hk, hS, .refl, .refl⟩
 | label => intro A W fl m ps ts an k hS hk; exact ⟨.norm, ts, ps, an, m, rfl, hk, hS, .refl, .refl⟩
 | exit id => intro A W fl m ps ts an k hS hk; exact ⟨.exit id, ts, ps, an, m, rfl, hk, hS, .refl, .refl⟩
 | ret => intro A W fl m ps ts an k hS hk; exact ⟨.ret, ts, ps, an, m, rfl, hk, hS, .refl, .refl⟩
 | region id ops draw =>
  intro A W fl m ps ts an k hS hk
  simp only [pexecK] at hk
  obtain ⟨ts1, is, pis, ps1, an1, m1, g1, hk, g3, g4, g5, g6, g7⟩ := run_ok hX hO hS hk
  have fin : ∀ {an2 : PT X.Γ}, (!draw || (staticOk ops.toList && dynOk is (hotPairs ops.toList))) = true → (k .norm { ps1 with env := ppick (T.liveAt f id) ps1.env } an2).Ends y → ∃ e ts1 ps1 an' m1, exec P T call L f rnd fl nt (.region id ops draw) ts = some (e, ts1) ∧ (k e ps1 an').Ends y ∧ SR X P A W fl m1 ps1 ts1 ∧ Fr m ts.heap m1 ts1.heap ∧ UpB B m m1 := by
   intro an2 hc hk
   exact ⟨.norm, { ts1 with env := Tw.pick (T.liveAt f id) ts1.env }, _, an2, m1, by simp only [exec, g1, hc, if_true], hk, g3.pick _, g4, g5.b⟩
  cases draw with
  | false => exact fin rfl hk
  | true =>
   simp only at hk
   split at hk
   ·rename_i r
    split at hk
    ·rename_i hall
     obtain ⟨hst, hk⟩ := hk
     refine fin ?_ hk
     rw [hst]
     simp only [Bool.not_true, Bool.false_or, Bool.true_and]
     refine calm_none (fun t ht => ?_) fun q hq => by rw [g7]; exact hot_in q hq
     have key : ∀ {ps : List PI} {ts : List Inf} {m : List MB} {h : List HB}, IRs m h ps ts → (ps.all fun i => i.i.ws.isEmpty && !i.wall) = true → ∀ t ∈ ts, t.ws = [] := by
      intro ps ts m h hI
      induction hI with
      | nil => intro _ t ht; cases ht
      | cons _ _ i1 _ _ _ _ ih =>
       intro ha t ht
       simp only [List.all_cons, Bool.and_eq_true, List.isEmpty_iff, Bool.not_eq_true'] at ha
       rcases List.mem_cons.1 ht with rfl | ht
       ·refine List.eq_nil_iff_forall_not_mem.2 fun x hx => ?_
        cases x with
        | l j => have := i1.wl j hx; rw [ha.1.1] at this; cases this
        | h b =>
         rcases i1.wh b hx with ⟨i, h1, _⟩ | ⟨h1, _⟩
         ·rw [ha.1.1] at h1; cases h1
         ·rw [ha.1.2] at h1; cases h1
       ·exact ih ha.2 t ht
     exact key g6 hall t ht
    ·exact hk.elim
   ·split at hk
    ·rename_i hc
     simp only [Bool.and_eq_true] at hc
     refine fin ?_ hk
     rw [hc.1, dyn_ok g6 hot_lt hc.2]; rfl
    ·exact hk.elim
 | seq a b iha ihb =>
  intro A W fl m ps ts an k hS hk
  simp only [pexecK] at hk
  obtain ⟨e, ts1, ps1, an1, m1, h1, hk, h3, h4, h5⟩ := iha hS hk
  cases e with
  | norm =>
   obtain ⟨e2, ts2, ps2, an2, m2, g1, g2, g3, g4, g5⟩ := ihb h3 hk
   exact ⟨e2, ts2, ps2, an2, m2, by simp only [exec, h1, g1], g2, g3, h4.trans g4, h5.trans g5⟩
  | exit id => exact ⟨_, ts1, ps1, an1, m1, by simp only [exec, h1], hk, h3, h4, h5⟩
  | ret => exact ⟨_, ts1, ps1, an1, m1, by simp only [exec, h1], hk, h3, h4, h5⟩
 | cond c a b iha ihb =>
  intro A W fl m ps ts an k hS hk
  simp only [pexecK] at hk
  split at hk
  ·rename_i u hu
   obtain ⟨tu, h1, h2⟩ := ptest_VR hS.st.env hu
   obtain ⟨t, an', rfl, hk⟩ := byB_ok hk h2
   cases t with
   | true =>
    obtain ⟨e, ts1, ps1, an1, m1, g1, g2, g3, g4, g5⟩ := iha (hS.know h1) hk
    exact ⟨e, ts1, ps1, an1, m1, by simp only [exec, h1, g1], g2, g3, g4, g5⟩
   | false =>
    obtain ⟨e, ts1, ps1, an1, m1, g1, g2, g3, g4, g5⟩ := ihb (hS.know h1) hk
    exact ⟨e, ts1, ps1, an1, m1, by simp only [exec, h1, g1], g2, g3, g4, g5⟩
  ·exact hk.elim
 | block id b ih =>
  intro A W fl m ps ts an k hS hk
  simp only [pexecK] at hk
  obtain ⟨e, ts1, ps1, an1, m1, h1, hk, h3, h4, h5⟩ := ih hS hk
  cases e with
  | norm => exact ⟨_, ts1, ps1, an1, m1, by simp only [exec, h1], hk, h3, h4, h5⟩
  | ret => exact ⟨_, ts1, ps1, an1, m1, by simp only [exec, h1], hk, h3, h4, h5⟩
  | exit i => exact ⟨_, ts1, ps1, an1, m1, by simp only [exec, h1], hk, h3, h4, h5⟩
 | loop b ih =>
  intro A W fl m ps ts an k hS hk
  simp only [pexecK] at hk
  split at hk
  ·rename_i j r
   obtain ⟨hj, hk⟩ := hk
   have go : ∀ (j : Nat) {m : List MB} {ps : PSt X.Γ} {ts : St} {an : PT X.Γ}, SR X P A W fl m ps ts → (piterK X (fun s an k => pexecK X P T orc (Sim X P call) (ExecS X P T call L f rnd nt B) B L f rnd nt b (patHead X (T.headAt f (headId b)) s) an k) j ps an k).Ends y →
     ∃ e ts1 ps1 an' m1, iter (fun s => exec P T call L f rnd fl nt b (atHead (T.headAt f (headId b)) s)) j ts = some (e, ts1) ∧ (k e ps1 an').Ends y ∧ SR X P A W fl m1 ps1 ts1 ∧ Fr m ts.heap m1 ts1.heap ∧ UpB B m m1 := by
    intro j
    induction j with
    | zero => intro m ps ts an _ hk; exact hk.elim
    | succ j ihj =>
     intro m ps ts an hS hk
     simp only [piterK] at hk
     obtain ⟨e, ts1, ps1, an1, m1, h1, hk, h3, h4, h5⟩ := ih (hS.head _) hk
     cases e with
     | norm =>
      obtain ⟨e2, ts2, ps2, an2, m2, g1, g2, g3, g4, g5⟩ := ihj h3 hk
      exact ⟨e2, ts2, ps2, an2, m2, by simp only [iter, h1, g1], g2, g3, h4.trans g4, h5.trans g5⟩
     | exit id => exact ⟨_, ts1, ps1, an1, m1, by simp only [iter, h1], hk, h3, h4, h5⟩
     | ret => exact ⟨_, ts1, ps1, an1, m1, by simp only [iter, h1], hk, h3, h4, h5⟩
   obtain ⟨e, ts1, ps1, an1, m1, h1, h2, h3, h4, h5⟩ := go j hS hk
   exact ⟨e, ts1, ps1, an1, m1, by simp only [exec]; exact iter_le h1 hj, h2, h3, h4, h5⟩
  ·exact loop_ok hX hS hk
 | rangeFunc g qs asg body iha ihb =>
  intro A W fl m ps ts an k hS hk
  simp only [pexecK] at hk
  exact loop_ok hX hS hk
 | _ => intro A W fl m ps ts an k hS hk; simp only [pexecK] at hk; exact hk.elim
end
end
end Pv
namespace Pv
open Go Tw
section
variable {X : Cod} {P : Program} {T : Tab} {A W : Nat → Prop} {m m' : List MB}
variable {call : CallT} {orc : Orc X.Γ} {L : Nat}
def ntP (P : Program) (f : Nat) : Nat := match fnT P f with
 | some t => t.nt
 | none => 0
abbrev LoopS (X : Cod) (P : Program) (T : Tab) (call : CallT) (L f B : Nat) : LoopT X.Γ := ExecS X P T call L f false (ntP P f) B
theorem args_VR {A : Nat → Prop} {h : List HB} : ∀ {k : Nat} {vs : List (PV X.Γ)} {xs : List TV}, VRs X P A m h vs xs → EnvR X P A m h (pargEnv X k vs) (argEnv k xs)
 | k, [], xs, hv => by rw [hv.inv0]; exact .nil
 | k, v :: vs, xs, hv => by
  obtain ⟨x, r, rfl, h1, h2⟩ := hv.inv
  exact .cons h1 (args_VR h2)
theorem res_ok (hX : CodOk X P) {ps : PSt X.Γ} {ts : St} (hR : StR X P A m ps ts) : ∀ {rs : List ResultVar} {vs : List (PV X.Γ)}, press X P ps rs = some vs → ∃ ws, resTs P ts rs = some ws ∧ VRs X P (AA A m) m ts.heap vs ws
 | [], vs, h => by simp only [press, Option.some.injEq] at h; subst h; exact ⟨[], rfl, .nil⟩
 | r :: rs, vs, h => by
  simp only [press] at h
  split at h
  ·rename_i v vs' h1 h2
   cases h
   obtain ⟨ws, g1, g2⟩ := res_ok hX hR h2
   have : ∃ w, resT P ts r = some w ∧ VR X P (AA A m) m ts.heap v w := by
    unfold pres at h1
    unfold resT
    split at h1
    ·rename_i t
     split at h1
     ·rename_i u hu
      cases h1
      obtain ⟨ev, e1, e2⟩ := look_some hR.env hu
      obtain ⟨w, rfl, e3⟩ := per_val e2
      exact ⟨w, by simp only [e1], unlit_VR e3⟩
     ·cases h1
    ·rename_i a t
     split at h1
     ·rename_i pa ha
      simp only [Option.map_eq_some_iff] at h1
      obtain ⟨⟨u, i⟩, e1, rfl⟩ := h1
      obtain ⟨ev, e2, e3⟩ := look_some hR.env ha
      obtain ⟨w, ti, e4, e5, _, _⟩ := load_ok hX hR e3 e1
      exact ⟨w, by simp only [e2, e4, Option.map_some], e5⟩
     ·cases h1
   obtain ⟨w, g3, g4⟩ := this
   exact ⟨w :: ws, by simp only [resTs, g3, g1], .cons g4 g2⟩
  ·cases h
theorem one_VR' {A : Nat → Prop} {h : List HB} {vs : List (PV X.Γ)} {ws : List TV} (hv : VRs X P A m h vs ws) : VR X P A m h (pone X vs) (one ws) := by
 match vs, ws, hv with
 | [], ws, hv => rw [hv.inv0]; exact .tup rfl (by simp)
 | [v], ws, hv =>
  obtain ⟨x, r, rfl, h1, h2⟩ := hv.inv
  have := h2.inv0; subst this
  exact h1
 | v :: u :: vs, ws, hv =>
  obtain ⟨x, r, rfl, h1, h2⟩ := hv.inv
  obtain ⟨z, r, rfl, h3, h4⟩ := h2.inv
  exact .tup hv.1 hv.2
theorem fun_ok (hX : CodOk X P) (hO : OrcOk X P call orc) {f : Nat} {vs : List (PV X.Γ)} {H : List (PB X.Γ)} {an : PT X.Γ} {v : PV X.Γ} {H1 : List (PB X.Γ)} (hk : (pfunK X P T orc (Sim X P call) (LoopS X P T call L f H.length) L f vs H an).Ends (v, H1))
  {h : List HB} (hr : HR X P A m H h) {xs : List TV} (hv : VRs X P (AA A m) m h vs xs) : ∃ w h1 ws m1, funN P T call L f xs h = some (w, h1, ws) ∧ HR X P A m1 H1 h1 ∧ VR X P (AA A m1) m1 h1 v w ∧ Fr m h m1 h1 ∧ UpB H.length m m1 ∧ ∀ b ∈ ws, b ∈ blks m := by
 unfold pfunK at hk
 split at hk
 ·rename_i t ht
  have hnt : ntP P f = t.nt := by unfold ntP; rw [ht]
  have hS : SR X P A (fun b => b ∈ blks m) h.length m ⟨pargEnv X 0 vs, [], H⟩ ⟨argEnv 0 xs, [], h, []⟩ :=
   ⟨⟨hr, rfl, fun k cs hk => by simp at hk, args_VR hv⟩, fun b hb => .inl hb, fun b hb => (by cases hb), Nat.le_refl _⟩
  rw [show LoopS X P T call L f H.length = ExecS X P T call L f false t.nt H.length by unfold LoopS; rw [hnt]] at hk
  obtain ⟨e, ts1, ps1, an1, m1, h1, hk, h3, h4, h5⟩ := exec_ok hX hO t.body hS hk
  have fin : ∀ {e : Ex}, exec P T call L f false h.length t.nt t.body ⟨argEnv 0 xs, [], h, []⟩ = some (e, ts1) → (e = .norm ∨ e = .ret) → ∀ {us : List (PV X.Γ)}, press X P ps1 t.results = some us → (pone X us, ps1.heap) = (v, H1) → ∃ w h1 ws m1, funN P T call L f xs h = some (w, h1, ws) ∧ HR X P A m1 H1 h1 ∧ VR X P (AA A m1) m1 h1 v w ∧ Fr m h m1 h1 ∧ UpB H.length m m1 ∧ ∀ b ∈ ws, b ∈ blks m := by
   intro e he hee us hus hv
   cases hv
   obtain ⟨ws, g1, g2⟩ := res_ok hX h3.st hus
   refine ⟨one ws, ts1.heap, ts1.ws, m1, ?_, h3.st.heap, one_VR' g2, h4, h5, h3.ws⟩
   unfold funN
   rcases hee with rfl | rfl <;> simp only [ht, he, g1]
  cases e with
  | exit id => exact hk.elim
  | norm =>
   cases an1 with
   | n =>
    simp only at hk
    split at hk
    ·rename_i us hus; exact fin h1 (.inl rfl) hus hk
    ·exact hk.elim
   | _ => exact hk.elim
  | ret =>
   cases an1 with
   | n =>
    simp only at hk
    split at hk
    ·rename_i us hus; exact fin h1 (.inr rfl) hus hk
    ·exact hk.elim
   | _ => exact hk.elim
 ·exact hk.elim
theorem con_fn (hX : CodOk X P) {n f : Nat} (hn : 0 < n) (hO : OrcOk X P (apN P T L (n - 1)) orc) {vs : List (PV X.Γ)} {an : PT X.Γ} {v : PV X.Γ} {ext : List (PB X.Γ)}
  (hk : (pfunK X P T orc (Sim X P (apN P T L (n - 1))) (LoopS X P T (apN P T L (n - 1)) L f 0) L f vs [] an).Ends (v, ext)) : Con X P (apN P T L n) f vs v ext := by
 intro A h first args cap hup hv
 have hr : HR X P A [] [] h := ⟨rfl, fun i b hb => by simp at hb, by simp [blks], hup, fun b hb => by simp [blks] at hb⟩
 obtain ⟨w, h1, ws, m1, g1, g2, g3, g4, _, g6⟩ := fun_ok hX hO (H := []) hk hr (hv.mono fun b hb => ⟨hb, by simp [blks]⟩)
 obtain ⟨n, rfl⟩ : ∃ j, n = j + 1 := ⟨n - 1, by omega⟩
 have : ws = [] := List.eq_nil_iff_forall_not_mem.2 fun x hx => by have := g6 x hx; simp [blks] at this
 subst this
 exact ⟨w, h1, m1, g1, g2, g3, g4⟩
theorem sim_fn (hX : CodOk X P) {n f : Nat} (hn : 0 < n) (hO : OrcOk X P (apN P T L (n - 1)) orc) {first xs cap : List (PV X.Γ)} {H H1 : List (PB X.Γ)} {an : PT X.Γ} {v : PV X.Γ}
  (hk : (pfunK X P T orc (Sim X P (apN P T L (n - 1))) (LoopS X P T (apN P T L (n - 1)) L f H.length) L f (first ++ xs ++ cap) H an).Ends (v, H1)) : Sim X P (apN P T L n) (.fn f first cap) xs H v H1 := by
 intro A m h tf txs hr hf hx
 obtain ⟨n, rfl⟩ : ∃ j, n = j + 1 := ⟨n - 1, by omega⟩
 cases hf with
 | gone hi _ _ => simp [idOf] at hi
 | fn p1 p2 p3 p4 =>
  obtain ⟨w, h1, ws, m1, g1, g2, g3, g4, g5, g6⟩ := fun_ok hX hO hk hr ((VRs.app ⟨p1, p2⟩ hx).app ⟨p3, p4⟩)
  refine ⟨w, h1, ws, m1, g1, g2, g3, g4, fun i mb hi => g5 i mb ?_ hi, g6⟩
  rw [← hr.len]; exact (List.getElem?_eq_some_iff.1 hi).1
def endE : Ex → PSt X.Γ → PT X.Γ → OT (Ex × PSt X.Γ) := fun e s an => match an with
 | .n => .ret (e, s)
 | _ => .bad
section
variable {f nt B : Nat} {rnd : Bool}
theorem execS_of (hX : CodOk X P) (hO : OrcOk X P call orc) {c : Code} {ps : PSt X.Γ} {an : PT X.Γ} {e : Ex} {ps1 : PSt X.Γ} (hk : (pexecK X P T orc (Sim X P call) (ExecS X P T call L f rnd nt B) B L f rnd nt c ps an endE).Ends (e, ps1)) : ExecS X P T call L f rnd nt B c ps e ps1 := by
 intro A W fl m ts hS
 obtain ⟨e1, ts1, ps2, an1, m1, h1, h2, h3, h4, h5⟩ := exec_ok hX hO c hS hk
 cases an1 with
 | n => cases h2; exact ⟨ts1, m1, h1, h3, h4, h5⟩
 | _ => exact h2.elim
end
end
end Pv
namespace Pv
open Go Tw
def OT.map {ρ σ : Type} (f : ρ → σ) : OT ρ → OT σ
 | .bad => .bad
 | .ret r => .ret (f r)
 | .o p r => .o p (r.map f)
 | .br c t e => .br c (t.map f) (e.map f)
theorem OT.map_ends {ρ σ : Type} {f : ρ → σ} {y : σ} : ∀ {o : OT ρ}, (o.map f).Ends y → ∃ r, o.Ends r ∧ f r = y
 | .bad, h => h.elim
 | .ret r, h => ⟨r, rfl, h⟩
 | .o p r, h => by obtain ⟨x, h1, h2⟩ := OT.map_ends h.2; exact ⟨x, ⟨h.1, h1⟩, h2⟩
 | .br c t e, h => by
  rcases h with ⟨h0, h⟩ | ⟨h0, h⟩
  ·obtain ⟨x, h1, h2⟩ := OT.map_ends h; exact ⟨x, .inl ⟨h0, h1⟩, h2⟩
  ·obtain ⟨x, h1, h2⟩ := OT.map_ends h; exact ⟨x, .inr ⟨h0, h1⟩, h2⟩
inductive Fp {Γ : Nat → Type} {ρ : Type} (R : ρ → Prop) : PT Γ → OT ρ → Prop where
 | r {v : ρ} (h : R v) : Fp R .n (.ret v)
 | g {v : ρ} (gs : List G) (h : R v) : Fp R (.a (.lg gs .norm ⟨[], [], []⟩) .n) (.ret v)
 | o {p : Prop} {an : PT Γ} {o : OT ρ} (h : p) (f : Fp R an o) : Fp R an (.o p o)
 | s {c : Bool} {a b : PT Γ} {x y : OT ρ} (f : c = true → Fp R a x) (g : c = false → Fp R b y) : Fp R (.s a b) (.br c x y)
 | z {c : Bool} {a b : PT Γ} {x y : OT ρ} (f : c = true → Fp R a x) (g : c = false → Fp R b y) : Fp R (.z c a b) (.br c x y)
 | b {c t : Bool} {an : PT Γ} {o : OT ρ} (h : c = t) (f : Fp R an o) : Fp R (.a (.br t) an) (.o (c = t) o)
 | q {p : Prop} {an : PT Γ} {o : OT ρ} (w : TV) (h : p) (f : Fp R an o) : Fp R (.a (.rd w) an) (.o p o)
 | c {p : Prop} {an : PT Γ} {o : OT ρ} (v : PV Γ) (H : List (PB Γ)) (h : p) (f : Fp R an o) : Fp R (.a (.call v H) an) (.o p o)
 | kf {p : Prop} {an : PT Γ} {o : OT ρ} (ks : List Nat) (v : PV Γ) (H : List (PB Γ)) (h : p) (f : Fp R an o) : Fp R (.a (.fr ks v H) an) (.o p o)
 | l {p : Prop} {an : PT Γ} {o : OT ρ} (gs : List G) (e : Ex) (s : PSt Γ) (h : p) (f : Fp R an o) : Fp R (.a (.lg gs e s) an) (.o p o)
 | f {p : Prop} {an : PT Γ} {o : OT ρ} (e : Ex) (s : PSt Γ) (h : p) (f : Fp R an o) : Fp R (.a (.loop e s) an) (.o p o)
 | m {p : Prop} {an : PT Γ} {o : OT ρ} (k : Nat) (h : p) (f : Fp R an o) : Fp R (.l k an) (.o p o)
 | a {an : PT Γ} {o : OT ρ} (x : PA Γ) (f : Fp R an o) : Fp R (.a x an) o
theorem Fp.ends {Γ : Nat → Type} {ρ : Type} {R : ρ → Prop} {an : PT Γ} {o : OT ρ} (h : Fp R an o) : ∃ y, o.Ends y ∧ R y := by
 induction h with
 | r h => exact ⟨_, rfl, h⟩
 | g _ h => exact ⟨_, rfl, h⟩
 | s _ _ i1 i2 =>
  rename_i c _ _ _ _ _ _
  cases c with
  | true => obtain ⟨y, h1, h2⟩ := i1 rfl; exact ⟨y, .inl ⟨rfl, h1⟩, h2⟩
  | false => obtain ⟨y, h1, h2⟩ := i2 rfl; exact ⟨y, .inr ⟨rfl, h1⟩, h2⟩
 | z _ _ i1 i2 =>
  rename_i c _ _ _ _ _ _
  cases c with
  | true => obtain ⟨y, h1, h2⟩ := i1 rfl; exact ⟨y, .inl ⟨rfl, h1⟩, h2⟩
  | false => obtain ⟨y, h1, h2⟩ := i2 rfl; exact ⟨y, .inr ⟨rfl, h1⟩, h2⟩
 | a _ _ i => exact i
 | o h _ i => obtain ⟨y, h1, h2⟩ := i; exact ⟨y, ⟨h, h1⟩, h2⟩
 | b h _ i => obtain ⟨y, h1, h2⟩ := i; exact ⟨y, ⟨h, h1⟩, h2⟩
 | q _ h _ i => obtain ⟨y, h1, h2⟩ := i; exact ⟨y, ⟨h, h1⟩, h2⟩
 | c _ _ h _ i => obtain ⟨y, h1, h2⟩ := i; exact ⟨y, ⟨h, h1⟩, h2⟩
 | kf _ _ _ h _ i => obtain ⟨y, h1, h2⟩ := i; exact ⟨y, ⟨h, h1⟩, h2⟩
 | l _ _ _ h _ i => obtain ⟨y, h1, h2⟩ := i; exact ⟨y, ⟨h, h1⟩, h2⟩
 | f _ _ h _ i => obtain ⟨y, h1, h2⟩ := i; exact ⟨y, ⟨h, h1⟩, h2⟩
 | m _ h _ i => obtain ⟨y, h1, h2⟩ := i; exact ⟨y, ⟨h, h1⟩, h2⟩
section
variable {X : Cod} {P : Program} {T : Tab} {L : Nat}
def frz (r : PV X.Γ × List (PB X.Γ)) : Option (PV X.Γ) := view r.2 r.1
theorem con_view (hX : CodOk X P) {call : CallT} {f : FuncId} {vs : List (PV X.Γ)} {v w : PV X.Γ} {ext : List (PB X.Γ)} (hc : Con X P call f vs v ext) (hw : view ext v = some w) : Con X P call f vs w [] := by
 intro A h first args cap hup hv
 obtain ⟨x, h', m', c1, c2, c3, c4⟩ := hc A h first args cap hup hv
 refine ⟨x, h', [], c1, ⟨rfl, fun i b hb => by simp at hb, by simp [blks], c2.up, fun b hb => by simp [blks] at hb⟩, ?_, ?_⟩
 ·refine (view_VR (m' := []) hX c2 c3 hw (is := owns v) fun i hi => hi).mono fun b hb => ⟨?_, by simp [blks]⟩
  rcases hb with hb | ⟨i, mb, h1, h2, h3⟩
  ·exact hb.1
  ·exact c2.ownA b (own_mem h2 h3)
 ·exact ⟨c4.len, fun b hb hn => c4.same b hb hn, fun b hb => by simp [blks] at hb, c4.grow⟩
def endH (hd : PSt X.Γ → PSt X.Γ) (B : Nat) : Ex → PSt X.Γ → PT X.Γ → OT (Ex × PSt X.Γ) := fun e s an => match an with
 | .n => match e with
  | .norm => .ret (.norm, hd s)
  | e => .ret (e, s)
 | .a (.lg gs _ _) .n => match e with
  | .norm => match gsteps B gs (hd s) with
   | some s => .ret (.norm, s)
   | none => .bad
  | e => match gsteps B gs s with
   | some s => .ret (e, s)
   | none => .bad
 | _ => .bad
section
variable {f nt B : Nat} {rnd : Bool} {call : CallT} {orc : Orc X.Γ}
def RoundsH (X : Cod) (P : Program) (T : Tab) (call : CallT) (L f : Nat) (rnd : Bool) (nt B : Nat) (b : Code) (n : Nat) (ps : PSt X.Γ) (e : Ex) (ps1 : PSt X.Γ) : Prop :=
 ∀ (A W : Nat → Prop) (fl : Nat) (m : List MB) (ts : St), SR X P A W fl m ps (atHead (T.headAt f (headId b)) ts) → ∃ ts1 m1, iter (fun s => exec P T call L f rnd fl nt b (atHead (T.headAt f (headId b)) s)) n ts = some (e, ts1) ∧ SR X P A W fl m1 ps1 ts1 ∧ Fr m ts.heap m1 ts1.heap ∧ UpB B m m1
theorem roundsH_more {b : Code} {n k : Nat} {ps : PSt X.Γ} {e : Ex} {ps1 : PSt X.Γ} (h : RoundsH X P T call L f rnd nt B b n ps e ps1) (hk : n ≤ k) : RoundsH X P T call L f rnd nt B b k ps e ps1 := fun A W fl m ts hS => by
 obtain ⟨ts1, m1, h1, h2⟩ := h A W fl m ts hS
 exact ⟨ts1, m1, iter_le h1 hk, h2⟩
theorem loopH_of {b : Code} {n : Nat} {s0 ps : PSt X.Γ} {e : Ex} {ps1 : PSt X.Γ} (h : RoundsH X P T call L f rnd nt B b n ps e ps1) (h0 : patHead X (T.headAt f (headId b)) s0 = ps) (hn : n ≤ L) : ExecS X P T call L f rnd nt B (.loop b) s0 e ps1 := fun A W fl m ts hS => by
 obtain ⟨ts1, m1, h1, h2⟩ := roundsH_more h hn A W fl m ts (by rw [← h0]; exact hS.head _)
 exact ⟨ts1, m1, by simp only [exec]; exact h1, h2⟩
def Rnd (X : Cod) (P : Program) (T : Tab) (call : CallT) (L f : Nat) (rnd : Bool) (nt B : Nat) (b : Code) (n : Nat) (e : Ex) (s : PSt X.Γ) : Ex × PSt X.Γ → Prop
 | (.norm, s') => RoundsH X P T call L f rnd nt B b n s' e s
 | (e', s') => e' = e ∧ s' = s
theorem rnd_out {b : Code} {n : Nat} {e e' : Ex} {s s' : PSt X.Γ} (hn : e' ≠ .norm) (h : Rnd X P T call L f rnd nt B b n e s (e', s')) : e' = e ∧ s' = s := by
 cases e' with
 | norm => exact absurd rfl hn
 | exit id => exact h
 | ret => exact h
theorem round (hX : CodOk X P) (hO : OrcOk X P call orc) {b : Code} {n : Nat} {ps : PSt X.Γ} {an : PT X.Γ} {e : Ex} {s : PSt X.Γ} {o : OT (Ex × PSt X.Γ)}
  (hk : pexecK X P T orc (Sim X P call) (ExecS X P T call L f rnd nt B) B L f rnd nt b ps an (endH (patHead X (T.headAt f (headId b))) B) = o) (ht : Fp (Rnd X P T call L f rnd nt B b n e s) an o) : RoundsH X P T call L f rnd nt B b (n + 1) ps e s := by
 obtain ⟨⟨e', s'⟩, h1, h2⟩ := ht.ends
 rw [← hk] at h1
 intro A W fl m ts hS
 obtain ⟨e1, ts1, ps2, an1, m1, g1, g2, g3, g4, g5⟩ := exec_ok hX hO b hS h1
 have out : ∀ {e1 : Ex} {m2 : List MB}, exec P T call L f rnd fl nt b (atHead (T.headAt f (headId b)) ts) = some (e1, ts1) → e1 ≠ .norm → e1 = e ∧ s' = s → SR X P A W fl m2 s' ts1 → Fr m ts.heap m2 ts1.heap → UpB B m m2 → ∃ ts1 m1, iter (fun s => exec P T call L f rnd fl nt b (atHead (T.headAt f (headId b)) s)) (n + 1) ts = some (e, ts1) ∧ SR X P A W fl m1 s ts1 ∧ Fr m ts.heap m1 ts1.heap ∧ UpB B m m1 := by
  intro e1 m2 ge hn hh q1 q2 q3
  obtain ⟨rfl, rfl⟩ := hh
  refine ⟨ts1, m2, ?_, q1, q2, q3⟩
  cases e1 with
  | norm => exact absurd rfl hn
  | exit id => simp only [iter, ge]
  | ret => simp only [iter, ge]
 have on : ∀ {m2 : List MB}, exec P T call L f rnd fl nt b (atHead (T.headAt f (headId b)) ts) = some (.norm, ts1) → SR X P A W fl m2 s' (atHead (T.headAt f (headId b)) ts1) → Fr m ts.heap m2 ts1.heap → UpB B m m2 → RoundsH X P T call L f rnd nt B b n s' e s → ∃ ts1 m1, iter (fun s => exec P T call L f rnd fl nt b (atHead (T.headAt f (headId b)) s)) (n + 1) ts = some (e, ts1) ∧ SR X P A W fl m1 s ts1 ∧ Fr m ts.heap m1 ts1.heap ∧ UpB B m m1 := by
  intro m2 ge q1 q2 q3 hr
  obtain ⟨ts2, m3, r1, r2, r3, r4⟩ := hr A W fl m2 ts1 q1
  exact ⟨ts2, m3, by simp only [iter, ge, r1], r2, q2.trans r3, q3.trans r4⟩
 unfold endH at g2
 split at g2
 ·split at g2
  ·cases g2; exact on g1 (g3.head _) g4 g5 h2
  ·rename_i e1 hne
   cases g2
   exact out g1 (fun h => hne h) (rnd_out (fun h => hne h) h2) g3 g4 g5
 ·split at g2
  ·split at g2
   ·rename_i hg
    cases g2
    obtain ⟨m2, q1, q2, q3⟩ := gsteps_ok hX hg _ _ _ _ _ (g3.head _)
    exact on g1 q1 (g4.trans q2) (g5.trans q3) h2
   ·exact g2.elim
  ·rename_i e1 hne
   split at g2
   ·rename_i hg
    cases g2
    obtain ⟨m2, q1, q2, q3⟩ := gsteps_ok hX hg _ _ _ _ _ g3
    exact out g1 (fun h => hne h) (rnd_out (fun h => hne h) h2) q1 (g4.trans q2) (g5.trans q3)
   ·exact g2.elim
 ·exact g2.elim
end
structure Ar (X : Cod) (P : Program) (α : Type) where
 put : α → PV X.Γ
 get : PV X.Γ → Option α
 ok : ∀ {v : PV X.Γ} {a : α}, get v = some a → ∀ {A : Nat → Prop} {m : List MB} {h : List HB} {x : TV}, VR X P A m h v x → VR X P A m h (put a) x
structure ArL (X : Cod) (P : Program) (α : Type) where
 put : α → List (PV X.Γ)
 get : List (PV X.Γ) → Option α
 ok : ∀ {v : List (PV X.Γ)} {a : α}, get v = some a → ∀ {A : Nat → Prop} {m : List MB} {h : List HB} {x : List TV}, VRs X P A m h v x → VRs X P A m h (put a) x
def intA (k : IntKind) : Ar X P Int where
 put n := .int k n
 get v := match v with
  | .int k' n => if k' = k then some n else none
  | _ => none
 ok := by
  intro v a hg A m h x hv
  split at hg
  ·split at hg
   ·rename_i e; subst e; cases hg; exact hv
   ·cases hg
  ·cases hg
def boolA : Ar X P Bool where
 put n := .bool n
 get v := match v with
  | .bool n => some n
  | .lit n => some n
  | _ => none
 ok := by
  intro v a hg A m h x hv
  split at hg
  ·cases hg; exact hv
  ·cases hg; exact unlit_VR hv
  ·cases hg
theorem VR.less {A : Nat → Prop} {m : List MB} {h : List HB} {t : Nat} {l : List (X.Γ t)} {fu : Bool} {x : TV} (hv : VR X P A m h (.lst t l fu) x) : VR X P A m h (.lst t l false) x := by
 cases hv with
 | gone hi _ _ => simp [idOf] at hi
 | lstN => exact .lstN
 | lst a c s z o k f e r => exact .lst a c s z o k (fun h => by cases h) e r
def lstA (t : Nat) : Ar X P (List (X.Γ t)) where
 put l := .lst t l false
 get v := match v with
  | .lst t' l _ => castL t t' l
  | .nil .slc => some []
  | _ => none
 ok := by
  intro v a hg A m h x hv
  split at hg
  ·obtain ⟨rfl, rfl⟩ := castL_eq hg; exact hv.less
  ·cases hg
   cases hv with
   | nil => exact .lstN
   | gone hi _ _ => simp [idOf] at hi
  ·cases hg
def aggA (hX : CodOk X P) (t : Nat) : Ar X P (X.Γ t) where
 put a := .agg (X.enc t a)
 get v := match v with
  | .agg cs => X.dec t cs
  | _ => none
 ok := by
  intro v a hg A m h x hv
  split at hg
  ·cases hv with
   | gone hi _ _ => simp [idOf] at hi
   | agg h1 h2 => obtain ⟨h3, h4⟩ := hX.dec hg ⟨h1, h2⟩; exact .agg h3 h4
  ·cases hg
def fnA (f : FuncId) : Ar X P Unit where
 put _ := .fn f [] []
 get v := match v with
  | .fn g [] [] => if g = f then some () else none
  | _ => none
 ok := by
  intro v a hg A m h x hv
  split at hg
  ·split at hg
   ·rename_i e; subst e; exact hv
   ·cases hg
  ·cases hg
def nilA : ArL X P Unit where
 put _ := []
 get v := match v with
  | [] => some ()
  | _ => none
 ok := by
  intro v a hg A m h x hv
  split at hg
  ·exact hv
  ·cases hg
def conA {α β : Type} (a : Ar X P α) (l : ArL X P β) : ArL X P (α × β) where
 put x := a.put x.1 :: l.put x.2
 get v := match v with
  | v :: vs => match a.get v, l.get vs with
   | some x, some y => some (x, y)
   | _, _ => none
  | _ => none
 ok := by
  intro v x hg A m h xs hv
  split at hg
  ·split at hg
   ·rename_i e1 e2
    cases hg
    obtain ⟨y, r, rfl, h1, h2⟩ := hv.inv
    exact .cons (a.ok e1 h1) (l.ok e2 h2)
   ·cases hg
  ·cases hg
def oneA {α : Type} (a : Ar X P α) : ArL X P α where
 put x := [a.put x]
 get v := match v with
  | [v] => a.get v
  | _ => none
 ok := by
  intro v x hg A m h xs hv
  split at hg
  ·obtain ⟨y, r, rfl, h1, h2⟩ := hv.inv
   have := h2.inv0; subst this
   exact .cons (a.ok hg h1) .nil
  ·cases hg
def tupA {α : Type} (l : ArL X P α) : Ar X P α where
 put x := .tup (l.put x)
 get v := match v with
  | .tup cs => l.get cs
  | _ => none
 ok := by
  intro v x hg A m h xs hv
  split at hg
  ·cases hv with
   | gone hi _ _ => simp [idOf] at hi
   | tup h1 h2 => obtain ⟨h3, h4⟩ := l.ok hg ⟨h1, h2⟩; exact .tup h3 h4
  ·cases hg
def aggL {α : Type} (l : ArL X P α) : Ar X P α where
 put x := .agg (l.put x)
 get v := match v with
  | .agg cs => l.get cs
  | _ => none
 ok := by
  intro v x hg A m h xs hv
  split at hg
  ·cases hv with
   | gone hi _ _ => simp [idOf] at hi
   | agg h1 h2 => obtain ⟨h3, h4⟩ := l.ok hg ⟨h1, h2⟩; exact .agg h3 h4
  ·cases hg
def isoA {α β : Type} (a : Ar X P α) (f : α → β) (g : β → α) (hgf : ∀ x, g (f x) = x) : Ar X P β where
 put x := a.put (g x)
 get v := match a.get v with
  | some x => some (f x)
  | none => none
 ok := by
  intro v x hg A m h xs hv
  split at hg
  ·rename_i y hy
   cases hg
   rw [hgf]
   exact a.ok hy hv
  ·cases hg
def Good (X : Cod) (P : Program) (T : Tab) (L : Nat) (orc : Orc X.Γ) : Prop := ∃ N, ∀ n, N ≤ n → OrcOk X P (apN P T L n) orc
def orc0 : Orc X.Γ := fun _ _ => none
def orcF {α β : Type} (f : FuncId) (a : ArL X P α) (r : Ar X P β) (S : α → β) (pre : α → List Prop) (orc : Orc X.Γ) : Orc X.Γ := fun g vs =>
 match Nat.beq g f with
 | true => match a.get vs with
  | some x => some (r.put (S x), [], pre x)
  | none => orc g vs
 | false => orc g vs
theorem Good.nil : Good X P T L (orc0 (X := X)) := ⟨0, fun n _ f vs v ext ps h => by cases h⟩
theorem Good.add {α β : Type} {f : FuncId} {a : ArL X P α} {r : Ar X P β} {S : α → β} {pre : α → List Prop} {orc : Orc X.Γ} (hg : Good X P T L orc)
  (hf : ∀ n, OrcOk X P (apN P T L n) orc → ∀ x, (∀ p ∈ pre x, p) → Con X P (apN P T L (n + 1)) f (a.put x) (r.put (S x)) []) : Good X P T L (orcF f a r S pre orc) := by
 obtain ⟨N, hN⟩ := hg
 refine ⟨N + 1, fun n hn => ?_⟩
 obtain ⟨k, rfl⟩ : ∃ k, n = k + 1 := ⟨n - 1, by omega⟩
 intro g vs v ext ps ho hp
 unfold orcF at ho
 split at ho
 ·rename_i e
  have e := Nat.eq_of_beq_eq_true e
  subst e
  split at ho
  ·rename_i x hx
   cases ho
   intro A h first args cap hup hv
   exact hf k (hN k (by omega)) x hp A h first args cap hup (a.ok hx hv)
  ·exact hN (k + 1) (by omega) g vs v ext ps ho hp
 ·exact hN (k + 1) (by omega) g vs v ext ps ho hp
theorem Good.deep {α β : Type} {f : FuncId} {a : ArL X P α} {r : Ar X P β} {S : α → β} {pre : α → List Prop} {orc : Orc X.Γ} (d : Nat) (hg : Good X P T L orc)
  (hf : ∀ n, d ≤ n → (∀ m, n - d ≤ m → OrcOk X P (apN P T L m) orc) → ∀ x, (∀ p ∈ pre x, p) → Con X P (apN P T L (n + 1)) f (a.put x) (r.put (S x)) []) : Good X P T L (orcF f a r S pre orc) := by
 obtain ⟨N, hN⟩ := hg
 refine ⟨N + d + 1, fun n hn => ?_⟩
 obtain ⟨k, rfl⟩ : ∃ k, n = k + 1 := ⟨n - 1, by omega⟩
 intro g vs v ext ps ho hp
 unfold orcF at ho
 split at ho
 ·rename_i e
  have e := Nat.eq_of_beq_eq_true e
  subst e
  split at ho
  ·rename_i x hx
   cases ho
   intro A h first args cap hup hv
   exact hf k (by omega) (fun m hm => hN m (by omega)) x hp A h first args cap hup (a.ok hx hv)
  ·exact hN (k + 1) (by omega) g vs v ext ps ho hp
 ·exact hN (k + 1) (by omega) g vs v ext ps ho hp
def Is {β : Type} (r : Ar X P β) (s : β) : Option (PV X.Γ) → Prop := fun v => v = some (r.put s) ∨ ∃ w, v = some w ∧ r.get w = some s
theorem fn_is {β : Type} (hX : CodOk X P) {n f : Nat} {orc : Orc X.Γ} (hO : OrcOk X P (apN P T L n) orc) {vs : List (PV X.Γ)} {an : PT X.Γ} {r : Ar X P β} {s : β} {o : OT (Option (PV X.Γ))}
  (hk : (pfunK X P T orc (Sim X P (apN P T L n)) (LoopS X P T (apN P T L n) L f 0) L f vs [] an).map frz = o) (ht : Fp (Is r s) an o) : Con X P (apN P T L (n + 1)) f vs (r.put s) [] :=
 by
 obtain ⟨v, h1, h2⟩ := ht.ends
 rw [← hk] at h1
 obtain ⟨⟨v, H⟩, h3, rfl⟩ := OT.map_ends h1
 rcases h2 with h2 | ⟨w, h2, h4⟩
 ·exact con_view hX (con_fn hX (n := n + 1) (by omega) hO h3) h2
 ·intro A h first args cap hup hv
  obtain ⟨x, h', m', c1, c2, c3, c4⟩ := con_view hX (con_fn hX (n := n + 1) (by omega) hO h3) h2 A h first args cap hup hv
  exact ⟨x, h', m', c1, c2, r.ok h4 c3, c4⟩
theorem Fp.rr {β : Type} {r : Ar X P β} {s : β} : Fp (Is r s) (.n : PT X.Γ) (.ret (some (r.put s))) := .r (.inl rfl)
theorem Fp.rn {β : Type} {r : Ar X P β} {s : β} (w : PV X.Γ) (h : r.get w = some s) : Fp (Is r s) (.n : PT X.Γ) (.ret (some w)) := .r (.inr ⟨w, rfl, h⟩)
theorem Fp.ss {β : Type} {r : Ar X P β} {c : Bool} {t e : β} {a b : PT X.Γ} {x y : OT (Option (PV X.Γ))} (h1 : Fp (Is r t) a x) (h2 : Fp (Is r e) b y) : Fp (Is r (if c = true then t else e)) (.s a b) (.br c x y) :=
 .s (fun h => by subst h; exact h1) (fun h => by subst h; exact h2)
theorem Fp.sh {β : Type} {r : Ar X P β} {c : Bool} {t e : β} {a b : PT X.Γ} {x y : OT (Option (PV X.Γ))} (h1 : c = true → Fp (Is r t) a x) (h2 : c = false → Fp (Is r e) b y) : Fp (Is r (if c = true then t else e)) (.s a b) (.br c x y) :=
 .s (fun h => by rw [if_pos h]; exact h1 h) (fun h => by rw [if_neg (by rw [h]; simp)]; exact h2 h)
theorem Fp.zh {β : Type} {r : Ar X P β} {c : Bool} {t e : β} {a b : PT X.Γ} {x y : OT (Option (PV X.Γ))} (h1 : c = true → Fp (Is r t) a x) (h2 : c = false → Fp (Is r e) b y) : Fp (Is r (if c = true then t else e)) (.z c a b) (.br c x y) :=
 .z (fun h => by rw [if_pos h]; exact h1 h) (fun h => by rw [if_neg (by rw [h]; simp)]; exact h2 h)
theorem Fp.v {β : Type} {r : Ar X P β} {s : β} (u : β) (h : u = s) : Fp (Is r s) (.n : PT X.Γ) (.ret (some (r.put u))) := .r (.inl (by rw [h]))
theorem Fp.k {τ : Type} {R : τ → Prop} {call : CallT} {fv v : PV X.Γ} {xs : List (PV X.Γ)} {H H1 : List (PB X.Γ)} {an : PT X.Γ} {o : OT τ} (h : Sim X P call fv xs H v H1) (t : Fp R an o) : Fp R (.a (.call v H1) an) (.o (Sim X P call fv xs H v H1) o) := .c v H1 h t
theorem Fp.fr {τ : Type} {R : τ → Prop} {call : CallT} {fv v : PV X.Γ} {xs : List (PV X.Γ)} {H H1 : List (PB X.Γ)} {an : PT X.Γ} {o : OT τ} (ks : List Nat) (h : Sim X P call fv xs H v H1) (t : Fp R an o) : Fp R (.a (.fr ks v H1) an) (.o (Sim X P call fv xs H v H1) o) := .kf ks v H1 h t
def IsS {β : Type} (r : Ar X P β) (s : β) (H : List (PB X.Γ)) : PV X.Γ × List (PB X.Γ) → Prop := fun v => v = (r.put s, H)
theorem Fp.sr {β : Type} {r : Ar X P β} {s : β} {H : List (PB X.Γ)} : Fp (IsS r s H) (.n : PT X.Γ) (.ret (r.put s, H)) := .r rfl
theorem Fp.szh {β : Type} {r : Ar X P β} {H : List (PB X.Γ)} {c : Bool} {t e : β} {a b : PT X.Γ} {x y : OT (PV X.Γ × List (PB X.Γ))} (h1 : c = true → Fp (IsS r t H) a x) (h2 : c = false → Fp (IsS r e H) b y) : Fp (IsS r (if c = true then t else e) H) (.z c a b) (.br c x y) :=
 .z (fun h => by rw [if_pos h]; exact h1 h) (fun h => by rw [if_neg (by rw [h]; simp)]; exact h2 h)
theorem Fp.ssh {β : Type} {r : Ar X P β} {H : List (PB X.Γ)} {c : Bool} {t e : β} {a b : PT X.Γ} {x y : OT (PV X.Γ × List (PB X.Γ))} (h1 : c = true → Fp (IsS r t H) a x) (h2 : c = false → Fp (IsS r e H) b y) : Fp (IsS r (if c = true then t else e) H) (.s a b) (.br c x y) :=
 .s (fun h => by rw [if_pos h]; exact h1 h) (fun h => by rw [if_neg (by rw [h]; simp)]; exact h2 h)
theorem sim_is {β : Type} (hX : CodOk X P) {n f : Nat} {orc : Orc X.Γ} (hO : OrcOk X P (apN P T L n) orc) {first xs cap : List (PV X.Γ)} {H H1 : List (PB X.Γ)} {an : PT X.Γ} {r : Ar X P β} {s : β} {o : OT (PV X.Γ × List (PB X.Γ))}
  (hk : pfunK X P T orc (Sim X P (apN P T L n)) (LoopS X P T (apN P T L n) L f H.length) L f (first ++ xs ++ cap) H an = o) (ht : Fp (IsS r s H1) an o) : Sim X P (apN P T L (n + 1)) (.fn f first cap) xs H (r.put s) H1 := by
 obtain ⟨y, h1, h2⟩ := ht.ends
 cases h2
 rw [← hk] at h1
 exact sim_fn hX (n := n + 1) (by omega) hO h1
theorem sim_orc (hX : CodOk X P) {call : CallT} {orc : Orc X.Γ} (hO : OrcOk X P call orc) {f : FuncId} {first xs cap vs : List (PV X.Γ)} {v : PV X.Γ} {ps : List Prop} {H : List (PB X.Γ)} (hv : views H (first ++ xs ++ cap) = some vs) (ho : orc f vs = some (v, [], ps)) (hp : ∀ p ∈ ps, p) (hl : hasL v = false) :
  Sim X P call (.fn f first cap) xs H (shift H.length v) H := by
 intro A m h tf txs hr hf hx
 cases hf with
 | gone hi _ _ => simp [idOf] at hi
 | fn p1 p2 p3 p4 =>
  obtain ⟨w, h1, m1, e1, e2, e3, e4, e5⟩ := con_use hX (hO f vs v [] ps ho hp) hr hv (ext' := []) rfl ⟨p1, p2⟩ hx ⟨p3, p4⟩
  simp only [hl, List.any_nil, Bool.or_self, Bool.false_eq_true, if_false, List.append_nil] at e2
  exact ⟨w, h1, [], m1, e1, e2, e3, e4, e5, fun b hb => by cases hb⟩
def a1 {α : Type} (a : Ar X P α) : ArL X P α := oneA a
def a2 {α β : Type} (a : Ar X P α) (b : Ar X P β) : ArL X P (α × β) := conA a (oneA b)
def a3 {α β γ : Type} (a : Ar X P α) (b : Ar X P β) (c : Ar X P γ) : ArL X P (α × β × γ) := conA a (a2 b c)
def a4 {α β γ δ : Type} (a : Ar X P α) (b : Ar X P β) (c : Ar X P γ) (d : Ar X P δ) : ArL X P (α × β × γ × δ) := conA a (a3 b c d)
def np {α : Type} : α → List Prop := fun _ => []
end
end Pv
namespace Tw
open Go
def eb : TV → Nat
 | .slc b _ _ _ _ _ => b
 | _ => 0
def eo : TV → Int → Nat
 | .slc _ off _ _ sz _, i => off + i.toNat * sz
 | _, _ => 0
def SV {α : Type} (h : List HB) (x : TV) (sz : Nat) (enc : α → List TV) (l : List α) : Prop :=
 (x = .nil .slc ∧ l = []) ∨ ∃ b off cap ex, x = .slc b off l.length cap sz ex ∧ RwS h b off sz (l.map enc)
section
variable {P : Program} {α : Type} {h : List HB} {x : TV} {sz : Nat} {enc : α → List TV} {l : List α}
theorem SV.app (hs : SV h x sz enc l) (ext : List HB) : SV (h ++ ext) x sz enc l := by
 rcases hs with h | ⟨b, off, cap, ex, h1, h2⟩
 ·exact .inl h
 ·exact .inr ⟨b, off, cap, ex, h1, h2.app ext⟩
theorem SV.len (hs : SV h x sz enc l) {t e : TypeId} (ht : P.underlying t = some (.slice e)) : lenT P #[t] h x = some (.int .i64 (l.length : Nat), noInf) := by
 rcases hs with ⟨rfl, rfl⟩ | ⟨b, off, cap, ex, rfl, h2⟩
 ·simp only [lenT, show (#[t] : Array TypeId)[0]? = some t from rfl, ht, List.length_nil]; rfl
 ·simp only [lenT, show (#[t] : Array TypeId)[0]? = some t from rfl, ht]
theorem SV.ix (hs : SV h x sz enc l) {t e : TypeId} (ht : P.underlying t = some (.slice e)) (he : sizeT P e = some sz) {i : Int} (h0 : 0 ≤ i) (h1 : i < l.length) :
  indexAddrT P t (.val x) (.int .i64 i) = some (.val (.ptr (eb x) (eo x i) (eo x i + sz))) := by
 rcases hs with ⟨rfl, rfl⟩ | ⟨b, off, cap, ex, rfl, h2⟩
 ·simp only [List.length_nil] at h1; omega
 ·simp only [indexAddrT, ht, he, if_true, idx_int h0 h1, Option.map_some, eb, eo]
theorem SV.rw (hs : SV h x sz enc l) {i : Int} (h0 : 0 ≤ i) (h1 : i < l.length) (d : α) : Rw h (eb x) (eo x i) (enc (l.getD i.toNat d)) := by
 rcases hs with ⟨rfl, rfl⟩ | ⟨b, off, cap, ex, rfl, h2⟩
 ·simp only [List.length_nil] at h1; omega
 ·have hlt : i.toNat < l.length := by omega
  exact h2.row (by simp [List.getD, List.getElem?_eq_getElem hlt])
theorem SV.agg (hs : SV h x sz enc l) {i : Int} (h0 : 0 ≤ i) (h1 : i < l.length) (d : α) (hz : (enc (l.getD i.toNat d)).length = sz) : rdAt true sz h (eb x) (eo x i) (eo x i + sz) = some (.agg (enc (l.getD i.toNat d))) :=
 (hs.rw h0 h1 d).agg hz (Nat.le_refl _)
theorem SV.new {h : List HB} {k : BK} {cap : Nat} {ex : Bool} (l : List α) (hz : ∀ a ∈ l, (enc a).length = sz) {cs : List TV} (hc : cs = (l.map enc).flatten) : SV (h ++ [.cells k cs]) (.slc h.length 0 l.length cap sz ex) sz enc l := by
 subst hc
 refine .inr ⟨_, _, _, _, rfl, ?_⟩
 refine ⟨by simpa using hz, _, blkCells_new, ?_⟩
 unfold sub
 have : (l.map enc).flatten.length = l.length * sz := by
  clear h
  induction l with
  | nil => simp
  | cons a l ih => simp only [List.map_cons, List.flatten_cons, List.length_append, List.length_cons, Nat.add_mul, Nat.one_mul, ih fun b hb => hz b (List.mem_cons_of_mem _ hb), hz a (List.mem_cons_self ..)]; omega
 rw [if_pos (by simp only [List.length_map]; omega), List.drop_zero, List.take_of_length_le (by simp only [List.length_map]; omega)]
theorem SV.nil : SV h (.nil .slc) sz enc ([] : List α) := .inl ⟨rfl, rfl⟩
end
end Tw
namespace Tw
theorem SV.one {α : Type} {h : List HB} {x : TV} {sz : Nat} {enc : α → List TV} {l : List α} (hs : SV h x sz enc l) : oneT x = true := by
 rcases hs with ⟨rfl, rfl⟩ | ⟨b, off, cap, ex, rfl, h2⟩ <;> rfl
end Tw
namespace Tw
open Go
theorem SV.part {α : Type} {sz : Nat} {enc : α → List TV} {h : List HB} {k : BK} {cap : Nat} {ex : Bool} (off : Nat) (l : List α) {cs : List TV} (hz : ∀ a ∈ l, (enc a).length = sz) (hc : (cs.drop off).take (l.length * sz) = (l.map enc).flatten) (hle : off + l.length * sz ≤ cs.length) :
  SV (h ++ [.cells k cs]) (.slc h.length off l.length cap sz ex) sz enc l := by
 refine .inr ⟨_, _, _, _, rfl, ?_⟩
 refine ⟨by simpa using hz, _, blkCells_new, ?_⟩
 unfold sub
 rw [List.length_map, if_pos hle, hc]
end Tw
namespace Tw
open Go
def runL {α σ ρ : Type} (step : Nat → α → σ → σ ⊕ ρ) : List α → Nat → σ → σ ⊕ ρ
 | [], _, s => .inl s
 | a :: l, i, s => match step i a s with
  | .inl s' => runL step l (i + 1) s'
  | .inr r => .inr r
def isL {σ ρ : Type} : σ ⊕ ρ → Bool
 | .inl _ => true
 | .inr _ => false
def getL {σ ρ : Type} (d : σ) : σ ⊕ ρ → σ
 | .inl s => s
 | .inr _ => d
def getR {σ ρ : Type} (d : ρ) : σ ⊕ ρ → ρ
 | .inl _ => d
 | .inr r => r
def getE {σ : Type} : σ ⊕ Empty → σ
 | .inl s => s
theorem SV.at {α : Type} {h : List HB} {x : TV} {sz : Nat} {enc : α → List TV} {l : List α} (hs : SV h x sz enc l) {i : Nat} {a : α} (ha : l[i]? = some a) : (i : Int) < l.length ∧ Rw h (eb x) (eo x i) (enc a) := by
 have h1 : i < l.length := by
  rcases Nat.lt_or_ge i l.length with h | h
  ·exact h
  ·rw [List.getElem?_eq_none h] at ha; cases ha
 have := hs.rw (i := i) (by omega) (by omega) a
 simp only [Int.toNat_natCast, List.getD, ha, Option.getD_some] at this
 exact ⟨by omega, this⟩
end Tw
namespace Tw
open Go
def Onto (h0 H : List HB) : Prop := ∃ ext, H = h0 ++ ext
theorem Onto.refl {h : List HB} : Onto h h := ⟨[], by simp⟩
theorem Onto.app {h0 H : List HB} (h : Onto h0 H) (e : List HB) : Onto h0 (H ++ e) := by
 obtain ⟨x, rfl⟩ := h
 exact ⟨x ++ e, by simp⟩
theorem Onto.trans {a b c : List HB} (h : Onto a b) (g : Onto b c) : Onto a c := by
 obtain ⟨x, rfl⟩ := h
 obtain ⟨y, rfl⟩ := g
 exact ⟨x ++ y, by simp⟩
def App {α : Type} (h0 H : List HB) (x : TV) (sz : Nat) (enc : α → List TV) (l : List α) : Prop :=
 Onto h0 H ∧ ((x = .nil .slc ∧ l = []) ∨ ∃ b k, x = .slc b 0 l.length l.length sz false ∧ h0.length ≤ b ∧ l ≠ [] ∧ k ≠ .ro ∧ H[b]? = some (.cells k (l.map enc).flatten))
section
variable {P : Program} {α : Type} {h0 H : List HB} {x : TV} {sz : Nat} {enc : α → List TV} {l : List α}
theorem flat_len (hz : ∀ a, (enc a).length = sz) : ∀ l : List α, (l.map enc).flatten.length = l.length * sz
 | [] => by simp
 | a :: l => by simp only [List.map_cons, List.flatten_cons, List.length_append, List.length_cons, Nat.add_mul, Nat.one_mul, flat_len hz l, hz]; omega
theorem App.sv (h : App h0 H x sz enc l) (hz : ∀ a, (enc a).length = sz) : SV H x sz enc l := by
 obtain ⟨_, h | ⟨b, k, rfl, h1, h2, h3, h4⟩⟩ := h
 ·exact .inl h
 ·refine .inr ⟨b, 0, _, _, rfl, by simpa using fun a _ => hz a, (l.map enc).flatten, by simp [blkCells, h4], ?_⟩
  unfold sub
  rw [List.length_map, if_pos (by rw [flat_len hz]; omega), List.drop_zero, List.take_of_length_le (by rw [flat_len hz]; omega)]
theorem App.one (h : App h0 H x sz enc l) : oneT x = true := by
 obtain ⟨_, ⟨rfl, _⟩ | ⟨b, k, rfl, _⟩⟩ := h <;> rfl
theorem App.app (h : App h0 H x sz enc l) (e : List HB) : App h0 (H ++ e) x sz enc l := by
 obtain ⟨h0', h | ⟨b, k, rfl, h1, h2, h3, h4⟩⟩ := h
 ·exact ⟨h0'.app e, .inl h⟩
 ·refine ⟨h0'.app e, .inr ⟨b, k, rfl, h1, h2, h3, ?_⟩⟩
  have hb : b < H.length := by
   rcases Nat.lt_or_ge b H.length with h | h
   ·exact h
   ·rw [List.getElem?_eq_none h] at h4; cases h4
  rw [List.getElem?_append_left hb]; exact h4
theorem bigRoom_le {e : TypeId} {N n : Nat} (h : bigRoom P e N = true) (hn : n ≤ N) : bigRoom P e n = true := by
 unfold bigRoom at h ⊢
 split at h
 ·rename_i i hi
  simp only [Bool.and_eq_true, decide_eq_true_eq] at h ⊢
  obtain ⟨⟨⟨⟨h1, h2⟩, h3⟩, h4⟩, h5⟩ := h
  exact ⟨⟨⟨⟨Nat.le_trans (Nat.mul_le_mul_right _ hn) h1, by omega⟩, h3⟩, h4⟩, h5⟩
 ·cases h
theorem addKs_one {fl b : Nat} {ws : List Nat} (h : fl ≤ b) : addKs fl [.h b] ws = ws := by
 simp only [addKs, addW]
 rw [if_neg (by omega)]
theorem App.push (h : App h0 H x sz enc l) (hz : ∀ a, (enc a).length = sz) (hs : 0 < sz) {st xt e : TypeId} (he : sliceElem P st = some (e, sz)) (hx : (isIntT P xt || (P.underlying xt).isNone) = false) {N : Nat} (hN : bigRoom P e N = true) (hl : l.length < N) (r : α) :
  ∃ x' H' i, appendT P #[st, xt] (onH (H ++ [.cells .own (enc r)])) x (.slc H.length 0 1 1 sz true) = some (x', onH H', i) ∧ App h0 H' x' sz enc (l ++ [r]) ∧ ∀ fl ws, fl ≤ h0.length → addKs fl i.ws ws = ws := by
 have hsrc : srcCells sz (H ++ [.cells .own (enc r)]) (.slc H.length 0 1 1 sz true) = some (1, enc r) := by
  simp only [srcCells, if_true, blkCells_new, Nat.one_mul, sub]
  rw [if_pos (by rw [hz]; omega), List.drop_zero, List.take_of_length_le (by rw [hz]; omega)]
  rfl
 have hat : (#[st, xt] : Array TypeId)[0]? = some st := rfl
 have hat1 : (#[st, xt] : Array TypeId)[1]? = some xt := rfl
 have hlen : (enc r).length = 1 * sz := by rw [hz]; omega
 obtain ⟨hE, ⟨rfl, rfl⟩ | ⟨b, k, rfl, h1, h2, h3, h4⟩⟩ := h
 ·refine ⟨.slc (H ++ [HB.cells .own (enc r)]).length 0 1 1 sz false, (H ++ [HB.cells .own (enc r)]) ++ [.cells .own (enc r)], ⟨false, [.h H.length], []⟩, ?_, ?_, ?_⟩
  ·simp only [appendT, hat, hat1, hx, he, hsrc, hlen, Bool.false_eq_true, if_false, Nat.one_ne_zero, if_true, bigRoom_le hN (show 1 ≤ N by simp only [List.length_nil] at hl; omega)]
   rfl
  ·refine ⟨(hE.app _).app _, .inr ⟨_, .own, rfl, ?_, by simp, by simp, by simp⟩⟩
   obtain ⟨e', rfl⟩ := hE
   simp only [List.length_append]; omega
  ·intro fl ws _; rfl
 ·have hb : b < H.length := by
   rcases Nat.lt_or_ge b H.length with h | h
   ·exact h
   ·rw [List.getElem?_eq_none h] at h4; cases h4
  have hg : (H ++ [HB.cells .own (enc r)])[b]? = some (.cells k (l.map enc).flatten) := by
   rw [List.getElem?_append_left hb]; exact h4
  have hpos : l.length ≠ 0 := by
   cases l with
   | nil => exact (h2 rfl).elim
   | cons a l => simp
  refine ⟨.slc b 0 (l.length + 1) (l.length + 1) sz false, (H ++ [HB.cells .own (enc r)]).set b (HB.cells .grow ((l.map enc).flatten ++ enc r)), ⟨false, [.h b, .h H.length], [.h b]⟩, ?_, ?_, ?_⟩
  ·simp only [appendT, hat, hat1, hx, he, hsrc, hlen, Bool.false_eq_true, if_false, Nat.one_ne_zero, if_true, bigRoom_le hN (show l.length + 1 ≤ N by omega), hg, flat_len hz]
   rw [if_neg (by omega), if_neg (by simp [h3, hpos])]
   rfl
  ·obtain ⟨e', rfl⟩ := hE
   refine ⟨⟨(e' ++ [HB.cells .own (enc r)]).set (b - h0.length) (HB.cells .grow ((l.map enc).flatten ++ enc r)), ?_⟩, .inr ⟨b, .grow, by simp, h1, by simp, by simp, ?_⟩⟩
   ·rw [List.append_assoc, List.set_append_right _ _ h1]
   ·rw [List.getElem?_set_self (by simp only [List.length_append] at hb ⊢; omega)]
    simp
  ·intro fl ws hfl
   exact addKs_one (by omega)
end
end Tw
namespace Tw
open Go
def bld {α β : Type} (f : List β → Nat → α → List β) : List α → Nat → List β → List β
 | [], _, l => l
 | a :: t, i, l => bld f t (i + 1) (l ++ f l i a)
theorem App.cases {α : Type} {h0 H : List HB} {x : TV} {sz : Nat} {enc : α → List TV} {l : List α} (h : App h0 H x sz enc l) : (x = .nil .slc ∧ l = []) ∨ ∃ b k, x = .slc b 0 k k sz false := by
 obtain ⟨_, h | ⟨b, k, rfl, _⟩⟩ := h
 ·exact .inl h
 ·exact .inr ⟨b, _, rfl⟩
end Tw
namespace Pv
open Go Tw
def loopsIn : Code → List Code
 | .seq a b => loopsIn a ++ loopsIn b
 | .cond _ a b => loopsIn a ++ loopsIn b
 | .block _ b => loopsIn b
 | .loop b => b :: loopsIn b
 | .scope b => loopsIn b
 | .rangeFunc _ _ a b => loopsIn a ++ loopsIn b
 | _ => []
def bodyP (P : Program) (f k : Nat) : Code :=
 match fnT P f with
 | some t => (loopsIn t.body).getD k .skip
 | none => .skip
theorem wrap_up {k : Nat} (h : k ≤ most) : IntKind.i64.wrap ((k : Int) + 1) = ((k + 1 : Nat) : Int) := by
 simp only [IntKind.wrap, IntKind.bits, IntKind.signed]
 unfold most at h
 have : ((k : Int) + 1) % (2 ^ 64 : Int) = (k : Int) + 1 := Int.emod_eq_of_lt (by omega) (by omega)
 simp only [this]
 rw [if_neg (by simp; omega)]
 omega
theorem inR_nat {k n : Nat} (h : k < n) : inR k n := ⟨by omega, by omega⟩
theorem lt_nat {k n : Nat} (h : k < n) : decide ((k : Int) < (n : Int)) = true := by simp [h]
theorem lt_no (n : Nat) : decide ((n : Int) < (n : Int)) = false := by simp
section
variable {X : Cod} {P : Program} {T : Tab} {L : Nat} {f nt B : Nat} {rnd : Bool} {call : CallT} {b : Code} {σ α ρ : Type}
theorem Fp.w {τ : Type} {R : τ → Prop} {c : Code} {e : Ex} {s s' : PSt X.Γ} {an : PT X.Γ} {o : OT τ} (h : ExecS X P T call L f rnd nt B c s e s') (t : Fp R an o) : Fp R (.a (.lg [] e s') an) (.o (ExecS X P T call L f rnd nt B c s e s') o) := .l [] e s' h t
theorem Fp.wG {τ : Type} {R : τ → Prop} (gs : List G) {c : Code} {e : Ex} {s s' : PSt X.Γ} {an : PT X.Γ} {o : OT τ} (h : ExecS X P T call L f rnd nt B c s e s') (t : Fp R an o) : Fp R (.a (.lg gs e s') an) (.o (ExecS X P T call L f rnd nt B c s e s') o) := .l gs e s' h t
theorem Fp.go {n : Nat} {e : Ex} {s s' : PSt X.Γ} (h : RoundsH X P T call L f rnd nt B b n s' e s) : Fp (Rnd X P T call L f rnd nt B b n e s) (.n : PT X.Γ) (.ret (.norm, s')) := Fp.r (v := (Ex.norm, s')) h
theorem Fp.goG {n : Nat} {e : Ex} {s s' : PSt X.Γ} (gs : List G) (h : RoundsH X P T call L f rnd nt B b n s' e s) : Fp (Rnd X P T call L f rnd nt B b n e s) (.a (.lg gs .norm ⟨[], [], []⟩) .n : PT X.Γ) (.ret (.norm, s')) := Fp.g (v := (Ex.norm, s')) gs h
theorem Fp.ex {n i : Nat} {s : PSt X.Γ} : Fp (Rnd X P T call L f rnd nt B b n (.exit i) s) (.n : PT X.Γ) (.ret (.exit i, s)) := Fp.r (v := (Ex.exit i, s)) ⟨rfl, rfl⟩
def cont (out : σ ⊕ ρ → Ex × PSt X.Γ) (g : Nat → α → σ → σ ⊕ ρ) (l : List α) (i : Nat) : σ ⊕ ρ → Ex × PSt X.Γ
 | .inl s => out (runL g l i s)
 | .inr r => out (.inr r)
def Rn (X : Cod) (P : Program) (T : Tab) (call : CallT) (L f : Nat) (rnd : Bool) (nt B : Nat) (b : Code) (n : Nat) {τ : Type} (K : τ → Ex × PSt X.Γ) (x : τ) : Ex × PSt X.Γ → Prop := Rnd X P T call L f rnd nt B b n (K x).1 (K x).2
section
variable {τ : Type} {K : τ → Ex × PSt X.Γ} {n : Nat}
theorem Fp.ls {c : Bool} {t e : τ} {a d : PT X.Γ} {x y : OT (Ex × PSt X.Γ)} (h1 : Fp (Rn X P T call L f rnd nt B b n K t) a x) (h2 : Fp (Rn X P T call L f rnd nt B b n K e) d y) : Fp (Rn X P T call L f rnd nt B b n K (if c = true then t else e)) (.s a d) (.br c x y) :=
 .s (fun h => by subst h; exact h1) (fun h => by subst h; exact h2)
theorem Fp.lh {c : Bool} {t e : τ} {a d : PT X.Γ} {x y : OT (Ex × PSt X.Γ)} (h1 : c = true → Fp (Rn X P T call L f rnd nt B b n K t) a x) (h2 : c = false → Fp (Rn X P T call L f rnd nt B b n K e) d y) : Fp (Rn X P T call L f rnd nt B b n K (if c = true then t else e)) (.s a d) (.br c x y) :=
 .s (fun h => by rw [if_pos h]; exact h1 h) (fun h => by rw [if_neg (by rw [h]; simp)]; exact h2 h)
theorem Fp.nx {x : τ} {s' : PSt X.Γ} (h : RoundsH X P T call L f rnd nt B b n s' (K x).1 (K x).2) : Fp (Rn X P T call L f rnd nt B b n K x) (.n : PT X.Γ) (.ret (.norm, s')) := Fp.r (v := (Ex.norm, s')) h
theorem Fp.nxG {x : τ} {s' : PSt X.Γ} (gs : List G) (h : RoundsH X P T call L f rnd nt B b n s' (K x).1 (K x).2) : Fp (Rn X P T call L f rnd nt B b n K x) (.a (.lg gs .norm ⟨[], [], []⟩) .n : PT X.Γ) (.ret (.norm, s')) := Fp.g (v := (Ex.norm, s')) gs h
theorem Fp.ou {x : τ} (h : (K x).1 ≠ .norm) : Fp (Rn X P T call L f rnd nt B b n K x) (.n : PT X.Γ) (.ret (K x)) := by
 refine Fp.r ?_
 unfold Rn Rnd
 split
 ·rename_i e; rw [e] at h; exact absurd rfl h
 ·rename_i e; rw [e]; exact ⟨rfl, rfl⟩
end
theorem eachE {l : List α} (d : α) {st : Int → σ → PSt X.Γ} {g : Nat → α → σ → σ ⊕ ρ} {out : σ ⊕ ρ → Ex × PSt X.Γ} {s0 : σ} {w : PSt X.Γ} (Inv : Nat → σ → Prop) (h0 : patHead X (T.headAt f (headId b)) w = st 0 s0) (hl : l.length ≤ most) (hL : most < L) (hi : Inv 0 s0)
  (hs : ∀ (k : Nat) (s : σ) (n : Nat), k < l.length → Inv k s → (∀ s1, Inv (k + 1) s1 → RoundsH X P T call L f rnd nt B b n (st (IntKind.i64.wrap (k + 1)) s1) (cont out g (l.drop (k + 1)) (k + 1) (.inl s1)).1 (cont out g (l.drop (k + 1)) (k + 1) (.inl s1)).2) →
   RoundsH X P T call L f rnd nt B b (n + 1) (st k s) (cont out g (l.drop (k + 1)) (k + 1) (g k (l.getD k d) s)).1 (cont out g (l.drop (k + 1)) (k + 1) (g k (l.getD k d) s)).2)
  (ho : ∀ s, Inv l.length s → RoundsH X P T call L f rnd nt B b 1 (st l.length s) (out (.inl s)).1 (out (.inl s)).2) :
  ExecS X P T call L f rnd nt B (.loop b) w (out (runL g l 0 s0)).1 (out (runL g l 0 s0)).2 := by
 have key : ∀ (m k : Nat) (s : σ), k + m = l.length → Inv k s → RoundsH X P T call L f rnd nt B b (m + 1) (st k s) (out (runL g (l.drop k) k s)).1 (out (runL g (l.drop k) k s)).2 := by
  intro m
  induction m with
  | zero =>
   intro k s hk hr
   have : k = l.length := by omega
   subst this
   rw [List.drop_length]
   exact ho s hr
  | succ m ih =>
   intro k s hk hr
   have hlt : k < l.length := by omega
   have h1 := hs k s (m + 1) hlt hr fun s1 h => by
    have := ih (k + 1) s1 (by omega) h
    rw [wrap_up (by omega)]
    exact this
   have hd : l.getD k d = l[k] := by simp [List.getD, List.getElem?_eq_getElem hlt]
   rw [List.drop_eq_getElem_cons hlt]
   simp only [runL]
   rw [hd] at h1
   cases hg : g k l[k] s with
   | inl s1 => rw [hg] at h1; exact h1
   | inr r => rw [hg] at h1; exact h1
 exact loopH_of (key l.length 0 s0 (by omega) hi) h0 (by omega)
theorem exInl {c : Code} {w : PSt X.Γ} {R : σ ⊕ ρ} {out : σ ⊕ ρ → Ex × PSt X.Γ} (h : ExecS X P T call L f rnd nt B c w (out R).1 (out R).2) (d : σ) (hR : isL R = true) : ExecS X P T call L f rnd nt B c w (out (.inl (getL d R))).1 (out (.inl (getL d R))).2 := by
 cases R with
 | inl s => exact h
 | inr r => cases hR
theorem exInr {c : Code} {w : PSt X.Γ} {R : σ ⊕ ρ} {out : σ ⊕ ρ → Ex × PSt X.Γ} (h : ExecS X P T call L f rnd nt B c w (out R).1 (out R).2) (d : ρ) (hR : isL R = false) : ExecS X P T call L f rnd nt B c w (out (.inr (getR d R))).1 (out (.inr (getR d R))).2 := by
 cases R with
 | inl s => cases hR
 | inr r => exact h
theorem eachF {l : List α} (d : α) {st : Int → σ → PSt X.Γ} {g : σ → α → σ} {e : Ex} {fin : σ → PSt X.Γ} {s0 : σ} {w : PSt X.Γ} (h0 : patHead X (T.headAt f (headId b)) w = st 0 s0) (hl : l.length ≤ most) (hL : most < L)
  (hs : ∀ (k : Nat) (s : σ), k < l.length → s = (l.take k).foldl g s0 → ∀ n e1 p, RoundsH X P T call L f rnd nt B b n (st (IntKind.i64.wrap (k + 1)) (g s (l.getD k d))) e1 p → RoundsH X P T call L f rnd nt B b (n + 1) (st k s) e1 p)
  (ho : ∀ s, s = l.foldl g s0 → RoundsH X P T call L f rnd nt B b 1 (st l.length s) e (fin s)) : ExecS X P T call L f rnd nt B (.loop b) w e (fin (l.foldl g s0)) := by
 have run : ∀ (l : List α) (i : Nat) (s : σ), runL (ρ := Empty) (fun _ a s => .inl (g s a)) l i s = .inl (l.foldl g s) := by
  intro l
  induction l with
  | nil => intro i s; rfl
  | cons a l ih => intro i s; simp only [runL, List.foldl_cons]; exact ih _ _
 have := eachE (X := X) (P := P) (T := T) (call := call) (f := f) (rnd := rnd) (nt := nt) (B := B) (b := b) (ρ := Empty) (l := l) d (st := st) (g := fun _ a s => .inl (g s a)) (out := fun x => (e, fin (getE x))) (s0 := s0) (w := w) (fun k s => s = (l.take k).foldl g s0) h0 hl hL rfl
  (fun k s n hk hr h => hs k s hk hr n _ _ (h _ (by
   have hd : l.getD k d = l[k] := by simp [List.getD, List.getElem?_eq_getElem hk]
   rw [hr, hd, ← List.take_append_getElem hk, List.foldl_append]; rfl))) (fun s hr => ho s (by rw [List.take_length] at hr; exact hr))
 rw [run] at this
 exact this
theorem run_bld {α β : Type} {g : List β → Nat → α → List β} : ∀ (l : List α) (i : Nat) (s : List β), runL (ρ := Empty) (fun i a s => .inl (s ++ g s i a)) l i s = .inl (bld g l i s)
 | [], _, _ => rfl
 | _ :: l, _, _ => run_bld l _ _
theorem eachB {β : Type} {l : List α} (d : α) {st : Int → List β → PSt X.Γ} {g : List β → Nat → α → List β} {e : Ex} {fin : List β → PSt X.Γ} {s0 : List β} {w : PSt X.Γ} (Inv : Nat → List β → Prop) (h0 : patHead X (T.headAt f (headId b)) w = st 0 s0) (hl : l.length ≤ most) (hL : most < L) (hi : Inv 0 s0)
  (hv : ∀ (k : Nat) (s : List β), k < l.length → Inv k s → Inv (k + 1) (s ++ g s k (l.getD k d)))
  (hs : ∀ (k : Nat) (s : List β), k < l.length → Inv k s → ∀ n e1 p, RoundsH X P T call L f rnd nt B b n (st (IntKind.i64.wrap (k + 1)) (s ++ g s k (l.getD k d))) e1 p → RoundsH X P T call L f rnd nt B b (n + 1) (st k s) e1 p)
  (ho : ∀ s, Inv l.length s → RoundsH X P T call L f rnd nt B b 1 (st l.length s) e (fin s)) : ExecS X P T call L f rnd nt B (.loop b) w e (fin (bld g l 0 s0)) := by
 have := eachE (X := X) (P := P) (T := T) (call := call) (f := f) (rnd := rnd) (nt := nt) (B := B) (b := b) (ρ := Empty) (l := l) d (st := st) (g := fun i a s => .inl (s ++ g s i a)) (out := fun x => (e, fin (getE x))) (s0 := s0) (w := w) Inv h0 hl hL hi
  (fun k s n hk hr h => hs k s hk hr n _ _ (h _ (hv k s hk hr))) ho
 rw [run_bld] at this
 exact this
end
end Pv
namespace Tw
open Go
inductive AT where
 | n
 | a (x : Ans) (r : AT)
 | s (t e : AT)
 | z (c : Bool) (t e : AT)
 | l (m : Nat) (r : AT)
inductive OT where
 | ret (v : TV) (h : List HB) (ws : List Nat)
 | o (p : Prop) (r : OT)
 | br (c : Bool) (t e : OT)
def OT.Ok : OT → Prop
 | .ret .. => True
 | .o p r => p ∧ r.Ok
 | .br c t e => (c = true → t.Ok) ∧ (c = false → e.Ok)
def OT.val : OT → TV × List HB × List Nat
 | .ret v h ws => (v, h, ws)
 | .o _ r => r.val
 | .br true t _ => t.val
 | .br false _ e => e.val
def Way (ot : OT) (r : Option OT) : Prop := ∃ o', r = some o' ∧ o'.Ok ∧ o'.val = ot.val
theorem Way.some {ot o1 : OT} {r : Option OT} (h : Way o1 r) (hv : o1.val = ot.val) : Way ot r := by
 obtain ⟨o', h1, h2, h3⟩ := h
 exact ⟨o', h1, h2, h3.trans hv⟩
inductive Ft (call : CallT) (fl : Nat) : AT → OT → TV × List HB × List Nat → Prop where
 | n {v : TV} {h : List HB} {ws : List Nat} : Ft call fl .n (.ret v h ws) (v, h, ws)
 | a {az : AT} {ot : OT} {y : TV × List HB × List Nat} (x : Ans) (r : Ft call fl az ot y) : Ft call fl (.a x az) ot y
 | o {az : AT} {ot : OT} {y : TV × List HB × List Nat} {p : Prop} (h : p) (r : Ft call fl az ot y) : Ft call fl az (.o p ot) y
 | s' {c : Bool} {a1 a2 : AT} {o1 o2 : OT} {y : TV × List HB × List Nat} (t : c = true → Ft call fl a1 o1 y) (e : c = false → Ft call fl a2 o2 y) : Ft call fl (.s a1 a2) (.br c o1 o2) y
 | l' {az : AT} {ot : OT} {y : TV × List HB × List Nat} {m : Nat} {p : Prop} (h : p) (r : Ft call fl az ot y) : Ft call fl (.l m az) (.o p ot) y
 | z' {c : Bool} {a1 a2 : AT} {o1 o2 : OT} {y : TV × List HB × List Nat} (t : c = true → Ft call fl a1 o1 y) (e : c = false → Ft call fl a2 o2 y) : Ft call fl (.z c a1 a2) (.br c o1 o2) y
namespace Ft
variable {call : CallT} {fl : Nat} {az : AT} {ps : OT} {y : TV × List HB × List Nat}
theorem ok (h : Ft call fl az ps y) : ps.Ok ∧ ps.val = y := by
 induction h with
 | n => exact ⟨trivial, rfl⟩
 | a _ _ ih => exact ih
 | o h _ ih => exact ⟨⟨h, ih.1⟩, ih.2⟩
 | l' h _ ih => exact ⟨⟨h, ih.1⟩, ih.2⟩
 | @s' c a1 a2 o1 o2 y t e iht ihe =>
  cases c with
  | true => exact ⟨⟨fun _ => (iht rfl).1, fun h => by cases h⟩, (iht rfl).2⟩
  | false => exact ⟨⟨(fun h => by cases h), fun _ => (ihe rfl).1⟩, (ihe rfl).2⟩
 | @z' c a1 a2 o1 o2 y t e iht ihe =>
  cases c with
  | true => exact ⟨⟨fun _ => (iht rfl).1, fun h => by cases h⟩, (iht rfl).2⟩
  | false => exact ⟨⟨(fun h => by cases h), fun _ => (ihe rfl).1⟩, (ihe rfl).2⟩
theorem s {ρ : Type} {f : ρ → TV × List HB × List Nat} {c : Bool} {a1 a2 : AT} {o1 o2 : OT} {u v : ρ} (t : c = true → Ft call fl a1 o1 (f u)) (e : c = false → Ft call fl a2 o2 (f v)) : Ft call fl (.s a1 a2) (.br c o1 o2) (f (if c = true then u else v)) :=
 .s' (fun h => by rw [if_pos h]; exact t h) (fun h => by rw [if_neg (by rw [h]; exact Bool.false_ne_true)]; exact e h)
theorem z {ρ : Type} {f : ρ → TV × List HB × List Nat} {c : Bool} {a1 a2 : AT} {o1 o2 : OT} {u v : ρ} (t : c = true → Ft call fl a1 o1 (f u)) (e : c = false → Ft call fl a2 o2 (f v)) : Ft call fl (.z c a1 a2) (.br c o1 o2) (f (if c = true then u else v)) :=
 .z' (fun h => by rw [if_pos h]; exact t h) (fun h => by rw [if_neg (by rw [h]; exact Bool.false_ne_true)]; exact e h)
theorem L {m L : Nat} (h : m ≤ L) (r : Ft call fl az ps y) : Ft call fl (.l m az) (.o (m ≤ L) ps) y := .l' h r
theorem b {c b : Bool} (h : c = b) (r : Ft call fl az ps y) : Ft call fl (.a (.br b) az) (.o (c = b) ps) y := .a _ (.o h r)
theorem b2 {c b : Bool} (h : c = b) (r : Ft call fl az ps y) : Ft call fl (.a (.br b) (.a (.br b) az)) (.o (c = b) (.o (c = b) ps)) y := .b h (.b h r)
theorem b3 {c b : Bool} (h : c = b) (r : Ft call fl az ps y) : Ft call fl (.a (.br b) (.a (.br b) (.a (.br b) az))) (.o (c = b) (.o (c = b) (.o (c = b) ps))) y := .b h (.b2 h r)
theorem b4 {c b : Bool} (h : c = b) (r : Ft call fl az ps y) : Ft call fl (.a (.br b) (.a (.br b) (.a (.br b) (.a (.br b) az)))) (.o (c = b) (.o (c = b) (.o (c = b) (.o (c = b) ps)))) y := .b2 h (.b2 h r)
theorem c {fv : TV} {xs : List TV} {h h' : List HB} {v : TV} (e : call fv xs h = some (v, h', [])) (r : Ft call fl az ps y) : Ft call fl (.a (.call v h' [] []) az) (.o (call fv xs h = some (v, h', [])) (.o (addKs fl [] [] = []) ps)) y := .a _ (.o e (.o rfl r))
theorem l {g : Bool} {k : Nat} {h : List HB} {b off lim : Nat} {v : TV} (e : rdAt g k h b off lim = some v) (r : Ft call fl az ps y) : Ft call fl (.a (.ld v) az) (.o (rdAt g k h b off lim = some v) ps) y := .a _ (.o e r)
theorem i {len : Nat} {iv : TV} {j : Nat} (e : idx len iv = some j) (r : Ft call fl az ps y) : Ft call fl (.a (.ix j) az) (.o (idx len iv = some j) ps) y := .a _ (.o e r)
theorem p {P : Program} {t : TypeId} {xv iv : TV} {b off lim : Nat} (e : indexAddrT P t (.val xv) iv = some (.val (.ptr b off lim))) (r : Ft call fl az ps y) : Ft call fl (.a (.pt b off lim) az) (.o (indexAddrT P t (.val xv) iv = some (.val (.ptr b off lim))) ps) y := .a _ (.o e r)
theorem r {X : Option TV} {v : TV} (e : X = some v) (r : Ft call fl az ps y) : Ft call fl (.a (.rd v) az) (.o (X = some v) ps) y := .a _ (.o e r)
theorem k {X : Option (TV × Inf)} {v : TV} (e : X = some (v, noInf)) (r : Ft call fl az ps y) : Ft call fl (.a (.rd v) az) (.o (X = some (v, noInf)) ps) y := .a _ (.o e r)
theorem w {P : Program} {T : Tab} {L f k m : Nat} {q : St} {x : Ex} {s : St} (e : rounds P T call L f k fl m q = some (x, s)) (r : Ft call fl az ps y) : Ft call fl (.a (.loop x s) az) (.o (rounds P T call L f k fl m q = some (x, s)) ps) y := .a _ (.o e r)
theorem v {X : Option (Ex × St)} {x : Ex} {s : St} (e : X = some (x, s)) (r : Ft call fl az ps y) : Ft call fl (.a (.loop x s) az) (.o (X = some (x, s)) ps) y := .a _ (.o e r)
theorem g {P : Program} {at_ : Array TypeId} {h h' : List HB} {d x v : TV} {i : Inf} (e : appendT P at_ (onH h) d x = some (v, onH h', i)) {ws ws' : List Nat} (k : addKs fl i.ws ws = ws') (r : Ft call fl az ps y) : Ft call fl (.a (.hp v h' i ws') az) (.o (appendT P at_ (onH h) d x = some (v, onH h', i)) (.o (addKs fl i.ws ws = ws') ps)) y := .a _ (.o e (.o k r))
theorem u {P : Program} {t : TypeId} {h h' : List HB} {m : Nat} {k v : TV} (e : updateT P t (onH h) (.map m) k v = some (onH h', wrK (.h m))) {ws ws' : List Nat} (q : addW fl m ws = ws') (r : Ft call fl az ps y) : Ft call fl (.a (.up h' ws') az) (.o (updateT P t (onH h) (.map m) k v = some (onH h', wrK (.h m))) (.o (addW fl m ws = ws') ps)) y := .a _ (.o e (.o q r))
theorem f {p : Prop} (e : p) (r : Ft call fl az ps y) : Ft call fl (.a .fa az) (.o p ps) y := .a _ (.o e r)
theorem x {p : Prop} (e : p) (r : Ft call fl az ps y) : Ft call fl (.a .bx az) (.o p ps) y := .a _ (.o e r)
theorem d {p : Prop} (e : p) (r : Ft call fl az ps y) : Ft call fl (.a .dyn az) (.o p ps) y := .a _ (.o e r)
theorem m {p : Prop} (e : p) (r : Ft call fl az ps y) : Ft call fl (.a .calm az) (.o p ps) y := .a _ (.o e r)
end Ft
end Tw
namespace Go.Proofs.YtfhiejgoemcelaaGreat
def T : Tw.Tab := {
 live := [(3, [(0, [1]), (1, [1, 8]), (2, [2]), (3, [1, 3, 4]), (4, [1, 3, 4, 5]), (5, [1, 3, 4, 5, 19]), (6, [2]), (7, [2])]),
  (4, [(0, [1, 2]), (1, [1, 2, 17]), (2, [4]), (3, [1, 2, 5, 6]), (4, [1, 2, 5, 6, 7]), (5, [1, 2, 5, 6, 7, 8]), (6, [1, 2, 5, 6, 7, 8, 41]), (7, [1, 2, 5, 6, 7, 8]), (8, [1, 2, 5, 6, 7, 8, 43]), (9, [4]), (10, [5, 6, 7, 9]), (11, [5, 6, 7, 9, 62]), (12, [4]), (13, [4])]),
  (5, [(0, [1]), (1, [1, 8]), (2, [2]), (3, [1, 3, 4]), (4, [1, 3, 4, 5]), (5, [1, 3, 4, 5, 19]), (6, [2]), (7, [2])]),
  (6, [(0, [1, 2]), (1, [1, 2, 10]), (2, [4]), (3, [1, 2, 5, 6]), (4, [1, 2, 5, 6, 7]), (5, [1, 2, 5, 6, 7, 33]), (6, [1, 2, 5, 6, 7]), (7, [1, 2, 5, 6, 7, 35]), (8, [4]), (9, [4])]),
  (7, [(0, [1]), (1, [1, 10]), (2, [2]), (3, [1, 3, 4]), (4, [1, 3, 4, 5]), (5, [1, 3, 4, 5, 41]), (6, [1, 3, 4, 5]), (7, [1, 3, 4, 5, 49]), (8, [1, 3, 4, 5]), (9, [1, 3, 4, 5, 51]), (10, [2]), (11, [1, 3, 4, 6]), (12, [3, 4, 6, 75]), (13, [2]), (14, [2])]),
  (8, [(0, [1]), (1, [1, 10]), (2, [2]), (3, [1, 3, 4]), (4, [1, 3, 4, 5]), (5, [1, 3, 4, 5, 21]), (6, [2]), (7, [3, 4, 6]), (8, [3, 6, 44]), (9, [2]), (10, [3, 6, 7]), (11, [3, 6, 7, 48]), (12, [3, 6, 7]), (13, [3, 6, 7, 60]), (14, [2]), (15, [2])]),
  (9, [(0, []), (1, [1, 2, 3]), (2, [1, 2, 3]), (3, [2, 3, 4, 5]), (4, [3, 4, 5, 6, 7]), (5, [4, 5, 6, 7, 9]), (6, [4, 5, 6, 7, 9, 10, 11]), (7, [4, 5, 6, 7, 9, 10, 11, 13]), (8, [4, 5, 6, 7, 9, 10, 11, 13, 14, 15]), (9, [4, 5, 6, 7, 9, 10, 11, 13, 14, 15, 16, 17]), (10, [4, 5, 6, 7, 9, 10, 11, 13, 14, 15, 16, 17, 18, 19]), (11, [4, 5, 6, 7, 9, 10, 11, 13, 14, 15, 16, 17, 18, 19, 20, 21]), (12, [18, 20, 157]), (13, [0]), (14, [18, 20, 22]), (15, [18, 20, 22, 23]), (16, [18, 20, 22, 23, 160]), (17, [18, 20, 22, 23]), (18, [18, 20, 22, 23, 195]), (19, [0]), (20, [5]), (21, [5, 7]), (22, [5, 7, 9]), (23, [5, 7, 9, 11]), (24, [5, 7, 9, 11, 24, 25]), (25, [5, 7, 9, 11, 24, 25]), (26, [5, 7, 9, 11, 24, 25]), (27, [5, 7, 9, 11, 13, 25]), (28, [5, 7, 9, 11, 13, 15, 25]), (29, [5, 7, 9, 11, 13, 15, 17]), (30, [0])]),
  (10, [(0, [1, 2, 3]), (1, [1, 2, 3, 14]), (2, [6]), (3, [1, 2, 3, 7, 8]), (4, [2, 3, 7, 8, 9, 10]), (5, [2, 3, 7, 9, 41]), (6, [6]), (7, [3, 9, 11]), (8, [6])]),
  (11, [(0, [1]), (1, [1, 15]), (2, [2]), (3, [1, 3, 4]), (4, [1, 3, 4, 5, 6]), (5, [1, 5, 48]), (6, [2]), (7, [1, 5, 7]), (8, [1, 5, 7, 8]), (9, [1, 5, 7, 8, 55]), (10, [1, 5, 7, 8]), (11, [1, 5, 7, 8]), (12, [1, 5, 7, 9]), (13, [1, 5, 7, 9, 65]), (14, [1, 5, 7, 9]), (15, [1, 5, 7, 9, 10, 11]), (16, [1, 5, 7, 9, 10, 83]), (17, [2]), (18, [1, 5, 7, 9, 10, 12]), (19, [1, 5, 7, 9, 10, 12, 87]), (20, [1, 5, 7, 9, 10, 12]), (21, [1, 5, 7, 9, 10, 12]), (22, [2])]),
  (12, [(0, [1, 2, 3]), (1, [1, 2, 3, 17]), (2, [6]), (3, [1, 2, 3, 7, 8]), (4, [1, 2, 3, 7, 42]), (5, [6]), (6, [2, 3, 7, 9]), (7, [2, 3, 7, 56]), (8, [6]), (9, [6])]),
  (13, [(0, [1, 2, 3]), (1, [1, 2, 3, 25]), (2, [6]), (3, [1, 2, 3, 7]), (4, [2, 3, 7, 8]), (5, [3, 7]), (6, [3, 7, 63]), (7, [6]), (8, [3, 7, 9, 10]), (9, [3, 7, 9, 10, 11, 12]), (10, [7, 9, 10, 11, 12, 13, 14]), (11, [9, 10, 11, 12, 13, 14, 15, 16]), (12, [6])]),
  (14, [(0, [1, 2]), (1, [1, 2, 33]), (2, [4]), (3, [1, 2, 5]), (4, [1, 2, 5, 6, 7]), (5, [2, 5, 6, 7, 8, 9]), (6, [2, 5, 6, 7, 8, 9, 10, 11]), (7, [2, 5, 6, 8, 10, 11, 83]), (8, [4]), (9, [2, 5, 6, 8, 10, 11, 85]), (10, [4]), (11, [2, 5, 6, 10, 119]), (12, [4]), (13, [4])]),
  (15, [(0, [1, 2, 3]), (1, [1, 2, 3, 27]), (2, [6]), (3, [2, 3, 7]), (4, [2, 3, 7, 8]), (5, [2, 3, 7, 8, 9, 10]), (6, [3, 7, 8, 9, 10, 11, 12]), (7, [3, 8, 9, 84]), (8, [6]), (9, [3, 8, 9, 13]), (10, [3, 8, 9, 98]), (11, [6]), (12, [3, 8, 9, 14]), (13, [3, 8, 9, 14, 15]), (14, [3, 8, 9, 14, 15, 105]), (15, [3, 8, 9, 14, 15]), (16, [3, 8, 9, 14, 15, 113]), (17, [3, 9, 14, 15]), (18, [3, 9, 14, 15, 16]), (19, [3, 9, 14, 15, 16, 122]), (20, [3, 9, 14, 15, 16]), (21, [3, 9, 14, 15, 16, 17, 18]), (22, [3, 9, 14, 15, 16, 17, 136]), (23, [6]), (24, [3, 9, 14, 15, 16]), (25, [6])]),
  (16, [(0, [1, 2]), (1, [1, 2, 14]), (2, [4]), (3, [1, 2, 5, 6]), (4, [1, 2, 5, 6, 7, 8]), (5, [5, 6, 7, 8, 9, 10]), (6, [5, 7, 9, 59]), (7, [4]), (8, [5, 7, 9, 11]), (9, [5, 7, 9, 11, 63]), (10, [5, 7, 9, 11]), (11, [5, 7, 9, 11, 135]), (12, [4]), (13, [4])]),
  (17, [(0, [1]), (1, [1, 18]), (2, [2]), (3, [2])]),
  (18, [(0, []), (1, [1, 2]), (2, [1, 2, 4]), (3, [1, 2, 4, 5, 6]), (4, [1, 2, 4, 5, 6, 7, 8]), (5, [1, 2, 4, 5, 6, 7, 8, 9, 10]), (6, [1, 2, 4, 5, 6, 7, 8, 9, 10, 11, 12]), (7, [0])]),
  (19, [(0, [1]), (1, [1, 4]), (2, [1, 4, 8]), (3, [2, 3]), (4, [2, 3])]),
  (20, [(0, [1, 2]), (1, [1, 2]), (2, [2])]),
  (21, [(0, [1]), (1, [1, 3]), (2, [1, 3, 8]), (3, [2]), (4, [1, 4]), (5, [1, 4, 14]), (6, [1, 4]), (7, [1, 4, 23]), (8, [2]), (9, [2])]),
  (22, [(0, [0, 1]), (1, [0, 1, 10]), (2, [4]), (3, [0, 1, 5]), (4, [0, 1, 5, 14]), (5, [0, 1, 5]), (6, [0, 1, 5, 25]), (7, [4]), (8, [4])]),
  (23, [(0, [1, 3, 5]), (1, [1, 3, 5, 7]), (2, [1, 3, 5, 7, 8]), (3, [1, 3, 5, 7, 8, 14]), (4, [1, 3, 5, 7, 8]), (5, [1, 3, 5, 7, 8, 9]), (6, [1, 3, 5, 7, 8, 9, 27]), (7, [1, 3, 5, 7, 8, 9]), (8, [1, 3, 5, 7, 8]), (9, [6])]),
  (24, [(0, [1, 2]), (1, [1, 2, 6]), (2, [1, 2, 6, 12]), (3, [4, 5]), (4, [1, 2, 24]), (5, [4, 5]), (6, [1, 2, 7]), (7, [1, 7, 30, 31]), (8, [1, 7, 30, 31, 32]), (9, [1, 7, 8, 30, 31]), (10, [1, 7, 8, 30, 31, 44]), (11, [4, 5]), (12, [1, 7, 30, 31]), (13, [4, 5])]),
  (25, [(0, [0]), (1, [2])]),
  (26, [(0, [1, 2]), (1, [6]), (2, [4])]),
  (27, [(0, [1, 2]), (1, [1, 2, 5]), (2, [1, 2, 5, 9]), (3, [1, 2, 5]), (4, [1, 2, 5, 17]), (5, [4]), (6, [4])]),
  (28, [(0, [1, 2]), (1, [1, 2, 5]), (2, [1, 2, 5, 10]), (3, [1, 2, 5]), (4, [1, 2, 5, 26]), (5, [4]), (6, [4])]),
  (29, [(0, [1, 2, 3]), (1, [1, 2, 3, 4]), (2, [1, 2, 3, 4, 18]), (3, [2, 3]), (4, [1, 2, 3, 5]), (5, [1, 2, 3, 5, 21, 22, 23]), (6, [1, 2, 3, 5, 21, 22, 23, 24]), (7, [1, 2, 3, 5, 7, 21, 22, 23]), (8, [1, 2, 3, 5, 21, 22, 23]), (9, [1, 2, 3, 5, 21, 22, 23]), (10, [1, 2, 3, 37]), (11, [2, 3]), (12, [1, 2, 3, 8]), (13, [1, 2, 3, 8, 47]), (14, [1, 2, 3, 8, 9]), (15, [2, 3, 8, 10, 11]), (16, [2, 3, 8, 10, 11, 56]), (17, [2, 3]), (18, [8, 58, 59, 60]), (19, [8, 58, 59, 60, 61]), (20, [8, 12, 13, 58, 59, 60]), (21, [8, 12, 13, 14, 58, 59, 60]), (22, [8, 12, 13, 14, 58, 59, 60, 72]), (23, [8, 12, 14, 58, 59, 60]), (24, [8, 58, 59, 60]), (25, [8, 58, 59, 60]), (26, [2, 3])]),
  (30, [(0, [1]), (1, [1, 3]), (2, [1, 3, 4]), (3, [1, 3, 4, 15]), (4, [1, 3, 4]), (5, [1, 3, 4]), (6, [1, 3, 5]), (7, [1, 3, 5, 25]), (8, [1, 3, 5]), (9, [1, 3, 5, 6]), (10, [1, 3, 5, 6, 7]), (11, [1, 3, 5, 6, 7, 36]), (12, [1, 3, 5, 6, 7]), (13, [1, 3, 5, 6, 7]), (14, [2])]),
  (31, [(0, [1, 2]), (1, [1, 6, 7]), (2, [1, 6, 7, 13]), (3, [4, 5]), (4, [1, 6, 17]), (5, [4, 5]), (6, [4, 5])]),
  (32, [(0, [3, 4, 5]), (1, [3, 4, 5, 8]), (2, [3, 4, 8, 9]), (3, [3, 4, 8, 9, 16]), (4, [6, 7]), (5, [3, 4, 9, 20]), (6, [6, 7]), (7, [3, 4, 9, 30]), (8, [6, 7]), (9, [3, 4, 9, 10]), (10, [10, 11]), (11, [11, 38]), (12, [6, 7]), (13, [6, 7])]),
  (33, [(0, [1]), (1, [1, 5]), (2, [2]), (3, [2])]),
  (34, [(0, [1]), (1, [2])]),
  (35, [(0, [1]), (1, [4, 5]), (2, [4, 5, 17]), (3, [2, 3]), (4, [4, 6]), (5, [6, 19, 20, 21]), (6, [6, 19, 20, 21, 22]), (7, [6, 8, 19, 20, 21]), (8, [6, 8, 9, 19, 20, 21]), (9, [6, 8, 9, 10, 19, 20, 21]), (10, [6, 8, 9, 10, 19, 20, 21, 27]), (11, [6, 8, 9, 10, 19, 20, 21]), (12, [6, 8, 9, 10, 19, 20, 21]), (13, [6, 8, 9, 10, 19, 20, 21, 42]), (14, [6, 19, 20, 21]), (15, [6, 19, 20, 21]), (16, [2, 3])]),
  (36, [(0, [1]), (1, [1, 3]), (2, [1, 3, 7]), (3, [1, 3]), (4, [2])]),
  (37, [(0, []), (1, [0])]),
  (38, [(0, [0, 1, 2, 6]), (1, [6])]),
  (39, [(0, [0]), (1, [0, 1]), (2, [0, 2]), (3, [0])]),
  (40, [(0, [1]), (1, [2])]),
  (41, [(0, [1, 2]), (1, [2, 6, 7]), (2, [4, 5])]),
  (42, [(0, [1, 2]), (1, [4])]),
  (43, [(0, [0, 1]), (1, [0, 1, 5]), (2, [0, 1, 5, 15]), (3, [0, 1, 5]), (4, [0, 1, 5, 27]), (5, [4]), (6, [4])]),
  (44, [(0, [1, 2]), (1, [1, 2, 5]), (2, [1, 2, 5, 6]), (3, [1, 2, 5, 6, 11]), (4, [1, 2, 5, 6]), (5, [1, 2, 5, 6]), (6, [4])]),
  (45, [(0, [0, 1]), (1, [1, 5]), (2, [1, 5, 6]), (3, [1, 5, 6, 23]), (4, [1, 5, 6]), (5, [1, 5, 6, 7]), (6, [1, 5, 6, 7, 8]), (7, [1, 5, 6, 7, 8]), (8, [1, 5, 6, 7, 8, 56]), (9, [1, 5, 6]), (10, [4])]),
  (46, [(0, [0, 1]), (1, [0, 1, 10]), (2, [4]), (3, [0, 1, 5]), (4, [0, 1, 5, 14]), (5, [0, 1, 5]), (6, [0, 1, 5, 26]), (7, [4]), (8, [4])]),
  (47, [(0, [0]), (1, [0])]),
  (48, [(0, [1]), (1, [1, 3]), (2, [1, 3, 4]), (3, [1, 3, 4, 9]), (4, [1, 3, 4]), (5, [1, 3, 4]), (6, [2])]),
  (49, [(0, [1, 2]), (1, [1, 2, 5]), (2, [1, 2, 5, 6]), (3, [1, 2, 5, 6, 16]), (4, [1, 2, 5, 6]), (5, [1, 2, 5, 6, 7]), (6, [1, 2, 5, 6, 7]), (7, [1, 2, 5, 6]), (8, [4])]),
  (50, [(0, [2, 3, 4]), (1, [2, 3, 4, 7]), (2, [2, 4]), (3, [4]), (4, [4])]),
  (51, [(0, [2, 3]), (1, [2, 3, 7]), (2, [4]), (3, [4])]),
  (52, [(0, [2, 3]), (1, [4])]),
  (53, [(0, [1, 2]), (1, [4])]),
  (54, [(0, [1]), (1, [1, 3]), (2, [1, 3, 7]), (3, [2]), (4, [11]), (5, [2]), (6, [2])]),
  (55, [(0, [1, 2]), (1, [1, 2, 5]), (2, [1, 2, 5, 6]), (3, [1, 5, 6, 13, 14]), (4, [1, 5, 6, 13, 14, 15]), (5, [1, 5, 6, 7, 13, 14]), (6, [1, 5, 6, 13, 14]), (7, [1, 5, 6, 13, 14]), (8, [4])]),
  (56, [(0, [3, 4]), (1, [4])]),
  (57, [(0, [1]), (1, [1, 22]), (2, [2]), (3, [1, 3]), (4, [1, 3, 27]), (5, [1, 3]), (6, [1, 3, 4]), (7, [1, 3, 53]), (8, [2]), (9, [1, 5]), (10, [1, 5, 58]), (11, [1, 5]), (12, [1, 5, 71]), (13, [2]), (14, [1, 6]), (15, [1, 6, 76]), (16, [1, 6]), (17, [1, 6, 89]), (18, [2]), (19, [2])]),
  (58, [(0, [2, 3, 4, 6]), (1, [2, 3, 4, 6, 14]), (2, [2, 3, 4, 6, 14, 15]), (3, [6]), (4, [2, 3, 4, 6, 14, 22]), (5, [6]), (6, [2, 3, 4, 6, 29]), (7, [6]), (8, [2, 4, 6, 7]), (9, [2, 4, 6, 7, 53]), (10, [6]), (11, [2, 4, 6, 7, 64]), (12, [6]), (13, [2, 4, 6, 7, 8]), (14, [2, 4, 6, 7, 8]), (15, [2, 4, 6, 7, 8, 9, 10]), (16, [2, 4, 6, 7, 8, 9, 10, 11, 12]), (17, [2, 4, 6, 7, 8, 9, 10, 11, 12, 83]), (18, [6, 7, 8, 11, 12]), (19, [2, 4, 6, 7, 8, 9, 10, 11, 12, 83, 94]), (20, [6]), (21, [2, 4, 6, 7, 8, 9, 10, 11, 12, 83, 105]), (22, [6, 7, 8, 11, 12]), (23, [2, 4, 6, 7, 8, 9, 10, 11, 12, 83, 109]), (24, [6, 7, 8, 11, 12]), (25, [2, 4, 6, 7, 8, 10, 11, 12, 117]), (26, [6, 7, 8, 11, 12]), (27, [6, 7, 8, 11, 12, 126]), (28, [6, 7, 8, 12]), (29, [6, 8, 12, 131]), (30, [6, 8]), (31, [6])]),
  (59, [(0, [2, 3, 4]), (1, [2, 3, 4, 5]), (2, [4, 5, 36]), (3, [4, 5]), (4, [4])]),
  (60, [(0, [0, 3]), (1, [4])]),
  (61, [(0, [1]), (1, [2])]),
  (62, [(0, [1]), (1, [1, 6]), (2, [2]), (3, [2])]),
  (63, [(0, []), (1, [0])]),
  (64, [(0, [1, 2, 3, 6]), (1, [2, 3, 6, 7]), (2, [2, 3, 6, 7, 19]), (3, [2, 3, 6, 7, 19, 20]), (4, [6]), (5, [2, 3, 6, 7, 19, 27]), (6, [6]), (7, [2, 3, 6, 7, 36]), (8, [6]), (9, [2, 6, 7, 8]), (10, [2, 6, 7, 8, 9]), (11, [2, 6, 8, 9, 69, 70, 71]), (12, [2, 6, 8, 9, 69, 70, 71, 72]), (13, [2, 6, 8, 9, 10, 11, 69, 70, 71]), (14, [2, 6, 8, 9, 69, 70, 71]), (15, [2, 6, 8, 9, 69, 70, 71]), (16, [6, 8, 9, 87]), (17, [6]), (18, [6])]),
  (65, [(0, [2, 3]), (1, [4])]),
  (66, [(0, [0, 1]), (1, [0, 1, 10]), (2, [0, 1]), (3, [0, 5, 6]), (4, [0, 6, 26]), (5, [0, 6]), (6, [0, 7]), (7, [7, 8]), (8, [7, 8, 37]), (9, [7, 8]), (10, [4])]),
  (67, [(0, [0]), (1, [0])]),
  (68, [(0, [1]), (1, [2])]),
  (69, [(0, [1, 2, 4]), (1, [1, 2, 4, 5]), (2, [1, 2, 4, 5, 10]), (3, [4, 5]), (4, [1, 2, 4, 14]), (5, [4, 5]), (6, [1, 2, 4, 18]), (7, [4, 5]), (8, [1, 4, 24, 25, 26]), (9, [1, 4, 24, 25, 26, 27]), (10, [1, 4, 7, 24, 25, 26]), (11, [1, 4, 24, 25, 26]), (12, [1, 4, 24, 25, 26]), (13, [4, 5])]),
  (70, [(0, [0, 1, 4]), (1, [4])]),
  (71, [(0, [1, 2, 4]), (1, [2, 4, 7, 8, 9]), (2, [2, 4, 7, 8, 9, 10]), (3, [2, 4, 6, 7, 8, 9]), (4, [2, 4, 7, 8, 9]), (5, [2, 4, 7, 8, 9]), (6, [4])]),
  (72, [(0, [0]), (1, [2])]),
  (73, [(0, [2, 3, 4, 6]), (1, [3, 4, 6, 7]), (2, [6]), (3, [3, 4, 6, 11]), (4, [6]), (5, [3, 4, 6, 21]), (6, [6]), (7, [6])]),
  (74, [(0, [1, 2]), (1, [1, 2, 5]), (2, [1, 2, 5, 6]), (3, [1, 2, 5, 6, 12]), (4, [1, 2, 5, 6]), (5, [1, 2, 5, 6]), (6, [4])]),
  (75, [(0, [0, 2, 3, 4, 6, 7]), (1, [3, 4, 6, 7, 10]), (2, [7]), (3, [4, 6, 7]), (4, [6, 7]), (5, [7])]),
  (76, [(0, [2, 3, 4]), (1, [2, 3, 4, 5]), (2, [2, 3, 4, 5, 33]), (3, [2, 3, 4, 5]), (4, [4])]),
  (77, [(0, [1]), (1, [2])]),
  (78, [(0, [1]), (1, [2])]),
  (79, [(0, [0, 1, 2, 6]), (1, [6])]),
  (80, [(0, [2, 3, 4]), (1, [2, 3, 4, 5]), (2, [2, 3, 4, 5, 13]), (3, [4]), (4, [2, 3, 4, 5, 22]), (5, [4]), (6, [4])]),
  (81, [(0, [0]), (1, [2])]),
  (82, [(0, [1, 2, 4]), (1, [4])]),
  (83, [(0, [1]), (1, [1, 4]), (2, [1, 4]), (3, [1, 4]), (4, [2]), (5, [1, 17]), (6, [2]), (7, [1, 21]), (8, [2]), (9, [1, 32, 33]), (10, [1, 32, 33, 34]), (11, [1, 3, 32, 33]), (12, [1, 32, 33, 39]), (13, [2]), (14, [1, 32, 33]), (15, [2])]),
  (84, [(0, [0, 1]), (1, [4])]),
  (85, [(0, [1]), (1, [2])]),
  (86, [(0, [0, 1, 2]), (1, [6])]),
  (87, [(0, [1, 2, 3]), (1, [1, 3, 7, 8, 9]), (2, [1, 3, 7, 25]), (3, [6]), (4, [1, 7, 10]), (5, [1, 7, 10, 11]), (6, [1, 7, 10, 11, 34]), (7, [1, 7, 10, 11]), (8, [1, 7, 10, 11, 61]), (9, [6]), (10, [6])]),
  (88, [(0, [0, 4, 5, 6]), (1, [0, 4, 5, 6, 7]), (2, [0, 4, 5, 6, 7, 8]), (3, [0, 4, 5, 6, 7, 8, 17]), (4, [6, 7]), (5, [6]), (6, [0, 4, 5, 6, 7, 8, 21]), (7, [0, 5, 6, 7, 8]), (8, [0, 4, 5, 6, 7, 8, 21, 26]), (9, [0, 5, 6, 7, 8]), (10, [0, 4, 5, 6, 7, 8, 21, 31]), (11, [0, 5, 6, 7, 8]), (12, [0, 4, 5, 6, 7, 8, 21, 65]), (13, [0, 5, 6, 7, 8]), (14, [0, 4, 5, 6, 7, 8, 78]), (15, [0, 5, 6, 7, 8]), (16, [6, 7, 8, 100]), (17, [6, 7, 8]), (18, [6, 7]), (19, [6])]),
  (89, [(0, [1]), (1, [2])]),
  (90, [(0, [1]), (1, [2])]),
  (91, [(0, [0, 1]), (1, [4])]),
  (92, [(0, [1, 2]), (1, [3])]),
  (93, [(0, [3, 6]), (1, [6])]),
  (94, [(0, [3, 6]), (1, [6])]),
  (95, [(0, [1]), (1, [2])]),
  (96, [(0, [2, 3, 4]), (1, [4])]),
  (97, [(0, [2, 3, 4]), (1, [4])]),
  (98, [(0, [2, 3, 4]), (1, [4])]),
  (99, [(0, [2, 3, 4]), (1, [2, 3, 4, 5]), (2, [2, 3, 4, 5, 18, 19, 20]), (3, [2, 3, 4, 5, 18, 19, 20, 21]), (4, [2, 3, 4, 5, 7, 18, 19, 20]), (5, [2, 3, 4, 5, 7, 18, 19, 20, 31]), (6, [2, 3, 4, 5, 7, 18, 19, 20, 38, 39]), (7, [2, 3, 4, 5, 7, 18, 19, 20, 38, 39, 40]), (8, [2, 3, 4, 5, 7, 9, 18, 19, 20, 38, 39]), (9, [2, 3, 4, 5, 7, 10, 18, 19, 20, 38, 39]), (10, [2, 3, 4, 5, 7, 18, 19, 20, 38, 39]), (11, [2, 3, 4, 5, 7, 18, 19, 20, 38, 39]), (12, [2, 3, 4, 5, 18, 19, 20]), (13, [4])]),
  (100, [(0, [2, 3, 4]), (1, [2, 3, 4, 8]), (2, [4]), (3, [2, 3, 4, 5]), (4, [2, 3, 4, 5, 18]), (5, [2, 3, 4, 5]), (6, [2, 3, 4, 5, 28]), (7, [2, 3, 4, 5]), (8, [2, 3, 4, 5, 44]), (9, [3, 4, 5]), (10, [4])]),
  (101, [(0, [2, 3, 4]), (1, [4])]),
  (102, [(0, [2, 3, 4]), (1, [4])]),
  (103, [(0, [2, 3, 4]), (1, [4])]),
  (104, [(0, [3, 4, 6]), (1, [6])]),
  (105, [(0, [3, 4, 6]), (1, [6])]),
  (106, [(0, [3, 4, 5, 6]), (1, [6])]),
  (107, [(0, [0, 1]), (1, [6, 7]), (2, [4, 5]), (3, [8, 9]), (4, [4, 5])]),
  (108, [(0, [1, 2]), (1, [1, 2, 3]), (2, [3]), (3, [])]),
  (109, [(0, [0, 1, 2, 3]), (1, [0, 1, 2, 3, 12]), (2, [5]), (3, [0, 3, 6]), (4, [0, 3, 6, 7]), (5, [0, 3, 6, 7, 26]), (6, [0, 3, 6, 7]), (7, [0, 3, 6, 7, 36]), (8, [5]), (9, [5])]),
  (110, [(0, [0]), (1, [0, 4]), (2, [2]), (3, [2])]),
  (111, [(0, [1]), (1, [2])]),
  (112, [(0, [1, 2]), (1, [4])]),
  (113, [(0, [1, 2, 3, 6]), (1, [1, 2, 3, 6, 8]), (2, [6]), (3, [1, 2, 3, 6, 8, 25]), (4, [6]), (5, [1, 2, 3, 6, 8, 30]), (6, [6]), (7, [1, 2, 3, 6, 8, 36]), (8, [6]), (9, [2, 3, 6, 8, 44]), (10, [2, 3, 6, 8, 44]), (11, [6]), (12, [2, 3, 6, 58]), (13, [6]), (14, [6])]),
  (114, [(0, [1, 2, 3, 6]), (1, [1, 2, 3, 6, 7]), (2, [6]), (3, [1, 2, 3, 6, 14]), (4, [6]), (5, [1, 2, 3, 6, 22]), (6, [6]), (7, [1, 3, 6, 32]), (8, [6]), (9, [1, 3, 6, 52]), (10, [6]), (11, [6])]),
  (115, [(0, [0, 1]), (1, [4])]),
  (116, [(0, [1]), (1, [2])]),
  (117, [(0, [2, 3, 4]), (1, [6])]),
  (118, [(0, [1, 2]), (1, [1, 2, 5]), (2, [1, 5, 26]), (3, [4]), (4, [1, 6, 7]), (5, [4])]),
  (119, [(0, [0, 1]), (1, [0, 1, 7, 8]), (2, [0, 1, 7, 8, 9]), (3, [0, 1, 5, 7, 8]), (4, [0, 1, 5, 7, 8, 16]), (5, [4]), (6, [0, 1, 7, 8]), (7, [4])]),
  (120, [(0, [0, 1]), (1, [0, 1, 7]), (2, [4, 5, 6]), (3, [0, 1, 10]), (4, [4, 5, 6]), (5, [0, 1, 13]), (6, [4, 5, 6]), (7, [0, 18]), (8, [4, 5, 6]), (9, [0, 21]), (10, [4, 5, 6]), (11, [0, 28]), (12, [4, 5, 6]), (13, [35]), (14, [4, 5, 6]), (15, [4, 5, 6])]),
  (121, [(0, [2, 3, 4]), (1, [2, 3, 4, 9]), (2, [4]), (3, [2, 3, 4, 5, 6]), (4, [2, 3, 4, 5, 6, 13]), (5, [2, 3, 4, 5, 6]), (6, [2, 3, 4, 5, 6, 19]), (7, [2, 3, 4, 5, 6]), (8, [2, 4, 5, 6, 30]), (9, [4, 5, 6]), (10, [4])]),
  (122, [(0, [0, 1, 4]), (1, [1, 4, 5]), (2, [4]), (3, [4, 7]), (4, [4]), (5, [4])]),
  (123, [(0, [0, 4, 5, 6]), (1, [0, 4, 5, 6, 7]), (2, [0, 5, 6, 7, 8, 9]), (3, [0, 5, 6, 7, 8, 9, 18]), (4, [0, 6, 7, 8, 9]), (5, [0, 6, 7, 8, 9, 10]), (6, [0, 6, 7, 8, 9, 10, 24]), (7, [0, 6, 7, 8, 9, 10]), (8, [0, 6, 7, 8, 9, 10, 11]), (9, [0, 6, 7, 8, 9, 10, 11, 30]), (10, [0, 6, 7, 8, 9, 10, 11]), (11, [0, 6, 7, 8, 9, 10, 11]), (12, [6])]),
  (124, [(0, [0, 1]), (1, [0, 1, 7, 8]), (2, [0, 1, 7, 8, 9]), (3, [0, 1, 5, 7, 8]), (4, [0, 1, 5, 7, 8, 16]), (5, [4]), (6, [0, 1, 7, 8]), (7, [4])]),
  (125, [(0, [1]), (1, [2])]),
  (126, [(0, [1]), (1, [2])]),
  (127, [(0, [3, 4, 5, 7]), (1, [3, 4, 5, 7, 8]), (2, [3, 4, 5, 7, 8, 11]), (3, [4, 5, 7, 8]), (4, [7])]),
  (128, [(0, [2, 3, 4, 6]), (1, [2, 3, 4, 6, 7]), (2, [2, 4, 6, 7, 21, 22]), (3, [2, 4, 6, 7, 21, 22, 23]), (4, [2, 4, 6, 7, 9, 21, 22]), (5, [2, 4, 6, 7, 9, 21, 22, 31, 32]), (6, [2, 4, 6, 7, 9, 21, 22, 31, 32, 33]), (7, [2, 4, 6, 7, 9, 11, 21, 22, 31, 32]), (8, [2, 4, 6, 7, 9, 12, 21, 22, 31, 32]), (9, [2, 4, 6, 7, 9, 21, 22, 31, 32]), (10, [2, 4, 6, 7, 9, 21, 22, 31, 32]), (11, [2, 4, 6, 7, 21, 22]), (12, [6, 7, 13]), (13, [6, 7, 13, 49]), (14, [6]), (15, [6])]),
  (129, [(0, [0, 1]), (1, [4])]),
  (130, [(0, [0, 1]), (1, [4])]),
  (131, [(0, [0, 1]), (1, [4])]),
  (132, [(0, [1, 2]), (1, [4])]),
  (133, [(0, [0, 1]), (1, [0, 1, 5]), (2, [5, 19]), (3, [5]), (4, [4])]),
  (134, [(0, [1]), (1, [4]), (2, [2]), (3, [2])]),
  (135, [(0, [0, 1, 4]), (1, [1, 4, 5]), (2, [4]), (3, [4, 8]), (4, [4]), (5, [4])]),
  (136, [(0, [0, 1]), (1, [6]), (2, [4, 5])]),
  (137, [(0, [0, 1]), (1, [0, 1, 6]), (2, [0, 1, 6, 7]), (3, [0, 1, 6, 7, 8]), (4, [0, 1, 6, 7, 8, 9]), (5, [0, 1, 6, 7, 8, 9, 10]), (6, [0, 1, 6, 7, 9, 11]), (7, [0, 1, 6, 7, 9, 11, 12]), (8, [0, 1, 6, 7, 9, 12, 13]), (9, [0, 1, 7, 9, 12, 13]), (10, [0, 1, 4]), (11, [4, 5])]),
  (138, [(0, [0, 1, 2]), (1, [0, 1, 2, 14]), (2, [6]), (3, [1, 2, 15, 16, 17]), (4, [1, 2, 15, 16, 17, 18]), (5, [1, 2, 7, 8, 15, 16, 17]), (6, [1, 2, 8, 9, 15, 16, 17]), (7, [1, 2, 15, 16, 17, 30]), (8, [6]), (9, [1, 2, 15, 16, 17]), (10, [6])]),
  (139, [(0, [1, 2]), (1, [4])]),
  (140, [(0, [0, 2]), (1, [0, 2, 6]), (2, [2]), (3, [2])]),
  (141, [(0, [0, 3, 4]), (1, [3, 4, 6]), (2, [3, 4, 6, 17]), (3, [4, 5]), (4, [3, 4, 6, 7, 8]), (5, [3, 4, 6, 7, 25]), (6, [4, 5]), (7, [4, 5])]),
  (142, [(0, [3, 4, 5, 6]), (1, [3, 4, 5, 6, 8]), (2, [6, 7]), (3, [3, 4, 5, 6, 16]), (4, [6, 7]), (5, [4, 5, 6, 21]), (6, [6, 7]), (7, [6, 7])]),
  (143, [(0, [0, 4, 5, 6]), (1, [0, 4, 5, 6, 11]), (2, [0, 4, 5, 6, 11, 12]), (3, [6, 7]), (4, [0, 4, 5, 6, 20]), (5, [6, 7]), (6, [4, 5, 6, 8]), (7, [4, 5, 6, 8, 38]), (8, [6, 7]), (9, [4, 5, 6, 8, 9, 10]), (10, [4, 5, 6, 8, 9, 47]), (11, [6, 7]), (12, [6, 7])]),
  (144, [(0, [0, 2]), (1, [2])]),
  (145, [(0, [0, 2]), (1, [2])]),
  (146, [(0, [3, 4, 5, 6]), (1, [3, 4, 5, 6, 7]), (2, [6]), (3, [4, 5, 6, 12]), (4, [6]), (5, [6])]),
  (147, [(0, [0, 3, 4]), (1, [0, 3, 4, 5]), (2, [4]), (3, [3, 4, 10]), (4, [4]), (5, [4])]),
  (148, [(0, [0, 4, 5, 6]), (1, [0, 4, 5, 6, 8]), (2, [6]), (3, [0, 4, 5, 6, 13]), (4, [6]), (5, [0, 4, 5, 6, 22]), (6, [6]), (7, [0, 4, 5, 6, 31]), (8, [6]), (9, [0, 4, 5, 6, 39]), (10, [6]), (11, [0, 4, 5, 6, 44]), (12, [0, 4, 5, 6, 44, 45]), (13, [6]), (14, [0, 4, 5, 6, 44, 53]), (15, [6]), (16, [0, 4, 5, 6, 44, 61]), (17, [6]), (18, [0, 4, 5, 6, 44, 69]), (19, [6]), (20, [0, 4, 5, 6, 44, 77]), (21, [6]), (22, [0, 4, 5, 6, 85]), (23, [6]), (24, [0, 4, 5, 6, 95]), (25, [6]), (26, [0, 4, 5, 6, 7]), (27, [4, 5, 6, 7, 103]), (28, [6]), (29, [6])]),
  (149, [(0, [0, 1]), (1, [0, 1, 7, 8]), (2, [0, 1, 7, 8, 9]), (3, [0, 1, 5, 7, 8]), (4, [0, 1, 5, 7, 8, 16]), (5, [4]), (6, [0, 1, 7, 8]), (7, [4])]),
  (150, [(0, [0, 1]), (1, [4])]),
  (151, [(0, [0, 1, 2]), (1, [4])]),
  (152, [(0, [2, 3]), (1, [2, 3, 6]), (2, [2, 3, 6, 7]), (3, [4]), (4, [2, 3, 6, 13]), (5, [4]), (6, [2, 3, 6, 19]), (7, [4]), (8, [3, 29]), (9, [4]), (10, [4])]),
  (153, [(0, [1, 2]), (1, [2])]),
  (154, [(0, [0]), (1, [0, 3]), (2, [2]), (3, [0, 6]), (4, [2]), (5, [9]), (6, [2]), (7, [2])]),
  (155, [(0, [1]), (1, [2])]),
  (156, [(0, [1]), (1, [1, 3]), (2, [1, 3, 4]), (3, [1, 3, 4, 5]), (4, [1, 3, 4, 5, 14]), (5, [1, 3, 4, 5]), (6, [1, 3, 4, 5, 39]), (7, [1, 3, 4, 5]), (8, [2])]),
  (157, [(0, [0, 1, 2]), (1, [0, 1, 2, 8]), (2, [6]), (3, [0, 1, 2, 13]), (4, [6]), (5, [1, 2, 18]), (6, [6]), (7, [6])]),
  (158, [(0, [1, 2]), (1, [1, 2, 5]), (2, [2]), (3, [1, 2, 14]), (4, [1, 2]), (5, [1, 2]), (6, [1, 2, 32]), (7, [1, 2]), (8, [2])]),
  (159, [(0, [2, 3, 4]), (1, [6])]),
  (160, [(0, [0, 2]), (1, [2])]),
  (161, [(0, [0]), (1, [3]), (2, [3, 4]), (3, [2]), (4, [6]), (5, [2]), (6, [2])]),
  (162, [(0, [1]), (1, [1, 5]), (2, [2]), (3, [2])]),
  (163, [(0, [0, 2]), (1, [0, 2, 4]), (2, [0, 2, 4, 8]), (3, [2, 3]), (4, [2, 3])]),
  (164, [(0, [0]), (1, [2])]),
  (165, [(0, [0]), (1, [3]), (2, [3, 4]), (3, [2]), (4, [3, 6]), (5, [2]), (6, [3, 8]), (7, [2]), (8, [3, 10]), (9, [2]), (10, [3, 13]), (11, [2]), (12, [3, 16]), (13, [2]), (14, [3, 19]), (15, [2]), (16, [22]), (17, [2]), (18, [2])]),
  (166, [(0, [0, 2]), (1, [2, 3]), (2, [2]), (3, [2])]),
  (167, [(0, [0, 2]), (1, [0, 2, 8]), (2, [2]), (3, [2])]),
  (168, [(0, [0, 1]), (1, [0, 1, 7]), (2, [0, 1]), (3, [0, 1, 5]), (4, [0, 1, 5, 17]), (5, [0, 1, 5]), (6, [0, 1, 5, 24]), (7, [0, 1, 5]), (8, [4])]),
  (169, [(0, [0, 1]), (1, [0, 1, 7, 8]), (2, [0, 1, 7, 8, 9]), (3, [0, 1, 5, 7, 8]), (4, [0, 1, 5, 7, 8, 16]), (5, [4]), (6, [0, 1, 7, 8]), (7, [4])]),
  (170, [(0, [0, 1]), (1, [0, 1, 5]), (2, [5, 19]), (3, [5]), (4, [4])]),
  (171, [(0, [0, 1, 2]), (1, [4])]),
  (172, [(0, [0, 2]), (1, [2])]),
  (173, [(0, [0, 2]), (1, [2])]),
  (174, [(0, [0, 2]), (1, [2, 3]), (2, [2]), (3, [2])]),
  (175, [(0, [0, 1]), (1, [0, 1, 7, 8]), (2, [0, 1, 7, 8, 9]), (3, [0, 1, 5, 7, 8]), (4, [0, 1, 5, 7, 8, 16]), (5, [4]), (6, [0, 1, 7, 8]), (7, [4])]),
  (176, [(0, [1]), (1, [2])]),
  (177, [(0, [0, 1]), (1, [4])]),
  (178, [(0, [1]), (1, [2])]),
  (179, [(0, [0, 1, 4]), (1, [4])]),
  (180, [(0, [0, 1, 4]), (1, [4])]),
  (181, [(0, [0, 1, 4]), (1, [4])]),
  (182, [(0, [1]), (1, [2])]),
  (183, [(0, [0]), (1, [4])]),
  (184, [(0, [1]), (1, [4])]),
  (185, [(0, [1]), (1, [2])]),
  (186, [(0, [0]), (1, [2])]),
  (187, [(0, [0]), (1, [2])]),
  (188, [(0, [0]), (1, [2])]),
  (189, [(0, [0, 1, 2, 5]), (1, [0, 1, 2, 5, 7]), (2, [5]), (3, [5])]),
  (190, [(0, [0, 1]), (1, [1, 4, 5]), (2, [1, 4, 5, 20]), (3, [4, 5]), (4, [4, 5])]),
  (191, [(0, [0, 1, 2, 5]), (1, [5])]),
  (192, [(0, [0, 1]), (1, [0, 1, 5]), (2, [0, 1, 5, 6]), (3, [0, 1, 6, 11]), (4, [12]), (5, [4]), (6, [4]), (7, [0, 1, 13]), (8, [4]), (9, [0, 1, 16]), (10, [4]), (11, [19]), (12, [4]), (13, [4])]),
  (193, [(0, [0]), (1, [2])])],
 head := [(8, [(11, [3, 6, 7])]),
  (9, [(16, [18, 20, 22, 23])]),
  (11, [(9, [1, 5, 7, 8]), (13, [1, 5, 7, 9]), (19, [1, 5, 7, 9, 10, 12])]),
  (15, [(19, [3, 9, 14, 15, 16])]),
  (16, [(9, [5, 7, 9, 11])]),
  (21, [(5, [1, 4])]),
  (22, [(4, [0, 1, 5])]),
  (23, [(3, [1, 3, 5, 7, 8])]),
  (24, [(8, [1, 7, 30, 31])]),
  (27, [(2, [1, 2, 5])]),
  (28, [(2, [1, 2, 5])]),
  (29, [(6, [1, 2, 3, 5, 21, 22, 23]), (19, [8, 58, 59, 60])]),
  (30, [(3, [1, 3, 4]), (7, [1, 3, 5]), (11, [1, 3, 5, 6, 7])]),
  (35, [(6, [6, 19, 20, 21]), (10, [6, 8, 9, 10, 19, 20, 21])]),
  (36, [(2, [1, 3])]),
  (43, [(2, [0, 1, 5])]),
  (44, [(3, [1, 2, 5, 6])]),
  (45, [(3, [1, 5, 6])]),
  (46, [(4, [0, 1, 5])]),
  (48, [(3, [1, 3, 4])]),
  (49, [(3, [1, 2, 5, 6])]),
  (55, [(4, [1, 5, 6, 13, 14])]),
  (57, [(4, [1, 3]), (10, [1, 5]), (15, [1, 6])]),
  (64, [(12, [2, 6, 8, 9, 69, 70, 71])]),
  (66, [(8, [7, 8])]),
  (69, [(9, [1, 4, 24, 25, 26])]),
  (71, [(2, [2, 4, 7, 8, 9])]),
  (74, [(3, [1, 2, 5, 6])]),
  (83, [(10, [1, 32, 33])]),
  (87, [(6, [1, 7, 10, 11])]),
  (99, [(3, [2, 3, 4, 5, 18, 19, 20]), (7, [2, 3, 4, 5, 7, 18, 19, 20, 38, 39])]),
  (109, [(5, [0, 3, 6, 7])]),
  (119, [(2, [0, 1, 7, 8])]),
  (123, [(6, [0, 6, 7, 8, 9, 10]), (9, [0, 6, 7, 8, 9, 10, 11])]),
  (124, [(2, [0, 1, 7, 8])]),
  (128, [(3, [2, 4, 6, 7, 21, 22]), (6, [2, 4, 6, 7, 9, 21, 22, 31, 32])]),
  (138, [(4, [1, 2, 15, 16, 17])]),
  (149, [(2, [0, 1, 7, 8])]),
  (156, [(4, [1, 3, 4, 5])]),
  (168, [(4, [0, 1, 5]), (6, [0, 1, 5])]),
  (169, [(2, [0, 1, 7, 8])]),
  (175, [(2, [0, 1, 7, 8])])],
 site := [(29, [1, 2, 3, 7, 8, 13, 14]), (32, [4, 9, 10]), (60, [3]), (68, [1]), (95, [1]), (108, [2, 3]), (117, [3, 4]), (118, [6]), (159, [3, 4]), (182, [1]), (185, [1])] }
end Go.Proofs.YtfhiejgoemcelaaGreat
namespace Go.Proofs.YtfhiejgoemcelaaGreat
open Go Tw
structure B where
 lo : Int
 hi : Int
 f : Int
 deriving DecidableEq
structure O where
 code : Int
 a : Int
 b : Int
 c : Int
 n : Int
 deriving DecidableEq
structure K where
 name : ByteArray
 lo : Int
 hi : Int
structure V where
 f : Int
 n : Int
 deriving DecidableEq
abbrev B.tv (b : B) : TV := .agg [.int .i64 b.lo, .int .i64 b.hi, .int .u8 b.f]
abbrev O.tv (o : O) : TV := .agg [.int .u8 o.code, .int .i64 o.a, .int .i64 o.b, .int .i64 o.c, .int .i64 o.n]
abbrev K.tv (c : K) : TV := .agg [.str c.name, .int .i64 c.lo, .int .i64 c.hi]
abbrev V.tv (v : V) : TV := .agg [.int .u8 v.f, .int .i64 v.n]
abbrev B.tvs (b : B) : List TV := [.int .i64 b.lo, .int .i64 b.hi, .int .u8 b.f]
abbrev O.tvs (o : O) : List TV := [.int .u8 o.code, .int .i64 o.a, .int .i64 o.b, .int .i64 o.c, .int .i64 o.n]
abbrev K.tvs (c : K) : List TV := [.str c.name, .int .i64 c.lo, .int .i64 c.hi]
abbrev V.tvs (v : V) : List TV := [.int .u8 v.f, .int .i64 v.n]
abbrev I.tvs (i : Int) : List TV := [.int .i64 i]
abbrev U.tvs (i : Int) : List TV := [.int .u8 i]
abbrev H.tvs (i : Int) : List TV := [.int .u16 i]
abbrev B0 : B := ⟨0, 0, 0⟩
abbrev O0 : O := ⟨0, 0, 0, 0, 0⟩
abbrev K0 : K := ⟨ByteArray.empty, 0, 0⟩
abbrev V0 : V := ⟨0, 0⟩
abbrev fu (h : List HB) (r : Int) : TV × List HB × List Nat := (.int .u8 r, h, [])
theorem u64 : Tryz.prog.underlying 64 = some (.slice 63) := by kernel_rfl
theorem z62 : sizeT Tryz.prog 62 = some 3 := by kernel_rfl
theorem z60 : sizeT Tryz.prog 60 = some 5 := by kernel_rfl
theorem z3 : sizeT Tryz.prog 3 = some 1 := by kernel_rfl
theorem z38 : sizeT Tryz.prog 38 = some 3 := by kernel_rfl
theorem z63 : sizeT Tryz.prog 63 = some 1 := by kernel_rfl
def ors : Int → List Int → Int
 | f, [] => f
 | f, g :: gs => ors (orI .u8 f g) gs
theorem u38 : Tryz.prog.underlying 38 = some (.struct #[⟨"Lo", 3, 0, false, "", "", 0⟩, ⟨"Hi", 3, 1, false, "", "", 8⟩, ⟨"Faults", 5, 2, false, "", "", 16⟩]) := by kernel_rfl
theorem u94 : Tryz.prog.underlying 94 = some (.struct #[⟨"Reach", 38, 0, true, "", "", 0⟩]) := by kernel_rfl
theorem u3 : Tryz.prog.underlying 3 = some (.int .i64) := by kernel_rfl
theorem u5 : Tryz.prog.underlying 5 = some (.int .u8) := by kernel_rfl
theorem pr38 (d : Nat) (a b : B) : pureRun Tryz.prog (Op.equalIn (d + 2) 38 (.agg #[.int .i64 a.lo, .int .i64 a.hi, .int .u8 a.f]) (.agg #[.int .i64 b.lo, .int .i64 b.hi, .int .u8 b.f])) = some (decide (a = b)) := by
 rw [pr_equalIn_struct (d + 1) 38 _ _ _ u38 (by kernel_rfl)]
 have p0 : ∀ x y z : Value, pureRun Tryz.prog (part 3 #[x, y, z] 0) = some x := by intro x y z; kernel_rfl
 have p1 : ∀ x y z : Value, pureRun Tryz.prog (part 3 #[x, y, z] 1) = some y := by intro x y z; kernel_rfl
 have p2 : ∀ x y z : Value, pureRun Tryz.prog (part 5 #[x, y, z] 2) = some z := by intro x y z; kernel_rfl
 have n1 : ("Lo" : String) ≠ "_" := by decide
 have n2 : ("Hi" : String) ≠ "_" := by decide
 have n3 : ("Faults" : String) ≠ "_" := by decide
 have q1 := pr_eqFields_cons (f := ⟨"Lo", 3, 0, false, "", "", 0⟩) (fs := [⟨"Hi", 3, 1, false, "", "", 8⟩, ⟨"Faults", 5, 2, false, "", "", 16⟩]) n1 (p0 (.int .i64 a.lo) (.int .i64 a.hi) (.int .u8 a.f)) (p0 (.int .i64 b.lo) (.int .i64 b.hi) (.int .u8 b.f)) (pr_equalIn_int d _ _ _ _ _ u3)
 have q2 := pr_eqFields_cons (f := ⟨"Hi", 3, 1, false, "", "", 8⟩) (fs := [⟨"Faults", 5, 2, false, "", "", 16⟩]) n2 (p1 (.int .i64 a.lo) (.int .i64 a.hi) (.int .u8 a.f)) (p1 (.int .i64 b.lo) (.int .i64 b.hi) (.int .u8 b.f)) (pr_equalIn_int d _ _ _ _ _ u3)
 have q3 := pr_eqFields_cons (f := ⟨"Faults", 5, 2, false, "", "", 16⟩) (fs := []) n3 (p2 (.int .i64 a.lo) (.int .i64 a.hi) (.int .u8 a.f)) (p2 (.int .i64 b.lo) (.int .i64 b.hi) (.int .u8 b.f)) (pr_equalIn_int d _ _ _ _ _ u5)
 rw [q1, q2, q3]
 rw [show pureRun Tryz.prog (Op.eqFields (d + 1) #[.int .i64 a.lo, .int .i64 a.hi, .int .u8 a.f] #[.int .i64 b.lo, .int .i64 b.hi, .int .u8 b.f] []) = some true from rfl]
 rcases a with ⟨a1, a2, a3⟩
 rcases b with ⟨b1, b2, b3⟩
 by_cases h1 : a1 = b1 <;> by_cases h2 : a2 = b2 <;> by_cases h3 : a3 = b3 <;> simp [h1, h2, h3]
theorem pr94 (d : Nat) (a b : B) : pureRun Tryz.prog (Op.equalIn (d + 3) 94 (.agg #[.int .i64 a.lo, .int .i64 a.hi, .int .u8 a.f]) (.agg #[.int .i64 b.lo, .int .i64 b.hi, .int .u8 b.f])) = some (decide (a = b)) := by
 rw [pr_equalIn_struct (d + 2) 94 _ _ _ u94 (by kernel_rfl)]
 have p0 : ∀ x y z : Value, pureRun Tryz.prog (part 38 #[x, y, z] 0) = some (.agg #[x, y, z]) := by intro x y z; kernel_rfl
 rw [pr_eqFields_cons (f := ⟨"Reach", 38, 0, true, "", "", 0⟩) (by decide) (p0 _ _ _) (p0 _ _ _) (pr38 d a b)]
 rw [show pureRun Tryz.prog (Op.eqFields (d + 2) #[.int .i64 a.lo, .int .i64 a.hi, .int .u8 a.f] #[.int .i64 b.lo, .int .i64 b.hi, .int .u8 b.f] []) = some true from rfl]
 by_cases h : a = b <;> simp [h]
theorem eq_B38 (x y : Operand) (a b : B) : binT Tryz.prog .eql 38 x y (B.tv a) (B.tv b) = some (.bool (decide (a = b))) := (binT_eql_agg rfl rfl (by kernel_rfl) (by decide) (pr38 9998 a b)).1
theorem ne_B38 (x y : Operand) (a b : B) : binT Tryz.prog .neq 38 x y (B.tv a) (B.tv b) = some (.bool (!decide (a = b))) := (binT_eql_agg rfl rfl (by kernel_rfl) (by decide) (pr38 9998 a b)).2
theorem eq_B94 (x y : Operand) (a b : B) : binT Tryz.prog .eql 94 x y (B.tv a) (B.tv b) = some (.bool (decide (a = b))) := (binT_eql_agg rfl rfl (by kernel_rfl) (by decide) (pr94 9997 a b)).1
theorem ne_B94 (x y : Operand) (a b : B) : binT Tryz.prog .neq 94 x y (B.tv a) (B.tv b) = some (.bool (!decide (a = b))) := (binT_eql_agg rfl rfl (by kernel_rfl) (by decide) (pr94 9997 a b)).2
end Go.Proofs.YtfhiejgoemcelaaGreat
namespace Go.Proofs.YtfhiejgoemcelaaGreat
open Go Tw Pv
inductive Kd where
 | i64 | u8 | u16 | b | o | k | v | no
def Kd.T : Kd → Type
 | .i64 | .u8 | .u16 => Int
 | .b => B
 | .o => O
 | .k => K
 | .v => V
 | .no => Unit
def kd (t : Nat) : Kd := match t with
 | 3 => .i64
 | 5 => .u8
 | 38 => .b
 | 60 => .o
 | 62 => .k
 | 63 => .u16
 | 78 => .v
 | 94 => .b
 | _ => .no
def gam (t : Nat) : Type := (kd t).T
def Kd.z : (k : Kd) → k.T
 | .i64 | .u8 | .u16 => (0 : Int)
 | .b => B0
 | .o => O0
 | .k => K0
 | .v => V0
 | .no => ()
def B.ps (b : B) : List (PV gam) := [.int .i64 b.lo, .int .i64 b.hi, .int .u8 b.f]
def O.ps (o : O) : List (PV gam) := [.int .u8 o.code, .int .i64 o.a, .int .i64 o.b, .int .i64 o.c, .int .i64 o.n]
def K.ps (c : K) : List (PV gam) := [.str c.name, .int .i64 c.lo, .int .i64 c.hi]
def V.ps (v : V) : List (PV gam) := [.int .u8 v.f, .int .i64 v.n]
def B.un (l : List (PV gam)) : Option B := match l with
 | [.int .i64 a, .int .i64 b, .int .u8 c] => some ⟨a, b, c⟩
 | _ => none
def O.un (l : List (PV gam)) : Option O := match l with
 | [.int .u8 c, .int .i64 x, .int .i64 y, .int .i64 z, .int .i64 n] => some ⟨c, x, y, z, n⟩
 | _ => none
def K.un (l : List (PV gam)) : Option K := match l with
 | [.str c, .int .i64 x, .int .i64 y] => some ⟨c, x, y⟩
 | _ => none
def V.un (l : List (PV gam)) : Option V := match l with
 | [.int .u8 c, .int .i64 x] => some ⟨c, x⟩
 | _ => none
def I.un (k : IntKind) (l : List (PV gam)) : Option Int := match l with
 | [.int k' x] => if k' = k then some x else none
 | _ => none
def Kd.enc : (k : Kd) → k.T → List (PV gam)
 | .i64 => fun n => [.int .i64 n]
 | .u8 => fun n => [.int .u8 n]
 | .u16 => fun n => [.int .u16 n]
 | .b => B.ps
 | .o => O.ps
 | .k => K.ps
 | .v => V.ps
 | .no => fun _ => []
def Kd.dec : (k : Kd) → List (PV gam) → Option k.T
 | .i64 => I.un .i64
 | .u8 => I.un .u8
 | .u16 => I.un .u16
 | .b => B.un
 | .o => O.un
 | .k => K.un
 | .v => V.un
 | .no => fun _ => none
noncomputable def X0 : Cod := ⟨gam, fun t => (kd t).z, fun t => (kd t).enc, fun t => (kd t).dec⟩
theorem B.un_ps {l : List (PV gam)} {b : B} (h : B.un l = some b) : B.ps b = l := by
 unfold B.un at h; split at h
 ·cases h; rfl
 ·cases h
theorem O.un_ps {l : List (PV gam)} {b : O} (h : O.un l = some b) : O.ps b = l := by
 unfold O.un at h; split at h
 ·cases h; rfl
 ·cases h
theorem K.un_ps {l : List (PV gam)} {b : K} (h : K.un l = some b) : K.ps b = l := by
 unfold K.un at h; split at h
 ·cases h; rfl
 ·cases h
theorem V.un_ps {l : List (PV gam)} {b : V} (h : V.un l = some b) : V.ps b = l := by
 unfold V.un at h; split at h
 ·cases h; rfl
 ·cases h
theorem I.un_ps {k : IntKind} {l : List (PV gam)} {b : Int} (h : I.un k l = some b) : [PV.int k b] = l := by
 unfold I.un at h; split at h
 ·split at h
  ·rename_i e; cases h; rw [e]
  ·cases h
 ·cases h
theorem dec0_enc : ∀ (k : Kd) {l : List (PV gam)} {a : k.T}, k.dec l = some a → k.enc a = l
 | .i64, _, _, h => I.un_ps h
 | .u8, _, _, h => I.un_ps h
 | .u16, _, _, h => I.un_ps h
 | .b, _, _, h => B.un_ps h
 | .o, _, _, h => O.un_ps h
 | .k, _, _, h => K.un_ps h
 | .v, _, _, h => V.un_ps h
 | .no, _, _, h => by cases h
theorem enc0_clos : ∀ (k : Kd) (a : k.T), clos.closs (k.enc a) = true := by
 intro k a
 cases k <;> rfl
theorem hX : CodOk X0 Tryz.prog := ⟨fun {t} vs a h {A m hh xs} hv => by rw [show X0.enc t a = vs from dec0_enc (kd t) h]; exact hv, fun t a => enc0_clos (kd t) a⟩
abbrev Arg (α : Type) := Ar X0 Tryz.prog α
noncomputable def iA : Arg Int := intA .i64
noncomputable def uA : Arg Int := intA .u8
noncomputable def hA : Arg Int := intA .u16
noncomputable def tA : Arg Bool := boolA
noncomputable def bA : Arg B := aggA hX 38
noncomputable def oA : Arg O := aggA hX 60
noncomputable def kA : Arg K := aggA hX 62
noncomputable def vA : Arg V := aggA hX 78
noncomputable def isA : Arg (List Int) := lstA 3
noncomputable def usA : Arg (List Int) := lstA 5
noncomputable def hsA : Arg (List Int) := lstA 63
noncomputable def bsA : Arg (List B) := lstA 38
noncomputable def osA : Arg (List O) := lstA 60
noncomputable def ksA : Arg (List K) := lstA 62
noncomputable def vsA : Arg (List V) := lstA 78
abbrev LL : Nat := 2 ^ 24
abbrev Gd (orc : Orc gam) : Prop := Pv.Good X0 Tryz.prog T LL orc
noncomputable abbrev ApN (n : Nat) : CallT := apN Tryz.prog T LL n
theorem LLm : most < LL := by decide
abbrev Lp (n f k : Nat) (s : PSt gam) (e : Ex) (s' : PSt gam) : Prop := ExecS X0 Tryz.prog T (ApN n) LL f false (ntP Tryz.prog f) 0 (.loop (bodyP Tryz.prog f k)) s e s'
abbrev Ok (n : Nat) (orc : Orc gam) : Prop := OrcOk X0 Tryz.prog (ApN n) orc
abbrev xi (n : Int) : PE gam := .val (.int .i64 n)
abbrev xu (n : Int) : PE gam := .val (.int .u8 n)
abbrev xh (n : Int) : PE gam := .val (.int .u16 n)
abbrev xt (b : Bool) : PE gam := .val (.bool b)
abbrev xl (b : Bool) : PE gam := .val (.lit b)
abbrev xL (t : Nat) (l : List (gam t)) : PE gam := .val (.lst t l false)
end Go.Proofs.YtfhiejgoemcelaaGreat
namespace Go.Proofs.YtfhiejgoemcelaaGreat
open Go Tw
def S_with (b : B) (gs : List Int) : B := ⟨b.lo, b.hi, ors b.f gs⟩
def S_from (lo : Int) (hi : Int) : B :=
 (⟨lo, hi, 0⟩ : B)
def S_nothing  : B :=
 (⟨1, 0, 0⟩ : B)
def S_any (b : B) : Bool :=
 decide ((b.lo) ≤ (b.hi))
def S_has (b : B) (k : Int) : Bool :=
 if (decide ((b.lo) ≤ (k))) = true then decide ((k) ≤ (b.hi)) else false
def S_mayBe0 (b : B) : Bool :=
 S_has b 0
def S_mayBeOther (b : B) : Bool :=
 if (decide (b.lo ≤ b.hi)) = true then if ((b.lo) != 0) = true then true else (b.hi) != 0 else false
def S_inside (b : B) (x : B) : Bool :=
 if ((andnI .u8 (b.f) (x.f)) == 0) = true then if (!(decide (b.lo ≤ b.hi))) = true then true else if (decide (x.lo ≤ x.hi)) = true then if (decide ((x.lo) ≤ (b.lo))) = true then decide ((b.hi) ≤ (x.hi)) else false else false else false
def S_hull (b : B) (x : B) (c : Bool) : B :=
 if (!c) = true then b else if (!(decide (x.lo ≤ x.hi))) = true then S_with b [x.f] else if (!(decide (b.lo ≤ b.hi))) = true then S_with x [b.f] else S_with ((⟨minI (b.lo) (x.lo), maxI (b.hi) (x.hi), 0⟩ : B)) [b.f, x.f]
def S_common (b : B) (x : B) : B :=
 if (!(decide (b.lo ≤ b.hi))) = true then S_with ((⟨1, 0, 0⟩ : B)) [andI .u8 (b.f) (x.f)] else if (!(decide (x.lo ≤ x.hi))) = true then S_with ((⟨1, 0, 0⟩ : B)) [andI .u8 (b.f) (x.f)] else if (!(decide (((⟨maxI (b.lo) (x.lo), minI (b.hi) (x.hi), 0⟩ : B)).lo ≤ ((⟨maxI (b.lo) (x.lo), minI (b.hi) (x.hi), 0⟩ : B)).hi))) = true then S_with ((⟨1, 0, 0⟩ : B)) [andI .u8 (b.f) (x.f)] else S_with ((⟨maxI (b.lo) (x.lo), minI (b.hi) (x.hi), 0⟩ : B)) [andI .u8 (b.f) (x.f)]
end Go.Proofs.YtfhiejgoemcelaaGreat
namespace Go.Proofs.YtfhiejgoemcelaaGreat
open Go Tw
def S_bit (a : Int) : Int :=
 shlI .u8 (1 : Int) (IntKind.u8.wrap ((a) - 1))
def S_quotient (a : Int) (b : Int) : Int :=
 if ((remI .i64 (a) (b)) != 0) = true then if ((decide ((a) < 0)) != (decide ((b) < 0))) = true then IntKind.i64.wrap ((quoI .i64 (a) (b)) - 1) else quoI .i64 (a) (b) else quoI .i64 (a) (b)
def S_by0 (b : B) : Int :=
 if (S_mayBe0 b) = true then S_bit 1 else 0
def S_sums1 (x : Int) (y : Int) : Int :=
 IntKind.i64.wrap ((x) + (y))
def S_differences1 (x : Int) (y : Int) : Int :=
 IntKind.i64.wrap ((x) - (y))
def S_products1 (x : Int) (y : Int) : Int :=
 IntKind.i64.wrap ((x) * (y))
def S_corners (g : Int → Int → Int) (a : B) (b : B) : B :=
 if (S_inside (S_hull (S_hull (S_hull (S_hull ((⟨1, 0, 0⟩ : B)) ((⟨g (a.lo) (b.lo), g (a.lo) (b.lo), 0⟩ : B)) true) ((⟨g (a.lo) (b.hi), g (a.lo) (b.hi), 0⟩ : B)) true) ((⟨g (a.hi) (b.lo), g (a.hi) (b.lo), 0⟩ : B)) true) ((⟨g (a.hi) (b.hi), g (a.hi) (b.hi), 0⟩ : B)) true) ((⟨-9999, 9999, 0⟩ : B))) = true then S_hull (S_hull (S_hull (S_hull ((⟨1, 0, 0⟩ : B)) ((⟨g (a.lo) (b.lo), g (a.lo) (b.lo), 0⟩ : B)) true) ((⟨g (a.lo) (b.hi), g (a.lo) (b.hi), 0⟩ : B)) true) ((⟨g (a.hi) (b.lo), g (a.hi) (b.lo), 0⟩ : B)) true) ((⟨g (a.hi) (b.hi), g (a.hi) (b.hi), 0⟩ : B)) true else S_with (S_common (S_hull (S_hull (S_hull (S_hull ((⟨1, 0, 0⟩ : B)) ((⟨g (a.lo) (b.lo), g (a.lo) (b.lo), 0⟩ : B)) true) ((⟨g (a.lo) (b.hi), g (a.lo) (b.hi), 0⟩ : B)) true) ((⟨g (a.hi) (b.lo), g (a.hi) (b.lo), 0⟩ : B)) true) ((⟨g (a.hi) (b.hi), g (a.hi) (b.hi), 0⟩ : B)) true) ((⟨-9999, 9999, 0⟩ : B))) [S_bit 2]
def S_sums (a : B) (b : B) : B :=
 S_corners S_sums1 a b
def S_differences (a : B) (b : B) : B :=
 S_corners S_differences1 a b
def S_products (a : B) (b : B) : B :=
 S_corners S_products1 a b
def S_verdict (a : Bool) (b : Bool) : B :=
 if a = true then (⟨1, 1, 0⟩ : B) else if b = true then (⟨0, 0, 0⟩ : B) else (⟨0, 1, 0⟩ : B)
def S_eq (b : B) (x : B) : B :=
 if ((b.lo) == (b.hi)) = true then if ((x.lo) == (x.hi)) = true then if (decide ((b.hi) < (x.lo))) = true then S_verdict ((b.lo) == (x.lo)) true else S_verdict ((b.lo) == (x.lo)) (decide ((x.hi) < (b.lo))) else if (decide ((b.hi) < (x.lo))) = true then S_verdict false true else S_verdict false (decide ((x.hi) < (b.lo))) else if (decide ((b.hi) < (x.lo))) = true then S_verdict false true else S_verdict false (decide ((x.hi) < (b.lo)))
def S_lt (b : B) (x : B) : B :=
 S_verdict (decide ((b.hi) < (x.lo))) (decide ((b.lo) ≥ (x.hi)))
def S_le (b : B) (x : B) : B :=
 S_verdict (decide ((b.hi) ≤ (x.lo))) (decide ((b.lo) > (x.hi)))
def S_mod (b : B) (y : B) : B :=
 if (!(S_mayBeOther y)) = true then S_with ((⟨1, 0, 0⟩ : B)) [S_by0 y] else if (decide ((y.lo) < 0)) = true then if (decide ((y.hi) > 0)) = true then if (decide ((b.lo) ≥ 0)) = true then if (decide ((y.lo) ≥ 0)) = true then S_with ((⟨IntKind.i64.wrap ((y.lo) + 1), minI (IntKind.i64.wrap ((y.hi) - 1)) (b.hi), 0⟩ : B)) [S_by0 y] else S_with ((⟨IntKind.i64.wrap ((y.lo) + 1), IntKind.i64.wrap ((y.hi) - 1), 0⟩ : B)) [S_by0 y] else S_with ((⟨IntKind.i64.wrap ((y.lo) + 1), IntKind.i64.wrap ((y.hi) - 1), 0⟩ : B)) [S_by0 y] else if (decide ((b.lo) ≥ 0)) = true then if (decide ((y.lo) ≥ 0)) = true then S_with ((⟨IntKind.i64.wrap ((y.lo) + 1), minI 0 (b.hi), 0⟩ : B)) [S_by0 y] else S_with ((⟨IntKind.i64.wrap ((y.lo) + 1), 0, 0⟩ : B)) [S_by0 y] else S_with ((⟨IntKind.i64.wrap ((y.lo) + 1), 0, 0⟩ : B)) [S_by0 y] else if (decide ((y.hi) > 0)) = true then if (decide ((b.lo) ≥ 0)) = true then if (decide ((y.lo) ≥ 0)) = true then S_with ((⟨0, minI (IntKind.i64.wrap ((y.hi) - 1)) (b.hi), 0⟩ : B)) [S_by0 y] else S_with ((⟨0, IntKind.i64.wrap ((y.hi) - 1), 0⟩ : B)) [S_by0 y] else S_with ((⟨0, IntKind.i64.wrap ((y.hi) - 1), 0⟩ : B)) [S_by0 y] else if (decide ((b.lo) ≥ 0)) = true then if (decide ((y.lo) ≥ 0)) = true then S_with ((⟨0, minI 0 (b.hi), 0⟩ : B)) [S_by0 y] else S_with ((⟨0, 0, 0⟩ : B)) [S_by0 y] else S_with ((⟨0, 0, 0⟩ : B)) [S_by0 y]
def S_and (a : B) (b : B) (c : B) : B :=
 S_with (S_hull (S_hull ((⟨1, 0, 0⟩ : B)) ((⟨0, 0, 0⟩ : B)) (S_mayBe0 a)) b (S_mayBeOther a)) [a.f]
def S_or (a : B) (b : B) (c : B) : B :=
 S_with (S_hull (S_hull ((⟨1, 0, 0⟩ : B)) b (S_mayBe0 a)) ((⟨1, 1, 0⟩ : B)) (S_mayBeOther a)) [a.f]
def S_choose (a : B) (b : B) (c : B) : B :=
 S_with (S_hull (S_hull ((⟨1, 0, 0⟩ : B)) b (S_mayBeOther a)) c (S_mayBe0 a)) [a.f]
def S_neg (a : B) (b : B) (c : B) : B :=
 S_with ((⟨IntKind.i64.wrap (0 - (a.hi)), IntKind.i64.wrap (0 - (a.lo)), 0⟩ : B)) [a.f]
def S_not (a : B) (b : B) (c : B) : B :=
 S_with (S_hull (S_hull ((⟨1, 0, 0⟩ : B)) ((⟨1, 1, 0⟩ : B)) (S_mayBe0 a)) ((⟨0, 0, 0⟩ : B)) (S_mayBeOther a)) [a.f]
end Go.Proofs.YtfhiejgoemcelaaGreat
namespace Go.Proofs.YtfhiejgoemcelaaGreat
open Go Tw
def S_both1 (g : B → B → B) (a : B) (b : B) (c : B) : B :=
 if (decide (b.lo ≤ b.hi)) = true then S_with (g a b) [a.f, b.f] else S_with ((⟨1, 0, 0⟩ : B)) [a.f, b.f]
def F_div (b : B) (y : B) (i : Nat) (x : Int) (s : B) : (B) ⊕ (Empty) :=
 if ((x) == 0) = true then .inl (s) else if (!(S_has y x)) = true then .inl (s) else .inl (S_hull (S_hull s ((⟨S_quotient b.lo x, S_quotient b.lo x, 0⟩ : B)) true) ((⟨S_quotient b.hi x, S_quotient b.hi x, 0⟩ : B)) true)
def S_div (b : B) (y : B) : B :=
 S_with ((getE (runL (F_div b y) (([y.lo, y.hi, -1, 1] : List Int)) 0 ((⟨1, 0, 0⟩ : B))))) [S_by0 y]
end Go.Proofs.YtfhiejgoemcelaaGreat
namespace Go.Proofs.YtfhiejgoemcelaaGreat
open Go Tw
def rulesM (b : Nat) : List (TV × TV) := [(.int .u8 5, .agg [.int .i64 1, .fn 93 [] []]), (.int .u8 6, .agg [.int .i64 1, .fn 94 [] []]), (.int .u8 7, .agg [.int .i64 2, .fn 127 [] [.ptr (b + 1) 0 1]]), (.int .u8 8, .agg [.int .i64 2, .fn 127 [] [.ptr (b + 2) 0 1]]), (.int .u8 9, .agg [.int .i64 2, .fn 127 [] [.ptr (b + 3) 0 1]]), (.int .u8 10, .agg [.int .i64 2, .fn 127 [] [.ptr (b + 4) 0 1]]), (.int .u8 11, .agg [.int .i64 2, .fn 127 [] [.ptr (b + 5) 0 1]]), (.int .u8 12, .agg [.int .i64 2, .fn 127 [] [.ptr (b + 6) 0 1]]), (.int .u8 13, .agg [.int .i64 2, .fn 127 [] [.ptr (b + 7) 0 1]]), (.int .u8 14, .agg [.int .i64 2, .fn 127 [] [.ptr (b + 8) 0 1]]), (.int .u8 15, .agg [.int .i64 2, .fn 104 [] []]), (.int .u8 16, .agg [.int .i64 2, .fn 105 [] []]), (.int .u8 17, .agg [.int .i64 3, .fn 106 [] []])]
def rulesL (b : Nat) : List HB :=
 [HB.map (rulesM b), HB.cells .own [.fn 96 [] []], HB.cells .own [.fn 97 [] []], HB.cells .own [.fn 98 [] []], HB.cells .own [.fn 99 [] []], HB.cells .own [.fn 100 [] []], HB.cells .own [.fn 101 [] []], HB.cells .own [.fn 102 [] []], HB.cells .own [.fn 103 [] []]]
end Go.Proofs.YtfhiejgoemcelaaGreat
namespace Go.Proofs.YtfhiejgoemcelaaGreat
open Go Tw
def RulesAt (h : List HB) (mb : Nat) : Prop := ∀ j x, (rulesL mb)[j]? = some x → h[mb + j]? = some x
theorem RulesAt.app {h : List HB} {mb : Nat} (hm : RulesAt h mb) (ext : List HB) : RulesAt (h ++ ext) mb := by
 intro j x hj
 have := hm j x hj
 have hl : mb + j < h.length := by
  rcases Nat.lt_or_ge (mb + j) h.length with h | h
  ·exact h
  ·rw [List.getElem?_eq_none h] at this; cases this
 rw [List.getElem?_append_left hl]; exact this
theorem RulesAt.new {h : List HB} : RulesAt (h ++ rulesL h.length) h.length := by
 intro j x hj
 rw [List.getElem?_append_right (by omega), Nat.add_sub_cancel_left]; exact hj
theorem RulesAt.box {h : List HB} {mb : Nat} (hm : RulesAt h mb) {j : Nat} {f : TV} (hj : (rulesL mb)[j]? = some (.cells .own [f])) : rdAt false 1 h (mb + j) 0 1 = some f := by
 have := hm j _ hj
 simp [rdAt, blkCells, this]
end Go.Proofs.YtfhiejgoemcelaaGreat
namespace Go.Proofs.YtfhiejgoemcelaaGreat
open Go Tw
def F_indexO (g : O → Bool) (i : Nat) (x : O) (s : Unit) : (Unit) ⊕ (Nat × O × (Unit)) :=
 if (g x) = true then .inr (i, x, s) else .inl ()
def S_IndexFuncO (g : O → Bool) (l : List O)  : Int :=
 if (isL (runL (F_indexO g) l 0 ())) = true then -1 else (((getR (0, O0, ()) (runL (F_indexO g) l 0 ())).1 : Int))
def S_ContainsFuncO (g : O → Bool) (l : List O)  : Bool :=
 decide ((S_IndexFuncO g l) ≥ 0)
theorem indexO (g : O → Bool) : ∀ (l : List O) (i : Nat), isL (runL (F_indexO g) l i ()) = !(l.any g)
 | [], i => rfl
 | x :: l, i => by
  simp only [runL, F_indexO, List.any_cons]
  cases g x with
  | true => rfl
  | false => simpa using indexO g l (i + 1)
theorem containsO (g : O → Bool) (l : List O) : S_ContainsFuncO g l = l.any g := by
 have := indexO g l 0
 unfold S_ContainsFuncO S_IndexFuncO
 rw [this]
 cases l.any g with
 | true => simp
 | false => simp
def F_indexK (g : K → Bool) (i : Nat) (x : K) (s : Unit) : (Unit) ⊕ (Nat × K × (Unit)) :=
 if (g x) = true then .inr (i, x, s) else .inl ()
def S_IndexFuncK (g : K → Bool) (l : List K)  : Int :=
 if (isL (runL (F_indexK g) l 0 ())) = true then -1 else (((getR (0, K0, ()) (runL (F_indexK g) l 0 ())).1 : Int))
def S_ContainsFuncK (g : K → Bool) (l : List K)  : Bool :=
 decide ((S_IndexFuncK g l) ≥ 0)
theorem indexK (g : K → Bool) : ∀ (l : List K) (i : Nat), isL (runL (F_indexK g) l i ()) = !(l.any g)
 | [], i => rfl
 | x :: l, i => by
  simp only [runL, F_indexK, List.any_cons]
  cases g x with
  | true => rfl
  | false => simpa using indexK g l (i + 1)
theorem containsK (g : K → Bool) (l : List K) : S_ContainsFuncK g l = l.any g := by
 have := indexK g l 0
 unfold S_ContainsFuncK S_IndexFuncK
 rw [this]
 cases l.any g with
 | true => simp
 | false => simp
def F_indexI (g : Int → Bool) (i : Nat) (x : Int) (s : Unit) : (Unit) ⊕ (Nat × Int × (Unit)) :=
 if (g x) = true then .inr (i, x, s) else .inl ()
def S_IndexFuncI (g : Int → Bool) (l : List Int)  : Int :=
 if (isL (runL (F_indexI g) l 0 ())) = true then -1 else (((getR (0, 0, ()) (runL (F_indexI g) l 0 ())).1 : Int))
def S_ContainsFuncI (g : Int → Bool) (l : List Int)  : Bool :=
 decide ((S_IndexFuncI g l) ≥ 0)
theorem indexI (g : Int → Bool) : ∀ (l : List Int) (i : Nat), isL (runL (F_indexI g) l i ()) = !(l.any g)
 | [], i => rfl
 | x :: l, i => by
  simp only [runL, F_indexI, List.any_cons]
  cases g x with
  | true => rfl
  | false => simpa using indexI g l (i + 1)
theorem containsI (g : Int → Bool) (l : List Int) : S_ContainsFuncI g l = l.any g := by
 have := indexI g l 0
 unfold S_ContainsFuncI S_IndexFuncI
 rw [this]
 cases l.any g with
 | true => simp
 | false => simp
def F_indexB (g : B → Bool) (i : Nat) (x : B) (s : Unit) : (Unit) ⊕ (Nat × B × (Unit)) :=
 if (g x) = true then .inr (i, x, s) else .inl ()
def S_IndexFuncB (g : B → Bool) (l : List B)  : Int :=
 if (isL (runL (F_indexB g) l 0 ())) = true then -1 else (((getR (0, B0, ()) (runL (F_indexB g) l 0 ())).1 : Int))
def S_ContainsFuncB (g : B → Bool) (l : List B)  : Bool :=
 decide ((S_IndexFuncB g l) ≥ 0)
theorem indexB (g : B → Bool) : ∀ (l : List B) (i : Nat), isL (runL (F_indexB g) l i ()) = !(l.any g)
 | [], i => rfl
 | x :: l, i => by
  simp only [runL, F_indexB, List.any_cons]
  cases g x with
  | true => rfl
  | false => simpa using indexB g l (i + 1)
theorem containsB (g : B → Bool) (l : List B) : S_ContainsFuncB g l = l.any g := by
 have := indexB g l 0
 unfold S_ContainsFuncB S_IndexFuncB
 rw [this]
 cases l.any g with
 | true => simp
 | false => simp
end Go.Proofs.YtfhiejgoemcelaaGreat
namespace Go.Proofs.YtfhiejgoemcelaaGreat
open Go Tw
structure C where
 cs : List K
 os : List O
 rs : List Int
def S_check1 (o : O) : Bool :=
 (o.code) == 4
def S_within1 (x : Int) (lo : Int) (hi : Int) : Bool :=
 if (decide ((x) < (lo))) = true then true else decide ((x) > (hi))
def S_within (l : List Int) (lo : Int) (hi : Int) : Bool :=
 !(l.any ((fun x => S_within1 x lo hi)))
def S_isNoChoice (x : K) : Bool :=
 if (!(S_within (([x.lo, x.hi] : List Int)) (-9999) 9999)) = true then true else !(S_within (([IntKind.i64.wrap ((IntKind.i64.wrap ((x.hi) - (x.lo))) + 1)] : List Int)) 1 12)
def S_isNumber (c : C) (o : O) : Bool :=
 if ((o.code) == 1) = true then S_within (([o.n] : List Int)) (-9999) 9999 else if ((o.code) == 2) = true then S_within (([o.n] : List Int)) 1 4 else if ((o.code) == 3) = true then S_within (([o.n] : List Int)) 0 (IntKind.i64.wrap (((c.cs.length : Nat) : Int) - 1)) else if ((o.code) == 4) = true then S_within (([o.n] : List Int)) 0 31 else (o.n) == 0
def S_arity (a : Int) : Int :=
 if (decide ((a) ≤ 4)) = true then 0 else if (decide ((a) ≤ 6)) = true then 1 else if (decide ((a) ≤ 16)) = true then 2 else 3
def S_isOpA (c : C) (at_ : Int) (o : O) (m : Nat) : Bool :=
 if (!(S_isNumber c o)) = true then false else if S_within (([o.a, o.b, o.c] : List Int).take m) 0 (IntKind.i64.wrap ((at_) - 1)) = true then S_within (([o.a, o.b, o.c] : List Int).drop m) 0 0 else false
def S_isOp (c : C) (at_ : Int) (o : O) : Bool :=
 if decide (o.code < 1) = true then false else if decide (o.code > 17) = true then false else S_isOpA c at_ o (S_arity o.code).toNat
def F_Check (c : C) (i : Nat) (x : O) (s : Unit) : (Unit) ⊕ (Nat × O × (Unit)) :=
 if (!(S_isOp c ((((i : Nat) : Int))) x)) = true then .inr (i, x, s) else .inl ()
def S_Check (c : C)  : Int :=
 if (decide (((c.cs.length : Nat) : Int) > 6)) = true then 5 else if (decide (((c.os.length : Nat) : Int) > 3000)) = true then 5 else if (decide (((c.rs.length : Nat) : Int) > 3000)) = true then 5 else if (c.cs.any ((fun x => S_isNoChoice x))) = true then 3 else if (!(S_within c.rs 0 (IntKind.i64.wrap (((c.os.length : Nat) : Int) - 1)))) = true then 4 else if (isL (runL (F_Check c) c.os 0 ())) = true then 0 else 4
end Go.Proofs.YtfhiejgoemcelaaGreat
namespace Go.Proofs.YtfhiejgoemcelaaGreat
open Go Tw
def S_apply (code : Int) (x y z : B) : B :=
 if code = 5 then S_neg x ⟨0, 0, 0⟩ ⟨0, 0, 0⟩ else if code = 6 then S_not x ⟨0, 0, 0⟩ ⟨0, 0, 0⟩ else if code = 7 then S_both1 S_sums x y ⟨0, 0, 0⟩ else if code = 8 then S_both1 S_differences x y ⟨0, 0, 0⟩ else if code = 9 then S_both1 S_products x y ⟨0, 0, 0⟩ else if code = 10 then S_both1 S_div x y ⟨0, 0, 0⟩ else if code = 11 then S_both1 S_mod x y ⟨0, 0, 0⟩ else if code = 12 then S_both1 S_eq x y ⟨0, 0, 0⟩ else if code = 13 then S_both1 S_lt x y ⟨0, 0, 0⟩ else if code = 14 then S_both1 S_le x y ⟨0, 0, 0⟩ else if code = 15 then S_and x y ⟨0, 0, 0⟩ else if code = 16 then S_or x y ⟨0, 0, 0⟩ else S_choose x y z
def S_rule (cs : List K) (l : List B) (o : O) : B :=
 if o.code = 1 then ⟨o.n, o.n, 0⟩ else if o.code = 2 then S_with ⟨1, 0, 0⟩ [S_bit (IntKind.u8.wrap o.n)] else if o.code = 3 then ⟨(cs.getD o.n.toNat K0).lo, (cs.getD o.n.toNat K0).hi, 0⟩
 else if (!(decide ((l.getD o.a.toNat B0).lo ≤ (l.getD o.a.toNat B0).hi))) = true then S_with ⟨1, 0, 0⟩ [(l.getD o.a.toNat B0).f]
 else S_apply o.code (l.getD o.a.toNat B0) (l.getD o.b.toNat B0) (l.getD o.c.toNat B0)
structure RuleOk (o : O) (len nc : Nat) : Prop where
 lo : 1 ≤ o.code
 hi : o.code ≤ 17
 no : o.code ≠ 4
 ch : o.code = 3 → 0 ≤ o.n ∧ o.n < nc
 a : 5 ≤ o.code → 0 ≤ o.a ∧ o.a < len
 b : 7 ≤ o.code → 0 ≤ o.b ∧ o.b < len
 c : o.code = 17 → 0 ≤ o.c ∧ o.c < len
end Go.Proofs.YtfhiejgoemcelaaGreat
namespace Go.Proofs.YtfhiejgoemcelaaGreat
open Go Tw
def reachS {σ : Type} (g : σ → Nat → B → σ × B) (cs : List K) : List O → σ → List B → σ × List B
 | [], s, l => (s, l)
 | o :: os, s, l => reachS g cs os (g s l.length (S_rule cs l o)).1 (l ++ [(g s l.length (S_rule cs l o)).2])
end Go.Proofs.YtfhiejgoemcelaaGreat
namespace Go.Proofs.YtfhiejgoemcelaaGreat
open Go Tw
theorem S_Check_len {c : C} (h : ((S_Check c) != 0) = false) : c.cs.length ≤ 6 ∧ c.os.length ≤ 3000 ∧ c.rs.length ≤ 3000 := by
 unfold S_Check at h
 split at h
 ·simp at h
 ·split at h
  ·simp at h
  ·split at h
   ·simp at h
   ·rename_i h1 h2 h3
    simp only [decide_eq_true_eq] at h1 h2 h3
    omega
def S_check (c : C)  : Int :=
 if ((S_Check c) != 0) = true then S_Check c else if (c.os.any ((fun o => S_check1 o))) = true then 9 else 0
def S_plain (i : Int) (b : B) : B :=
 b
end Go.Proofs.YtfhiejgoemcelaaGreat
namespace Go.Proofs.YtfhiejgoemcelaaGreat
open Go Tw
theorem wrap_small {z : Int} (h0 : -(2 ^ 62) ≤ z) (h1 : z < 2 ^ 62) : IntKind.i64.wrap z = z := by
 simp only [IntKind.wrap, IntKind.bits, IntKind.signed]
 rcases Int.lt_or_le z 0 with h | h
 ·have : z % (2 ^ 64 : Int) = z + 2 ^ 64 := by
   have := Int.add_mul_emod_self_left z (2 ^ 64) 1
   rw [Int.mul_one] at this
   rw [← this]
   exact Int.emod_eq_of_lt (by omega) (by omega)
  simp only [this]
  rw [if_pos (by simp; omega)]
  omega
 ·have : z % (2 ^ 64 : Int) = z := Int.emod_eq_of_lt h (by omega)
  simp only [this]
  rw [if_neg (by simp; omega)]
theorem within_iff {l : List Int} {lo hi : Int} : S_within l lo hi = true ↔ ∀ x ∈ l, lo ≤ x ∧ x ≤ hi := by
 unfold S_within
 simp only [Bool.not_eq_true', List.any_eq_false, S_within1]
 constructor
 ·intro h x hx
  have := h x hx
  by_cases h1 : x < lo
  ·simp [h1] at this
  ·simp [h1] at this
   omega
 ·intro h x hx
  have := h x hx
  simp only [decide_eq_true_eq]
  rw [if_neg (by omega)]
  simp; omega
theorem check_all {c : C} : ∀ {l : List O} {i : Nat}, isL (runL (F_Check c) l i ()) = true → ∀ (j : Nat) (o : O), l[j]? = some o → S_isOp c ((i + j : Nat) : Int) o = true
 | [], i, _, j, o, hj => by simp at hj
 | x :: l, i, h, j, o, hj => by
  simp only [runL, F_Check] at h
  by_cases hx : S_isOp c (i : Int) x = true
  ·rw [if_neg (by simp [hx])] at h
   cases j with
   | zero =>
    simp only [List.getElem?_cons_zero, Option.some.injEq] at hj
    subst hj
    exact hx
   | succ j =>
    have := check_all h j o (by simpa using hj)
    rwa [show i + 1 + j = i + (j + 1) by omega] at this
  ·simp only [Bool.not_eq_true] at hx
   rw [if_pos (by simp [hx])] at h
   cases h
theorem Check_ops {c : C} (h : ((S_Check c) != 0) = false) : ∀ (i : Nat) (o : O), c.os[i]? = some o → S_isOp c (i : Int) o = true := by
 intro i o ho
 unfold S_Check at h
 split at h
 ·simp at h
 ·split at h
  ·simp at h
  ·split at h
   ·simp at h
   ·split at h
    ·simp at h
    ·split at h
     ·simp at h
     ·split at h
      ·rename_i hl
       have := check_all hl i o ho
       simpa using this
      ·simp at h
theorem arity_cases (k : Int) (h0 : 1 ≤ k) (h1 : k ≤ 17) : (k ≤ 4 ∧ S_arity k = 0) ∨ (5 ≤ k ∧ k ≤ 6 ∧ S_arity k = 1) ∨ (7 ≤ k ∧ k ≤ 16 ∧ S_arity k = 2) ∨ (k = 17 ∧ S_arity k = 3) := by
 unfold S_arity
 simp only [decide_eq_true_eq]
 by_cases a : k ≤ 4
 ·rw [if_pos a]; omega
 ·rw [if_neg a]
  by_cases b : k ≤ 6
  ·rw [if_pos b]; omega
  ·rw [if_neg b]
   by_cases d : k ≤ 16
   ·rw [if_pos d]; omega
   ·rw [if_neg d]; omega
theorem isOp_ok {c : C} {i : Nat} {o : O} (hi : i < 4000) (hcs : c.cs.length < 4000) (h : S_isOp c (i : Int) o = true) :
  1 ≤ o.code ∧ o.code ≤ 17 ∧ S_isNumber c o = true ∧ (5 ≤ o.code → 0 ≤ o.a ∧ o.a < i) ∧ (7 ≤ o.code → 0 ≤ o.b ∧ o.b < i) ∧ (o.code = 17 → 0 ≤ o.c ∧ o.c < i)
   ∧ (o.code ≤ 4 → o.a = 0) ∧ (o.code ≤ 6 → o.b = 0) ∧ (o.code ≤ 16 → o.c = 0) := by
 unfold S_isOp at h
 split at h
 ·cases h
 ·split at h
  ·cases h
  ·rename_i h1 h2
   simp only [decide_eq_true_eq] at h1 h2
   unfold S_isOpA at h
   split at h
   ·cases h
   ·rename_i h3
    simp only [Bool.not_eq_true', Bool.not_eq_false] at h3
    split at h
    ·rename_i h4
     rw [within_iff] at h4 h
     rw [wrap_small (by omega) (by omega)] at h4
     refine ⟨by omega, by omega, by simpa using h3, ?_⟩
     rcases arity_cases o.code (by omega) (by omega) with ⟨k, e⟩ | ⟨k, k', e⟩ | ⟨k, k', e⟩ | ⟨k, e⟩
     ·rw [e] at h h4
      have a := h o.a (by simp)
      have b := h o.b (by simp)
      have d := h o.c (by simp)
      omega
     ·rw [e] at h h4
      have a := h4 o.a (by simp)
      have b := h o.b (by simp)
      have d := h o.c (by simp)
      omega
     ·rw [e] at h h4
      have a := h4 o.a (by simp)
      have b := h4 o.b (by simp)
      have d := h o.c (by simp)
      omega
     ·rw [e] at h h4
      have a := h4 o.a (by simp)
      have b := h4 o.b (by simp)
      have d := h4 o.c (by simp)
      omega
    ·cases h
theorem isNumber3 {c : C} {o : O} (hcs : c.cs.length < 4000) (hk : o.code = 3) (h : S_isNumber c o = true) : 0 ≤ o.n ∧ o.n < c.cs.length := by
 unfold S_isNumber at h
 rw [hk] at h
 simp only [show ((3 : Int) == 1) = false from rfl, show ((3 : Int) == 2) = false from rfl, show ((3 : Int) == 3) = true from rfl, Bool.false_eq_true, if_false, if_true] at h
 rw [within_iff, wrap_small (by omega) (by omega)] at h
 have := h o.n (by simp)
 omega
theorem check_ok {c : C} (h : ((S_check c) != 0) = false) : ((S_Check c) != 0) = false ∧ (∀ (i : Nat) (o : O), c.os[i]? = some o → RuleOk o i c.cs.length ∧ S_isOp c (i : Int) o = true) ∧ c.cs.length ≤ 6 ∧ c.os.length ≤ 3000 ∧ c.rs.length ≤ 3000 := by
 unfold S_check at h
 split at h
 ·rename_i h1
  rw [h1] at h; cases h
 ·rename_i h1
  simp only [Bool.not_eq_true] at h1
  have hl := S_Check_len h1
  have hops := Check_ops h1
  refine ⟨h1, ?_, hl⟩
  intro i o ho
  have hi : i < c.os.length := by
   rcases Nat.lt_or_ge i c.os.length with h | h
   ·exact h
   ·rw [List.getElem?_eq_none h] at ho; cases ho
  have hop := hops i o ho
  obtain ⟨k1, k2, k3, ka, kb, kc, _⟩ := isOp_ok (by omega) (by omega) hop
  refine ⟨⟨k1, k2, ?_, fun e => isNumber3 (by omega) e k3, ka, kb, kc⟩, hop⟩
  intro e
  split at h
  ·simp at h
  ·rename_i h2
   apply h2
   rw [List.any_eq_true]
   exact ⟨o, List.mem_of_getElem? ho, by simp [S_check1, e]⟩
end Go.Proofs.YtfhiejgoemcelaaGreat
namespace Go.Proofs.YtfhiejgoemcelaaGreat
open Go Tw
def reachL (cs : List K) (os : List O) : List B := (reachS (fun (_ : Unit) _ b => ((), b)) cs os () []).2
def S_Of (c : C) : List B × Int := if ((S_check c) != 0) = true then ([], S_check c) else (reachL c.cs c.os, 0)
def S_Never (e1 : Int) (l1 : List B) (op : Int) : Int × Int :=
 if ((e1) != 0) = true then (0, e1) else if (decide ((op) < 0)) = true then (0, 3) else if (decide ((op) ≥ ((l1.length : Nat) : Int))) = true then (0, 3) else (andnI .u8 (15 : Int) (((l1.getD op.toNat B0)).f), 0)
def M_Never (c : C) (op : Int) : Int × Int := S_Never (S_Of c).2 (S_Of c).1 op
end Go.Proofs.YtfhiejgoemcelaaGreat
namespace Go.Proofs.YtfhiejgoemcelaaGreat
open Go Tw
def S_valid (b : B) : Bool :=
 if (decide ((b.f) > 15)) = true then false else if (decide (b = S_with ((⟨1, 0, 0⟩ : B)) [b.f])) = true then true else if (decide ((-9999 : Int) ≤ (b.lo))) = true then if (decide (b.lo ≤ b.hi)) = true then decide ((b.hi) ≤ 9999) else false else false
def S_Weak1 (x : B) : Bool :=
 S_valid x
def S_all1 (x : B) : Bool :=
 !(S_Weak1 x)
def S_all (l : List B)  : Bool :=
 !(l.any ((fun x => S_all1 x)))
theorem RuleOk.mono {o : O} {i j nc : Nat} (h : RuleOk o i nc) (hij : i ≤ j) : RuleOk o j nc :=
 ⟨h.lo, h.hi, h.no, h.ch, fun e => by have := h.a e; omega, fun e => by have := h.b e; omega, fun e => by have := h.c e; omega⟩
def F_Weak (c : C) (l : List B) (i : Nat) (x : O) (s : Unit) : (Unit) ⊕ (Nat × O × (Unit)) :=
 if (!(S_inside (S_rule c.cs l x) ((l.getD (((i : Nat) : Int)).toNat B0)))) = true then .inr (i, x, s) else .inl ()
def S_Weak (c : C) (l : List B)  : Int × Int :=
 if ((S_check c) != 0) = true then (0, S_check c) else if (((l.length : Nat) : Int) != ((c.os.length : Nat) : Int)) = true then (0, 2) else if (!(S_all l)) = true then (0, 2) else if (isL (runL (F_Weak c l) c.os 0 ())) = true then (0, 7) else ((((getR (0, O0, ()) (runL (F_Weak c l) c.os 0 ())).1 : Int)), 0)
def S_Prove (c : C) (l : List B)  : Bool :=
 ((S_Weak c l).2) == 7
end Go.Proofs.YtfhiejgoemcelaaGreat
namespace Go.Proofs.YtfhiejgoemcelaaGreat
open Go Tw
def gClip (op : Int) (kn : B) (s : Bool × Bool) (i : Nat) (b : B) : (Bool × Bool) × B :=
 if ((i : Int) != op) = true then (s, b) else ((!decide (S_common b kn = (⟨1, 0, 0⟩ : B)), true), S_common b kn)
def S_Clip (c : C) (op : Int) (kn : B) : List B × Int :=
 if ((S_check c) != 0) = true then ([], S_check c) else if (decide (op < 0)) = true then ([], 3) else if (decide (op ≥ ((c.os.length : Nat) : Int))) = true then ([], 3)
 else if (!(S_valid kn)) = true then ([], 2) else if (!((reachS (gClip op kn) c.cs c.os (true, false) []).1.1)) = true then ([], 12) else ((reachS (gClip op kn) c.cs c.os (true, false) []).2, 0)
end Go.Proofs.YtfhiejgoemcelaaGreat
namespace Go.Proofs.YtfhiejgoemcelaaGreat
open Go Tw
def widthF : Nat → B → Int → Int → Option (Bool × Int × Int)
 | 0, _, _, _ => none
 | f + 1, r, w, half =>
  if decide (r.lo ≤ r.hi) = true then
   if decide (IntKind.i64.wrap (0 - half) ≤ r.lo) = true then
    if decide (r.hi < half) = true then some (true, w, half) else widthF f r (IntKind.i64.wrap (w + 1)) (IntKind.i64.wrap (half * 2))
   else widthF f r (IntKind.i64.wrap (w + 1)) (IntKind.i64.wrap (half * 2))
  else some (false, w, half)
def S_width (r : B) : Int :=
 match widthF 64 r 0 1 with
 | some (true, w, _) => IntKind.i64.wrap (w + 1)
 | some (false, w, _) => w
 | none => 0
theorem g3 : bigRoom Tryz.prog 3 5000 = true := by kernel_rfl
def S_Widths (c : C) : List Int × Int := if (((S_Of c).2) != 0) = true then ([], (S_Of c).2) else ((S_Of c).1.map S_width, 0)
end Go.Proofs.YtfhiejgoemcelaaGreat
namespace Go.Proofs.YtfhiejgoemcelaaGreat
open Go Tw Pv
noncomputable def oc70 : Orc gam := orcF 70 (a2 iA iA) bA (fun p => S_from p.1 p.2) np orc0
theorem gc70 : Gd oc70 := Good.nil.add fun n hO p _ => fn_is hX hO (by kernel_rfl) .rr
noncomputable def oc67 : Orc gam := orcF 67 nilA bA (fun _ => S_nothing) np oc70
theorem gc67 : Gd oc67 := gc70.add fun n hO p _ => fn_is hX hO (by kernel_rfl) .rr
noncomputable def oc78 : Orc gam := orcF 78 (a1 bA) tA S_any np oc67
theorem gc78 : Gd oc78 := gc67.add fun n hO p _ => fn_is hX hO (by kernel_rfl) .rr
noncomputable def oc132 : Orc gam := orcF 132 (a2 bA iA) tA (fun p => S_has p.1 p.2) np oc78
theorem gc132 : Gd oc132 := gc78.add fun n hO p _ => fn_is hX hO (by kernel_rfl) (.ss .rr .rr)
noncomputable def oc125 : Orc gam := orcF 125 (a1 bA) tA S_mayBe0 np oc132
theorem gc125 : Gd oc125 := gc132.add fun n hO p _ => fn_is hX hO (by kernel_rfl) .rr
noncomputable def oc126 : Orc gam := orcF 126 (a1 bA) tA S_mayBeOther np oc125
theorem gc126 : Gd oc126 := gc125.add fun n hO p _ => fn_is hX hO (by kernel_rfl) (.ss (.ss .rr .rr) .rr)
noncomputable def oc65 : Orc gam := orcF 65 (a2 bA bA) tA (fun p => S_inside p.1 p.2) np oc126
theorem gc65 : Gd oc65 := gc126.add fun n hO p _ => fn_is hX hO (by kernel_rfl) (.ss (.ss .rr (.ss (.ss .rr .rr) .rr)) .rr)
theorem ors_fold : ∀ (l : List Int) (f : Int), l.foldl (fun f a => orI .u8 f a) f = ors f l
 | [], f => rfl
 | a :: l, f => ors_fold l _
noncomputable abbrev w71 (b : B) (l : List Int) (i f : Int) (x : List (Nat × PE gam)) : PSt gam := ⟨[(2, .loc 0 0), (4, .loc 1 0), (7, xL 5 l), (8, xi l.length), (9, xi i)] ++ x, [[.int .i64 b.lo, .int .i64 b.hi, .int .u8 f], B0.ps], []⟩
theorem l71 {n : Nat} (hO : Ok n oc65) (b : B) {l : List Int} (hl : l.length ≤ most) : Lp n 71 0 (w71 b l 0 b.f []) (.exit 0) (w71 b l l.length (ors b.f l) [(10, xl false)]) := by
 rw [← ors_fold]
 exact eachF 0 (st := fun i f => w71 b l i f []) (fin := fun f => w71 b l l.length f [(10, xl false)]) (by kernel_rfl) hl LLm (fun k s hk _ n e p h => round hX hO (by kernel_rfl) (.b (lt_nat hk) <| .o (inR_nat hk) <| .go h)) (fun s _ => round hX hO (by kernel_rfl) (.b (lt_no l.length) .ex))
noncomputable def oc71 : Orc gam := orcF 71 (a2 bA usA) bA (fun p => S_with p.1 p.2) (fun p => [p.2.length ≤ most]) oc65
theorem gc71 : Gd oc71 := gc65.add fun n hO p hp => fn_is hX hO (by kernel_rfl) (.w (l71 hO p.1 (hp _ (.head _))) .rr)
end Go.Proofs.YtfhiejgoemcelaaGreat
namespace Go.Proofs.YtfhiejgoemcelaaGreat
open Go Tw Pv
theorem le1 : 1 ≤ most := by decide
theorem le2 : 2 ≤ most := by decide
theorem le3 : 3 ≤ most := by decide
theorem le4 : 4 ≤ most := by decide
theorem le8 : 8 ≤ LL := by decide
noncomputable def oc72 : Orc gam := orcF 72 (a1 uA) uA (fun p => S_bit p) np oc71
theorem gc72 : Gd oc72 := gc71.add fun n hO p hp => fn_is hX hO (by kernel_rfl) (.o (wrap_u8_nn _ : 0 ≤ IntKind.u8.wrap (p - 1)) .rr)
noncomputable def oc73 : Orc gam := orcF 73 (a3 bA bA tA) bA (fun p => S_hull p.1 p.2.1 p.2.2) np oc72
theorem gc73 : Gd oc73 := gc72.add fun n hO p hp => fn_is hX hO (by kernel_rfl) (.ss .rr (.ss (.o le1 .rr) (.ss (.o le1 .rr) (.o le2 .rr))))
noncomputable def oc76 : Orc gam := orcF 76 (a2 bA bA) bA (fun p => S_common p.1 p.2) np oc73
theorem gc76 : Gd oc76 := gc73.add fun n hO p hp => fn_is hX hO (by kernel_rfl) (.ss (.o le1 .rr) (.ss (.o le1 .rr) (.ss (.o le1 .rr) (.o le1 .rr))))
noncomputable def oc133 : Orc gam := orcF 133 (a2 iA iA) iA (fun p => S_quotient p.1 p.2) (fun p => [p.2 ≠ 0]) oc76
theorem gc133 : Gd oc133 := gc76.add fun n hO p hp => fn_is hX hO (by kernel_rfl) (.o (hp _ (.head _)) (.o (hp _ (.head _)) (.ss (.ss .rr .rr) .rr)))
noncomputable def oc134 : Orc gam := orcF 134 (a1 bA) uA (fun p => S_by0 p) np oc133
theorem gc134 : Gd oc134 := gc133.add fun n hO p hp => fn_is hX hO (by kernel_rfl) (.ss .rr .rr)
noncomputable def oc129 : Orc gam := orcF 129 (a2 iA iA) iA (fun p => S_sums1 p.1 p.2) np oc134
theorem gc129 : Gd oc129 := gc134.add fun n hO p hp => fn_is hX hO (by kernel_rfl) .rr
noncomputable def oc130 : Orc gam := orcF 130 (a2 iA iA) iA (fun p => S_differences1 p.1 p.2) np oc129
theorem gc130 : Gd oc130 := gc129.add fun n hO p hp => fn_is hX hO (by kernel_rfl) .rr
noncomputable def oc131 : Orc gam := orcF 131 (a2 iA iA) iA (fun p => S_products1 p.1 p.2) np oc130
theorem gc131 : Gd oc131 := gc130.add fun n hO p hp => fn_is hX hO (by kernel_rfl) .rr
noncomputable def oc135 : Orc gam := orcF 135 (a2 tA tA) bA (fun p => S_verdict p.1 p.2) np oc131
theorem gc135 : Gd oc135 := gc131.add fun n hO p hp => fn_is hX hO (by kernel_rfl) (.ss .rr (.ss .rr .rr))
noncomputable def oc101 : Orc gam := orcF 101 (a2 bA bA) bA (fun p => S_eq p.1 p.2) np oc135
theorem gc101 : Gd oc101 := gc135.add fun n hO p hp => fn_is hX hO (by kernel_rfl) (.ss (.ss (.ss .rr .rr) (.ss .rr .rr)) (.ss .rr .rr))
noncomputable def oc102 : Orc gam := orcF 102 (a2 bA bA) bA (fun p => S_lt p.1 p.2) np oc101
theorem gc102 : Gd oc102 := gc101.add fun n hO p hp => fn_is hX hO (by kernel_rfl) .rr
noncomputable def oc103 : Orc gam := orcF 103 (a2 bA bA) bA (fun p => S_le p.1 p.2) np oc102
theorem gc103 : Gd oc103 := gc102.add fun n hO p hp => fn_is hX hO (by kernel_rfl) .rr
noncomputable def oc100 : Orc gam := orcF 100 (a2 bA bA) bA (fun p => S_mod p.1 p.2) np oc103
theorem gc100 : Gd oc100 := gc103.add fun n hO p hp => fn_is hX hO (by kernel_rfl) (.ss (.o le1 .rr) (.ss (.ss (.ss (.ss (.o le1 .rr) (.o le1 .rr)) (.o le1 .rr)) (.ss (.ss (.o le1 .rr) (.o le1 .rr)) (.o le1 .rr))) (.ss (.ss (.ss (.o le1 .rr) (.o le1 .rr)) (.o le1 .rr)) (.ss (.ss (.o le1 .rr) (.o le1 .rr)) (.o le1 .rr)))))
noncomputable def oc104 : Orc gam := orcF 104 (a3 bA bA bA) bA (fun p => S_and p.1 p.2.1 p.2.2) np oc100
theorem gc104 : Gd oc104 := gc100.add fun n hO p hp => fn_is hX hO (by kernel_rfl) (.o le1 .rr)
noncomputable def oc105 : Orc gam := orcF 105 (a3 bA bA bA) bA (fun p => S_or p.1 p.2.1 p.2.2) np oc104
theorem gc105 : Gd oc105 := gc104.add fun n hO p hp => fn_is hX hO (by kernel_rfl) (.o le1 .rr)
noncomputable def oc106 : Orc gam := orcF 106 (a3 bA bA bA) bA (fun p => S_choose p.1 p.2.1 p.2.2) np oc105
theorem gc106 : Gd oc106 := gc105.add fun n hO p hp => fn_is hX hO (by kernel_rfl) (.o le1 .rr)
noncomputable def oc93 : Orc gam := orcF 93 (a3 bA bA bA) bA (fun p => S_neg p.1 p.2.1 p.2.2) np oc106
theorem gc93 : Gd oc93 := gc106.add fun n hO p hp => fn_is hX hO (by kernel_rfl) (.o le1 .rr)
noncomputable def oc94 : Orc gam := orcF 94 (a3 bA bA bA) bA (fun p => S_not p.1 p.2.1 p.2.2) np oc93
theorem gc94 : Gd oc94 := gc93.add fun n hO p hp => fn_is hX hO (by kernel_rfl) (.o le1 .rr)
noncomputable def oc128a : Orc gam := orcF 128 (a3 bA bA (fnA 129)) bA (fun p => S_corners S_sums1 p.1 p.2.1) np oc94
theorem gc128a : Gd oc128a := gc94.add fun n hO p hp => fn_is hX hO (by kernel_rfl) (.m 8 le8  (.b (rfl : true = true) (.m 8 le8  (.b (rfl : true = true) (.b (rfl : true = true) (.b (rfl : false = false) (.b (rfl : true = true) (.m 8 le8  (.b (rfl : true = true) (.b (rfl : true = true) (.b (rfl : false = false) (.b (rfl : false = false) (.ss .rr (.o le1 .rr))))))))))))))
noncomputable def oc128b : Orc gam := orcF 128 (a3 bA bA (fnA 130)) bA (fun p => S_corners S_differences1 p.1 p.2.1) np oc128a
theorem gc128b : Gd oc128b := gc128a.add fun n hO p hp => fn_is hX hO (by kernel_rfl) (.m 8 le8  (.b (rfl : true = true) (.m 8 le8  (.b (rfl : true = true) (.b (rfl : true = true) (.b (rfl : false = false) (.b (rfl : true = true) (.m 8 le8  (.b (rfl : true = true) (.b (rfl : true = true) (.b (rfl : false = false) (.b (rfl : false = false) (.ss .rr (.o le1 .rr))))))))))))))
noncomputable def oc128c : Orc gam := orcF 128 (a3 bA bA (fnA 131)) bA (fun p => S_corners S_products1 p.1 p.2.1) np oc128b
theorem gc128c : Gd oc128c := gc128b.add fun n hO p hp => fn_is hX hO (by kernel_rfl) (.m 8 le8  (.b (rfl : true = true) (.m 8 le8  (.b (rfl : true = true) (.b (rfl : true = true) (.b (rfl : false = false) (.b (rfl : true = true) (.m 8 le8  (.b (rfl : true = true) (.b (rfl : true = true) (.b (rfl : false = false) (.b (rfl : false = false) (.ss .rr (.o le1 .rr))))))))))))))
noncomputable def oc96 : Orc gam := orcF 96 (a2 bA bA) bA (fun p => S_sums p.1 p.2) np oc128c
theorem gc96 : Gd oc96 := gc128c.add fun n hO p hp => fn_is hX hO (by kernel_rfl) .rr
noncomputable def oc97 : Orc gam := orcF 97 (a2 bA bA) bA (fun p => S_differences p.1 p.2) np oc96
theorem gc97 : Gd oc97 := gc96.add fun n hO p hp => fn_is hX hO (by kernel_rfl) .rr
noncomputable def oc98 : Orc gam := orcF 98 (a2 bA bA) bA (fun p => S_products p.1 p.2) np oc97
theorem gc98 : Gd oc98 := gc97.add fun n hO p hp => fn_is hX hO (by kernel_rfl) .rr
end Go.Proofs.YtfhiejgoemcelaaGreat
