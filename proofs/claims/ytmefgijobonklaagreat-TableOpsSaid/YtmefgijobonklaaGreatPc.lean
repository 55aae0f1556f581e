/- Part 3 of a proof: The statement TableOps: any operation on any tables gives what the document says, or the error is (sizes and tables within the statement's bounds, at most 4 tables). -/
import Derived.Test.YtmefgijobonklaaGreatPb
set_option linter.constructorNameAsVariable false
set_option linter.unusedVariables false
set_option linter.unusedSimpArgs false
set_option linter.unusedSectionVars false
namespace Pv
open Go Tw
section
variable {X : Cod} {P : Program} {A F : Nat → Prop} {m m' : List MB} {h h' : List HB} {H H' : List (PB X.Γ)}
theorem drop_take_over {cs new : List TV} {o sz off : Nat} {r : List TV} (ho : o + sz ≤ cs.length) (hr : over ((cs.drop o).take sz) off new = some r) : over cs (o + off) new = some (cs.take o ++ r ++ cs.drop (o + sz)) ∧ r.length = sz := by
 unfold over at hr ⊢
 split at hr
 ·rename_i hl
  have hl0 := hl
  rw [List.length_take, List.length_drop] at hl
  cases hr
  refine ⟨?_, ?_⟩
  ·rw [if_pos (by omega)]
   simp only [Option.some.injEq]
   apply List.ext_getElem?
   intro i
   simp only [List.getElem?_append, List.length_append, List.length_take, List.length_drop, List.getElem?_take, List.getElem?_drop]
   rcases Nat.lt_or_ge i o with h1 | h1
   ·simp (disch := omega) only [Nat.min_eq_left, if_pos]
   ·rcases Nat.lt_or_ge i (o + off) with h2 | h2
    ·rw [if_pos (by omega), if_pos (by omega), if_pos (by omega), if_pos (by omega), if_neg (by omega), if_pos (by omega), if_pos (by omega), if_pos (by omega), if_pos (by omega)]
     congr 1; omega
    ·rcases Nat.lt_or_ge i (o + off + new.length) with h3 | h3
     ·rw [if_pos (by omega), if_neg (by omega), if_pos (by omega), if_neg (by omega), if_pos (by omega), if_neg (by omega)]
      congr 1; omega
     ·rcases Nat.lt_or_ge i (o + sz) with h4 | h4
      ·rw [if_neg (by omega), if_pos (by omega), if_neg (by omega), if_neg (by omega), if_pos (by omega)]
       congr 1; omega
      ·rw [if_neg (by omega), if_neg (by omega)]
       congr 1; omega
  ·simp only [List.length_append, List.length_take, List.length_drop]; omega
 ·cases hr
theorem RowsR.set {t sz j : Nat} {l : List (X.Γ t)} {cs r : List TV} {a : X.Γ t} (hw : RowsR X P F m h t l cs 0 sz) (hr : VRs X P F m h (X.enc t a) r) (hl : r.length = sz) (hj : j < l.length) :
  RowsR X P F m h t (l.set j a) (cs.take (j * sz) ++ r ++ cs.drop (j * sz + sz)) 0 sz := by
 have h2 : (j + 1) * sz ≤ l.length * sz := Nat.mul_le_mul_right sz hj
 rw [Nat.add_mul] at h2
 have h3 := hw.2.1
 refine ⟨fun k y hy => ?_, ?_, fun k y i c v hy hi hx => ?_⟩
 ·rw [List.getElem?_set] at hy
  split at hy
  ·cases hy; rw [hr.1, hl]
  ·exact hw.1 k y hy
 ·simp only [List.length_append, List.length_take, List.length_drop, List.length_set]; omega
 ·rw [List.getElem?_set] at hy
  split at hy
  ·rename_i e
   subst e
   cases hy
   have hlt : i < sz := by rw [← hl, ← hr.1]; exact (List.getElem?_eq_some_iff.1 hi).1
   refine hr.2 i c v hi ?_
   rw [List.getElem?_append_left (by simp only [List.length_append, List.length_take]; omega), List.getElem?_append_right (by rw [List.length_take]; omega), List.length_take] at hx
   rw [← hx]; congr 1; omega
  ·rename_i e
   have hlen := hw.1 k y hy
   have hlt : i < sz := by rw [← hlen]; exact (List.getElem?_eq_some_iff.1 hi).1
   have hk : k < l.length := (List.getElem?_eq_some_iff.1 hy).1
   refine hw.2.2 k y i c v hy hi ?_
   rw [← hx]
   rcases Nat.lt_or_ge k j with h4 | h4
   ·have : (k + 1) * sz ≤ j * sz := Nat.mul_le_mul_right sz h4
    rw [Nat.add_mul] at this
    rw [List.getElem?_append_left (by simp only [List.length_append, List.length_take]; omega), List.getElem?_append_left (by rw [List.length_take]; omega), List.getElem?_take, if_pos (by omega)]
   ·have h5 : j + 1 ≤ k := by omega
    have : (j + 1) * sz ≤ k * sz := Nat.mul_le_mul_right sz h5
    rw [Nat.add_mul] at this
    rw [List.getElem?_append_right (by simp only [List.length_append, List.length_take]; omega), List.getElem?_drop]
    congr 1
    simp only [List.length_append, List.length_take]; omega
theorem goneAll_set {b : Nat} {pb : PB X.Γ} : ∀ {is : List Nat} {H : List (PB X.Γ)}, is.contains b = false → goneAll is (H.set b pb) = (goneAll is H).set b pb
 | [], _, _ => rfl
 | i :: is, H, hn => by
  simp only [List.contains_cons, Bool.or_eq_false_iff, beq_eq_false_iff_ne, ne_eq] at hn
  simp only [goneAll, gone1]
  rw [List.set_comm _ _ hn.1, goneAll_set hn.2]
theorem store_ok (hX : CodOk X P) {ps ps1 : PSt X.Γ} {ts : St} (hR : StR X P A m ps ts) {t : TypeId} {pa : PE X.Γ} {ea : EV} (ha : PER X P (AA A m) m ts.heap pa ea) {v : PV X.Γ} {x : TV} (hv : VR X P (AA A m) m ts.heap v x) {pi : Inf} (hl : pstoreT X P t ps pa v = some (ps1, pi)) :
  ∃ ts1 ti m1, storeT P t ts ea x = some (ts1, ti) ∧ ts1.env = ts.env ∧ ts1.ws = ts.ws ∧ StR X P A m1 ps1 ts1 ∧ Fr m ts.heap m1 ts1.heap ∧ Up m m1 ∧ IR m ts.heap ⟨pi, false, false, !isLocP pa⟩ ti ∧ ∀ b, .h b ∈ ti.ws → b ∈ blks m := by
 have hc := cells_VR hv
 unfold pstoreT at hl
 split at hl
 ·rename_i n hn
  split at hl
  ·rename_i hcc
   have hcc' : x.cells.length = n ∧ x.cells.all oneT = true := ⟨by rw [← hc.1]; exact hcc.1, by rw [allOne_VR hc]; exact hcc.2⟩
   cases pa with
   | loc k off =>
    rw [per_loc ha]
    simp only at hl
    split at hl
    ·rename_i cs hk
     simp only [Option.map_eq_some_iff, Prod.mk.injEq] at hl
     obtain ⟨cs1, h1, rfl, rfl⟩ := hl
     obtain ⟨cs', g1, g2⟩ := hR.loc k cs hk
     obtain ⟨cs1', g3, g4⟩ := over_VR g2 hc h1
     refine ⟨{ ts with loc := ts.loc.set k cs1' }, wrK (.l k), m, ?_, rfl, rfl, ⟨hR.heap, by simp [hR.llen], fun j ds hj => ?_, hR.env⟩, .refl, .refl, .wloc, fun b hb => by simp [wrK] at hb⟩
     ·simp only [storeT, hn, hcc', and_self, if_true, g1, g3, Option.map_some]
     ·by_cases e : k = j
      ·subst e
       rw [List.getElem?_set_self'] at hj
       rw [hk] at hj; cases hj
       exact ⟨cs1', by rw [List.getElem?_set_self', g1]; rfl, g4⟩
      ·rw [List.getElem?_set_ne e] at hj
       obtain ⟨ds', q1, q2⟩ := hR.loc j ds hj
       exact ⟨ds', by rw [List.getElem?_set_ne e]; exact q1, q2⟩
    ·cases hl
   | undef => simp at hl
   | val a =>
    obtain ⟨y, rfl, hy⟩ := per_val ha
    cases a with
    | ptr b off lim =>
     simp only at hl
     split at hl
     ·rename_i hlim
      split at hl
      ·rename_i cs hb
       simp only [Option.map_eq_some_iff, Prod.mk.injEq] at hl
       obtain ⟨cs1, h1, rfl, rfl⟩ := hl
       obtain ⟨mb, g1, g2⟩ := hR.heap.at_ b _ hb
       cases mb with
       | blk c =>
        obtain ⟨cs', g3, g4⟩ := g2
        cases hy with
        | ptr e =>
         rw [g1] at e; cases e
         obtain ⟨cs1', g5, g6⟩ := over_VR g4 hc h1
         have hlen : cs1'.length = cs'.length := by
          unfold over at g5
          split at g5
          ·cases g5; simp only [List.length_append, List.length_take, List.length_drop]; omega
          ·cases g5
         have hlt := (List.getElem?_eq_some_iff.1 g3).1
         obtain ⟨hr1, hF⟩ := hR.heap.set (pb := .cells cs1) (hb := .cells .own cs1') g1 (c := c) rfl (fun cs2 hcs2 => ⟨cs1', by simp [blkCells, hlt], by
          simp only [blkCells, g3, Option.some.injEq] at hcs2; subst hcs2; omega⟩) fun hF => ⟨cs1', by simp [hlt], g6.step hF .refl⟩
         refine ⟨{ ts with heap := ts.heap.set c (.cells .own cs1') }, wrK (.h c), m, ?_, rfl, rfl, hR.step hr1 hF .refl, hF, .refl, .wrH (own_of g1 rfl) hlt, fun b hb => ?_⟩
         ·simp only [storeT, hn, hcc', and_self, if_true, hlim, setH_own g3, g5, Option.map_some]
         ·simp [wrK] at hb; subst hb; exact own_mem g1 rfl
        | gone hi e _ => simp only [idOf, Option.some.injEq] at hi; subst hi; rw [g1] at e; cases e
       | _ => exact g2.elim
      ·cases hl
     ·cases hl
    | row b j off =>
     simp only at hl
     split at hl
     ·rename_i k0 ex e l hb
      split at hl
      ·rename_i cs1 h1
       split at hl
       ·rename_i a is hd
        split at hl
        ·cases hl
        ·rename_i hnb
         simp only [Option.some.injEq, Prod.mk.injEq] at hl
         obtain ⟨rfl, rfl⟩ := hl
         obtain ⟨mb, g1, g2⟩ := hR.heap.at_ b _ hb
         cases mb with
         | lst z =>
          cases hy with
          | row e' hj hq =>
           rw [g1] at e'; cases e'
           cases (g2 : LR X P _ _ _ _ _ _ _ _) with
           | emp => omega
           | some q1 q2 q3 q4 q5 q6 q7 q8 q9 =>
            rename_i c sz xx kk cs
            obtain ⟨kk', hkk, hkr, hko⟩ := wrKind_wr q5
            have hown : (MB.lst (TV.slc c 0 l.length l.length sz xx)).own = some c := by simp only [MB.own]; rw [if_neg (by simpa using q1)]
            have hrow := q9.row (getD_at hj)
            simp only [Nat.zero_add] at hrow
            obtain ⟨r, g3, g4⟩ := over_VR hrow.1 hc h1
            obtain ⟨g5, g6⟩ := drop_take_over hrow.2 g3
            have hdec := decE_VR (m' := goneM is m) hX hR.heap g4 hd
            have hgo := hR.heap.goneAll is
            have hFU := fr_goneM (h := ts.heap) is m
            have hnb' : is.contains b = false := by simpa using hnb
            have hm1 : (goneM is m)[b]? = some (.lst (.slc c 0 l.length l.length sz xx)) := by rw [goneM_at is g1, hnb']; rfl
            have hlt := (List.getElem?_eq_some_iff.1 q4).1
            have hl2 : (cs.take (j * sz) ++ r ++ cs.drop (j * sz + sz)).length = cs.length := by
             simp only [List.length_append, List.length_take, List.length_drop]; omega
            obtain ⟨hr1, hF⟩ := hgo.set (pb := .list k0 ex e (l.set j a)) (hb := .cells kk' (cs.take (j * sz) ++ r ++ cs.drop (j * sz + sz))) hm1 hown (fun cs2 hcs2 => ⟨cs.take (j * sz) ++ r ++ cs.drop (j * sz + sz), by simp [blkCells, hlt], by
             simp only [blkCells, q4, Option.some.injEq] at hcs2; subst hcs2; omega⟩) fun hF => by
              have hw := (q9.step hFU.1 hFU.2).set (hdec.mono fun b hb => hb.gone hR.heap) g6 hj
              have := LR.some (X := X) (P := P) (A := AA A (goneM is m)) (m := goneM is m) (h := ts.heap.set c (.cells kk' (cs.take (j * sz) ++ r ++ cs.drop (j * sz + sz)))) (k := k0) (ex := ex) (t := e) (l := l.set j a) (b := c) (sz := sz) (e := xx) (kk := kk') (cs := cs.take (j * sz) ++ r ++ cs.drop (j * sz + sz))
               (by intro e0; apply q1; have := congrArg List.length e0; rw [List.length_set] at this; exact List.length_eq_zero_iff.1 this) q2 q3 (by simp [hlt]) hkr (fun e0 => hko (q6 e0)) q7 (by rw [hl2, List.length_set]; exact q8) (hw.step hF .refl)
              rw [List.length_set] at this
              exact this
            rw [← goneAll_set hnb'] at hr1
            have hfr := hFU.1.trans hF
            refine ⟨{ ts with heap := ts.heap.set c (.cells kk' (cs.take (j * sz) ++ r ++ cs.drop (j * sz + sz))) }, wrK (.h c), goneM is m, ?_, rfl, rfl, hR.step hr1 hfr hFU.2, hfr, hFU.2, .wrH (own_of g1 hown) hlt, fun b hb => ?_⟩
            ·have h9 : j * sz + off + n ≤ l.length * sz := by
              have h8 := hrow.2
              unfold over at g3
              split at g3
              ·rename_i h0
               rw [List.length_take, List.length_drop, hcc'.1] at h0; omega
              ·cases g3
             simp only [storeT, hn, hcc', and_self, if_true, h9, setH_wr q4 hkk q8.symm, g5, Option.map_some]
            ·simp [wrK] at hb; subst hb; exact own_mem g1 hown
          | gone hi e' _ => simp only [idOf, Option.some.injEq] at hi; subst hi; rw [g1] at e'; cases e'
         | _ => exact g2.elim
       ·cases hl
      ·cases hl
     ·cases hl
    | _ => simp at hl
  ·cases hl
 ·cases hl
end
end Pv
namespace Pv
open Go Tw
section
variable {X : Cod} {P : Program} {A F : Nat → Prop} {m m' : List MB} {h h' : List HB} {H H' : List (PB X.Γ)}
theorem per_of {v : PV X.Γ} {x : TV} (hv : VR X P A m h v x) : PER X P A m h (.val v) (.val x) := hv
theorem off_ok {ps : PSt X.Γ} {ts : St} (hR : StR X P A m ps ts) {o : Nat} {pa pb : PE X.Γ} {ea : EV} (ha : PER X P (AA A m) m ts.heap pa ea) (hl : poffT X ps o pa = some pb) : ∃ eb, offT o ea = some eb ∧ PER X P (AA A m) m ts.heap pb eb := by
 cases pa with
 | loc k off =>
  rw [per_loc ha]
  simp only [poffT, Option.some.injEq] at hl; subst hl
  exact ⟨.loc k (off + o), rfl, rfl, rfl⟩
 | undef => simp [poffT] at hl
 | val a =>
  obtain ⟨y, rfl, hy⟩ := per_val ha
  cases a with
  | ptr b off lim =>
   simp only [poffT] at hl
   split at hl
   ·rename_i cs hb
    split at hl
    ·rename_i hle
     cases hl
     obtain ⟨mb, g1, g2⟩ := hR.heap.at_ b _ hb
     cases mb with
     | blk c =>
      cases hy with
      | ptr e => exact ⟨.val (.ptr _ (off + o) lim), by simp only [offT, hle, if_true], VR.ptr e⟩
      | gone hi e q => simp only [idOf, Option.some.injEq] at hi; subst hi; rw [g1] at e; cases e
     | _ => exact g2.elim
    ·cases hl
   ·rename_i cs hb
    split at hl
    ·rename_i hle
     cases hl
     obtain ⟨mb, g1, g2⟩ := hR.heap.at_ b _ hb
     cases mb with
     | rblk c =>
      cases hy with
      | ptr e => rw [g1] at e; cases e
      | gone hi e q =>
       simp only [idOf, Option.some.injEq] at hi; subst hi; rw [g1] at e
       cases e with
       | r _ e => simp only [roV, Option.some.injEq] at e; subst e; exact ⟨.val (.ptr _ (off + o) lim), by simp only [offT, hle, if_true], VR.gone rfl (.ofR g1 rfl) rfl⟩
     | _ => exact g2.elim
    ·cases hl
   ·cases hl
  | el t a off =>
   simp only [poffT] at hl
   split at hl
   ·rename_i hle
    cases hl
    cases hy with
    | el q1 q2 q2' q3 q4 q5 q6 =>
     rename_i b o0 sz lim cs
     rw [q4] at hle
     refine ⟨.val (.ptr b (o0 + off + o) lim), by simp only [offT]; rw [if_pos (by omega)], ?_⟩
     rw [Nat.add_assoc]
     exact VR.el q1 q2 q2' q3 q4 hle q6
    | gone hi _ _ => simp [idOf] at hi
   ·cases hl
  | row b j off =>
   simp only [poffT, elSz] at hl
   split at hl
   ·rename_i n hn
    split at hn
    ·rename_i k ex e l hb
     cases hn
     split at hl
     ·rename_i hle
      cases hl
      obtain ⟨mb, g1, g2⟩ := hR.heap.at_ b _ hb
      cases mb with
      | lst z =>
       cases hy with
       | row e' hj hq =>
        rw [g1] at e'; cases e'
        cases (g2 : LR X P _ _ _ _ _ _ _ _) with
        | emp => omega
        | some q1 q2 q3 q4 q5 q6 q7 q8 q9 =>
         rw [q9.1 j _ (getD_at hj)] at hle
         have hrow := (q9.row (getD_at hj)).2
         refine ⟨.val (.ptr _ (j * _ + off + o) (l.length * _)), by simp only [offT]; rw [if_pos (by omega)], ?_⟩
         rw [Nat.add_assoc]
         exact VR.row g1 hj hle
       | gone hi e' _ => simp only [idOf, Option.some.injEq] at hi; subst hi; rw [g1] at e'; cases e'
      | _ => exact g2.elim
     ·cases hl
    ·cases hn
   ·cases hl
  | _ => simp [poffT] at hl
theorem own_row {ps : PSt X.Γ} {ts : St} (hR : StR X P A m ps ts) {b : Nat} {k ex : Bool} {e : Nat} {l : List (X.Γ e)} (hb : ps.heap[b]? = some (.list k ex e l)) {y : TV} (hy : VR X P (AA A m) m ts.heap (.own b) y) (hl : l ≠ []) :
  ∃ c sz x, y = .slc c 0 l.length l.length sz x ∧ m[b]? = some (.lst y) ∧ sizeT P e = some sz ∧ 0 < sz := by
 obtain ⟨mb, g1, g2⟩ := hR.heap.at_ b _ hb
 cases mb with
 | lst z =>
  cases hy with
  | own e' o =>
   rw [g1] at e'; cases e'
   cases (g2 : LR X P _ _ _ _ _ _ _ _) with
   | nil => exact absurd rfl hl
   | emp => exact absurd rfl hl
   | some q1 q2 q3 => exact ⟨_, _, _, rfl, g1, q2, q3⟩
  | gone hi e' _ => simp only [idOf, Option.some.injEq] at hi; subst hi; rw [g1] at e'; cases e'
 | _ => exact g2.elim
theorem indexAddr_ok {ps : PSt X.Γ} {ts : St} (hR : StR X P A m ps ts) {t : TypeId} {px pb : PE X.Γ} {ex : EV} (hx : PER X P (AA A m) m ts.heap px ex) {i : PV X.Γ} {ti : TV} (hi : VR X P (AA A m) m ts.heap i ti) {qs : List Prop} (hl : pindexAddr X P t ps px i = some (pb, qs)) (hq : ∀ q ∈ qs, q) :
  ∃ eb, indexAddrT P t ex ti = some eb ∧ PER X P (AA A m) m ts.heap pb eb := by
 have hidx : ∀ {k : IntKind} {iv : Int} {n : Nat}, inR iv n → idx n (.int k iv) = some iv.toNat ∧ iv.toNat < n := by
  intro k iv n hn
  unfold inR at hn
  refine ⟨by simp only [idx]; rw [if_pos hn], by omega⟩
 have hpi : ∀ {n j : Nat}, pidx X n i = some j → idx n ti = some j := by
  intro n j hj
  cases i <;> simp only [pidx] at hj <;> try (cases hj; done)
  cases hi with
  | int => exact hj
  | gone e _ _ => simp [idOf] at e
 unfold pindexAddr at hl
 split at hl
 ·rename_i e hu
  split at hl
  ·rename_i n t' l fu k iv hn
   split at hl
   ·rename_i ht
    subst ht
    simp only [Option.some.injEq, Prod.mk.injEq] at hl
    obtain ⟨rfl, rfl⟩ := hl
    have hr := hidx (k := k) (hq _ List.mem_cons_self)
    have : ti = .int k iv := by
     cases hi with
     | int => rfl
     | gone e _ _ => simp [idOf] at e
    subst this
    obtain ⟨y, rfl, hy⟩ := per_val hx
    rcases lst_SlR hy hn with ⟨rfl, rfl⟩ | ⟨b, off, cap, ex', cs, rfl, hk, hc, hc2, hw⟩
    ·have := hr.2; simp at this
    ·have hrow := hw.row (getD_at hr.2)
     have hA : AA A m b := by
      cases hy with
      | lst a => exact a
      | gone e _ _ => simp [idOf] at e
     have hcc := hc2 (by intro e0; rw [e0] at hr; have := hr.2; simp at this)
     have hle : off + iv.toNat * n + n ≤ off + cap * n := by
      have h1 : (iv.toNat + 1) * n ≤ cap * n := Nat.mul_le_mul_right n (by have := hr.2; omega)
      rw [Nat.add_mul, Nat.one_mul] at h1; omega
     refine ⟨.val (.ptr b (off + iv.toNat * n) (off + cap * n)), ?_, ?_⟩
     ·simp only [indexAddrT, hu, hn, if_true, hr.1, Option.map_some]
     ·have := VR.el (X := X) (P := P) (A := AA A m) (m := m) (h := ts.heap) (t := t') (a := l.getD iv.toNat (X.d0 t')) (off := 0) (o := off + iv.toNat * n) hA hcc hle hrow.2 (hw.1 _ _ (getD_at hr.2)) (Nat.zero_le _) (fun i c v h1 h2 => hw.2.2 _ _ i c v (getD_at hr.2) h1 h2)
      exact per_of (by simpa using this)
   ·cases hl
  ·rename_i n b k iv hn
   split at hl
   ·rename_i w ex' t' l hb
    split at hl
    ·rename_i ht
     subst ht
     simp only [Option.some.injEq, Prod.mk.injEq] at hl
     obtain ⟨rfl, rfl⟩ := hl
     have hr := hidx (k := k) (hq _ List.mem_cons_self)
     have : ti = .int k iv := by
      cases hi with
      | int => rfl
      | gone e _ _ => simp [idOf] at e
     subst this
     obtain ⟨y, rfl, hy⟩ := per_val hx
     obtain ⟨c, sz, x', rfl, g1, g2, g3⟩ := own_row hR hb hy (by intro e0; rw [e0] at hr; have := hr.2; simp at this)
     rw [hn] at g2; cases g2
     refine ⟨.val (.ptr c (iv.toNat * n) (l.length * n)), ?_, ?_⟩
     ·simp only [indexAddrT, hu, hn, if_true, hr.1, Option.map_some, Nat.zero_add]
     ·have := VR.row (X := X) (P := P) (A := AA A m) (m := m) (h := ts.heap) (off := 0) g1 hr.2 (Nat.zero_le n)
      exact per_of (by simpa using this)
    ·cases hl
   ·cases hl
  ·rename_i n b o q k iv hn
   split at hl
   ·rename_i w ex' t' l hb
    split at hl
    ·rename_i ht
     subst ht
     simp only [Option.some.injEq, Prod.mk.injEq] at hl
     obtain ⟨rfl, rfl⟩ := hl
     have hr := hidx (k := k) (hq _ List.mem_cons_self)
     have : ti = .int k iv := by
      cases hi with
      | int => rfl
      | gone e _ _ => simp [idOf] at e
     subst this
     obtain ⟨y, rfl, hy⟩ := per_val hx
     obtain ⟨mb, g1, g2⟩ := hR.heap.at_ b _ hb
     cases mb with
     | lst z =>
      cases hy with
      | win e' w1 w2 w3 =>
       rw [g1] at e'; cases e'
       cases (g2 : LR X P _ _ _ _ _ _ _ _) with
       | emp => have := hr.2; omega
       | some q1 q2 q3 =>
        rw [hn] at q2; cases q2
        have hp := per_of (VR.row (X := X) (P := P) (A := AA A m) (m := m) (h := ts.heap) (j := o + iv.toNat) (off := 0) g1 (by have := hr.2; omega) (Nat.zero_le n))
        refine ⟨_, ?_, hp⟩
        have h3 := w3.resolve_left (by have := hr.2; omega)
        simp only [indexAddrT, hu, hn, if_true, hr.1, Option.map_some, Nat.zero_add, Nat.add_mul, Nat.add_zero, ← h3]
      | winN e' => have := hr.2; omega
      | gone hi e' _ => simp only [idOf, Option.some.injEq] at hi; subst hi; rw [g1] at e'; cases e'
     | _ => exact g2.elim
    ·cases hl
   ·cases hl
  ·rename_i n b off len cap sz ex' hn
   split at hl
   ·rename_i cs hb
    split at hl
    ·rename_i hsz
     subst hsz
     simp only [Option.map_eq_some_iff, Prod.mk.injEq] at hl
     obtain ⟨j, h1, rfl, rfl⟩ := hl
     obtain ⟨y, rfl, hy⟩ := per_val hx
     obtain ⟨mb, g1, g2⟩ := hR.heap.at_ b _ hb
     cases mb with
     | blk c =>
      cases hy with
      | slc e =>
       have := hpi h1
       rw [g1] at e; cases e
       exact ⟨.val (.ptr c (off + j * n) (off + cap * n)), by simp only [indexAddrT, hu, hn, if_true, this, Option.map_some], VR.ptr g1⟩
      | gone hi' e' _ => simp only [idOf, Option.some.injEq] at hi'; subst hi'; rw [g1] at e'; cases e'
     | _ => exact g2.elim
    ·cases hl
   ·cases hl
  ·cases hl
 ·rename_i len e hu
  split at hl
  ·rename_i n hn
   split at hl
   ·rename_i j hj
    simp only [Option.map_eq_some_iff, Prod.mk.injEq] at hl
    obtain ⟨pa, h1, rfl, rfl⟩ := hl
    obtain ⟨eb, g1, g2⟩ := off_ok hR hx h1
    exact ⟨eb, by simp only [indexAddrT, hu, hn, hpi hj, g1], g2⟩
   ·cases hl
  ·cases hl
 ·cases hl
end
end Pv
namespace Pv
open Go Tw
section
variable {X : Cod} {P : Program} {A F : Nat → Prop} {m m' : List MB} {h h' : List HB} {H H' : List (PB X.Γ)}
theorem len_ok (hr : HR X P A m H h) {at_ : Array TypeId} {x : PV X.Γ} {tx : TV} (hx : VR X P (AA A m) m h x tx) {v : PV X.Γ} {pi : Inf} (hl : plen X P at_ H x = some (v, pi)) :
  ∃ w ti, lenT P at_ h tx = some (w, ti) ∧ VR X P (AA A m) m h v w ∧ IR m h ⟨pi, false, false, true⟩ ti ∧ ti.ws = [] := by
 unfold plen at hl
 split at hl
 ·rename_i t ht
  unfold lenT
  simp only [ht]
  split at hl
  ·rename_i s hu
   cases hl
   cases hx with
   | str => exact ⟨_, _, by first | (simp only [hu]; done) | (simp only [hu]; rfl), .int _ _, .none, rfl⟩
   | gone hi _ _ => simp [idOf] at hi
  ·rename_i n e _ hu
   cases hl
   exact ⟨_, _, by first | (simp only [hu]; done) | (simp only [hu]; rfl), .int _ _, .none, rfl⟩
  ·rename_i e b off len cap sz ex hu
   split at hl
   ·rename_i cs hb
    cases hl
    obtain ⟨mb, g1, g2⟩ := hr.at_ b _ hb
    cases mb with
    | blk c =>
     cases hx with
     | slc e' => exact ⟨_, _, by first | (simp only [hu]; done) | (simp only [hu]; rfl), .int _ _, .none, rfl⟩
     | gone hi e' _ => simp only [idOf, Option.some.injEq] at hi; subst hi; rw [g1] at e'; cases e'
    | _ => exact g2.elim
   ·cases hl
  ·rename_i e hu
   cases hl
   cases hx with
   | nil => exact ⟨_, _, by first | (simp only [hu]; done) | (simp only [hu]; rfl), .int _ _, .none, rfl⟩
   | gone hi _ _ => simp [idOf] at hi
  ·rename_i e t' l fu hu
   cases hl
   cases hx with
   | lstN => exact ⟨_, _, by first | (simp only [hu]; done) | (simp only [hu]; rfl), .int _ _, .none, rfl⟩
   | lst => exact ⟨_, _, by first | (simp only [hu]; done) | (simp only [hu]; rfl), .int _ _, .none, rfl⟩
   | gone hi _ _ => simp [idOf] at hi
  ·rename_i e b hu
   split at hl
   ·rename_i k ex t' l hb
    cases hl
    obtain ⟨mb, g1, g2⟩ := hr.at_ b _ hb
    cases mb with
    | lst z =>
     cases hx with
     | own e' _ =>
      rw [g1] at e'; cases e'
      cases (g2 : LR X P _ _ _ _ _ _ _ _) with
      | nil => exact ⟨_, _, by first | (simp only [hu]; done) | (simp only [hu]; rfl), .int _ _, .none, rfl⟩
      | emp => exact ⟨_, _, by first | (simp only [hu]; done) | (simp only [hu]; rfl), .int _ _, .none, rfl⟩
      | some => exact ⟨_, _, by first | (simp only [hu]; done) | (simp only [hu]; rfl), .int _ _, .none, rfl⟩
     | gone hi e' _ => simp only [idOf, Option.some.injEq] at hi; subst hi; rw [g1] at e'; cases e'
    | _ => exact g2.elim
   ·cases hl
  ·rename_i e b o n hu
   split at hl
   ·rename_i k ex t' l hb
    cases hl
    obtain ⟨mb, g1, g2⟩ := hr.at_ b _ hb
    cases mb with
    | lst z =>
     cases hx with
     | win => exact ⟨_, _, by first | (simp only [hu]; done) | (simp only [hu]; rfl), .int _ _, .none, rfl⟩
     | winN => exact ⟨_, _, by first | (simp only [hu]; done) | (simp only [hu]; rfl), .int _ _, .none, rfl⟩
     | gone hi e' _ => simp only [idOf, Option.some.injEq] at hi; subst hi; rw [g1] at e'; cases e'
    | _ => exact g2.elim
   ·cases hl
  ·rename_i kt e hu
   cases hl
   cases hx with
   | nil => exact ⟨_, _, by first | (simp only [hu]; done) | (simp only [hu]; rfl), .int _ _, .none, rfl⟩
   | gone hi _ _ => simp [idOf] at hi
  ·rename_i kt e r hu
   split at hl
   ·rename_i es hb
    cases hl
    obtain ⟨mb, g1, g2⟩ := hr.at_ r _ hb
    cases mb with
    | blk c =>
     obtain ⟨es', g3, g4, g5⟩ := g2
     cases hx with
     | map e' =>
      rw [g1] at e'; cases e'
      exact ⟨_, _, by first | (simp only [hu, g3]; done) | (simp only [hu, g3]; rfl), by rw [g4]; exact .int _ _, .rdH (own_of g1 rfl) (List.getElem?_eq_some_iff.1 g3).1, rfl⟩
     | gone hi e' _ => simp only [idOf, Option.some.injEq] at hi; subst hi; rw [g1] at e'; cases e'
    | _ => exact g2.elim
   ·cases hl
  ·cases hl
 ·cases hl
def nilAns : BinOp → Option TV
 | .eql => some (.bool false)
 | .neq => some (.bool true)
 | _ => none
theorem bin_ok {op : BinOp} {t : TypeId} {x y : Operand} {a b : PV X.Γ} {ta tb : TV} (ha : VR X P A m h a ta) (hb : VR X P A m h b tb) {v : PV X.Γ} (hl : pbin X P op t x y a b = some v) : ∃ w, binT P op t x y ta tb = some w ∧ VR X P A m h v w := by
 unfold pbin at hl
 split at hl
 ·rename_i u w h1 h2
  split at hl
  ·rename_i r hr
   rw [toT_eq ha h1, toT_eq hb h2]
   exact ⟨r, hr, ofT_VR hl⟩
  ·cases hl
 ·rename_i hno
  split at hl
  ·rename_i hn
   have key : ∃ k, kindT P t = some k ∧ ((ta = .nil k ∧ realK tb = some k ∧ tb.toV = none) ∨ (tb = .nil k ∧ realK ta = some k ∧ ta.toV = none)) := by
    unfold pnilNeq at hn
    split at hn
    ·rename_i k hk
     refine ⟨k, hk, ?_⟩
     simp only [Bool.or_eq_true, Bool.and_eq_true, beq_iff_eq] at hn
     have nilc : ∀ {z : PV X.Γ} {tz : TV}, VR X P A m h z tz → z = .nil k → tz = .nil k := by
      intro z tz hz e; subst e
      cases hz with
      | nil => rfl
      | gone hi _ _ => simp [idOf] at hi
     have realc : ∀ {z : PV X.Γ} {tz : TV}, VR X P A m h z tz → (match z with | .fn _ _ _ => some NK.fn | .el _ _ _ => some NK.ptr | _ => none) = some k → realK tz = some k ∧ tz.toV = none := by
      intro z tz hz e
      cases hz with
      | fn => exact ⟨e, rfl⟩
      | el => exact ⟨e, rfl⟩
      | gone hi _ _ => cases z <;> simp [idOf] at hi <;> simp at e
      | _ => simp at e
     have niln : ∀ {z : PV X.Γ}, (match z with | .nil k => some k | _ => none) = some k → z = .nil k := by
      intro z e
      cases z <;> simp at e
      rw [e]
     rcases hn with ⟨h1, h2⟩ | ⟨h1, h2⟩
     ·have := realc hb h2
      exact .inl ⟨nilc ha (niln h1), this.1, this.2⟩
     ·have := realc ha h1
      exact .inr ⟨nilc hb (niln h2), this.1, this.2⟩
    ·cases hn
   obtain ⟨k, hk, hc⟩ := key
   have hno2 : binT P op t x y ta tb = nilAns op := by
    rcases hc with ⟨rfl, h2, h3⟩ | ⟨rfl, h2, h3⟩
    ·have hnn : nilNeq P t (.nil k) tb = true := by unfold nilNeq; rw [hk]; simp [nilK, h2]
     unfold binT
     rw [h3]
     cases (TV.nil k).toV <;> simp only [hnn, if_true] <;> cases op <;> rfl
    ·have hnn : nilNeq P t ta (.nil k) = true := by unfold nilNeq; rw [hk]; simp [nilK, h2]
     unfold binT
     rw [h3]
     simp only [hnn, if_true]
     cases op <;> rfl
   rw [hno2]
   cases op <;> simp only at hl ⊢ <;> try (cases hl; done)
   ·cases hl; exact ⟨_, rfl, .bool _⟩
   ·cases hl; exact ⟨_, rfl, .bool _⟩
  ·cases hl
theorem nilAnsP_ok {op : BinOp} {t : TypeId} {x y : Operand} {b : PV X.Γ} {ta tb : TV} (hb : VR X P A m h b tb) {v : PV X.Γ} {q q' : Prop} (hl : nilAnsP X P op t b q = some (v, q')) (hq : q') (h2 : q → realK ta = some .slc ∧ ta.toV = none) : ∃ w, binT P op t x y ta tb = some w ∧ VR X P A m h v w := by
 unfold nilAnsP at hl
 split at hl
 ·rename_i hk
  have h1 : tb = .nil .slc := by
   cases hb with
   | nil => rfl
   | gone hi _ _ => simp [idOf] at hi
  subst h1
  have key : q → binT P op t x y ta (.nil .slc) = nilAns op := fun hq => by
   obtain ⟨h2, h3⟩ := h2 hq
   have hnn : nilNeq P t ta (.nil .slc) = true := by unfold nilNeq; rw [hk]; simp [nilK, h2]
   unfold binT
   rw [h3]
   simp only [hnn, if_true]
   cases op <;> rfl
  split at hl
  ·cases hl; rw [key hq]; exact ⟨_, rfl, .bool _⟩
  ·cases hl; rw [key hq]; exact ⟨_, rfl, .bool _⟩
  ·cases hl
 ·cases hl
theorem lstNil_ok (hr : HR X P A m H h) {op : BinOp} {t : TypeId} {x y : Operand} {a b : PV X.Γ} {ta tb : TV} (ha : VR X P (AA A m) m h a ta) (hb : VR X P (AA A m) m h b tb) {v : PV X.Γ} {q : Prop} (hl : plstNil X P op t H a b = some (v, q)) (hq : q) : ∃ w, binT P op t x y ta tb = some w ∧ VR X P (AA A m) m h v w := by
 unfold plstNil at hl
 split at hl
 ·rename_i l fu
  refine nilAnsP_ok hb hl hq (fun hne => ?_)
  cases ha with
  | lstN => exact absurd rfl hne
  | lst => exact ⟨rfl, rfl⟩
  | gone hi _ _ => simp [idOf] at hi
 ·rename_i i
  split at hl
  ·rename_i k ex t' l hi
   refine nilAnsP_ok hb hl hq (fun hne => ?_)
   obtain ⟨mb, g1, g2⟩ := hr.at_ i _ hi
   cases ha with
   | own e o =>
    rw [g1] at e; cases e
    cases g2 with
    | nil => exact absurd rfl hne
    | emp => exact absurd rfl hne
    | some => exact ⟨rfl, rfl⟩
   | gone hi e _ => simp only [idOf, Option.some.injEq] at hi; subst hi; rw [g1] at e; cases e <;> exact g2.elim
  ·cases hl
 ·cases hl
theorem un_ok {op : UnOp} {a : PV X.Γ} {ta : TV} (ha : VR X P A m h a ta) {v : PV X.Γ} (hl : pun X P op a = some v) : ∃ w, unT P op ta = some w ∧ VR X P A m h v w := by
 unfold pun at hl
 split at hl
 ·rename_i u h1
  split at hl
  ·rename_i r hr
   rw [toT_eq ha h1]
   exact ⟨r, hr, ofT_VR hl⟩
  ·cases hl
 ·cases hl
theorem conv_ok {s d : TypeId} {a : PV X.Γ} {ta : TV} (ha : VR X P A m h a ta) {v : PV X.Γ} (hl : pconv X P s d a = some v) : ∃ w, convT P s d ta = some w ∧ VR X P A m h v w := by
 unfold pconv at hl
 split at hl
 ·rename_i u h1
  split at hl
  ·rename_i r hr
   rw [toT_eq ha h1]
   exact ⟨r, hr, ofT_VR hl⟩
  ·cases hl
 ·cases hl
theorem minMax_ok {mx : Bool} {at_ : Array TypeId} {t : TypeId} {az : List (PV X.Γ)} {ts : List TV} (ha : VRs X P A m h az ts) {v : PV X.Γ} (hl : pminMax X P mx at_ t az = some v) : ∃ w, minMaxT P mx at_ t ts = some w ∧ VR X P A m h v w := by
 unfold pminMax at hl
 split at hl
 ·rename_i u h1
  split at hl
  ·rename_i r hr
   rw [toTs_eq ha h1]
   exact ⟨r, hr, ofT_VR hl⟩
  ·cases hl
 ·cases hl
theorem field_ok {t : TypeId} {x : PV X.Γ} {tx : TV} (hx : VR X P A m h x tx) {i : Nat} {v : PV X.Γ} (hl : pfield X P t x i = some v) : ∃ w, fieldT P t tx i = some w ∧ VR X P A m h v w := by
 unfold pfield at hl
 split at hl
 ·rename_i fs cs hu
  split at hl
  ·rename_i f hf
   cases hx with
   | agg h1 h2 =>
    obtain ⟨w, g1, g2⟩ := part_VR ⟨h1, h2⟩ hl
    exact ⟨w, by simp only [fieldT, hu, hf, g1], g2⟩
   | gone hi _ _ => simp [idOf] at hi
  ·cases hl
 ·cases hl
theorem index_ok {t : TypeId} {x i : PV X.Γ} {tx ti : TV} (hx : VR X P A m h x tx) (hi : VR X P A m h i ti) {v : PV X.Γ} (hl : pindex X P t x i = some v) : ∃ w, indexT P t tx ti = some w ∧ VR X P A m h v w := by
 unfold pindex at hl
 split at hl
 ·rename_i len e cs hu
  split at hl
  ·rename_i n j hn hj
   have : idx len ti = some j := by
    cases i <;> simp only [pidx] at hj <;> try (cases hj; done)
    cases hi with
    | int => exact hj
    | gone e _ _ => simp [idOf] at e
   cases hx with
   | agg h1 h2 =>
    obtain ⟨w, g1, g2⟩ := part_VR ⟨h1, h2⟩ hl
    exact ⟨w, by simp only [indexT, hu, hn, this, g1], g2⟩
   | gone hi _ _ => simp [idOf] at hi
  ·cases hl
 ·cases hl
end
end Pv
namespace Pv
open Go Tw
section
variable {X : Cod} {P : Program} {A F : Nat → Prop} {m m' : List MB} {h h' : List HB} {H H' : List (PB X.Γ)}
theorem goneAll_back : ∀ {is : List Nat} {H : List (PB X.Γ)} {i : Nat} {pb : PB X.Γ}, (goneAll is H)[i]? = some pb → (i ∈ is ∧ pb = .gone) ∨ (i ∉ is ∧ H[i]? = some pb)
 | [], _, _, _, h => .inr ⟨by simp, h⟩
 | j :: is, H, i, pb, h => by
  rcases goneAll_back (is := is) (H := gone1 j H) h with ⟨h1, h2⟩ | ⟨h1, h2⟩
  ·exact .inl ⟨List.mem_cons_of_mem _ h1, h2⟩
  ·unfold gone1 at h2
   by_cases e : j = i
   ·subst e
    rw [List.getElem?_set_self'] at h2
    cases hx : H[j]? with
    | none => rw [hx] at h2; cases h2
    | some y => rw [hx] at h2; cases h2; exact .inl ⟨List.mem_cons_self, rfl⟩
   ·rw [List.getElem?_set_ne e] at h2
    exact .inr ⟨by simp [h1, Ne.symm e], h2⟩
theorem push_list (hr : HR X P A m H h) (is : List Nat) {k ex x : Bool} {e size : Nat} {rows : List (X.Γ e)} {cs : List TV} (hw : RowsR X P (FA A m is) (goneM is m) h e rows cs 0 size) (hc : cs.length = rows.length * size) (hn : rows ≠ []) (hz : sizeT P e = some size) (h0 : 0 < size) (hx : ex = true → x = true) :
  ∃ m1, HR X P A m1 (goneAll is H ++ [.list k ex e rows]) (h ++ [.cells .own cs]) ∧ Fr m h m1 (h ++ [.cells .own cs]) ∧ Up m m1 ∧ VR X P (AA A m1) m1 (h ++ [.cells .own cs]) (.own H.length) (.slc h.length 0 rows.length rows.length size x) := by
 have hgo := hr.goneAll is
 have hFU := fr_goneM (h := h) is m
 have hown : (MB.lst (.slc h.length 0 rows.length rows.length size x)).own = some h.length := by simp only [MB.own]; rw [if_neg (by simpa using hn)]
 have hF : Fr (goneM is m) h (goneM is m ++ [.lst (.slc h.length 0 rows.length rows.length size x)]) (h ++ [.cells .own cs]) := by
  refine ⟨by simp, fun b hb _ => by rw [List.getElem?_append_left hb], fun b hb => ?_, fun b cs hc => ⟨cs, by rw [blkCells_same (List.getElem?_append_left (blkCells_lt hc)), hc], Nat.le_refl _⟩⟩
  rw [blks_app, List.mem_append, blks_one, hown] at hb
  rcases hb with hb | hb
  ·exact .inl hb
  ·simp at hb; exact .inr (by omega)
 obtain ⟨h1, h2, h3⟩ := hgo.push (pb := .list k ex e rows) (hb := .cells .own cs) (.inl hown)
  (LR.some (kk := .own) hn hz h0 (by simp) (by simp) (fun _ => rfl) hx hc ((hw.mono fun b hb => hb.gone hr).step hF (up_app _)))
 refine ⟨_, h1, hFU.1.trans h2, hFU.2.trans h3, .own ?_ rfl⟩
 rw [← hr.len, ← goneM_length is m]; simp
theorem push_none (hr : HR X P A m H h) (is : List Nat) {k ex : Bool} {e : Nat} {y : TV} (hy : (MB.lst y).own = none) (ho : oneT y = true) (hl : LR X P (AA A (goneM is m ++ [.lst y])) (goneM is m ++ [.lst y]) h k ex e [] y) :
  ∃ m1, HR X P A m1 (goneAll is H ++ [.list k ex e []]) h ∧ Fr m h m1 h ∧ Up m m1 ∧ VR X P (AA A m1) m1 h (.own H.length) y := by
 have hFU := fr_goneM (h := h) is m
 obtain ⟨h1, h2, h3⟩ := (hr.goneAll is).pushE (pb := .list k ex e []) hy hl
 refine ⟨_, h1, hFU.1.trans h2, hFU.2.trans h3, .own ?_ ho⟩
 rw [← hr.len, ← goneM_length is m]; simp
theorem AA_none (hr : HR X P A m H h) {is : List Nat} {y : TV} (hy : (MB.lst y).own = none) {b : Nat} (hb : FA A m is b) : AA A (goneM is m ++ [.lst y]) b := by
 have := hb.gone hr
 refine ⟨this.1, fun hm => this.2 ?_⟩
 rw [blks_app, List.mem_append, blks_one, hy] at hm
 simpa using hm
theorem push_empty (hr : HR X P A m H h) (is : List Nat) {k ex : Bool} {e size b off : Nat} {cs : List TV} (hz : sizeT P e = some size) (h0 : 0 < size) (ha : FA A m is b) (hb : blkCells h b = some cs) (ho : off ≤ cs.length) :
  ∃ m1, HR X P A m1 (goneAll is H ++ [.list k ex e []]) h ∧ Fr m h m1 h ∧ Up m m1 ∧ VR X P (AA A m1) m1 h (.own H.length) (.slc b off 0 0 size true) :=
 push_none hr is rfl rfl (LR.emp (AA_none hr rfl ha) hb ho hz h0)
theorem push_nil (hr : HR X P A m H h) (is : List Nat) {k ex : Bool} {e : Nat} :
  ∃ m1, HR X P A m1 (goneAll is H ++ [.list k ex e []]) h ∧ Fr m h m1 h ∧ Up m m1 ∧ VR X P (AA A m1) m1 h (.own H.length) (.nil .slc) :=
 push_none hr is rfl rfl .nil
theorem push_again (hr : HR X P A m H h) {b c : Nat} (is : List Nat) {mb mb' : MB} {pb : PB X.Γ} {h1 : List HB} (hb : m[b]? = some mb) (ho : mb.own = some c) (ho' : mb'.own = some c) (hlen : h1.length = h.length) (hs : ∀ d, d ≠ c → h1[d]? = h[d]?)
  (hg : ∀ cs, blkCells h c = some cs → ∃ cs', blkCells h1 c = some cs' ∧ cs.length ≤ cs'.length)
  (hb' : Fr m h (goneM (b :: is) m ++ [mb']) h1 → Up m (goneM (b :: is) m ++ [mb']) → BR X P (AA A (goneM (b :: is) m ++ [mb'])) (goneM (b :: is) m ++ [mb']) h1 pb mb') :
  ∃ m1, m1 = goneM (b :: is) m ++ [mb'] ∧ HR X P A m1 (goneAll (b :: is) H ++ [pb]) h1 ∧ Fr m h m1 h1 ∧ Up m m1 ∧ m1[H.length]? = some mb' := by
 have hFU := fr_goneM (h := h) (b :: is) m
 have hgo := hr.goneAll (b :: is)
 have hnc : c ∉ blks (goneM (b :: is) m) := fun hm => by
  obtain ⟨j, mbj, g1, g2, g3⟩ := blks_goneM hm
  have := own_inj hr.nodup hb g2 ho g3
  exact g1 (by rw [← this]; exact List.mem_cons_self)
 have hbl : ∀ d, d ∈ blks (goneM (b :: is) m ++ [mb']) ↔ d ∈ blks (goneM (b :: is) m) ∨ d = c := by
  intro d; rw [blks_app, List.mem_append, blks_one, ho']; simp
 have hcm : c ∈ blks m := own_mem hb ho
 have hF : Fr m h (goneM (b :: is) m ++ [mb']) h1 := by
  refine ⟨by omega, fun d hd hn => hs d fun e => hn (e ▸ hcm), fun d hd => ?_, fun d cs hc => ?_⟩
  ·rcases (hbl d).1 hd with hd | rfl
   ·exact hFU.1.new d hd
   ·exact .inl hcm
  ·by_cases e : d = c
   ·subst e; exact hg cs hc
   ·exact ⟨cs, by rw [blkCells_same (hs d e), hc], Nat.le_refl _⟩
 have hU : Up m (goneM (b :: is) m ++ [mb']) := hFU.2.trans (up_app _)
 refine ⟨_, rfl, ?_, hF, hU, ?_⟩
 ·refine hr.next hF hU (by simp [goneM_length, goneAll_length, hr.len]) ?_ fun i pbi hi => ?_
  ·rw [blks_app, blks_one, ho']
   refine List.nodup_append.2 ⟨hgo.nodup, by simp, fun a ha b' hb2 e => ?_⟩
   simp at hb2; subst hb2; subst e; exact hnc ha
  ·rcases Nat.lt_or_ge i (goneAll (b :: is) H).length with hlt | hge
   ·rw [List.getElem?_append_left hlt] at hi
    have hlt' : i < (goneM (b :: is) m).length := by rw [hgo.len]; exact hlt
    rcases goneAll_back hi with ⟨e1, rfl⟩ | ⟨e1, e2⟩
    ·obtain ⟨mbi, g1, g2⟩ := hgo.at_ i _ hi
     cases mbi with
     | gone => exact .inr ⟨.gone, by rw [List.getElem?_append_left hlt']; exact g1, trivial⟩
     | _ => exact g2.elim
    ·obtain ⟨mbi, g1, _⟩ := hr.at_ i _ e2
     left
     have hm := goneM_at (b :: is) g1
     rw [show (b :: is).contains i = false by simpa using e1] at hm
     refine ⟨mbi, e2, g1, by rw [List.getElem?_append_left hlt']; simpa using hm, fun d hd => hs d fun e => ?_⟩
     subst e
     have := own_inj hr.nodup hb g1 ho hd
     exact e1 (by rw [← this]; exact List.mem_cons_self)
   ·rw [List.getElem?_append_right hge] at hi
    have : i - (goneAll (b :: is) H).length = 0 := by
     rcases Nat.eq_zero_or_pos (i - (goneAll (b :: is) H).length) with h | h
     ·exact h
     ·rw [List.getElem?_eq_none (by simp; omega)] at hi; cases hi
    rw [this] at hi
    simp only [List.getElem?_cons_zero, Option.some.injEq] at hi
    subst hi
    exact .inr ⟨mb', by rw [List.getElem?_append_right (by rw [hgo.len]; exact hge), hgo.len, this]; rfl, hb' hF hU⟩
 ·have : H.length = (goneM (b :: is) m).length := by rw [goneM_length, hr.len]
  rw [this]; simp
end
end Pv
namespace Pv
open Go Tw
section
variable {X : Cod} {P : Program} {A F : Nat → Prop} {m m' : List MB} {h h' : List HB} {H H' : List (PB X.Γ)}
def MemR (X : Cod) (P : Program) (A : Nat → Prop) (m : List MB) (ts : St) (r : Option (TV × St × Inf)) (v : PV X.Γ) (H1 : List (PB X.Γ)) (pi : PI) : Prop :=
 ∃ w h1 ti m1, r = some (w, { ts with heap := h1 }, ti) ∧ HR X P A m1 H1 h1 ∧ VR X P (AA A m1) m1 h1 v w ∧ Fr m ts.heap m1 h1 ∧ Up m m1 ∧ IR m ts.heap pi ti ∧ ∀ b, .h b ∈ ti.ws → b ∈ blks m
theorem bigRoom_le {e : TypeId} {n k : Nat} (hb : bigRoom P e n = true) (hk : k ≤ n) : bigRoom P e k = true := by
 unfold bigRoom at hb ⊢
 split at hb
 ·rename_i i hi
  simp only [Bool.and_eq_true, decide_eq_true_eq] at hb ⊢
  obtain ⟨⟨⟨⟨h1, h2⟩, h3⟩, h4⟩, h5⟩ := hb
  have := Nat.mul_le_mul_right i.bytes hk
  exact ⟨⟨⟨⟨by omega, by omega⟩, h3⟩, h4⟩, h5⟩
 ·cases hb
theorem sliceElem_size {t e : TypeId} {n : Nat} (hs : sliceElem P t = some (e, n)) : sizeT P e = some n ∧ 0 < n := by
 unfold sliceElem at hs
 split at hs
 ·split at hs
  ·rename_i k hk
   split at hs
   ·cases hs
   ·rename_i h0
    simp only [Option.some.injEq, Prod.mk.injEq] at hs
    obtain ⟨rfl, rfl⟩ := hs
    exact ⟨hk, by omega⟩
  ·cases hs
 ·cases hs
theorem keys_ok (hr : HR X P A m H h) {e sz : Nat} {x : PV X.Γ} {tx : TV} (hv : VR X P (AA A m) m h x tx) (hz : sizeT P e = some sz) {rows : List (X.Γ e)} {is : List Nat} (hs : srcP X H e sz x = some (rows, is)) {b : Nat} (hb : .h b ∈ srcKeys tx) : ((∃ i, .h i ∈ keyP X x ∧ Own m i b) ∨ b ∉ blks m) ∧ b < h.length := by
 have lr : ∀ {i : Nat} {k ex : Bool} {t : Nat} {l : List (X.Γ t)} {c off len cap s : Nat} {e' : Bool}, H[i]? = some (.list k ex t l) → m[i]? = some (.lst (.slc c off len cap s e')) → (Own m i c ∨ c ∉ blks m) ∧ c < h.length := by
  intro i k ex t l c off len cap s e' hH hm
  obtain ⟨mb, g1, g2⟩ := hr.at_ i _ hH
  rw [hm] at g1; cases g1
  cases (g2 : LR X P _ _ _ _ _ _ _ _) with
  | emp h0 h1 => exact ⟨.inr h0.2, blkCells_lt h1⟩
  | some q1 q2 q3 q4 => exact ⟨.inl (own_of hm (by simp only [MB.own]; rw [if_neg (by simpa using q1)])), (List.getElem?_eq_some_iff.1 q4).1⟩
 cases x with
 | nil k =>
  cases hv with
  | nil => simp [srcKeys] at hb
  | gone hi _ _ => simp [idOf] at hi
 | lst t l fu =>
  cases hv with
  | lstN => simp [srcKeys] at hb
  | lst a ac => simp [srcKeys] at hb; subst hb; exact ⟨.inr a.2, blkCells_lt ac⟩
  | gone hi _ _ => simp [idOf] at hi
 | own i =>
  simp only [srcP] at hs
  split at hs
  ·rename_i k ex t l hH
   cases hv with
   | own e' o =>
    cases tx <;> simp [srcKeys] at hb
    subst hb
    obtain ⟨h1, h2⟩ := lr hH e'
    rcases h1 with h1 | h1
    ·exact ⟨.inl ⟨i, by simp [keyP], h1⟩, h2⟩
    ·exact ⟨.inr h1, h2⟩
   | gone hi e' _ =>
    simp only [idOf, Option.some.injEq] at hi; subst hi
    obtain ⟨mb, g1, g2⟩ := hr.at_ i _ hH
    rw [g1] at e'; cases e' <;> exact g2.elim
  ·cases hs
 | win i o n =>
  simp only [srcP] at hs
  split at hs
  ·rename_i k ex t l hH
   cases hv with
   | win e' q q' =>
    simp [srcKeys] at hb
    subst hb
    obtain ⟨h1, h2⟩ := lr hH e'
    rcases h1 with h1 | h1
    ·exact ⟨.inl ⟨i, by simp [keyP], h1⟩, h2⟩
    ·exact ⟨.inr h1, h2⟩
   | winN => simp [srcKeys] at hb
   | gone hi e' _ =>
    simp only [idOf, Option.some.injEq] at hi; subst hi
    obtain ⟨mb, g1, g2⟩ := hr.at_ i _ hH
    rw [g1] at e'; cases e' <;> exact g2.elim
  ·cases hs
 | slc c off len cap s ex =>
  simp only [srcP] at hs
  split at hs
  ·rename_i cs hH
   cases hv with
   | slc e' =>
    simp [srcKeys] at hb; subst hb
    obtain ⟨mb, g1, g2⟩ := hr.at_ c _ hH
    rw [e'] at g1; cases g1
    exact ⟨.inl ⟨c, by simp [keyP], own_of e' rfl⟩, g2.has rfl⟩
   | gone hi e' _ =>
    simp only [idOf, Option.some.injEq] at hi; subst hi
    obtain ⟨mb, g1, g2⟩ := hr.at_ c _ hH
    rw [g1] at e'; cases e' <;> exact g2.elim
  ·cases hs
 | _ => simp [srcP] at hs
theorem IR.reads {p : PI} {ks : List Key} (hp : p.hp = true) (hk : ∀ b, .h b ∈ ks → ((∃ i, .h i ∈ p.i.ts ∧ Own m i b) ∨ b ∉ blks m) ∧ b < h.length) (hl : ∀ k, .l k ∉ ks) : IR m h p (rdKs ks) :=
 ⟨fun h => (by cases h), fun k h => absurd h (hl k), fun k h => (by cases h), fun b h => (by cases h), hk, fun h => (by rw [hp] at h; cases h)⟩
theorem srcKeys_l {tx : TV} {k : Nat} : Key.l k ∉ srcKeys tx := by cases tx <;> simp [srcKeys]
theorem append_ok (hX : CodOk X P) {ps : PSt X.Γ} {ts : St} (hR : StR X P A m ps ts) {at_ : Array TypeId} {d x : PV X.Γ} {td tx : TV} (hd : VR X P (AA A m) m ts.heap d td) (hx : VR X P (AA A m) m ts.heap x tx) {v : PV X.Γ} {H1 : List (PB X.Γ)} {pi : Inf} {qs : List Prop}
  (hl : pappend X P at_ ps.heap d x = some (v, H1, pi, qs)) (hq : ∀ q ∈ qs, q) : MemR X P A m ts (appendT P at_ ts td tx) v H1 ⟨pi, false, false, true⟩ := by
 have hr := hR.heap
 unfold pappend at hl
 split at hl
 ·rename_i st xt hst hxt
  split at hl
  ·cases hl
  ·rename_i hint
   split at hl
   ·rename_i e size hse
    split at hl
    ·rename_i hbig
     obtain ⟨hz, h0⟩ := sliceElem_size hse
     split at hl
     ·rename_i rows is hs
      obtain ⟨new, s1, s2, s3⟩ := srcP_VR (m' := goneM is m) hX hr hx hz hs
      have hk0 : IR m ts.heap ⟨rdKs (keyP X x), false, false, true⟩ (rdKs (srcKeys tx)) := IR.reads rfl (fun b hb => keys_ok hr hx hz hs hb) fun k => srcKeys_l
      have hrn : rows.length = 0 ↔ rows = [] := List.length_eq_zero_iff
      split at hl
      ·-- nil
       simp only [Option.some.injEq, Prod.mk.injEq] at hl
       obtain ⟨rfl, rfl, rfl, rfl⟩ := hl
       have hq1 : rows.length ≤ most := hq _ List.mem_cons_self
       have : td = .nil .slc := by
        cases hd with
        | nil => rfl
        | gone hi _ _ => simp [idOf] at hi
       subst this
       by_cases hn : rows = []
       ·subst hn
        obtain ⟨m1, g1, g2, g3, g4⟩ := push_nil hr is (k := true) (ex := false) (e := e)
        exact ⟨_, ts.heap, _, m1, by unfold appendT; simp only [hst, hxt, hint, if_false, hse, s1, List.length_nil, if_true, Bool.false_eq_true], g1, g4, g2, g3, hk0, fun b hb => by simp [rdKs] at hb⟩
       ·obtain ⟨m1, g1, g2, g3, g4⟩ := push_list hr is (k := true) (ex := false) (x := false) s3 s2 hn hz h0 (by simp)
        refine ⟨_, ts.heap ++ [.cells .own new], _, m1, ?_, g1, g4, g2, g3, hk0, fun b hb => by simp [rdKs] at hb⟩
        unfold appendT
        simp only [hst, hxt, hint, if_false, hse, s1, Bool.false_eq_true, hrn, hn, s2, if_true, bigRoom_le hbig hq1]
      ·-- an own list
       rename_i b
       split at hl
       ·rename_i k ex t' l hb
        split at hl
        ·cases hl
        rename_i hnb
        split at hl
        ·rename_i l2 hcast
         obtain ⟨rfl, rfl⟩ := castL_eq hcast
         simp only [Option.some.injEq, Prod.mk.injEq] at hl
         obtain ⟨rfl, rfl, rfl, rfl⟩ := hl
         have hq1 : l2.length + rows.length ≤ most := hq _ List.mem_cons_self
         obtain ⟨mb, g1, g2⟩ := hr.at_ b _ hb
         have hk1 : ∀ {c : Nat}, Own m b c ∨ c ∉ blks m → c < ts.heap.length → IR m ts.heap ⟨⟨false, .h b :: keyP X x, [.h b]⟩, false, false, true⟩ (rdKs (.h c :: srcKeys tx)) := fun {c} hc hlt => IR.reads rfl (fun d hd => by
          rcases List.mem_cons.1 hd with e0 | e0
          ·cases e0
           rcases hc with hc | hc
           ·exact ⟨.inl ⟨b, List.mem_cons_self, hc⟩, hlt⟩
           ·exact ⟨.inr hc, hlt⟩
          ·obtain ⟨h0, h9⟩ := keys_ok hr hx hz hs e0
           rcases h0 with ⟨i, h1, h2⟩ | h1
           ·exact ⟨.inl ⟨i, List.mem_cons_of_mem _ h1, h2⟩, h9⟩
           ·exact ⟨.inr h1, h9⟩) fun j hj => by
            rcases List.mem_cons.1 hj with e0 | e0
            ·cases e0
            ·exact srcKeys_l e0
         have hk2 : IR m ts.heap ⟨⟨false, .h b :: keyP X x, [.h b]⟩, false, false, true⟩ (rdKs (srcKeys tx)) := IR.reads rfl (fun d hd => by
          obtain ⟨h0, h9⟩ := keys_ok hr hx hz hs hd
          rcases h0 with ⟨i, h1, h2⟩ | h1
          ·exact ⟨.inl ⟨i, List.mem_cons_of_mem _ h1, h2⟩, h9⟩
          ·exact ⟨.inr h1, h9⟩) fun j hj => srcKeys_l hj
         cases mb with
         | lst z =>
          cases hd with
          | gone hi e' _ => simp only [idOf, Option.some.injEq] at hi; subst hi; rw [g1] at e'; cases e'
          | own e' o =>
           rw [g1] at e'; cases e'
           have hlr : LR X P (AA A m) m ts.heap k ex t' l2 td := g2
           have s3' : RowsR X P (FA A m (b :: is)) (goneM (b :: is) m) ts.heap t' rows new 0 size := (s3.mono fun c hc => FA.mono (fun i hi => List.mem_cons_of_mem _ hi) hc).clos hX
           cases hlr with
           | nil =>
            simp only [List.nil_append]
            by_cases hn : rows = []
            ·subst hn
             obtain ⟨m1, f1, f2, f3, f4⟩ := push_nil hr (b :: is) (k := k && ex) (ex := false) (e := t')
             exact ⟨_, ts.heap, _, m1, by unfold appendT; simp only [hst, hxt, hint, if_false, hse, s1, List.length_nil, if_true, Bool.false_eq_true], f1, f4, f2, f3, hk2, fun c hc => by simp [rdKs] at hc⟩
            ·obtain ⟨m1, f1, f2, f3, f4⟩ := push_list hr (b :: is) (k := k && ex) (ex := false) (x := false) s3' s2 hn hz h0 (by simp)
             refine ⟨_, ts.heap ++ [.cells .own new], _, m1, ?_, f1, f4, f2, f3, hk2, fun c hc => by simp [rdKs] at hc⟩
             unfold appendT
             simp only [hst, hxt, hint, if_false, hse, s1, Bool.false_eq_true, hrn, hn, s2, if_true, bigRoom_le hbig (show rows.length ≤ most by omega)]
           | emp p0 p1 p2 p3 p4 =>
            rename_i c off sz cs
            rw [hz] at p3; cases p3
            simp only [List.nil_append]
            by_cases hn : rows = []
            ·subst hn
             obtain ⟨m1, f1, f2, f3, f4⟩ := push_empty hr (b :: is) (k := k && ex) (ex := false) hz h0 (.inl p0) p1 p2
             exact ⟨_, ts.heap, _, m1, by unfold appendT; simp only [hst, hxt, hint, if_false, hse, s1, List.length_nil, if_true, Bool.false_eq_true], f1, f4, f2, f3, hk2, fun c hc => by simp [rdKs] at hc⟩
            ·obtain ⟨m1, f1, f2, f3, f4⟩ := push_list hr (b :: is) (k := k && ex) (ex := false) (x := false) s3' s2 hn hz h0 (by simp)
             refine ⟨_, ts.heap ++ [.cells .own new], _, m1, ?_, f1, f4, f2, f3, hk1 (c := c) (.inr p0.2) (blkCells_lt p1), fun c hc => by simp [rdKs] at hc⟩
             have hsub : srcCells size ts.heap (.slc c off 0 0 size true) = some (0, []) := by simp [srcCells]
             unfold appendT
             simp only [hst, hxt, hint, if_false, hse, s1, Bool.false_eq_true, hrn, hn, s2, if_true, Nat.zero_add, Nat.le_zero_eq, bigRoom_le hbig (show rows.length ≤ most by omega), hsub, Option.map_some, List.nil_append]
           | some p1 p2 p3 p4 p5 p6 p7 p8 p9 =>
            rename_i c sz xx kk cs
            rw [hz] at p2; cases p2
            have hown : (MB.lst (TV.slc c 0 l2.length l2.length size xx)).own = some c := by simp only [MB.own]; rw [if_neg (by simpa using p1)]
            by_cases hn : rows = []
            ·subst hn
             simp only [List.append_nil]
             obtain ⟨m1, f0, f1, f2, f3, f4⟩ := push_again (pb := .list (k && ex) false t' l2) hr is g1 hown hown rfl (fun _ _ => rfl) (fun cs hc => ⟨cs, hc, Nat.le_refl _⟩) (fun hF hU => LR.some p1 hz p3 p4 p5 (fun hk => p6 (by simp at hk; exact hk.1)) (by simp) p8 (p9.step hF hU))
             exact ⟨_, ts.heap, _, m1, by unfold appendT; simp only [hst, hxt, hint, if_false, hse, s1, List.length_nil, if_true, Bool.false_eq_true], f1, .own f4 rfl, f2, f3, hk2, fun c hc => by simp [rdKs] at hc⟩
            ·have hle : ¬ l2.length + rows.length ≤ l2.length := by
              have : rows.length ≠ 0 := fun e0 => hn (hrn.1 e0)
              omega
             have hne : l2 ++ rows ≠ [] := by simp [p1]
             cases xx with
             | true =>
              have hold : srcCells size ts.heap (.slc c 0 l2.length l2.length size true) = some (l2.length, cs) := by
               simp only [srcCells, if_true]
               rw [if_neg (fun e0 => p1 (List.length_eq_zero_iff.1 e0)), blkLim_end p4 (by omega)]
               simp only [sub]
               rw [if_pos (by omega), List.drop_zero, List.take_of_length_le (by omega)]; rfl
              have hw1 : RowsR X P (FA A m (b :: is)) (goneM (b :: is) m) ts.heap t' l2 cs 0 size := (p9.mono fun c hc => .inl hc).clos hX
              obtain ⟨m1, f1, f2, f3, f4⟩ := push_list hr (b :: is) (k := k && ex) (ex := false) (x := false) (hw1.app s3' p8) (by rw [List.length_append, List.length_append, Nat.add_mul, p8, s2]) hne hz h0 (by simp)
              refine ⟨_, ts.heap ++ [.cells .own (cs ++ new)], _, m1, ?_, f1, f4, f2, f3, hk1 (c := c) (.inl (own_of g1 hown)) (List.getElem?_eq_some_iff.1 p4).1, fun c hc => by simp [rdKs] at hc⟩
              unfold appendT
              simp only [hst, hxt, hint, if_false, hse, s1, Bool.false_eq_true, hrn, hn, s2, if_true, hle, bigRoom_le hbig hq1, hold, Option.map_some, List.length_append]
             | false =>
              have hex : ex = false := by cases ex with
               | true => exact absurd (p7 rfl) (by simp)
               | false => rfl
              subst hex
              have hlt := (List.getElem?_eq_some_iff.1 p4).1
              obtain ⟨m1, f0, f1, f2, f3, f4⟩ := push_again (pb := .list (k && false) false t' (l2 ++ rows)) (h1 := ts.heap.set c (.cells kk.more (cs ++ new))) (mb' := .lst (.slc c 0 (l2.length + rows.length) (l2.length + rows.length) size false)) hr is g1 hown
               (by simp only [MB.own]; rw [if_neg (by omega)]) (by simp) (fun d hd => List.getElem?_set_ne (Ne.symm hd)) (fun cs2 hc2 => ⟨cs ++ new, by simp [blkCells, hlt], by
                simp only [blkCells, p4, Option.some.injEq] at hc2; subst hc2; simp⟩) (fun hF hU => by
                have hFU := fr_goneM (h := ts.heap) (b :: is) m
                have hmv : ∀ q cs', FA A m is q → blkCells ts.heap q = some cs' → AA A (goneM (b :: is) m ++ [.lst (.slc c 0 (l2.length + rows.length) (l2.length + rows.length) size false)]) q ∧ (ts.heap.set c (.cells kk.more (cs ++ new)))[q]? = ts.heap[q]? := fun q cs' hq hc => by
                 have hqc : q ≠ c := fun e0 => by
                  subst e0
                  rcases hq with hq | ⟨i, mb, e1, e2, e3⟩
                  ·exact hq.2 (own_mem g1 hown)
                  ·have := own_inj hr.nodup g1 e2 hown e3
                   subst this
                   exact hnb (by simpa using e1)
                 have hg := FA.gone hr (FA.mono (js := b :: is) (fun i hi => List.mem_cons_of_mem _ hi) hq)
                 refine ⟨⟨hg.1, fun hm => ?_⟩, List.getElem?_set_ne (Ne.symm hqc)⟩
                 rw [blks_app, List.mem_append, blks_one] at hm
                 rcases hm with hm | hm
                 ·exact hg.2 hm
                 ·simp only [MB.own] at hm
                  rw [if_neg (by omega)] at hm
                  simp at hm; exact hqc hm
                have := LR.some (X := X) (P := P) (A := AA A (goneM (b :: is) m ++ [.lst (.slc c 0 (l2.length + rows.length) (l2.length + rows.length) size false)])) (m := goneM (b :: is) m ++ [.lst (.slc c 0 (l2.length + rows.length) (l2.length + rows.length) size false)]) (h := ts.heap.set c (.cells kk.more (cs ++ new))) (k := k && false) (ex := false) (t := t') (l := l2 ++ rows) (b := c) (sz := size) (e := false) (kk := kk.more) (cs := cs ++ new)
                 hne hz h0 (by simp [hlt]) (by cases kk <;> simp [BK.more]) (by simp) (by simp) (by rw [List.length_append, List.length_append, Nat.add_mul, p8, s2]) ((p9.step hF hU).app (s3.move hX hmv) p8)
                rw [List.length_append] at this
                exact this)
              refine ⟨_, ts.heap.set c (.cells kk.more (cs ++ new)), ⟨false, .h c :: srcKeys tx, [.h c]⟩, m1, ?_, f1, .own f4 rfl, f2, f3, ⟨fun h => (by cases h), fun j hj => ?_, fun j hj => (by simp at hj), fun d hd => ?_, fun d hd => ?_, fun h => (by cases h)⟩, fun d hd => ?_⟩
              ·unfold appendT
               simp only [hst, hxt, hint, if_false, hse, s1, Bool.false_eq_true, hrn, hn, s2, if_true, hle, bigRoom_le hbig hq1, p4, ne_eq, not_true_eq_false, p5, p8, List.length_eq_zero_iff, p1, or_self]
              ·rcases List.mem_cons.1 hj with e0 | e0
               ·cases e0
               ·exact absurd e0 srcKeys_l
              ·simp at hd; subst hd; exact .inl ⟨b, by simp, own_of g1 hown⟩
              ·rcases List.mem_cons.1 hd with e0 | e0
               ·cases e0; exact ⟨.inl ⟨b, List.mem_cons_self, own_of g1 hown⟩, hlt⟩
               ·obtain ⟨h0, h9⟩ := keys_ok hr hx hz hs e0
                rcases h0 with ⟨i, h1, h2⟩ | h1
                ·exact ⟨.inl ⟨i, List.mem_cons_of_mem _ h1, h2⟩, h9⟩
                ·exact ⟨.inr h1, h9⟩
              ·simp at hd; subst hd; exact own_mem g1 hown
         | _ => exact g2.elim
        ·cases hl
       ·cases hl
      ·-- a full frozen list
       rename_i t' l
       split at hl
       ·rename_i l2 hcast
        obtain ⟨rfl, rfl⟩ := castL_eq hcast
        simp only [Option.some.injEq, Prod.mk.injEq] at hl
        obtain ⟨rfl, rfl, rfl, rfl⟩ := hl
        have hq1 : l2.length + rows.length ≤ most := hq _ List.mem_cons_self
        have hq2 : l2 = [] ∨ rows ≠ [] := hq _ (List.mem_cons_of_mem _ List.mem_cons_self)
        cases hd with
        | gone hi _ _ => simp [idOf] at hi
        | lstN =>
         simp only [List.nil_append]
         by_cases hn : rows = []
         ·subst hn
          obtain ⟨m1, f1, f2, f3, f4⟩ := push_nil hr is (k := true) (ex := false) (e := t')
          exact ⟨_, ts.heap, _, m1, by unfold appendT; simp only [hst, hxt, hint, if_false, hse, s1, List.length_nil, if_true, Bool.false_eq_true], f1, f4, f2, f3, hk0, fun c hc => by simp [rdKs] at hc⟩
         ·obtain ⟨m1, f1, f2, f3, f4⟩ := push_list hr is (k := true) (ex := false) (x := false) s3 s2 hn hz h0 (by simp)
          refine ⟨_, ts.heap ++ [.cells .own new], _, m1, ?_, f1, f4, f2, f3, hk0, fun c hc => by simp [rdKs] at hc⟩
          unfold appendT
          simp only [hst, hxt, hint, if_false, hse, s1, Bool.false_eq_true, hrn, hn, s2, if_true, bigRoom_le hbig (show rows.length ≤ most by omega)]
        | lst p1 p2 p2' p3 p4 p5 p6 p7 p8 p9 =>
         rename_i c off cap sz xx cs
         rw [hz] at p3; cases p3
         obtain ⟨rfl, rfl⟩ := p7 rfl
         have hk3 : IR m ts.heap ⟨rdKs (keyP X x), false, false, true⟩ (rdKs (.h c :: srcKeys tx)) := IR.reads rfl (fun d hd => by
          rcases List.mem_cons.1 hd with e0 | e0
          ·cases e0; exact ⟨.inr p1.2, blkCells_lt p2⟩
          ·exact keys_ok hr hx hz hs e0) fun j hj => by
           rcases List.mem_cons.1 hj with e0 | e0
           ·cases e0
           ·exact srcKeys_l e0
         by_cases hn : rows = []
         ·have hl0 : l2 = [] := by rcases hq2 with h1 | h1; exact h1; exact absurd hn h1
          subst hn; subst hl0
          obtain ⟨m1, f1, f2, f3, f4⟩ := push_empty hr is (k := true) (ex := false) hz h0 (.inl p1) p2 (by simpa using p5)
          exact ⟨_, ts.heap, _, m1, by unfold appendT; simp only [hst, hxt, hint, if_false, hse, s1, List.length_nil, if_true, Bool.false_eq_true], f1, f4, f2, f3, hk0, fun c hc => by simp [rdKs] at hc⟩
         ·have hle : ¬ l2.length + rows.length ≤ l2.length := by
           have : rows.length ≠ 0 := fun e0 => hn (hrn.1 e0)
           omega
          have hw1 : RowsR X P (FA A m is) (goneM is m) ts.heap t' l2 ((cs.drop off).take (l2.length * size)) 0 size := by
           have hh : RowsR X P (AA A m) m ts.heap t' l2 cs off size := ⟨p8, p5, p9⟩
           exact (hh.take.mono fun c hc => .inl hc).clos hX
          have hlen : ((cs.drop off).take (l2.length * size)).length = l2.length * size := by rw [List.length_take, List.length_drop]; omega
          obtain ⟨m1, f1, f2, f3, f4⟩ := push_list hr is (k := true) (ex := false) (x := false) (hw1.app s3 hlen) (by rw [List.length_append, List.length_append, Nat.add_mul, hlen, s2]) (by simp [hn]) hz h0 (by simp)
          refine ⟨_, ts.heap ++ [.cells .own ((cs.drop off).take (l2.length * size) ++ new)], _, m1, ?_, f1, f4, f2, f3, hk3, fun c hc => by simp [rdKs] at hc⟩
          have hsub : srcCells size ts.heap (.slc c off l2.length l2.length size true) = some (l2.length, (cs.drop off).take (l2.length * size)) := by
           simp only [srcCells, if_true, sub]
           by_cases hl0 : l2.length = 0
           ·rw [if_pos hl0, hl0, Nat.zero_mul, List.take_zero]
           ·rw [if_neg hl0, p2' (fun e0 => hl0 (by rw [e0]; rfl))]
            simp only
            rw [if_pos p5]; rfl
          unfold appendT
          simp only [hst, hxt, hint, if_false, hse, s1, Bool.false_eq_true, hrn, hn, s2, if_true, hle, bigRoom_le hbig hq1, hsub, Option.map_some, List.length_append]
       ·cases hl
      ·cases hl
     ·cases hl
    ·cases hl
   ·cases hl
 ·cases hl
end
end Pv
namespace Pv
open Go Tw
theorem putL_length {α : Type} {l rows : List α} {o k : Nat} (h : o + k ≤ l.length) (hk : k ≤ rows.length) : (putL l o k rows).length = l.length := by
 unfold putL; simp; omega
theorem putL_zero {α : Type} {l rows : List α} {o : Nat} : putL l o 0 rows = l := by unfold putL; simp
section
variable {X : Cod} {P : Program} {A F : Nat → Prop} {m m' : List MB} {h h' : List HB} {H H' : List (PB X.Γ)}
theorem RowsR.put {t sz o k : Nat} {l rows : List (X.Γ t)} {cs new : List TV} (h1 : RowsR X P F m h t l cs 0 sz) (h2 : RowsR X P F m h t rows new 0 sz) (hc : cs.length = l.length * sz) (hn : new.length = rows.length * sz) (ho : o + k ≤ l.length) (hk : k ≤ rows.length) :
  RowsR X P F m h t (putL l o k rows) (cs.take (o * sz) ++ new.take (k * sz) ++ cs.drop (o * sz + k * sz)) 0 sz := by
 have a1 := (h1.part (o := 0) (n := o) (by omega)).take
 have a2 := (h2.part (o := 0) (n := k) (by omega)).take
 have a3 := (h1.part (o := o + k) (n := l.length - (o + k)) (by omega)).take
 have l1 : ((l.drop 0).take o).length = o := by simp; omega
 have l2 : ((rows.drop 0).take k).length = k := by simp; omega
 have l3 : ((l.drop (o + k)).take (l.length - (o + k))).length = l.length - (o + k) := by simp
 rw [l1] at a1; rw [l2] at a2; rw [l3] at a3
 simp only [Nat.zero_mul, Nat.add_zero, Nat.zero_add, List.drop_zero] at a1 a2 a3
 have m1 : o * sz ≤ cs.length := by rw [hc]; exact Nat.mul_le_mul_right _ (by omega)
 have m2 : k * sz ≤ new.length := by rw [hn]; exact Nat.mul_le_mul_right _ hk
 have r := (a1.app a2 (by rw [List.length_take, List.length_take]; rw [Nat.min_eq_left m1, Nat.min_eq_left (by omega)])).app a3 (by
  simp only [List.length_append, List.length_take]
  rw [Nat.min_eq_left m1, Nat.min_eq_left m2, Nat.min_eq_left (by omega), Nat.min_eq_left hk, Nat.add_mul])
 have e1 : l.drop (o + k) = (l.drop (o + k)).take (l.length - (o + k)) := by rw [List.take_of_length_le (by simp)]
 have e2 : cs.drop (o * sz + k * sz) = (cs.drop ((o + k) * sz)).take ((l.length - (o + k)) * sz) := by
  rw [Nat.add_mul, List.take_of_length_le]
  rw [List.length_drop, hc, Nat.sub_mul, Nat.add_mul]; omega
 unfold putL
 rw [e1, e2]
 exact r
theorem copy_core (hX : CodOk X P) {ps : PSt X.Γ} {ts : St} (hR : StR X P A m ps ts) {at_ : Array TypeId} {st e size b o n : Nat} {k0 ex : Bool} {l rows : List (X.Γ e)} {x : PV X.Γ} {td tx : TV} (hst : at_[0]? = some st) (hse : sliceElem P st = some (e, size)) (hx : VR X P (AA A m) m ts.heap x tx)
  (hs : srcP X ps.heap e size x = some (rows, [])) (hb : ps.heap[b]? = some (.list k0 ex e l)) {mb : MB} (g1 : m[b]? = some mb) (g2 : BR X P (AA A m) m ts.heap (.list k0 ex e l) mb)
  (htd : (∃ c sz' xx' xx cap, mb = .lst (.slc c 0 l.length l.length sz' xx') ∧ l ≠ [] ∧ td = .slc c (o * sz') n cap sz' xx ∧ (n = 0 ∨ o + cap = l.length)) ∨ (n = 0 ∧ (td = .nil .slc ∨ ∃ c f cap xx, td = .slc c f 0 cap size xx))) (hon : o + n ≤ l.length) (hstr : isStr tx = false) :
  MemR X P A m ts (copyT P at_ ts td tx) (.int .i64 ((min rows.length n : Nat) : Int)) (ps.heap.set b (.list k0 ex e (putL l o (min rows.length n) rows))) ⟨⟨false, .h b :: keyP X x, [.h b]⟩, false, false, true⟩ := by
 have hr := hR.heap
 obtain ⟨hz, h0⟩ := sliceElem_size hse
 obtain ⟨new, s1, s2, s3⟩ := srcP_VR (m' := m) hX hr hx hz hs
 have s3' : RowsR X P (AA A m) m ts.heap e rows new 0 size := s3.mono fun q hq => by
  rcases hq with hq | ⟨i, _, hi, _⟩
  ·exact hq
  ·simp at hi
 have hk2 : IR m ts.heap ⟨⟨false, .h b :: keyP X x, [.h b]⟩, false, false, true⟩ (rdKs (srcKeys tx)) := IR.reads rfl (fun d hd => by
  obtain ⟨h0, h9⟩ := keys_ok hr hx hz hs hd
  rcases h0 with ⟨i, h1, h2⟩ | h1
  ·exact ⟨.inl ⟨i, List.mem_cons_of_mem _ h1, h2⟩, h9⟩
  ·exact ⟨.inr h1, h9⟩) fun j hj => srcKeys_l hj
 have same : ps.heap.set b (.list k0 ex e l) = ps.heap := by
  apply List.ext_getElem?
  intro i
  by_cases e : b = i
  ·subst e; rw [List.getElem?_set_self (List.getElem?_eq_some_iff.1 hb).1, hb]
  ·rw [List.getElem?_set_ne e]
 by_cases hk : min rows.length n = 0
 ·rw [hk, putL_zero, same]
  refine ⟨.int .i64 0, ts.heap, rdKs (srcKeys tx), m, ?_, hr, .int _ _, .refl, .refl, hk2, fun c hc => by simp [rdKs] at hc⟩
  unfold copyT
  simp only [hst, hse, s1, s2, hstr, and_self, if_true]
  rcases htd with ⟨c, sz', xx', xx, cap, rfl, hne, rfl, hcap⟩ | ⟨rfl, rfl | ⟨c, f, cap, xx, rfl⟩⟩
  ·have : sz' = size := by cases g2 with | some _ q2 _ _ _ _ _ _ _ => rw [hz] at q2; cases q2; rfl | emp => exact absurd rfl hne
   simp only [this, if_true, hk]
  ·rfl
  ·simp only [if_true, hk]
 ·rcases htd with ⟨c, sz', xx', xx, cap, rfl, hne, rfl, hcap⟩ | ⟨rfl, _⟩
  ·cases g2 with
   | emp => exact absurd rfl hne
   | some p1 p2 p3 p4 p5 p6 p7 p8 p9 =>
    rename_i kk cs
    rw [hz] at p2; cases p2
    obtain ⟨kk', hkk, hkr', hko⟩ := wrKind_wr p5
    have hcap' : o * size + cap * size = cs.length := by
     have := hcap.resolve_left (by omega)
     rw [p8, ← this, Nat.add_mul]
    have hlt := (List.getElem?_eq_some_iff.1 p4).1
    have hown : (MB.lst (TV.slc c 0 l.length l.length size xx')).own = some c := by simp only [MB.own]; rw [if_neg (by simpa using p1)]
    have hkn : o + min rows.length n ≤ l.length := by omega
    have hkr : min rows.length n ≤ rows.length := Nat.min_le_left _ _
    have m1 : o * size + min rows.length n * size ≤ cs.length := by rw [p8, ← Nat.add_mul]; exact Nat.mul_le_mul_right _ hkn
    have m2 : min rows.length n * size ≤ new.length := by rw [s2]; exact Nat.mul_le_mul_right _ hkr
    have m3 : min (min rows.length n * size) (rows.length * size) = min rows.length n * size := Nat.min_eq_left (by rw [← s2]; exact m2)
    have hput := RowsR.put p9 s3' p8 s2 hkn hkr
    have hcl : (cs.take (o * size) ++ new.take (min rows.length n * size) ++ cs.drop (o * size + min rows.length n * size)).length = cs.length := by simp; omega
    have hl := putL_length (rows := rows) hkn hkr
    obtain ⟨q1, q2⟩ := hr.set (i := b) (c := c) (pb := .list k0 ex e (putL l o (min rows.length n) rows)) (hb := .cells kk' (cs.take (o * size) ++ new.take (min rows.length n * size) ++ cs.drop (o * size + min rows.length n * size))) g1 hown
     (fun cs2 hc2 => ⟨_, by simp only [blkCells]; rw [List.getElem?_set_self hlt], by
      simp only [blkCells, p4, Option.some.injEq] at hc2; subst hc2; rw [hcl]; exact Nat.le_refl _⟩)
     (fun hF => by
      have hne' : putL l o (min rows.length n) rows ≠ [] := fun e0 => by rw [e0] at hl; simp at hl; exact p1 (List.length_eq_zero_iff.1 hl.symm)
      have r := LR.some (k := k0) (ex := ex) (e := xx') hne' hz p3 (by rw [List.getElem?_set_self hlt]) hkr' (fun e0 => hko (p6 e0)) p7 (by rw [hcl, hl, p8]) (hput.step hF .refl)
      rw [hl] at r
      exact r)
    refine ⟨.int .i64 ((min rows.length n : Nat) : Int), _, ⟨false, .h c :: srcKeys tx, [.h c]⟩, m, ?_, q1, .int _ _, q2, .refl, ?_, fun d hd => ?_⟩
    ·unfold copyT
     simp only [hst, hse, s1, s2, hstr, and_self, if_true, hk, if_false, setH_wr p4 hkk hcap', over, List.length_take, m3, m1, Option.map_some]
    ·refine ⟨fun h => (by cases h), fun k hk => ?_, fun k hk => (by simp at hk), fun d hd => ?_, fun d hd => ?_, fun h => (by cases h)⟩
     ·rcases List.mem_cons.1 hk with e0 | e0
      ·cases e0
      ·exact absurd e0 srcKeys_l
     ·simp at hd; subst hd; exact .inl ⟨b, List.mem_cons_self, own_of g1 hown⟩
     ·rcases List.mem_cons.1 hd with e0 | e0
      ·cases e0; exact ⟨.inl ⟨b, List.mem_cons_self, own_of g1 hown⟩, hlt⟩
      ·obtain ⟨h0, h9⟩ := keys_ok hr hx hz hs e0
       rcases h0 with ⟨i, h1, h2⟩ | h1
       ·exact ⟨.inl ⟨i, List.mem_cons_of_mem _ h1, h2⟩, h9⟩
       ·exact ⟨.inr h1, h9⟩
    ·simp at hd; subst hd; exact own_mem g1 hown
  ·simp at hk
theorem src_nstr (hr : HR X P A m H h) {e sz : Nat} {x : PV X.Γ} {tx : TV} (hv : VR X P (AA A m) m h x tx) {rows : List (X.Γ e)} {is : List Nat} (hs : srcP X H e sz x = some (rows, is)) : isStr tx = false := by
 cases hv with
 | own e' _ =>
  unfold srcP at hs
  simp only at hs
  split at hs
  ·rename_i hb
   obtain ⟨mb, g1, g2⟩ := hr.at_ _ _ hb
   rw [e'] at g1; cases g1
   cases g2 <;> rfl
  ·cases hs
 | gone hi e' _ =>
  cases x <;> simp only [idOf, Option.some.injEq] at hi <;> first | cases hi | skip
  all_goals (unfold srcP at hs; simp only at hs)
  all_goals first | (cases hs; done) | skip
  all_goals
   split at hs
   ·rename_i hb
    obtain ⟨mb, g1, g2⟩ := hr.at_ _ _ hb
    rw [g1] at e'; cases e' <;> exact g2.elim
   ·cases hs
 | str => simp [srcP] at hs
 | _ => rfl
theorem RowsR.vrs {t sz : Nat} : ∀ {l : List (X.Γ t)} {cs : List TV}, RowsR X P F m h t l cs 0 sz → cs.length = l.length * sz → VRs X P F m h (encs X t l) cs
 | [], cs, _, hl => by
  have : cs = [] := List.length_eq_zero_iff.1 (by simpa using hl)
  subst this; exact .nil
 | a :: r, cs, hw, hl => by
  have h1 := hw.row (j := 0) (a := a) rfl
  have h2 := (hw.part (o := 1) (n := r.length) (by simp; omega)).take
  have e1 : ((a :: r).drop 1).take r.length = r := by simp
  rw [e1] at h2
  have hl' : cs.length = r.length * sz + sz := by rw [hl, List.length_cons, Nat.add_mul, Nat.one_mul]
  have e2 : (cs.drop (0 + 1 * sz)).take (r.length * sz) = cs.drop sz := by
   rw [Nat.zero_add, Nat.one_mul, List.take_of_length_le]; rw [List.length_drop]; omega
  rw [e2] at h2
  have h3 := RowsR.vrs h2 (by rw [List.length_drop]; omega)
  have h4 : VRs X P F m h (X.enc t a) (cs.take sz) := by
   have := h1.1
   simpa using this
  have := h4.app h3
  rw [List.take_append_drop] at this
  exact this
theorem copy_ok (hX : CodOk X P) {ps : PSt X.Γ} {ts : St} (hR : StR X P A m ps ts) {at_ : Array TypeId} {d x : PV X.Γ} {td tx : TV} (hd : VR X P (AA A m) m ts.heap d td) (hx : VR X P (AA A m) m ts.heap x tx) {v : PV X.Γ} {H1 : List (PB X.Γ)} {pi : Inf}
  (hl : pcopy X P at_ ps.heap d x = some (v, H1, pi)) : MemR X P A m ts (copyT P at_ ts td tx) v H1 ⟨pi, false, false, true⟩ := by
 have hr := hR.heap
 unfold pcopy at hl
 split at hl
 ·rename_i st hst
  split at hl
  ·rename_i e size hse
   obtain ⟨hz, h0⟩ := sliceElem_size hse
   split at hl
   ·rename_i rows hs
    obtain ⟨new, s1, s2, s3⟩ := srcP_VR (m' := m) hX hr hx hz hs
    have hstr : isStr tx = false := src_nstr hr hx hs
    split at hl
    ·simp only [Option.some.injEq, Prod.mk.injEq] at hl
     obtain ⟨rfl, rfl, rfl⟩ := hl
     have : td = .nil .slc := by
      cases hd with
      | nil => rfl
      | gone hi _ _ => simp [idOf] at hi
     subst this
     exact ⟨_, ts.heap, _, m, by unfold copyT; simp only [hst, hse, s1, s2, hstr, and_self, if_true], hr, .int _ _, .refl, .refl, IR.reads rfl (fun b hb => keys_ok hr hx hz hs hb) fun k => srcKeys_l, fun b hb => by simp [rdKs] at hb⟩
    ·rename_i b
     split at hl
     ·rename_i k0 ex t' l hb
      split at hl
      ·rename_i l2 hcast
       obtain ⟨rfl, rfl⟩ := castL_eq hcast
       simp only [Option.some.injEq, Prod.mk.injEq] at hl
       obtain ⟨rfl, rfl, rfl⟩ := hl
       obtain ⟨mb, g1, g2⟩ := hr.at_ b _ hb
       refine copy_core (o := 0) (n := l2.length) hX hR hst hse hx hs hb g1 g2 ?_ (by omega) hstr
       cases hd with
       | gone hi e' _ => simp only [idOf, Option.some.injEq] at hi; subst hi; rw [g1] at e'; cases e' <;> exact g2.elim
       | own e' o =>
        rw [g1] at e'; cases e'
        cases g2 with
        | nil => exact .inr ⟨rfl, .inl rfl⟩
        | emp q1 q2 q3 q4 q5 => rw [hz] at q4; cases q4; exact .inr ⟨rfl, .inr ⟨_, _, _, _, rfl⟩⟩
        | some q1 q2 => rw [hz] at q2; cases q2; exact .inl ⟨_, _, _, _, _, rfl, q1, by rw [Nat.zero_mul], .inr (Nat.zero_add _)⟩
      ·cases hl
     ·cases hl
    ·rename_i b o n
     split at hl
     ·rename_i k0 ex t' l hb
      split at hl
      ·rename_i l2 hcast
       obtain ⟨rfl, rfl⟩ := castL_eq hcast
       simp only [Option.some.injEq, Prod.mk.injEq] at hl
       obtain ⟨rfl, rfl, rfl⟩ := hl
       obtain ⟨mb, g1, g2⟩ := hr.at_ b _ hb
       cases hd with
       | gone hi e' _ => simp only [idOf, Option.some.injEq] at hi; subst hi; rw [g1] at e'; cases e' <;> exact g2.elim
       | win e' o1 o2 o3 =>
        rw [g1] at e'; cases e'
        cases g2 with
        | emp q1 q2 q3 q4 q5 =>
         rw [hz] at q4; cases q4
         have : n = 0 := by omega
         subst this
         exact copy_core hX hR hst hse hx hs hb g1 (LR.emp q1 q2 q3 hz q5) (.inr ⟨rfl, .inr ⟨_, _, _, _, rfl⟩⟩) o1 hstr
        | some q1 q2 q3 q4 q5 q6 q7 q8 q9 => exact copy_core hX hR hst hse hx hs hb g1 (LR.some q1 q2 q3 q4 q5 q6 q7 q8 q9) (.inl ⟨_, _, _, _, _, rfl, q1, by rw [Nat.zero_add], o3⟩) o1 hstr
       | winN e' =>
        rw [g1] at e'; cases e'
        exact copy_core hX hR hst hse hx hs hb g1 g2 (.inr ⟨rfl, .inl rfl⟩) (by omega) hstr
      ·cases hl
     ·cases hl
    ·rename_i b off len cap sz xx
     split at hl
     ·rename_i cs hb
      split at hl
      ·rename_i hc
       obtain ⟨hc1, hc2⟩ := hc
       subst hc1
       simp only [Option.map_eq_some_iff, Prod.mk.injEq] at hl
       obtain ⟨cs1, h1, rfl, rfl, rfl⟩ := hl
       obtain ⟨mb, g1, g2⟩ := hr.at_ b _ hb
       cases mb with
       | blk c =>
        obtain ⟨cs', g3, g4⟩ := g2
        cases hd with
        | gone hi e _ => simp only [idOf, Option.some.injEq] at hi; subst hi; rw [g1] at e; cases e
        | slc e =>
         rw [g1] at e; cases e
         have s3' : RowsR X P (AA A m) m ts.heap _ rows new 0 sz := s3.mono fun q hq => by
          rcases hq with hq | ⟨i, _, hi, _⟩
          ·exact hq
          ·simp at hi
         have hv := (s3'.vrs s2).take (min rows.length len * sz)
         obtain ⟨cs1', g5, g6⟩ := over_VR g4 hv h1
         have hlen : cs1'.length = cs'.length := by
          unfold over at g5
          split at g5
          ·cases g5; simp only [List.length_append, List.length_take, List.length_drop] at *; omega
          ·cases g5
         have hlt := (List.getElem?_eq_some_iff.1 g3).1
         obtain ⟨hr1, hF⟩ := hr.set (pb := .cells cs1) (hb := .cells .own cs1') g1 (c := c) rfl (fun cs2 hcs2 => ⟨cs1', by simp [blkCells, hlt], by
          simp only [blkCells, g3, Option.some.injEq] at hcs2; subst hcs2; omega⟩) fun hF => ⟨cs1', by simp [hlt], g6.step hF .refl⟩
         refine ⟨.int .i64 ((min rows.length len : Nat) : Int), _, ⟨false, .h c :: srcKeys tx, [.h c]⟩, m, ?_, hr1, .int _ _, hF, .refl, ?_, fun d hd => ?_⟩
         ·unfold copyT
          simp only [hst, hse, s1, s2, hstr, and_self, if_true]
          rw [if_neg (by omega), setH_own g3, g5]
          rfl
         ·refine ⟨fun h => (by cases h), fun k hk => ?_, fun k hk => (by simp at hk), fun d hd => ?_, fun d hd => ?_, fun h => (by cases h)⟩
          ·rcases List.mem_cons.1 hk with e0 | e0
           ·cases e0
           ·exact absurd e0 srcKeys_l
          ·simp at hd; subst hd; exact .inl ⟨b, List.mem_cons_self, own_of g1 rfl⟩
          ·rcases List.mem_cons.1 hd with e0 | e0
           ·cases e0; exact ⟨.inl ⟨b, List.mem_cons_self, own_of g1 rfl⟩, hlt⟩
           ·obtain ⟨h0, h9⟩ := keys_ok hr hx hz hs e0
            rcases h0 with ⟨i, h1, h2⟩ | h1
            ·exact ⟨.inl ⟨i, List.mem_cons_of_mem _ h1, h2⟩, h9⟩
            ·exact ⟨.inr h1, h9⟩
         ·simp at hd; subst hd; exact own_mem g1 rfl
       | _ => exact g2.elim
      ·cases hl
     ·cases hl
    ·cases hl
   ·cases hl
  ·cases hl
 ·cases hl
end
end Pv
namespace Pv
open Go Tw
section
variable {X : Cod} {P : Program} {A F : Nat → Prop} {m m' : List MB} {h h' : List HB} {H H' : List (PB X.Γ)}
theorem VPs.allOne {ps : List (Nat × PV X.Γ)} {qs : List (Nat × TV)} (hp : VPs X P A m h ps qs) : qs.all (fun p => p.2.cells.all oneT) = ps.all fun p => p.2.cells.all oneP := by
 induction ps generalizing qs with
 | nil =>
  have := hp.1
  cases qs with
  | nil => rfl
  | cons => simp at this
 | cons a ps ih =>
  obtain ⟨x, r, rfl, h1, h2⟩ := hp.inv
  simp only [List.all_cons, allOne_VR (cells_VR h1), ih h2]
theorem fill_len {pl : Nat → Option (Nat × Nat)} : ∀ {qs : List (Nat × TV)} {xs r : List TV}, fillT pl xs qs = some r → r.length = xs.length
 | [], xs, r, h => by simp only [fillT, Option.some.injEq] at h; rw [h]
 | (i, v) :: qs, xs, r, h => by
  simp only [fillT] at h
  split at h
  ·split at h
   ·split at h
    ·rename_i cs' ho
     rw [fill_len h]
     unfold over at ho
     split at ho
     ·cases ho; simp only [List.length_append, List.length_take, List.length_drop]; omega
     ·cases ho
    ·cases h
   ·cases h
  ·cases h
theorem times_len {z : List TV} : ∀ n, (times z n).length = n * z.length
 | 0 => by simp [times]
 | n + 1 => by simp [times, times_len n, Nat.add_mul]; omega
theorem buildSlice_ok (hX : CodOk X P) {ps : PSt X.Γ} {ts : St} (hR : StR X P A m ps ts) {t : TypeId} {len : Nat} {vs : List (Nat × PV X.Γ)} {xs : List (Nat × TV)} (hv : VPs X P (AA A m) m ts.heap vs xs) {v : PV X.Γ} {H1 : List (PB X.Γ)}
  (hl : pbuildSlice X P t len ps.heap vs = some (v, H1)) : MemR X P A m ts ((buildSliceT P t len ts xs).map fun (v, s) => (v, s, noInf)) v H1 pi0 := by
 have hr := hR.heap
 unfold pbuildSlice at hl
 split at hl
 ·rename_i e n hse
  obtain ⟨hz, h0⟩ := sliceElem_size hse
  split at hl
  ·rename_i hc
   split at hl
   ·rename_i z hzz
    obtain ⟨z', q1, q2⟩ := zero_VR (A := AA A m) (m := m) (h := ts.heap) hzz
    split at hl
    ·rename_i hzl
     split at hl
     ·rename_i cs hf
      obtain ⟨cs', q3, q4⟩ := fill_VR hv (times_VR q2 len) hf
      have hlen : cs'.length = len * n := by rw [fill_len q3, times_len, ← q2.1, hzl]
      have hT : ∀ w h1, (w, h1) = (TV.slc ts.heap.length 0 len len n true, ts.heap ++ [HB.cells .own cs']) → (buildSliceT P t len ts xs).map (fun (v, s) => (v, s, noInf)) = some (w, { ts with heap := h1 }, noInf) := by
       intro w h1 e0; cases e0
       simp only [buildSliceT, hse, hv.allOne, hc, and_self, if_true, q1, ← q2.1, hzl, q3, Option.map_some]
      split at hl
      ·rename_i rows is hd
       cases hl
       obtain ⟨e1, hw⟩ := decRows_VR (m' := goneM is m) hX hr q4 hd
       by_cases hn : rows = []
       ·subst hn
        have e2 : len = 0 := by simpa using e1.symm
        subst e2
        have hcs : cs' = [] := List.length_eq_zero_iff.1 (by omega)
        subst hcs
        have hpush : HR X P A (goneM is m ++ [.lst (.slc ts.heap.length 0 0 0 n true)]) (goneAll is ps.heap ++ [.list true true e []]) (ts.heap ++ [.cells .own []]) ∧ _ := (hr.goneAll is).push (pb := .list true true e []) (hb := .cells .own []) (mb := .lst (.slc ts.heap.length 0 0 0 n true)) (.inr rfl)
         (LR.emp (b := ts.heap.length) (cs := []) ⟨hr.up _ (Nat.le_refl _), fun hm => by
          rw [blks_app, List.mem_append, blks_one] at hm
          simp [MB.own] at hm
          have := (hr.goneAll is).inb hm; omega⟩ (by simp [blkCells]) (Nat.le_refl _) hz h0)
        have hFU := fr_goneM (h := ts.heap) is m
        refine ⟨_, _, _, _, hT _ _ rfl, hpush.1, .own ?_ rfl, hFU.1.trans hpush.2.1, hFU.2.trans hpush.2.2, .none, fun b hb => by cases hb⟩
        rw [← hr.len, ← goneM_length is m]; simp
       ·have hpush := push_list hr is (k := true) (ex := true) (x := true) hw (by rw [hlen, e1]) hn hz h0 (by simp)
        obtain ⟨m1, g1, g2, g3, g4⟩ := hpush
        refine ⟨_, _, _, m1, hT _ _ rfl, g1, ?_, g2, g3, .none, fun b hb => by cases hb⟩
        rw [e1] at g4; exact g4
      ·cases hl
       have hp := hr.push (pb := .cells cs) (hb := .cells .own cs') (mb := .blk ts.heap.length) (.inl rfl) ⟨cs', by simp, q4.step (by
        refine ⟨by simp, fun b hb _ => by rw [List.getElem?_append_left hb], fun b hb => ?_, fun b cs hc => ⟨cs, by rw [blkCells_same (List.getElem?_append_left (blkCells_lt hc)), hc], Nat.le_refl _⟩⟩
        rw [blks_app, List.mem_append, blks_one] at hb
        rcases hb with hb | hb
        ·exact .inl hb
        ·simp [MB.own] at hb; exact .inr (by omega)) (up_app _)⟩
       exact ⟨_, _, _, _, hT _ _ rfl, hp.1, .slc (by rw [← hr.len]; simp), hp.2.1, hp.2.2, .none, fun b hb => by cases hb⟩
     ·cases hl
    ·cases hl
   ·cases hl
  ·cases hl
 ·cases hl
theorem int_VR {k : IntKind} {n : Int} {x : TV} (hv : VR X P A m h (.int k n) x) : x = .int k n := by
 cases hv with
 | int => rfl
 | gone hi _ _ => simp [idOf] at hi
theorem rep_rows {t sz : Nat} {a : X.Γ t} {z : List TV} (ha : VRs X P F m h (X.enc t a) z) (hz : z.length = sz) : ∀ n, RowsR X P F m h t (List.replicate n a) (times z n) 0 sz
 | 0 => ⟨fun j a hj => by simp at hj, by simp, fun j a i c v hj => by simp at hj⟩
 | n + 1 => by
  have h1 : RowsR X P F m h t [a] z 0 sz := by
   refine ⟨fun j b hj => ?_, by simp [hz], fun j b i c v hj hi hx => ?_⟩
   ·cases j with
    | zero => simp only [List.getElem?_cons_zero, Option.some.injEq] at hj; subst hj; rw [ha.1, hz]
    | succ j => simp at hj
   ·cases j with
    | zero => simp only [List.getElem?_cons_zero, Option.some.injEq] at hj; subst hj; exact ha.2 i c v hi (by simpa using hx)
    | succ j => simp at hj
  have := h1.app (rep_rows ha hz n) (by simp [hz])
  simpa [List.replicate_succ, times] using this
theorem makeSlice_ok (hX : CodOk X P) {ps : PSt X.Γ} {ts : St} (hR : StR X P A m ps ts) {t : TypeId} {l c : PV X.Γ} {tl tc : TV} (hvl : VR X P (AA A m) m ts.heap l tl) (hvc : VR X P (AA A m) m ts.heap c tc) {v : PV X.Γ} {H1 : List (PB X.Γ)} {qs : List Prop}
  (hl : pmakeSlice X P t ps.heap l c = some (v, H1, qs)) (hq : ∀ q ∈ qs, q) : MemR X P A m ts ((makeSliceT P t ts tl tc).map fun (v, s) => (v, s, noInf)) v H1 pi0 := by
 have hr := hR.heap
 unfold pmakeSlice at hl
 split at hl
 ·rename_i e n kl li kc ci hse
  obtain ⟨hz, h0⟩ := sliceElem_size hse
  rw [int_VR hvl, int_VR hvc]
  split at hl
  ·rename_i hbig
   split at hl
   ·rename_i z hzz
    obtain ⟨z', q1, q2⟩ := zero_VR (A := AA A m) (m := m) (h := ts.heap) hzz
    split at hl
    ·rename_i hzl
     split at hl
     ·rename_i a ha
      cases hl
      have e1 : li = ci := hq _ (by simp)
      have e2 : 0 ≤ li := hq _ (by simp)
      have e3 : li ≤ (most : Nat) := hq _ (by simp)
      subst e1
      have hm : li.toNat ≤ most := by omega
      have hm2 : most = 2 ^ 20 := rfl
      have hz2 : z'.length = n := by rw [← q2.1]; exact hzl
      have hT : ∀ w h1, (w, h1) = (TV.slc ts.heap.length 0 li.toNat li.toNat n true, ts.heap ++ [HB.cells .own (times z' li.toNat)]) → (makeSliceT P t ts (.int kl li) (.int kc li)).map (fun (v, s) => (v, s, noInf)) = some (w, { ts with heap := h1 }, noInf) := by
       intro w h1 e0; cases e0
       have hN : ∀ k, natT (.int k li) = some li.toNat := fun k => by
        have h9 : li ≤ 2 ^ 40 := by
         have : ((2 ^ 20 : Nat) : Int) ≤ 2 ^ 40 := by decide
         rw [hm2] at e3; omega
        simp only [natT]; rw [if_pos ⟨e2, h9⟩]
       simp only [makeSliceT, hse, hN, Nat.le_refl, true_and, bigRoom_le hbig hm, if_true, q1, hz2, Option.map_some]
      have hrow := rep_rows (m := m) (h := ts.heap) (F := AA A m) (hX.dec ha q2) hz2 li.toNat
      have hlen : (times z' li.toNat).length = li.toNat * n := by rw [times_len, hz2]
      by_cases hn : li.toNat = 0
      ·rw [hn] at hT ⊢
       simp only [List.replicate_zero]
       have hpush := hr.push (pb := .list true true e []) (hb := .cells .own (times z' 0)) (mb := .lst (.slc ts.heap.length 0 0 0 n true)) (.inr rfl)
         (LR.emp (b := ts.heap.length) (cs := times z' 0) ⟨hr.up _ (Nat.le_refl _), fun hm => by
          rw [blks_app, List.mem_append, blks_one] at hm
          simp [MB.own] at hm
          have := hr.inb hm; omega⟩ (by simp [blkCells]) (Nat.zero_le _) hz h0)
       exact ⟨_, _, _, _, hT _ _ rfl, hpush.1, .own (by rw [← hr.len]; simp) rfl, hpush.2.1, hpush.2.2, .none, fun b hb => by cases hb⟩
      ·obtain ⟨m1, g1, g2, g3, g4⟩ := push_list hr [] (k := true) (ex := true) (x := true) (rows := List.replicate li.toNat a) (hrow.mono fun b hb => .inl hb) (by rw [List.length_replicate]; exact hlen) (by intro e0; exact hn (by simpa using congrArg List.length e0)) hz h0 (by simp)
       refine ⟨_, _, _, m1, hT _ _ rfl, g1, ?_, g2, g3, .none, fun b hb => by cases hb⟩
       rw [List.length_replicate] at g4; exact g4
     ·cases hl
    ·cases hl
   ·cases hl
  ·cases hl
 ·cases hl
end
end Pv
namespace Pv
open Go Tw
section
variable {X : Cod} {P : Program} {A F : Nat → Prop} {m m' : List MB} {h h' : List HB} {H H' : List (PB X.Γ)}
theorem end_ok {o : Option (PV X.Γ)} {to : Option TV} (ho : OR X P A m h o to) {d n : Nat} {a : Int} (he : endP X d o = some a) (h0 : 0 ≤ a) (h1 : a ≤ n) : optB n d to = some a.toNat := by
 cases o with
 | none =>
  cases to with
  | none => simp only [endP, Option.some.injEq] at he; subst he; simp [optB]
  | some => exact ho.elim
 | some v =>
  cases to with
  | none => exact ho.elim
  | some x =>
   cases v <;> simp only [endP] at he <;> try (cases he; done)
   cases he
   rw [int_VR ho]
   simp only [optB, boundT]
   rw [if_pos ⟨h0, h1⟩]
theorem int_OR {k : IntKind} {n : Int} {to : Option TV} (ho : OR X P A m h (some (.int k n)) to) : to = some (.int k n) := by
 cases to with
 | none => exact ho.elim
 | some x => rw [int_VR ho]
theorem none_OR {to : Option TV} (ho : OR X P A m h none to) : to = none := by
 cases to with
 | none => rfl
 | some x => exact ho.elim
theorem some_OR {v : PV X.Γ} {to : Option TV} (ho : OR X P A m h (some v) to) : ∃ x, to = some x := by
 cases to with
 | none => exact ho.elim
 | some x => exact ⟨x, rfl⟩
theorem cut2 {t e : TypeId} {b off len cap sz : Nat} {ex : Bool} (hu : P.underlying t = some (.slice e)) (hz : sizeT P e = some sz) {lo hi : Option (PV X.Γ)} {tlo thi : Option TV} (h1 : OR X P A m h lo tlo) (h2 : OR X P A m h hi thi) {a z : Int} (e1 : endP X 0 lo = some a) (e2 : endP X len hi = some z)
  (q0 : 0 ≤ a) (q1 : a ≤ z) (q2 : z ≤ len) : sliceT P t (.slc b off len cap sz ex) tlo thi none = some (.slc b (off + a.toNat * sz) (z.toNat - a.toNat) (cap - a.toNat) sz ex) := by
 have g1 := end_ok h1 e1 (n := z.toNat) q0 (by omega)
 have g2 := end_ok h2 e2 (n := len) (by omega) q2
 simp only [sliceT, hu, hz, if_true, g2, g1]
theorem cut3 {t e : TypeId} {b off len cap sz : Nat} {ex : Bool} (hu : P.underlying t = some (.slice e)) (hz : sizeT P e = some sz) {lo hi : Option (PV X.Γ)} {tlo thi : Option TV} (h1 : OR X P A m h lo tlo) (h2 : OR X P A m h hi thi) {a z : Int} (e1 : endP X 0 lo = some a) (e2 : endP X len hi = some z) (hs : hi.isSome)
  (q0 : 0 ≤ a) (q1 : a ≤ z) (q2 : z ≤ len) (hcap : len ≤ cap) {k : IntKind} : sliceT P t (.slc b off len cap sz ex) tlo thi (some (.int k z)) = some (.slc b (off + a.toNat * sz) (z.toNat - a.toNat) (z.toNat - a.toNat) sz true) := by
 have g1 := end_ok h1 e1 (n := z.toNat) q0 (by omega)
 obtain ⟨hv, rfl⟩ := Option.isSome_iff_exists.1 hs
 obtain ⟨x, rfl⟩ := some_OR h2
 have g3 : boundT cap (.int k z) = some z.toNat := by simp only [boundT]; rw [if_pos (by omega)]
 have g2 : boundT (min z.toNat len) x = some z.toNat := by
  cases hv <;> simp only [endP] at e2 <;> try (cases e2; done)
  cases e2
  rw [int_VR (show VR X P A m h _ x from h2)]
  simp only [boundT]; rw [if_pos (by omega)]
 simp only [sliceT, hu, hz, if_true, g3, g2, g1]
theorem cutN {t e : TypeId} {sz : Nat} (hu : P.underlying t = some (.slice e)) (hz : sizeT P e = some sz) {lo hi : Option (PV X.Γ)} {tlo thi : Option TV} (h1 : OR X P A m h lo tlo) (h2 : OR X P A m h hi thi) {a z : Int} (e1 : endP X 0 lo = some a) (e2 : endP X 0 hi = some z) (q0 : a = 0) (q1 : z = 0) :
  sliceT P t (.nil .slc) tlo thi none = some (.nil .slc) ∧ ∀ {k : IntKind}, hi.isSome → sliceT P t (.nil .slc) tlo thi (some (.int k 0)) = some (.nil .slc) := by
 subst q0; subst q1
 have g1 := end_ok h1 e1 (n := 0) (by omega) (by omega)
 have g2 := end_ok h2 e2 (n := 0) (by omega) (by omega)
 have g0 : optB 0 0 none = some 0 := rfl
 refine ⟨by simp only [sliceT, hu, hz, g0, g1, g2]; rfl, fun {k} hs => ?_⟩
 obtain ⟨hv, rfl⟩ := Option.isSome_iff_exists.1 hs
 obtain ⟨x, rfl⟩ := some_OR h2
 have g3 : optB 0 0 (some (.int k 0)) = some 0 := rfl
 simp only [sliceT, hu, hz, g1, g2, g3] ; rfl
theorem slice_ok {ps : PSt X.Γ} {ts : St} (hR : StR X P A m ps ts) {t : TypeId} {x : PV X.Γ} {tx : TV} (hx : VR X P (AA A m) m ts.heap x tx) {lo hi mx : Option (PV X.Γ)} {tlo thi tmx : Option TV} (h1 : OR X P (AA A m) m ts.heap lo tlo) (h2 : OR X P (AA A m) m ts.heap hi thi) (h3 : OR X P (AA A m) m ts.heap mx tmx) {v : PV X.Γ} {qs : List Prop}
  (hl : pslice X P t ps.heap x lo hi mx = some (v, qs)) (hq : ∀ q ∈ qs, q) : ∃ w, sliceT P t tx tlo thi tmx = some w ∧ VR X P (AA A m) m ts.heap v w := by
 have hr := hR.heap
 unfold pslice at hl
 split at hl
 ·rename_i e t' l fu hu
  split at hl
  ·rename_i n a z hz e1 e2
   split at hl
   ·rename_i ht
    subst ht
    cases hl
    have q0 : 0 ≤ a := hq _ (by simp)
    have q1 : a ≤ z := hq _ (by simp)
    have q2 : z ≤ (l.length : Nat) := hq _ (by simp)
    rw [none_OR h3, List.drop_take]
    cases hx with
    | lstN =>
     have ea : a = 0 := by simp at q2; omega
     have ez : z = 0 := by simp at q2; omega
     exact ⟨_, (cutN hu hz h1 h2 e1 e2 ea ez).1, by simp only [List.drop_nil, List.take_nil]; exact .lstN⟩
    | lst p1 p2 p2' p3 p4 p5 p6 p7 p8 p9 =>
     rw [hz] at p3; cases p3
     exact ⟨_, cut2 hu hz h1 h2 e1 e2 q0 q1 q2, (VR.lst p1 p2 p2' hz p4 p5 p6 p7 p8 p9).part (by omega) (by omega) (.inr (by omega)) (by simp)⟩
    | gone hi _ _ => simp [idOf] at hi
   ·cases hl
  ·rename_i n a z k mv hz e1 e2
   split at hl
   ·rename_i ht
    obtain ⟨ht, hsome⟩ := ht
    subst ht
    cases hl
    have q0 : 0 ≤ a := hq _ (by simp)
    have q1 : a ≤ z := hq _ (by simp)
    have q2 : z ≤ (l.length : Nat) := hq _ (by simp)
    have q3 : mv = z := hq _ (by simp)
    have q4 : a = z := hq _ (by simp)
    subst q3
    rw [int_OR h3, List.drop_take]
    cases hx with
    | lstN =>
     have ea : a = 0 := by simp at q2; omega
     have ez : mv = 0 := by simp at q2; omega
     have := (cutN hu hz h1 h2 e1 e2 ea ez).2 (k := k) hsome
     rw [← ez] at this
     exact ⟨_, this, by simp only [List.drop_nil, List.take_nil]; exact .lstN⟩
    | lst p1 p2 p2' p3 p4 p5 p6 p7 p8 p9 =>
     rw [hz] at p3; cases p3
     exact ⟨_, cut3 hu hz h1 h2 e1 e2 hsome q0 q1 q2 p6, (VR.lst p1 p2 p2' hz p4 p5 p6 p7 p8 p9).part (by omega) (by omega) (.inl (by omega)) (by simp)⟩
    | gone hi _ _ => simp [idOf] at hi
   ·cases hl
  ·cases hl
 ·rename_i e i hu
  split at hl
  ·rename_i kk ex t' l hb
   obtain ⟨mb, g1, g2⟩ := hr.at_ i _ hb
   cases mb with
   | lst y =>
    cases hx with
    | gone hi e' _ => simp only [idOf, Option.some.injEq] at hi; subst hi; rw [g1] at e'; cases e'
    | own e' o =>
     rw [g1] at e'; cases e'
     have hlr : LR X P (AA A m) m ts.heap kk ex t' l tx := g2
     split at hl
     ·rename_i n a z hz e1 e2
      split at hl
      ·rename_i ht
       subst ht
       cases hl
       have q0 : 0 ≤ a := hq _ (by simp)
       have q1 : a ≤ z := hq _ (by simp)
       have q2 : z ≤ (l.length : Nat) := hq _ (by simp)
       rw [none_OR h3]
       cases hlr with
       | nil =>
        have ea : a = 0 := by simp at q2; omega
        have ez : z = 0 := by simp at q2; omega
        refine ⟨_, (cutN hu hz h1 h2 e1 e2 ea ez).1, ?_⟩
        subst ea; subst ez; exact .winN g1
       | emp p0 p1 p2 p3 p4 =>
        rw [hz] at p3; cases p3
        exact ⟨_, cut2 (len := 0) hu hz h1 h2 e1 e2 q0 q1 q2, .win g1 (by simp at q2; omega) (by simp at q2; omega) (.inl (by simp at q2; omega))⟩
       | some p1 p2 p3 p4 p5 p6 p7 p8 p9 =>
        rw [hz] at p2; cases p2
        exact ⟨_, cut2 hu hz h1 h2 e1 e2 q0 q1 q2, .win g1 (by omega) (by omega) (.inr (by omega))⟩
      ·cases hl
     ·rename_i n a z k mv hz e1 e2
      split at hl
      ·rename_i ht
       obtain ⟨ht, hsome⟩ := ht
       subst ht
       cases hl
       have q0 : 0 ≤ a := hq _ (by simp)
       have q1 : a ≤ z := hq _ (by simp)
       have q2 : z ≤ (l.length : Nat) := hq _ (by simp)
       have q3 : mv = z := hq _ (by simp)
       have q4 : a = z := hq _ (by simp)
       subst q3
       rw [int_OR h3]
       cases hlr with
       | nil =>
        have ea : a = 0 := by simp at q2; omega
        have ez : mv = 0 := by simp at q2; omega
        have := (cutN hu hz h1 h2 e1 e2 ea ez).2 (k := k) hsome
        rw [← ez] at this
        refine ⟨_, this, ?_⟩
        subst ea; subst ez; exact .winN g1
       | emp p0 p1 p2 p3 p4 =>
        rw [hz] at p3; cases p3
        exact ⟨_, cut3 (len := 0) hu hz h1 h2 e1 e2 hsome q0 q1 q2 (Nat.le_refl _), .win g1 (by simp at q2; omega) (by omega) (.inl (by omega))⟩
       | some p1 p2 p3 p4 p5 p6 p7 p8 p9 =>
        rw [hz] at p2; cases p2
        exact ⟨_, cut3 hu hz h1 h2 e1 e2 hsome q0 q1 q2 (Nat.le_refl _), .win g1 (by omega) (by omega) (.inl (by omega))⟩
      ·cases hl
     ·cases hl
   | _ => exact g2.elim
  ·cases hl
 ·rename_i e hu
  have : tx = .nil .slc := by
   cases hx with
   | nil => rfl
   | gone hi _ _ => simp [idOf] at hi
  subst this
  split at hl
  ·rename_i n a z hz e1 e2
   cases hl
   have q0 : a = 0 := hq _ (by simp)
   have q1 : z = 0 := hq _ (by simp)
   rw [none_OR h3]
   exact ⟨_, (cutN hu hz h1 h2 e1 e2 q0 q1).1, .nil _⟩
  ·rename_i n a z k mv hz e1 e2
   split at hl
   ·rename_i hsome
    cases hl
    have q0 : a = 0 := hq _ (by simp)
    have q1 : z = 0 := hq _ (by simp)
    have q2 : mv = 0 := hq _ (by simp)
    subst q2
    rw [int_OR h3]
    exact ⟨_, (cutN hu hz h1 h2 e1 e2 q0 q1).2 hsome, .nil _⟩
   ·cases hl
  ·cases hl
 ·cases hl
theorem sliceArr_ok (hX : CodOk X P) {ps : PSt X.Γ} {ts : St} (hR : StR X P A m ps ts) {t : TypeId} {x : PE X.Γ} {ex : EV} (hx : PER X P (AA A m) m ts.heap x ex) {lo hi mx : Option (PV X.Γ)} {tlo thi tmx : Option TV} (h1 : OR X P (AA A m) m ts.heap lo tlo) (h2 : OR X P (AA A m) m ts.heap hi thi) (h3 : OR X P (AA A m) m ts.heap mx tmx) {v : PV X.Γ} {H1 : List (PB X.Γ)} {qs : List Prop}
  (hl : psliceArr X P t ps.heap x lo hi mx = some (v, H1, qs)) (hq : ∀ q ∈ qs, q) : MemR X P A m ts ((sliceArrT P t ex tlo thi tmx).map fun v => (v, ts, noInf)) v H1 pi0 := by
 have hr := hR.heap
 unfold psliceArr at hl
 split at hl
 ·rename_i n e b off lim hu
  split at hl
  ·rename_i size hz
   split at hl
   ·cases hl
   ·rename_i hlim
    split at hl
    ·cases hl
    ·rw [none_OR h3]
     obtain ⟨y, rfl, hy⟩ := per_val hx
     split at hl
     ·split at hl
      ·rename_i cs hb
       cases hl
       rw [none_OR h1, none_OR h2]
       obtain ⟨mb, g1, g2⟩ := hr.at_ b _ hb
       cases mb with
       | blk c =>
        cases hy with
        | gone hi e' _ => simp only [idOf, Option.some.injEq] at hi; subst hi; rw [g1] at e'; cases e'
        | ptr e' =>
         rw [g1] at e'; cases e'
         exact ⟨.slc c off n n size true, ts.heap, noInf, m, by simp [sliceArrT, hu, hz, hlim, optB], hr, .slc g1, .refl, .refl, .none, fun d hd => by cases hd⟩
       | _ => exact g2.elim
      ·cases hl
     ·rename_i lo' hi' _
      split at hl
      ·rename_i cs a z hb e1 e2
       split at hl
       ·cases hl
       rename_i hoff
       split at hl
       ·rename_i rows is hd
        cases hl
        have q0 : 0 ≤ a := hq _ (by simp)
        have q1 : a ≤ z := hq _ (by simp)
        have q2 : z ≤ (n : Nat) := hq _ (by simp)
        obtain ⟨mb, g1, g2⟩ := hr.at_ b _ hb
        cases mb with
        | blk c =>
         obtain ⟨cs', g3, g4⟩ := g2
         cases hy with
         | gone hi e' _ => simp only [idOf, Option.some.injEq] at hi; subst hi; rw [g1] at e'; cases e'
         | ptr e' =>
          rw [g1] at e'; cases e'
          have f1 := end_ok h1 e1 (n := z.toNat) q0 (by omega)
          have f2 := end_ok h2 e2 (n := n) (by omega) q2
          obtain ⟨w1, w2⟩ := decRows_VR (m' := goneM (b :: is) m) hX hr (g4.drop off) hd
          have w3 := w2.2.1
          rw [List.length_drop] at w3
          have hgo := hr.goneAll (b :: is)
          have hFU := fr_goneM (h := ts.heap) (b :: is) m
          have hnc : AA A (goneM (b :: is) m) c := by
           refine FA.gone hr (.inr ⟨b, _, List.mem_cons_self, g1, rfl⟩)
          refine ⟨.slc c (off + a.toNat * size) (z.toNat - a.toNat) (n - a.toNat) size true, ts.heap, noInf, goneM (b :: is) m, ?_, hgo, ?_, hFU.1, hFU.2, .none, fun d hd => by cases hd⟩
          ·have f0 : optB n n none = some n := rfl
           simp only [sliceArrT, hu, hz, hlim, if_false, f0, f2, f1, Option.isSome_none, Bool.false_and, Bool.false_eq_true, Option.map_some]
          ·rw [List.drop_take]
           have hbase : VR X P (AA A (goneM (b :: is) m)) (goneM (b :: is) m) ts.heap (.lst e rows false) (.slc c off rows.length n size true) := by
            refine .lst hnc (by unfold blkCells; rw [g3]) (fun _ => blkLim_own g3 (by simp)) hz (by omega) ?_ (by omega) (by simp) w2.1 (fun j y i d v hj hi hx => ?_)
            ·rw [w1, ← g4.1]; omega
            ·refine (w2.2.2 j y i d v hj hi ?_).mono fun q hq => FA.gone hr (FA.mono (fun i hi => List.mem_cons_of_mem _ hi) hq)
             rw [List.getElem?_drop, ← hx]; congr 1; omega
           exact hbase.part (by omega) (by omega) (.inr (by omega)) (by simp)
        | _ => exact g2.elim
       ·cases hl
      ·cases hl
  ·cases hl
 ·cases hl
theorem sliceArrW_ok {ps : PSt X.Γ} {ts : St} (hR : StR X P A m ps ts) {t : TypeId} {x : PE X.Γ} {ex : EV} (hx : PER X P (AA A m) m ts.heap x ex) {lo hi : Option (PV X.Γ)} {tlo thi tmx : Option TV} (h1 : OR X P (AA A m) m ts.heap lo tlo) (h2 : OR X P (AA A m) m ts.heap hi thi) (h3 : OR X P (AA A m) m ts.heap none tmx) {v : PV X.Γ}
  (hl : psliceArrW X P t ps.heap x lo hi = some v) : MemR X P A m ts ((sliceArrT P t ex tlo thi tmx).map fun v => (v, ts, noInf)) v ps.heap pi0 := by
 have hr := hR.heap
 unfold psliceArrW at hl
 split at hl
 ·rename_i n e b off lim hu
  split at hl
  ·rename_i size cs a z hz hb e1 e2
   split at hl
   ·cases hl
   ·rename_i hlim
    split at hl
    ·rename_i hq
     cases hl
     rw [none_OR h3]
     obtain ⟨y, rfl, hy⟩ := per_val hx
     obtain ⟨mb, g1, g2⟩ := hr.at_ b _ hb
     cases mb with
     | blk c =>
      cases hy with
      | gone hi e' _ => simp only [idOf, Option.some.injEq] at hi; subst hi; rw [g1] at e'; cases e'
      | ptr e' =>
       rw [g1] at e'; cases e'
       have f1 := end_ok h1 e1 (n := z.toNat) hq.1 (by omega)
       have f2 := end_ok h2 e2 (n := n) (by omega) hq.2.2
       refine ⟨.slc c (off + a.toNat * size) (z.toNat - a.toNat) (n - a.toNat) size true, ts.heap, noInf, m, ?_, hr, .slc g1, .refl, .refl, .none, fun d hd => by cases hd⟩
       have f0 : optB n n none = some n := rfl
       simp only [sliceArrT, hu, hz, hlim, if_false, f0, f2, f1, Option.isSome_none, Bool.false_and, Bool.false_eq_true, Option.map_some]
     | _ => exact g2.elim
    ·cases hl
  ·cases hl
 ·cases hl
end
end Pv
namespace Pv
open Go Tw
section
variable {X : Cod} {P : Program} {A B F : Nat → Prop} {m m' : List MB} {h h' : List HB} {H H' : List (PB X.Γ)}
theorem hasLs_get : ∀ {vs : List (PV X.Γ)} {i : Nat} {v : PV X.Γ}, hasL.hasLs vs = false → vs[i]? = some v → hasL v = false
 | [], _, _, _, h => by simp at h
 | a :: vs, i, v, hc, h => by
  simp only [hasL.hasLs, Bool.or_eq_false_iff] at hc
  cases i with
  | zero => simp only [List.getElem?_cons_zero, Option.some.injEq] at h; subst h; exact hc.1
  | succ i => exact hasLs_get hc.2 (by simpa using h)
theorem shifts_get {k : Nat} : ∀ {vs : List (PV X.Γ)} {i : Nat} {v : PV X.Γ}, (shift.shifts k vs)[i]? = some v → ∃ u, vs[i]? = some u ∧ v = shift k u
 | [], _, _, h => by simp [shift.shifts] at h
 | a :: vs, i, v, h => by
  cases i with
  | zero => simp only [shift.shifts, List.getElem?_cons_zero, Option.some.injEq] at h; exact ⟨a, rfl, h.symm⟩
  | succ i => obtain ⟨u, h1, h2⟩ := shifts_get (vs := vs) (i := i) (by simpa [shift.shifts] using h); exact ⟨u, by simpa using h1, h2⟩
theorem shifts_len {k : Nat} : ∀ {vs : List (PV X.Γ)}, (shift.shifts k vs).length = vs.length
 | [] => rfl
 | a :: vs => by simp [shift.shifts, shifts_len (vs := vs)]
theorem idOf_shift {k i : Nat} {v : PV X.Γ} (h : idOf v = some i) : idOf (shift k v) = some (i + k) := by
 cases v <;> simp [idOf] at h <;> subst h <;> rfl
theorem VR.shift (hX : CodOk X P) {m0 : List MB} {v : PV X.Γ} {x : TV} (hv : VR X P A m h v x) (hq : (∀ b, A b → B b) ∨ hasL v = false) : VR X P B (m0 ++ m) h (Pv.shift m0.length v) x := by
 have at' : ∀ {i : Nat} {mb : MB}, m[i]? = some mb → (m0 ++ m)[i + m0.length]? = some mb := by
  intro i mb hi
  rw [List.getElem?_append_right (by omega)]
  simpa using hi
 induction hv with
 | bool => exact .bool _
 | lit => exact .lit _
 | int => exact .int _ _
 | str => exact .str _
 | nil => exact .nil _
 | ptr e => exact .ptr (at' e)
 | slc e => exact .slc (at' e)
 | own e o => exact .own (at' e) o
 | win e q q' q2 => exact .win (at' e) q q' q2
 | winN e => exact .winN (at' e)
 | map e => exact .map (at' e)
 | fn h1 _ h3 _ i2 i4 =>
  refine .fn (by rw [shifts_len, h1]) (fun i x y hx hy => ?_) (by rw [shifts_len, h3]) (fun i x y hx hy => ?_)
  ·obtain ⟨u, g1, rfl⟩ := shifts_get hx
   exact i2 i u y g1 hy (hq.imp_right fun hq => by simp only [hasL, Bool.or_eq_false_iff] at hq; exact hasLs_get hq.1 g1)
  ·obtain ⟨u, g1, rfl⟩ := shifts_get hx
   exact i4 i u y g1 hy (hq.imp_right fun hq => by simp only [hasL, Bool.or_eq_false_iff] at hq; exact hasLs_get hq.2 g1)
 | yld e => exact .yld (at' e)
 | agg h1 _ i2 =>
  refine .agg (by rw [shifts_len, h1]) (fun i x y hx hy => ?_)
  obtain ⟨u, g1, rfl⟩ := shifts_get hx
  exact i2 i u y g1 hy (hq.imp_right fun hq => by simp only [hasL] at hq; exact hasLs_get hq g1)
 | tup h1 _ i2 =>
  refine .tup (by rw [shifts_len, h1]) (fun i x y hx hy => ?_)
  obtain ⟨u, g1, rfl⟩ := shifts_get hx
  exact i2 i u y g1 hy (hq.imp_right fun hq => by simp only [hasL] at hq; exact hasLs_get hq g1)
 | lstN => exact .lstN
 | lst a c c2 s z o k f e r _ =>
  rcases hq with hq | hq
  ·exact .lst (hq _ a) c c2 s z o k f e fun j y i d v h1 h2 h3 => ((r j y i d v h1 h2 h3).mono hq).clos hX (closs_get (hX.clos _ _) h2)
  ·simp [hasL] at hq
 | el a c l o e q r _ =>
  rcases hq with hq | hq
  ·exact .el (hq _ a) c l o e q fun i d v h1 h2 => ((r i d v h1 h2).mono hq).clos hX (closs_get (hX.clos _ _) h1)
  ·simp [hasL] at hq
 | row e j q => exact .row (at' e) j q
 | @gone v i x hi e o =>
  have e' : (m0 ++ m)[i + m0.length]? = m[i]? := by rw [List.getElem?_append_right (by omega)]; congr 1; omega
  exact .gone (idOf_shift hi) (by rw [e']; exact e.as fun c => by cases v <;> rfl) o
theorem VRs.shift (hX : CodOk X P) {m0 : List MB} {v : List (PV X.Γ)} {x : List TV} (hv : VRs X P A m h v x) (hq : (∀ b, A b → B b) ∨ hasL.hasLs v = false) : VRs X P B (m0 ++ m) h (Pv.shift.shifts m0.length v) x := by
 refine ⟨by rw [shifts_len, hv.1], fun i a b ha hb => ?_⟩
 obtain ⟨u, g1, rfl⟩ := shifts_get ha
 exact (hv.2 i u b g1 hb).shift hX (hq.imp_right fun hq => hasLs_get hq g1)
theorem BR.shift (hX : CodOk X P) {m0 : List MB} {b b' : PB X.Γ} {mb : MB} (hb : BR X P A m h b mb) (hs : shiftB X m0.length b = some b') (hq : (∀ c, A c → B c) ∨ hasB X b = false) : BR X P B (m0 ++ m) h b' mb := by
 cases b with
 | cells cs =>
  cases mb with
  | blk c =>
   simp only [shiftB, Option.some.injEq] at hs; subst hs
   obtain ⟨cs', h1, h2⟩ := hb
   exact ⟨cs', h1, h2.shift hX hq⟩
  | _ => exact hb.elim
 | list k ex t l =>
  cases mb with
  | lst y =>
   simp only [shiftB, Option.some.injEq] at hs; subst hs
   rcases hq with hq | hq
   ·cases (hb : LR X P A m h k ex t l y) with
    | nil => exact LR.nil
    | emp p0 p1 p2 p3 p4 => exact LR.emp (hq _ p0) p1 p2 p3 p4
    | some p1 p2 p3 p4 p5 p6 p7 p8 p9 => exact LR.some p1 p2 p3 p4 p5 p6 p7 p8 ((p9.mono hq).clos hX)
   ·simp [hasB] at hq
  | _ => exact hb.elim
 | gone =>
  cases mb with
  | gone => simp only [shiftB, Option.some.injEq] at hs; subst hs; trivial
  | _ => exact hb.elim
 | _ => simp [shiftB] at hs
theorem shiftBs_get {k : Nat} : ∀ {bs bs' : List (PB X.Γ)} {i : Nat} {b' : PB X.Γ}, shiftBs X k bs = some bs' → bs'[i]? = some b' → ∃ b, bs[i]? = some b ∧ shiftB X k b = some b'
 | [], bs', i, b', h, hi => by simp only [shiftBs, Option.some.injEq] at h; subst h; simp at hi
 | b :: bs, bs', i, b', h, hi => by
  simp only [shiftBs] at h
  split at h
  ·rename_i c cs h1 h2
   cases h
   cases i with
   | zero => simp only [List.getElem?_cons_zero, Option.some.injEq] at hi; subst hi; exact ⟨b, rfl, h1⟩
   | succ i => obtain ⟨d, g1, g2⟩ := shiftBs_get h2 (i := i) (by simpa using hi); exact ⟨d, by simpa using g1, g2⟩
  ·cases h
theorem shiftBs_len {k : Nat} : ∀ {bs bs' : List (PB X.Γ)}, shiftBs X k bs = some bs' → bs'.length = bs.length
 | [], bs', h => by simp only [shiftBs, Option.some.injEq] at h; subst h; rfl
 | b :: bs, bs', h => by
  simp only [shiftBs] at h
  split at h
  ·rename_i c cs h1 h2
   cases h; simp [shiftBs_len h2]
  ·cases h
def Con (X : Cod) (P : Program) (call : CallT) (f : FuncId) (vs : List (PV X.Γ)) (v : PV X.Γ) (ext : List (PB X.Γ)) : Prop :=
 ∀ (A : Nat → Prop) (h : List HB) (first args cap : List TV), (∀ b, h.length ≤ b → A b) → VRs X P A [] h vs (first ++ args ++ cap) →
  ∃ w h' m', call (.fn f first cap) args h = some (w, h', []) ∧ HR X P A m' ext h' ∧ VR X P (AA A m') m' h' v w ∧ Fr [] h m' h'
theorem con_use (hX : CodOk X P) {call : CallT} {f : FuncId} {first xs cap vs : List (PV X.Γ)} {v : PV X.Γ} {ext ext' : List (PB X.Γ)} (hc : Con X P call f vs v ext) (hr : HR X P A m H h) (hv : views H (first ++ xs ++ cap) = some vs) (hs : shiftBs X H.length ext = some ext')
  {t1 t2 t3 : List TV} (h1 : VRs X P (AA A m) m h first t1) (h2 : VRs X P (AA A m) m h xs t2) (h3 : VRs X P (AA A m) m h cap t3) :
  ∃ w h' m1, call (.fn f t1 t3) t2 h = some (w, h', []) ∧ HR X P A m1 ((if hasL v || ext.any (hasB X) then goneAll (owns.ownss (first ++ xs ++ cap)) H else H) ++ ext') h' ∧ VR X P (AA A m1) m1 h' (shift H.length v) w ∧ Fr m h m1 h' ∧ Up m m1 := by
 have hvs := views_VR (m' := []) hX hr ((h1.app h2).app h3) hv (is := owns.ownss (first ++ xs ++ cap)) fun i hi => hi
 generalize owns.ownss (first ++ xs ++ cap) = is at hvs ⊢
 obtain ⟨w, h', m', c1, c2, c3, c4⟩ := hc (fun b => FA A m is b ∨ h.length ≤ b) h t1 t2 t3 (fun b hb => .inr hb) (hvs.mono fun b hb => .inl hb)
 have hold : ∀ b, b < h.length → h'[b]? = h[b]? := fun b hb => c4.same b hb (by simp [blks])
 have hnew : ∀ b, b ∈ blks m' → h.length ≤ b := fun b hb => by
  rcases c4.new b hb with h0 | h0
  ·simp [blks] at h0
  ·exact h0
 have key : ∀ (m0 : List MB) (H0 : List (PB X.Γ)), HR X P A m0 H0 h → Fr m h m0 h → Up m m0 → m0.length = H.length → ((∀ b, FA A m is b → AA A m0 b) ∨ (hasL v || ext.any (hasB X)) = false) →
   ∃ m1, HR X P A m1 (H0 ++ ext') h' ∧ VR X P (AA A m1) m1 h' (shift H.length v) w ∧ Fr m h m1 h' ∧ Up m m1 := by
  intro m0 H0 hr0 hF0 hU0 hl0 hq
  have hF : Fr m0 h (m0 ++ m') h' := by
   refine ⟨c4.len, fun b hb _ => hold b hb, fun b hb => ?_, fun b cs hc => ⟨cs, by rw [blkCells_same (hold b (blkCells_lt hc)), hc], Nat.le_refl _⟩⟩
   rw [blks_app, List.mem_append] at hb
   exact hb.imp_right fun hb => hnew b hb
  have hA : (∀ b, AA (fun b => FA A m is b ∨ h.length ≤ b) m' b → AA A (m0 ++ m') b) ∨ (hasL v || ext.any (hasB X)) = false := by
   refine hq.imp_left fun hq b hb => ?_
   refine ⟨?_, fun hm => ?_⟩
   ·rcases hb.1 with h0 | h0
    ·exact (hq b h0).1
    ·exact hr.up b h0
   ·rw [blks_app, List.mem_append] at hm
    rcases hm with hm | hm
    ·rcases hb.1 with h0 | h0
     ·exact (hq b h0).2 hm
     ·have := hr0.inb hm; omega
    ·exact hb.2 hm
  refine ⟨m0 ++ m', ?_, ?_, hF0.trans hF, hU0.trans (up_app _)⟩
  ·refine hr0.next hF (up_app _) (by rw [List.length_append, List.length_append, hr0.len, shiftBs_len hs, c2.len]) ?_ fun i b hi => ?_
   ·rw [blks_app]
    refine List.nodup_append.2 ⟨hr0.nodup, c2.nodup, fun a ha b hb e => ?_⟩
    subst e
    have := hr0.inb ha
    have := hnew a hb
    omega
   ·rcases Nat.lt_or_ge i H0.length with hlt | hge
    ·left
     rw [List.getElem?_append_left hlt] at hi
     obtain ⟨mb, g1, g2⟩ := hr0.at_ i b hi
     exact ⟨mb, hi, g1, by rw [List.getElem?_append_left (by rw [hr0.len]; exact hlt)]; exact g1, fun c hc => hold c (g2.has hc)⟩
    ·right
     rw [List.getElem?_append_right hge] at hi
     obtain ⟨b0, g1, g2⟩ := shiftBs_get hs hi
     obtain ⟨mb, g3, g4⟩ := c2.at_ _ _ g1
     refine ⟨mb, by rw [List.getElem?_append_right (by rw [hr0.len]; exact hge), hr0.len]; exact g3, ?_⟩
     rw [← hl0] at g2
     refine g4.shift hX g2 (hA.imp_right fun hq => ?_)
     simp only [Bool.or_eq_false_iff, List.any_eq_false] at hq
     simpa using hq.2 b0 (List.mem_of_getElem? g1)
  ·rw [← hl0]
   exact c3.shift hX (hA.imp_right fun hq => by simp only [Bool.or_eq_false_iff] at hq; exact hq.1)
 refine ⟨w, h', ?_⟩
 by_cases hL : (hasL v || ext.any (hasB X)) = true
 ·rw [if_pos hL]
  obtain ⟨m1, e1, e2, e3, e4⟩ := key (goneM is m) (goneAll is H) (hr.goneAll is) (fr_goneM (h := h) is m).1 (fr_goneM (h := h) is m).2 (by rw [goneM_length, hr.len]) (.inl fun b hb => hb.gone hr)
  exact ⟨m1, c1, e1, e2, e3, e4⟩
 ·rw [if_neg hL]
  obtain ⟨m1, e1, e2, e3, e4⟩ := key m H hr .refl .refl hr.len (.inr (by simpa using hL))
  exact ⟨m1, c1, e1, e2, e3, e4⟩
end
end Pv
namespace Pv
open Go Tw
section
variable {X : Cod} {P : Program} {A B F : Nat → Prop} {m m' : List MB} {h h' : List HB} {H H' : List (PB X.Γ)}
def Sim (X : Cod) (P : Program) (call : CallT) : SimT X.Γ := fun fv xs H v H1 =>
 ∀ (A : Nat → Prop) (m : List MB) (h : List HB) (tf : TV) (txs : List TV), HR X P A m H h → VR X P (AA A m) m h fv tf → VRs X P (AA A m) m h xs txs →
  ∃ w h1 ws m1, call tf txs h = some (w, h1, ws) ∧ HR X P A m1 H1 h1 ∧ VR X P (AA A m1) m1 h1 v w ∧ Fr m h m1 h1 ∧ Up m m1 ∧ ∀ b ∈ ws, b ∈ blks m
def OrcOk (X : Cod) (P : Program) (call : CallT) (orc : Orc X.Γ) : Prop := ∀ f vs v ext ps, orc f vs = some (v, ext, ps) → (∀ p ∈ ps, p) → Con X P call f vs v ext
theorem owe_ends {ρ : Type} {y : ρ} : ∀ {ps : List Prop} {x : OT ρ}, (owe ps x).Ends y → (∀ p ∈ ps, p) ∧ x.Ends y
 | [], x, h => ⟨by simp, h⟩
 | p :: ps, x, h => by
  have := owe_ends h.2
  exact ⟨fun q hq => by rcases List.mem_cons.1 hq with rfl | hq; exact h.1; exact this.1 q hq, this.2⟩
theorem byB_ok {ρ : Type} {y : ρ} {u : PV X.Γ} {an : PT X.Γ} {k : Bool → PT X.Γ → OT ρ} (hk : (byB X u an k).Ends y) {tu : TV} (hu : VR X P A m h u tu) : ∃ t an', tu = .bool t ∧ (k t an').Ends y := by
 cases u with
 | lit b =>
  have : tu = .bool b := by
   cases hu with
   | lit => rfl
   | gone hi _ _ => simp [idOf] at hi
  exact ⟨b, an, this, hk⟩
 | bool b =>
  have hb : tu = .bool b := by
   cases hu with
   | bool => rfl
   | gone hi _ _ => simp [idOf] at hi
  subst hb
  cases an with
  | s x z =>
   rcases hk with ⟨h1, h2⟩ | ⟨h1, h2⟩
   ·subst h1; exact ⟨true, x, rfl, h2⟩
   ·subst h1; exact ⟨false, z, rfl, h2⟩
  | a x r =>
   cases x with
   | br t => obtain ⟨h1, h2⟩ := hk; subst h1; exact ⟨_, r, rfl, h2⟩
   | _ => exact hk.elim
  | _ => exact hk.elim
 | _ => exact hk.elim
theorem pkeys_eq : ∀ {es : List (PV X.Γ × PV X.Γ)} {es' : List (TV × TV)} {ks : List TV}, es.length = es'.length → (∀ (i : Nat) x y, es[i]? = some x → es'[i]? = some y → VR X P A m h x.1 y.1 ∧ VR X P A m h x.2 y.2) → pkeys X es = some ks → es'.map (·.1) = ks
 | [], es', ks, hl, _, hk => by
  simp only [pkeys, Option.some.injEq] at hk; subst hk
  cases es' with
  | nil => rfl
  | cons => simp at hl
 | (k, v) :: es, es', ks, hl, he, hk => by
  cases es' with
  | nil => simp at hl
  | cons y es' =>
   simp only [pkeys] at hk
   split at hk
   ·rename_i a b h1 h2
    cases hk
    have := toT_eq (he 0 _ _ rfl rfl).1 h1
    simp only [List.map_cons, this]
    rw [pkeys_eq (by simpa using hl) (fun i x z hx hz => he (i + 1) x z (by simpa using hx) (by simpa using hz)) h2]
   ·cases hk
theorem toVs_len : ∀ {ks : List TV} {vs : List Value}, toVs ks = some vs → vs.length = ks.length
 | [], vs, h => by simp only [toVs, Option.some.injEq] at h; subst h; rfl
 | k :: ks, vs, h => by
  simp only [toVs] at h
  split at h
  ·rename_i v ws _ h2
   cases h; simp [toVs_len h2]
  ·cases h
theorem findT_eq {kt : TypeId} {k : Value} {es' : List (TV × TV)} : findT P kt k es' = findK P kt k (es'.map (·.1)) := by
 unfold findT findK
 cases hv : toVs (es'.map (·.1)) with
 | none => rfl
 | some vs =>
  have hl := toVs_len hv
  have : es'.isEmpty = vs.isEmpty := by
   cases es' <;> cases vs <;> simp at hl <;> rfl
  simp only [this]
def mapKT : TV → List Key
 | .map r => [.h r]
 | _ => []
def entT (h : List HB) : TV → Option (List (TV × TV))
 | .nil .map => some []
 | .map r => match h[r]? with
  | some (.map es) => some es
  | _ => none
 | _ => none
theorem lookupT_ent {t : TypeId} {h : List HB} {tm tk : TV} {ok : Bool} {kt e : TypeId} {kv : Value} {es : List (TV × TV)} (hu : P.underlying t = some (.map kt e)) (hk : tk.toV = some kv) (he : entT h tm = some es) :
  lookupT P t h tm tk ok = match findT P kt kv es with
   | some (some i) => match es[i]? with
    | some (_, v) => some (if ok then .tup [v, .bool true] else v)
    | none => none
   | some none => match P.info? e with
    | some i => match i.zero with
     | some z => (TV.ofV z).map fun z => if ok then .tup [z, .bool false] else z
     | none => none
    | none => none
   | none => none := by
 unfold lookupT
 simp only [hu, hk]
 cases tm with
 | nil k =>
  cases k <;> simp only [entT] at he <;> try (cases he; done)
  cases he; rfl
 | map r =>
  simp only [entT] at he
  split at he
  ·rename_i es0 hb
   cases he
   simp only [hb]
   rfl
  ·cases he
 | _ => simp [entT] at he
theorem ent_ok {ps : PSt X.Γ} {ts : St} (hR : StR X P A m ps ts) {mv : PV X.Γ} {tm : TV} (hm : VR X P (AA A m) m ts.heap mv tm) {es : List (PV X.Γ × PV X.Γ)} (he : entP X ps.heap mv = some es) :
  ∃ es', entT ts.heap tm = some es' ∧ es.length = es'.length ∧ (∀ (i : Nat) x y, es[i]? = some x → es'[i]? = some y → VR X P (AA A m) m ts.heap x.1 y.1 ∧ VR X P (AA A m) m ts.heap x.2 y.2) ∧
   IR m ts.heap ⟨rdKs (mapKP X mv), false, false, true⟩ (rdKs (mapKT tm)) := by
 cases mv with
 | nil k =>
  cases hm with
  | nil =>
   cases k <;> simp only [entP] at he <;> try (cases he; done)
   cases he
   exact ⟨[], rfl, rfl, fun i x y hx => by simp at hx, IR.reads rfl (by simp [mapKT]) (by simp [mapKT])⟩
  | gone hi _ _ => simp [idOf] at hi
 | map r =>
  simp only [entP] at he
  split at he
  ·rename_i es0 hb
   cases he
   obtain ⟨mb, g1, g2⟩ := hR.heap.at_ r _ hb
   cases mb with
   | blk c =>
    obtain ⟨es', g3, g4, g5⟩ := g2
    cases hm with
    | map e =>
     rw [g1] at e; cases e
     exact ⟨es', by simp only [entT, g3], g4, fun i x y e1 e2 => ⟨toT_VR (g5 i x y e1 e2).1, toT_VR (g5 i x y e1 e2).2⟩, IR.reads rfl (fun b hb => by simp [mapKT] at hb; subst hb; exact ⟨.inl ⟨r, by simp [rdKs, mapKP], own_of g1 rfl⟩, (List.getElem?_eq_some_iff.1 g3).1⟩) (by simp [mapKT])⟩
    | gone hi e _ => simp only [idOf, Option.some.injEq] at hi; subst hi; rw [g1] at e; cases e
   | _ => exact g2.elim
  ·cases he
 | _ => simp [entP] at he
theorem tup2_VR {a b : PV X.Γ} {x y : TV} (h1 : VR X P A m h a x) (h2 : VR X P A m h b y) : VR X P A m h (.tup [a, b]) (.tup [x, y]) := by
 have := (VRs.nil (X := X) (P := P) (A := A) (m := m) (h := h)).cons h2 |>.cons h1
 exact .tup this.1 this.2
theorem zeroP_ok {e : TypeId} {z : PV X.Γ} (h : zeroP X P e = some z) : ∃ i z0 z1, P.info? e = some i ∧ i.zero = some z0 ∧ TV.ofV z0 = some z1 ∧ ofT z1 = some z := by
 unfold zeroP at h
 split at h
 ·rename_i i hi
  split at h
  ·rename_i z0 hz0
   split at h
   ·rename_i z1 hz1; exact ⟨i, z0, z1, hi, hz0, hz1, h⟩
   ·cases h
  ·cases h
 ·cases h
theorem look_ok {ρ : Type} {y : ρ} {ps : PSt X.Γ} {ts : St} (hR : StR X P A m ps ts) {t : TypeId} {mv kv : PV X.Γ} {tm tk : TV} (hm : VR X P (AA A m) m ts.heap mv tm) (hk : VR X P (AA A m) m ts.heap kv tk) {ok : Bool} {an : PT X.Γ} {c : PE X.Γ → PI → PT X.Γ → OT ρ}
  (hl : (plookK X P t ps mv kv ok an c).Ends y) : ∃ v pi an' w, lookupT P t ts.heap tm tk ok = some w ∧ VR X P (AA A m) m ts.heap v w ∧ (c (.val v) pi an').Ends y ∧ IR m ts.heap pi (rdKs (mapKT tm)) := by
 unfold plookK at hl
 split at hl
 ·rename_i kt e tk' es hu htk hes
  have := toT_eq hk htk
  subst this
  obtain ⟨es', f1, f2, f3, f4⟩ := ent_ok hR hm hes
  have fnd : ∀ {kval ks j k0 v}, tk.toV = some kval → pkeys X es = some ks → findK P kt kval ks = some (some j) → es[j]? = some (k0, v) → ∃ w, lookupT P t ts.heap tm tk ok = some w ∧ VR X P (AA A m) m ts.heap (if ok then .tup [v, .bool true] else v) w := by
   intro kval ks j k0 v hkv hks hfind hj
   have hkeys := pkeys_eq f2 f3 hks
   have hlt : j < es'.length := by rw [← f2]; exact (List.getElem?_eq_some_iff.1 hj).1
   have hj' := List.getElem?_eq_getElem hlt
   have hv := (f3 j _ _ hj hj').2
   refine ⟨(if ok then .tup [es'[j].2, .bool true] else es'[j].2), ?_, ?_⟩
   ·rw [lookupT_ent hu hkv f1]
    simp only [findT_eq, hkeys, hfind, hj']
   ·cases ok with
    | true => exact tup2_VR hv (.bool _)
    | false => exact hv
  have non : ∀ {kval ks z}, tk.toV = some kval → pkeys X es = some ks → findK P kt kval ks = some none → zeroP X P e = some z → ∃ w, lookupT P t ts.heap tm tk ok = some w ∧ VR X P (AA A m) m ts.heap (if ok then .tup [z, .bool false] else z) w := by
   intro kval ks z hkv hks hfind hz
   have hkeys := pkeys_eq f2 f3 hks
   obtain ⟨i, z0, z1, hi, hz0, hz1, hz2⟩ := zeroP_ok hz
   refine ⟨(if ok then .tup [z1, .bool false] else z1), ?_, ?_⟩
   ·rw [lookupT_ent hu hkv f1]
    simp only [findT_eq, hkeys, hfind, hi, hz0, hz1, Option.map_some]
   ·cases ok with
    | true => exact tup2_VR (ofT_VR hz2) (.bool _)
    | false => exact ofT_VR hz2
  split at hl
  ·obtain ⟨⟨kval, ks, j, k0, g1, g2, g3, g4⟩, hl⟩ := hl
   obtain ⟨w, w1, w2⟩ := fnd g1 g2 g3 g4
   exact ⟨_, _, _, w, w1, w2, hl, f4⟩
  ·split at hl
   ·rename_i z hz
    obtain ⟨⟨kval, ks, g1, g2, g3⟩, hl⟩ := hl
    obtain ⟨w, w1, w2⟩ := non g1 g2 g3 hz
    exact ⟨_, _, _, w, w1, w2, hl, f4⟩
   ·exact hl.elim
  ·split at hl
   ·rename_i z hz
    obtain ⟨⟨kval, ks, g1, g2, g3⟩, hl⟩ := hl
    obtain ⟨w, w1, w2⟩ := non g1 g2 g3 hz
    exact ⟨_, _, _, w, w1, w2, hl, f4⟩
   ·exact hl.elim
  ·split at hl
   ·rename_i kval ks hkv hks
    split at hl
    ·rename_i j r _ _
     split at hl
     ·rename_i k0 v hj
      obtain ⟨hfind, hl⟩ := hl
      obtain ⟨w, w1, w2⟩ := fnd hkv hks hfind hj
      exact ⟨_, _, _, w, w1, w2, hl, f4⟩
     ·exact hl.elim
    ·split at hl
     ·rename_i z hz
      obtain ⟨hfind, hl⟩ := hl
      obtain ⟨w, w1, w2⟩ := non hkv hks hfind hz
      exact ⟨_, _, _, w, w1, w2, hl, f4⟩
     ·exact hl.elim
    ·exact hl.elim
   ·exact hl.elim
 ·exact hl.elim
theorem upd_ok {ρ : Type} {y : ρ} {ps : PSt X.Γ} {ts : St} (hR : StR X P A m ps ts) {t : TypeId} {mv kv v : PV X.Γ} {tm tk tv : TV} (hm : VR X P (AA A m) m ts.heap mv tm) (hk : VR X P (AA A m) m ts.heap kv tk) (hv : VR X P (AA A m) m ts.heap v tv) {an : PT X.Γ} {c : PSt X.Γ → PI → PT X.Γ → OT ρ}
  (hl : (pupdK X P t ps mv kv v an c).Ends y) : ∃ ps1 pi an' h1 ti, updateT P t ts tm tk tv = some ({ ts with heap := h1 }, ti) ∧ StR X P A m ps1 { ts with heap := h1 } ∧ Fr m ts.heap m h1 ∧ (c ps1 pi an').Ends y ∧ IR m ts.heap pi ti ∧ ∀ b, .h b ∈ ti.ws → b ∈ blks m := by
 unfold pupdK at hl
 split at hl
 ·rename_i kt e tk' r tv' hu htk htv
  have := toT_eq hk htk
  subst this
  have := toT_eq hv htv
  subst this
  split at hl
  ·rename_i es hb
   obtain ⟨mb, g1, g2⟩ := hR.heap.at_ r _ hb
   cases mb with
   | blk cb =>
    obtain ⟨es', f1, f2, f3⟩ := g2
    have f3v : ∀ (i : Nat) x y, es[i]? = some x → es'[i]? = some y → VR X P (AA A m) m ts.heap x.1 y.1 ∧ VR X P (AA A m) m ts.heap x.2 y.2 := fun i x y e1 e2 => ⟨toT_VR (f3 i x y e1 e2).1, toT_VR (f3 i x y e1 e2).2⟩
    cases hm with
    | gone hi e' _ => simp only [idOf, Option.some.injEq] at hi; subst hi; rw [g1] at e'; cases e'
    | map e' =>
     rw [g1] at e'; cases e'
     have hlt := (List.getElem?_eq_some_iff.1 f1).1
     have wr : ∀ (en : List (PV X.Γ × PV X.Γ)) (en' : List (TV × TV)), en.length = en'.length → (∀ (i : Nat) x y, en[i]? = some x → en'[i]? = some y → toT x.1 = some y.1 ∧ toT x.2 = some y.2) →
       StR X P A m { ps with heap := ps.heap.set r (.map en) } { ts with heap := ts.heap.set cb (.map en') } ∧ Fr m ts.heap m (ts.heap.set cb (.map en')) := by
      intro en en' h1 h2
      obtain ⟨q1, q2⟩ := hR.heap.set (pb := .map en) (hb := .map en') g1 (c := cb) rfl (fun cs hc => by simp [blkCells, f1] at hc) fun hF => ⟨en', by simp [hlt], h1, h2⟩
      exact ⟨hR.step q1 q2 .refl, q2⟩
     have new : ∀ {kval ks}, tk.toV = some kval → pkeys X es = some ks → pureRun P (Instr.checkKey false 10000 kt kval) = some () → findK P kt kval ks = some none →
       updateT P t ts (.map cb) tk tv = some ({ ts with heap := ts.heap.set cb (.map (es' ++ [(tk, tv)])) }, wrK (.h cb)) ∧ StR X P A m { ps with heap := ps.heap.set r (.map (es ++ [(kv, v)])) } { ts with heap := ts.heap.set cb (.map (es' ++ [(tk, tv)])) } ∧ Fr m ts.heap m (ts.heap.set cb (.map (es' ++ [(tk, tv)]))) := by
      intro kval ks hkv hks c1 c2
      have hkeys := pkeys_eq f2 f3v hks
      obtain ⟨w1, w2⟩ := wr (es ++ [(kv, v)]) (es' ++ [(tk, tv)]) (by simp [f2]) fun i a b ha hb' => by
       rcases Nat.lt_or_ge i es.length with hlt | hge
       ·rw [List.getElem?_append_left hlt] at ha
        rw [List.getElem?_append_left (by rw [← f2]; exact hlt)] at hb'
        exact f3 i a b ha hb'
       ·rw [List.getElem?_append_right hge] at ha
        rw [List.getElem?_append_right (by rw [← f2]; exact hge), ← f2] at hb'
        cases hx : i - es.length with
        | zero =>
         rw [hx] at ha hb'
         simp only [List.getElem?_cons_zero, Option.some.injEq] at ha hb'
         subst ha; subst hb'; exact ⟨htk, htv⟩
        | succ n => rw [hx] at ha; simp at ha
      refine ⟨?_, w1, w2⟩
      unfold updateT
      simp only [hu, hkv, f1, c1, findT_eq, hkeys, c2]
     split at hl
     ·obtain ⟨⟨kval, q1, c1⟩, ⟨kval', ks, q2, hks, c2⟩, hl⟩ := hl
      rw [q1] at q2; cases q2
      obtain ⟨u1, u2, u3⟩ := new q1 hks c1 c2
      exact ⟨_, _, _, _, wrK (.h cb), u1, u2, u3, hl, .wrH (own_of g1 rfl) hlt, fun b hb => by simp [wrK] at hb; subst hb; exact own_mem g1 rfl⟩
     ·obtain ⟨⟨kval, q1, c1⟩, ⟨kval', ks, q2, hks, c2⟩, hl⟩ := hl
      rw [q1] at q2; cases q2
      obtain ⟨u1, u2, u3⟩ := new q1 hks c1 c2
      exact ⟨_, _, _, _, wrK (.h cb), u1, u2, u3, hl, .wrH (own_of g1 rfl) hlt, fun b hb => by simp [wrK] at hb; subst hb; exact own_mem g1 rfl⟩
     ·split at hl
      ·rename_i kval ks hkv hks
       have hkeys := pkeys_eq f2 f3v hks
       split at hl
       ·rename_i j rest _ _
        split at hl
        ·rename_i x0 old hj hold
         split at hl
         ·rename_i ov hov
          obtain ⟨c1, c2, c3, hl⟩ := hl
          have hj' : ∃ y0, es'[j]? = some y0 := by
           have : j < es'.length := by rw [← f2]; exact (List.getElem?_eq_some_iff.1 hj).1
           exact ⟨_, List.getElem?_eq_getElem this⟩
          obtain ⟨y0, hy0⟩ := hj'
          have hy1 : y0.1 = old := by
           have : (es'.map (·.1))[j]? = some y0.1 := by rw [List.getElem?_map, hy0]; rfl
           rw [hkeys, hold] at this; exact (Option.some.inj this).symm
          obtain ⟨w1, w2⟩ := wr (es.set j (kv, v)) (es'.set j (tk, tv)) (by simp [f2]) fun i a b ha hb' => by
           by_cases e : j = i
           ·subst e
            rw [List.getElem?_set_self'] at ha hb'
            rw [hj] at ha; rw [hy0] at hb'
            cases ha; cases hb'; exact ⟨htk, htv⟩
           ·rw [List.getElem?_set_ne e] at ha hb'; exact f3 i a b ha hb'
          refine ⟨_, _, _, _, wrK (.h cb), ?_, w1, w2, hl, .wrH (own_of g1 rfl) hlt, fun b hb => by simp [wrK] at hb; subst hb; exact own_mem g1 rfl⟩
          unfold updateT
          simp only [hu, hkv, f1, c1, findT_eq, hkeys, c2, hy0, hy1, hov, c3, if_true]
         ·exact hl.elim
        ·exact hl.elim
       ·obtain ⟨c1, c2, hl⟩ := hl
        obtain ⟨u1, u2, u3⟩ := new hkv hks c1 c2
        exact ⟨_, _, _, _, wrK (.h cb), u1, u2, u3, hl, .wrH (own_of g1 rfl) hlt, fun b hb => by simp [wrK] at hb; subst hb; exact own_mem g1 rfl⟩
       ·exact hl.elim
      ·exact hl.elim
   | _ => exact g2.elim
  ·exact hl.elim
 ·exact hl.elim
end
end Pv
namespace Pv
open Go Tw
theorem blks_own {m : List MB} {b : Nat} (h : b ∈ blks m) : ∃ i, Own m i b := by
 obtain ⟨mb, h1, h2⟩ := List.mem_filterMap.1 h
 obtain ⟨i, hi⟩ := List.getElem?_of_mem h1
 exact ⟨i, mb, hi, h2⟩
section
variable {X : Cod} {P : Program} {A B : Nat → Prop} {m m1 : List MB} {h : List HB} {g : Nat → Option Nat}
theorem nodup_of_own : ∀ {m : List MB}, (∀ i j c, Own m i c → Own m j c → i = j) → (blks m).Nodup
 | [], _ => by simp [blks]
 | x :: m, hu => by
  have ih : (blks m).Nodup := nodup_of_own fun i j c h1 h2 => by
   have := hu (i + 1) (j + 1) c (by obtain ⟨mb, a, b⟩ := h1; exact ⟨mb, by simpa using a, b⟩) (by obtain ⟨mb, a, b⟩ := h2; exact ⟨mb, by simpa using a, b⟩)
   omega
  unfold blks at ih ⊢
  rw [List.filterMap_cons]
  split
  ·exact ih
  ·rename_i b hb
   refine List.nodup_cons.2 ⟨fun hm => ?_, ih⟩
   obtain ⟨i, mb, h1, h2⟩ := blks_own (m := m) hm
   have := hu 0 (i + 1) b ⟨x, rfl, hb⟩ ⟨mb, by simpa using h1, h2⟩
   omega
theorem posN_get : ∀ {ks : List Nat} {i p : Nat}, posN ks i = some p → ks[p]? = some i
 | [], i, p, h => by cases h
 | a :: ks, i, p, h => by
  simp only [posN] at h
  split at h
  ·rename_i e; cases h; simp [e]
  ·simp only [Option.map_eq_some_iff] at h
   obtain ⟨q, h1, rfl⟩ := h
   simpa using posN_get h1
section
variable {g : Nat → Option Nat} {m1 : List MB}
theorem renV_VR (hg : ∀ i j, g i = some j → m1[j]? = m[i]?) {B : Nat → Prop} (hA : ∀ b, A b → B b) (hX : CodOk X P) {v : PV X.Γ} {x : TV} (hv : VR X P A m h v x) : ∀ {w : PV X.Γ}, renV g v = some w → VR X P B m1 h w x := by
 have lists : ∀ {vs : List (PV X.Γ)} {xs : List TV}, vs.length = xs.length → (∀ (i : Nat) a b, vs[i]? = some a → xs[i]? = some b → ∀ {w : PV X.Γ}, renV g a = some w → VR X P B m1 h w b) → ∀ {ws : List (PV X.Γ)}, renV.renVs g vs = some ws → ws.length = xs.length ∧ ∀ (i : Nat) a b, ws[i]? = some a → xs[i]? = some b → VR X P B m1 h a b := by
  intro vs
  induction vs with
  | nil =>
   intro xs hl _ ws hw
   simp only [renV.renVs, Option.some.injEq] at hw; subst hw
   exact ⟨hl, fun i a b ha => by simp at ha⟩
  | cons v vs ih =>
   intro xs hl hh ws hw
   cases xs with
   | nil => simp at hl
   | cons x xs =>
    simp only [renV.renVs] at hw
    split at hw
    ·rename_i w ws' h1 h2
     cases hw
     obtain ⟨e1, e2⟩ := ih (xs := xs) (by simpa using hl) (fun i a b ha hb => hh (i + 1) a b (by simpa using ha) (by simpa using hb)) h2
     refine ⟨by simp [e1], fun i a b ha hb => ?_⟩
     cases i with
     | zero => simp only [List.getElem?_cons_zero, Option.some.injEq] at ha hb; subst ha; subst hb; exact hh 0 v x rfl rfl h1
     | succ i => exact e2 i a b (by simpa using ha) (by simpa using hb)
    ·cases hw
 induction hv with
 | bool => intro w hw; simp only [renV, Option.some.injEq] at hw; subst hw; exact .bool _
 | lit => intro w hw; simp only [renV, Option.some.injEq] at hw; subst hw; exact .lit _
 | int => intro w hw; simp only [renV, Option.some.injEq] at hw; subst hw; exact .int _ _
 | str => intro w hw; simp only [renV, Option.some.injEq] at hw; subst hw; exact .str _
 | nil => intro w hw; simp only [renV, Option.some.injEq] at hw; subst hw; exact .nil _
 | ptr e => intro w hw; simp only [renV, Option.map_eq_some_iff] at hw; obtain ⟨j, h1, rfl⟩ := hw; exact .ptr (by rw [hg _ _ h1]; exact e)
 | slc e => intro w hw; simp only [renV, Option.map_eq_some_iff] at hw; obtain ⟨j, h1, rfl⟩ := hw; exact .slc (by rw [hg _ _ h1]; exact e)
 | own e o => intro w hw; simp only [renV, Option.map_eq_some_iff] at hw; obtain ⟨j, h1, rfl⟩ := hw; exact .own (by rw [hg _ _ h1]; exact e) o
 | win e q q' q2 => intro w hw; simp only [renV, Option.map_eq_some_iff] at hw; obtain ⟨j, h1, rfl⟩ := hw; exact .win (by rw [hg _ _ h1]; exact e) q q' q2
 | winN e => intro w hw; simp only [renV, Option.map_eq_some_iff] at hw; obtain ⟨j, h1, rfl⟩ := hw; exact .winN (by rw [hg _ _ h1]; exact e)
 | map e => intro w hw; simp only [renV, Option.map_eq_some_iff] at hw; obtain ⟨j, h1, rfl⟩ := hw; exact .map (by rw [hg _ _ h1]; exact e)
 | yld e => intro w hw; simp only [renV, Option.map_eq_some_iff] at hw; obtain ⟨j, h1, rfl⟩ := hw; exact .yld (by rw [hg _ _ h1]; exact e)
 | row e j q => intro w hw; simp only [renV, Option.map_eq_some_iff] at hw; obtain ⟨j, h1, rfl⟩ := hw; exact .row (by rw [hg _ _ h1]; exact e) (by assumption) q
 | fn h1 _ h3 _ i2 i4 =>
  intro w hw
  simp only [renV] at hw
  split at hw
  ·rename_i a c ha hc
   cases hw
   obtain ⟨e1, e2⟩ := lists h1 i2 ha
   obtain ⟨e3, e4⟩ := lists h3 i4 hc
   exact .fn e1 e2 e3 e4
  ·cases hw
 | agg h1 _ i2 =>
  intro w hw
  simp only [renV, Option.map_eq_some_iff] at hw
  obtain ⟨cs, hc, rfl⟩ := hw
  obtain ⟨e1, e2⟩ := lists h1 i2 hc
  exact .agg e1 e2
 | tup h1 _ i2 =>
  intro w hw
  simp only [renV, Option.map_eq_some_iff] at hw
  obtain ⟨cs, hc, rfl⟩ := hw
  obtain ⟨e1, e2⟩ := lists h1 i2 hc
  exact .tup e1 e2
 | lstN => intro w hw; simp only [renV, Option.some.injEq] at hw; subst hw; exact .lstN
 | lst a c c2 s z o k f e r _ => intro w hw; simp only [renV, Option.some.injEq] at hw; subst hw; exact .lst (hA _ a) c c2 s z o k f e fun j y i d v h1 h2 h3 => ((r j y i d v h1 h2 h3).mono hA).clos hX (closs_get (hX.clos _ _) h2)
 | el a c l o e q r _ => intro w hw; simp only [renV, Option.some.injEq] at hw; subst hw; exact .el (hA _ a) c l o e q fun i d v h1 h2 => ((r i d v h1 h2).mono hA).clos hX (closs_get (hX.clos _ _) h1)
 | gone i e o =>
  intro w hw
  rename_i v _ x
  have : ∃ j, idOf w = some j ∧ GoneM w x m1[j]? := by
   cases v <;> simp [idOf] at i <;> subst i <;> simp only [renV, Option.map_eq_some_iff] at hw <;> obtain ⟨j, h1, rfl⟩ := hw <;> exact ⟨j, rfl, by rw [hg _ _ h1]; exact e.as fun c => rfl⟩
  obtain ⟨j, h1, h2⟩ := this
  exact .gone h1 h2 o
variable {B : Nat → Prop}
theorem renVs_VR (hX : CodOk X P) (hg : ∀ i j, g i = some j → m1[j]? = m[i]?) (hA : ∀ b, A b → B b) : ∀ {vs : List (PV X.Γ)} {xs : List TV} {ws : List (PV X.Γ)}, VRs X P A m h vs xs → renV.renVs g vs = some ws → VRs X P B m1 h ws xs
 | [], xs, ws, hv, hw => by simp only [renV.renVs, Option.some.injEq] at hw; subst hw; rw [hv.inv0]; exact .nil
 | v :: vs, xs, ws, hv, hw => by
  obtain ⟨x, r, rfl, h1, h2⟩ := hv.inv
  simp only [renV.renVs] at hw
  split at hw
  ·rename_i w ws' g1 g2
   cases hw
   exact .cons (renV_VR hg hA hX h1 g1) (renVs_VR hX hg hA h2 g2)
  ·cases hw
theorem renEs_VR (hX : CodOk X P) (hg : ∀ i j, g i = some j → m1[j]? = m[i]?) (hA : ∀ b, A b → B b) {env : List (Nat × PE X.Γ)} {env' : List (Nat × EV)} (he : EnvR X P A m h env env') : ∀ {r : List (Nat × PE X.Γ)}, renEs g env = some r → EnvR X P B m1 h r env' := by
 induction he with
 | nil => intro r h; simp only [renEs, Option.some.injEq] at h; subst h; exact .nil
 | cons h1 h2 ih =>
  rename_i k v x q q'
  intro r hr
  simp only [renEs] at hr
  split at hr
  ·rename_i w r' e1 e2
   cases hr
   refine .cons ?_ (ih e2)
   cases v with
   | val v =>
    obtain ⟨y, rfl, h3⟩ := per_val h1
    simp only [renE, Option.map_eq_some_iff] at e1
    obtain ⟨u, e3, rfl⟩ := e1
    exact per_of (renV_VR hg hA hX h3 e3)
   | loc a b => simp only [renE, Option.some.injEq] at e1; subst e1; rw [per_loc h1]; exact ⟨rfl, rfl⟩
   | undef => simp only [renE, Option.some.injEq] at e1; subst e1; rw [per_undef h1]; trivial
  ·cases hr
theorem renB_BR (hX : CodOk X P) (hg : ∀ i j, g i = some j → m1[j]? = m[i]?) (hA : ∀ b, A b → B b) {b b' : PB X.Γ} {mb : MB} (hn : ∀ c, mb = .rblk c → c ∉ blks m → c ∉ blks m1) (hb : BR X P A m h b mb) (hr : renB g b = some b') : BR X P B m1 h b' mb := by
 cases b with
 | cells cs =>
  cases mb with
  | blk c =>
   simp only [renB, Option.map_eq_some_iff] at hr
   obtain ⟨cs', h1, rfl⟩ := hr
   obtain ⟨xs, h2, h3⟩ := hb
   exact ⟨xs, h2, renVs_VR hX hg hA h3 h1⟩
  | _ => exact hb.elim
 | rcells cs =>
  cases mb with
  | rblk c =>
   simp only [renB, Option.map_eq_some_iff] at hr
   obtain ⟨cs', h1, rfl⟩ := hr
   obtain ⟨h0, xs, h2, h3⟩ := hb
   exact ⟨hn c rfl h0, xs, h2, renVs_VR hX hg hA h3 h1⟩
  | _ => exact hb.elim
 | list k ex t l =>
  cases mb with
  | lst y =>
   simp only [renB, Option.some.injEq] at hr; subst hr
   cases (hb : LR X P A m h k ex t l y) with
   | nil => exact LR.nil
   | emp p0 p1 p2 p3 p4 => exact LR.emp (hA _ p0) p1 p2 p3 p4
   | some p1 p2 p3 p4 p5 p6 p7 p8 p9 => exact LR.some p1 p2 p3 p4 p5 p6 p7 p8 ((p9.mono hA).clos hX)
  | _ => exact hb.elim
 | map es =>
  cases mb with
  | blk c =>
   simp only [renB, Option.some.injEq] at hr; subst hr; exact hb
  | _ => exact hb.elim
 | mark =>
  cases mb with
  | blk c => simp only [renB, Option.some.injEq] at hr; subst hr; exact hb
  | _ => exact hb.elim
 | loop rd f nt env ps a c pend =>
  cases mb with
  | blk cb =>
   simp only [renB, Option.map_eq_some_iff] at hr
   obtain ⟨env1, h1, rfl⟩ := hr
   obtain ⟨xs, h2, h3⟩ := hb
   exact ⟨xs, h2, renEs_VR hX hg hA h3 h1⟩
  | _ => exact hb.elim
 | gone =>
  cases mb with
  | gone => simp only [renB, Option.some.injEq] at hr; subst hr; trivial
  | _ => exact hb.elim
theorem renBs_get : ∀ {bs r : List (PB X.Γ)}, renBs g bs = some r → r.length = bs.length ∧ ∀ {i : Nat} {b' : PB X.Γ}, r[i]? = some b' → ∃ b, bs[i]? = some b ∧ renB g b = some b'
 | [], r, h => by simp only [renBs, Option.some.injEq] at h; subst h; exact ⟨rfl, fun {i b'} hi => by simp at hi⟩
 | b :: bs, r, h => by
  simp only [renBs] at h
  split at h
  ·rename_i c cs h1 h2
   cases h
   obtain ⟨e1, e2⟩ := renBs_get h2
   refine ⟨by simp [e1], fun {i b'} hi => ?_⟩
   cases i with
   | zero => simp only [List.getElem?_cons_zero, Option.some.injEq] at hi; subst hi; exact ⟨b, rfl, h1⟩
   | succ i => obtain ⟨d, q1, q2⟩ := e2 (i := i) (by simpa using hi); exact ⟨d, by simpa using q1, q2⟩
  ·cases h
theorem renL_get : ∀ {bs r : List (List (PV X.Γ))}, renL g bs = some r → r.length = bs.length ∧ ∀ {i : Nat} {b' : List (PV X.Γ)}, r[i]? = some b' → ∃ b, bs[i]? = some b ∧ renV.renVs g b = some b'
 | [], r, h => by simp only [renL, Option.some.injEq] at h; subst h; exact ⟨rfl, fun {i b'} hi => by simp at hi⟩
 | b :: bs, r, h => by
  simp only [renL] at h
  split at h
  ·rename_i c cs h1 h2
   cases h
   obtain ⟨e1, e2⟩ := renL_get h2
   refine ⟨by simp [e1], fun {i b'} hi => ?_⟩
   cases i with
   | zero => simp only [List.getElem?_cons_zero, Option.some.injEq] at hi; subst hi; exact ⟨b, rfl, h1⟩
   | succ i => obtain ⟨d, q1, q2⟩ := e2 (i := i) (by simpa using hi); exact ⟨d, by simpa using q1, q2⟩
  ·cases h
theorem pickB_get : ∀ {ks : List Nat} {H r : List (PB X.Γ)}, pickB H ks = some r → r.length = ks.length ∧ ∀ {i k : Nat}, ks[i]? = some k → ∃ b, H[k]? = some b ∧ r[i]? = some b
 | [], H, r, h => by simp only [pickB, Option.some.injEq] at h; subst h; exact ⟨rfl, fun {i k} hi => by simp at hi⟩
 | k :: ks, H, r, h => by
  simp only [pickB] at h
  split at h
  ·rename_i b rs h1 h2
   cases h
   obtain ⟨e1, e2⟩ := pickB_get h2
   refine ⟨by simp [e1], fun {i j} hi => ?_⟩
   cases i with
   | zero => simp only [List.getElem?_cons_zero, Option.some.injEq] at hi; subst hi; exact ⟨b, h1, rfl⟩
   | succ i => obtain ⟨d, q1, q2⟩ := e2 (i := i) (k := j) (by simpa using hi); exact ⟨d, q1, by simpa using q2⟩
  ·cases h
end
theorem putAt_len {α : Type} : ∀ {ks : List Nat} {bs l : List α}, (putAt ks bs l).length = l.length
 | [], _, _ => rfl
 | _ :: _, [], _ => rfl
 | k :: ks, b :: bs, l => by simp only [putAt]; rw [putAt_len, List.length_set]
theorem putAt_in {α : Type} : ∀ {ks : List Nat} {bs l : List α} {p i : Nat}, ks.Nodup → (∀ k ∈ ks, k < l.length) → ks.length ≤ bs.length → ks[p]? = some i → (putAt ks bs l)[i]? = bs[p]?
 | [], _, _, p, i, _, _, _, h => by simp at h
 | a :: ks, [], _, _, _, _, _, hl, _ => by simp at hl
 | a :: ks, b :: bs, l, 0, i, hn, hk, hl, h => by
  simp only [List.getElem?_cons_zero, Option.some.injEq] at h
  subst h
  have hn := List.nodup_cons.1 hn
  simp only [putAt]
  have : ∀ {ks : List Nat} {bs l : List α} {i : Nat}, i ∉ ks → (putAt ks bs l)[i]? = l[i]? := by
   intro ks
   induction ks with
   | nil => intro bs l i _; rfl
   | cons c ks ih =>
    intro bs l i hi
    simp only [List.mem_cons, not_or] at hi
    cases bs with
    | nil => rfl
    | cons b bs => simp only [putAt]; rw [ih hi.2, List.getElem?_set_ne (fun e => hi.1 e.symm)]
  rw [this hn.1, List.getElem?_set_self (hk a (List.mem_cons_self ..))]; rfl
 | a :: ks, b :: bs, l, p + 1, i, hn, hk, hl, h => by
  simp only [List.getElem?_cons_succ] at h
  simp only [putAt]
  rw [putAt_in (List.nodup_cons.1 hn).2 (fun k hk' => by rw [List.length_set]; exact hk k (List.mem_cons_of_mem _ hk')) (by simpa using hl) h]
  rfl
theorem putAt_out {α : Type} : ∀ {ks : List Nat} {bs l : List α} {i : Nat}, i ∉ ks → (putAt ks bs l)[i]? = l[i]?
 | [], _, _, _, _ => rfl
 | a :: ks, [], _, _, _ => rfl
 | a :: ks, b :: bs, l, i, hi => by
  simp only [List.mem_cons, not_or] at hi
  simp only [putAt]; rw [putAt_out hi.2, List.getElem?_set_ne (fun e => hi.1 e.symm)]
def SimW (X : Cod) (P : Program) (call : CallT) (fv : PV X.Γ) (xs : List (PV X.Γ)) (H : List (PB X.Γ)) (v : PV X.Γ) (H1 : List (PB X.Γ)) (W : Nat → Prop) : Prop :=
 ∀ (A : Nat → Prop) (m : List MB) (h : List HB) (tf : TV) (txs : List TV), HR X P A m H h → VR X P (AA A m) m h fv tf → VRs X P (AA A m) m h xs txs →
  ∃ w h1 ws m1, call tf txs h = some (w, h1, ws) ∧ HR X P A m1 H1 h1 ∧ VR X P (AA A m1) m1 h1 v w ∧ Fr m h m1 h1 ∧ Up m m1 ∧ ∀ b ∈ ws, ∃ k, W k ∧ Own m k b
theorem Sim.w {call : CallT} {fv v : PV X.Γ} {xs : List (PV X.Γ)} {H H1 : List (PB X.Γ)} (h : Sim X P call fv xs H v H1) : SimW X P call fv xs H v H1 fun _ => True := fun A m h0 tf txs a b c => by
 obtain ⟨w, h1, ws, m1, c1, c2, c3, c4, c5, c6⟩ := h A m h0 tf txs a b c
 exact ⟨w, h1, ws, m1, c1, c2, c3, c4, c5, fun b hb => by obtain ⟨i, hi⟩ := blks_own (c6 b hb); exact ⟨i, trivial, hi⟩⟩
theorem noRo_at : ∀ {H : List (PB X.Γ)} {i : Nat} {b : PB X.Γ}, noRo H = true → H[i]? = some b → noRo [b] = true
 | [], _, _, _, h => by simp at h
 | a :: H, 0, b, hn, h => by
  simp only [List.getElem?_cons_zero, Option.some.injEq] at h; subst h
  cases a <;> simp_all [noRo]
 | a :: H, i + 1, b, hn, h => by
  have hn2 : noRo H = true := by cases a <;> simp_all [noRo]
  exact noRo_at hn2 (by simpa using h)
def SwM (m m' : List MB) : Prop := ∀ i : Nat, m'[i]? = m[i]? ∨ (∃ c, m[i]? = some (.blk c) ∧ m'[i]? = some (.rblk c)) ∨ ∃ c, m[i]? = some (.rblk c) ∧ m'[i]? = some (.blk c)
section
variable {m' : List MB}
theorem VR.sw (hm : SwM m m') (hA : ∀ b, A b → B b) {v : PV X.Γ} {x : TV} (hv : VR X P A m h v x) : VR X P B m' h v x := by
 have hl : ∀ {i : Nat} {x : TV}, m[i]? = some (.lst x) → m'[i]? = some (.lst x) := fun {i x} e => by
  rcases hm i with g | ⟨c, g, _⟩ | ⟨c, g, _⟩
  ·rw [g, e]
  ·rw [e] at g; cases g
  ·rw [e] at g; cases g
 have hb : ∀ {i c : Nat}, m[i]? = some (.blk c) → m'[i]? = some (.blk c) ∨ m'[i]? = some (.rblk c) := fun {i c} e => by
  rcases hm i with g | ⟨c', g, g2⟩ | ⟨c', g, _⟩
  ·exact .inl (by rw [g, e])
  ·rw [e] at g; cases g; exact .inr g2
  ·rw [e] at g; cases g
 induction hv with
 | bool => exact .bool _
 | lit => exact .lit _
 | int => exact .int _ _
 | str => exact .str _
 | nil => exact .nil _
 | ptr e => rcases hb e with e | e; exact .ptr e; exact .gone rfl (.ofR e rfl) rfl
 | slc e => rcases hb e with e | e; exact .slc e; exact .gone rfl (.ofR e rfl) rfl
 | own e o => exact .own (hl e) o
 | win e q q' q2 => exact .win (hl e) q q' q2
 | winN e => exact .winN (hl e)
 | map e => rcases hb e with e | e; exact .map e; exact .gone rfl (.ofR e rfl) rfl
 | fn h1 _ h3 _ i2 i4 => exact .fn h1 i2 h3 i4
 | yld e => rcases hb e with e | e; exact .yld e; exact .gone rfl (.ofR e rfl) rfl
 | agg h1 _ i2 => exact .agg h1 i2
 | tup h1 _ i2 => exact .tup h1 i2
 | lstN => exact .lstN
 | lst a c c2 s z o k f e _ ih => exact .lst (hA _ a) c c2 s z o k f e ih
 | el a c l o e q _ ih => exact .el (hA _ a) c l o e q ih
 | row e j q => exact .row (hl e) j q
 | @gone v i x hi e o =>
  generalize hq : m[i]? = q at e
  cases e with
  | g =>
   rcases hm i with g | ⟨c, g, _⟩ | ⟨c, g, _⟩
   ·exact .gone hi (.of (by rw [g, hq])) o
   ·rw [hq] at g; cases g
   ·rw [hq] at g; cases g
  | r c hv =>
   rcases hm i with g | ⟨c', g, _⟩ | ⟨c', g, g2⟩
   ·exact .gone hi (.ofR (by rw [g, hq]) hv) o
   ·rw [hq] at g; cases g
   ·rw [hq] at g; cases g
    cases v <;> simp only [roV, Option.some.injEq] at hv <;> first | cases hv; done | skip
    all_goals (subst hv; simp only [idOf, Option.some.injEq] at hi; subst hi)
    ·exact .ptr g2
    ·exact .slc g2
    ·exact .map g2
    ·exact .yld g2
theorem VRs.sw (hm : SwM m m') (hA : ∀ b, A b → B b) {v : List (PV X.Γ)} {x : List TV} (hv : VRs X P A m h v x) : VRs X P B m' h v x :=
 ⟨hv.1, fun i a b ha hb => (hv.2 i a b ha hb).sw hm hA⟩
theorem EnvR.sw (hm : SwM m m') (hA : ∀ b, A b → B b) {v : List (Nat × PE X.Γ)} {x : List (Nat × EV)} (hv : EnvR X P A m h v x) : EnvR X P B m' h v x := by
 induction hv with
 | nil => exact .nil
 | cons h1 _ ih =>
  refine .cons ?_ ih
  rename_i v x _ _ _
  cases v <;> cases x <;> first | exact VR.sw hm hA h1 | exact h1
theorem BR.sw (hm : SwM m m') (hA : ∀ b, A b → B b) {b : PB X.Γ} {mb : MB} (hn : ∀ c, mb = .rblk c → c ∉ blks m → c ∉ blks m') (hb : BR X P A m h b mb) : BR X P B m' h b mb := by
 cases b with
 | cells cs => cases mb with
  | blk b => obtain ⟨cs', h1, h2⟩ := hb; exact ⟨cs', h1, h2.sw hm hA⟩
  | _ => exact hb.elim
 | rcells cs => cases mb with
  | rblk b => obtain ⟨h0, cs', h1, h2⟩ := hb; exact ⟨hn b rfl h0, cs', h1, h2.sw hm hA⟩
  | _ => exact hb.elim
 | list k ex t l => cases mb with
  | lst x =>
   cases (hb : LR X P A m h k ex t l x) with
   | nil => exact LR.nil
   | emp h0 h1 h2 h3 h4 => exact LR.emp (hA _ h0) h1 h2 h3 h4
   | some h1 h2 h3 h4 h5 h6 h7 h8 h9 => exact LR.some h1 h2 h3 h4 h5 h6 h7 h8 ⟨h9.1, h9.2.1, fun j a i c v a1 a2 a3 => (h9.2.2 j a i c v a1 a2 a3).sw hm hA⟩
  | _ => exact hb.elim
 | map es => cases mb with
  | blk b => exact hb
  | _ => exact hb.elim
 | mark => cases mb with
  | blk b => exact hb
  | _ => exact hb.elim
 | loop rd f nt env ps a c pend => cases mb with
  | blk b => obtain ⟨e', h1, h2⟩ := hb; exact ⟨e', h1, h2.sw hm hA⟩
  | _ => exact hb.elim
 | gone => cases mb with
  | gone => trivial
  | _ => exact hb.elim
end
theorem ro_one {call : CallT} {fv v : PV X.Γ} {xs : List (PV X.Γ)} {H H1 : List (PB X.Γ)} {W : Nat → Prop} {r : Nat} {cs cs1 : List (PV X.Γ)} (h0 : H[r]? = some (.cells cs)) (h9 : H1[r]? = some (.cells cs1)) (hro : noRo (H1.drop H.length) = true)
  (hs : SimW X P call fv xs (H.set r (.rcells cs)) v (H1.set r (.rcells cs1)) W) : SimW X P call fv xs H v H1 fun k => W k ∧ k ≠ r := fun A m h tf txs hr hf hx => by
 obtain ⟨mb0, q1, q2⟩ := hr.at_ r _ h0
 have hrl : r < H.length := (List.getElem?_eq_some_iff.1 h0).1
 have hrm : r < m.length := by rw [hr.len]; exact hrl
 cases mb0 with
 | blk c =>
  obtain ⟨cs', q3, q4⟩ := q2
  have hcm : c ∈ blks m := own_mem q1 rfl
  have hch := (List.getElem?_eq_some_iff.1 q3).1
  have hm : SwM m (m.set r (.rblk c)) := fun i => by
   by_cases e : i = r
   ·subst e; exact .inr (.inl ⟨c, q1, by rw [List.getElem?_set_self hrm]⟩)
   ·exact .inl (by rw [List.getElem?_set_ne (fun h => e h.symm)])
  have old : ∀ {i b : Nat}, Own (m.set r (.rblk c)) i b → i ≠ r ∧ Own m i b := fun {i b} ho => by
   obtain ⟨mb, a1, a2⟩ := ho
   by_cases e : i = r
   ·subst e; rw [List.getElem?_set_self hrm] at a1; cases a1; cases a2
   ·rw [List.getElem?_set_ne (fun h => e h.symm)] at a1; exact ⟨e, mb, a1, a2⟩
  have hsub : ∀ b, b ∈ blks (m.set r (.rblk c)) → b ∈ blks m ∧ b ≠ c := fun b hb => by
   obtain ⟨i, hi⟩ := blks_own hb
   obtain ⟨e, mb, a1, a2⟩ := old hi
   refine ⟨own_mem a1 a2, fun e2 => ?_⟩
   subst e2
   exact e (own_inj hr.nodup a1 q1 a2 rfl)
  have hA : ∀ b, AA A m b → AA (fun b => A b ∧ b ≠ c) (m.set r (.rblk c)) b := fun b hb => ⟨⟨hb.1, fun e => hb.2 (e ▸ hcm)⟩, fun h => hb.2 (hsub b h).1⟩
  have hr2 : HR X P (fun b => A b ∧ b ≠ c) (m.set r (.rblk c)) (H.set r (.rcells cs)) h := by
   refine ⟨by simp [hr.len], fun i b hi => ?_, nodup_of_own fun i j d a1 a2 => ?_, fun b hb => ⟨hr.up b hb, by omega⟩, fun b hb => ⟨hr.ownA b (hsub b hb).1, (hsub b hb).2⟩⟩
   ·by_cases e : i = r
    ·subst e
     rw [List.getElem?_set_self hrl] at hi; cases hi
     exact ⟨.rblk c, by rw [List.getElem?_set_self hrm], fun h => (hsub c h).2 rfl, cs', q3, q4.sw hm hA⟩
    ·rw [List.getElem?_set_ne (fun h => e h.symm)] at hi
     obtain ⟨mb, g1, g2⟩ := hr.at_ i b hi
     exact ⟨mb, by rw [List.getElem?_set_ne (fun h => e h.symm)]; exact g1, g2.sw hm hA fun d _ hn h => hn (hsub d h).1⟩
   ·obtain ⟨_, ma, u1, u2⟩ := old a1
    obtain ⟨_, mc, v1, v2⟩ := old a2
    exact own_inj hr.nodup u1 v1 u2 v2
  obtain ⟨w, h1, ws, m1, c1, c2, c3, c4, c5, c6⟩ := hs (fun b => A b ∧ b ≠ c) (m.set r (.rblk c)) h tf txs hr2 (hf.sw hm hA) (hx.sw hm hA)
  ·have hr1l : r < H1.length := (List.getElem?_eq_some_iff.1 h9).1
   obtain ⟨mb1, e1, e2⟩ := c2.at_ r (.rcells cs1) (by rw [List.getElem?_set_self hr1l])
   have e3 := c5 r (.rblk c) (by rw [List.getElem?_set_self hrm])
   have e4 : mb1 = .rblk c := by
    rcases e3 with e3 | e3 <;> rw [e1] at e3 <;> cases e3
    ·rfl
    ·exact e2.elim
   subst e4
   obtain ⟨p0, cs2, p1, p2⟩ := e2
   have hrm1 : r < m1.length := (List.getElem?_eq_some_iff.1 e1).1
   have hm1 : SwM m1 (m1.set r (.blk c)) := fun i => by
    by_cases e : i = r
    ·subst e; exact .inr (.inr ⟨c, e1, by rw [List.getElem?_set_self hrm1]⟩)
    ·exact .inl (by rw [List.getElem?_set_ne (fun h => e h.symm)])
   have at1 : ∀ {i : Nat} {mb : MB}, i ≠ r → (m1.set r (.blk c))[i]? = some mb → m1[i]? = some mb := fun {i mb} e h => by rw [List.getElem?_set_ne (fun h => e h.symm)] at h; exact h
   have hb1 : ∀ b, b ∈ blks (m1.set r (.blk c)) → b = c ∨ b ∈ blks m1 := fun b hb => by
    obtain ⟨i, mb, a1, a2⟩ := blks_own hb
    by_cases e : i = r
    ·subst e; rw [List.getElem?_set_self hrm1] at a1; cases a1; cases a2; exact .inl rfl
    ·exact .inr (own_mem (at1 e a1) a2)
   have hA1 : ∀ b, AA (fun b => A b ∧ b ≠ c) m1 b → AA A (m1.set r (.blk c)) b := fun b hb => ⟨hb.1.1, fun h => by
    rcases hb1 b h with e | e
    ·exact hb.1.2 e
    ·exact hb.2 e⟩
   refine ⟨w, h1, ws, m1.set r (.blk c), c1, ⟨by rw [List.length_set, c2.len, List.length_set], fun i b hi => ?_, nodup_of_own fun i j d a1 a2 => ?_, fun b hb => (c2.up b hb).1, fun b hb => ?_⟩, c3.sw hm1 hA1, ⟨c4.len, fun b hb hn => c4.same b hb fun h => hn (hsub b h).1, fun b hb => ?_, c4.grow⟩, fun i mb hi => ?_, fun b hb => ?_⟩
   ·by_cases e : i = r
    ·subst e
     rw [h9] at hi; cases hi
     exact ⟨.blk c, by rw [List.getElem?_set_self hrm1], cs2, p1, p2.sw hm1 hA1⟩
    ·obtain ⟨mb, g1, g2⟩ := c2.at_ i b (by rw [List.getElem?_set_ne (fun h => e h.symm)]; exact hi)
     refine ⟨mb, by rw [List.getElem?_set_ne (fun h => e h.symm)]; exact g1, g2.sw hm1 hA1 fun d hd hn hd2 => ?_⟩
     subst hd
     rcases hb1 d hd2 with e5 | e5
     ·subst e5
      rcases Nat.lt_or_ge i m.length with hlt | hge
      ·have hi2 : (m.set r (.rblk d))[i]? = m[i]? := by rw [List.getElem?_set_ne (fun h => e h.symm)]
       have hmi : m[i]? = some (.rblk d) := by
        rcases c5 i m[i] (by rw [hi2]; exact List.getElem?_eq_getElem hlt) with e6 | e6 <;> rw [g1] at e6 <;> simp only [Option.some.injEq] at e6
        ·rw [List.getElem?_eq_getElem hlt, ← e6]
        ·cases e6
       have hlH : i < H.length := by rw [← hr.len]; exact hlt
       obtain ⟨mb9, e7, e8⟩ := hr.at_ i _ (List.getElem?_eq_getElem hlH)
       rw [hmi] at e7; cases e7
       generalize H[i] = b9 at e8
       cases b9 <;> first | exact e8.elim | exact e8.1 hcm
      ·have e6 : (H1.drop H.length)[i - H.length]? = some b := by rw [List.getElem?_drop, ← hi]; congr 1; rw [hr.len] at hge; omega
       have e7 := noRo_at hro e6
       cases b <;> first | exact g2.elim | cases e7
     ·exact hn e5
   ·obtain ⟨ma, u1, u2⟩ := a1
    obtain ⟨mc, v1, v2⟩ := a2
    by_cases e : i = r <;> by_cases e' : j = r
    ·rw [e, e']
    ·subst e
     rw [List.getElem?_set_self hrm1] at u1; cases u1; cases u2
     exact absurd (own_mem (at1 e' v1) v2) p0
    ·subst e'
     rw [List.getElem?_set_self hrm1] at v1; cases v1; cases v2
     exact absurd (own_mem (at1 e u1) u2) p0
    ·exact own_inj c2.nodup (at1 e u1) (at1 e' v1) u2 v2
   ·rcases hb1 b hb with e | e
    ·subst e; exact hr.ownA _ hcm
    ·exact (c2.ownA b e).1
   ·rcases hb1 b hb with e | e
    ·subst e; exact .inl hcm
    ·rcases c4.new b e with g | g
     ·exact .inl (hsub b g).1
     ·exact .inr g
   ·by_cases e : i = r
    ·subst e; rw [q1] at hi; cases hi; exact .inl (by rw [List.getElem?_set_self hrm1])
    ·rw [List.getElem?_set_ne (fun h => e h.symm)]
     exact c5 i mb (by rw [List.getElem?_set_ne (fun h => e h.symm)]; exact hi)
   ·obtain ⟨k, k1, k2⟩ := c6 b hb
    obtain ⟨k3, k4⟩ := old k2
    exact ⟨k, ⟨k1, k3⟩, k4⟩
 | _ => exact q2.elim
theorem ro_use {call : CallT} {fv v : PV X.Γ} {xs : List (PV X.Γ)} {W : Nat → Prop} : ∀ {rs : List Nat} {H H1 Hr H1r : List (PB X.Γ)}, roB rs H = some Hr → roB rs H1 = some H1r → noRo (H1.drop H.length) = true → SimW X P call fv xs Hr v H1r W → SimW X P call fv xs H v H1 fun k => W k ∧ k ∉ rs
 | [], H, H1, Hr, H1r, h1, h2, hn, hs => by
  simp only [roB, Option.some.injEq] at h1 h2; subst h1; subst h2
  intro A m h tf txs a b c
  obtain ⟨w, h1, ws, m1, c1, c2, c3, c4, c5, c6⟩ := hs A m h tf txs a b c
  exact ⟨w, h1, ws, m1, c1, c2, c3, c4, c5, fun b hb => by obtain ⟨k, k1, k2⟩ := c6 b hb; exact ⟨k, ⟨k1, by simp⟩, k2⟩⟩
 | r :: rs, H, H1, Hr, H1r, h1, h2, hn, hs => by
  simp only [roB] at h1 h2
  split at h1
  ·rename_i cs e1
   split at h2
   ·rename_i cs1 e2
    have hlt : r < H.length := (List.getElem?_eq_some_iff.1 e1).1
    have := ro_one e1 e2 hn (ro_use h1 h2 (by rw [List.length_set, List.drop_set_of_lt hlt]; exact hn) hs)
    intro A m h tf txs a b c
    obtain ⟨w, h1, ws, m1, c1, c2, c3, c4, c5, c6⟩ := this A m h tf txs a b c
    exact ⟨w, h1, ws, m1, c1, c2, c3, c4, c5, fun b hb => by obtain ⟨k, ⟨⟨k1, k3⟩, k4⟩, k2⟩ := c6 b hb; exact ⟨k, ⟨k1, by simp [k3, k4]⟩, k2⟩⟩
   ·cases h2
  ·cases h1
theorem offN_mem {α : Type} {rs : List Nat} : ∀ {ks : List α} {i p : Nat} {k : α}, ks[p]? = some k → i + p ∉ rs → k ∈ offN rs i ks
 | [], _, _, _, h, _ => by simp at h
 | a :: ks, i, 0, k, h, hn => by
  simp only [List.getElem?_cons_zero, Option.some.injEq] at h; subst h
  simp only [offN]; rw [if_neg (by simpa using hn)]; exact List.mem_cons_self
 | a :: ks, i, p + 1, k, h, hn => by
  have := offN_mem (ks := ks) (i := i + 1) (p := p) (k := k) (by simpa using h) (by rwa [Nat.add_right_comm, Nat.add_assoc] )
  simp only [offN]; split
  ·exact this
  ·exact List.mem_cons_of_mem _ this
theorem frame_use (hX : CodOk X P) {call : CallT} {ks : List Nat} {H' Hp H H1 H1r : List (PB X.Γ)} {fv fv' v v' : PV X.Γ} {xs xs' : List (PV X.Γ)} {W : Nat → Prop} (hs : SimW X P call fv xs H v H1 W)
  (hnd : ks.Nodup) (hp : pickB H' ks = some Hp) (hH : renBs (posN ks) Hp = some H) (hf : renV (posN ks) fv' = some fv) (hx : renV.renVs (posN ks) xs' = some xs)
  (hv : renV (bk ks H'.length) v = some v') (hH1 : renBs (bk ks H'.length) H1 = some H1r) (hro : noRo (H1.drop ks.length) = true) :
  ∀ (A : Nat → Prop) (m' : List MB) (h : List HB) (tf : TV) (txs : List TV), HR X P A m' H' h → VR X P (AA A m') m' h fv' tf → VRs X P (AA A m') m' h xs' txs →
  ∃ w h1 ws m1, call tf txs h = some (w, h1, ws) ∧ HR X P A m1 (putAt ks H1r H' ++ H1r.drop ks.length) h1 ∧ VR X P (AA A m1) m1 h1 v' w ∧ Fr m' h m1 h1 ∧ Up m' m1 ∧ ∀ b ∈ ws, ∃ p k, ks[p]? = some k ∧ W p ∧ Own m' k b := by
 intro A m' h tf txs hr hf' hx'
 have hpg := pickB_get hp
 have hHg := renBs_get hH
 have hkH : ∀ {p k : Nat}, ks[p]? = some k → k < m'.length := fun {p k} hk => by
  obtain ⟨b, q1, _⟩ := hpg.2 hk
  rw [hr.len]; exact (List.getElem?_eq_some_iff.1 q1).1
 have hkm : ∀ k ∈ ks, k < m'.length := fun k hk => by
  obtain ⟨i, hi⟩ := List.getElem?_of_mem hk
  exact hkH hi
 let m : List MB := ks.map fun k => m'.getD k .gone
 have hm : ∀ {p k : Nat}, ks[p]? = some k → m[p]? = m'[k]? := fun {p k} hk => by
  show (ks.map _)[p]? = _
  rw [List.getElem?_map, hk]
  have := hkH hk
  simp [List.getD_eq_getElem?_getD, this]
 have hmlen : m.length = ks.length := List.length_map ..
 have hmold : ∀ {p : Nat} {mb : MB}, m[p]? = some mb → ∃ k, ks[p]? = some k ∧ m'[k]? = some mb := fun {p mb} hpm => by
  have : p < ks.length := by rw [← hmlen]; exact (List.getElem?_eq_some_iff.1 hpm).1
  have hk := List.getElem?_eq_getElem this
  exact ⟨_, hk, by rw [← hm hk]; exact hpm⟩
 have hsub : ∀ b, b ∈ blks m → b ∈ blks m' := fun b hb => by
  obtain ⟨j, mb, q1, q2⟩ := blks_own hb
  obtain ⟨k, _, q3⟩ := hmold q1
  exact own_mem q3 q2
 have hdis : ∀ {i : Nat} {mb : MB} {b : Nat}, i ∉ ks → m'[i]? = some mb → mb.own = some b → b ∉ blks m := fun {i mb b} hi h1 h2 hb => by
  obtain ⟨j, mc, q1, q2⟩ := blks_own hb
  obtain ⟨k, q3, q4⟩ := hmold q1
  have := own_inj hr.nodup h1 q4 h2 q2
  subst this
  exact hi (List.mem_of_getElem? q3)
 let A2 : Nat → Prop := fun b => A b ∧ (b ∈ blks m' → b ∈ blks m)
 have hA : ∀ b, AA A m' b → AA A2 m b := fun b hb => ⟨⟨hb.1, fun h9 => absurd h9 hb.2⟩, fun h9 => hb.2 (hsub b h9)⟩
 have hg : ∀ i j, posN ks i = some j → m[j]? = m'[i]? := fun i j hij => hm (posN_get hij)
 have hr2 : HR X P A2 m H h := by
  refine ⟨by rw [hmlen, hHg.1, hpg.1], fun j b hj => ?_, nodup_of_own fun i j c q1 q2 => ?_, fun b hb => ⟨hr.up b hb, fun h9 => absurd (hr.inb h9) (by omega)⟩, fun b hb => ⟨hr.ownA b (hsub b hb), fun _ => hb⟩⟩
  ·obtain ⟨b0, q1, q2⟩ := hHg.2 hj
   have hj2 : j < ks.length := by rw [← hpg.1]; exact (List.getElem?_eq_some_iff.1 q1).1
   have hk := List.getElem?_eq_getElem hj2
   obtain ⟨b9, q5, q6⟩ := hpg.2 hk
   rw [q1] at q6; cases q6
   obtain ⟨mb, q3, q4⟩ := hr.at_ _ _ q5
   exact ⟨mb, by rw [hm hk]; exact q3, renB_BR hX hg hA (fun c _ h9 h8 => h9 (hsub c h8)) q4 q2⟩
  ·obtain ⟨ma, a1, a2⟩ := q1
   obtain ⟨mc, c1, c2⟩ := q2
   obtain ⟨k, a3, a4⟩ := hmold a1
   obtain ⟨l, c3, c4⟩ := hmold c1
   have e := own_inj hr.nodup a4 c4 a2 c2
   subst e
   exact (List.getElem?_inj (List.getElem?_eq_some_iff.1 a3).1 hnd).1 (by rw [a3, c3])
 obtain ⟨w, h1, ws, m1, c1, c2, c3, c4, c5, c6⟩ := hs A2 m h tf txs hr2 (renV_VR hg hA hX hf' hf) (renVs_VR hX hg hA hx' hx)
 have hm1len : ks.length ≤ m1.length := by
  rcases Nat.eq_zero_or_pos ks.length with e | e
  ·omega
  ·have hlt : ks.length - 1 < m.length := by omega
   have := c5 (ks.length - 1) m[ks.length - 1] (List.getElem?_eq_getElem hlt)
   rcases this with g | g <;> (have := (List.getElem?_eq_some_iff.1 g).1; omega)
 let m1' : List MB := putAt ks m1 m' ++ m1.drop ks.length
 have hn : m'.length = H'.length := hr.len
 have lenL : (putAt ks m1 m').length = m'.length := putAt_len
 have at_in : ∀ {p k : Nat}, ks[p]? = some k → m1'[k]? = m1[p]? := fun {p k} hk => by
  show (putAt ks m1 m' ++ _)[k]? = _
  rw [List.getElem?_append_left (by rw [lenL]; exact hkH hk), putAt_in hnd hkm hm1len hk]
 have at_out : ∀ {i : Nat}, i < m'.length → i ∉ ks → m1'[i]? = m'[i]? := fun {i} hi hk => by
  show (putAt ks m1 m' ++ _)[i]? = _
  rw [List.getElem?_append_left (by rw [lenL]; exact hi), putAt_out hk]
 have at_new : ∀ {j : Nat}, ks.length ≤ j → m1'[m'.length + (j - ks.length)]? = m1[j]? := fun {j} hj => by
  show (putAt ks m1 m' ++ _)[_]? = _
  rw [List.getElem?_append_right (by rw [lenL]; omega), lenL, Nat.add_sub_cancel_left, List.getElem?_drop]
  congr 1; omega
 have hgb : ∀ j i, bk ks H'.length j = some i → m1'[i]? = m1[j]? := fun j i hij => by
  unfold bk at hij
  split at hij
  ·rename_i k hk; cases hij; exact at_in hk
  ·rename_i hk
   cases hij
   rw [← hn]
   exact at_new (by rw [List.getElem?_eq_none_iff] at hk; exact hk)
 have hcase : ∀ {i : Nat} {mb : MB}, m1'[i]? = some mb → (∃ p, ks[p]? = some i ∧ m1[p]? = some mb) ∨ (i < m'.length ∧ i ∉ ks ∧ m'[i]? = some mb) ∨ (∃ j, ks.length ≤ j ∧ i = m'.length + (j - ks.length) ∧ m1[j]? = some mb) := fun {i mb} hi => by
  rcases Nat.lt_or_ge i m'.length with hlt | hge
  ·by_cases hk : i ∈ ks
   ·obtain ⟨p, hp⟩ := List.getElem?_of_mem hk
    exact .inl ⟨p, hp, by rw [← at_in hp]; exact hi⟩
   ·exact .inr (.inl ⟨hlt, hk, by rw [← at_out hlt hk]; exact hi⟩)
  ·refine .inr (.inr ⟨i - m'.length + ks.length, by omega, by omega, ?_⟩)
   rw [← at_new (by omega)]
   rw [← hi]; congr 1; omega
 have hbl : ∀ {b : Nat}, b ∈ blks m1' → b ∈ blks m1 ∨ ∃ i mb, i ∉ ks ∧ m'[i]? = some mb ∧ mb.own = some b := fun {b} hb => by
  obtain ⟨i, mb, q1, q2⟩ := blks_own hb
  rcases hcase q1 with ⟨p, _, q3⟩ | ⟨_, q3, q4⟩ | ⟨j, _, _, q3⟩
  ·exact .inl (own_mem q3 q2)
  ·exact .inr ⟨i, mb, q3, q4, q2⟩
  ·exact .inl (own_mem q3 q2)
 have hunp : ∀ {i b : Nat} {mb : MB}, i ∉ ks → m'[i]? = some mb → mb.own = some b → b ∉ blks m1 := fun {i b mb} h1 h2 h3 h4 => by
  rcases c4.new b h4 with g | g
  ·exact hdis h1 h2 h3 g
  ·exact absurd (hr.inb (own_mem h2 h3)) (by omega)
 have hA3 : ∀ b, AA A2 m1 b → AA A m1' b := fun b hb => ⟨hb.1.1, fun h9 => by
  rcases hbl h9 with g | ⟨i, mb, g1, g2, g3⟩
  ·exact hb.2 g
  ·exact hdis g1 g2 g3 (hb.1.2 (own_mem g2 g3))⟩
 have hF : Fr m' h m1' h1 := ⟨c4.len, fun b hb hnb => c4.same b hb fun h9 => hnb (hsub b h9), fun b hb => by
  rcases hbl hb with g | ⟨i, mb, g1, g2, g3⟩
  ·rcases c4.new b g with g | g
   ·exact .inl (hsub b g)
   ·exact .inr g
  ·exact .inl (own_mem g2 g3), c4.grow⟩
 have hU : Up m' m1' := fun i mb hi => by
  have hlt := (List.getElem?_eq_some_iff.1 hi).1
  by_cases hk : i ∈ ks
  ·obtain ⟨p, hp⟩ := List.getElem?_of_mem hk
   rw [at_in hp]
   exact c5 p mb (by rw [hm hp]; exact hi)
  ·exact .inl (by rw [at_out hlt hk]; exact hi)
 have hr1g := renBs_get hH1
 have lenR : m1.length = H1.length := c2.len
 refine ⟨w, h1, ws, m1', c1, ⟨?_, fun i b hi => ?_, ?_, fun b hb => (c2.up b hb).1, fun b hb => ?_⟩, renV_VR hgb hA3 hX c3 hv, hF, hU, fun b hb => ?_⟩
 ·show (putAt ks m1 m' ++ _).length = _
  rw [List.length_append, List.length_append, putAt_len, putAt_len, List.length_drop, List.length_drop, hr1g.1, lenR, hn]
 ·have hRlen : ks.length ≤ H1r.length := by rw [hr1g.1, ← lenR]; exact hm1len
  have hkH' : ∀ k ∈ ks, k < H'.length := fun k hk => by rw [← hn]; exact hkm k hk
  have back : ∀ {j : Nat} {b : PB X.Γ}, H1r[j]? = some b → ∃ mb, m1[j]? = some mb ∧ BR X P (AA A m1') m1' h1 b mb := fun {j b} hj => by
   obtain ⟨b0, q1, q2⟩ := hr1g.2 hj
   obtain ⟨mb, q3, q4⟩ := c2.at_ j b0 q1
   refine ⟨mb, q3, renB_BR hX hgb hA3 (fun c e h9 h8 => ?_) q4 q2⟩
   rcases hbl h8 with g | ⟨i, mb', g1, g2, g3⟩
   ·exact h9 g
   ·subst e
    rcases Nat.lt_or_ge j ks.length with hj1 | hj1
    ·have hk := List.getElem?_eq_getElem hj1
     have hj2 : j < m.length := by rw [hmlen]; exact hj1
     have hmj : m[j]? = some (.rblk c) := by
      rcases c5 j _ (List.getElem?_eq_getElem hj2) with e | e <;> rw [q3] at e <;> simp only [Option.some.injEq] at e
      ·rw [List.getElem?_eq_getElem hj2, ← e]
      ·cases e
     obtain ⟨k, e1, e2⟩ := hmold hmj
     obtain ⟨b9, e3, _⟩ := hpg.2 e1
     obtain ⟨mb9, e4, e5⟩ := hr.at_ _ _ e3
     rw [e2] at e4; cases e4
     cases b9 <;> first | exact e5.elim | exact e5.1 (own_mem g2 g3)
    ·have e1 : (H1.drop ks.length)[j - ks.length]? = some b0 := by rw [List.getElem?_drop, ← q1]; congr 1; omega
     have e2 := noRo_at hro e1
     cases b0 <;> first | exact q4.elim | cases e2
  rcases Nat.lt_or_ge i H'.length with hlt | hge
  ·rw [List.getElem?_append_left (by rw [putAt_len]; exact hlt)] at hi
   by_cases hk : i ∈ ks
   ·obtain ⟨p, hpk⟩ := List.getElem?_of_mem hk
    rw [putAt_in hnd hkH' hRlen hpk] at hi
    obtain ⟨mb, q1, q2⟩ := back hi
    exact ⟨mb, by rw [at_in hpk]; exact q1, q2⟩
   ·rw [putAt_out hk] at hi
    obtain ⟨mb, q1, q2⟩ := hr.at_ i b hi
    refine ⟨mb, by rw [at_out (by rw [hn]; exact hlt) hk]; exact q1, q2.step hF hU fun c hc => ?_⟩
    exact c4.same c (hr.inb (own_mem q1 hc)) (hdis hk q1 hc)
  ·rw [List.getElem?_append_right (by rw [putAt_len]; exact hge), putAt_len, List.getElem?_drop] at hi
   obtain ⟨mb, q1, q2⟩ := back hi
   refine ⟨mb, ?_, q2⟩
   have := at_new (j := ks.length + (i - H'.length)) (by omega)
   rw [q1] at this
   rw [← this]; congr 1; omega
 ·refine nodup_of_own fun i j c q1 q2 => ?_
  obtain ⟨ma, a1, a2⟩ := q1
  obtain ⟨mc, b1, b2⟩ := q2
  rcases hcase a1 with ⟨p, a3, a4⟩ | ⟨a3, a4, a5⟩ | ⟨p, a3, a4, a5⟩ <;> rcases hcase b1 with ⟨q, b3, b4⟩ | ⟨b3, b4, b5⟩ | ⟨q, b3, b4, b5⟩
  ·have := own_inj c2.nodup a4 b4 a2 b2; subst this; rw [a3] at b3; cases b3; rfl
  ·exact absurd (own_mem a4 a2) (hunp b4 b5 b2)
  ·have := own_inj c2.nodup a4 b5 a2 b2
   subst this
   have := (List.getElem?_eq_some_iff.1 a3).1; omega
  ·exact absurd (own_mem b4 b2) (hunp a4 a5 a2)
  ·exact own_inj hr.nodup a5 b5 a2 b2
  ·exact absurd (own_mem b5 b2) (hunp a4 a5 a2)
  ·have := own_inj c2.nodup a5 b4 a2 b2
   subst this
   have := (List.getElem?_eq_some_iff.1 b3).1; omega
  ·exact absurd (own_mem a5 a2) (hunp b4 b5 b2)
  ·have := own_inj c2.nodup a5 b5 a2 b2; subst this; omega
 ·rcases hbl hb with g | ⟨i, mb, g1, g2, g3⟩
  ·exact (c2.ownA b g).1
  ·exact hr.ownA b (own_mem g2 g3)
 ·obtain ⟨j, hw, mb, q1, q2⟩ := c6 b hb
  obtain ⟨k, q3, q4⟩ := hmold q1
  exact ⟨j, k, q3, hw, mb, q4, q2⟩
end
end Pv
namespace Pv
open Go Tw
section
variable {X : Cod} {P : Program} {A B F : Nat → Prop} {m m' : List MB} {h h' : List HB} {H H' : List (PB X.Γ)}
variable {call : CallT} {orc : Orc X.Γ} {site : Nat → Bool} {ρ : Type} {y : ρ}
def Went (X : Cod) (P : Program) (A : Nat → Prop) (m : List MB) (call : CallT) (site : Nat → Bool) (ts : St) (o : Oper) (k : PE X.Γ → PSt X.Γ → PI → PT X.Γ → OT ρ) (y : ρ) : Prop :=
 ∃ pe ps1 pi an', OpR X P A m call site ts o pe ps1 pi ∧ (k pe ps1 pi an').Ends y
theorem went_mem {ps : PSt X.Γ} {ts : St} (hR : StR X P A m ps ts) {o : Oper} {k : PE X.Γ → PSt X.Γ → PI → PT X.Γ → OT ρ} {r : Option (TV × St × Inf)} {v : PV X.Γ} {H1 : List (PB X.Γ)} {pi : PI} {an : PT X.Γ} (hm : MemR X P A m ts r v H1 pi)
  (ho : opT P call site ts o = r.map fun (v, s, i) => (.val v, s, i)) (hk : (k (.val v) { ps with heap := H1 } pi an).Ends y) : Went X P A m call site ts o k y := by
 obtain ⟨w, h1, ti, m1, rfl, e1, e2, e3, e4, e5, e6⟩ := hm
 exact ⟨.val v, _, _, _, ⟨.val w, _, ti, m1, ho, rfl, rfl, hR.step e1 e3 e4, e2, e3, e4, e5, e6⟩, hk⟩
theorem went_val {ps : PSt X.Γ} {ts : St} (hR : StR X P A m ps ts) {o : Oper} {k : PE X.Γ → PSt X.Γ → PI → PT X.Γ → OT ρ} {v : PV X.Γ} {w : TV} {pi : PI} {an : PT X.Γ} (hv : VR X P (AA A m) m ts.heap v w) (ho : opT P call site ts o = some (.val w, ts, noInf)) (hk : (k (.val v) ps pi an).Ends y) : Went X P A m call site ts o k y :=
 ⟨.val v, _, _, _, opR_pure hR ho (per_of hv), hk⟩
theorem div_ok {op : BinOp} {a b v : PV X.Γ} {ta tb : TV} {ps : List Prop} {t : TypeId} {x z : Operand} (ha : VR X P A m h a ta) (hb : VR X P A m h b tb) (hd : pdiv op a b = some (v, ps)) (hp : ∀ p ∈ ps, p) :
  ∃ w, binT P op t x z ta tb = some w ∧ VR X P A m h v w := by
 unfold pdiv at hd
 split at hd
 ·cases ha with
  | gone hi _ _ => simp [idOf] at hi
  | int =>
   cases hb with
   | gone hi _ _ => simp [idOf] at hi
   | int =>
    split at hd
    ·split at hd
     ·rename_i e; subst e; cases hd; exact ⟨_, binT_quo (hp _ (.head _)), .int _ _⟩
     ·cases hd
    ·split at hd
     ·rename_i e; subst e; cases hd; exact ⟨_, binT_rem (hp _ (.head _)), .int _ _⟩
     ·cases hd
    ·cases hd; exact ⟨_, binT_shl (hp _ (.head _)), .int _ _⟩
    ·cases hd; exact ⟨_, binT_shr (hp _ (.head _)), .int _ _⟩
    ·cases hd
 ·cases hd
theorem pop_ok (hX : CodOk X P) (hO : OrcOk X P call orc) {ps : PSt X.Γ} {ts : St} (hR : StR X P A m ps ts) {o : Oper} {an : PT X.Γ} {k : PE X.Γ → PSt X.Γ → PI → PT X.Γ → OT ρ} (hk : (popK X P orc (Sim X P call) site ps o an k).Ends y) : Went X P A m call site ts o k y := by
 have hE := hR.env
 unfold popK at hk
 split at hk
 ·-- move
  rename_i x ho
  split at hk
  ·rename_i v hv
   obtain ⟨e, h1, h2⟩ := evO_VR hE hv
   exact ⟨_, _, _, _, opR_pure hR (by simp only [opT, ho, h1, Option.map_some]) h2, hk⟩
  ·exact hk.elim
 ·rename_i x ho
  split at hk
  ·rename_i v hv
   obtain ⟨e, h1, h2⟩ := evO_VR hE hv
   exact ⟨_, _, _, _, opR_pure hR (by simp only [opT, ho, h1, Option.map_some]) h2, hk⟩
  ·exact hk.elim
 ·-- pick
  rename_i c a b ho
  split at hk
  ·rename_i u hu
   obtain ⟨tu, h1, h2⟩ := ptest_VR hE hu
   obtain ⟨t, an', rfl, hk⟩ := byB_ok hk h2
   split at hk
   ·rename_i v hv
    obtain ⟨e, g1, g2⟩ := evO_VR hE hv
    exact ⟨_, _, _, _, opR_pure (hR.know h1) (by simp only [opT, ho, h1, g1, Option.map_some]) g2, hk⟩
   ·exact hk.elim
  ·exact hk.elim
 ·-- alloc
  rename_i e ho
  split at hk
  ·rename_i z hz
   obtain ⟨z', g1, g2⟩ := zero_VR (A := AA A m) (m := m) (h := ts.heap) hz
   obtain ⟨m1, e1, e2, e3, e4, e5, e6⟩ := newBox_ok hR (site := site (o.dst.getD 0)) g2
   exact ⟨_, _, _, _, ⟨_, _, noInf, m1, by simp only [opT, ho, g1, Option.map_some], e1, e2, e3, e4, e5, e6, .none, fun b hb => by cases hb⟩, hk⟩
  ·exact hk.elim
 ·-- box
  rename_i t x ho
  split at hk
  ·rename_i v hv
   obtain ⟨w, g1, g2⟩ := vO_VR hE hv
   split at hk
   ·rename_i hone
    have hc := cells_VR g2
    obtain ⟨m1, e1, e2, e3, e4, e5, e6⟩ := newBox_ok hR (site := site (o.dst.getD 0)) hc
    exact ⟨_, _, _, _, ⟨_, _, noInf, m1, by simp only [opT, ho, g1, allOne_VR hc, hone, if_true], e1, e2, e3, e4, e5, e6, .none, fun b hb => by cases hb⟩, hk⟩
   ·exact hk.elim
  ·exact hk.elim
 ·-- build
  rename_i t qs ho
  split at hk
  ·rename_i vs hvs
   obtain ⟨ws, g1, g2⟩ := vPs_VR hE hvs
   split at hk
   ·rename_i v hv
    obtain ⟨w, g3, g4⟩ := build_VR g2 hv
    exact went_val hR g4 (by simp only [opT, ho, g1, g3, Option.map_some]) hk
   ·exact hk.elim
  ·exact hk.elim
 ·-- buildSlice
  rename_i t len qs ho
  split at hk
  ·rename_i vs hvs
   obtain ⟨ws, g1, g2⟩ := vPs_VR hE hvs
   split at hk
   ·rename_i v H1 hv
    refine went_mem hR (buildSlice_ok hX hR g2 hv) ?_ hk
    simp only [opT, ho, g1, Option.map_map]
    rfl
   ·exact hk.elim
  ·exact hk.elim
 ·-- load
  rename_i t a ho
  split at hk
  ·rename_i pa ha
   obtain ⟨ea, g1, g2⟩ := evO_VR hE ha
   split at hk
   ·rename_i v i hv
    obtain ⟨w, ti, g3, g4, g5, g6⟩ := load_ok hX hR g2 hv
    exact ⟨.val v, _, _, _, ⟨.val w, ts, ti, m, by simp only [opT, ho, g1, g3, Option.map_some], rfl, rfl, hR, g4, .refl, .refl, g5, fun b hb => by rw [g6] at hb; cases hb⟩, hk⟩
   ·exact hk.elim
  ·exact hk.elim
 ·-- store
  rename_i t a x ho
  split at hk
  ·rename_i pa v ha hv
   obtain ⟨ea, g1, g2⟩ := evO_VR hE ha
   obtain ⟨w, g3, g4⟩ := vO_VR hE hv
   split at hk
   ·rename_i s i hs
    obtain ⟨ts1, ti, m1, e1, e2, e3, e4, e5, e6, e7, e8⟩ := store_ok hX hR g2 g4 hs
    exact ⟨.undef, _, _, _, ⟨.undef, ts1, ti, m1, by simp only [opT, ho, g1, g3, e1, Option.map_some], e2, e3, e4, trivial, e5, e6, e7, e8⟩, hk⟩
   ·exact hk.elim
  ·exact hk.elim
 ·-- nilCheck
  rename_i x ho
  have go : ∀ {pe : PE X.Γ} {ev : EV}, evO ts.env x = some ev → PER X P (AA A m) m ts.heap pe ev → (match ev with | .loc _ _ => True | .val (.ptr _ _ _) => True | .val (.fn _ _ _) => True | _ => False) → (k pe ps pi0 an).Ends y → Went X P A m call site ts o k y := by
   intro pe ev h1 h2 h3 h4
   refine ⟨_, _, _, _, opR_pure hR ?_ h2, h4⟩
   cases ev with
   | loc a b => simp only [opT, ho, h1]
   | val v => cases v <;> simp at h3 <;> simp only [opT, ho, h1]
   | undef => simp at h3
  split at hk
  ·rename_i a b ha
   obtain ⟨ea, g1, g2⟩ := evO_VR hE ha
   have := per_loc g2; subst this
   exact go g1 g2 trivial hk
  ·rename_i a b c ha
   obtain ⟨ea, g1, g2⟩ := evO_VR hE ha
   obtain ⟨w, rfl, g3⟩ := per_val g2
   split at hk
   ·rename_i cs hb
    obtain ⟨mb, f1, f2⟩ := hR.heap.at_ a _ hb
    cases mb with
    | blk cb =>
     cases g3 with
     | ptr e => exact go g1 g2 trivial hk
     | gone hi e _ => simp only [idOf, Option.some.injEq] at hi; subst hi; rw [f1] at e; cases e
    | _ => exact f2.elim
   ·rename_i cs hb
    obtain ⟨mb, f1, f2⟩ := hR.heap.at_ a _ hb
    cases mb with
    | rblk cb =>
     cases g3 with
     | ptr e => rw [f1] at e; cases e
     | gone hi e _ =>
      simp only [idOf, Option.some.injEq] at hi; subst hi; rw [f1] at e
      cases e with
      | r _ e => simp only [roV, Option.some.injEq] at e; subst e; exact go g1 g2 trivial hk
    | _ => exact f2.elim
   ·exact hk.elim
  ·rename_i a b c ha
   obtain ⟨ea, g1, g2⟩ := evO_VR hE ha
   obtain ⟨w, rfl, g3⟩ := per_val g2
   split at hk
   ·rename_i q1 q2 q3 q4 hb
    obtain ⟨mb, f1, f2⟩ := hR.heap.at_ a _ hb
    cases mb with
    | lst cb =>
     cases g3 with
     | row e => exact go g1 g2 trivial hk
     | gone hi e _ => simp only [idOf, Option.some.injEq] at hi; subst hi; rw [f1] at e; cases e
    | _ => exact f2.elim
   ·exact hk.elim
  ·rename_i a b c ha
   obtain ⟨ea, g1, g2⟩ := evO_VR hE ha
   obtain ⟨w, rfl, g3⟩ := per_val g2
   cases g3 with
   | el => exact go g1 g2 trivial hk
   | gone hi _ _ => simp [idOf] at hi
  ·rename_i a b c ha
   obtain ⟨ea, g1, g2⟩ := evO_VR hE ha
   obtain ⟨w, rfl, g3⟩ := per_val g2
   cases g3 with
   | fn => exact go g1 g2 trivial hk
   | gone hi _ _ => simp [idOf] at hi
  ·exact hk.elim
 ·-- binOp
  rename_i op t x z w0 ho
  split at hk
  ·rename_i a b ha hb
   obtain ⟨ta, g1, g2⟩ := vO_VR hE ha
   obtain ⟨tb, g3, g4⟩ := vO_VR hE hb
   split at hk
   ·split at hk
    ·rename_i v ps hd
     obtain ⟨hp, hk⟩ := owe_ends hk
     obtain ⟨w, e1, e2⟩ := div_ok (P := P) (t := t) (x := x) (z := z) g2 g4 hd hp
     exact went_val hR e2 (by simp only [opT, ho, g1, g3, e1, Option.map_some]) hk
    ·exact hk.elim
   split at hk
   ·rename_i v q hv
    obtain ⟨w, e1, e2⟩ := lstNil_ok (x := x) (y := z) hR.heap g2 g4 hv hk.1
    exact went_val hR e2 (by simp only [opT, ho, g1, g3, e1, Option.map_some]) hk.2
   split at hk
   ·split at hk
    ·rename_i w r
     split at hk
     ·rename_i v ua ub e1 e2 e3
      obtain ⟨hbin, hk⟩ := hk
      rw [← toT_eq g2 e2, ← toT_eq g4 e3] at hbin
      exact went_val hR (ofT_VR e1) (by simp only [opT, ho, g1, g3, hbin, Option.map_some]) hk
     ·exact hk.elim
    ·exact hk.elim
   ·split at hk
    ·rename_i v hv
     obtain ⟨w, e1, e2⟩ := bin_ok g2 g4 hv
     exact went_val hR e2 (by simp only [opT, ho, g1, g3, e1, Option.map_some]) hk
    ·exact hk.elim
  ·exact hk.elim
 ·-- unOp
  rename_i op t x ho
  split at hk
  ·rename_i a ha
   obtain ⟨ta, g1, g2⟩ := vO_VR hE ha
   split at hk
   ·rename_i v hv
    obtain ⟨w, e1, e2⟩ := un_ok g2 hv
    exact went_val hR e2 (by simp only [opT, ho, g1, e1, Option.map_some]) hk
   ·exact hk.elim
  ·exact hk.elim
 ·-- convert
  rename_i s d x ho
  split at hk
  ·rename_i a ha
   obtain ⟨ta, g1, g2⟩ := vO_VR hE ha
   split at hk
   ·split at hk
    ·rename_i w r
     split at hk
     ·rename_i v ua e1 e2
      obtain ⟨hbin, hk⟩ := hk
      rw [← toT_eq g2 e2] at hbin
      exact went_val hR (ofT_VR e1) (by simp only [opT, ho, g1, hbin, Option.map_some]) hk
     ·exact hk.elim
    ·exact hk.elim
   ·split at hk
    ·rename_i v hv
     obtain ⟨w, e1, e2⟩ := conv_ok g2 hv
     exact went_val hR e2 (by simp only [opT, ho, g1, e1, Option.map_some]) hk
    ·exact hk.elim
  ·exact hk.elim
 ·-- makeFunc
  rename_i f first cap ho
  split at hk
  ·rename_i a b ha hb
   obtain ⟨ta, g1, g2⟩ := vOs_VR hE ha
   obtain ⟨tb, g3, g4⟩ := vOs_VR hE hb
   exact went_val hR (.fn g2.1 g2.2 g4.1 g4.2) (by simp only [opT, ho, g1, g3]) hk
  ·exact hk.elim
 ·-- makeMap
  rename_i t r ho
  have hp := hR.heap.push (pb := .map []) (hb := .map []) (mb := .blk ts.heap.length) (.inl rfl) ⟨[], by simp, rfl, fun i a b ha => by simp at ha⟩
  have go : opT P call site ts o = some (.val (.map ts.heap.length), { ts with heap := ts.heap ++ [.map []] }, noInf) → ∀ {an : PT X.Γ}, (k (.val (.map ps.heap.length)) { ps with heap := ps.heap ++ [.map []] } pi0 an).Ends y → Went X P A m call site ts o k y := fun h1 an h2 =>
   ⟨.val (.map ps.heap.length), _, _, _, ⟨_, _, noInf, _, h1, rfl, rfl, hR.step hp.1 hp.2.1 hp.2.2, per_of (.map (by rw [← hR.heap.len]; simp)), hp.2.1, hp.2.2, .none, fun b hb => by cases hb⟩, h2⟩
  split at hk
  ·rename_i h1
   obtain ⟨w, g1, g2⟩ := vOpt_VR hE h1
   have := none_OR g2; subst this
   exact go (by simp only [opT, ho, g1]) hk
  ·rename_i k0 n0 kt vt h1 hu
   obtain ⟨w, g1, g2⟩ := vOpt_VR hE h1
   have := int_OR g2; subst this
   exact go (by simp only [opT, ho, g1, hu]) hk
  ·exact hk.elim
 ·-- makeSlice
  rename_i t l c ho
  split at hk
  ·rename_i vl vc hl hc
   obtain ⟨tl, g1, g2⟩ := vO_VR hE hl
   obtain ⟨tc, g3, g4⟩ := vO_VR hE hc
   split at hk
   ·rename_i v H1 qs hv
    obtain ⟨hq, hk⟩ := owe_ends hk
    refine went_mem hR (makeSlice_ok hX hR g2 g4 hv hq) ?_ hk
    simp only [opT, ho, g1, g3, Option.map_map]
    rfl
   ·exact hk.elim
  ·exact hk.elim
 ·-- slice
  rename_i t x lo hi mx ho
  split at hk
  ·rename_i px plo phi pmx hx hlo hhi hmx
   obtain ⟨ex, g1, g2⟩ := evO_VR hE hx
   obtain ⟨tlo, g3, g4⟩ := vOpt_VR hE hlo
   obtain ⟨thi, g5, g6⟩ := vOpt_VR hE hhi
   obtain ⟨tmx, g7, g8⟩ := vOpt_VR hE hmx
   split at hk
   ·rename_i n e hu
    split at hk
    ·split at hk
     ·rename_i v hv
      refine went_mem (H1 := ps.heap) hR (sliceArrW_ok hR g2 g4 g6 g8 hv) ?_ hk
      simp only [opT, ho, g1, g3, g5, g7, hu, Option.map_map]
      rfl
     ·exact hk.elim
    ·split at hk
     ·rename_i v H1 qs hv
      obtain ⟨hq, hk⟩ := owe_ends hk
      refine went_mem hR (sliceArr_ok hX hR g2 g4 g6 g8 hv hq) ?_ hk
      simp only [opT, ho, g1, g3, g5, g7, hu, Option.map_map]
      rfl
     ·exact hk.elim
   ·rename_i hnot
    have hop : ∀ {w : TV}, ex = .val w → opT P call site ts o = (sliceT P t w tlo thi tmx).map fun v => (.val v, ts, noInf) := by
     intro w e; subst e
     simp only [opT, ho, g1, g3, g5, g7]
    split at hk
    ·rename_i b
     obtain ⟨w, rfl, g9⟩ := per_val g2
     have : w = .str b := by
      cases g9 with
      | str => rfl
      | gone hi _ _ => simp [idOf] at hi
     subst this
     split at hk
     ·rename_i w r
      split at hk
      ·rename_i v tl th e1 e2 e3
       split at hk
       ·rename_i hnone
        obtain ⟨hs, hk⟩ := hk
        have h7 : tmx = none := by
         cases pmx with
         | none => exact none_OR g8
         | some _ => simp at hnone
        have h5 : tlo = tl := by
         cases plo with
         | none => simp at e2; rw [none_OR g4, e2]
         | some q =>
          obtain ⟨tq, rfl⟩ := some_OR g4
          simp only [Option.map_eq_some_iff] at e2
          obtain ⟨q1, q2, rfl⟩ := e2
          rw [toT_eq (show VR X P (AA A m) m ts.heap q tq from g4) q2]
        have h6 : thi = th := by
         cases phi with
         | none => simp at e3; rw [none_OR g6, e3]
         | some q =>
          obtain ⟨tq, rfl⟩ := some_OR g6
          simp only [Option.map_eq_some_iff] at e3
          obtain ⟨q1, q2, rfl⟩ := e3
          rw [toT_eq (show VR X P (AA A m) m ts.heap q tq from g6) q2]
        subst h5; subst h6; subst h7
        exact went_val hR (ofT_VR e1) (by rw [hop rfl, hs]; rfl) hk
       ·exact hk.elim
      ·exact hk.elim
     ·exact hk.elim
    ·rename_i px' hns
     obtain ⟨w, rfl, g9⟩ := per_val g2
     split at hk
     ·rename_i v qs hv
      obtain ⟨hq, hk⟩ := owe_ends hk
      obtain ⟨w', e1, e2⟩ := slice_ok hR g9 g4 g6 g8 hv hq
      exact went_val hR e2 (by rw [hop rfl, e1]; rfl) hk
     ·exact hk.elim
    ·exact hk.elim
  ·exact hk.elim
 ·-- fieldAddr
  rename_i t x f ho
  split at hk
  ·rename_i pa n ha hn
   obtain ⟨ea, g1, g2⟩ := evO_VR hE ha
   split at hk
   ·rename_i v hv
    obtain ⟨eb, g3, g4⟩ := off_ok hR g2 hv
    exact ⟨_, _, _, _, opR_pure hR (by simp only [opT, ho, g1, hn, g3, Option.map_some]) g4, hk⟩
   ·exact hk.elim
  ·exact hk.elim
 ·-- field
  rename_i t x f ho
  split at hk
  ·rename_i a ha
   obtain ⟨ta, g1, g2⟩ := vO_VR hE ha
   split at hk
   ·rename_i v hv
    obtain ⟨w, e1, e2⟩ := field_ok g2 hv
    exact went_val hR e2 (by simp only [opT, ho, g1, e1, Option.map_some]) hk
   ·exact hk.elim
  ·exact hk.elim
 ·-- indexAddr
  rename_i t x i ho
  split at hk
  ·rename_i pa vi ha hi
   obtain ⟨ea, g1, g2⟩ := evO_VR hE ha
   obtain ⟨ti, g3, g4⟩ := vO_VR hE hi
   split at hk
   ·rename_i v qs hv
    obtain ⟨hq, hk⟩ := owe_ends hk
    obtain ⟨eb, g5, g6⟩ := indexAddr_ok hR g2 g4 hv hq
    exact ⟨_, _, _, _, opR_pure hR (by simp only [opT, ho, g1, g3, g5, Option.map_some]) g6, hk⟩
   ·exact hk.elim
  ·exact hk.elim
 ·-- index
  rename_i t x i ho
  split at hk
  ·rename_i a vi ha hi
   obtain ⟨ta, g1, g2⟩ := vO_VR hE ha
   obtain ⟨ti, g3, g4⟩ := vO_VR hE hi
   split at hk
   ·split at hk
    ·rename_i w r
     split at hk
     ·rename_i v ua ui e1 e2 e3
      obtain ⟨hbin, hk⟩ := hk
      rw [← toT_eq g2 e2, ← toT_eq g4 e3] at hbin
      exact went_val hR (ofT_VR e1) (by simp only [opT, ho, g1, g3, hbin, Option.map_some]) hk
     ·exact hk.elim
    ·exact hk.elim
   ·split at hk
    ·rename_i v hv
     obtain ⟨w, e1, e2⟩ := index_ok g2 g4 hv
     exact went_val hR e2 (by simp only [opT, ho, g1, g3, e1, Option.map_some]) hk
    ·exact hk.elim
  ·exact hk.elim
 ·-- lookup
  rename_i t mm i ok ho
  split at hk
  ·rename_i vm vi hm hi
   obtain ⟨tm, g1, g2⟩ := vO_VR hE hm
   obtain ⟨ti, g3, g4⟩ := vO_VR hE hi
   obtain ⟨v, pi, an', w, e1, e2, e3, e4⟩ := look_ok hR g2 g4 hk
   refine ⟨.val v, _, _, _, ⟨.val w, ts, _, m, ?_, rfl, rfl, hR, e2, .refl, .refl, e4, fun b hb => by cases hb⟩, e3⟩
   simp only [opT, ho, g1, g3, e1, Option.map_some]
   cases tm <;> rfl
  ·exact hk.elim
 ·-- mapUpdate
  rename_i t mm i x ho
  split at hk
  ·rename_i vm vi vx hm hi hx
   obtain ⟨tm, g1, g2⟩ := vO_VR hE hm
   obtain ⟨ti, g3, g4⟩ := vO_VR hE hi
   obtain ⟨tx, g5, g6⟩ := vO_VR hE hx
   obtain ⟨ps1, pi, an', h1, tinf, e1, e2, e3, e4, e5, e6⟩ := upd_ok hR g2 g4 g6 hk
   exact ⟨.undef, _, _, _, ⟨.undef, { ts with heap := h1 }, tinf, m, by simp only [opT, ho, g1, g3, g5, e1, Option.map_some], rfl, rfl, e2, trivial, e3, .refl, e5, e6⟩, e4⟩
  ·exact hk.elim
 ·-- insert
  rename_i t mm i x ho
  split at hk
  ·rename_i vm vi vx hm hi hx
   obtain ⟨tm, g1, g2⟩ := vO_VR hE hm
   obtain ⟨ti, g3, g4⟩ := vO_VR hE hi
   obtain ⟨tx, g5, g6⟩ := vO_VR hE hx
   obtain ⟨ps1, pi, an', h1, tinf, e1, e2, e3, e4, e5, e6⟩ := upd_ok hR g2 g4 g6 hk
   exact ⟨.undef, _, _, _, ⟨.undef, { ts with heap := h1 }, tinf, m, by simp only [opT, ho, g1, g3, g5, e1, Option.map_some], rfl, rfl, e2, trivial, e3, .refl, e5, e6⟩, e4⟩
  ·exact hk.elim
 ·-- extract
  rename_i t i ho
  split at hk
  ·rename_i vs hv
   obtain ⟨w, g1, g2⟩ := vO_VR hE hv
   split at hk
   ·rename_i v hvi
    cases g2 with
    | tup h1 h2 =>
     obtain ⟨x, e1, e2⟩ := VRs.get ⟨h1, h2⟩ hvi
     exact went_val hR e2 (by simp only [opT, ho, g1, e1, Option.map_some]) hk
    | gone hi _ _ => simp [idOf] at hi
   ·exact hk.elim
  ·exact hk.elim
 ·-- call
  rename_i c ho
  split at hk
  ·rename_i az has
   obtain ⟨tas, g1, g2⟩ := vOs_VR hE has
   have hcall : ∀ {b : Builtin}, c.callee = .builtin b → ∀ {r : Option (TV × St × Inf)}, builtinT P b c.argTypes o.type ts tas = r → opT P call site ts o = r.map fun (v, s, i) => (.val v, s, i) := by
    intro b hb r hr
    simp only [opT, ho, callT, hb, g1, hr]
   split at hk
   ·rename_i hb
    split at hk
    ·rename_i x
     obtain ⟨tx, r, rfl, q1, q2⟩ := g2.inv
     have := q2.inv0; subst this
     split at hk
     ·rename_i v i hv
      obtain ⟨w, ti, e1, e2, e3, e4⟩ := len_ok hR.heap q1 hv
      exact ⟨.val v, _, _, _, ⟨.val w, ts, ti, m, by rw [hcall hb (r := some (w, ts, ti)) (by simp only [builtinT, e1, Option.map_some])]; rfl, rfl, rfl, hR, per_of e2, .refl, .refl, e3, fun b hb => by rw [e4] at hb; cases hb⟩, hk⟩
     ·exact hk.elim
    ·exact hk.elim
   ·rename_i hb
    split at hk
    ·rename_i d x
     obtain ⟨td, r, rfl, q1, q2⟩ := g2.inv
     obtain ⟨tx, r, rfl, q3, q4⟩ := q2.inv
     have := q4.inv0; subst this
     split at hk
     ·rename_i v H1 i qs hv
      obtain ⟨hq, hk⟩ := owe_ends hk
      exact went_mem hR (append_ok hX hR q1 q3 hv hq) (hcall hb rfl) hk
     ·exact hk.elim
    ·exact hk.elim
   ·rename_i hb
    split at hk
    ·rename_i d x
     obtain ⟨td, r, rfl, q1, q2⟩ := g2.inv
     obtain ⟨tx, r, rfl, q3, q4⟩ := q2.inv
     have := q4.inv0; subst this
     split at hk
     ·rename_i v H1 i hv
      exact went_mem hR (copy_ok hX hR q1 q3 hv) (hcall hb rfl) hk
     ·exact hk.elim
    ·exact hk.elim
   ·rename_i hb
    split at hk
    ·rename_i v hv
     obtain ⟨w, e1, e2⟩ := minMax_ok g2 hv
     refine went_val hR e2 ?_ hk
     rw [hcall hb (r := some (w, ts, noInf)) (by simp only [builtinT, e1, Option.map_some])]; rfl
    ·exact hk.elim
   ·rename_i hb
    split at hk
    ·rename_i v hv
     obtain ⟨w, e1, e2⟩ := minMax_ok g2 hv
     refine went_val hR e2 ?_ hk
     rw [hcall hb (r := some (w, ts, noInf)) (by simp only [builtinT, e1, Option.map_some])]; rfl
    ·exact hk.elim
   ·rename_i f hb
    split at hk
    ·rename_i fv hfv
     obtain ⟨tf, f1, f2⟩ := vO_VR hE hfv
     have hop : ∀ {w : TV} {h1 : List HB} {ws : List Nat}, call tf tas ts.heap = some (w, h1, ws) → opT P call site ts o = some (.val w, { ts with heap := h1 }, ⟨true, [], ws.map .h⟩) := by
      intro w h1 ws hc
      simp only [opT, ho, callT, hb, g1, f1, hc]
     unfold pcallK at hk
     split at hk
     ·rename_i v H1 r
      obtain ⟨hs, hk⟩ := hk
      obtain ⟨w, h1, ws, m1, c1, c2, c3, c4, c5, c6⟩ := hs A m ts.heap tf tas hR.heap f2 g2
      refine ⟨.val v, _, _, _, ⟨.val w, _, _, m1, hop c1, rfl, rfl, hR.step c2 c4 c5, per_of c3, c4, c5, ⟨fun _ => rfl, fun k hk => (by cases hk), fun k hk => ?_, fun b hb => ?_, fun b hb => (by cases hb), fun h => (by cases h)⟩, fun b hb => ?_⟩, hk⟩
      ·simp at hk
      ·simp at hb; exact .inr ⟨rfl, c6 b hb⟩
      ·simp at hb; exact c6 b hb
     ·split at hk
      ·rename_i Hp hnd hp
       split at hk
       ·rename_i Hs fv1 xs1 hHs hfv1 hxs1
        split at hk
        ·rename_i v1 H1r hv1 hH1r
         obtain ⟨hs, hk⟩ := hk
         simp only [Bool.and_eq_true, decide_eq_true_eq] at hnd
         obtain ⟨w, h1, ws, m1, c1, c2, c3, c4, c5, c6⟩ := frame_use hX hs.w hnd.1 hp hHs hfv1 hxs1 hv1 hH1r hnd.2 A m ts.heap tf tas hR.heap f2 g2
         refine ⟨.val v1, _, _, _, ⟨.val w, _, _, m1, hop c1, rfl, rfl, hR.step c2 c4 c5, per_of c3, c4, c5, ⟨fun _ => rfl, fun k hk => (by cases hk), fun k hk => ?_, fun b hb => ?_, fun b hb => (by cases hb), fun h => (by cases h)⟩, fun b hb => ?_⟩, hk⟩
         ·simp at hk
         ·simp at hb
          obtain ⟨_, k, h8, _, h9⟩ := c6 b hb
          exact .inl ⟨k, List.mem_map.2 ⟨k, List.mem_of_getElem? h8, rfl⟩, h9⟩
         ·simp at hb
          obtain ⟨_, k, _, _, mb, h8, h9⟩ := c6 b hb
          exact own_mem h8 h9
        ·exact hk.elim
       ·exact hk.elim
      ·exact hk.elim
     ·split at hk
      ·rename_i Hp hnd hp
       split at hk
       ·rename_i Hs fv1 xs1 hHs hfv1 hxs1
        split at hk
        ·rename_i v1 H1r Hs2 H2 hv1 hH1r hro1 hro2
         obtain ⟨hs, hk⟩ := hk
         simp only [Bool.and_eq_true, decide_eq_true_eq] at hnd
         have hsl : Hs.length = _ := (renBs_get hHs).1.trans (pickB_get hp).1
         obtain ⟨w, h1, ws, m1, c1, c2, c3, c4, c5, c6⟩ := frame_use hX (ro_use hro1 hro2 (by rw [hsl]; exact hnd.2) hs.w) hnd.1 hp hHs hfv1 hxs1 hv1 hH1r hnd.2 A m ts.heap tf tas hR.heap f2 g2
         refine ⟨.val v1, _, _, _, ⟨.val w, _, _, m1, hop c1, rfl, rfl, hR.step c2 c4 c5, per_of c3, c4, c5, ⟨fun _ => rfl, fun k hk => (by cases hk), fun k hk => ?_, fun b hb => ?_, fun b hb => (by cases hb), fun h => (by cases h)⟩, fun b hb => ?_⟩, hk⟩
         ·simp at hk
         ·simp at hb
          obtain ⟨p, k, h8, h7, h9⟩ := c6 b hb
          exact .inl ⟨k, List.mem_map.2 ⟨k, offN_mem h8 (by simpa using h7.2), rfl⟩, h9⟩
         ·simp at hb
          obtain ⟨_, k, _, _, mb, h8, h9⟩ := c6 b hb
          exact own_mem h8 h9
        ·exact hk.elim
       ·exact hk.elim
      ·exact hk.elim
     ·split at hk
      ·rename_i g first cap _
       cases f2 with
       | gone hi _ _ => simp [idOf] at hi
       | fn p1 p2 p3 p4 =>
        split at hk
        ·rename_i vs hvs
         split at hk
         ·rename_i v ext qs horc
          split at hk
          ·rename_i ext' hext
           obtain ⟨hq, hk⟩ := owe_ends hk
           obtain ⟨w, h1, m1, c1, c2, c3, c4, c5⟩ := con_use hX (hO _ _ _ _ _ horc hq) hR.heap hvs hext ⟨p1, p2⟩ g2 ⟨p3, p4⟩
           refine ⟨.val (shift ps.heap.length v), _, _, _, ⟨.val w, _, _, m1, hop c1, rfl, rfl, hR.step c2 c4 c5, per_of c3, c4, c5, ⟨fun _ => rfl, fun k hk => (by cases hk), fun k hk => (by simp at hk), fun b hb => (by simp at hb), fun b hb => (by cases hb), fun h => (by cases h)⟩, fun b hb => (by simp at hb)⟩, hk⟩
          ·exact hk.elim
         ·exact hk.elim
        ·exact hk.elim
      ·exact hk.elim
    ·exact hk.elim
   ·exact hk.elim
  ·exact hk.elim
 ·exact hk.elim
end
end Pv
namespace Pv
open Go Tw
inductive IRs : List MB → List HB → List PI → List Inf → Prop where
 | nil {m h} : IRs m h [] []
 | cons {m h p t m1 h1 ps ts} : (blks m).Nodup → (∀ b, b ∈ blks m → b < h.length) → IR m h p t → Fr m h m1 h1 → Up m m1 → (p.mv = false → ∀ (i : Nat), i < m.length → m1[i]? = some .gone → m[i]? = some .gone) → IRs m1 h1 ps ts → IRs m h (p :: ps) (t :: ts)
theorem addW_mem {fl b c : Nat} {ws : List Nat} (h : c ∈ addW fl b ws) : c ∈ ws ∨ (c = b ∧ b < fl) := by
 unfold addW at h
 split at h
 ·rename_i hl
  split at h
  ·exact .inl h
  ·rcases List.mem_cons.1 h with h | h
   ·exact .inr ⟨h, hl⟩
   ·exact .inl h
 ·exact .inl h
theorem addKs_mem {fl c : Nat} : ∀ {ks : List Key} {ws : List Nat}, c ∈ addKs fl ks ws → c ∈ ws ∨ (.h c ∈ ks ∧ c < fl)
 | [], ws, h => .inl h
 | .h b :: ks, ws, h => by
  rcases addKs_mem (ks := ks) h with h | ⟨h1, h2⟩
  ·rcases addW_mem h with h | ⟨rfl, h⟩
   ·exact .inl h
   ·exact .inr ⟨List.mem_cons_self, h⟩
  ·exact .inr ⟨List.mem_cons_of_mem _ h1, h2⟩
 | .l _ :: ks, ws, h => by
  rcases addKs_mem (ks := ks) h with h | ⟨h1, h2⟩
  ·exact .inl h
  ·exact .inr ⟨List.mem_cons_of_mem _ h1, h2⟩
theorem own_keep {m m1 : List MB} (hU : Up m m1) (hg : ∀ (i : Nat), i < m.length → m1[i]? = some .gone → m[i]? = some .gone) {i b : Nat} (h : Own m i b) : Own m1 i b := by
 obtain ⟨mb, h1, h2⟩ := h
 rcases hU i mb h1 with e | e
 ·exact ⟨mb, e, h2⟩
 ·have := hg i (List.getElem?_eq_some_iff.1 h1).1 e
  rw [h1] at this; cases this; cases h2
theorem own_uniq {m : List MB} (hn : (blks m).Nodup) {i j b : Nat} (h1 : Own m i b) (h2 : Own m j b) : i = j := by
 obtain ⟨_, a1, a2⟩ := h1
 obtain ⟨_, b1, b2⟩ := h2
 exact own_inj hn a1 b1 a2 b2
theorem calm_ok {ma mb : List MB} {ha hb : List HB} {pa pb : PI} {ta tb : Inf} (na : (blks ma).Nodup) (nb : (blks mb).Nodup) (la : ∀ b, b ∈ blks ma → b < ha.length) (hab : Fr ma ha mb hb) (A : IR ma ha pa ta) (B : IR mb hb pb tb) (hc : pcalm pa pb = true)
  (hmv : (∀ i b, Own ma i b → Own mb i b) ∨ pa.hp = false ∨ pb.hp = false) : calm ta tb = true := by
 simp only [pcalm, Bool.and_eq_true] at hc
 obtain ⟨c1, c2⟩ := hc
 simp only [pcalm1, Bool.and_eq_true, List.all_eq_true, Bool.not_eq_true', Bool.or_eq_true] at c1 c2
 obtain ⟨c1, c1w⟩ := c1
 obtain ⟨c2, c2w⟩ := c2
 simp only [calm, Bool.and_eq_true]
 constructor
 ·simp only [calm1, List.all_eq_true, Bool.and_eq_true, Bool.not_eq_true', Bool.and_eq_false_iff]
  intro k hk
  cases k with
  | l j =>
   have := c1 _ (A.wl j hk)
   simp only [List.contains_eq_mem, decide_eq_false_iff_not] at this ⊢
   exact ⟨⟨.inr rfl, fun h => this.1.1.2 (B.tl j h)⟩, fun h => this.1.2 (B.wl j h)⟩
  | h c =>
   rcases hmv with hkeep | hmv | hmv
   ·-- nothing is given up
    have hca : c ∈ blks ma := by
     rcases A.wh c hk with ⟨i, _, h2⟩ | ⟨_, h2⟩
     ·exact own_in h2
     ·exact h2
    obtain ⟨i0, hi0⟩ := blks_own hca
    have hi1 := hkeep _ _ hi0
    have hcb : c ∈ blks mb := own_in hi1
    rcases A.wh c hk with ⟨i, h1, h2⟩ | ⟨h1, h2⟩
    ·have hii := own_uniq na hi0 h2; subst hii
     have hcc := c1 _ h1
     simp only [List.contains_eq_mem, decide_eq_false_iff_not, Key.isH, Bool.and_true] at hcc
     refine ⟨⟨.inl ?_, ?_⟩, ?_⟩
     ·cases hq : tb.all with
      | false => rfl
      | true => rw [B.all hq] at hcc; simp at hcc
     ·simp only [List.contains_eq_mem, decide_eq_false_iff_not]
      intro hq
      rcases (B.th c hq).1 with ⟨j, g1, g2⟩ | g1
      ·have := own_uniq nb hi1 g2; subst this
       exact hcc.1.1.2 g1
      ·exact g1 hcb
     ·simp only [List.contains_eq_mem, decide_eq_false_iff_not]
      intro hq
      rcases B.wh c hq with ⟨j, g1, g2⟩ | ⟨g1, g2⟩
      ·have := own_uniq nb hi1 g2; subst this
       exact hcc.1.2 g1
      ·rw [g1] at hcc; simp at hcc
    ·rw [h1] at c1w
     simp only [Bool.true_eq_false, false_or] at c1w
     obtain ⟨⟨⟨w1, w2⟩, w3⟩, w4⟩ := c1w
     refine ⟨⟨.inl ?_, ?_⟩, ?_⟩
     ·cases hq : tb.all with
      | false => rfl
      | true => rw [B.all hq] at w1; cases w1
     ·simp only [List.contains_eq_mem, decide_eq_false_iff_not]
      intro hq
      rcases (B.th c hq).1 with ⟨j, g1, g2⟩ | g1
      ·have := w3 _ g1; simp [Key.isH] at this
      ·exact g1 hcb
     ·simp only [List.contains_eq_mem, decide_eq_false_iff_not]
      intro hq
      rcases B.wh c hq with ⟨j, g1, g2⟩ | ⟨g1, g2⟩
      ·have := w4 _ g1; simp [Key.isH] at this
      ·rw [g1] at w2; cases w2
   ·exact absurd hk ((A.hp hmv).2.2 c)
   ·obtain ⟨g1, g2, g3⟩ := B.hp hmv
    refine ⟨⟨.inl g1, ?_⟩, ?_⟩ <;> simp only [List.contains_eq_mem, decide_eq_false_iff_not]
    ·exact g2 c
    ·exact g3 c
 ·simp only [calm1, List.all_eq_true, Bool.and_eq_true, Bool.not_eq_true', Bool.and_eq_false_iff]
  intro k hk
  cases k with
  | l j =>
   have := c2 _ (B.wl j hk)
   simp only [List.contains_eq_mem, decide_eq_false_iff_not] at this ⊢
   exact ⟨⟨.inr rfl, fun h => this.1.1.2 (A.tl j h)⟩, fun h => this.1.2 (A.wl j h)⟩
  | h c =>
   rcases hmv with hkeep | hmv | hmv
   ·have hcb : c ∈ blks mb := by
     rcases B.wh c hk with ⟨i, _, h2⟩ | ⟨_, h2⟩
     ·exact own_in h2
     ·exact h2
    obtain ⟨j0, hj0⟩ := blks_own hcb
    have back : c < ha.length → c ∈ blks ma := fun hlt => by
     rcases hab.new c hcb with h1 | h1
     ·exact h1
     ·omega
    have own' : ∀ i, Own ma i c → i = j0 := fun i hi => own_uniq nb (hkeep _ _ hi) hj0
    rcases B.wh c hk with ⟨j, h1, h2⟩ | ⟨h1, h2⟩
    ·have hii := own_uniq nb hj0 h2; subst hii
     have hcc := c2 _ h1
     simp only [List.contains_eq_mem, decide_eq_false_iff_not, Key.isH, Bool.and_true] at hcc
     refine ⟨⟨.inl ?_, ?_⟩, ?_⟩
     ·cases hq : ta.all with
      | false => rfl
      | true => rw [A.all hq] at hcc; simp at hcc
     ·simp only [List.contains_eq_mem, decide_eq_false_iff_not]
      intro hq
      obtain ⟨g0, glt⟩ := A.th c hq
      rcases g0 with ⟨i, g1, g2⟩ | g1
      ·have := own' i g2; subst this
       exact hcc.1.1.2 g1
      ·exact g1 (back glt)
     ·simp only [List.contains_eq_mem, decide_eq_false_iff_not]
      intro hq
      rcases A.wh c hq with ⟨i, g1, g2⟩ | ⟨g1, g2⟩
      ·have := own' i g2; subst this
       exact hcc.1.2 g1
      ·rw [g1] at hcc; simp at hcc
    ·rw [h1] at c2w
     simp only [Bool.true_eq_false, false_or] at c2w
     obtain ⟨⟨⟨w1, w2⟩, w3⟩, w4⟩ := c2w
     refine ⟨⟨.inl ?_, ?_⟩, ?_⟩
     ·cases hq : ta.all with
      | false => rfl
      | true => rw [A.all hq] at w1; cases w1
     ·simp only [List.contains_eq_mem, decide_eq_false_iff_not]
      intro hq
      obtain ⟨g0, glt⟩ := A.th c hq
      rcases g0 with ⟨i, g1, g2⟩ | g1
      ·have := w3 _ g1; simp [Key.isH] at this
      ·exact g1 (back glt)
     ·simp only [List.contains_eq_mem, decide_eq_false_iff_not]
      intro hq
      rcases A.wh c hq with ⟨i, g1, g2⟩ | ⟨g1, g2⟩
      ·have := w4 _ g1; simp [Key.isH] at this
      ·rw [g1] at w2; cases w2
   ·obtain ⟨g1, g2, g3⟩ := A.hp hmv
    refine ⟨⟨.inl g1, ?_⟩, ?_⟩ <;> simp only [List.contains_eq_mem, decide_eq_false_iff_not]
    ·exact g2 c
    ·exact g3 c
   ·exact absurd hk ((B.hp hmv).2.2 c)
theorem irs_at : ∀ {ps : List PI} {ts : List Inf} {m : List MB} {h : List HB}, IRs m h ps ts → ∀ {j : Nat} {p : PI}, ps[j]? = some p → ∃ t mj hj, ts[j]? = some t ∧ IR mj hj p t ∧ (blks mj).Nodup ∧ (∀ b, b ∈ blks mj → b < hj.length) ∧ Fr m h mj hj ∧ ((∀ (i : Nat) q, i < j → ps[i]? = some q → q.mv = false) → ∀ i b, Own m i b → Own mj i b)
 | _, _, _, _, .nil, j, p, hj => by simp at hj
 | _, _, m, h, .cons n1 n2 i1 f1 u1 g1 rest, j, p, hj => by
  cases j with
  | zero =>
   simp only [List.getElem?_cons_zero, Option.some.injEq] at hj; subst hj
   exact ⟨_, m, h, rfl, i1, n1, n2, .refl, fun _ i b hb => hb⟩
  | succ j =>
   obtain ⟨t, mj, hj', e1, e2, e3, e4, e5, e6⟩ := irs_at rest (j := j) (by simpa using hj)
   refine ⟨t, mj, hj', by simpa using e1, e2, e3, e4, f1.trans e5, fun hq i b hb => e6 (fun i q hl hi => hq (i + 1) q (by omega) (by simpa using hi)) i b ?_⟩
   exact own_keep u1 (g1 (hq 0 _ (by omega) rfl)) hb
theorem irs_two : ∀ {ps : List PI} {ts : List Inf} {m : List MB} {h : List HB}, IRs m h ps ts → ∀ {i j : Nat} {p q : PI}, i < j → ps[i]? = some p → ps[j]? = some q → pcalm p q = true → ((∀ (k : Nat) q, i ≤ k → k < j → ps[k]? = some q → q.mv = false) ∨ p.hp = false ∨ q.hp = false) → ∃ a b, ts[i]? = some a ∧ ts[j]? = some b ∧ calm a b = true
 | _, _, _, _, .nil, i, j, p, q, _, hi, _, _, _ => by simp at hi
 | _, _, m, h, .cons n1 n2 i1 f1 u1 g1 rest, i, j, p, q, hij, hi, hj, hc, hmv => by
  cases j with
  | zero => omega
  | succ j =>
   cases i with
   | zero =>
    simp only [List.getElem?_cons_zero, Option.some.injEq] at hi; subst hi
    obtain ⟨t, mj, hj', e1, e2, e3, e4, e5, e6⟩ := irs_at rest (j := j) (by simpa using hj)
    refine ⟨_, t, rfl, by simpa using e1, calm_ok n1 e3 n2 (f1.trans e5) i1 e2 hc ?_⟩
    refine hmv.imp_left fun hq i b hb => e6 (fun i q hl hi => hq (i + 1) q (by omega) (by omega) (by simpa using hi)) i b (own_keep u1 (g1 (hq 0 _ (by omega) (by omega) rfl)) hb)
   | succ i =>
    obtain ⟨a, b, e1, e2, e3⟩ := irs_two rest (i := i) (j := j) (by omega) (by simpa using hi) (by simpa using hj) hc (hmv.imp_left fun hq k q h1 h2 hi => hq (k + 1) q (by omega) (by omega) (by simpa using hi))
    exact ⟨a, b, by simpa using e1, by simpa using e2, e3⟩
theorem dyn_ok {ps : List PI} {ts : List Inf} {m : List MB} {h : List HB} (hI : IRs m h ps ts) : ∀ {prs : List (Nat × Nat)}, (∀ q ∈ prs, q.1 < q.2) → pdynOk ps prs = true → dynOk ts prs = true
 | [], _, _ => rfl
 | (i, j) :: r, hlt, hd => by
  simp only [pdynOk, Bool.and_eq_true] at hd
  obtain ⟨h1, h2⟩ := hd
  split at h1
  ·rename_i a b ha hb
   simp only [Bool.and_eq_true, Bool.or_eq_true, Bool.not_eq_true'] at h1
   obtain ⟨x, y, e1, e2, e3⟩ := irs_two hI (hlt _ List.mem_cons_self) ha hb h1.1 (by
    rcases h1.2 with (h3 | h3) | h3
    ·exact .inr (.inl h3)
    ·exact .inr (.inr h3)
    ·left
     intro k q hk1 hk2 hk
     cases hq : q.mv with
     | false => rfl
     | true =>
      refine absurd (List.any_eq_true.2 ⟨q, List.mem_of_getElem? (i := k - i) ?_, hq⟩) (by rw [h3]; simp)
      rw [List.getElem?_take, if_pos (by omega), List.getElem?_drop, ← hk]; congr 1; omega)
   simp only [dynOk, e1, e2, e3, Bool.true_and]
   exact dyn_ok hI (fun q hq => hlt q (List.mem_cons_of_mem _ hq)) h2
  ·cases h1
theorem hot_lt {ops : List Oper} : ∀ q ∈ hotPairs ops, q.1 < q.2 := by
 intro q hq
 unfold hotPairs at hq
 have := (List.mem_filter.1 hq).1
 unfold openPairs at this
 simp only [List.mem_flatMap, List.mem_map, List.mem_filter, List.mem_range] at this
 obtain ⟨j, _, i, ⟨hi, _⟩, rfl⟩ := this
 exact hi
theorem calm_none {ts : List Inf} (hw : ∀ t ∈ ts, t.ws = []) : ∀ {prs : List (Nat × Nat)}, (∀ q ∈ prs, q.1 < ts.length ∧ q.2 < ts.length) → dynOk ts prs = true
 | [], _ => rfl
 | (i, j) :: r, hl => by
  obtain ⟨h1, h2⟩ := hl _ List.mem_cons_self
  simp only [dynOk, List.getElem?_eq_getElem h1, List.getElem?_eq_getElem h2, Bool.and_eq_true]
  refine ⟨?_, calm_none hw fun q hq => hl q (List.mem_cons_of_mem _ hq)⟩
  simp [calm, calm1, hw _ (List.getElem_mem h1), hw _ (List.getElem_mem h2)]
theorem hot_in {ops : List Oper} : ∀ q ∈ hotPairs ops, q.1 < ops.length ∧ q.2 < ops.length := by
 intro q hq
 unfold hotPairs at hq
 have := (List.mem_filter.1 hq).1
 unfold openPairs at this
 simp only [List.mem_flatMap, List.mem_map, List.mem_filter, List.mem_range] at this
 obtain ⟨j, hj, i, ⟨hi, _⟩, rfl⟩ := this
 exact ⟨by simp only; omega, hj⟩
end Pv
namespace Pv
open Go Tw
section
variable {X : Cod} {P : Program} {A W : Nat → Prop} {m m' : List MB} {h : List HB}
structure SR (X : Cod) (P : Program) (A W : Nat → Prop) (fl : Nat) (m : List MB) (ps : PSt X.Γ) (ts : St) : Prop where
 st : StR X P A m ps ts
 own : ∀ b, b ∈ blks m → W b ∨ fl ≤ b
 ws : ∀ b, b ∈ ts.ws → W b
 fl : fl ≤ ts.heap.length
def UpB (B : Nat) (m m1 : List MB) : Prop := ∀ (i : Nat) mb, i < B → m[i]? = some mb → m1[i]? = some mb ∨ m1[i]? = some .gone
theorem Up.b {B : Nat} {m m1 : List MB} (h : Up m m1) : UpB B m m1 := fun i mb _ hi => h i mb hi
theorem UpB.trans {B : Nat} {m m1 m2 : List MB} (a : UpB B m m1) (b : UpB B m1 m2) : UpB B m m2 := fun i mb hB hi => by
 rcases a i mb hB hi with h | h
 ·exact b i mb hB h
 ·rcases b i _ hB h with h | h <;> exact .inr h
theorem UpB.refl {B : Nat} {m : List MB} : UpB B m m := fun _ _ _ h => .inl h
def Weaker (X : Cod) (P : Program) (B : Nat) (ps ps1 : PSt X.Γ) : Prop :=
 ∀ (A W : Nat → Prop) (fl : Nat) (m : List MB) (ts : St), SR X P A W fl m ps ts → ∃ m1, SR X P A W fl m1 ps1 ts ∧ Fr m ts.heap m1 ts.heap ∧ UpB B m m1
theorem Weaker.refl {B : Nat} {ps : PSt X.Γ} : Weaker X P B ps ps := fun _ _ _ m _ hS => ⟨m, hS, .refl, .refl⟩
theorem Weaker.trans {B : Nat} {a b c : PSt X.Γ} (h1 : Weaker X P B a b) (h2 : Weaker X P B b c) : Weaker X P B a c := fun A W fl m ts hS => by
 obtain ⟨m1, g1, g2, g3⟩ := h1 A W fl m ts hS
 obtain ⟨m2, g4, g5, g6⟩ := h2 A W fl m1 ts g1
 exact ⟨m2, g4, g2.trans g5, g3.trans g6⟩
theorem litE_VR {env : List (Nat × PE X.Γ)} {env' : List (Nat × EV)} (he : EnvR X P A m h env env') : EnvR X P A m h (litE env) env' := by
 induction he with
 | nil => exact .nil
 | cons h1 _ ih =>
  rename_i k v x r r' _
  cases v with
  | val v => obtain ⟨y, rfl, h2⟩ := per_val h1; exact .cons (per_of (unlit_VR h2)) ih
  | loc => exact .cons h1 ih
  | undef => exact .cons h1 ih
theorem nilE_VR {t i : Nat} (hi : m[i]? = some (.lst (.nil .slc))) : ∀ {env : List (Nat × PE X.Γ)} {env' : List (Nat × EV)} {r : List (Nat × PE X.Γ)}, EnvR X P A m h env env' → nilE t i env = some r → EnvR X P A m h r env' := by
 intro env env' r he
 induction he generalizing r with
 | nil => intro h; cases h
 | cons h1 h2 ih =>
  rename_i k v x q q'
  intro hn
  simp only [nilE] at hn
  split at hn
  ·split at hn
   ·cases hn
    obtain ⟨y, rfl, h3⟩ := per_val h1
    have : y = .nil .slc := by
     cases h3 with
     | nil => rfl
     | gone hi _ _ => simp [idOf] at hi
    subst this
    exact .cons (per_of (.own hi rfl)) h2
   ·cases hn
  ·simp only [Option.map_eq_some_iff] at hn
   obtain ⟨q2, h3, rfl⟩ := hn
   exact .cons h1 (ih h3)
theorem nilC_VR {i off : Nat} (hi : m[i]? = some (.lst (.nil .slc))) {cs r : List (PV X.Γ)} {xs : List TV} (hv : VRs X P A m h cs xs) (hn : nilC off i cs = some r) : VRs X P A m h r xs := by
 unfold nilC at hn
 split at hn
 ·rename_i hc
  cases hn
  refine ⟨by rw [List.length_set, hv.1], fun j a b ha hb => ?_⟩
  by_cases e : off = j
  ·subst e
   rw [List.getElem?_set_self', hc] at ha
   cases ha
   have : b = .nil .slc := by
    cases hv.2 _ _ _ hc hb with
    | nil => rfl
    | gone hi _ _ => simp [idOf] at hi
   subst this
   exact .own hi rfl
  ·rw [List.getElem?_set_ne e] at ha
   exact hv.2 j a b ha hb
 ·cases hn
theorem SR.pushNil {fl : Nat} {ps : PSt X.Γ} {ts : St} (hS : SR X P A W fl m ps ts) (e : Nat) : ∃ m1, HR X P A m1 (ps.heap ++ [.list false false e []]) ts.heap ∧ Fr m ts.heap m1 ts.heap ∧ Up m m1 ∧ m1[ps.heap.length]? = some (.lst (.nil .slc)) ∧ (∀ b, b ∈ blks m1 → b ∈ blks m) := by
 obtain ⟨h1, h2, h3⟩ := hS.st.heap.pushE (pb := .list false false e []) (mb := .lst (.nil .slc)) rfl LR.nil
 refine ⟨_, h1, h2, h3, by rw [← hS.st.heap.len]; simp, fun b hb => ?_⟩
 rw [blks_app, List.mem_append, blks_one] at hb
 simpa [MB.own] using hb
theorem gstep_ok (hX : CodOk X P) {B : Nat} {g : G} {ps ps1 : PSt X.Γ} (hg : gstep B ps g = some ps1) : Weaker X P B ps ps1 := by
 intro A W fl m ts hS
 cases g with
 | lit =>
  simp only [gstep, Option.some.injEq] at hg; subst hg
  exact ⟨m, ⟨⟨hS.st.heap, hS.st.llen, hS.st.loc, litE_VR hS.st.env⟩, hS.own, hS.ws, hS.fl⟩, .refl, .refl⟩
 | nilE t e =>
  simp only [gstep, Option.map_eq_some_iff] at hg
  obtain ⟨env, h1, rfl⟩ := hg
  obtain ⟨m1, e1, e2, e3, e4, e5⟩ := hS.pushNil e
  exact ⟨m1, ⟨⟨e1, hS.st.llen, fun k cs hk => let ⟨cs', q1, q2⟩ := hS.st.loc k cs hk; ⟨cs', q1, q2.step e2 e3⟩, nilE_VR e4 (hS.st.env.step e2 e3) h1⟩, fun b hb => hS.own b (e5 b hb), hS.ws, hS.fl⟩, e2, e3.b⟩
 | nilL k off e =>
  simp only [gstep] at hg
  split at hg
  ·rename_i cs hk
   simp only [Option.map_eq_some_iff] at hg
   obtain ⟨cs1, h1, rfl⟩ := hg
   obtain ⟨m1, e1, e2, e3, e4, e5⟩ := hS.pushNil e
   refine ⟨m1, ⟨⟨e1, by simp [hS.st.llen], fun j ds hj => ?_, hS.st.env.step e2 e3⟩, fun b hb => hS.own b (e5 b hb), hS.ws, hS.fl⟩, e2, e3.b⟩
   by_cases e0 : k = j
   ·subst e0
    rw [List.getElem?_set_self', hk] at hj
    cases hj
    obtain ⟨cs', q1, q2⟩ := hS.st.loc k cs hk
    exact ⟨cs', q1, nilC_VR e4 (q2.step e2 e3) h1⟩
   ·rw [List.getElem?_set_ne e0] at hj
    obtain ⟨cs', q1, q2⟩ := hS.st.loc j ds hj
    exact ⟨cs', q1, q2.step e2 e3⟩
  ·cases hg
 | nilH i off e =>
  simp only [gstep] at hg
  split at hg
  ·rename_i cs hi
   simp only [Option.map_eq_some_iff] at hg
   obtain ⟨cs1, h1, rfl⟩ := hg
   obtain ⟨m1, e1, e2, e3, e4, e5⟩ := hS.pushNil e
   have hlt : i < ps.heap.length := (List.getElem?_eq_some_iff.1 hi).1
   have hr2 : HR X P A m1 (ps.heap.set i (.cells cs1) ++ [.list false false e []]) ts.heap := by
    refine e1.next .refl .refl (by simp [e1.len]) e1.nodup fun j b hj => ?_
    by_cases e0 : i = j
    ·subst e0
     right
     rw [List.getElem?_append_left (by simpa using hlt), List.getElem?_set_self', hi] at hj
     cases hj
     obtain ⟨mb, q1, q2⟩ := e1.at_ i (.cells cs) (by rw [List.getElem?_append_left hlt]; exact hi)
     refine ⟨mb, q1, ?_⟩
     cases mb with
     | blk c => obtain ⟨xs, q3, q4⟩ := q2; exact ⟨xs, q3, nilC_VR e4 q4 h1⟩
     | _ => exact q2.elim
    ·left
     have : (ps.heap ++ [PB.list false false e []])[j]? = some b := by
      rw [← hj]
      rcases Nat.lt_or_ge j ps.heap.length with h9 | h9
      ·rw [List.getElem?_append_left h9, List.getElem?_append_left (by simpa using h9), List.getElem?_set_ne e0]
      ·rw [List.getElem?_append_right h9, List.getElem?_append_right (by simpa using h9), List.length_set]
     obtain ⟨mb, q1, _⟩ := e1.at_ j b this
     exact ⟨mb, this, q1, q1, fun _ _ => rfl⟩
   exact ⟨m1, ⟨⟨hr2, hS.st.llen, fun k cs hk => let ⟨cs', q1, q2⟩ := hS.st.loc k cs hk; ⟨cs', q1, q2.step e2 e3⟩, hS.st.env.step e2 e3⟩, fun b hb => hS.own b (e5 b hb), hS.ws, hS.fl⟩, e2, e3.b⟩
  ·cases hg
 | flag i =>
  simp only [gstep] at hg
  split at hg
  ·rename_i k ex t l hi
   cases hg
   have hr := hS.st.heap
   refine ⟨m, ⟨⟨?_, hS.st.llen, hS.st.loc, hS.st.env⟩, hS.own, hS.ws, hS.fl⟩, .refl, .refl⟩
   refine hr.next .refl .refl (by simp [hr.len]) hr.nodup fun j b hj => ?_
   by_cases e0 : i = j
   ·subst e0
    right
    rw [List.getElem?_set_self', hi] at hj
    cases hj
    obtain ⟨mb, q1, q2⟩ := hr.at_ i _ hi
    refine ⟨mb, q1, ?_⟩
    cases mb with
    | lst y =>
     cases (q2 : LR X P _ _ _ _ _ _ _ y) with
     | nil => exact LR.nil
     | emp p0 p1 p2 p3 p4 => exact LR.emp p0 p1 p2 p3 p4
     | some p1 p2 p3 p4 p5 p6 p7 p8 p9 => exact LR.some p1 p2 p3 p4 p5 (by simp) (by simp) p8 p9
    | _ => exact q2.elim
   ·left
    rw [List.getElem?_set_ne e0] at hj
    obtain ⟨mb, q1, _⟩ := hr.at_ j b hj
    exact ⟨mb, hj, q1, q1, fun _ _ => rfl⟩
  ·cases hg
 | gc ks =>
  simp only [gstep] at hg
  split at hg
  ·rename_i hc
   simp only [Bool.and_eq_true, decide_eq_true_eq, List.all_eq_true] at hc
   obtain ⟨⟨hks, hnd⟩, hB⟩ := hc
   split at hg
   ·rename_i env loc b1 b2 h1 h2 h3 h4
    split at hg
    ·rename_i b3 h5
     cases hg
     have hr := hS.st.heap
     have hp := pickB_get h4
     have hklt : ∀ k ∈ ks, k < m.length := fun k hk => by
      obtain ⟨i, hi⟩ := List.getElem?_of_mem hk
      obtain ⟨b, q1, _⟩ := hp.2 hi
      rw [hr.len]; exact (List.getElem?_eq_some_iff.1 q1).1
     have hBm : B ≤ m.length := by rw [hr.len]; exact hB
     let m1 : List MB := m.take B ++ ks.map fun k => m.getD k .gone
     have hlt1 : (m.take B).length = B := by rw [List.length_take]; omega
     have hlo : ∀ i, i < B → m1[i]? = m[i]? := fun i hi => by
      show (m.take B ++ _)[i]? = _
      rw [List.getElem?_append_left (by omega), List.getElem?_take, if_pos hi]
     have hhi : ∀ p k, ks[p]? = some k → m1[p + B]? = m[k]? := fun p k hp => by
      show (m.take B ++ _)[p + B]? = _
      rw [List.getElem?_append_right (by omega), hlt1, Nat.add_sub_cancel, List.getElem?_map, hp]
      have := hklt k (List.mem_of_getElem? hp)
      simp [List.getD_eq_getElem?_getD, this]
     have hg : ∀ i j, (fun i => if i < B then some i else (posN ks i).map (· + B)) i = some j → m1[j]? = m[i]? := fun i j hij => by
      simp only at hij
      split at hij
      ·rename_i hi; cases hij; exact hlo i hi
      ·simp only [Option.map_eq_some_iff] at hij
       obtain ⟨p, hp, rfl⟩ := hij
       exact hhi p i (posN_get hp)
     have hold : ∀ j mb, m1[j]? = some mb → ∃ i, m[i]? = some mb ∧ ((j < B ∧ i = j) ∨ ∃ p, j = p + B ∧ ks[p]? = some i) := fun j mb hj => by
      rcases Nat.lt_or_ge j B with hlt | hge
      ·exact ⟨j, by rw [← hlo j hlt]; exact hj, .inl ⟨hlt, rfl⟩⟩
      ·have hj2 : j - B < ks.length := by
        have := (List.getElem?_eq_some_iff.1 hj).1
        have h9 : m1.length = B + ks.length := by show (m.take B ++ _).length = _; rw [List.length_append, hlt1, List.length_map]
        omega
       have hp := List.getElem?_eq_getElem hj2
       have hh := hhi (j - B) _ hp
       rw [show j - B + B = j by omega, hj] at hh
       exact ⟨_, hh.symm, .inr ⟨j - B, by omega, hp⟩⟩
     have hbl : ∀ b, b ∈ blks m1 → b ∈ blks m := fun b hb => by
      obtain ⟨j, mb, q1, q2⟩ := blks_own hb
      obtain ⟨i, q3, _⟩ := hold j mb q1
      exact own_mem q3 q2
     have hA : ∀ b, AA A m b → AA A m1 b := fun b hb => ⟨hb.1, fun hm => hb.2 (hbl b hm)⟩
     have hnd1 : (blks m1).Nodup := nodup_of_own fun i j c q1 q2 => by
      obtain ⟨ma, a1, a2⟩ := q1
      obtain ⟨mc, c1, c2⟩ := q2
      obtain ⟨i', a3, a4⟩ := hold i ma a1
      obtain ⟨j', c3, c4⟩ := hold j mc c1
      have e := own_inj hr.nodup a3 c3 a2 c2
      subst e
      rcases a4 with ⟨a5, a6⟩ | ⟨p, a5, a6⟩ <;> rcases c4 with ⟨c5, c6⟩ | ⟨q, c5, c6⟩
      ·omega
      ·have := hks _ (List.mem_of_getElem? c6); omega
      ·have := hks _ (List.mem_of_getElem? a6); omega
      ·have hpl := (List.getElem?_eq_some_iff.1 a6).1
       have : p = q := (List.getElem?_inj hpl hnd).1 (by rw [a6, c6])
       omega
     have hFr : Fr m ts.heap m1 ts.heap := ⟨Nat.le_refl _, fun _ _ _ => rfl, fun b hb => .inl (hbl b hb), fun b cs hc => ⟨cs, hc, Nat.le_refl _⟩⟩
     have hb1 := renBs_get h3
     have hb3 := renBs_get h5
     have hl2 := renL_get h2
     refine ⟨m1, ⟨⟨⟨?_, fun j b hj => ?_, hnd1, hr.up, fun b hb => hr.ownA b (hbl b hb)⟩, by rw [hl2.1]; exact hS.st.llen, fun k cs hk => ?_, renEs_VR hX hg hA hS.st.env h1⟩, fun b hb => hS.own b (hbl b hb), hS.ws, hS.fl⟩, hFr, fun i mb hi hm => .inl (by rw [hlo i hi]; exact hm)⟩
     ·show (m.take B ++ _).length = _
      rw [List.length_append, List.length_append, List.length_map, hb1.1, hb3.1, hp.1, hlt1, List.length_take]
      omega
     ·have hlen1 : b1.length = B := by rw [hb1.1, List.length_take]; omega
      rcases Nat.lt_or_ge j B with hlt | hge
      ·rw [List.getElem?_append_left (by omega)] at hj
       obtain ⟨b0, q1, q2⟩ := hb1.2 hj
       rw [List.getElem?_take, if_pos hlt] at q1
       obtain ⟨mb, q3, q4⟩ := hr.at_ j b0 q1
       exact ⟨mb, by rw [hlo j hlt]; exact q3, renB_BR hX hg hA (fun c _ h9 h8 => h9 (hbl c h8)) q4 q2⟩
      ·rw [List.getElem?_append_right (by omega), hlen1] at hj
       obtain ⟨b0, q1, q2⟩ := hb3.2 hj
       have hj2 : j - B < ks.length := by rw [← hp.1]; exact (List.getElem?_eq_some_iff.1 q1).1
       obtain ⟨b9, q5, q6⟩ := hp.2 (List.getElem?_eq_getElem hj2)
       rw [q1] at q6; cases q6
       obtain ⟨mb, q3, q4⟩ := hr.at_ _ _ q5
       refine ⟨mb, ?_, renB_BR hX hg hA (fun c _ h9 h8 => h9 (hbl c h8)) q4 q2⟩
       have := hhi (j - B) _ (List.getElem?_eq_getElem hj2)
       rw [show j - B + B = j by omega] at this
       rw [this]; exact q3
     ·obtain ⟨cs0, q1, q2⟩ := hl2.2 hk
      obtain ⟨cs', q3, q4⟩ := hS.st.loc k cs0 q1
      exact ⟨cs', q3, renVs_VR hX hg hA q4 q2⟩
    ·cases hg
   ·cases hg
  ·cases hg
 | mv i =>
  simp only [gstep] at hg
  split at hg
  ·rename_i b0 hi
   split at hg
   ·rename_i env loc b1 b2 h1 h2 h3 h4
    cases hg
    have hr := hS.st.heap
    have hlt : i < ps.heap.length := (List.getElem?_eq_some_iff.1 hi).1
    obtain ⟨mi, mi1, mi2⟩ := hr.at_ i b0 hi
    let m1 : List MB := m.set i .gone ++ [mi]
    have hl0 : (m.set i .gone).length = ps.heap.length := by rw [List.length_set, hr.len]
    have hlo : ∀ j, j < ps.heap.length → j ≠ i → m1[j]? = m[j]? := fun j hj hn => by
     show (m.set i .gone ++ [mi])[j]? = _
     rw [List.getElem?_append_left (by omega), List.getElem?_set_ne (fun e => hn e.symm)]
    have hat : m1[i]? = some .gone := by
     show (m.set i .gone ++ [mi])[i]? = _
     rw [List.getElem?_append_left (by omega), List.getElem?_set_self', mi1]; rfl
    have hhi : m1[ps.heap.length]? = some mi := by
     show (m.set i .gone ++ [mi])[ps.heap.length]? = _
     rw [List.getElem?_append_right (by omega), hl0, Nat.sub_self]; rfl
    have hg : ∀ a b, (fun j => if j = i then some ps.heap.length else if j < ps.heap.length then some j else none) a = some b → m1[b]? = m[a]? := fun a b hab => by
     simp only at hab
     split at hab
     ·rename_i e; subst e; cases hab; rw [hhi, mi1]
     ·split at hab
      ·rename_i e1 e2; cases hab; exact hlo a e2 e1
      ·cases hab
    have hold : ∀ j mb, m1[j]? = some mb → mb = .gone ∨ ∃ k, m[k]? = some mb ∧ ((j < ps.heap.length ∧ k = j ∧ j ≠ i) ∨ (j = ps.heap.length ∧ k = i)) := fun j mb hj => by
     have hj2 : j < ps.heap.length + 1 := by
      have := (List.getElem?_eq_some_iff.1 hj).1
      have h9 : m1.length = ps.heap.length + 1 := by show (m.set i .gone ++ [mi]).length = _; rw [List.length_append, hl0]; rfl
      omega
     by_cases e : j = i
     ·subst e; rw [hat] at hj; cases hj; exact .inl rfl
     ·rcases Nat.lt_or_ge j ps.heap.length with h5 | h5
      ·exact .inr ⟨j, by rw [← hlo j h5 e]; exact hj, .inl ⟨h5, rfl, e⟩⟩
      ·have : j = ps.heap.length := by omega
       subst this
       rw [hhi] at hj; cases hj
       exact .inr ⟨i, mi1, .inr ⟨rfl, rfl⟩⟩
    have hbl : ∀ b, b ∈ blks m1 → b ∈ blks m := fun b hb => by
     obtain ⟨j, mb, q1, q2⟩ := blks_own hb
     rcases hold j mb q1 with rfl | ⟨k, q3, _⟩
     ·cases q2
     ·exact own_mem q3 q2
    have hA : ∀ b, AA A m b → AA A m1 b := fun b hb => ⟨hb.1, fun hm => hb.2 (hbl b hm)⟩
    have hnd1 : (blks m1).Nodup := nodup_of_own fun j k c q1 q2 => by
     obtain ⟨ma, a1, a2⟩ := q1
     obtain ⟨mc, c1, c2⟩ := q2
     rcases hold j ma a1 with rfl | ⟨j', a3, a4⟩
     ·cases a2
     rcases hold k mc c1 with rfl | ⟨k', c3, c4⟩
     ·cases c2
     have e := own_inj hr.nodup a3 c3 a2 c2
     subst e
     rcases a4 with ⟨a5, a6, a7⟩ | ⟨a5, a6⟩ <;> rcases c4 with ⟨c5, c6, c7⟩ | ⟨c5, c6⟩ <;> omega
    have hFr : Fr m ts.heap m1 ts.heap := ⟨Nat.le_refl _, fun _ _ _ => rfl, fun b hb => .inl (hbl b hb), fun b cs hc => ⟨cs, hc, Nat.le_refl _⟩⟩
    have hb1 := renBs_get h3
    have hl2 := renL_get h2
    have hb1l : b1.length = ps.heap.length := by rw [hb1.1, List.length_set]
    refine ⟨m1, ⟨⟨⟨?_, fun j b hj => ?_, hnd1, hr.up, fun b hb => hr.ownA b (hbl b hb)⟩, by rw [hl2.1]; exact hS.st.llen, fun k cs hk => ?_, renEs_VR hX hg hA hS.st.env h1⟩, fun b hb => hS.own b (hbl b hb), hS.ws, hS.fl⟩, hFr, fun j mb _ hj => ?_⟩
    ·show (m.set i .gone ++ [mi]).length = _
     rw [List.length_append, List.length_append, hl0, hb1l]; rfl
    ·rcases Nat.lt_or_ge j ps.heap.length with h5 | h5
     ·rw [List.getElem?_append_left (by omega)] at hj
      obtain ⟨b9, q1, q2⟩ := hb1.2 hj
      by_cases e : j = i
      ·subst e
       rw [List.getElem?_set_self', hi] at q1
       cases q1
       have q2 : some (PB.gone (Γ := X.Γ)) = some b := q2
       cases q2
       exact ⟨.gone, hat, trivial⟩
      ·rw [List.getElem?_set_ne (fun e2 => e e2.symm)] at q1
       obtain ⟨mb, q3, q4⟩ := hr.at_ j b9 q1
       exact ⟨mb, by rw [hlo j h5 e]; exact q3, renB_BR hX hg hA (fun c _ h9 h8 => h9 (hbl c h8)) q4 q2⟩
     ·rw [List.getElem?_append_right (by omega), hb1l] at hj
      have : j - ps.heap.length = 0 := by
       have := (List.getElem?_eq_some_iff.1 hj).1
       simp at this; omega
      rw [this] at hj
      cases hj
      refine ⟨mi, ?_, renB_BR hX hg hA (fun c _ h9 h8 => h9 (hbl c h8)) mi2 h4⟩
      rw [show j = ps.heap.length by omega]; exact hhi
    ·obtain ⟨cs0, q1, q2⟩ := hl2.2 hk
     obtain ⟨cs', q3, q4⟩ := hS.st.loc k cs0 q1
     exact ⟨cs', q3, renVs_VR hX hg hA q4 q2⟩
    ·by_cases e : j = i
     ·subst e; exact .inr hat
     ·have : j < ps.heap.length := by rw [← hr.len]; exact (List.getElem?_eq_some_iff.1 hj).1
      exact .inl (by rw [hlo j this e]; exact hj)
   ·cases hg
  ·cases hg
theorem gsteps_ok (hX : CodOk X P) {B : Nat} : ∀ {gs : List G} {ps ps1 : PSt X.Γ}, gsteps B gs ps = some ps1 → Weaker X P B ps ps1
 | [], ps, ps1, h => by simp only [gsteps, Option.some.injEq] at h; subst h; exact .refl
 | g :: gs, ps, ps1, h => by
  simp only [gsteps] at h
  split at h
  ·rename_i s hs
   exact (gstep_ok hX hs).trans (gsteps_ok hX h)
  ·cases h
end
end Pv
namespace Pv
open Go Tw
section
variable {X : Cod} {P : Program} {T : Tab} {A W : Nat → Prop} {m m' : List MB}
variable {call : CallT} {orc : Orc X.Γ} {ρ : Type} {y : ρ}
theorem SR.know {fl : Nat} {ps : PSt X.Γ} {ts : St} (hS : SR X P A W fl m ps ts) {x : Operand} {b : Bool} (hb : tvO ts.env x = some (.bool b)) : SR X P A W fl m (ps.know x b) ts := ⟨hS.st.know hb, hS.own, hS.ws, hS.fl⟩
theorem StR.put {ps : PSt X.Γ} {ts : St} (hR : StR X P A m ps ts) {d : Option Nat} {pe : PE X.Γ} {ev : EV} (h : PER X P (AA A m) m ts.heap pe ev) : StR X P A m (ps.put d pe) (ts.put d ev) := by
 cases d with
 | none => exact hR
 | some d => exact ⟨hR.heap, hR.llen, hR.loc, .cons h hR.env⟩
theorem put_heap {ts : St} {d : Option Nat} {ev : EV} : (ts.put d ev).heap = ts.heap ∧ (ts.put d ev).ws = ts.ws := by cases d <;> exact ⟨rfl, rfl⟩
theorem gone_iff {H : List (PB X.Γ)} {h : List HB} (hr : HR X P A m H h) {i : Nat} {b : PB X.Γ} (hb : H[i]? = some b) : isGone b = true ↔ m[i]? = some .gone := by
 obtain ⟨mb, h1, h2⟩ := hr.at_ i b hb
 cases b with
 | gone =>
  cases mb with
  | gone => exact ⟨fun _ => h1, fun _ => rfl⟩
  | _ => exact h2.elim
 | cells cs => cases mb with
  | gone => exact h2.elim
  | _ => simp [isGone, h1]
 | rcells cs => cases mb with
  | gone => exact h2.elim
  | _ => simp [isGone, h1]
 | list k ex t l => cases mb with
  | gone => exact h2.elim
  | _ => simp [isGone, h1]
 | map es => cases mb with
  | gone => exact h2.elim
  | _ => simp [isGone, h1]
 | mark => cases mb with
  | gone => exact h2.elim
  | _ => simp [isGone, h1]
 | loop => cases mb with
  | gone => exact h2.elim
  | _ => simp [isGone, h1]
theorem goneSame_at : ∀ {H H1 : List (PB X.Γ)}, goneSame H H1 = true → ∀ {i : Nat} {b : PB X.Γ}, H[i]? = some b → ∃ b1, H1[i]? = some b1 ∧ isGone b = isGone b1
 | [], H1, _, i, b, hi => by simp at hi
 | a :: H, [], h, i, b, hi => by simp [goneSame] at h
 | a :: H, a1 :: H1, h, i, b, hi => by
  simp only [goneSame, Bool.and_eq_true, beq_iff_eq] at h
  cases i with
  | zero => simp only [List.getElem?_cons_zero, Option.some.injEq] at hi; subst hi; exact ⟨a1, rfl, h.1⟩
  | succ i => obtain ⟨b1, e1, e2⟩ := goneSame_at h.2 (i := i) (by simpa using hi); exact ⟨b1, by simpa using e1, e2⟩
theorem noGone {H H1 : List (PB X.Γ)} {h h1 : List HB} {m1 : List MB} (hr : HR X P A m H h) (hr1 : HR X P A m1 H1 h1) (hs : (!goneSame H H1) = false) : ∀ (i : Nat), i < m.length → m1[i]? = some .gone → m[i]? = some .gone := by
 intro i hi hg
 have hi' : i < H.length := by rw [← hr.len]; exact hi
 have hb := List.getElem?_eq_getElem hi'
 obtain ⟨b1, e1, e2⟩ := goneSame_at (by simpa using hs) hb
 have := (gone_iff hr1 e1).2 hg
 rw [← e2] at this
 exact (gone_iff hr hb).1 this
theorem want_ok {fl : Nat} {ops : Array Oper} {ps : PSt X.Γ} {ts : St} (hS : SR X P A W fl m ps ts) {o : Oper} {an : PT X.Γ} {k : Bool → PSt X.Γ → PT X.Γ → OT ρ} (hk : (pwantK X ops ps o an k).Ends y) :
  ∃ w ps1 an', wantT ops ts.env o = some w ∧ SR X P A W fl m ps1 ts ∧ (k w ps1 an').Ends y ∧ ps1.heap = ps.heap := by
 unfold pwantK at hk
 unfold wantT
 split at hk
 ·rename_i hg
  exact ⟨true, ps, an, by simp only [hg], hS, hk, rfl⟩
 ·rename_i j want hg
  simp only [hg]
  split at hk
  ·rename_i d hd
   simp only [hd]
   split at hk
   ·rename_i b hb
    obtain ⟨ev, h1, h2⟩ := look_some hS.st.env hb
    obtain ⟨tv, rfl, h3⟩ := per_val h2
    obtain ⟨t, an', rfl, hk⟩ := byB_ok hk h3
    exact ⟨t == want, _, an', by simp only [h1], hS.know (x := .tmp d) (by simp only [tvO, evO, h1]), hk, rfl⟩
   ·rename_i hb
    obtain ⟨ev, h1, h2⟩ := look_some hS.st.env hb
    have := per_undef h2; subst this
    exact ⟨false, ps, an, by simp only [h1], hS, hk, rfl⟩
   ·exact hk.elim
  ·exact hk.elim
theorem run_ok (hX : CodOk X P) (hO : OrcOk X P call orc) {site : Nat → Bool} {fl nt : Nat} {ops : Array Oper} : ∀ {os : List Oper} {m : List MB} {ps : PSt X.Γ} {ts : St} {an : PT X.Γ} {k : PSt X.Γ → List PI → PT X.Γ → OT ρ}, SR X P A W fl m ps ts → (prunK X P orc (Sim X P call) site nt ops os ps an k).Ends y →
  ∃ ts1 is pis ps1 an' m1, runOps P call site fl nt ops os ts = some (ts1, is) ∧ (k ps1 pis an').Ends y ∧ SR X P A W fl m1 ps1 ts1 ∧ Fr m ts.heap m1 ts1.heap ∧ Up m m1 ∧ IRs m ts.heap pis is ∧ is.length = os.length
 | [], m, ps, ts, an, k, hS, hk => ⟨ts, [], [], ps, an, m, rfl, hk, hS, .refl, .refl, .nil, rfl⟩
 | o :: os, m, ps, ts, an, k, hS, hk => by
  simp only [prunK] at hk
  split at hk
  ·exact hk.elim
  ·rename_i hd
   obtain ⟨w, ps1, an1, hw, hS1, hk, hh⟩ := want_ok hS hk
   cases w with
   | true =>
    simp only at hk
    obtain ⟨pe, ps2, pi, an2, ⟨ev, ts2, ti, m2, e1, e2, e3, e4, e5, e6, e7, e8, e9⟩, hk⟩ := pop_ok hX hO hS1.st hk
    have hS2 : SR X P A W fl m2 (ps2.put o.dst pe) (({ ts2 with ws := addKs fl ti.ws ts.ws }).put o.dst ev) := by
     refine ⟨StR.put (ts := { ts2 with ws := addKs fl ti.ws ts.ws }) ⟨e4.heap, e4.llen, e4.loc, e4.env⟩ e5, fun b hb => ?_, fun b hb => ?_, ?_⟩
     ·rcases e6.new b hb with h1 | h1
      ·exact hS.own b h1
      ·exact .inr (Nat.le_trans hS.fl h1)
     ·rw [put_heap.2] at hb
      rcases addKs_mem hb with h1 | ⟨h1, h2⟩
      ·exact hS.ws b h1
      ·rcases hS.own b (e9 b h1) with h3 | h3
       ·exact h3
       ·omega
     ·rw [put_heap.1]; exact Nat.le_trans hS.fl e6.len
    obtain ⟨ts3, is, pis, ps3, an3, m3, g1, g2, g3, g4, g5, g6, g7⟩ := run_ok hX hO (os := os) hS2 hk
    rw [put_heap.1] at g4 g6
    refine ⟨ts3, ti :: is, _, ps3, an3, m3, ?_, g2, g3, e6.trans g4, e7.trans g5, .cons hS.st.heap.nodup (fun b hb => hS.st.heap.inb hb) ⟨e8.all, e8.tl, e8.wl, e8.wh, e8.th, e8.hp⟩ e6 e7 (noGone hS1.st.heap e4.heap) g6, by simp [g7]⟩
    simp only [runOps, hd, hw, e1, g1]
    rfl
   | false =>
    simp only at hk
    have hS2 : SR X P A W fl m (ps1.put o.dst .undef) (ts.put o.dst .undef) := by
     refine ⟨hS1.st.put trivial, hS.own, fun b hb => ?_, ?_⟩
     ·rw [put_heap.2] at hb; exact hS.ws b hb
     ·rw [put_heap.1]; exact hS.fl
    obtain ⟨ts3, is, pis, ps3, an3, m3, g1, g2, g3, g4, g5, g6, g7⟩ := run_ok hX hO (os := os) hS2 hk
    rw [put_heap.1] at g4 g6
    refine ⟨ts3, noInf :: is, _, ps3, an3, m3, ?_, g2, g3, g4, g5, .cons hS.st.heap.nodup (fun b hb => hS.st.heap.inb hb) .none .refl .refl (fun _ i _ hg => hg) g6, by simp [g7]⟩
    simp only [runOps, hd, hw, g1]
    rfl
def ExecS (X : Cod) (P : Program) (T : Tab) (call : CallT) (L f : Nat) (rnd : Bool) (nt B : Nat) (c : Code) (ps : PSt X.Γ) (e : Ex) (ps1 : PSt X.Γ) : Prop :=
 ∀ (A W : Nat → Prop) (fl : Nat) (m : List MB) (ts : St), SR X P A W fl m ps ts → ∃ ts1 m1, exec P T call L f rnd fl nt c ts = some (e, ts1) ∧ SR X P A W fl m1 ps1 ts1 ∧ Fr m ts.heap m1 ts1.heap ∧ UpB B m m1
theorem StR.pick {ps : PSt X.Γ} {ts : St} (hR : StR X P A m ps ts) (live : List Nat) : StR X P A m { ps with env := ppick live ps.env } { ts with env := Tw.pick live ts.env } :=
 ⟨hR.heap, hR.llen, hR.loc, pick_VR hR.env live⟩
theorem SR.pick {fl : Nat} {ps : PSt X.Γ} {ts : St} (hS : SR X P A W fl m ps ts) (live : List Nat) : SR X P A W fl m { ps with env := ppick live ps.env } { ts with env := Tw.pick live ts.env } := ⟨hS.st.pick live, hS.own, hS.ws, hS.fl⟩
theorem SR.head {fl : Nat} {ps : PSt X.Γ} {ts : St} (hS : SR X P A W fl m ps ts) (live : List Nat) : SR X P A W fl m (patHead X live ps) (atHead live ts) := by
 have h1 := hS.pick live
 have ht := top_VR h1.st.env
 refine ⟨⟨h1.st.heap, ?_, fun k cs hk => ?_, h1.st.env⟩, h1.own, h1.ws, h1.fl⟩
 ·simp only [patHead, atHead, List.length_take]
  have := h1.st.llen
  simp only at this ht
  omega
 ·simp only [patHead, atHead] at hk ⊢
  rw [List.getElem?_take] at hk
  split at hk
  ·rename_i hlt
   obtain ⟨cs', g1, g2⟩ := h1.st.loc k cs hk
   refine ⟨cs', ?_, g2⟩
   rw [List.getElem?_take, if_pos (by simp only at ht; omega)]
   exact g1
  ·cases hk
theorem iter_le {g : St → Option (Ex × St)} : ∀ {k j : Nat} {s : St} {r : Ex × St}, iter g k s = some r → k ≤ j → iter g j s = some r
 | 0, _, s, r, h, _ => by simp [iter] at h
 | k + 1, j, s, r, h, hj => by
  obtain ⟨j, rfl⟩ : ∃ i, j = i + 1 := ⟨j - 1, by omega⟩
  simp only [iter] at h ⊢
  split at h
  ·rename_i s1 hs; exact iter_le h (by omega)
  ·rename_i hn; exact h
section
variable {L f : Nat} {rnd : Bool} {nt B : Nat}
theorem loop_ok (hX : CodOk X P) {c : Code} {A W : Nat → Prop} {fl : Nat} {m : List MB} {ps : PSt X.Γ} {ts : St} {k : Ex → PSt X.Γ → PT X.Γ → OT ρ} (hS : SR X P A W fl m ps ts) : ∀ {an : PT X.Γ}, (ploopK X (ExecS X P T call L f rnd nt B) B c ps k an).Ends y →
  ∃ e ts1 ps1 an' m1, exec P T call L f rnd fl nt c ts = some (e, ts1) ∧ (k e ps1 an').Ends y ∧ SR X P A W fl m1 ps1 ts1 ∧ Fr m ts.heap m1 ts1.heap ∧ UpB B m m1 := by
 intro an
 induction an with
 | a x r =>
  intro hk
  cases x with
  | loop e s' =>
   simp only [ploopK] at hk
   obtain ⟨hlo, hk⟩ := hk
   obtain ⟨ts1, m1, h1, h2, h3, h4⟩ := hlo A W fl m ts hS
   exact ⟨_, ts1, _, _, m1, h1, hk, h2, h3, h4⟩
  | lg gs e s' =>
   simp only [ploopK] at hk
   split at hk
   ·rename_i hgs
    obtain ⟨hlo, hk⟩ := hk
    obtain ⟨m0, e1, e2, e3⟩ := gsteps_ok hX hgs A W fl m ts hS
    obtain ⟨ts1, m1, h1, h2, h3, h4⟩ := hlo A W fl m0 ts e1
    exact ⟨_, ts1, _, _, m1, h1, hk, h2, e2.trans h3, e3.trans h4⟩
   ·exact hk.elim
  | _ => simp only [ploopK] at hk; exact hk.elim
 | z c' a b iha ihb =>
  intro hk
  simp only [ploopK] at hk
  rcases hk with ⟨_, hk⟩ | ⟨_, hk⟩
  ·exact iha hk
  ·exact ihb hk
 | _ => intro hk; simp only [ploopK] at hk; exact hk.elim
theorem exec_ok (hX : CodOk X P) (hO : OrcOk X P call orc) : ∀ (c : Code) {A W : Nat → Prop} {fl : Nat} {m : List MB} {ps : PSt X.Γ} {ts : St} {an : PT X.Γ} {k : Ex → PSt X.Γ → PT X.Γ → OT ρ}, SR X P A W fl m ps ts → (pexecK X P T orc (Sim X P call) (ExecS X P T call L f rnd nt B) B L f rnd nt c ps an k).Ends y →
  ∃ e ts1 ps1 an' m1, exec P T call L f rnd fl nt c ts = some (e, ts1) ∧ (k e ps1 an').Ends y ∧ SR X P A W fl m1 ps1 ts1 ∧ Fr m ts.heap m1 ts1.heap ∧ UpB B m m1 := by
 intro c
 induction c with
 | skip => intro A W fl m ps ts an k hS hk; exact ⟨.norm, ts, ps, an, m, rfl, hk, hS, .refl, .refl⟩
 | label => intro A W fl m ps ts an k hS hk; exact ⟨.norm, ts, ps, an, m, rfl, hk, hS, .refl, .refl⟩
 | exit id => intro A W fl m ps ts an k hS hk; exact ⟨.exit id, ts, ps, an, m, rfl, hk, hS, .refl, .refl⟩
 | ret => intro A W fl m ps ts an k hS hk; exact ⟨.ret, ts, ps, an, m, rfl, hk, hS, .refl, .refl⟩
 | region id ops draw =>
  intro A W fl m ps ts an k hS hk
  simp only [pexecK] at hk
  obtain ⟨ts1, is, pis, ps1, an1, m1, g1, hk, g3, g4, g5, g6, g7⟩ := run_ok hX hO hS hk
  have fin : ∀ {an2 : PT X.Γ}, (!draw || (staticOk ops.toList && dynOk is (hotPairs ops.toList))) = true → (k .norm { ps1 with env := ppick (T.liveAt f id) ps1.env } an2).Ends y → ∃ e ts1 ps1 an' m1, exec P T call L f rnd fl nt (.region id ops draw) ts = some (e, ts1) ∧ (k e ps1 an').Ends y ∧ SR X P A W fl m1 ps1 ts1 ∧ Fr m ts.heap m1 ts1.heap ∧ UpB B m m1 := by
   intro an2 hc hk
   exact ⟨.norm, { ts1 with env := Tw.pick (T.liveAt f id) ts1.env }, _, an2, m1, by simp only [exec, g1, hc, if_true], hk, g3.pick _, g4, g5.b⟩
  cases draw with
  | false => exact fin rfl hk
  | true =>
   simp only at hk
   split at hk
   ·rename_i r
    split at hk
    ·rename_i hall
     obtain ⟨hst, hk⟩ := hk
     refine fin ?_ hk
     rw [hst]
     simp only [Bool.not_true, Bool.false_or, Bool.true_and]
     refine calm_none (fun t ht => ?_) fun q hq => by rw [g7]; exact hot_in q hq
     have key : ∀ {ps : List PI} {ts : List Inf} {m : List MB} {h : List HB}, IRs m h ps ts → (ps.all fun i => i.i.ws.isEmpty && !i.wall) = true → ∀ t ∈ ts, t.ws = [] := by
      intro ps ts m h hI
      induction hI with
      | nil => intro _ t ht; cases ht
      | cons _ _ i1 _ _ _ _ ih =>
       intro ha t ht
       simp only [List.all_cons, Bool.and_eq_true, List.isEmpty_iff, Bool.not_eq_true'] at ha
       rcases List.mem_cons.1 ht with rfl | ht
       ·refine List.eq_nil_iff_forall_not_mem.2 fun x hx => ?_
        cases x with
        | l j => have := i1.wl j hx; rw [ha.1.1] at this; cases this
        | h b =>
         rcases i1.wh b hx with ⟨i, h1, _⟩ | ⟨h1, _⟩
         ·rw [ha.1.1] at h1; cases h1
         ·rw [ha.1.2] at h1; cases h1
       ·exact ih ha.2 t ht
     exact key g6 hall t ht
    ·exact hk.elim
   ·split at hk
    ·rename_i hc
     simp only [Bool.and_eq_true] at hc
     refine fin ?_ hk
     rw [hc.1, dyn_ok g6 hot_lt hc.2]; rfl
    ·exact hk.elim
 | seq a b iha ihb =>
  intro A W fl m ps ts an k hS hk
  simp only [pexecK] at hk
  obtain ⟨e, ts1, ps1, an1, m1, h1, hk, h3, h4, h5⟩ := iha hS hk
  cases e with
  | norm =>
   obtain ⟨e2, ts2, ps2, an2, m2, g1, g2, g3, g4, g5⟩ := ihb h3 hk
   exact ⟨e2, ts2, ps2, an2, m2, by simp only [exec, h1, g1], g2, g3, h4.trans g4, h5.trans g5⟩
  | exit id => exact ⟨_, ts1, ps1, an1, m1, by simp only [exec, h1], hk, h3, h4, h5⟩
  | ret => exact ⟨_, ts1, ps1, an1, m1, by simp only [exec, h1], hk, h3, h4, h5⟩
 | cond c a b iha ihb =>
  intro A W fl m ps ts an k hS hk
  simp only [pexecK] at hk
  split at hk
  ·rename_i u hu
   obtain ⟨tu, h1, h2⟩ := ptest_VR hS.st.env hu
   obtain ⟨t, an', rfl, hk⟩ := byB_ok hk h2
   cases t with
   | true =>
    obtain ⟨e, ts1, ps1, an1, m1, g1, g2, g3, g4, g5⟩ := iha (hS.know h1) hk
    exact ⟨e, ts1, ps1, an1, m1, by simp only [exec, h1, g1], g2, g3, g4, g5⟩
   | false =>
    obtain ⟨e, ts1, ps1, an1, m1, g1, g2, g3, g4, g5⟩ := ihb (hS.know h1) hk
    exact ⟨e, ts1, ps1, an1, m1, by simp only [exec, h1, g1], g2, g3, g4, g5⟩
  ·exact hk.elim
 | block id b ih =>
  intro A W fl m ps ts an k hS hk
  simp only [pexecK] at hk
  obtain ⟨e, ts1, ps1, an1, m1, h1, hk, h3, h4, h5⟩ := ih hS hk
  cases e with
  | norm => exact ⟨_, ts1, ps1, an1, m1, by simp only [exec, h1], hk, h3, h4, h5⟩
  | ret => exact ⟨_, ts1, ps1, an1, m1, by simp only [exec, h1], hk, h3, h4, h5⟩
  | exit i => exact ⟨_, ts1, ps1, an1, m1, by simp only [exec, h1], hk, h3, h4, h5⟩
 | scope b ih =>
  intro A W fl m ps ts an k hS hk
  simp only [pexecK] at hk
  obtain ⟨e, ts1, ps1, an1, m1, h1, hk, h3, h4, h5⟩ := ih hS hk
  exact ⟨e, ts1, ps1, an1, m1, by simp only [exec, h1], hk, h3, h4, h5⟩
 | loop b ih =>
  intro A W fl m ps ts an k hS hk
  simp only [pexecK] at hk
  split at hk
  ·rename_i j r
   obtain ⟨hj, hk⟩ := hk
   have go : ∀ (j : Nat) {m : List MB} {ps : PSt X.Γ} {ts : St} {an : PT X.Γ}, SR X P A W fl m ps ts → (piterK X (fun s an k => pexecK X P T orc (Sim X P call) (ExecS X P T call L f rnd nt B) B L f rnd nt b (patHead X (T.headAt f (headId b)) s) an k) j ps an k).Ends y →
     ∃ e ts1 ps1 an' m1, iter (fun s => exec P T call L f rnd fl nt b (atHead (T.headAt f (headId b)) s)) j ts = some (e, ts1) ∧ (k e ps1 an').Ends y ∧ SR X P A W fl m1 ps1 ts1 ∧ Fr m ts.heap m1 ts1.heap ∧ UpB B m m1 := by
    intro j
    induction j with
    | zero => intro m ps ts an _ hk; exact hk.elim
    | succ j ihj =>
     intro m ps ts an hS hk
     simp only [piterK] at hk
     obtain ⟨e, ts1, ps1, an1, m1, h1, hk, h3, h4, h5⟩ := ih (hS.head _) hk
     cases e with
     | norm =>
      obtain ⟨e2, ts2, ps2, an2, m2, g1, g2, g3, g4, g5⟩ := ihj h3 hk
      exact ⟨e2, ts2, ps2, an2, m2, by simp only [iter, h1, g1], g2, g3, h4.trans g4, h5.trans g5⟩
     | exit id => exact ⟨_, ts1, ps1, an1, m1, by simp only [iter, h1], hk, h3, h4, h5⟩
     | ret => exact ⟨_, ts1, ps1, an1, m1, by simp only [iter, h1], hk, h3, h4, h5⟩
   obtain ⟨e, ts1, ps1, an1, m1, h1, h2, h3, h4, h5⟩ := go j hS hk
   exact ⟨e, ts1, ps1, an1, m1, by simp only [exec]; exact iter_le h1 hj, h2, h3, h4, h5⟩
  ·exact loop_ok hX hS hk
 | rangeFunc g qs asg body iha ihb =>
  intro A W fl m ps ts an k hS hk
  simp only [pexecK] at hk
  exact loop_ok hX hS hk
 | _ => intro A W fl m ps ts an k hS hk; simp only [pexecK] at hk; exact hk.elim
end
end
end Pv
namespace Pv
open Go Tw
section
variable {X : Cod} {P : Program} {T : Tab} {A W : Nat → Prop} {m m' : List MB}
variable {call : CallT} {orc : Orc X.Γ} {L : Nat}
def ntP (P : Program) (f : Nat) : Nat := match fnT P f with
 | some t => t.nt
 | none => 0
abbrev LoopS (X : Cod) (P : Program) (T : Tab) (call : CallT) (L f B : Nat) : LoopT X.Γ := ExecS X P T call L f false (ntP P f) B
theorem args_VR {A : Nat → Prop} {h : List HB} : ∀ {k : Nat} {vs : List (PV X.Γ)} {xs : List TV}, VRs X P A m h vs xs → EnvR X P A m h (pargEnv X k vs) (argEnv k xs)
 | k, [], xs, hv => by rw [hv.inv0]; exact .nil
 | k, v :: vs, xs, hv => by
  obtain ⟨x, r, rfl, h1, h2⟩ := hv.inv
  exact .cons h1 (args_VR h2)
theorem res_ok (hX : CodOk X P) {ps : PSt X.Γ} {ts : St} (hR : StR X P A m ps ts) : ∀ {rs : List ResultVar} {vs : List (PV X.Γ)}, press X P ps rs = some vs → ∃ ws, resTs P ts rs = some ws ∧ VRs X P (AA A m) m ts.heap vs ws
 | [], vs, h => by simp only [press, Option.some.injEq] at h; subst h; exact ⟨[], rfl, .nil⟩
 | r :: rs, vs, h => by
  simp only [press] at h
  split at h
  ·rename_i v vs' h1 h2
   cases h
   obtain ⟨ws, g1, g2⟩ := res_ok hX hR h2
   have : ∃ w, resT P ts r = some w ∧ VR X P (AA A m) m ts.heap v w := by
    unfold pres at h1
    unfold resT
    split at h1
    ·rename_i t
     split at h1
     ·rename_i u hu
      cases h1
      obtain ⟨ev, e1, e2⟩ := look_some hR.env hu
      obtain ⟨w, rfl, e3⟩ := per_val e2
      exact ⟨w, by simp only [e1], unlit_VR e3⟩
     ·cases h1
    ·rename_i a t
     split at h1
     ·rename_i pa ha
      simp only [Option.map_eq_some_iff] at h1
      obtain ⟨⟨u, i⟩, e1, rfl⟩ := h1
      obtain ⟨ev, e2, e3⟩ := look_some hR.env ha
      obtain ⟨w, ti, e4, e5, _, _⟩ := load_ok hX hR e3 e1
      exact ⟨w, by simp only [e2, e4, Option.map_some], e5⟩
     ·cases h1
   obtain ⟨w, g3, g4⟩ := this
   exact ⟨w :: ws, by simp only [resTs, g3, g1], .cons g4 g2⟩
  ·cases h
theorem one_VR' {A : Nat → Prop} {h : List HB} {vs : List (PV X.Γ)} {ws : List TV} (hv : VRs X P A m h vs ws) : VR X P A m h (pone X vs) (one ws) := by
 match vs, ws, hv with
 | [], ws, hv => rw [hv.inv0]; exact .tup rfl (by simp)
 | [v], ws, hv =>
  obtain ⟨x, r, rfl, h1, h2⟩ := hv.inv
  have := h2.inv0; subst this
  exact h1
 | v :: u :: vs, ws, hv =>
  obtain ⟨x, r, rfl, h1, h2⟩ := hv.inv
  obtain ⟨z, r, rfl, h3, h4⟩ := h2.inv
  exact .tup hv.1 hv.2
theorem fun_ok (hX : CodOk X P) (hO : OrcOk X P call orc) {f : Nat} {vs : List (PV X.Γ)} {H : List (PB X.Γ)} {an : PT X.Γ} {v : PV X.Γ} {H1 : List (PB X.Γ)} (hk : (pfunK X P T orc (Sim X P call) (LoopS X P T call L f H.length) L f vs H an).Ends (v, H1))
  {h : List HB} (hr : HR X P A m H h) {xs : List TV} (hv : VRs X P (AA A m) m h vs xs) : ∃ w h1 ws m1, funN P T call L f xs h = some (w, h1, ws) ∧ HR X P A m1 H1 h1 ∧ VR X P (AA A m1) m1 h1 v w ∧ Fr m h m1 h1 ∧ UpB H.length m m1 ∧ (∀ b ∈ ws, b ∈ blks m) ∧ ¬ T.exts.contains f = true := by
 unfold pfunK at hk
 split at hk
 ·rename_i t ht
  have hnx : ¬ T.exts.contains f = true := fun hx => by rw [if_pos hx] at ht; cases ht
  rw [if_neg hnx] at ht
  have hnt : ntP P f = t.nt := by unfold ntP; rw [ht]
  have hS : SR X P A (fun b => b ∈ blks m) h.length m ⟨pargEnv X 0 vs, [], H⟩ ⟨argEnv 0 xs, [], h, []⟩ :=
   ⟨⟨hr, rfl, fun k cs hk => by simp at hk, args_VR hv⟩, fun b hb => .inl hb, fun b hb => (by cases hb), Nat.le_refl _⟩
  rw [show LoopS X P T call L f H.length = ExecS X P T call L f false t.nt H.length by unfold LoopS; rw [hnt]] at hk
  obtain ⟨e, ts1, ps1, an1, m1, h1, hk, h3, h4, h5⟩ := exec_ok hX hO t.body hS hk
  have fin : ∀ {e : Ex}, exec P T call L f false h.length t.nt t.body ⟨argEnv 0 xs, [], h, []⟩ = some (e, ts1) → (e = .norm ∨ e = .ret) → ∀ {us : List (PV X.Γ)}, press X P ps1 t.results = some us → (pone X us, ps1.heap) = (v, H1) → ∃ w h1 ws m1, funN P T call L f xs h = some (w, h1, ws) ∧ HR X P A m1 H1 h1 ∧ VR X P (AA A m1) m1 h1 v w ∧ Fr m h m1 h1 ∧ UpB H.length m m1 ∧ (∀ b ∈ ws, b ∈ blks m) ∧ ¬ T.exts.contains f = true := by
   intro e he hee us hus hv
   cases hv
   obtain ⟨ws, g1, g2⟩ := res_ok hX h3.st hus
   refine ⟨one ws, ts1.heap, ts1.ws, m1, ?_, h3.st.heap, one_VR' g2, h4, h5, h3.ws, hnx⟩
   unfold funN
   rcases hee with rfl | rfl <;> simp only [ht, he, g1]
  cases e with
  | exit id => exact hk.elim
  | norm =>
   cases an1 with
   | n =>
    simp only at hk
    split at hk
    ·rename_i us hus; exact fin h1 (.inl rfl) hus hk
    ·exact hk.elim
   | _ => exact hk.elim
  | ret =>
   cases an1 with
   | n =>
    simp only at hk
    split at hk
    ·rename_i us hus; exact fin h1 (.inr rfl) hus hk
    ·exact hk.elim
   | _ => exact hk.elim
 ·exact hk.elim
theorem con_fn (hX : CodOk X P) {n f : Nat} (hn : 0 < n) (hO : OrcOk X P (apN P T L (n - 1)) orc) {vs : List (PV X.Γ)} {an : PT X.Γ} {v : PV X.Γ} {ext : List (PB X.Γ)}
  (hk : (pfunK X P T orc (Sim X P (apN P T L (n - 1))) (LoopS X P T (apN P T L (n - 1)) L f 0) L f vs [] an).Ends (v, ext)) : Con X P (apN P T L n) f vs v ext := by
 intro A h first args cap hup hv
 have hr : HR X P A [] [] h := ⟨rfl, fun i b hb => by simp at hb, by simp [blks], hup, fun b hb => by simp [blks] at hb⟩
 obtain ⟨w, h1, ws, m1, g1, g2, g3, g4, _, g6, g7⟩ := fun_ok hX hO (H := []) hk hr (hv.mono fun b hb => ⟨hb, by simp [blks]⟩)
 obtain ⟨n, rfl⟩ : ∃ j, n = j + 1 := ⟨n - 1, by omega⟩
 have : ws = [] := List.eq_nil_iff_forall_not_mem.2 fun x hx => by have := g6 x hx; simp [blks] at this
 subst this
 exact ⟨w, h1, m1, by simp only [apN]; rw [if_neg g7]; exact g1, g2, g3, g4⟩
theorem sim_fn (hX : CodOk X P) {n f : Nat} (hn : 0 < n) (hO : OrcOk X P (apN P T L (n - 1)) orc) {first xs cap : List (PV X.Γ)} {H H1 : List (PB X.Γ)} {an : PT X.Γ} {v : PV X.Γ}
  (hk : (pfunK X P T orc (Sim X P (apN P T L (n - 1))) (LoopS X P T (apN P T L (n - 1)) L f H.length) L f (first ++ xs ++ cap) H an).Ends (v, H1)) : Sim X P (apN P T L n) (.fn f first cap) xs H v H1 := by
 intro A m h tf txs hr hf hx
 obtain ⟨n, rfl⟩ : ∃ j, n = j + 1 := ⟨n - 1, by omega⟩
 cases hf with
 | gone hi _ _ => simp [idOf] at hi
 | fn p1 p2 p3 p4 =>
  obtain ⟨w, h1, ws, m1, g1, g2, g3, g4, g5, g6, g7⟩ := fun_ok hX hO hk hr ((VRs.app ⟨p1, p2⟩ hx).app ⟨p3, p4⟩)
  refine ⟨w, h1, ws, m1, by simp only [apN]; rw [if_neg g7]; exact g1, g2, g3, g4, fun i mb hi => g5 i mb ?_ hi, g6⟩
  rw [← hr.len]; exact (List.getElem?_eq_some_iff.1 hi).1
def RoundsS (X : Cod) (P : Program) (T : Tab) (call : CallT) (L f : Nat) (rnd : Bool) (nt B : Nat) (b : Code) (n : Nat) (ps : PSt X.Γ) (e : Ex) (ps1 : PSt X.Γ) : Prop :=
 ∀ (A W : Nat → Prop) (fl : Nat) (m : List MB) (ts : St), SR X P A W fl m ps ts → ∃ ts1 m1, iter (fun s => exec P T call L f rnd fl nt b (atHead (T.headAt f (headId b)) s)) n ts = some (e, ts1) ∧ SR X P A W fl m1 ps1 ts1 ∧ Fr m ts.heap m1 ts1.heap ∧ UpB B m m1
def endE : Ex → PSt X.Γ → PT X.Γ → OT (Ex × PSt X.Γ) := fun e s an => match an with
 | .n => .ret (e, s)
 | _ => .bad
section
variable {f nt B : Nat} {rnd : Bool}
theorem execS_of (hX : CodOk X P) (hO : OrcOk X P call orc) {c : Code} {ps : PSt X.Γ} {an : PT X.Γ} {e : Ex} {ps1 : PSt X.Γ} (hk : (pexecK X P T orc (Sim X P call) (ExecS X P T call L f rnd nt B) B L f rnd nt c ps an endE).Ends (e, ps1)) : ExecS X P T call L f rnd nt B c ps e ps1 := by
 intro A W fl m ts hS
 obtain ⟨e1, ts1, ps2, an1, m1, h1, h2, h3, h4, h5⟩ := exec_ok hX hO c hS hk
 cases an1 with
 | n => cases h2; exact ⟨ts1, m1, h1, h3, h4, h5⟩
 | _ => exact h2.elim
theorem rounds_weak {b : Code} {n : Nat} {ps ps' : PSt X.Γ} {e : Ex} {ps1 : PSt X.Γ} (hw : Weaker X P B ps ps') (h : RoundsS X P T call L f rnd nt B b n ps' e ps1) : RoundsS X P T call L f rnd nt B b n ps e ps1 := fun A W fl m ts hS => by
 obtain ⟨m1, g1, g2, g3⟩ := hw A W fl m ts hS
 obtain ⟨ts1, m2, h1, h2, h3, h4⟩ := h A W fl m1 ts g1
 exact ⟨ts1, m2, h1, h2, g2.trans h3, g3.trans h4⟩
theorem round_on (hX : CodOk X P) (hO : OrcOk X P call orc) {b : Code} {n : Nat} {ps s1 s2 : PSt X.Γ} {an : PT X.Γ} {e : Ex} {ps1 : PSt X.Γ}
  (hk : (pexecK X P T orc (Sim X P call) (ExecS X P T call L f rnd nt B) B L f rnd nt b (patHead X (T.headAt f (headId b)) ps) an endE).Ends (.norm, s1)) (hw : Weaker X P B s1 s2) (h : RoundsS X P T call L f rnd nt B b n s2 e ps1) : RoundsS X P T call L f rnd nt B b (n + 1) ps e ps1 := fun A W fl m ts hS => by
 obtain ⟨ts1, m1, h1, h2, h3, h4⟩ := execS_of hX hO hk A W fl m _ (hS.head (T.headAt f (headId b)))
 obtain ⟨ts2, m2, g1, g2, g3, g4⟩ := rounds_weak hw h A W fl m1 ts1 h2
 exact ⟨ts2, m2, by simp only [iter, h1, g1], g2, h3.trans g3, h4.trans g4⟩
theorem round_out (hX : CodOk X P) (hO : OrcOk X P call orc) {b : Code} {ps s1 : PSt X.Γ} {an : PT X.Γ} {e : Ex}
  (hk : (pexecK X P T orc (Sim X P call) (ExecS X P T call L f rnd nt B) B L f rnd nt b (patHead X (T.headAt f (headId b)) ps) an endE).Ends (e, s1)) (he : isNorm e = false) : RoundsS X P T call L f rnd nt B b 1 ps e s1 := fun A W fl m ts hS => by
 obtain ⟨ts1, m1, h1, h2, h3, h4⟩ := execS_of hX hO hk A W fl m _ (hS.head (T.headAt f (headId b)))
 refine ⟨ts1, m1, ?_, h2, h3, h4⟩
 cases e with
 | norm => cases he
 | exit id => simp only [iter, h1]
 | ret => simp only [iter, h1]
end
end
end Pv
namespace Pv
open Go Tw
def OT.map {ρ σ : Type} (f : ρ → σ) : OT ρ → OT σ
 | .bad => .bad
 | .ret r => .ret (f r)
 | .o p r => .o p (r.map f)
 | .br c t e => .br c (t.map f) (e.map f)
theorem OT.map_ends {ρ σ : Type} {f : ρ → σ} {y : σ} : ∀ {o : OT ρ}, (o.map f).Ends y → ∃ r, o.Ends r ∧ f r = y
 | .bad, h => h.elim
 | .ret r, h => ⟨r, rfl, h⟩
 | .o p r, h => by obtain ⟨x, h1, h2⟩ := OT.map_ends h.2; exact ⟨x, ⟨h.1, h1⟩, h2⟩
 | .br c t e, h => by
  rcases h with ⟨h0, h⟩ | ⟨h0, h⟩
  ·obtain ⟨x, h1, h2⟩ := OT.map_ends h; exact ⟨x, .inl ⟨h0, h1⟩, h2⟩
  ·obtain ⟨x, h1, h2⟩ := OT.map_ends h; exact ⟨x, .inr ⟨h0, h1⟩, h2⟩
inductive Fp {Γ : Nat → Type} {ρ : Type} (R : ρ → Prop) : PT Γ → OT ρ → Prop where
 | r {v : ρ} (h : R v) : Fp R .n (.ret v)
 | g {v : ρ} (gs : List G) (h : R v) : Fp R (.a (.lg gs .norm ⟨[], [], []⟩) .n) (.ret v)
 | o {p : Prop} {an : PT Γ} {o : OT ρ} (h : p) (f : Fp R an o) : Fp R an (.o p o)
 | s {c : Bool} {a b : PT Γ} {x y : OT ρ} (f : c = true → Fp R a x) (g : c = false → Fp R b y) : Fp R (.s a b) (.br c x y)
 | z {c : Bool} {a b : PT Γ} {x y : OT ρ} (f : c = true → Fp R a x) (g : c = false → Fp R b y) : Fp R (.z c a b) (.br c x y)
 | b {c t : Bool} {an : PT Γ} {o : OT ρ} (h : c = t) (f : Fp R an o) : Fp R (.a (.br t) an) (.o (c = t) o)
 | q {p : Prop} {an : PT Γ} {o : OT ρ} (w : TV) (h : p) (f : Fp R an o) : Fp R (.a (.rd w) an) (.o p o)
 | c {p : Prop} {an : PT Γ} {o : OT ρ} (v : PV Γ) (H : List (PB Γ)) (h : p) (f : Fp R an o) : Fp R (.a (.call v H) an) (.o p o)
 | kf {p : Prop} {an : PT Γ} {o : OT ρ} (ks : List Nat) (v : PV Γ) (H : List (PB Γ)) (h : p) (f : Fp R an o) : Fp R (.a (.fr ks v H) an) (.o p o)
 | kg {p : Prop} {an : PT Γ} {o : OT ρ} (ks rs : List Nat) (v : PV Γ) (H : List (PB Γ)) (h : p) (f : Fp R an o) : Fp R (.a (.frR ks rs v H) an) (.o p o)
 | l {p : Prop} {an : PT Γ} {o : OT ρ} (gs : List G) (e : Ex) (s : PSt Γ) (h : p) (f : Fp R an o) : Fp R (.a (.lg gs e s) an) (.o p o)
 | f {p : Prop} {an : PT Γ} {o : OT ρ} (e : Ex) (s : PSt Γ) (h : p) (f : Fp R an o) : Fp R (.a (.loop e s) an) (.o p o)
 | m {p : Prop} {an : PT Γ} {o : OT ρ} (k : Nat) (h : p) (f : Fp R an o) : Fp R (.l k an) (.o p o)
 | a {an : PT Γ} {o : OT ρ} (x : PA Γ) (f : Fp R an o) : Fp R (.a x an) o
theorem Fp.ends {Γ : Nat → Type} {ρ : Type} {R : ρ → Prop} {an : PT Γ} {o : OT ρ} (h : Fp R an o) : ∃ y, o.Ends y ∧ R y := by
 induction h with
 | r h => exact ⟨_, rfl, h⟩
 | g _ h => exact ⟨_, rfl, h⟩
 | s _ _ i1 i2 =>
  rename_i c _ _ _ _ _ _
  cases c with
  | true => obtain ⟨y, h1, h2⟩ := i1 rfl; exact ⟨y, .inl ⟨rfl, h1⟩, h2⟩
  | false => obtain ⟨y, h1, h2⟩ := i2 rfl; exact ⟨y, .inr ⟨rfl, h1⟩, h2⟩
 | z _ _ i1 i2 =>
  rename_i c _ _ _ _ _ _
  cases c with
  | true => obtain ⟨y, h1, h2⟩ := i1 rfl; exact ⟨y, .inl ⟨rfl, h1⟩, h2⟩
  | false => obtain ⟨y, h1, h2⟩ := i2 rfl; exact ⟨y, .inr ⟨rfl, h1⟩, h2⟩
 | a _ _ i => exact i
 | o h _ i => obtain ⟨y, h1, h2⟩ := i; exact ⟨y, ⟨h, h1⟩, h2⟩
 | b h _ i => obtain ⟨y, h1, h2⟩ := i; exact ⟨y, ⟨h, h1⟩, h2⟩
 | q _ h _ i => obtain ⟨y, h1, h2⟩ := i; exact ⟨y, ⟨h, h1⟩, h2⟩
 | c _ _ h _ i => obtain ⟨y, h1, h2⟩ := i; exact ⟨y, ⟨h, h1⟩, h2⟩
 | kg _ _ _ _ h _ i => obtain ⟨y, h1, h2⟩ := i; exact ⟨y, ⟨h, h1⟩, h2⟩
 | kf _ _ _ h _ i => obtain ⟨y, h1, h2⟩ := i; exact ⟨y, ⟨h, h1⟩, h2⟩
 | l _ _ _ h _ i => obtain ⟨y, h1, h2⟩ := i; exact ⟨y, ⟨h, h1⟩, h2⟩
 | f _ _ h _ i => obtain ⟨y, h1, h2⟩ := i; exact ⟨y, ⟨h, h1⟩, h2⟩
 | m _ h _ i => obtain ⟨y, h1, h2⟩ := i; exact ⟨y, ⟨h, h1⟩, h2⟩
section
variable {X : Cod} {P : Program} {T : Tab} {L : Nat}
def frz (r : PV X.Γ × List (PB X.Γ)) : Option (PV X.Γ) := view r.2 r.1
theorem con_view (hX : CodOk X P) {call : CallT} {f : FuncId} {vs : List (PV X.Γ)} {v w : PV X.Γ} {ext : List (PB X.Γ)} (hc : Con X P call f vs v ext) (hw : view ext v = some w) : Con X P call f vs w [] := by
 intro A h first args cap hup hv
 obtain ⟨x, h', m', c1, c2, c3, c4⟩ := hc A h first args cap hup hv
 refine ⟨x, h', [], c1, ⟨rfl, fun i b hb => by simp at hb, by simp [blks], c2.up, fun b hb => by simp [blks] at hb⟩, ?_, ?_⟩
 ·refine (view_VR (m' := []) hX c2 c3 hw (is := owns v) fun i hi => hi).mono fun b hb => ⟨?_, by simp [blks]⟩
  rcases hb with hb | ⟨i, mb, h1, h2, h3⟩
  ·exact hb.1
  ·exact c2.ownA b (own_mem h2 h3)
 ·exact ⟨c4.len, fun b hb hn => c4.same b hb hn, fun b hb => by simp [blks] at hb, c4.grow⟩
def endH (hd : PSt X.Γ → PSt X.Γ) (B : Nat) : Ex → PSt X.Γ → PT X.Γ → OT (Ex × PSt X.Γ) := fun e s an => match an with
 | .n => match e with
  | .norm => .ret (.norm, hd s)
  | e => .ret (e, s)
 | .a (.lg gs _ _) .n => match e with
  | .norm => match gsteps B gs (hd s) with
   | some s => .ret (.norm, s)
   | none => .bad
  | e => match gsteps B gs s with
   | some s => .ret (e, s)
   | none => .bad
 | _ => .bad
section
variable {f nt B : Nat} {rnd : Bool} {call : CallT} {orc : Orc X.Γ}
def RoundsH (X : Cod) (P : Program) (T : Tab) (call : CallT) (L f : Nat) (rnd : Bool) (nt B : Nat) (b : Code) (n : Nat) (ps : PSt X.Γ) (e : Ex) (ps1 : PSt X.Γ) : Prop :=
 ∀ (A W : Nat → Prop) (fl : Nat) (m : List MB) (ts : St), SR X P A W fl m ps (atHead (T.headAt f (headId b)) ts) → ∃ ts1 m1, iter (fun s => exec P T call L f rnd fl nt b (atHead (T.headAt f (headId b)) s)) n ts = some (e, ts1) ∧ SR X P A W fl m1 ps1 ts1 ∧ Fr m ts.heap m1 ts1.heap ∧ UpB B m m1
theorem roundsH_more {b : Code} {n k : Nat} {ps : PSt X.Γ} {e : Ex} {ps1 : PSt X.Γ} (h : RoundsH X P T call L f rnd nt B b n ps e ps1) (hk : n ≤ k) : RoundsH X P T call L f rnd nt B b k ps e ps1 := fun A W fl m ts hS => by
 obtain ⟨ts1, m1, h1, h2⟩ := h A W fl m ts hS
 exact ⟨ts1, m1, iter_le h1 hk, h2⟩
theorem loopH_of {b : Code} {n : Nat} {s0 ps : PSt X.Γ} {e : Ex} {ps1 : PSt X.Γ} (h : RoundsH X P T call L f rnd nt B b n ps e ps1) (h0 : patHead X (T.headAt f (headId b)) s0 = ps) (hn : n ≤ L) : ExecS X P T call L f rnd nt B (.loop b) s0 e ps1 := fun A W fl m ts hS => by
 obtain ⟨ts1, m1, h1, h2⟩ := roundsH_more h hn A W fl m ts (by rw [← h0]; exact hS.head _)
 exact ⟨ts1, m1, by simp only [exec]; exact h1, h2⟩
def Rnd (X : Cod) (P : Program) (T : Tab) (call : CallT) (L f : Nat) (rnd : Bool) (nt B : Nat) (b : Code) (n : Nat) (e : Ex) (s : PSt X.Γ) : Ex × PSt X.Γ → Prop
 | (.norm, s') => RoundsH X P T call L f rnd nt B b n s' e s
 | (e', s') => e' = e ∧ s' = s
theorem rnd_out {b : Code} {n : Nat} {e e' : Ex} {s s' : PSt X.Γ} (hn : e' ≠ .norm) (h : Rnd X P T call L f rnd nt B b n e s (e', s')) : e' = e ∧ s' = s := by
 cases e' with
 | norm => exact absurd rfl hn
 | exit id => exact h
 | ret => exact h
theorem round (hX : CodOk X P) (hO : OrcOk X P call orc) {b : Code} {n : Nat} {ps : PSt X.Γ} {an : PT X.Γ} {e : Ex} {s : PSt X.Γ} {o : OT (Ex × PSt X.Γ)}
  (hk : pexecK X P T orc (Sim X P call) (ExecS X P T call L f rnd nt B) B L f rnd nt b ps an (endH (patHead X (T.headAt f (headId b))) B) = o) (ht : Fp (Rnd X P T call L f rnd nt B b n e s) an o) : RoundsH X P T call L f rnd nt B b (n + 1) ps e s := by
 obtain ⟨⟨e', s'⟩, h1, h2⟩ := ht.ends
 rw [← hk] at h1
 intro A W fl m ts hS
 obtain ⟨e1, ts1, ps2, an1, m1, g1, g2, g3, g4, g5⟩ := exec_ok hX hO b hS h1
 have out : ∀ {e1 : Ex} {m2 : List MB}, exec P T call L f rnd fl nt b (atHead (T.headAt f (headId b)) ts) = some (e1, ts1) → e1 ≠ .norm → e1 = e ∧ s' = s → SR X P A W fl m2 s' ts1 → Fr m ts.heap m2 ts1.heap → UpB B m m2 → ∃ ts1 m1, iter (fun s => exec P T call L f rnd fl nt b (atHead (T.headAt f (headId b)) s)) (n + 1) ts = some (e, ts1) ∧ SR X P A W fl m1 s ts1 ∧ Fr m ts.heap m1 ts1.heap ∧ UpB B m m1 := by
  intro e1 m2 ge hn hh q1 q2 q3
  obtain ⟨rfl, rfl⟩ := hh
  refine ⟨ts1, m2, ?_, q1, q2, q3⟩
  cases e1 with
  | norm => exact absurd rfl hn
  | exit id => simp only [iter, ge]
  | ret => simp only [iter, ge]
 have on : ∀ {m2 : List MB}, exec P T call L f rnd fl nt b (atHead (T.headAt f (headId b)) ts) = some (.norm, ts1) → SR X P A W fl m2 s' (atHead (T.headAt f (headId b)) ts1) → Fr m ts.heap m2 ts1.heap → UpB B m m2 → RoundsH X P T call L f rnd nt B b n s' e s → ∃ ts1 m1, iter (fun s => exec P T call L f rnd fl nt b (atHead (T.headAt f (headId b)) s)) (n + 1) ts = some (e, ts1) ∧ SR X P A W fl m1 s ts1 ∧ Fr m ts.heap m1 ts1.heap ∧ UpB B m m1 := by
  intro m2 ge q1 q2 q3 hr
  obtain ⟨ts2, m3, r1, r2, r3, r4⟩ := hr A W fl m2 ts1 q1
  exact ⟨ts2, m3, by simp only [iter, ge, r1], r2, q2.trans r3, q3.trans r4⟩
 unfold endH at g2
 split at g2
 ·split at g2
  ·cases g2; exact on g1 (g3.head _) g4 g5 h2
  ·rename_i e1 hne
   cases g2
   exact out g1 (fun h => hne h) (rnd_out (fun h => hne h) h2) g3 g4 g5
 ·split at g2
  ·split at g2
   ·rename_i hg
    cases g2
    obtain ⟨m2, q1, q2, q3⟩ := gsteps_ok hX hg _ _ _ _ _ (g3.head _)
    exact on g1 q1 (g4.trans q2) (g5.trans q3) h2
   ·exact g2.elim
  ·rename_i e1 hne
   split at g2
   ·rename_i hg
    cases g2
    obtain ⟨m2, q1, q2, q3⟩ := gsteps_ok hX hg _ _ _ _ _ g3
    exact out g1 (fun h => hne h) (rnd_out (fun h => hne h) h2) q1 (g4.trans q2) (g5.trans q3)
   ·exact g2.elim
 ·exact g2.elim
end
structure Ar (X : Cod) (P : Program) (α : Type) where
 put : α → PV X.Γ
 get : PV X.Γ → Option α
 ok : ∀ {v : PV X.Γ} {a : α}, get v = some a → ∀ {A : Nat → Prop} {m : List MB} {h : List HB} {x : TV}, VR X P A m h v x → VR X P A m h (put a) x
structure ArL (X : Cod) (P : Program) (α : Type) where
 put : α → List (PV X.Γ)
 get : List (PV X.Γ) → Option α
 ok : ∀ {v : List (PV X.Γ)} {a : α}, get v = some a → ∀ {A : Nat → Prop} {m : List MB} {h : List HB} {x : List TV}, VRs X P A m h v x → VRs X P A m h (put a) x
def intA (k : IntKind) : Ar X P Int where
 put n := .int k n
 get v := match v with
  | .int k' n => if k' = k then some n else none
  | _ => none
 ok := by
  intro v a hg A m h x hv
  split at hg
  ·split at hg
   ·rename_i e; subst e; cases hg; exact hv
   ·cases hg
  ·cases hg
def boolA : Ar X P Bool where
 put n := .bool n
 get v := match v with
  | .bool n => some n
  | .lit n => some n
  | _ => none
 ok := by
  intro v a hg A m h x hv
  split at hg
  ·cases hg; exact hv
  ·cases hg; exact unlit_VR hv
  ·cases hg
theorem VR.less {A : Nat → Prop} {m : List MB} {h : List HB} {t : Nat} {l : List (X.Γ t)} {fu : Bool} {x : TV} (hv : VR X P A m h (.lst t l fu) x) : VR X P A m h (.lst t l false) x := by
 cases hv with
 | gone hi _ _ => simp [idOf] at hi
 | lstN => exact .lstN
 | lst a c c2 s z o k f e r => exact .lst a c c2 s z o k (fun h => by cases h) e r
def lstA (t : Nat) : Ar X P (List (X.Γ t)) where
 put l := .lst t l false
 get v := match v with
  | .lst t' l _ => castL t t' l
  | .nil .slc => some []
  | _ => none
 ok := by
  intro v a hg A m h x hv
  split at hg
  ·obtain ⟨rfl, rfl⟩ := castL_eq hg; exact hv.less
  ·cases hg
   cases hv with
   | nil => exact .lstN
   | gone hi _ _ => simp [idOf] at hi
  ·cases hg
def aggA (hX : CodOk X P) (t : Nat) : Ar X P (X.Γ t) where
 put a := .agg (X.enc t a)
 get v := match v with
  | .agg cs => X.dec t cs
  | _ => none
 ok := by
  intro v a hg A m h x hv
  split at hg
  ·cases hv with
   | gone hi _ _ => simp [idOf] at hi
   | agg h1 h2 => obtain ⟨h3, h4⟩ := hX.dec hg ⟨h1, h2⟩; exact .agg h3 h4
  ·cases hg
def nilA : ArL X P Unit where
 put _ := []
 get v := match v with
  | [] => some ()
  | _ => none
 ok := by
  intro v a hg A m h x hv
  split at hg
  ·exact hv
  ·cases hg
def conA {α β : Type} (a : Ar X P α) (l : ArL X P β) : ArL X P (α × β) where
 put x := a.put x.1 :: l.put x.2
 get v := match v with
  | v :: vs => match a.get v, l.get vs with
   | some x, some y => some (x, y)
   | _, _ => none
  | _ => none
 ok := by
  intro v x hg A m h xs hv
  split at hg
  ·split at hg
   ·rename_i e1 e2
    cases hg
    obtain ⟨y, r, rfl, h1, h2⟩ := hv.inv
    exact .cons (a.ok e1 h1) (l.ok e2 h2)
   ·cases hg
  ·cases hg
def oneA {α : Type} (a : Ar X P α) : ArL X P α where
 put x := [a.put x]
 get v := match v with
  | [v] => a.get v
  | _ => none
 ok := by
  intro v x hg A m h xs hv
  split at hg
  ·obtain ⟨y, r, rfl, h1, h2⟩ := hv.inv
   have := h2.inv0; subst this
   exact .cons (a.ok hg h1) .nil
  ·cases hg
def tupA {α : Type} (l : ArL X P α) : Ar X P α where
 put x := .tup (l.put x)
 get v := match v with
  | .tup cs => l.get cs
  | _ => none
 ok := by
  intro v x hg A m h xs hv
  split at hg
  ·cases hv with
   | gone hi _ _ => simp [idOf] at hi
   | tup h1 h2 => obtain ⟨h3, h4⟩ := l.ok hg ⟨h1, h2⟩; exact .tup h3 h4
  ·cases hg
def aggL {α : Type} (l : ArL X P α) : Ar X P α where
 put x := .agg (l.put x)
 get v := match v with
  | .agg cs => l.get cs
  | _ => none
 ok := by
  intro v x hg A m h xs hv
  split at hg
  ·cases hv with
   | gone hi _ _ => simp [idOf] at hi
   | agg h1 h2 => obtain ⟨h3, h4⟩ := l.ok hg ⟨h1, h2⟩; exact .agg h3 h4
  ·cases hg
def isoA {α β : Type} (a : Ar X P α) (f : α → β) (g : β → α) (hgf : ∀ x, g (f x) = x) : Ar X P β where
 put x := a.put (g x)
 get v := match a.get v with
  | some x => some (f x)
  | none => none
 ok := by
  intro v x hg A m h xs hv
  split at hg
  ·rename_i y hy
   cases hg
   rw [hgf]
   exact a.ok hy hv
  ·cases hg
def Good (X : Cod) (P : Program) (T : Tab) (L : Nat) (orc : Orc X.Γ) : Prop := ∃ N, ∀ n, N ≤ n → OrcOk X P (apN P T L n) orc
def orc0 : Orc X.Γ := fun _ _ => none
def orcF {α β : Type} (f : FuncId) (a : ArL X P α) (r : Ar X P β) (S : α → β) (pre : α → List Prop) (orc : Orc X.Γ) : Orc X.Γ := fun g vs =>
 match Nat.beq g f with
 | true => match a.get vs with
  | some x => some (r.put (S x), [], pre x)
  | none => orc g vs
 | false => orc g vs
theorem Good.nil : Good X P T L (orc0 (X := X)) := ⟨0, fun n _ f vs v ext ps h => by cases h⟩
theorem Good.add {α β : Type} {f : FuncId} {a : ArL X P α} {r : Ar X P β} {S : α → β} {pre : α → List Prop} {orc : Orc X.Γ} (hg : Good X P T L orc)
  (hf : ∀ n, OrcOk X P (apN P T L n) orc → ∀ x, (∀ p ∈ pre x, p) → Con X P (apN P T L (n + 1)) f (a.put x) (r.put (S x)) []) : Good X P T L (orcF f a r S pre orc) := by
 obtain ⟨N, hN⟩ := hg
 refine ⟨N + 1, fun n hn => ?_⟩
 obtain ⟨k, rfl⟩ : ∃ k, n = k + 1 := ⟨n - 1, by omega⟩
 intro g vs v ext ps ho hp
 unfold orcF at ho
 split at ho
 ·rename_i e
  have e := Nat.eq_of_beq_eq_true e
  subst e
  split at ho
  ·rename_i x hx
   cases ho
   intro A h first args cap hup hv
   exact hf k (hN k (by omega)) x hp A h first args cap hup (a.ok hx hv)
  ·exact hN (k + 1) (by omega) g vs v ext ps ho hp
 ·exact hN (k + 1) (by omega) g vs v ext ps ho hp
theorem Good.deep {α β : Type} {f : FuncId} {a : ArL X P α} {r : Ar X P β} {S : α → β} {pre : α → List Prop} {orc : Orc X.Γ} (d : Nat) (hg : Good X P T L orc)
  (hf : ∀ n, d ≤ n → (∀ m, n - d ≤ m → OrcOk X P (apN P T L m) orc) → ∀ x, (∀ p ∈ pre x, p) → Con X P (apN P T L (n + 1)) f (a.put x) (r.put (S x)) []) : Good X P T L (orcF f a r S pre orc) := by
 obtain ⟨N, hN⟩ := hg
 refine ⟨N + d + 1, fun n hn => ?_⟩
 obtain ⟨k, rfl⟩ : ∃ k, n = k + 1 := ⟨n - 1, by omega⟩
 intro g vs v ext ps ho hp
 unfold orcF at ho
 split at ho
 ·rename_i e
  have e := Nat.eq_of_beq_eq_true e
  subst e
  split at ho
  ·rename_i x hx
   cases ho
   intro A h first args cap hup hv
   exact hf k (by omega) (fun m hm => hN m (by omega)) x hp A h first args cap hup (a.ok hx hv)
  ·exact hN (k + 1) (by omega) g vs v ext ps ho hp
 ·exact hN (k + 1) (by omega) g vs v ext ps ho hp
def Is {β : Type} (r : Ar X P β) (s : β) : Option (PV X.Γ) → Prop := fun v => v = some (r.put s) ∨ ∃ w, v = some w ∧ r.get w = some s
theorem fn_is {β : Type} (hX : CodOk X P) {n f : Nat} {orc : Orc X.Γ} (hO : OrcOk X P (apN P T L n) orc) {vs : List (PV X.Γ)} {an : PT X.Γ} {r : Ar X P β} {s : β} {o : OT (Option (PV X.Γ))}
  (hk : (pfunK X P T orc (Sim X P (apN P T L n)) (LoopS X P T (apN P T L n) L f 0) L f vs [] an).map frz = o) (ht : Fp (Is r s) an o) : Con X P (apN P T L (n + 1)) f vs (r.put s) [] :=
 by
 obtain ⟨v, h1, h2⟩ := ht.ends
 rw [← hk] at h1
 obtain ⟨⟨v, H⟩, h3, rfl⟩ := OT.map_ends h1
 rcases h2 with h2 | ⟨w, h2, h4⟩
 ·exact con_view hX (con_fn hX (n := n + 1) (by omega) hO h3) h2
 ·intro A h first args cap hup hv
  obtain ⟨x, h', m', c1, c2, c3, c4⟩ := con_view hX (con_fn hX (n := n + 1) (by omega) hO h3) h2 A h first args cap hup hv
  exact ⟨x, h', m', c1, c2, r.ok h4 c3, c4⟩
theorem Fp.rr {β : Type} {r : Ar X P β} {s : β} : Fp (Is r s) (.n : PT X.Γ) (.ret (some (r.put s))) := .r (.inl rfl)
theorem Fp.rn {β : Type} {r : Ar X P β} {s : β} (w : PV X.Γ) (h : r.get w = some s) : Fp (Is r s) (.n : PT X.Γ) (.ret (some w)) := .r (.inr ⟨w, rfl, h⟩)
theorem Fp.ss {β : Type} {r : Ar X P β} {c : Bool} {t e : β} {a b : PT X.Γ} {x y : OT (Option (PV X.Γ))} (h1 : Fp (Is r t) a x) (h2 : Fp (Is r e) b y) : Fp (Is r (if c = true then t else e)) (.s a b) (.br c x y) :=
 .s (fun h => by subst h; exact h1) (fun h => by subst h; exact h2)
theorem Fp.sh {β : Type} {r : Ar X P β} {c : Bool} {t e : β} {a b : PT X.Γ} {x y : OT (Option (PV X.Γ))} (h1 : c = true → Fp (Is r t) a x) (h2 : c = false → Fp (Is r e) b y) : Fp (Is r (if c = true then t else e)) (.s a b) (.br c x y) :=
 .s (fun h => by rw [if_pos h]; exact h1 h) (fun h => by rw [if_neg (by rw [h]; simp)]; exact h2 h)
theorem Fp.zh {β : Type} {r : Ar X P β} {c : Bool} {t e : β} {a b : PT X.Γ} {x y : OT (Option (PV X.Γ))} (h1 : c = true → Fp (Is r t) a x) (h2 : c = false → Fp (Is r e) b y) : Fp (Is r (if c = true then t else e)) (.z c a b) (.br c x y) :=
 .z (fun h => by rw [if_pos h]; exact h1 h) (fun h => by rw [if_neg (by rw [h]; simp)]; exact h2 h)
theorem Fp.v {β : Type} {r : Ar X P β} {s : β} (u : β) (h : u = s) : Fp (Is r s) (.n : PT X.Γ) (.ret (some (r.put u))) := .r (.inl (by rw [h]))
theorem Fp.k {τ : Type} {R : τ → Prop} {call : CallT} {fv v : PV X.Γ} {xs : List (PV X.Γ)} {H H1 : List (PB X.Γ)} {an : PT X.Γ} {o : OT τ} (h : Sim X P call fv xs H v H1) (t : Fp R an o) : Fp R (.a (.call v H1) an) (.o (Sim X P call fv xs H v H1) o) := .c v H1 h t
theorem Fp.fr {τ : Type} {R : τ → Prop} {call : CallT} {fv v : PV X.Γ} {xs : List (PV X.Γ)} {H H1 : List (PB X.Γ)} {an : PT X.Γ} {o : OT τ} (ks : List Nat) (h : Sim X P call fv xs H v H1) (t : Fp R an o) : Fp R (.a (.fr ks v H1) an) (.o (Sim X P call fv xs H v H1) o) := .kf ks v H1 h t
theorem Fp.frR {τ : Type} {R : τ → Prop} {call : CallT} {fv v : PV X.Γ} {xs : List (PV X.Γ)} {H H1 H2 : List (PB X.Γ)} {an : PT X.Γ} {o : OT τ} (ks rs : List Nat) (h : Sim X P call fv xs H v H1) (t : Fp R an o) : Fp R (.a (.frR ks rs v H2) an) (.o (Sim X P call fv xs H v H1) o) := .kg ks rs v H2 h t
def IsS {β : Type} (r : Ar X P β) (s : β) (H : List (PB X.Γ)) : PV X.Γ × List (PB X.Γ) → Prop := fun v => v = (r.put s, H)
theorem Fp.sr {β : Type} {r : Ar X P β} {s : β} {H : List (PB X.Γ)} : Fp (IsS r s H) (.n : PT X.Γ) (.ret (r.put s, H)) := .r rfl
theorem Fp.szh {β : Type} {r : Ar X P β} {H : List (PB X.Γ)} {c : Bool} {t e : β} {a b : PT X.Γ} {x y : OT (PV X.Γ × List (PB X.Γ))} (h1 : c = true → Fp (IsS r t H) a x) (h2 : c = false → Fp (IsS r e H) b y) : Fp (IsS r (if c = true then t else e) H) (.z c a b) (.br c x y) :=
 .z (fun h => by rw [if_pos h]; exact h1 h) (fun h => by rw [if_neg (by rw [h]; simp)]; exact h2 h)
theorem Fp.ssh {β : Type} {r : Ar X P β} {H : List (PB X.Γ)} {c : Bool} {t e : β} {a b : PT X.Γ} {x y : OT (PV X.Γ × List (PB X.Γ))} (h1 : c = true → Fp (IsS r t H) a x) (h2 : c = false → Fp (IsS r e H) b y) : Fp (IsS r (if c = true then t else e) H) (.s a b) (.br c x y) :=
 .s (fun h => by rw [if_pos h]; exact h1 h) (fun h => by rw [if_neg (by rw [h]; simp)]; exact h2 h)
theorem sim_is {β : Type} (hX : CodOk X P) {n f : Nat} {orc : Orc X.Γ} (hO : OrcOk X P (apN P T L n) orc) {first xs cap : List (PV X.Γ)} {H H1 : List (PB X.Γ)} {an : PT X.Γ} {r : Ar X P β} {s : β} {o : OT (PV X.Γ × List (PB X.Γ))}
  (hk : pfunK X P T orc (Sim X P (apN P T L n)) (LoopS X P T (apN P T L n) L f H.length) L f (first ++ xs ++ cap) H an = o) (ht : Fp (IsS r s H1) an o) : Sim X P (apN P T L (n + 1)) (.fn f first cap) xs H (r.put s) H1 := by
 obtain ⟨y, h1, h2⟩ := ht.ends
 cases h2
 rw [← hk] at h1
 exact sim_fn hX (n := n + 1) (by omega) hO h1
theorem sim_orc (hX : CodOk X P) {call : CallT} {orc : Orc X.Γ} (hO : OrcOk X P call orc) {f : FuncId} {first xs cap vs : List (PV X.Γ)} {v : PV X.Γ} {ps : List Prop} {H : List (PB X.Γ)} (hv : views H (first ++ xs ++ cap) = some vs) (ho : orc f vs = some (v, [], ps)) (hp : ∀ p ∈ ps, p) (hl : hasL v = false) :
  Sim X P call (.fn f first cap) xs H (shift H.length v) H := by
 intro A m h tf txs hr hf hx
 cases hf with
 | gone hi _ _ => simp [idOf] at hi
 | fn p1 p2 p3 p4 =>
  obtain ⟨w, h1, m1, e1, e2, e3, e4, e5⟩ := con_use hX (hO f vs v [] ps ho hp) hr hv (ext' := []) rfl ⟨p1, p2⟩ hx ⟨p3, p4⟩
  simp only [hl, List.any_nil, Bool.or_self, Bool.false_eq_true, if_false, List.append_nil] at e2
  exact ⟨w, h1, [], m1, e1, e2, e3, e4, e5, fun b hb => by cases hb⟩
def a1 {α : Type} (a : Ar X P α) : ArL X P α := oneA a
def a2 {α β : Type} (a : Ar X P α) (b : Ar X P β) : ArL X P (α × β) := conA a (oneA b)
def a3 {α β γ : Type} (a : Ar X P α) (b : Ar X P β) (c : Ar X P γ) : ArL X P (α × β × γ) := conA a (a2 b c)
def a4 {α β γ δ : Type} (a : Ar X P α) (b : Ar X P β) (c : Ar X P γ) (d : Ar X P δ) : ArL X P (α × β × γ × δ) := conA a (a3 b c d)
def np {α : Type} : α → List Prop := fun _ => []
end
end Pv
namespace Tw
def runL {α σ ρ : Type} (step : Nat → α → σ → σ ⊕ ρ) : List α → Nat → σ → σ ⊕ ρ
 | [], _, s => .inl s
 | a :: l, i, s => match step i a s with
  | .inl s' => runL step l (i + 1) s'
  | .inr r => .inr r
def isL {σ ρ : Type} : σ ⊕ ρ → Bool
 | .inl _ => true
 | .inr _ => false
def getL {σ ρ : Type} (d : σ) : σ ⊕ ρ → σ
 | .inl s => s
 | .inr _ => d
def getR {σ ρ : Type} (d : ρ) : σ ⊕ ρ → ρ
 | .inl _ => d
 | .inr r => r
def getE {σ : Type} : σ ⊕ Empty → σ
 | .inl s => s
end Tw
namespace Pv
open Go Tw
def loopsIn : Code → List Code
 | .seq a b => loopsIn a ++ loopsIn b
 | .cond _ a b => loopsIn a ++ loopsIn b
 | .block _ b => loopsIn b
 | .loop b => b :: loopsIn b
 | .scope b => loopsIn b
 | .rangeFunc _ _ a b => loopsIn a ++ loopsIn b
 | _ => []
def bodyP (P : Program) (f k : Nat) : Code :=
 match fnT P f with
 | some t => (loopsIn t.body).getD k .skip
 | none => .skip
theorem wrap_up {k : Nat} (h : k ≤ most) : IntKind.i64.wrap ((k : Int) + 1) = ((k + 1 : Nat) : Int) := by
 simp only [IntKind.wrap, IntKind.bits, IntKind.signed]
 unfold most at h
 have : ((k : Int) + 1) % (2 ^ 64 : Int) = (k : Int) + 1 := Int.emod_eq_of_lt (by omega) (by omega)
 simp only [this]
 rw [if_neg (by simp; omega)]
 omega
theorem inR_nat {k n : Nat} (h : k < n) : inR k n := ⟨by omega, by omega⟩
theorem lt_nat {k n : Nat} (h : k < n) : decide ((k : Int) < (n : Int)) = true := by simp [h]
theorem lt_no (n : Nat) : decide ((n : Int) < (n : Int)) = false := by simp
section
variable {X : Cod} {P : Program} {T : Tab} {L : Nat} {f nt B : Nat} {rnd : Bool} {call : CallT} {b : Code} {σ α ρ : Type}
theorem Fp.w {τ : Type} {R : τ → Prop} {c : Code} {e : Ex} {s s' : PSt X.Γ} {an : PT X.Γ} {o : OT τ} (h : ExecS X P T call L f rnd nt B c s e s') (t : Fp R an o) : Fp R (.a (.lg [] e s') an) (.o (ExecS X P T call L f rnd nt B c s e s') o) := .l [] e s' h t
theorem Fp.wG {τ : Type} {R : τ → Prop} (gs : List G) {c : Code} {e : Ex} {s s' : PSt X.Γ} {an : PT X.Γ} {o : OT τ} (h : ExecS X P T call L f rnd nt B c s e s') (t : Fp R an o) : Fp R (.a (.lg gs e s') an) (.o (ExecS X P T call L f rnd nt B c s e s') o) := .l gs e s' h t
theorem Fp.go {n : Nat} {e : Ex} {s s' : PSt X.Γ} (h : RoundsH X P T call L f rnd nt B b n s' e s) : Fp (Rnd X P T call L f rnd nt B b n e s) (.n : PT X.Γ) (.ret (.norm, s')) := Fp.r (v := (Ex.norm, s')) h
theorem Fp.goG {n : Nat} {e : Ex} {s s' : PSt X.Γ} (gs : List G) (h : RoundsH X P T call L f rnd nt B b n s' e s) : Fp (Rnd X P T call L f rnd nt B b n e s) (.a (.lg gs .norm ⟨[], [], []⟩) .n : PT X.Γ) (.ret (.norm, s')) := Fp.g (v := (Ex.norm, s')) gs h
theorem Fp.ex {n i : Nat} {s : PSt X.Γ} : Fp (Rnd X P T call L f rnd nt B b n (.exit i) s) (.n : PT X.Γ) (.ret (.exit i, s)) := Fp.r (v := (Ex.exit i, s)) ⟨rfl, rfl⟩
theorem Fp.re {n : Nat} {s : PSt X.Γ} : Fp (Rnd X P T call L f rnd nt B b n .ret s) (.n : PT X.Γ) (.ret (.ret, s)) := Fp.r (v := (Ex.ret, s)) ⟨rfl, rfl⟩
def cont (out : σ ⊕ ρ → Ex × PSt X.Γ) (g : Nat → α → σ → σ ⊕ ρ) (l : List α) (i : Nat) : σ ⊕ ρ → Ex × PSt X.Γ
 | .inl s => out (runL g l i s)
 | .inr r => out (.inr r)
def Rn (X : Cod) (P : Program) (T : Tab) (call : CallT) (L f : Nat) (rnd : Bool) (nt B : Nat) (b : Code) (n : Nat) {τ : Type} (K : τ → Ex × PSt X.Γ) (x : τ) : Ex × PSt X.Γ → Prop := Rnd X P T call L f rnd nt B b n (K x).1 (K x).2
section
variable {τ : Type} {K : τ → Ex × PSt X.Γ} {n : Nat}
theorem Fp.ls {c : Bool} {t e : τ} {a d : PT X.Γ} {x y : OT (Ex × PSt X.Γ)} (h1 : Fp (Rn X P T call L f rnd nt B b n K t) a x) (h2 : Fp (Rn X P T call L f rnd nt B b n K e) d y) : Fp (Rn X P T call L f rnd nt B b n K (if c = true then t else e)) (.s a d) (.br c x y) :=
 .s (fun h => by subst h; exact h1) (fun h => by subst h; exact h2)
theorem Fp.nx {x : τ} {s' : PSt X.Γ} (h : RoundsH X P T call L f rnd nt B b n s' (K x).1 (K x).2) : Fp (Rn X P T call L f rnd nt B b n K x) (.n : PT X.Γ) (.ret (.norm, s')) := Fp.r (v := (Ex.norm, s')) h
theorem Fp.nxG {x : τ} {s' : PSt X.Γ} (gs : List G) (h : RoundsH X P T call L f rnd nt B b n s' (K x).1 (K x).2) : Fp (Rn X P T call L f rnd nt B b n K x) (.a (.lg gs .norm ⟨[], [], []⟩) .n : PT X.Γ) (.ret (.norm, s')) := Fp.g (v := (Ex.norm, s')) gs h
theorem Fp.ou {x : τ} (h : (K x).1 ≠ .norm) : Fp (Rn X P T call L f rnd nt B b n K x) (.n : PT X.Γ) (.ret (K x)) := by
 refine Fp.r ?_
 unfold Rn Rnd
 split
 ·rename_i e; rw [e] at h; exact absurd rfl h
 ·rename_i e; rw [e]; exact ⟨rfl, rfl⟩
theorem Fp.ouG {x : τ} (gs : List G) (h : (K x).1 ≠ .norm) : Fp (Rn X P T call L f rnd nt B b n K x) (.a (.lg gs .norm ⟨[], [], []⟩) .n : PT X.Γ) (.ret (K x)) := by
 refine Fp.g gs ?_
 unfold Rn Rnd
 split
 ·rename_i e; rw [e] at h; exact absurd rfl h
 ·rename_i e; rw [e]; exact ⟨rfl, rfl⟩
end
theorem eachE {l : List α} (d : α) {st : Int → σ → PSt X.Γ} {g : Nat → α → σ → σ ⊕ ρ} {out : σ ⊕ ρ → Ex × PSt X.Γ} {s0 : σ} {w : PSt X.Γ} (Inv : Nat → σ → Prop) (h0 : patHead X (T.headAt f (headId b)) w = st 0 s0) (hl : l.length ≤ most) (hL : most < L) (hi : Inv 0 s0)
  (hs : ∀ (k : Nat) (s : σ) (n : Nat), k < l.length → Inv k s → (∀ s1, Inv (k + 1) s1 → RoundsH X P T call L f rnd nt B b n (st (IntKind.i64.wrap (k + 1)) s1) (cont out g (l.drop (k + 1)) (k + 1) (.inl s1)).1 (cont out g (l.drop (k + 1)) (k + 1) (.inl s1)).2) →
   RoundsH X P T call L f rnd nt B b (n + 1) (st k s) (cont out g (l.drop (k + 1)) (k + 1) (g k (l.getD k d) s)).1 (cont out g (l.drop (k + 1)) (k + 1) (g k (l.getD k d) s)).2)
  (ho : ∀ s, Inv l.length s → RoundsH X P T call L f rnd nt B b 1 (st l.length s) (out (.inl s)).1 (out (.inl s)).2) :
  ExecS X P T call L f rnd nt B (.loop b) w (out (runL g l 0 s0)).1 (out (runL g l 0 s0)).2 := by
 have key : ∀ (m k : Nat) (s : σ), k + m = l.length → Inv k s → RoundsH X P T call L f rnd nt B b (m + 1) (st k s) (out (runL g (l.drop k) k s)).1 (out (runL g (l.drop k) k s)).2 := by
  intro m
  induction m with
  | zero =>
   intro k s hk hr
   have : k = l.length := by omega
   subst this
   rw [List.drop_length]
   exact ho s hr
  | succ m ih =>
   intro k s hk hr
   have hlt : k < l.length := by omega
   have h1 := hs k s (m + 1) hlt hr fun s1 h => by
    have := ih (k + 1) s1 (by omega) h
    rw [wrap_up (by omega)]
    exact this
   have hd : l.getD k d = l[k] := by simp [List.getD, List.getElem?_eq_getElem hlt]
   rw [List.drop_eq_getElem_cons hlt]
   simp only [runL]
   rw [hd] at h1
   cases hg : g k l[k] s with
   | inl s1 => rw [hg] at h1; exact h1
   | inr r => rw [hg] at h1; exact h1
 exact loopH_of (key l.length 0 s0 (by omega) hi) h0 (by omega)
theorem exInl {c : Code} {w : PSt X.Γ} {R : σ ⊕ ρ} {out : σ ⊕ ρ → Ex × PSt X.Γ} (h : ExecS X P T call L f rnd nt B c w (out R).1 (out R).2) (d : σ) (hR : isL R = true) : ExecS X P T call L f rnd nt B c w (out (.inl (getL d R))).1 (out (.inl (getL d R))).2 := by
 cases R with
 | inl s => exact h
 | inr r => cases hR
theorem exInr {c : Code} {w : PSt X.Γ} {R : σ ⊕ ρ} {out : σ ⊕ ρ → Ex × PSt X.Γ} (h : ExecS X P T call L f rnd nt B c w (out R).1 (out R).2) (d : ρ) (hR : isL R = false) : ExecS X P T call L f rnd nt B c w (out (.inr (getR d R))).1 (out (.inr (getR d R))).2 := by
 cases R with
 | inl s => cases hR
 | inr r => exact h
end
end Pv
