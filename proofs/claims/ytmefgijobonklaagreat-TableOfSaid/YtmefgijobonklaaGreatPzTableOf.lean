/- TableOf: for every list of sizes and every list of cells the law mistlaw21.TableOf returns true, and changes nothing old. No conditions. -/
import Derived.Test.YtmefgijobonklaaGreatRows
import Derived.ProofKit
import Derived.Test.YtmefgijobonklaaGreatPd
set_option linter.constructorNameAsVariable false
set_option linter.unusedVariables false
set_option linter.unusedSimpArgs false
set_option linter.unusedSectionVars false
namespace Go.Proofs.YtmefgijobonklaaGreat
open Go Tw Pv Mist
theorem VRV.rdV {A : Nat → Prop} {h : List HB} {l : List V} {b off n cap : Nat} {ex : Bool} (hv : VRV A h (lstV l) (.slc b off n cap 2 ex)) {j : Nat} (hj : j < l.length) : rdAt true 2 h b (off + j * 2) (off + cap * 2) = some (V.tv (l.getD j V0)) := by
 rcases lst_SlR hv szV with ⟨e, _⟩ | ⟨b', off', cap', ex', cs, e, h1, h2, h3, h4⟩
 ·cases e
 ·cases e
  have hne : l ≠ [] := fun e => by rw [e] at hj; simp at hj
  have h3 := h3 hne
  unfold rdAt
  rw [h3]
  simp only []
  have h9 : l.length ≤ cap := h1
  have hlen := h4.2.1
  have hlen : off + l.length * 2 ≤ cs.length := hlen
  rw [if_pos (by omega)]
  have hg : l[j]? = some (l.getD j V0) := by rw [List.getD_eq_getElem?_getD, List.getElem?_eq_getElem hj]; rfl
  have h5 := h4.2.2 j (l.getD j V0) 0 (.int .u8 (l.getD j V0).f) cs[off + j * 2] hg rfl (by rw [Nat.add_zero]; exact List.getElem?_eq_getElem (by omega))
  have h6 := h4.2.2 j (l.getD j V0) 1 (.int .i64 (l.getD j V0).n) cs[off + j * 2 + 1] hg rfl (List.getElem?_eq_getElem (by omega))
  have hs : sub cs (off + j * 2) 2 = some [cs[off + j * 2], cs[off + j * 2 + 1]] := by
   unfold sub
   rw [if_pos (by omega)]
   congr 1
   apply List.ext_getElem?
   intro i
   rcases i with _ | _ | i
   ·simp
   ·simp [List.getElem?_take, List.getElem?_drop]
   ·simp [List.getElem?_take]; omega
  simp only [if_true, hs, Option.map_some, h5.int_inv, h6.int_inv]
theorem rows_nil {N : Nat} : RowsC (N + 1) [] := fun l hOf h x0 x1 h0 h1 => by
 have hl : l.length = 1 := by have := hOf.len; simp [prodI] at this; omega
 obtain ⟨b, off, cap, ex, rfl⟩ := h1.slc szV (fun e => by rw [e] at hl; cases hl)
 have e0 : lenT Tryz.prog #[119] (h ++ [.cells .own [.slc b off l.length cap 2 ex]]) x0 = some (.int .i64 (0 : Nat), noInf) := by
  rcases lst_SlR h0 szInt with ⟨rfl, _⟩ | ⟨b', off', cap', ex', cs, rfl, _⟩
  ·kernel_rfl
  ·kernel_rfl
 have r1 : rdAt false 1 (h ++ [.cells .own [.slc b off l.length cap 2 ex]]) h.length 0 1 = some (.slc b off l.length cap 2 ex) := by
  unfold rdAt blkLim; simp
 have s1 : Stay h (h ++ [.cells .own [.slc b off l.length cap 2 ex]]) [] := .push
 have r2 := (h1.stay s1).rdV (j := 0) (by omega)
 have hix : idx l.length (.int .i64 0) = some 0 := by
  show (if 0 ≤ (0 : Int) ∧ (0 : Int) < (l.length : Nat) then some (0 : Int).toNat else none) = _
  rw [if_pos ⟨by omega, by omega⟩]; rfl
 have hv : dOf [] l = [⟨[], [], l.getD 0 V0⟩] := rfl
 generalize l.getD 0 V0 = v at r2 hv
 refine ⟨.slc (h ++ [HB.cells .own [.slc b off l.length cap 2 ex]]).length 0 1 1 4 true, h ++ [.cells .own [.slc b off l.length cap 2 ex]] ++ [.cells .own [.nil .slc, .nil .slc, .int .u8 v.f, .int .i64 v.n]], [⟨⟨[], [], v⟩, .nil .slc, .nil .slc⟩], ?_, ⟨⟨fun x hx => ?_, by simp [bsO, bsX, lbT], fun b hb => by simp [bsO, bsX, lbT] at hb⟩, ⟨_, true, .own, rfl, ?_, by simp, by simp, by simp [bsO, bsX, lbT]⟩, s1.trans (Stay.push (bs := [])) (by simp)⟩, by rw [hv]; rfl⟩
 ·rw [show ApN (N + 1) = apN Tryz.prog T LL (N + 1) from rfl, apN_fn (by kernel_rfl)]
  exact funN_path (P := Tryz.prog) (T := T) (call := ApN N) (L := LL) (f := 115) (args := [x0, .slc b off l.length cap 2 ex]) (h := h) (vs := [.slc (h ++ [HB.cells .own [.slc b off l.length cap 2 ex]]).length 0 1 1 4 true]) (e := .ret) (s := ⟨[(4, .val (.slc (h ++ [HB.cells .own [.slc b off l.length cap 2 ex]]).length 0 1 1 4 true))], [], h ++ [.cells .own [.slc b off l.length cap 2 ex]] ++ [.cells .own [.nil .slc, .nil .slc, .int .u8 v.f, .int .i64 v.n]], []⟩) (by kernel_rfl) (.k e0 (.b (rfl : ((0 : Int) == 0) = true) (.l r1 (.i hix (.l r2 .n))))) (.inr rfl) (by kernel_rfl) (by kernel_rfl)
 ·rw [List.mem_singleton.1 hx]; exact ⟨.nil, .nil⟩
 ·simp [flT, rowT]
theorem dOf_ne : ∀ {s : List Int} {l : List V}, OfOk s l → dOf s l ≠ []
 | [], l, _ => by simp [dOf]
 | a :: s, l, h => by
  obtain ⟨h1, h2, h3⟩ := h.w
  rw [dOf_cons]
  have := foldN_inv (g := gOf s l (l.length / a.toNat) a.toNat) (m := a.toNat) (k := 0) (s := []) (fun k acc => 0 < k → acc ≠ []) (by simp) (fun j acc _ hj hq _ => by
   unfold gOf
   split
   ·rename_i hc; exact hq hc.1
   ·have := dOf_ne (h.blk (j := j) (by omega))
    simp [this])
  exact this (by omega)
theorem rows_cons {N : Nat} (hO : ∀ m, N ≤ m → Ok m oc160) {a : Int} {s : List Int} (hR : RowsC (N + 1) s) : RowsC (N + 2) (a :: s) := fun l hOf h x0 x1 h0 h1 => by
 obtain ⟨w1, w2, w3, w4⟩ := hOf.w
 obtain ⟨n, rfl⟩ : ∃ n : Nat, a = n := ⟨a.toNat, by omega⟩
 have hpp := prodI_pos hOf.fine.sz.tail
 obtain ⟨w, hw⟩ : ∃ w, l.length / n = w := ⟨_, rfl⟩
 rw [Int.toNat_natCast, hw] at w1 w2
 have hm2 := hOf.fine.many
 have hlen := hOf.len
 have hln : l ≠ [] := fun e => by
  rw [e] at w1
  have h9 : 1 * 1 ≤ n * w := Nat.mul_le_mul (by omega) (by omega)
  simp at w1; omega
 obtain ⟨bc, oc, cc, exc, rfl⟩ := h1.slc szV hln
 obtain ⟨bs, os, cs, exs, rfl⟩ := h0.slc szInt (fun e => by cases e)
 obtain ⟨x1, hx1⟩ : ∃ x1, x1 = TV.slc bc oc l.length cc 2 exc := ⟨_, rfl⟩
 have h1 : VRV Tr h (lstV l) x1 := by rw [hx1]; exact h1
 let hA : List HB := h ++ [.cells .own [x1]]
 let hB : List HB := hA ++ [.cells .own [.int .i64 0]]
 let hm : List HB := hB.set hA.length (.cells .own [.int .i64 (w : Nat)])
 have sA : Stay h hA [] := .push
 have lA : hA.length = h.length + 1 := by simp [hA]
 have sm : Stay hA hm [] := ⟨by simp [hm, hB], fun b hb _ => by
  show (hB.set hA.length _)[b]? = _
  rw [List.getElem?_set_ne (by omega)]
  show (hA ++ _)[b]? = _
  rw [List.getElem?_append_left hb]⟩
 have shm : Stay h hm [] := sA.trans sm (by simp)
 have q3 : hm[h.length]? = some (.cells .own [x1]) := by rw [sm.2 _ (by omega) (by simp)]; simp [hA]
 have q6 : hm[hA.length]? = some (.cells .own [.int .i64 (w : Nat)]) := by
  show (hB.set hA.length _)[hA.length]? = _
  rw [List.getElem?_set_self (by simp [hB])]
 have r1 : rdAt false 1 hA h.length 0 1 = some x1 := by
  have : blkLim hA h.length 1 = some [x1] := by unfold blkLim; simp [hA]
  unfold rdAt; rw [this]; rfl
 have r0 := ((h0.stay sA).rd (j := 0) (by simp)).1
 have r0 : rdAt false 1 hA bs (os + 0 * 1) (os + cs * 1) = some (.int .i64 (n : Int)) := r0
 have hix : idx ((n : Int) :: s).length (.int .i64 0) = some 0 := by
  show (if 0 ≤ (0 : Int) ∧ (0 : Int) < (((n : Int) :: s).length : Nat) then some (0 : Int).toNat else none) = _
  rw [if_pos ⟨by omega, by simp only [List.length_cons]; omega⟩]; rfl
 have hq : binT Tryz.prog .quo 3 (.tmp 21) (.tmp 24) (.int .i64 (l.length : Nat)) (.int .i64 (n : Int)) = some (.int .i64 (w : Nat)) := by
  rw [binT_quo (by omega), quo_nn (by omega) (by omega) (by omega), ← hw]
  congr 2
 have hst : setH hB hA.length 0 1 [.int .i64 (w : Nat)] = some hm := by
  rw [setH_own (cs := [.int .i64 0]) (by simp [hB])]
  rfl
 have hadd : addW h.length hA.length [] = [] := by unfold addW; rw [if_neg (by omega)]
 have hne : (((n : Int) :: s).length == 0) = false := rfl
 have ht1 : (((((n : Int) :: s).length : Nat) : Int) == 0) = false := by
  rw [beq_eq_false_iff_ne]; simp only [List.length_cons]; omega
 have hL0 := VRV.lowI h0
 have hL1 := VRV.lowV h1
 have hI : RunI h.length hm s l n w (.slc bs os ((n : Int) :: s).length cs 1 exs) x1 (.nil .slc) h.length hA.length [] :=
  ⟨shm.1, hL0.stay rfl shm (by simp), hL1.stay rfl shm (by simp), q3, q6, ⟨by simp, by simp [bsO], by simp [bsO]⟩, .nil, by simp [lbT], by simp [bsO, lbT], by simp [bsO, lbT]⟩
 obtain ⟨h', vo', O', k1, k2, k3, k4, k5⟩ := lRows (N := N) (fl := h.length) hO hOf hw hR n 0 hm (.nil .slc) [] ⟨(WO hm (.slc bs os ((n : Int) :: s).length cs 1 exs) (.nil .slc) h.length hA.length (0 : Nat)).env, [], hm, []⟩ (by kernel_rfl) hI (by simp) (by omega) (by omega)
 have k1 := rounds_le k1 (b := LL) (by have := LLm; unfold most at this; omega)
 have hd : O'.map (·.r) = dOf ((n : Int) :: s) l := by
  rw [k3, List.map_nil, runs_eq n 0 [] (by omega) (by omega) (.inl rfl), dOf_cons, Int.toNat_natCast, hw, Nat.sub_zero]
 have hO' : O' ≠ [] := fun e => by rw [e] at hd; exact dOf_ne hOf hd.symm
 have ho := k2.out
 generalize hvo : vo' = vx at ho
 cases ho with
 | nil => exact absurd rfl hO'
 | @some _ b k g1 g2 g3 =>
  subst hvo
  refine ⟨_, h', O', ?_, ⟨k2.ro, ⟨b, false, k, rfl, g2, g3, (k2.lo b (by simp [lbT])).1, (k2.lo b (by simp [lbT])).2⟩, ?_⟩, hd⟩
  ·rw [show ApN (N + 2) = apN Tryz.prog T LL (N + 1 + 1) from rfl, apN_fn (by kernel_rfl)]
   subst hx1
   exact funN_path (P := Tryz.prog) (T := T) (call := ApN (N + 1)) (L := LL) (f := 115) (args := [.slc bs os ((n : Int) :: s).length cs 1 exs, .slc bc oc l.length cc 2 exc]) (h := h) (vs := [.slc b 0 O'.length O'.length 4 false]) (e := .ret) (s := ⟨[(4, .val (.slc b 0 O'.length O'.length 4 false))], [], h', []⟩) (by kernel_rfl) (.k (show lenT Tryz.prog #[119] hA (.slc bs os ((n : Int) :: s).length cs 1 exs) = some (.int .i64 (((n : Int) :: s).length : Nat), noInf) by kernel_rfl) (.b ht1 (.l r1 (.k (show lenT Tryz.prog #[23] hA (.slc bc oc l.length cc 2 exc) = some (.int .i64 (l.length : Nat), noInf) by kernel_rfl) (.i hix (.l r0 (.r hq (.a (.st hm []) (.o hst (.o (show 0 + 1 ≤ 1 by omega) (.o hadd (.w k1 .n)))))))))))) (.inr rfl) (by kernel_rfl) (by kernel_rfl)
  ·exact ⟨by have := shm.1; omega, fun b hb _ => by rw [k5 b hb, shm.2 b hb (by simp)]⟩
end Go.Proofs.YtmefgijobonklaaGreat
namespace Go.Proofs.YtmefgijobonklaaGreat
open Go Tw Pv Mist
theorem flT_get : ∀ {L : List RT} {j i : Nat} {x : RT}, L[j]? = some x → i < 4 → (flT L)[j * 4 + i]? = (rowT x)[i]?
 | [], j, i, x, h, _ => by simp at h
 | y :: L, 0, i, x, h, hi => by
  simp only [List.getElem?_cons_zero, Option.some.injEq] at h; subst h
  show (rowT y ++ flT L)[0 * 4 + i]? = _
  rw [Nat.zero_mul, Nat.zero_add, List.getElem?_append_left (by simp only [List.length_cons, List.length_nil]; omega)]
 | y :: L, j + 1, i, x, h, hi => by
  have ih := flT_get (L := L) (j := j) (i := i) (x := x) (by simpa using h) hi
  show (rowT y ++ flT L)[(j + 1) * 4 + i]? = _
  rw [List.getElem?_append_right (by simp only [List.length_cons, List.length_nil]; omega), ← ih]
  congr 1
  simp only [List.length_cons, List.length_nil]; omega
theorem szRw : sizeT Tryz.prog 95 = some 4 := by kernel_rfl
theorem OwnL.vr {A : Nat → Prop} {h : List HB} {l : List Int} {v : TV} (hv : OwnL h l v) (hA : ∀ b ∈ lbT v, A b) : Pv.VR X0 Tryz.prog A [] h (lstI l) v := by
 cases hv with
 | nil => exact .lstN
 | @some _ b k h0 h1 h2 =>
  have hc : blkCells h b = Option.some (intsV l) := by unfold blkCells; rw [h1]
  have hl : (intsV l).length = l.length := List.length_map ..
  refine Pv.VR.lst (X := X0) (P := Tryz.prog) (A := A) (m := []) (h := h) (t := 3) (l := l) (fu := false) (b := b) (off := 0) (cap := l.length) (sz := 1) (ex := false) (cs := intsV l) (hA b (by simp [lbT])) hc (fun _ => blkLim_end h1 (by rw [hl]; omega)) szInt (by omega) (by show 0 + l.length * 1 ≤ (intsV l).length; omega) (Nat.le_refl _) (fun h => by cases h) (fun j a _ => rfl) fun j a i c w h3 h4 h5 => ?_
  cases i with
  | zero =>
   have h4 : Option.some (PV.int .i64 a) = Option.some c := h4
   cases h4
   have h3 : l[j]? = Option.some a := h3
   rw [Nat.zero_add, Nat.mul_one, Nat.add_zero, List.getElem?_map, h3] at h5
   have h5 : Option.some (TV.int .i64 a) = Option.some w := h5
   cases h5
   exact .int _ _
  | succ i => have h4 : ([] : List (PV gam))[i]? = Option.some c := h4; simp at h4
theorem rowsP_vr {A : Nat → Prop} {h h' : List HB} {L : List RT} {v : TV} (hp : RowsP h h' L v) (hA : ∀ b, h.length ≤ b → A b) {rs : List Rw} (hrs : L.map (·.r) = rs) : Pv.VR X0 Tryz.prog A [] h' (.lst 95 rs false) v := by
 obtain ⟨b, e, k, rfl, h1, h2, h3, h4⟩ := hp.sl
 have hc : blkCells h' b = some (flT L) := by unfold blkCells; rw [h1]
 have hl := flT_len L
 have hm : rs.length = L.length := by rw [← hrs]; exact List.length_map ..
 rw [← hm]
 refine Pv.VR.lst (X := X0) (P := Tryz.prog) (A := A) (m := []) (h := h') (t := 95) (l := rs) (fu := false) (b := b) (off := 0) (cap := rs.length) (sz := 4) (ex := e) (cs := flT L) (hA b h3) hc (fun _ => blkLim_end h1 (by rw [hl]; omega)) szRw (by omega) (by show 0 + rs.length * 4 ≤ (flT L).length; omega) (Nat.le_refl _) (fun h => by cases h) (fun j a _ => rfl) (fun j a i c w h5 h6 h7 => by
  have h5 : rs[j]? = some a := h5
  rw [← hrs, List.getElem?_map] at h5
  cases hx : L[j]? with
  | none => rw [hx] at h5; cases h5
  | some x =>
   rw [hx] at h5
   have h5 : some x.r = some a := h5
   cases h5
   have hxm := hp.ro.own x (List.mem_of_getElem? hx)
   have hi : i < 4 := by
    have := (List.getElem?_eq_some_iff.1 h6).1
    exact this
   rw [Nat.zero_add, flT_get hx hi] at h7
   have hb : ∀ b ∈ bsX x, A b := fun b hb => hA b (hp.ro.lo b (List.mem_flatMap.2 ⟨x, List.mem_of_getElem? hx, hb⟩))
   rcases i with _ | _ | _ | _ | i
   ·have h6 : some (lstI x.r.fr) = some c := h6
    have h7 : some x.f = some w := h7
    cases h6; cases h7
    exact hxm.1.vr fun b hb2 => hb b (List.mem_append_left _ hb2)
   ·have h6 : some (lstI x.r.to) = some c := h6
    have h7 : some x.t = some w := h7
    cases h6; cases h7
    exact hxm.2.vr fun b hb2 => hb b (List.mem_append_right _ hb2)
   ·have h6 : some (PV.int .u8 x.r.cell.f) = some c := h6
    have h7 : some (TV.int .u8 x.r.cell.f) = some w := h7
    cases h6; cases h7
    exact .int _ _
   ·have h6 : some (PV.int .i64 x.r.cell.n) = some c := h6
    have h7 : some (TV.int .i64 x.r.cell.n) = some w := h7
    cases h6; cases h7
    exact .int _ _
   ·omega)
theorem con_rows {n : Nat} {s : List Int} {l : List V} (hR : RowsC (n + 1) s) (hOf : OfOk s l) : Con X0 Tryz.prog (ApN (n + 1)) 115 [lstI s, lstV l] (rwsA.put (dOf s l)) [] := by
 intro A h first args cap hup hv
 obtain ⟨x0, r, e1, h0, hv⟩ := hv.inv
 obtain ⟨x1, r2, rfl, h1, hv⟩ := hv.inv
 have := hv.inv0
 subst this
 obtain ⟨v, h', L, a1, a2, a3⟩ := hR l hOf h x0 x1 (h0.mono fun b _ => ⟨trivial, by simp [blks]⟩) (h1.mono fun b _ => ⟨trivial, by simp [blks]⟩)
 refine ⟨v, h', [], ?_, ⟨rfl, fun i b hb => by simp at hb, by simp [blks], fun b hb => hup b (by have := a2.stay.1; omega), fun b hb => by simp [blks] at hb⟩, ?_, ⟨a2.stay.1, fun b hb _ => a2.stay.2 b hb (by simp), fun b hb => by simp [blks] at hb, fun b cs hc => ⟨cs, by rw [blkCells_same (a2.stay.2 b (blkCells_lt hc) (by simp)), hc], Nat.le_refl _⟩⟩⟩
 ·rw [show ApN (n + 1) = apN Tryz.prog T LL (n + 1) from rfl, apN_fn (by kernel_rfl)] at a1 ⊢
  rw [e1]
  exact a1
 ·exact rowsP_vr (A := AA A []) a2 (fun b hb => ⟨hup b hb, by simp [blks]⟩) a3
theorem rows_all : ∀ (s : List Int) {N : Nat}, (∀ m, N ≤ m → Ok m oc160) → ∀ m, N + s.length + 1 ≤ m → RowsC m s
 | [], N, hO, m, hm => by
  obtain ⟨k, rfl⟩ : ∃ k, m = k + 1 := ⟨m - 1, by omega⟩
  exact rows_nil
 | a :: s, N, hO, m, hm => by
  simp only [List.length_cons] at hm
  obtain ⟨k, rfl⟩ : ∃ k, m = k + 2 := ⟨m - 2, by omega⟩
  exact rows_cons (N := k) (fun q hq => hO q (by omega)) (rows_all s hO (k + 1) (by omega))
noncomputable def oc115 : Orc gam := orcF 115 (a2 isA vsA) rwsA (fun p => dOf p.1 p.2) (fun p => [OfOk p.1 p.2]) oc160
theorem gc115 : Gd oc115 := gc160.deep 8 fun n hn hO p hp => by
 have h : OfOk p.1 p.2 := hp _ (.head _)
 exact con_rows (rows_all p.1 (N := n - 8) hO (n + 1) (by have := h.fine.len; omega)) h
end Go.Proofs.YtmefgijobonklaaGreat
namespace Go.Proofs.YtmefgijobonklaaGreat
open Go Tw Pv Mist
abbrev w72 (a : List Int) (i : Int) (s : List Int) (x : List (Nat × PE gam)) : PSt gam := ⟨[(0, xL 3 a), (3, xo 0), (6, xi a.length), (7, xi i)] ++ x, [], [.list false false 3 s]⟩
theorem l72 {n : Nat} {orc : Orc gam} (hO : Ok n orc) (a : List Int) (hl : a.length ≤ most) : Lp n 72 0 (w72 a 0 [] []) (.exit 0) (w72 a a.length (iotaI a.length) [(8, xl false)]) := by
 rw [← iotaI_fold]
 exact foldE (s0 := ([] : List Int)) (g := fun k s => s ++ [(k : Int)]) (st := fun i s => w72 a i s []) (fin := fun s => w72 a a.length s [(8, xl false)]) (fun k s => s.length = k) (by kernel_rfl) hl LLm rfl (fun k s _ h => by simp [h]) (fun k s hk hi n e p h => round hX hO (by kernel_rfl) (.b (lt_nat hk) (.o (show s.length + 1 ≤ most by omega) (.goG [.gc [2]] h)))) (fun s _ => round hX hO (by kernel_rfl) (.b (lt_no a.length) .ex))
noncomputable def oc72 : Orc gam := orcF 72 (a1 isA) iA (fun p => S_sizes p) (fun p => [p.length ≤ most]) oc115
theorem gc72 : Gd oc72 := gc115.add fun n hO p hp => fn_is hX hO (by kernel_rfl) (.wG [.nilE 3 3] (l72 hO p (hp _ (.head _))) (.o (hp _ (.head _)) (.o (show (iotaI p.length).length ≤ 2 ^ 20 by rw [iotaI_len]; exact hp _ (.head _)) (.v _ (frame_iota p)))))
def prodW (s : List Int) : Int := foldN (fun k n => IntKind.i64.wrap (n * s.getD k 0)) s.length 0 1
abbrev w73 (a : List Int) (n i : Int) (x : List (Nat × PE gam)) : PSt gam := ⟨[(3, xi n), (6, xL 3 a), (7, xi a.length), (8, xi i)] ++ x, [], []⟩
theorem l73 {n : Nat} {orc : Orc gam} (hO : Ok n orc) (a : List Int) (hl : a.length ≤ most) : Lp n 73 0 (w73 a 1 0 []) (.exit 0) (w73 a (prodW a) a.length [(9, xl false)]) :=
 foldE (st := fun i n => w73 a n i []) (fin := fun n => w73 a n a.length [(9, xl false)]) (fun _ _ => True) (by kernel_rfl) hl LLm trivial (fun _ _ _ _ => trivial) (fun k s hk _ n e p h => round hX hO (by kernel_rfl) (.b (lt_nat hk) (.o (inR_nat hk) (.go h)))) (fun s _ => round hX hO (by kernel_rfl) (.b (lt_no a.length) .ex))
theorem prodW_eq {s : List Int} (hs : SzOk s) (hm : prodI s ≤ 2000) : prodW s = prodI s := by
 have := foldN_inv (g := fun k n => IntKind.i64.wrap (n * s.getD k 0)) (m := s.length) (k := 0) (s := (1 : Int)) (fun k n => n = prodI (s.take k)) rfl (fun j n _ hj hn => by
  have e : s.take (j + 1) = s.take j ++ [s.getD j 0] := by rw [List.take_add_one, List.getElem?_eq_getElem (by omega)]; simp [List.getD, List.getElem?_eq_getElem (show j < s.length by omega)]
  have e2 : prodI (s.take (j + 1)) = n * s.getD j 0 := by rw [e, prodI_app, hn]; simp [prodI]
  have h1 := prodI_take_le hs (j + 1)
  have h2 : 1 ≤ prodI (s.take (j + 1)) := prodI_pos fun b hb => hs b (List.mem_of_mem_take hb)
  rw [e2] at h1 h2 ⊢
  exact wrap_nn (by omega) (by omega))
 unfold prodW
 rw [this, Nat.zero_add, List.take_length]
noncomputable def oc73 : Orc gam := orcF 73 (a1 isA) iA (fun p => prodI p) (fun p => [Fine p]) oc72
theorem gc73 : Gd oc73 := gc72.add fun n hO p hp => fn_is hX hO (by kernel_rfl) (.w (l73 hO p (show Fine p from hp _ (.head _)).lenM) (.v _ (prodW_eq (show Fine p from hp _ (.head _)).sz (show Fine p from hp _ (.head _)).many)))
def S_vCheck (v : V) : Int := if (!(S_isCell v)) = true then 2 else 0
noncomputable def oc114 : Orc gam := orcF 114 (a1 vA) iA (fun p => S_vCheck p) np oc73
theorem gc114 : Gd oc114 := gc73.add fun n hO p hp => fn_is hX hO (by kernel_rfl) (.ss .rr .rr)
noncomputable def oc75 : Orc gam := orcF 75 (a1 vA) tA (fun p => S_vCheck p == 0) np oc114
theorem gc75 : Gd oc75 := gc114.add fun n hO p hp => fn_is hX hO (by kernel_rfl) .rr
abbrev cFT (r : Rw) (k : Nat) : Bool := decide (r.fr.getD k 0 > r.to.getD k 0)
def S_tRow (s : List Int) (r : Rw) : Bool := if (!(isPl s r.fr)) = true then false else if (!(isPl s r.to)) = true then false else if (!(S_vCheck r.cell == 0)) = true then false else if isL (srch (cFT r) r.fr.length) = true then true else false
noncomputable def oc74 : Orc gam := orcF 74 (a2 vsA (fnA 75)) tA (fun p => p.1.all fun v => S_vCheck v == 0) (fun p => [p.1.length ≤ most]) oc75
theorem gc74 : Gd oc74 := gc75.deep 4 fun n hn hO p hp => by
 obtain ⟨n, rfl⟩ : ∃ k, n = k + 3 := ⟨n - 3, by omega⟩
 have h1 : ∀ x : V, Sim X0 Tryz.prog (ApN (n + 1)) (.fn 113 [] [.ptr 0 0 1]) [.agg x.ps] (boxF 75 []) (tA.put (!(S_vCheck x == 0))) (boxF 75 []) := fun x =>
  sim_is hX (hO n (by omega)) (first := []) (by kernel_rfl) .sr
 have h2 := s112 (n := n + 2) (by omega) (g := fun x => !(S_vCheck x == 0)) h1 p.1 (hp _ (.head _))
 exact fn_is hX (hO (n + 3) (by omega)) (by kernel_rfl) (.k h2 (.v (!(S_ContainsFuncV (fun x => !(S_vCheck x == 0)) p.1)) (by rw [containsV, any_not])))
noncomputable def oc76 : Orc gam := orcF 76 (a1 ldA) tbA (fun p => dOf p.s p.cells) (fun p => [OfOk p.s p.cells]) oc74
theorem gc76 : Gd oc76 := gc74.add fun n hO p hp => fn_is hX hO (by kernel_rfl) (.o (hp _ (.head _)) .rr)
end Go.Proofs.YtmefgijobonklaaGreat
namespace Go.Proofs.YtmefgijobonklaaGreat
open Go Tw Pv Mist
def gMax (l : List Int) (k : Nat) (m : Int) : Int := if l.getD (IntKind.i64.wrap ((k : Int) + 1)).toNat 0 > m then l.getD (IntKind.i64.wrap ((k : Int) + 1)).toNat 0 else m
def S_lMax (l : List Int) : Int := foldN (gMax l) (l.length - 1) 0 (l.getD 0 0)
def gMin (l : List Int) (k : Nat) (m : Int) : Int := if l.getD (IntKind.i64.wrap ((k : Int) + 1)).toNat 0 < m then l.getD (IntKind.i64.wrap ((k : Int) + 1)).toNat 0 else m
def S_lMin (l : List Int) : Int := foldN (gMin l) (l.length - 1) 0 (l.getD 0 0)
end Go.Proofs.YtmefgijobonklaaGreat
namespace Go.Proofs.YtmefgijobonklaaGreat
open Go Tw Pv Mist
def stB (c : V) (x : List Int × List V) (q : Int) : List Int × List V := (x.1.set q.toNat (IntKind.i64.wrap (x.1.getD q.toNat 0 + 1)), x.2.set q.toNat c)
end Go.Proofs.YtmefgijobonklaaGreat
namespace Go.Proofs.YtmefgijobonklaaGreat
open Go Tw Pv Mist
def stR (s : List Int) (r : Rw) (x : List Int × List V) : List Int × List V := (boxA r.fr r.to r.fr).foldl (fun x p => stB r.cell x (numI s p)) x
theorem stR_len (s : List Int) (r : Rw) (x : List Int × List V) : (stR s r x).1.length = x.1.length ∧ (stR s r x).2.length = x.2.length := by
 unfold stR
 generalize boxA r.fr r.to r.fr = l
 induction l generalizing x with
 | nil => exact ⟨rfl, rfl⟩
 | cons p l ih =>
  have := ih (stB r.cell x (numI s p))
  simp only [List.foldl_cons]
  rw [this.1, this.2]
  exact ⟨by simp [stB], by simp [stB]⟩
def x0 (s : List Int) : List Int × List V := (List.replicate (prodI s).toNat 0, List.replicate (prodI s).toNat V0)
def layX (s : List Int) (t : List Rw) : List Int × List V := foldN (fun k => stR s (t.getD k Rw0)) t.length 0 (x0 s)
def gT (s : List Int) (ts : List (List Rw)) (k : Nat) (acc : List Ld) : List Ld ⊕ Int := if decide (((ts.getD k []).length : Int) > 4000) = true then .inr 5 else if (!((ts.getD k []).all (S_tRow s))) = true then .inr 4 else if decide (S_lMax (layX s (ts.getD k [])).1 > 1) = true then .inr 6 else if (S_lMin (layX s (ts.getD k [])).1 == 0) = true then .inr 7 else .inl (acc ++ [⟨s, (layX s (ts.getD k [])).2⟩])
theorem layX_len (s : List Int) (t : List Rw) : (layX s t).1.length = (prodI s).toNat ∧ (layX s t).2.length = (prodI s).toNat := by
 refine foldN_inv (g := fun k => stR s (t.getD k Rw0)) (m := t.length) (k := 0) (s := x0 s) (fun _ x => x.1.length = (prodI s).toNat ∧ x.2.length = (prodI s).toNat) ⟨by simp [x0], by simp [x0]⟩ fun j x _ _ h => ?_
 have := stR_len s (t.getD j Rw0) x
 exact ⟨by rw [this.1, h.1], by rw [this.2, h.2]⟩
def RwsOk (t : List Rw) : Prop := ∀ r ∈ t, r.fr.length ≤ most ∧ r.to.length ≤ most
def S_lay (s : List Int) (ts : List (List Rw)) : List Ld × Int := if (S_sizes s != 0) = true then ([], S_sizes s) else match cntN (gT s ts) ts.length 0 [] with
 | .inl acc => (acc, 0)
 | .inr e => ([], e)
end Go.Proofs.YtmefgijobonklaaGreat
namespace Go.Proofs.YtmefgijobonklaaGreat
open Go Tw Pv Mist
abbrev lyE (s : List Int) (t : List Rw) : Int := (S_lay s [t]).2
abbrev lyL (s : List Int) (t : List Rw) : Ld := (S_lay s [t]).1.getD (Int.toNat 0) Ld0
theorem m1 (t : List Rw) : [t].length ≤ most := by unfold most; simp
theorem m2 {t : List Rw} (h : RwsOk t) : ∀ x ∈ [t], RwsOk x := List.forall_mem_singleton.2 h
def S_tErr (s : List Int) (t : List Rw) : Int := if (S_sizes s != 0) = true then S_sizes s else if decide ((t.length : Int) > 4000) = true then 5 else if (!(t.all (S_tRow s))) = true then 4 else if decide (S_lMax (layX s t).1 > 1) = true then 6 else if (S_lMin (layX s t).1 == 0) = true then 7 else 0
theorem lay1 (s : List Int) (t : List Rw) : S_lay s [t] = if (S_tErr s t != 0) = true then ([], S_tErr s t) else ([⟨s, (layX s t).2⟩], 0) := by
 unfold S_lay S_tErr
 by_cases c : (S_sizes s != 0) = true
 ·rw [if_pos c, if_pos c, if_pos c]
 ·rw [if_neg c, if_neg c]
  have e : gT s [t] 0 [] = if decide ((t.length : Int) > 4000) = true then .inr 5 else if (!(t.all (S_tRow s))) = true then .inr 4 else if decide (S_lMax (layX s t).1 > 1) = true then .inr 6 else if (S_lMin (layX s t).1 == 0) = true then .inr 7 else .inl [⟨s, (layX s t).2⟩] := rfl
  simp only [List.length_singleton, cntN]
  rw [e]
  by_cases c1 : decide ((t.length : Int) > 4000) = true
  ·rw [if_pos c1, if_pos c1]; rfl
  rw [if_neg c1, if_neg c1]
  by_cases c2 : (!(t.all (S_tRow s))) = true
  ·rw [if_pos c2, if_pos c2]; rfl
  rw [if_neg c2, if_neg c2]
  by_cases c3 : decide (S_lMax (layX s t).1 > 1) = true
  ·rw [if_pos c3, if_pos c3]; rfl
  rw [if_neg c3, if_neg c3]
  by_cases c4 : (S_lMin (layX s t).1 == 0) = true
  ·rw [if_pos c4, if_pos c4]; rfl
  rw [if_neg c4, if_neg c4]; rfl
theorem lyE_eq (s : List Int) (t : List Rw) : lyE s t = S_tErr s t := by
 unfold lyE
 rw [lay1]
 split
 ·rfl
 ·rename_i h; simpa using Eq.symm (by simpa using h)
theorem lyL_eq {s : List Int} {t : List Rw} (h : (lyE s t != 0) = false) : (S_lay s [t]).1 = [⟨s, (layX s t).2⟩] ∧ Fine s ∧ t.length ≤ most ∧ t.all (S_tRow s) = true := by
 rw [lyE_eq] at h
 refine ⟨by rw [lay1, if_neg (by rw [h]; simp)], ?_⟩
 have h : S_tErr s t = 0 := by simpa using h
 unfold S_tErr at h
 split at h
 ·rename_i c; simp [h] at c
 rename_i c
 split at h
 ·cases h
 rename_i c2
 split at h
 ·cases h
 rename_i c3
 exact ⟨fine_of (by simpa using c), most4 (by simpa using c2), by simpa using c3⟩
theorem lyL_of {s : List Int} {t : List Rw} (h : (lyE s t != 0) = false) : lyL s t = ⟨s, (layX s t).2⟩ := by unfold lyL; rw [(lyL_eq h).1]; rfl
theorem lyL_ok {s : List Int} {t : List Rw} (h : (lyE s t != 0) = false) : OfOk (lyL s t).s (lyL s t).cells := by
 rw [lyL_of h]
 have hf := (lyL_eq h).2.1
 have := prodI_pos hf.sz
 exact ⟨hf, by show ((layX s t).2.length : Int) = prodI s; rw [(layX_len s t).2]; omega⟩
theorem at_in {s q : List Int} {t : List Rw} (h : (lyE s t != 0) = false) (h2 : (!(isPl (lyL s t).s q)) = false) : inR (numI (lyL s t).s q) (lyL s t).cells.length := by
 have h3 := lyL_ok h
 have h4 := numI_rng (s := (lyL s t).s) (p := q) (by simpa using h2) h3.1.sz
 have h5 := h3.2
 exact ⟨h4.1, by omega⟩
def S_tOf (s : List Int) (l : List V) : List Rw × Int := if (S_sizes s != 0) = true then ([], S_sizes s) else if ((l.length : Int) != prodI s) = true then ([], 4) else if (!(l.all fun v => S_vCheck v == 0)) = true then ([], 4) else (dOf s l, 0)
theorem of_ok {s : List Int} {l : List V} (h : (S_sizes s != 0) = false) (h2 : ((l.length : Int) != prodI s) = false) : OfOk s l := ⟨fine_of h, by simpa using h2⟩
noncomputable def oc17 : Orc gam := orcF 17 (a2 isA vsA) (tupA (a2 tbA iA)) (fun p => S_tOf p.1 p.2) (fun p => [p.1.length ≤ most, p.2.length ≤ most]) oc76
theorem gc17 : Gd oc17 := gc76.add fun n hO p hp => fn_is hX hO (by kernel_rfl) (.o (hp _ (.head _)) (.sh (fun _ => .rn (.tup [.agg [.nil .slc], .int .i64 (S_sizes p.1)]) rfl) fun h => .o (fine_of h) (.sh (fun _ => .rn (.tup [.agg [.nil .slc], .int .i64 4]) rfl) fun h2 => .o (hp _ (.tail _ (.head _))) (.ss (.rn (.tup [.agg [.nil .slc], .int .i64 4]) rfl) (.o (of_ok h h2) .rr)))))
end Go.Proofs.YtmefgijobonklaaGreat
namespace Go.Proofs.YtmefgijobonklaaGreat
open Go Tw Pv Mist
abbrev V3 := V × V × V
abbrev V3.vs (x : V3) : Array Value := #[.int .u8 x.1.f, .int .i64 x.1.n, .int .u8 x.2.1.f, .int .i64 x.2.1.n, .int .u8 x.2.2.f, .int .i64 x.2.2.n]
end Go.Proofs.YtmefgijobonklaaGreat
namespace Go.Proofs.YtmefgijobonklaaGreat
open Go Tw Pv Mist
theorem cell_vIs {v : V} (h : 0 ≤ v.f) : (S_vCheck v == 0) = vIs v := by
 have e1 : (S_vCheck v == 0) = S_isCell v := by unfold S_vCheck; cases S_isCell v <;> rfl
 have e2 : S_withinV [v.n] (-9999) 9999 = S_rIn v.n (-9999) 9999 := by
  rw [Bool.eq_iff_iff, rIn_iff]
  simp only [S_withinV, S_within1V, List.any_cons, List.any_nil, Bool.or_false, Bool.not_eq_true']
  by_cases c : v.n < -9999
  ·rw [if_pos (by simpa using c)]; simp; omega
  ·rw [if_neg (by simpa using c), decide_eq_false_iff_not]; omega
 rw [e1]
 unfold S_isCell vIs
 rw [e2]
 by_cases c : v.f = 0
 ·rw [if_pos (by simpa using c), if_neg (by simp [c])]
 ·rw [if_neg (by simpa using c), if_pos (show decide (v.f > 0) = true by rw [decide_eq_true_eq]; omega)]
theorem own_inv {t : List Rw} (ht : t.length ≤ 4000) (p : List Int) : 0 ≤ (S_Owners t p).1 ∧ (1 ≤ (S_Owners t p).1 → inR (S_Owners t p).2 t.length) := by
 have := foldN_inv (g := gOwn t p) (m := t.length) (k := 0) (s := (0, -1)) (fun k x => 0 ≤ x.1 ∧ x.1 ≤ (k : Int) ∧ (1 ≤ x.1 → inR x.2 t.length)) ⟨by simp, by simp, fun h => by simp at h⟩ (fun j x _ hj h => by
  obtain ⟨h1, h2, h3⟩ := h
  unfold gOwn
  split
  ·have e : IntKind.i64.wrap (x.1 + 1) = x.1 + 1 := wrap_nn (by omega) (by omega)
   refine ⟨by show 0 ≤ IntKind.i64.wrap (x.1 + 1); omega, by show IntKind.i64.wrap (x.1 + 1) ≤ _; push_cast; omega, fun _ => inR_nat (by omega)⟩
  ·exact ⟨h1, by push_cast; omega, h3⟩)
 exact ⟨this.1, this.2.2⟩
end Go.Proofs.YtmefgijobonklaaGreat
namespace Go.Proofs.YtmefgijobonklaaGreat
open Go Tw Pv Mist
noncomputable def oc18 : Orc gam := orcF 18 (a1 isA) isA (fun p => p) (fun p => [p.length ≤ most]) oc17
theorem gc18 : Gd oc18 := gc17.add fun n hO p hp => fn_is hX hO (by kernel_rfl) (.o (hp _ (.head _)) .rr)
noncomputable def oc19 : Orc gam := orcF 19 (a1 vsA) vsA (fun p => p) (fun p => [p.length ≤ most]) oc18
theorem gc19 : Gd oc19 := gc18.add fun n hO p hp => fn_is hX hO (by kernel_rfl) (.o (hp _ (.head _)) .rr)
def S_thinS (s : List Int) : Bool := if decide ((s.length : Int) ≤ 8) = true then (if (S_sizes s != 0) = true then true else decide (prodC s ≤ 60)) else false
theorem most8 {n : Nat} (h : decide ((n : Int) ≤ 8) = true) : n ≤ most := by rw [decide_eq_true_eq] at h; unfold most; omega
noncomputable def oc15 : Orc gam := orcF 15 (a1 isA) tA (fun p => S_thinS p) np oc19
theorem gc15 : Gd oc15 := gc19.add fun n hO p hp => fn_is hX hO (by kernel_rfl) (.sh (fun h => .o (most8 h) (.ss .rr (.o (most8 h) .rr))) fun _ => .rr)
noncomputable def oc23 : Orc gam := orcF 23 (a1 tbA) tA (fun p => ((p.length : Int) == 0)) np oc15
theorem gc23 : Gd oc23 := gc15.add fun n hO p hp => fn_is hX hO (by kernel_rfl) .rr
end Go.Proofs.YtmefgijobonklaaGreat
namespace Go.Proofs.YtmefgijobonklaaGreat
open Go Tw Pv Mist
abbrev cRt (l : List V) (k : Nat) : Bool := !(vOk (l.getD k V0))
abbrev wRt (l : List V) (i : Int) (x : List (Nat × PE gam)) : PSt gam := ⟨[(0, xL 58 l), (3, xi i)] ++ x, [], []⟩
def zRt (l : List V) : Unit ⊕ Nat → Ex × PSt gam
 | .inl _ => (.exit 0, wRt l l.length [(7, xl false)])
 | .inr _ => (.ret, ⟨[(2, xl false)], [], []⟩)
theorem lRt {n : Nat} (hO : Ok n oc23) (l : List V) (hl : l.length ≤ most) : Lp n 22 0 (wRt l 0 []) (zRt l (srch (cRt l) l.length)).1 (zRt l (srch (cRt l) l.length)).2 := by
 refine eachN (X := X0) (P := Tryz.prog) (T := T) (st := fun i _ => wRt l i []) (g := gS (cRt l)) (out := zRt l) (fun _ _ => True) (by kernel_rfl) hl LLm trivial (fun k u m hk _ ih => ?_) (fun _ _ => ?_)
 ·unfold gS cRt
  exact round hX hO (by kernel_rfl) (.b (lt_nat hk) (.o (inR_nat hk) (.ls (.ou nofun) (.nx (ih _ trivial)))))
 ·exact round hX hO (by kernel_rfl) (.b (lt_no l.length) (.ou nofun))
noncomputable def oc22 : Orc gam := orcF 22 (a1 vsA) tA (fun p => isL (srch (cRt p) p.length)) (fun p => [p.length ≤ most]) oc23
theorem gc22 : Gd oc22 := gc23.add fun n hO p hp => fn_is hX hO (by kernel_rfl) (.z (c := isL (srch (cRt p) p.length)) (fun h => .w (exInl (lRt hO p (hp _ (.head _))) () h) (.v true h.symm)) fun h => .w (exInr (lRt hO p (hp _ (.head _))) 0 h) (.v false h.symm))
end Go.Proofs.YtmefgijobonklaaGreat
namespace Go.Proofs.YtmefgijobonklaaGreat
open Go Tw Pv Mist
theorem right_eq {l : List V} (h : ∀ v ∈ l, 0 ≤ v.f) : isL (srch (cRt l) l.length) = l.all fun v => S_vCheck v == 0 := by
 rw [Bool.eq_iff_iff, srch_ok, List.all_eq_true]
 have e := all_getD (l := l) (d := V0) (p := fun v => (S_vCheck v == 0) = true)
 rw [← e]
 refine forall_congr' fun j => forall_congr' fun hj => ?_
 have hm : l.getD j V0 ∈ l := by simp [List.getD, List.getElem?_eq_getElem hj]
 rw [cell_vIs (h _ hm), ← vOk_eq (h _ hm)]
 simp [cRt]
def wantOf (s : List Int) (l : List V) : Int := if (S_sizes s != 0) = true then S_sizes s else if ((l.length : Int) != prodI s) = true then 4 else if (!(isL (srch (cRt l) l.length))) = true then 4 else 0
theorem of_eq {s : List Int} {l : List V} (h : ∀ v ∈ l, 0 ≤ v.f) : S_tOf s l = if (wantOf s l != 0) = true then ([], wantOf s l) else (dOf s l, 0) := by
 unfold S_tOf wantOf
 rw [right_eq h]
 by_cases c1 : (S_sizes s != 0) = true
 ·rw [if_pos c1, if_pos c1, if_pos c1]
 rw [if_neg c1, if_neg c1]
 by_cases c2 : ((l.length : Int) != prodI s) = true
 ·rw [if_pos c2, if_pos c2]; rfl
 rw [if_neg c2, if_neg c2]
 by_cases c3 : (!(l.all fun v => S_vCheck v == 0)) = true
 ·rw [if_pos c3, if_pos c3]; rfl
 rw [if_neg c3, if_neg c3]; rfl
end Go.Proofs.YtmefgijobonklaaGreat
namespace Go.Proofs.YtmefgijobonklaaGreat
open Go Tw Pv Mist
theorem con_aw {n : Nat} : Con X0 Tryz.prog (ApN (n + 1)) 16 ((nilA : Args Unit).put ()) ((tA : Arg Bool).put true) [] := by
 intro A h first args cap hup hv
 have e := hv.inv0
 have e1 : first = [] := by cases first with | nil => rfl | cons => cases e
 subst e1
 have e2 : args = [] := by cases args with | nil => rfl | cons => cases e
 subst e2
 have e3 : cap = [] := by cases cap with | nil => rfl | cons => cases e
 subst e3
 exact ⟨.bool true, h, [], rfl, ⟨rfl, fun i b hb => by simp at hb, by simp [blks], hup, fun b hb => by simp [blks] at hb⟩, .bool _, .refl⟩
noncomputable def oc16 : Orc gam := orcF 16 nilA tA (fun _ => true) np oc22
theorem gc16 : Gd oc16 := gc22.deep 0 fun n hn hO p hp => con_aw
theorem m62 {n : Nat} (h : decide ((n : Int) > 62) = false) : n ≤ most := by rw [decide_eq_false_iff_not] at h; unfold most; omega
theorem thinS_len {s : List Int} (h : S_thinS s = true) : s.length ≤ most := by
 unfold S_thinS at h
 split at h
 ·rename_i h2; exact most8 h2
 ·cases h
theorem ne0 {a : Int} (h : (a == 0) = true) : (a != 0) = false := by simp at *; exact h
theorem ne0' {a : Int} (h : (a == 0) = false) : (a != 0) = true := by simp at *; exact h
theorem dOf_m {s : List Int} {l : List V} (h : OfOk s l) : (dOf s l).length ≤ most := by
 have h1 := dOf_len h
 have h2 := h.len
 have h3 := h.fine.many
 unfold most; omega
theorem dOf_r {s : List Int} {l : List V} (h : OfOk s l) : ∀ r ∈ dOf s l, r.fr.length ≤ most ∧ r.to.length ≤ most := fun r hr => by
 have h1 := dOf_rows s l r hr
 have h2 := h.fine.len
 unfold most
 omega
noncomputable def oc3 : Orc gam := orcF 3 (a2 isA vsA) tA (fun _ => true) (fun p => [∀ v ∈ p.2, 0 ≤ v.f]) oc16
theorem gc3 : Gd oc3 := gc16.add fun n hO p hp => by
 obtain ⟨s, l⟩ := p
 have hv : ∀ v ∈ l, 0 ≤ v.f := hp _ (.head _)
 show Con _ _ _ _ _ ((tA : Arg Bool).put true) _
 cases c1 : S_thinS s
 ·exact fn_is hX hO (by kernel_rfl) (.b (show (!(S_thinS s)) = true by rw [c1]; rfl) .rr)
 have t1 : (!(S_thinS s)) = false := by rw [c1]; rfl
 have hs := thinS_len c1
 cases c2 : decide ((l.length : Int) > 62)
 rotate_left
 ·exact fn_is hX hO (by kernel_rfl) (.b t1 (.b c2 .rr))
 have hl := m62 c2
 have e := of_eq (s := s) hv
 have e0 : wantOf s l = if (S_sizes s != 0) = true then S_sizes s else if ((l.length : Int) != prodI s) = true then 4 else if (!(isL (srch (cRt l) l.length))) = true then 4 else 0 := rfl
 cases c3 : S_sizes s == 0
 ·have n3 := ne0' c3
  rw [if_pos n3] at e0
  rw [e0, if_pos n3] at e
  exact fn_is hX hO (by kernel_rfl) (.b t1 (.b c2 (.o hs (.o hl (.o hs (.o hl (.o hs (.b c3 (.b n3 (.b (show ((S_tOf s l).2 == S_sizes s) = true by rw [e]; simp) (.b (show (((S_tOf s l).1.length : Int) == 0) = true by rw [e]; rfl) .rr)))))))))))
 have n3 := ne0 c3
 have hf := fine_of n3
 have hpc := hf.many3
 rw [if_neg (by rw [n3]; simp)] at e0
 cases c4 : (l.length : Int) != prodI s
 rotate_left
 ·rw [if_pos c4] at e0
  rw [e0, if_pos (by rfl)] at e
  exact fn_is hX hO (by kernel_rfl) (.b t1 (.b c2 (.o hs (.o hl (.o hs (.o hl (.o hs (.b c3 (.o hs (.b (show ((l.length : Int) != prodC s) = true by rw [hpc]; exact c4) (.b (show ((4 : Int) != 0) = true from rfl) (.b (show ((S_tOf s l).2 == 4) = true by rw [e]; rfl) (.b (show (((S_tOf s l).1.length : Int) == 0) = true by rw [e]; rfl) .rr)))))))))))))
 have c4' : ((l.length : Int) != prodC s) = false := by rw [hpc]; exact c4
 rw [if_neg (by rw [c4]; simp)] at e0
 cases c5 : isL (srch (cRt l) l.length)
 ·have t5 : (!(isL (srch (cRt l) l.length))) = true := by rw [c5]; rfl
  rw [if_pos t5] at e0
  rw [e0, if_pos (by rfl)] at e
  exact fn_is hX hO (by kernel_rfl) (.b t1 (.b c2 (.o hs (.o hl (.o hs (.o hl (.o hs (.b c3 (.o hs (.b c4' (.o hl (.b t5 (.b (show ((4 : Int) != 0) = true from rfl) (.b (show ((S_tOf s l).2 == 4) = true by rw [e]; rfl) (.b (show (((S_tOf s l).1.length : Int) == 0) = true by rw [e]; rfl) .rr)))))))))))))))
 have t5 : (!(isL (srch (cRt l) l.length))) = false := by rw [c5]; rfl
 rw [if_neg (by rw [t5]; simp)] at e0
 rw [e0, if_neg (by simp)] at e
 have ho := of_ok n3 c4
 exact fn_is hX hO (by kernel_rfl) (.b t1 (.b c2 (.o hs (.o hl (.o hs (.o hl (.o hs (.b c3 (.o hs (.b c4' (.o hl (.b t5 (.b n3 (.b (show ((S_tOf s l).2 == 0) = true by rw [e]; rfl) (.o ho (.o (show (S_tOf s l).1.length ≤ most by rw [e]; exact dOf_m ho) (.o (show ∀ r ∈ (S_tOf s l).1, r.fr.length ≤ most ∧ r.to.length ≤ most by rw [e]; exact dOf_r ho) (.b (show decide ((S_tOf s l).1 = dOf s l) = true by rw [e]; simp) .rr))))))))))))))))))
end Go.Proofs.YtmefgijobonklaaGreat
namespace Tw
open Go Go.ChangeShapes Go.WideShapes Go.RowKit
theorem trodAll_1 {H : Type} {enc : TypeId × Value → H} {P : Program} {w : World} {t : TypeId} {vs : List Value} {ds : List (DataW H)} {ps : List MemPlace} (h : DataW.TrodAll enc P w 0 (fun _ => true) true [t] vs ds ps) : ∃ d, ds = [d] ∧ Rd enc P w t d := by
 obtain ⟨v, vs', d, ds', p, q, rfl, rfl, rfl, ⟨fuel, hd⟩, hrest⟩ := trodAll_cons h
 obtain ⟨rfl, rfl, rfl⟩ := trodAll_nil hrest
 exact ⟨d, rfl, _, fuel, p, hd⟩
theorem trodAll_n {H : Type} {enc : TypeId × Value → H} {P : Program} {w : World} {t : TypeId} {ts : List TypeId} {vs : List Value} {ds : List (DataW H)} {ps : List MemPlace} (h : DataW.TrodAll enc P w 0 (fun _ => true) true (t :: ts) vs ds ps) : ∃ d e, ds = d :: e ∧ Rd enc P w t d ∧ ∃ vs ps, DataW.TrodAll enc P w 0 (fun _ => true) true ts vs e ps := by
 obtain ⟨v, vs', d, ds', p, q, rfl, rfl, rfl, ⟨fuel, hd⟩, hrest⟩ := trodAll_cons h
 exact ⟨d, ds', rfl, ⟨_, fuel, p, hd⟩, _, _, hrest⟩
section
variable {H : Type} {P : Program} {g : Nat} {t : TypeId} {ts : List TypeId} {d : DataW H} {ds : List (DataW H)} {h h1 h2 : List HB} {xs : List TV}
theorem encA_o {x : TV} (ha : isAggT P t = some false) (he : encT P g t d h = some ([x], h1)) (hr : encA P g ts ds h1 = some (xs, h2)) : encA P g (t :: ts) (d :: ds) h = some (x :: xs, h2) := by
 simp only [encA, he, ha, hr]
theorem encA_0 : encA (H := H) P g [] [] h = some ([], h) := rfl
end
end Tw
namespace Pv
open Go Tw
section
variable {X : Cod} {P : Program} {H : Type} {encH : TypeId × Value → H} {w : World}
abbrev AT : Nat → Prop := fun _ => True
def RdP (encH : TypeId × Value → H) (X : Cod) (P : Program) (w : World) (g t : Nat) {α : Type} (ps : α → List (PV X.Γ)) (Q : α → Prop) : Prop :=
 ∀ d, Rd encH P w t d → ∃ a, Q a ∧ ∀ h, ∃ xs ext, encT P g t d h = some (xs, h ++ ext) ∧ ∀ e, VRs X P AT [] (h ++ ext ++ e) (ps a) xs
theorem rdp_int {t g : Nat} {k : IntKind} (ht : P.underlying t = some (.int k)) : RdP encH X P w (g + 1) t (fun n : Int => [.int k n]) (fun n => (Lit.int k n).wf = true) := fun d hd => by
 obtain ⟨n, rfl, hn⟩ := rd_int ht hd
 exact ⟨n, hn, fun h => ⟨[.int k n], [], by simp [encT, ht], fun e => .cons (.int _ _) .nil⟩⟩
theorem encL_rows {e g sz : Nat} {Q : X.Γ e → Prop} (hlen : ∀ a, (X.enc e a).length = sz) (hr : RdP encH X P w g e (X.enc e) Q) : ∀ (ds : List (DataW H)), (∀ y ∈ ds, Rd encH P w e y) →
  ∃ l : List (X.Γ e), l.length = ds.length ∧ (∀ a ∈ l, Q a) ∧ ∀ h, ∃ cs ext, encL (encT P g e) sz ds h = some (cs, h ++ ext) ∧ cs.length = l.length * sz ∧ ∀ e2 (j : Nat) a (i : Nat) c v, l[j]? = some a → (X.enc e a)[i]? = some c → cs[j * sz + i]? = some v → VR X P AT [] (h ++ ext ++ e2) c v
 | [], _ => ⟨[], rfl, by simp, fun h => ⟨[], [], by simp [encL], by simp, fun e2 j a i c v h1 => by simp at h1⟩⟩
 | d :: ds, hd => by
  obtain ⟨a, qa, ha⟩ := hr d (hd d (List.mem_cons_self ..))
  obtain ⟨l, l1, l2, l3⟩ := encL_rows hlen hr ds fun y hy => hd y (List.mem_cons_of_mem _ hy)
  refine ⟨a :: l, by simp [l1], fun b hb => (List.mem_cons.1 hb).elim (fun e => e ▸ qa) (l2 b), fun h => ?_⟩
  obtain ⟨xs, e1, h1, v1⟩ := ha h
  obtain ⟨cs, e2, h2, c2, v2⟩ := l3 (h ++ e1)
  have hx : xs.length = sz := by rw [← (v1 []).1]; exact hlen a
  refine ⟨xs ++ cs, e1 ++ e2, ?_, by simp only [List.length_append, List.length_cons, hx, c2, Nat.add_mul]; omega, fun e3 j b i c v hj hi hv => ?_⟩
  ·simp only [encL, h1, hx, if_true, h2, List.append_assoc]
  ·cases j with
   | zero =>
    simp only [List.getElem?_cons_zero, Option.some.injEq] at hj
    subst hj
    have hi2 : i < sz := by rw [← hlen a]; exact (List.getElem?_eq_some_iff.1 hi).1
    rw [Nat.zero_mul, Nat.zero_add, List.getElem?_append_left (by omega)] at hv
    have := (v1 (e2 ++ e3)).2 i c v hi hv
    simp only [List.append_assoc] at this ⊢
    exact this
   | succ j =>
    rw [List.getElem?_cons_succ] at hj
    rw [List.getElem?_append_right (by rw [hx, Nat.add_mul]; omega), hx, show (j + 1) * sz + i - sz = j * sz + i by rw [Nat.add_mul]; omega] at hv
    have := v2 e3 j b i c v hj hi hv
    simp only [List.append_assoc] at this ⊢
    exact this
theorem rdp_list {t e g sz : Nat} {Q : X.Γ e → Prop} (ht : P.underlying t = some (.slice e)) (hsz : P.cellsOf e = sz) (hz : sizeT P e = some sz) (h0 : 0 < sz) (hlen : ∀ a, (X.enc e a).length = sz) (hr : RdP encH X P w g e (X.enc e) Q) : RdP encH X P w (g + 1) t (fun l : List (X.Γ e) => [.lst e l false]) (fun l => ∀ a ∈ l, Q a) := fun d hd => by
 rcases rd_slice ht hd with rfl | ⟨xs, ys, rfl, hy⟩
 ·exact ⟨[], by simp, fun h => ⟨[.nil .slc], [], by simp [encT, ht], fun e => .cons .lstN .nil⟩⟩
 ·obtain ⟨l, l1, l2, l3⟩ := encL_rows hlen hr (xs ++ ys) hy
  have hl : xs.length ≤ l.length := by rw [l1, List.length_append]; omega
  refine ⟨l.take xs.length, fun a ha => l2 a (List.mem_of_mem_take ha), fun h => ?_⟩
  obtain ⟨cs, e1, h1, c1, v1⟩ := l3 h
  refine ⟨[.slc (h ++ e1).length 0 xs.length (xs.length + ys.length) sz true], e1 ++ [.cells .ro cs], ?_, fun e2 => .cons ?_ .nil⟩
  ·have hne : ¬ sz = 0 := by omega
   simp only [encT, ht, hsz, h1, hne, if_false, List.append_assoc]
  ·have hln : (l.take xs.length).length = xs.length := by rw [List.length_take, Nat.min_eq_left hl]
   have hb : (h ++ (e1 ++ [HB.cells .ro cs]) ++ e2)[(h ++ e1).length]? = some (.cells .ro cs) := by
    rw [show h ++ (e1 ++ [HB.cells .ro cs]) ++ e2 = (h ++ e1) ++ (HB.cells .ro cs :: e2) by simp, List.getElem?_append_right (Nat.le_refl _), Nat.sub_self]; rfl
   have hcap : (l.take xs.length).length ≤ xs.length + ys.length := by omega
   have hj2 : ∀ (j : Nat) a, (l.take xs.length)[j]? = some a → l[j]? = some a := fun j a hj => by
    rw [List.getElem?_take] at hj
    split at hj
    ·exact hj
    ·cases hj
   have hle : (l.take xs.length).length * sz ≤ cs.length := by rw [c1, hln]; exact Nat.mul_le_mul_right sz hl
   generalize xs.length + ys.length = cp at hcap ⊢
   generalize l.take xs.length = l' at hcap hj2 hle hln ⊢
   rw [← hln]
   exact VR.lst (X := X) (P := P) (A := AT) (m := []) (t := e) (l := l') (fu := false) (b := (h ++ e1).length) (off := 0) (cap := cp) (sz := sz) (ex := true) (cs := cs) trivial (by unfold blkCells; rw [hb]) (fun _ => by unfold blkLim; rw [hb]; simp) hz h0 (by omega) hcap (by simp) (fun j a _ => hlen a) (fun j a i c v hj hi hv => by
    rw [Nat.zero_add] at hv
    have := v1 ([HB.cells .ro cs] ++ e2) j a i c v (hj2 j a hj) hi hv
    simp only [List.append_assoc] at this ⊢
    exact this)
def RdF (encH : TypeId × Value → H) (X : Cod) (P : Program) (w : World) (g o : Nat) (fs : List Field) {α : Type} (ps : α → List (PV X.Γ)) (Q : α → Prop) : Prop :=
 ∀ ds : List (DataW H), ds.length = fs.length → (∀ (i : Nat) f d, fs[i]? = some f → ds[i]? = some d → Rd encH P w f.type d) → ∃ a, Q a ∧ ∀ h, ∃ xs ext, encF P (encT P g) o fs ds h = some (xs, h ++ ext) ∧ ∀ e, VRs X P AT [] (h ++ ext ++ e) (ps a) xs
theorem rdf_nil {g o : Nat} : RdF encH X P w g o [] (fun _ : Unit => []) (fun _ => True) := fun ds hl _ => by
 have := List.eq_nil_of_length_eq_zero hl
 subst this
 exact ⟨(), trivial, fun h => ⟨[], [], by simp [encF], fun e => .nil⟩⟩
theorem rdf_cons {g o n : Nat} {f : Field} {fs : List Field} {α β : Type} {p1 : α → List (PV X.Γ)} {p2 : β → List (PV X.Γ)} {Q1 : α → Prop} {Q2 : β → Prop} (ho : f.offset = o) (hc : P.cellsOf f.type = n) (hn : ∀ a, (p1 a).length = n) (h1 : RdP encH X P w g f.type p1 Q1) (h2 : RdF encH X P w g (o + n) fs p2 Q2) : RdF encH X P w g o (f :: fs) (fun x : α × β => p1 x.1 ++ p2 x.2) (fun x => Q1 x.1 ∧ Q2 x.2) := fun ds hl hd => by
 cases ds with
 | nil => cases hl
 | cons d ds =>
  obtain ⟨a, qa, ha⟩ := h1 d (hd 0 f d rfl rfl)
  obtain ⟨b, qb, hb⟩ := h2 ds (by simpa using hl) fun i f' d' e1 e2 => hd (i + 1) f' d' e1 e2
  refine ⟨(a, b), ⟨qa, qb⟩, fun h => ?_⟩
  obtain ⟨xs, e1, g1, v1⟩ := ha h
  obtain ⟨ys, e2, g2, v2⟩ := hb (h ++ e1)
  have hx : xs.length = n := by rw [← (v1 []).1]; exact hn a
  refine ⟨xs ++ ys, e1 ++ e2, ?_, fun e => ?_⟩
  ·simp only [encF, g1, ho, hx, hc, and_self, if_true, g2, List.append_assoc]
  ·have w1 := v1 (e2 ++ e)
   have w2 := v2 e
   simp only [List.append_assoc] at w1 w2 ⊢
   exact w1.app w2
theorem rdp_struct {t g n : Nat} {fs : Array Field} {α : Type} {ps : α → List (PV X.Γ)} {Q : α → Prop} (ht : P.underlying t = some (.struct fs)) (hc : P.cellsOf t = n) (hn : ∀ a, (ps a).length = n) (hf : RdF encH X P w g 0 fs.toList ps Q) : RdP encH X P w (g + 1) t ps Q := fun d hd => by
 obtain ⟨ds, rfl, hl, hat⟩ := rd_struct ht hd
 obtain ⟨a, qa, ha⟩ := hf ds (by simpa using hl) fun i f d e1 e2 => hat i f d (by simpa using e1) e2
 refine ⟨a, qa, fun h => ?_⟩
 obtain ⟨xs, e1, g1, v1⟩ := ha h
 have hx : xs.length = n := by rw [← (v1 []).1]; exact hn a
 refine ⟨xs, e1, ?_, v1⟩
 rw [encT_struct ht, g1]
 simp [hx, hc]
theorem RdP.iso {t g : Nat} {α β : Type} {ps : α → List (PV X.Γ)} {Q : α → Prop} (h : RdP encH X P w g t ps Q) (f : α → β) {p2 : β → List (PV X.Γ)} {Q2 : β → Prop} (hp : ∀ a, p2 (f a) = ps a) (hq : ∀ a, Q a → Q2 (f a)) : RdP encH X P w g t p2 Q2 := fun d hd => by
 obtain ⟨a, qa, ha⟩ := h d hd
 exact ⟨f a, hq a qa, fun h => by rw [hp]; exact ha h⟩
theorem run_of {T : Tab} {L n f : Nat} {vs : List (PV X.Γ)} {xs : List TV} {h : List HB} (hc : Con X P (apN P T L (n + 1)) f vs (PV.bool true) []) (hv : VRs X P AT [] h vs xs) : ∃ h', apN P T L (n + 1) (TV.fn f [] []) xs h = some (TV.bool true, h', []) := by
 obtain ⟨x, h', m', c1, _, c3, _⟩ := hc AT h [] xs [] (fun _ _ => trivial) (by simpa using hv)
 have : x = TV.bool true := by
  cases c3 with
  | bool => rfl
  | gone hi _ _ => simp [idOf] at hi
 subst this
 exact ⟨h', c1⟩
end
end Pv
namespace Go.Proofs.YtmefgijobonklaaGreat
open Go Tw Pv
section
variable {H : Type} {encH : TypeId × Value → H} {w : World}
abbrev RdX (encH : TypeId × Value → H) (w : World) (g t : Nat) {α : Type} (ps : α → List (PV gam)) (Q : α → Prop) : Prop := RdP encH X0 Tryz.prog w g t ps Q
theorem cInt : Tryz.prog.cellsOf 3 = 1 := by kernel_rfl
theorem cU8 : Tryz.prog.cellsOf 5 = 1 := by kernel_rfl
theorem cVal : Tryz.prog.cellsOf 58 = 2 := by kernel_rfl
theorem zI0 : sizeT Tryz.prog 3 = some 1 := by kernel_rfl
theorem rInt {g : Nat} : RdX encH w (g + 1) 3 (fun n : Int => [.int .i64 n]) (fun n => (Lit.int .i64 n).wf = true) := rdp_int Tryz.underlying3
theorem rU8 {g : Nat} : RdX encH w (g + 1) 5 (fun n : Int => [.int .u8 n]) (fun n => 0 ≤ n ∧ n ≤ 255) := (rdp_int Tryz.underlying5).iso id (fun _ => rfl) fun n h => by
 simp only [Lit.wf, Bool.and_eq_true, decide_eq_true_eq] at h
 exact h
theorem rInts {g : Nat} : RdX encH w (g + 2) 22 (fun l : List Int => [lI l]) (fun l => ∀ a ∈ l, (Lit.int .i64 a).wf = true) := rdp_list (e := 3) Tryz.underlying22 cInt zI0 (by decide) (fun _ => rfl) rInt
theorem rVal {g : Nat} : RdX encH w (g + 2) 58 V.ps (fun v => 0 ≤ v.f ∧ v.f ≤ 255) :=
 (rdp_struct Tryz.underlying58 cVal (fun _ => rfl) (rdf_cons rfl cU8 (fun _ => rfl) rU8 (rdf_cons rfl cInt (fun _ => rfl) rInt rdf_nil))).iso (fun x => ⟨x.1, x.2.1⟩) (fun _ => rfl) fun _ h => h.1
theorem zVal0 : sizeT Tryz.prog 58 = some 2 := by kernel_rfl
theorem rVals {g : Nat} : RdX encH w (g + 3) 23 (fun l : List V => [lV l]) (fun l => ∀ v ∈ l, 0 ≤ v.f ∧ v.f ≤ 255) := rdp_list (e := 58) Tryz.underlying23 cVal zVal0 (by decide) (fun _ => rfl) rVal
end
end Go.Proofs.YtmefgijobonklaaGreat
namespace Tw
open Go
def renT (g : Nat → Option Nat) : TV → Option TV
 | .ptr b o l => (g b).map fun b => .ptr b o l
 | .slc b o n c z e => (g b).map fun b => .slc b o n c z e
 | .map r => (g r).map .map
 | .yld _ => none
 | .fn f a c => match renTs g a, renTs g c with
  | some a, some c => some (.fn f a c)
  | _, _ => none
 | .agg cs => (renTs g cs).map .agg
 | .tup cs => (renTs g cs).map .tup
 | .bool b => some (.bool b)
 | .int k n => some (.int k n)
 | .str s => some (.str s)
 | .nil k => some (.nil k)
where
 renTs (g : Nat → Option Nat) : List TV → Option (List TV)
 | [] => some []
 | c :: cs => match renT g c, renTs g cs with
  | some v, some vs => some (v :: vs)
  | _, _ => none
theorem renTs_at {g : Nat → Option Nat} : ∀ {az as' : List TV}, renT.renTs g az = some as' → az.length = as'.length ∧ ∀ (i : Nat) c', as'[i]? = some c' → ∃ c, az[i]? = some c ∧ renT g c = some c'
 | [], as', h => by cases h; exact ⟨rfl, fun i c h => by simp at h⟩
 | a :: az, as', h => by
  simp only [renT.renTs] at h
  split at h
  ·rename_i v vs e1 e2
   cases h
   obtain ⟨h1, h2⟩ := renTs_at e2
   refine ⟨by simp [h1], fun i c' hi => ?_⟩
   cases i with
   | zero => simp at hi; subst hi; exact ⟨a, rfl, e1⟩
   | succ i => exact h2 i c' (by simpa using hi)
  ·cases h
section
variable {g : Nat → Option Nat} {N N' : Np}
theorem renT_ok (hg : ∀ b b', g b = some b' → N' b' = N b) {v : TV} {x : Value} (h : VR N v x) : ∀ {v'}, renT g v = some v' → VR N' v' x := by
 have lst : ∀ {az : List TV} {xs : List Value}, az.length = xs.length → (∀ (i : Nat) (c : TV) (v : Value), az[i]? = some c → xs[i]? = some v → ∀ {v'}, renT g c = some v' → VR N' v' v) → ∀ {as'}, renT.renTs g az = some as' → as'.length = xs.length ∧ ∀ (i : Nat) (c : TV) (v : Value), as'[i]? = some c → xs[i]? = some v → VR N' c v := by
  intro az xs hl ha as' hr
  obtain ⟨h1, h2⟩ := renTs_at hr
  exact ⟨by rw [← h1, hl], fun i c v e1 e2 => by obtain ⟨c0, f1, f2⟩ := h2 i c e1; exact ha i c0 v f1 e2 f2⟩
 induction h with
 | bool b => intro v' h; cases h; exact .bool b
 | int k n => intro v' h; cases h; exact .int k n
 | str s => intro v' h; cases h; exact .str s
 | nptr => intro v' h; cases h; exact .nptr
 | nslc => intro v' h; cases h; exact .nslc
 | nmap => intro v' h; cases h; exact .nmap
 | nfn => intro v' h; cases h; exact .nfn
 | nifc => intro v' h; cases h; exact .nifc
 | ptr hb hp h ht =>
  intro v' hr
  simp only [renT, Option.map_eq_some_iff] at hr
  obtain ⟨b', e, rfl⟩ := hr
  exact .ptr (by rw [hg _ _ e]; exact hb) hp h ht
 | slc hb hp h hl hc hx ha hk =>
  intro v' hr
  simp only [renT, Option.map_eq_some_iff] at hr
  obtain ⟨b', e, rfl⟩ := hr
  exact .slc (by rw [hg _ _ e]; exact hb) hp h hl hc hx ha hk
 | map h =>
  intro v' hr
  simp only [renT, Option.map_eq_some_iff] at hr
  obtain ⟨b', e, rfl⟩ := hr
  exact .map (by rw [hg _ _ e]; exact h)
 | yld h => intro v' hr; simp [renT] at hr
 | fn h1 h2 h3 h4 i2 i4 =>
  intro v' hr
  simp only [renT] at hr
  split at hr
  ·rename_i a c e1 e2
   cases hr
   obtain ⟨p1, p2⟩ := lst h1 i2 e1
   obtain ⟨q1, q2⟩ := lst h3 i4 e2
   exact .fn p1 p2 q1 q2
  ·cases hr
 | agg h1 h2 i2 =>
  intro v' hr
  simp only [renT, Option.map_eq_some_iff] at hr
  obtain ⟨a, e, rfl⟩ := hr
  obtain ⟨p1, p2⟩ := lst h1 i2 e
  exact .agg p1 p2
 | tup h1 h2 i2 =>
  intro v' hr
  simp only [renT, Option.map_eq_some_iff] at hr
  obtain ⟨a, e, rfl⟩ := hr
  obtain ⟨p1, p2⟩ := lst h1 i2 e
  exact .tup p1 p2
def renEs (g : Nat → Option Nat) : List (TV × TV) → Option (List (TV × TV))
 | [] => some []
 | (k, v) :: r => match renT g k, renT g v, renEs g r with
  | some k, some v, some r => some ((k, v) :: r)
  | _, _, _ => none
theorem renEs_at : ∀ {az as' : List (TV × TV)}, renEs g az = some as' → az.length = as'.length ∧ ∀ (i : Nat) c', as'[i]? = some c' → ∃ c, az[i]? = some c ∧ renT g c.1 = some c'.1 ∧ renT g c.2 = some c'.2
 | [], as', h => by cases h; exact ⟨rfl, fun i c h => by simp at h⟩
 | (k, v) :: az, as', h => by
  simp only [renEs] at h
  split at h
  ·rename_i k' v' vs e0 e1 e2
   cases h
   obtain ⟨h1, h2⟩ := renEs_at e2
   refine ⟨by simp [h1], fun i c' hi => ?_⟩
   cases i with
   | zero => simp at hi; subst hi; exact ⟨(k, v), rfl, e0, e1⟩
   | succ i => exact h2 i c' (by simpa using hi)
  ·cases h
def renHB (g : Nat → Option Nat) : HB → Option HB
 | .cells k cs => (renT.renTs g cs).map (.cells k)
 | .map es => (renEs g es).map .map
 | .mark => some .mark
 | .loop .. => none
theorem ren_oneT {v v' : TV} (h : renT g v = some v') : oneT v' = oneT v := by
 cases v <;> simp only [renT, Option.map_eq_some_iff, Option.some.injEq] at h
 all_goals first
  | (obtain ⟨b, _, rfl⟩ := h; rfl)
  | (subst h; rfl)
  | (split at h <;> cases h; rfl)
  | cases h
theorem renHB_ok (hg : ∀ b b', g b = some b' → N' b' = N b) {w : World} {b b' : HB} {l : Lc} (h : okBlk N w b l) (hr : renHB g b = some b') : okBlk N' w b' l := by
 cases b with
 | cells k cs =>
  cases l with
  | obj r => exact h.elim
  | cells ls =>
   simp only [renHB, Option.map_eq_some_iff] at hr
   obtain ⟨cs', e, rfl⟩ := hr
   obtain ⟨h1, h2⟩ := renTs_at e
   refine ⟨fun c hc => ?_, fun p hp => ?_, fun hk => by rw [← h1]; exact h.2.2.1 hk, fun hk => by rw [← h1]; exact h.2.2.2 hk⟩
   ·obtain ⟨i, hi⟩ := List.mem_iff_getElem?.1 hc
    obtain ⟨c0, f1, f2⟩ := h2 i c hi
    rw [ren_oneT f2]
    exact h.1 c0 (List.mem_of_getElem? f1)
   ·obtain ⟨⟨arr, ty, fz, a1, a2, a3, a4⟩, b1, b2, b3⟩ := h.2.1 p hp
    exact ⟨⟨arr, ty, fz, a1, a2, a3, fun hk i c v hi hc hv => by obtain ⟨c0, f1, f2⟩ := h2 i c hc; exact renT_ok hg (a4 (by rw [h1]; exact hk) i c0 v hi f1 hv) f2⟩, b1, by rw [← h1]; exact b2, b3⟩
 | map es =>
  cases l with
  | cells ls => exact h.elim
  | obj r =>
   simp only [renHB, Option.map_eq_some_iff] at hr
   obtain ⟨es', e, rfl⟩ := hr
   obtain ⟨h1, h2⟩ := renEs_at e
   obtain ⟨xs, ck, a1, a2, a3⟩ := h
   exact ⟨xs, ck, a1, by rw [← h1]; exact a2, fun i c x hc hx => by obtain ⟨c0, f1, f2, f3⟩ := h2 i c hc; exact ⟨renT_ok hg (a3 i c0 x f1 hx).1 f2, renT_ok hg (a3 i c0 x f1 hx).2 f3⟩⟩
 | mark => simp only [renHB, Option.some.injEq] at hr; subst hr; cases l <;> exact h
 | loop => simp [renHB] at hr
theorem ren_wr {b b' : HB} (h : renHB g b = some b') : wr b' = wr b := by
 cases b with
 | cells k cs => simp only [renHB, Option.map_eq_some_iff] at h; obtain ⟨_, _, rfl⟩ := h; cases k <;> rfl
 | map es => simp only [renHB, Option.map_eq_some_iff] at h; obtain ⟨_, _, rfl⟩ := h; rfl
 | mark => simp only [renHB, Option.some.injEq] at h; subst h; rfl
 | loop => simp [renHB] at h
end
def posF : List Nat → Nat → Option Nat
 | [], _ => none
 | a :: l, i => match Nat.beq a i with
  | true => some 0
  | false => (posF l i).map (· + 1)
theorem posF_at : ∀ {l : List Nat} {i p : Nat}, posF l i = some p → l[p]? = some i
 | [], i, p, h => by cases h
 | a :: l, i, p, h => by
  simp only [posF] at h
  split at h
  ·rename_i e; cases h; rw [Nat.eq_of_beq_eq_true e]; rfl
  ·simp only [Option.map_eq_some_iff] at h
   obtain ⟨q, e, rfl⟩ := h
   rw [List.getElem?_cons_succ]; exact posF_at e
def renG (fl : Nat) (keep : List Nat) (b : Nat) : Option Nat := match Nat.blt b fl with
 | true => some b
 | false => (posF keep b).map (· + fl)
def pickG (g : Nat → Option Nat) (h : List HB) : List Nat → Option (List HB)
 | [] => some []
 | b :: l => match h[b]? with
  | some x => match renHB g x, pickG g h l with
   | some y, some r => some (y :: r)
   | _, _ => none
  | none => none
theorem pickG_at {g : Nat → Option Nat} {h : List HB} : ∀ {l : List Nat} {bs : List HB}, pickG g h l = some bs → l.length = bs.length ∧ ∀ (i : Nat) y, bs[i]? = some y → ∃ c x, l[i]? = some c ∧ h[c]? = some x ∧ renHB g x = some y
 | [], bs, e => by cases e; exact ⟨rfl, fun i y h => by simp at h⟩
 | b :: l, bs, e => by
  simp only [pickG] at e
  split at e
  ·rename_i x hx
   split at e
   ·rename_i y r e1 e2
    cases e
    obtain ⟨h1, h2⟩ := pickG_at e2
    refine ⟨by simp [h1], fun i y' hi => ?_⟩
    cases i with
    | zero => simp at hi; subst hi; exact ⟨b, x, rfl, hx, e1⟩
    | succ i => exact h2 i y' (by simpa using hi)
   ·cases e
  ·cases e
theorem CallR.gc {M : Mp} {h h' bs : List HB} {w w' : World} {v v' : TV} {y : Value} {keep : List Nat} (hV : Valid M allK (ctH h) w) (hl : ∀ k, M (.l k) = none) (hR : CallR M h w v h' [] y w') (hn : keep.Nodup) (hk : ∀ b ∈ keep, h.length ≤ b) (hv : renT (renG h.length keep) v = some v') (hb : pickG (renG h.length keep) h' keep = some bs) : CallR M h w v' (h ++ bs) [] y w' := by
 obtain ⟨M', hV', hl', hX, hv'⟩ := hR
 have hdom : ∀ b l, M (.h b) = some l → b < h.length := fun b l hb => by
  have := hV.has hb
  simp only [ctH, St.get] at this
  rcases Nat.lt_or_ge b h.length with h1 | h1
  ·exact h1
  ·rw [List.getElem?_eq_none h1] at this; simp at this
 have hold : ∀ b, b < h.length → M' (.h b) = M (.h b) := fun b hb => hX.keepM (.h b) (.inl (by simp [ctH, St.get, hb])) (by simp)
 have hoc : ∀ b, b < h.length → ctH h' (.h b) = ctH h (.h b) := fun b hb => hX.keep (.h b) (by simp [ctH, St.get, hb]) (by simp)
 obtain ⟨p1, p2⟩ := pickG_at hb
 let κ : Nat → Option Nat := fun b => if b < h.length then some b else keep[b - h.length]?
 let M2 : Mp := fun k => match k with
  | .l _ => none
  | .h b => match κ b with
   | some c => M' (.h c)
   | none => none
 have hκ : ∀ b c, κ b = some c → M2 (.h b) = M' (.h c) := fun b c e => by show (match κ b with | some c => M' (.h c) | none => none) = _; rw [e]
 have hκn : ∀ b, κ b = none → M2 (.h b) = none := fun b e => by show (match κ b with | some c => M' (.h c) | none => none) = _; rw [e]
 have hM2 : ∀ b l, M2 (.h b) = some l → ∃ c, κ b = some c ∧ M' (.h c) = some l := fun b l e => by
  cases e2 : κ b with
  | none => rw [hκn b e2] at e; cases e
  | some c => rw [hκ b c e2] at e; exact ⟨c, rfl, e⟩
 have klt : ∀ b, b < h.length → κ b = some b := fun b hb => by simp only [κ, if_pos hb]
 have kge : ∀ b, ¬ b < h.length → κ b = keep[b - h.length]? := fun b hb => by simp only [κ, if_neg hb]
 have hg : ∀ b b', renG h.length keep b = some b' → M2.h b' = M'.h b := fun b b' e => by
  unfold renG at e
  split at e
  ·rename_i hlt
   have hlt : b < h.length := Nat.le_of_ble_eq_true hlt
   cases e
   exact hκ _ _ (klt b hlt)
  ·simp only [Option.map_eq_some_iff] at e
   obtain ⟨p, e1, rfl⟩ := e
   exact hκ _ _ (by rw [kge _ (by omega), Nat.add_sub_cancel]; exact posF_at e1)
 have hle : Mle M.h M2.h := fun b l e => ⟨l, by show M2 (.h b) = some l; rw [hκ b b (klt b (hdom b l e)), hold b (hdom b l e)]; exact e, .refl l⟩
 have hfr : ∀ c, c < w.heap.size → w'.heap[c]? = w.heap[c]? := fun c hc => hX.frame c hc (by simp)
 have hC : ∀ b, b < h.length → ctH (h ++ bs) (.h b) = ctH h (.h b) := fun b hb => by simp only [ctH, St.get]; rw [List.getElem?_append_left hb]
 have hC2 : ∀ b, ¬ b < h.length → ctH (h ++ bs) (.h b) = bs[b - h.length]? := fun b hb => by simp only [ctH, St.get]; rw [List.getElem?_append_right (by omega)]
 refine ⟨M2, ⟨fun k l hk2 _ => ?_, fun k k' l l' b hne h1 h2 _ hc hw => ?_, fun k l hk2 => ?_⟩, fun _ => rfl, ⟨fun k l e => ?_, fun c hc _ => hfr c hc, fun k hs _ => ?_, fun k hs _ => ?_, fun k l e c hc hs => ?_, hX.size, fun k hs => ?_, by simp, by simp, hX.os, hX.output, hX.tape⟩, renT_ok hg hv' hv⟩
 ·cases k with
  | l k => cases hk2
  | h b =>
   obtain ⟨c, e1, e2⟩ := hM2 b l hk2
   by_cases hb2 : b < h.length
   ·have := klt b hb2
    rw [this] at e1; cases e1
    rw [hold b hb2] at e2
    obtain ⟨x, f1, f2⟩ := hV.ok _ l e2 trivial
    exact ⟨x, by rw [hC b hb2]; exact f1, f2.mono hle fun c hc => hfr c (hV.inb _ l e2 c hc)⟩
   ·rw [kge b hb2] at e1
    have hlt : b - h.length < bs.length := by rw [← p1]; exact (List.getElem?_eq_some_iff.1 e1).1
    obtain ⟨c', x, f1, f2, f3⟩ := p2 _ _ (List.getElem?_eq_getElem hlt)
    rw [e1] at f1; cases f1
    obtain ⟨x', g1, g2⟩ := hV'.ok _ l e2 trivial
    have g1 : h'[c]? = some x' := g1
    rw [f2] at g1; cases g1
    exact ⟨_, by rw [hC2 b hb2]; exact List.getElem?_eq_getElem hlt, renHB_ok hg g2 f3⟩
 ·cases k with
  | l k => cases h1
  | h b1 =>
   cases k' with
   | l k => cases h2
   | h b2 =>
    obtain ⟨c1, e1, e2⟩ := hM2 b1 l h1
    obtain ⟨c2, e3, e4⟩ := hM2 b2 l' h2
    have hcc : c1 ≠ c2 := fun e => by
     subst e
     by_cases q1 : b1 < h.length <;> by_cases q2 : b2 < h.length
     ·rw [klt _ q1] at e1; rw [klt _ q2] at e3; cases e1; cases e3; exact hne rfl
     ·rw [klt _ q1] at e1; rw [kge _ q2] at e3; cases e1; have := hk _ (List.mem_of_getElem? e3); omega
     ·rw [kge _ q1] at e1; rw [klt _ q2] at e3; cases e3; have := hk _ (List.mem_of_getElem? e1); omega
     ·rw [kge _ q1] at e1; rw [kge _ q2] at e3
      have i1 := (List.getElem?_eq_some_iff.1 e1)
      have i2 := (List.getElem?_eq_some_iff.1 e3)
      have := (List.getElem_inj hn (h₀ := i1.1) (h₁ := i2.1)).1 (i1.2.trans i2.2.symm)
      exact hne (by rw [show b1 = b2 by omega])
    obtain ⟨x, g1, g2⟩ : ∃ x, ctH h' (.h c1) = some x ∧ wr x = true := by
     by_cases q1 : b1 < h.length
     ·rw [klt _ q1] at e1; cases e1
      exact ⟨b, by rw [hoc _ q1, ← hC _ q1]; exact hc, hw⟩
     ·rw [hC2 _ q1] at hc
      obtain ⟨c', x, f1, f2, f3⟩ := p2 _ _ hc
      rw [kge _ q1, f1] at e1; cases e1
      exact ⟨x, f2, by rw [← ren_wr f3]; exact hw⟩
    exact hV'.own (.h c1) (.h c2) l l' x (fun e => hcc (by cases e; rfl)) e2 e4 trivial g1 g2
 ·cases k with
  | l k => cases hk2
  | h b => obtain ⟨c, e1, e2⟩ := hM2 b l hk2; exact hV'.inb _ l e2
 ·cases k with
  | l k => rw [hl k] at e; cases e
  | h b => exact hle b l e
 ·cases k with
  | l k => simp [ctH, St.get] at hs
  | h b =>
   refine hC b ?_
   simp only [ctH, St.get] at hs
   rcases Nat.lt_or_ge b h.length with h1 | h1
   ·exact h1
   ·rw [List.getElem?_eq_none h1] at hs; simp at hs
 ·cases k with
  | l k => rw [hl k]
  | h b =>
   by_cases hb2 : b < h.length
   ·rw [hκ b b (klt b hb2), hold b hb2]
   ·have h1 : M (.h b) = none := by
     cases e : M (.h b) with
     | none => rfl
     | some l => exact absurd (hdom b l e) hb2
    rw [h1]
    refine hκn b ?_
    rw [kge b hb2]
    rcases hs with hs | hs
    ·simp only [ctH, St.get] at hs
     rw [List.getElem?_eq_none (by omega)] at hs
     simp at hs
    ·rw [hC2 b hb2] at hs
     rw [List.getElem?_eq_none_iff] at hs ⊢
     omega
 ·cases k with
  | l k => cases e
  | h b =>
   obtain ⟨c', e1, e2⟩ := hM2 b l e
   obtain ⟨l0, f1, f2⟩ := hX.fresh _ l e2 c hc hs
   have := hdom _ _ f1
   by_cases hb2 : b < h.length
   ·rw [klt b hb2] at e1; cases e1; exact ⟨l0, f1, f2⟩
   ·rw [kge b hb2] at e1
    have := hk _ (List.mem_of_getElem? e1)
    omega
 ·cases k with
  | l k => simp [ctH, St.get] at hs
  | h b =>
   simp only [ctH, St.get] at hs ⊢
   rcases Nat.lt_or_ge b h.length with h1 | h1
   ·simp [List.getElem?_append_left h1, h1]
   ·rw [List.getElem?_eq_none h1] at hs; simp at hs
def refT : TV → List Nat → List Nat
 | .ptr b _ _, l => b :: l
 | .slc b _ _ _ _ _, l => b :: l
 | .map b, l => b :: l
 | .fn _ a c, l => refTs a (refTs c l)
 | .agg cs, l => refTs cs l
 | .tup cs, l => refTs cs l
 | _, l => l
where
 refTs : List TV → List Nat → List Nat
 | [], l => l
 | c :: cs, l => refT c (refTs cs l)
def refH : Option HB → List Nat → List Nat
 | some (.cells _ cs), l => refT.refTs cs l
 | some (.map es), l => refEs es l
 | _, l => l
where
 refEs : List (TV × TV) → List Nat → List Nat
 | [], l => l
 | e :: es, l => refT e.1 (refT e.2 (refEs es l))
def memF (b : Nat) : List Nat → Bool
 | [] => false
 | a :: l => match Nat.beq a b with
  | true => true
  | false => memF b l
theorem memF_no : ∀ {l : List Nat} {b : Nat}, memF b l = false → b ∉ l
 | [], b, _ => by simp
 | a :: l, b, h => by
  simp only [memF] at h
  split at h
  ·cases h
  ·rename_i e
   rw [List.mem_cons]
   rintro (rfl | h2)
   ·rw [Nat.beq_refl] at e; cases e
   ·exact memF_no h h2
def reachF (h : List HB) (fl : Nat) : Nat → List Nat → List Nat → List Nat
 | 0, _, acc => acc
 | _ + 1, [], acc => acc
 | n + 1, b :: t, acc => match Nat.blt b fl || memF b acc with
  | true => reachF h fl n t acc
  | false => reachF h fl n (refH h[b]? t) (b :: acc)
theorem reachF_ok {h : List HB} {fl : Nat} : ∀ (n : Nat) (t acc : List Nat), acc.Nodup → (∀ b ∈ acc, fl ≤ b) → (reachF h fl n t acc).Nodup ∧ ∀ b ∈ reachF h fl n t acc, fl ≤ b
 | 0, _, _, h1, h2 => ⟨h1, h2⟩
 | _ + 1, [], _, h1, h2 => ⟨h1, h2⟩
 | n + 1, b :: t, acc, h1, h2 => by
  simp only [reachF]
  split
  ·exact reachF_ok n t acc h1 h2
  ·rename_i e
   simp only [Bool.or_eq_false_iff] at e
   have e1 : fl ≤ b := by
    rcases Nat.lt_or_ge b fl with h3 | h3
    ·rw [show Nat.blt b fl = true from Nat.ble_eq_true_of_le h3] at e; cases e.1
    ·exact h3
   exact reachF_ok n _ _ (List.nodup_cons.2 ⟨memF_no e.2, h1⟩) fun c hc => by
    rcases List.mem_cons.1 hc with rfl | hc
    ·exact e1
    ·exact h2 c hc
def gcR (h : List HB) : Option (TV × List HB × List Nat) → Option (TV × List HB × List Nat)
 | some (v, h', []) => match reachF h' h.length 5000 (refT v []) [] with
  | keep => match renT (renG h.length keep) v, pickG (renG h.length keep) h' keep with
   | some v', some [] => some (v', h, [])
   | some v', some bs => some (v', h ++ bs, [])
   | _, _ => some (v, h', [])
 | r => r
theorem gcR_ok {P : Program} {M : Mp} {h h2 : List HB} {w : World} {v2 : TV} {ws2 : List Nat} {r : Option (TV × List HB × List Nat)} (hV : Valid M allK (ctH h) w) (hl : ∀ k, M (.l k) = none) (hr : gcR h r = some (v2, h2, ws2)) : ∃ v h' ws, r = some (v, h', ws) ∧ ∀ y w', CallR M h w v h' ws y w' → CallR M h w v2 h2 ws2 y w' := by
 unfold gcR at hr
 split at hr
 ·rename_i v h'
  refine ⟨v, h', [], rfl, fun y w' hR => ?_⟩
  simp only at hr
  obtain ⟨k1, k2⟩ := reachF_ok (h := h') (fl := h.length) 5000 (refT v []) [] .nil (by simp)
  split at hr
  ·rename_i v' e1 e2
   cases hr
   have := hR.gc hV hl k1 k2 e1 e2
   rw [List.append_nil] at this
   exact this
  ·rename_i v' bs _ e1 e2
   cases hr
   exact hR.gc hV hl k1 k2 e1 e2
  ·cases hr; exact hR
 ·exact ⟨v2, h2, ws2, hr, fun _ _ h => h⟩
end Tw
namespace Tw
open Go
noncomputable section
def lookF (t : Nat) (env : List (Nat × EV)) : Option EV := List.rec (motive := fun _ => Option EV) none (fun p _ ih => Bool.rec (motive := fun _ => Option EV) ih (some p.2) (Nat.beq p.1 t)) env
theorem lookF_eq (t : Nat) : ∀ env, lookF t env = lookE t env
 | [] => rfl
 | (k, v) :: r => by
  show Bool.rec (motive := fun _ => Option EV) (lookF t r) (some v) (Nat.beq k t) = if k = t then some v else lookE t r
  rw [lookF_eq t r]
  by_cases h : k = t
  ·subst h; rw [if_pos rfl, show Nat.beq k k = true from Nat.beq_refl k]
  ·rw [if_neg h, show Nat.beq k t = false from by cases e : Nat.beq k t with | false => rfl | true => exact absurd (Nat.eq_of_beq_eq_true e) h]
def pickF (live : List Nat) (env : List (Nat × EV)) : List (Nat × EV) := List.rec (motive := fun _ => List (Nat × EV)) [] (fun t _ ih => Option.rec (motive := fun _ => List (Nat × EV)) ih (fun v => (t, v) :: ih) (lookF t env)) live
theorem pickF_eq (env : List (Nat × EV)) : ∀ live, pickF live env = pick live env
 | [] => rfl
 | t :: r => by
  show Option.rec (motive := fun _ => List (Nat × EV)) (pickF r env) (fun v => (t, v) :: pickF r env) (lookF t env) = _
  rw [lookF_eq, pickF_eq env r]
  rw [show pick (t :: r) env = match lookE t env with | some v => (t, v) :: pick r env | none => pick r env from rfl]
  cases lookE t env <;> rfl
def evF (env : List (Nat × EV)) (x : Operand) : Option EV := match x with
 | .tmp t => lookF t env
 | .const v => (TV.ofV v).map .val
 | .func f => some (.val (.fn f [] []))
 | .global _ => none
theorem evF_eq : evF = evO := by funext env x; cases x <;> first | exact lookF_eq _ _ | rfl
def tvF (env : List (Nat × EV)) (x : Operand) : Option TV :=
 match evF env x with
 | some (.val v) => some v
 | _ => none
theorem tvF_eq : tvF = tvO := by funext env x; unfold tvF tvO; rw [evF_eq]; rfl
def tvFs (env : List (Nat × EV)) : List Operand → Option (List TV)
 | [] => some []
 | x :: xs => match tvF env x, tvFs env xs with
  | some v, some vs => some (v :: vs)
  | _, _ => none
theorem tvFs_eq (env : List (Nat × EV)) : ∀ xs, tvFs env xs = tvOs env xs
 | [] => rfl
 | x :: xs => by unfold tvFs tvOs; rw [tvF_eq, tvFs_eq env xs]; rfl
def tvPF (env : List (Nat × EV)) : List (Nat × Operand) → Option (List (Nat × TV))
 | [] => some []
 | (i, x) :: xs => match tvF env x, tvPF env xs with
  | some v, some vs => some ((i, v) :: vs)
  | _, _ => none
theorem tvPF_eq (env : List (Nat × EV)) : ∀ xs, tvPF env xs = tvPs env xs
 | [] => rfl
 | (i, x) :: xs => by unfold tvPF tvPs; rw [tvF_eq, tvPF_eq env xs]; rfl
def wantF (ops : Array Oper) (env : List (Nat × EV)) (o : Oper) : Option Bool :=
 match o.guard with
 | none => some true
 | some (j, want) => match (ops[j]?).bind (·.dst) with
  | some d => match lookF d env with
   | some (.val (.bool b)) => some (b == want)
   | some .undef => some false
   | _ => none
  | none => none
theorem wantF_eq (ops : Array Oper) (env : List (Nat × EV)) (o : Oper) : wantF ops env o = wantT ops env o := by
 unfold wantF wantT
 simp only [lookF_eq]
 rfl
def atHeadF (live : List Nat) (s : St) : St :=
 let env := pickF live s.env
 { s with env := env, loc := s.loc.take (topL env) }
theorem atHeadF_eq : atHeadF = atHead := by
 funext live s
 simp only [atHeadF, atHead, pickF_eq]
def optF (env : List (Nat × EV)) : Option Operand → Option (Option TV)
 | none => some none
 | some x => match tvF env x with
  | some v => some (some v)
  | none => none
theorem optF_eq (env : List (Nat × EV)) (x : Option Operand) : optF env x = optT env x := by cases x <;> simp only [optF, optT, tvF_eq] <;> rfl
section
variable (P : Program) (call : CallT) (site : Nat → Bool) (s : St)
abbrev RO1 := Option (EV × St × Inf)
def fMove (x : Operand) : RO1 := (evF s.env x).map fun v => (v, s, noInf)
def fPick (c a b : Operand) : RO1 := match tvF s.env c with
  | some (.bool t) => (evF s.env (if t then a else b)).map fun v => (v, s, noInf)
  | _ => none
def fAlloc (d : Nat) (e : TypeId) : RO1 := (zeroT P e).map fun z => let (v, s) := newBox (site d) s z; (v, s, noInf)
def fBox (d : Nat) (x : Operand) : RO1 := match tvF s.env x with
  | some v => if v.cells.all oneT then let (v, s) := newBox (site d) s v.cells; some (v, s, noInf) else none
  | none => none
def fBuild (t : TypeId) (ps : Array (Nat × Operand)) : RO1 := match tvPF s.env ps.toList with
  | some ps => (buildT P t ps).map fun v => (.val v, s, noInf)
  | none => none
def fBuildSlice (t : TypeId) (len : Nat) (ps : Array (Nat × Operand)) : RO1 := match tvPF s.env ps.toList with
  | some ps => (buildSliceT P t len s ps).map fun (v, s) => (.val v, s, noInf)
  | none => none
def fLoad (t : TypeId) (a : Operand) : RO1 := match evF s.env a with
  | some a => (loadT P t s a).map fun (v, i) => (.val v, s, i)
  | none => none
def fStore (t : TypeId) (a x : Operand) : RO1 := match evF s.env a, tvF s.env x with
  | some a, some v => (storeT P t s a v).map fun (s, i) => (.undef, s, i)
  | _, _ => none
def fNil (x : Operand) : RO1 := match evF s.env x with
  | some (.loc k o) => some (.loc k o, s, noInf)
  | some (.val (.ptr b o lim)) => some (.val (.ptr b o lim), s, noInf)
  | some (.val (.fn f a b)) => some (.val (.fn f a b), s, noInf)
  | some (.val (.yld l)) => some (.val (.yld l), s, noInf)
  | _ => none
def fBin (op : BinOp) (t : TypeId) (x y : Operand) : RO1 := match tvF s.env x, tvF s.env y with
  | some a, some b => (binT P op t x y a b).map fun v => (.val v, s, noInf)
  | _, _ => none
def fUn (op : UnOp) (x : Operand) : RO1 := match tvF s.env x with
  | some a => (unT P op a).map fun v => (.val v, s, noInf)
  | none => none
def fConv (src dst : TypeId) (x : Operand) : RO1 := match tvF s.env x with
  | some a => (convT P src dst a).map fun v => (.val v, s, noInf)
  | none => none
def fMakeFunc (f : FuncId) (first cap : Array Operand) : RO1 := match tvFs s.env first.toList, tvFs s.env cap.toList with
  | some a, some b => some (.val (.fn f a b), s, noInf)
  | _, _ => none
def fMakeMap (t : TypeId) (r : Option Operand) : RO1 := match optF s.env r, P.underlying t with
  | some none, _ => some (.val (.map s.heap.length), { s with heap := s.heap ++ [.map []] }, noInf)
  | some (some (.int _ _)), some (.map _ _) => some (.val (.map s.heap.length), { s with heap := s.heap ++ [.map []] }, noInf)
  | _, _ => none
def fMakeSlice (t : TypeId) (l c : Operand) : RO1 := match tvF s.env l, tvF s.env c with
  | some l, some c => (makeSliceT P t s l c).map fun (v, s) => (.val v, s, noInf)
  | _, _ => none
def fSlice (t : TypeId) (x : Operand) (lo hi mx : Option Operand) : RO1 := match evF s.env x, optF s.env lo, optF s.env hi, optF s.env mx with
  | some x, some lo, some hi, some mx => match P.underlying t, x with
   | some (.array _ _), x => (sliceArrT P t x lo hi mx).map fun v => (.val v, s, noInf)
   | _, .val x => (sliceT P t x lo hi mx).map fun v => (.val v, s, noInf)
   | _, _ => none
  | _, _, _, _ => none
def fFieldAddr (t : TypeId) (x : Operand) (f : Nat) : RO1 := match evF s.env x, fieldOff P t f with
  | some a, some n => (offT n a).map fun v => (v, s, noInf)
  | _, _ => none
def fField (t : TypeId) (x : Operand) (f : Nat) : RO1 := match tvF s.env x with
  | some a => (fieldT P t a f).map fun v => (.val v, s, noInf)
  | none => none
def fIndexAddr (t : TypeId) (x i : Operand) : RO1 := match evF s.env x, tvF s.env i with
  | some a, some i => (indexAddrT P t a i).map fun v => (v, s, noInf)
  | _, _ => none
def fIndex (t : TypeId) (x i : Operand) : RO1 := match tvF s.env x, tvF s.env i with
  | some a, some i => (indexT P t a i).map fun v => (.val v, s, noInf)
  | _, _ => none
def fLookup (t : TypeId) (m k : Operand) (ok : Bool) : RO1 := match tvF s.env m, tvF s.env k with
  | some m, some k => (lookupT P t s.heap m k ok).map fun v => (.val v, s, rdKs (match m with | .map r => [.h r] | _ => []))
  | _, _ => none
def fUpd (t : TypeId) (m k x : Operand) : RO1 := match tvF s.env m, tvF s.env k, tvF s.env x with
  | some m, some k, some v => (updateT P t s m k v).map fun (s, i) => (.undef, s, i)
  | _, _, _ => none
def fExtract (t : Operand) (i : Nat) : RO1 := match tvF s.env t with
  | some (.tup vs) => (vs[i]?).map fun v => (.val v, s, noInf)
  | _ => none
def fCall (c : Call) (t : TypeId) : RO1 :=
 match c.callee, tvFs s.env c.args.toList with
 | .builtin b, some az => (builtinT P b c.argTypes t s az).map fun (v, s, i) => (.val v, s, i)
 | .value f, some az => match tvF s.env f with
  | some fv => match call fv az s.heap with
   | some (v, h, ws) => some (.val v, { s with heap := h }, ⟨true, [], ws.map .h⟩)
   | none => none
  | none => none
 | _, _ => none
def opF (o : Oper) : RO1 :=
 match o.op with
 | .move x | .assign x => fMove s x
 | .pick c a b => fPick s c a b
 | .alloc e => fAlloc P site s (o.dst.getD 0) e
 | .box _ x => fBox site s (o.dst.getD 0) x
 | .build t ps => fBuild P s t ps
 | .buildSlice t len ps => fBuildSlice P s t len ps
 | .load t a => fLoad P s t a
 | .store t a x => fStore P s t a x
 | .nilCheck x => fNil s x
 | .binOp op t x y _ => fBin P s op t x y
 | .unOp op _ x => fUn P s op x
 | .convert src dst x => fConv P s src dst x
 | .makeFunc (.func f) first cap => fMakeFunc s f first cap
 | .makeMap t r => fMakeMap P s t r
 | .makeSlice t l c => fMakeSlice P s t l c
 | .slice t x lo hi mx => fSlice P s t x lo hi mx
 | .fieldAddr t x f => fFieldAddr P s t x f
 | .field t x f => fField P s t x f
 | .indexAddr t x i => fIndexAddr P s t x i
 | .index t x i => fIndex P s t x i
 | .lookup t m k ok => fLookup P s t m k ok
 | .mapUpdate t m k x | .insert t m k x => fUpd P s t m k x
 | .extract t i => fExtract s t i
 | .call c => fCall P call s c o.type
 | _ => none
theorem opF_eq (o : Oper) : opF P call site s o = opT P call site s o := by
 unfold opF opT
 cases o.op <;> simp only [fMove, fPick, fAlloc, fBox, fBuild, fBuildSlice, fLoad, fStore, fNil, fBin, fUn, fConv, fMakeMap, fMakeSlice, fSlice, fFieldAddr, fField, fIndexAddr, fIndex, fLookup, fUpd, fExtract, fCall, callT, evF_eq, tvF_eq, tvFs_eq, tvPF_eq, optF_eq] <;> try rfl
 case makeFunc f first cap => cases f <;> simp only [fMakeFunc, tvFs_eq] <;> rfl
def tbF (A k : Nat) : Bool := Nat.beq (Nat.mod (Nat.shiftRight A k) 2) 1
theorem tbF_eq (A k : Nat) : tbF A k = A.testBit k := by
 unfold tbF
 rw [Nat.testBit_eq_decide_div_mod_eq, show Nat.mod (Nat.shiftRight A k) 2 = A / 2 ^ k % 2 from by show (A >>> k) % 2 = _; rw [Nat.shiftRight_eq_div_pow]]
 rw [Bool.eq_iff_iff]
 simp [Nat.beq_eq]
def mskE (W A on l : Nat) : Nat := Nat.lor l (Nat.lor (Nat.shiftLeft 1 on) (Nat.mod (Nat.shiftRight A (on * W)) (2 ^ W)))
def mskL (W A : Nat) : List Edge → Nat → Nat
 | [], l => l
 | e :: es, l => match Region.binds .any e with
  | true => mskL W A es (mskE W A e.on l)
  | false => mskL W A es l
def mskS (W : Nat) : List Oper → Nat → Nat → Nat
 | [], _, A => A
 | o :: os, j, A => mskS W os (j + 1) (Nat.lor A (Nat.shiftLeft (Nat.mod (mskL W A o.after.toList 0) (2 ^ W)) (j * W)))
theorem addNew_mem {x : Nat} : ∀ {xs l : List Nat}, (addNew xs l).contains x = (xs.contains x || l.contains x)
 | [], l => by simp [addNew]
 | y :: xs, l => by
  simp only [addNew]
  rw [addNew_mem]
  split
  ·rename_i h
   by_cases e : x = y
   ·subst e; rw [h]; simp
   ·simp [e]
  ·by_cases e : x = y
   ·subst e; simp
   ·simp [e]
def Acc (W A : Nat) (acc : List (List Nat)) : Prop := ∀ j i, i < W → A.testBit (j * W + i) = (acc.getD j []).contains i
theorem mskL_ok {W A : Nat} {acc : List (List Nat)} (h : Acc W A acc) : ∀ (es : List Edge) (l : Nat) (ps : List Nat), (∀ i, i < W → l.testBit i = ps.contains i) → ∀ i, i < W → (mskL W A es l).testBit i = (es.foldl (fun l e => if Region.binds .any e then addNew (e.on :: acc.getD e.on []) l else l) ps).contains i
 | [], l, ps, hl, i, hi => hl i hi
 | e :: es, l, ps, hl, i, hi => by
  simp only [mskL, List.foldl_cons]
  split
  ·rename_i hb
   rw [if_pos hb]
   refine mskL_ok h es _ _ (fun k hk => ?_) i hi
   rw [addNew_mem, ← hl k hk, List.contains_cons, ← h e.on k hk]
   show (l ||| (1 <<< e.on ||| (A >>> (e.on * W)) % 2 ^ W)).testBit k = _
   rw [Nat.testBit_or, Nat.testBit_or, Nat.testBit_shiftLeft, Nat.testBit_mod_two_pow, Nat.testBit_shiftRight, Bool.or_comm]
   simp only [hk, decide_true, Bool.true_and]
   congr 2
   by_cases e1 : k = e.on
   ·subst e1; simp
   ·rw [show (k == e.on) = false from by simpa using e1]
    by_cases h2 : k ≥ e.on
    ·obtain ⟨d, hd⟩ : ∃ d, k - e.on = d + 1 := ⟨k - e.on - 1, by omega⟩
     rw [hd, Nat.testBit_succ]
     simp
    ·simp [h2]
  ·rename_i hb
   rw [if_neg (by rw [hb]; simp)]
   exact mskL_ok h es _ _ hl i hi
theorem mskS_ok {W : Nat} : ∀ (os : List Oper) (j A : Nat) (acc : List (List Nat)), acc.length = j → Acc W A acc → Acc W (mskS W os j A) (preds os acc)
 | [], _, _, _, _, h => h
 | o :: os, j, A, acc, hj, h => by
  simp only [mskS, preds]
  refine mskS_ok os (j + 1) _ _ (by simp [hj]) fun j' i hi => ?_
  have hm := mskL_ok h o.after.toList 0 [] (fun i _ => by simp)
  show (A ||| ((mskL W A o.after.toList 0 % 2 ^ W) <<< (j * W))).testBit (j' * W + i) = _
  rw [Nat.testBit_or, h j' i hi, Nat.testBit_shiftLeft, Nat.testBit_mod_two_pow]
  rcases Nat.lt_trichotomy j' j with h1 | h1 | h1
  ·have : (j' + 1) * W ≤ j * W := Nat.mul_le_mul_right W h1
   rw [Nat.add_mul] at this
   rw [show decide (j' * W + i ≥ j * W) = false from by simp; omega]
   simp only [Bool.false_and, Bool.or_false]
   rw [List.getD, List.getD, List.getElem?_append_left (by omega)]
  ·subst h1
   rw [show j' * W + i - j' * W = i by omega, hm i hi]
   have e1 : acc.getD j' [] = [] := by rw [List.getD, List.getElem?_eq_none (by omega)]; rfl
   have e2 : (acc ++ [predOf acc o]).getD j' [] = predOf acc o := by rw [List.getD, ← hj, List.getElem?_concat_length]; rfl
   rw [e1, e2]
   simp [hi, predOf]
  ·have : (j + 1) * W ≤ j' * W := Nat.mul_le_mul_right W h1
   rw [Nat.add_mul] at this
   rw [show decide (j' * W + i - j * W < W) = false from by simp; omega]
   have e1 : acc.getD j' [] = [] := by rw [List.getD, List.getElem?_eq_none (by omega)]; rfl
   have e2 : (acc ++ [predOf acc o]).getD j' [] = [] := by rw [List.getD, List.getElem?_eq_none (by simp; omega)]; rfl
   rw [e1, e2]
   simp
def openF (ops : List Oper) : List (Nat × Nat) := match ops.length with
 | W => match mskS W ops 0 0 with
  | A => (List.range W).flatMap fun j => ((List.range j).filter fun i => !(tbF A (j * W + i))).map fun i => (i, j)
theorem openF_eq (ops : List Oper) : openF ops = openPairs ops := by
 have h := mskS_ok (W := ops.length) ops 0 0 [] rfl (fun j i _ => by simp)
 unfold openF openPairs
 simp only
 generalize mskS ops.length ops 0 0 = A at h
 have : ∀ j, j ∈ List.range ops.length → (((List.range j).filter fun i => !(tbF A (j * ops.length + i))).map fun i => (i, j)) = ((List.range j).filter fun i => !((preds ops []).getD j []).contains i).map fun i => (i, j) := fun j hj => by
  rw [List.mem_range] at hj
  congr 1
  refine List.filter_congr fun i hi => ?_
  rw [List.mem_range] at hi
  rw [tbF_eq, h j i (by omega)]
 rw [List.flatMap_def, List.flatMap_def, List.map_congr_left this]
def staticF (ops : List Oper) : Bool :=
 (ops.zipIdx.all fun (o, i) => o.after.all fun e => !Region.binds .any e || decide (e.on < i)) &&
 (openF ops).all fun (i, j) => match ops[i]?, ops[j]? with
  | some a, some b => a.apart ops.toArray b && b.apart ops.toArray a
  | _, _ => false
def hotF (ops : List Oper) : List (Nat × Nat) :=
 (openF ops).filter fun (i, j) => match ops[i]?, ops[j]? with
  | some a, some b => (mayW a.op && mayT b.op) || (mayT a.op && mayW b.op)
  | _, _ => false
theorem staticF_eq (ops : List Oper) : staticF ops = staticOk ops := by unfold staticF staticOk; rw [openF_eq]; rfl
theorem hotF_eq (ops : List Oper) : hotF ops = hotPairs ops := by unfold hotF hotPairs; rw [openF_eq]; rfl
abbrev Rx := Option (Ex × St)
def putF (dst : Option Nat) (v : EV) (env : List (Nat × EV)) (loc : List (List TV)) (heap : List HB) (ws : List Nat) : St := Option.rec (motive := fun _ => St) ⟨env, loc, heap, ws⟩ (fun d => ⟨(d, v) :: env, loc, heap, ws⟩) dst
abbrev KR := St → List Inf → Rx
abbrev IR := St → KR → Rx
def kCons (k : KR) (i : Inf) : KR := fun s is => k s (i :: is)
def rPut (fl : Nat) (ih : IR) (o : Oper) (s : St) (k : KR) (v : EV) (i : Inf) (s1 : St) : Rx := St.rec (motive := fun _ => Rx) (fun e l h _ => ih (putF o.dst v e l h (addKs fl i.ws s.ws)) (kCons k i)) s1
def rDo (P : Program) (call : CallT) (site : Nat → Bool) (fl : Nat) (ih : IR) (o : Oper) (s : St) (k : KR) : Rx := Option.rec (motive := fun _ => Rx) none (fun r => Prod.rec (motive := fun _ => Rx) (fun v p => Prod.rec (motive := fun _ => Rx) (fun s1 i => rPut fl ih o s k v i s1) p) r) (opF P call site s o)
def rNo (ih : IR) (o : Oper) (s : St) (k : KR) : Rx := ih (putF o.dst .undef s.env s.loc s.heap s.ws) (kCons k noInf)
def rGo (P : Program) (call : CallT) (site : Nat → Bool) (fl : Nat) (ops : Array Oper) (ih : IR) (o : Oper) (s : St) (k : KR) : Rx := Option.rec (motive := fun _ => Rx) none (fun b => Bool.rec (motive := fun _ => Rx) (rNo ih o s k) (rDo P call site fl ih o s k) b) (wantF ops s.env o)
def dstF (nt : Nat) (o : Oper) : Bool := Option.rec (motive := fun _ => Bool) true (fun d => Nat.ble (d + 1) nt) o.dst
theorem dstF_eq (nt : Nat) (o : Oper) : dstF nt o = dstOk nt o := by
 unfold dstF dstOk
 cases o.dst with
 | none => rfl
 | some d =>
  show Nat.ble (d + 1) nt = decide (d < nt)
  rw [Bool.eq_iff_iff]
  simp [Nat.lt_iff_add_one_le]
def rOne (P : Program) (call : CallT) (site : Nat → Bool) (fl nt : Nat) (ops : Array Oper) (o : Oper) (ih : IR) (s : St) (k : KR) : Rx := Bool.rec (motive := fun _ => Rx) none (rGo P call site fl ops ih o s k) (dstF nt o)
def rK (P : Program) (call : CallT) (site : Nat → Bool) (fl nt : Nat) (ops : Array Oper) (os : List Oper) : IR := List.rec (motive := fun _ => IR) (fun s k => k s []) (fun o _ ih => rOne P call site fl nt ops o ih) os
def andR (r : Option (St × List Inf)) (k : KR) : Rx := match r with
 | some (s, is) => k s is
 | none => none
theorem rK_eq (P : Program) (call : CallT) (site : Nat → Bool) (fl nt : Nat) (ops : Array Oper) : ∀ os s k, rK P call site fl nt ops os s k = andR (runOps P call site fl nt ops os s) k
 | [], _, _ => rfl
 | o :: os, s, k => by
  have ih := rK_eq P call site fl nt ops os
  show Bool.rec (motive := fun _ => Rx) none (Option.rec (motive := fun _ => Rx) none (fun b => Bool.rec (motive := fun _ => Rx) (rK P call site fl nt ops os (putF o.dst .undef s.env s.loc s.heap s.ws) (kCons k noInf)) (Option.rec (motive := fun _ => Rx) none (fun r => Prod.rec (motive := fun _ => Rx) (fun v p => Prod.rec (motive := fun _ => Rx) (fun s1 i => St.rec (motive := fun _ => Rx) (fun e l h _ => rK P call site fl nt ops os (putF o.dst v e l h (addKs fl i.ws s.ws)) (kCons k i)) s1) p) r) (opF P call site s o)) b) (wantF ops s.env o)) (dstF nt o) = _
  rw [dstF_eq, wantF_eq, opF_eq]
  unfold runOps
  cases dstOk nt o with
  | false => rfl
  | true =>
   cases wantT ops s.env o with
   | none => rfl
   | some b =>
    cases b with
    | false =>
     show rK _ _ _ _ _ _ _ _ _ = andR (match runOps P call site fl nt ops os (s.put o.dst .undef) with | some (s, is) => some (s, noInf :: is) | none => none) k
     rw [ih, show putF o.dst .undef s.env s.loc s.heap s.ws = s.put o.dst .undef by unfold putF St.put; cases o.dst <;> rfl]
     cases runOps P call site fl nt ops os (s.put o.dst .undef) <;> rfl
    | true =>
     cases opT P call site s o with
     | none => rfl
     | some r =>
      obtain ⟨v, s1, i⟩ := r
      show rK _ _ _ _ _ _ _ _ _ = andR (match runOps P call site fl nt ops os ({ s1 with ws := addKs fl i.ws s.ws }.put o.dst v) with | some (s, is) => some (s, i :: is) | none => none) k
      rw [ih, show putF o.dst v s1.env s1.loc s1.heap (addKs fl i.ws s.ws) = { s1 with ws := addKs fl i.ws s.ws }.put o.dst v by unfold putF St.put; cases o.dst <;> rfl]
      cases runOps P call site fl nt ops os ({ s1 with ws := addKs fl i.ws s.ws }.put o.dst v) <;> rfl
abbrev KX := Ex → St → Rx
abbrev IX := St → KX → Rx
def andX (r : Rx) (k : KX) : Rx := match r with
 | some (e, s) => k e s
 | none => none
def xSeq (ib : IX) (k : KX) : KX := fun e s => Ex.rec (motive := fun _ => Rx) (ib s k) (fun i => k (.exit i) s) (k .ret s) e
def xBlk (id : Nat) (k : KX) : KX := fun e s => Ex.rec (motive := fun _ => Rx) (k .norm s) (fun i => Bool.rec (motive := fun _ => Rx) (k (.exit i) s) (k .norm s) (Nat.beq i id)) (k .ret s) e
def xReg (T : Tab) (f id : Nat) (ops : Array Oper) (draw : Bool) (k : KX) : KR := fun s is => Bool.rec (motive := fun _ => Rx) none (k .norm ⟨pickF (T.liveAt f id) s.env, s.loc, s.heap, s.ws⟩) (!draw || (staticF ops.toList && dynOk is (hotF ops.toList)))
def xRegion (P : Program) (T : Tab) (call : CallT) (f : Nat) (rnd : Bool) (fl nt id : Nat) (ops : Array Oper) (draw : Bool) : IX := fun s k => rK P call (fun d => rnd || T.siteAt f d) fl nt ops ops.toList s (xReg T f id ops draw k)
def xCond (c : Operand) (ia ib : IX) : IX := fun s k => match tvF s.env c with
 | some (.bool b) => Bool.rec (motive := fun _ => Rx) (ib s k) (ia s k) b
 | _ => none
def xNext (ih : IX) (k : KX) : KX := fun e s => Ex.rec (motive := fun _ => Rx) (ih s k) (fun i => k (.exit i) s) (k .ret s) e
def xLoop (T : Tab) (L f : Nat) (b : Code) (ib : IX) : IX := Nat.rec (motive := fun _ => IX) (fun _ _ => none) (fun _ ih s k => ib (atHeadF (T.headAt f (headId b)) s) (xNext ih k)) L
def xRange (call : CallT) (f : Nat) (rnd : Bool) (fl nt : Nat) (g : Operand) (ps : Array Nat) (assign body : Code) : IX := fun s k => andX (match tvF s.env g with
  | some (.fn f1 a1 b1) =>
   if s.env.all isVal && !rnd then
    match call (.fn f1 a1 b1) [.yld (s.heap.length + 1)] (s.heap ++ [.mark, .loop true f nt s.env ps.toList assign body none]) with
    | some (_, h, ws) => match h[s.heap.length + 1]? with
     | some (.loop rd f2 nt2 e2 ps2 a2 b2 pend) => match jumpT rd pend with
      | some e => some (e, { s with heap := h.set (s.heap.length + 1) (.loop false f2 nt2 e2 ps2 a2 b2 (some .skip)), ws := addKs fl (ws.map .h) s.ws })
      | none => none
     | _ => none
    | none => none
   else none
  | _ => none) k
def xNone : IX := fun _ _ => none
def execK (P : Program) (T : Tab) (call : CallT) (L : Nat) (f : Nat) (rnd : Bool) (fl nt : Nat) : Code → IX
 | .skip => fun s k => k .norm s
 | .label _ => fun s k => k .norm s
 | .region id ops draw => xRegion P T call f rnd fl nt id ops draw
 | .seq a b => fun s k => execK P T call L f rnd fl nt a s (xSeq (execK P T call L f rnd fl nt b) k)
 | .cond c a b => xCond c (execK P T call L f rnd fl nt a) (execK P T call L f rnd fl nt b)
 | .block id b => fun s k => execK P T call L f rnd fl nt b s (xBlk id k)
 | .scope b => execK P T call L f rnd fl nt b
 | .loop b => xLoop T L f b (execK P T call L f rnd fl nt b)
 | .exit id => fun s k => k (.exit id) s
 | .ret => fun s k => k .ret s
 | .rangeFunc g ps assign body => xRange call f rnd fl nt g ps assign body
 | _ => xNone
theorem execK_eq (P : Program) (T : Tab) (call : CallT) (L : Nat) (f : Nat) (rnd : Bool) (fl nt : Nat) : ∀ c s k, execK P T call L f rnd fl nt c s k = andX (exec P T call L f rnd fl nt c s) k := by
 intro c
 induction c with
 | seq a b ia ib =>
  intro s k
  simp only [execK, exec, ia]
  cases exec P T call L f rnd fl nt a s with
  | none => rfl
  | some r =>
   obtain ⟨e, s1⟩ := r
   cases e with
   | norm => exact ib s1 k
   | exit i => rfl
   | ret => rfl
 | cond x a b ia ib =>
  intro s k
  simp only [execK, exec, xCond, tvF_eq]
  cases tvO s.env x with
  | none => rfl
  | some v =>
   cases v with
   | bool t =>
    cases t with
    | false => exact ib s k
    | true => exact ia s k
   | _ => rfl
 | block id b ib =>
  intro s k
  simp only [execK, exec, ib]
  cases exec P T call L f rnd fl nt b s with
  | none => rfl
  | some r =>
   obtain ⟨e, s1⟩ := r
   cases e with
   | norm => rfl
   | exit i =>
    show Bool.rec (motive := fun _ => Rx) (k (.exit i) s1) (k .norm s1) (Nat.beq i id) = k (if i = id then .norm else .exit i) s1
    by_cases h : i = id
    ·subst h; rw [if_pos rfl, show Nat.beq i i = true from Nat.beq_refl i]
    ·rw [if_neg h, show Nat.beq i id = false from by cases e : Nat.beq i id with | false => rfl | true => exact absurd (Nat.eq_of_beq_eq_true e) h]
   | ret => rfl
 | scope b ib => intro s k; simp only [execK, exec, ib]
 | loop b ib =>
  intro s k
  simp only [execK, exec]
  have key : ∀ n s, xLoop T n f b (execK P T call L f rnd fl nt b) s k = andX (iter (fun s => exec P T call L f rnd fl nt b (atHead (T.headAt f (headId b)) s)) n s) k := by
   intro n
   induction n with
   | zero => intro s; rfl
   | succ n ih =>
    intro s
    show execK P T call L f rnd fl nt b (atHeadF (T.headAt f (headId b)) s) (xNext (xLoop T n f b (execK P T call L f rnd fl nt b)) k) = _
    rw [ib, atHeadF_eq]
    simp only [iter]
    cases exec P T call L f rnd fl nt b (atHead (T.headAt f (headId b)) s) with
    | none => rfl
    | some r =>
     obtain ⟨e, s1⟩ := r
     cases e with
     | norm => exact ih s1
     | exit i => rfl
     | ret => rfl
  exact key L s
 | region id ops draw =>
  intro s k
  simp only [execK, exec, xRegion, rK_eq]
  cases runOps P call (fun d => rnd || T.siteAt f d) fl nt ops ops.toList s with
  | none => rfl
  | some r =>
   obtain ⟨s1, is⟩ := r
   show Bool.rec (motive := fun _ => Rx) none (k .norm ⟨pickF (T.liveAt f id) s1.env, s1.loc, s1.heap, s1.ws⟩) (!draw || (staticF ops.toList && dynOk is (hotF ops.toList))) = andX (if (!draw || (staticOk ops.toList && dynOk is (hotPairs ops.toList))) = true then some (.norm, { s1 with env := pick (T.liveAt f id) s1.env }) else none) k
   rw [pickF_eq, staticF_eq, hotF_eq]
   cases (!draw || (staticOk ops.toList && dynOk is (hotPairs ops.toList))) <;> rfl
 | rangeFunc g ps a b _ _ => intro s k; simp only [execK, exec, xRange, tvF_eq] <;> rfl
 | _ => intro s k; rfl
def execF (P : Program) (T : Tab) (call : CallT) (L : Nat) (f : Nat) (rnd : Bool) (fl nt : Nat) (c : Code) (s : St) : Rx := execK P T call L f rnd fl nt c s fun e s => some (e, s)
theorem execF_eq (P : Program) (T : Tab) (call : CallT) (L : Nat) (f : Nat) (rnd : Bool) (fl nt : Nat) (c : Code) (s : St) : execF P T call L f rnd fl nt c s = exec P T call L f rnd fl nt c s := by
 unfold execF
 rw [execK_eq]
 cases exec P T call L f rnd fl nt c s <;> rfl
def funF (P : Program) (T : Tab) (call : CallT) (L : Nat) (f : Nat) (args : List TV) (h : List HB) : Option (TV × List HB × List Nat) :=
 match fnT P f with
 | some t => match execF P T call L f false h.length t.nt t.body ⟨argEnv 0 args, [], h, []⟩ with
  | some (.norm, s) | some (.ret, s) => match resTs P s t.results with
   | some vs => if s.ws.isEmpty && (one vs).flat then some (one vs, h, []) else some (one vs, s.heap, s.ws)
   | none => none
  | _ => none
 | none => none
theorem funF_eq : funF = funT := by
 funext P T call L f args h
 simp only [funF, funT, execF_eq]
 rfl
def roundF (P : Program) (T : Tab) (call : CallT) (L : Nat) (l : Nat) (args : List TV) (h : List HB) : Option (TV × List HB × List Nat) :=
 match h[l]? with
 | some (.loop true f nt env ps assign body _) =>
  if args.length = ps.length ∧ ps.all (fun p => decide (p < nt)) then
   match execF P T call L f true h.length nt assign ⟨putAll env ps args, [], h, []⟩ with
   | some (.norm, s) => match s.heap[l]? with
    | some (.loop true f' nt' env' ps' a' b' _) =>
     match execF P T call L f true h.length nt body { s with heap := s.heap.set l (.loop false f' nt' env' ps' a' b' none), ws := addW h.length l s.ws } with
     | some (e, s) => match s.heap[l]? with
      | some (.loop false f' nt' env' ps' a' b' none) => some (.bool (isNorm e), s.heap.set l (.loop (isNorm e) f' nt' env' ps' a' b' (jumpOf e)), addW h.length l s.ws)
      | _ => none
     | none => none
    | _ => none
   | _ => none
  else none
 | _ => none
theorem roundF_eq : roundF = roundT := by
 funext P T call L l args h
 simp only [roundF, roundT, execF_eq]
 rfl
def apF (P : Program) (T : Tab) (L : Nat) : Nat → CallT
 | 0, _, _, _ => none
 | n + 1, .fn f first cap, args, h => if T.exts.contains f = true then T.ext (.fn f first cap) args h else gcR h (funF P T (apF P T L n) L f (first ++ args ++ cap) h)
 | n + 1, .yld l, args, h => roundF P T (apF P T L n) L l args h
 | _, _, _, _ => none
theorem ap_okF {P : Program} {T : Tab} {L : Nat} (hm : P.follows .mixedOrders = true) (hE : CallOk P T.ext) : ∀ n, CallOk P (apF P T L n)
 | 0 => by
  intro fv args h v h' ws hc
  simp [apF] at hc
 | n + 1 => by
  intro fv args h v h' ws hc M w x xs hV hl hx hxs
  have ih := ap_okF (L := L) hm hE n
  cases fv with
  | fn f first cap =>
   simp only [apF, funF_eq] at hc
   split at hc
   ·exact hE _ _ _ _ _ _ hc M w x xs hV hl hx hxs
   cases hx with
   | fn h1 h2 h3 h4 =>
    rename_i ys zs
    have hargs : VRs M.h (first ++ args ++ cap) (ys ++ xs ++ zs) := (VRs.append ⟨h1, h2⟩ hxs).append ⟨h3, h4⟩
    obtain ⟨v0, h0, ws0, hc, hgc⟩ := gcR_ok (P := P) hV hl hc
    obtain ⟨fn, c, e1, e2, e3, e4⟩ := fun_ok hm ih hc ⟨hV, hl⟩ hargs
    refine ⟨{ target := .fn (.func f) zs.toArray, args := ys.toArray ++ xs.toArray }, fun w => by simp [Deferred.ofValue], .inl ⟨⟨f, (ys ++ xs ++ zs).toArray, ?_, fun n => (e4 n).mono fun e w' hR => by cases e with | returned v => exact hgc _ _ hR | panicked c => exact hR.elim | outgrown => exact hR.elim⟩, f, first, cap, rfl⟩⟩
    have e2' : ¬ fn.name = "runtime.NumGoroutine" := by simpa using e2
    simp [invoke, callFunc, program, Sem.run, e1, e2', e3]
  | yld l =>
   simp only [apF, roundF_eq] at hc
   cases hx with
   | yld hm' =>
    rename_i l'
    refine ⟨{ target := .fn (.yield l') #[], args := xs.toArray }, fun w => by simp [Deferred.ofValue], .inr ⟨round_ok hm ih hc ⟨hV, hl⟩ hm' hxs, l, rfl⟩⟩
  | _ => simp [apF] at hc
def runH (P : Program) (T : Tab) (call : CallT) (L : Nat) (f nt : Nat) : Nat → Code → St → Option St
 | 0, _, s => some s
 | m + 1, .seq a b, s => match execF P T call L f false 0 nt a s with
  | some (.norm, s) => runH P T call L f nt m b s
  | _ => none
 | _, _, _ => none
def tlN : Nat → Code → Code
 | 0, c => c
 | m + 1, .seq _ b => tlN m b
 | _, c => c
theorem runH_ok {P : Program} {T : Tab} {call : CallT} {L f nt : Nat} {r : Option (Ex × St)} : ∀ {m : Nat} {c : Code} {s s1 : St}, runH P T call L f nt m c s = some s1 → execF P T call L f false 0 nt (tlN m c) s1 = r → execF P T call L f false 0 nt c s = r
 | 0, c, s, s1, h, h2 => by cases h; exact h2
 | m + 1, .seq a b, s, s1, h, h2 => by
  simp only [runH] at h
  split at h
  ·rename_i s2 e
   rw [execF_eq] at e h2 ⊢
   simp only [exec, e]
   rw [← execF_eq] at h2 ⊢
   exact runH_ok h h2
  ·cases h
 | _ + 1, .skip, _, _, h, _ | _ + 1, .region _ _ _, _, _, h, _ | _ + 1, .cond _ _ _, _, _, h, _ | _ + 1, .block _ _, _, _, h, _ | _ + 1, .loop _, _, _, h, _ | _ + 1, .exit _, _, _, h, _ | _ + 1, .ret, _, _, h, _ | _ + 1, .scope _, _, _, h, _ | _ + 1, .label _, _, _, h, _ | _ + 1, .rangeFunc _ _ _ _, _, _, h, _ => by simp [runH] at h
def bdF (P : Program) (f : Nat) : Code := match fnT P f with
 | some t => t.body
 | none => .skip
def ntF (P : Program) (f : Nat) : Nat := match fnT P f with
 | some t => t.nt
 | none => 0
def endT (P : Program) (f : Nat) : Option (Ex × St) → Bool
 | some (.ret, s) => match fnT P f with
  | some t => match resTs P s t.results, s.ws with
   | some [.bool true], [] => true
   | _, _ => false
  | none => false
 | _ => false
theorem endT_ok {P : Program} {T : Tab} {call : CallT} {L f : Nat} {r : Option (Ex × St)} (h : execF P T call L f false 0 (ntF P f) (bdF P f) ⟨[], [], [], []⟩ = r) (h2 : endT P f r = true) : isT (funF P T call L f [] []) = true := by
 unfold endT at h2
 split at h2
 ·rename_i s
  split at h2
  ·rename_i t ht
   split at h2
   ·rename_i hr hw
    unfold ntF bdF at h
    rw [ht] at h
    have h : execF P T call L f false ([] : List HB).length t.nt t.body ⟨argEnv 0 [], [], [], []⟩ = some (.ret, s) := h
    unfold funF
    simp only [ht, h, hr, hw]
    rfl
   ·cases h2
  ·cases h2
 ·cases h2
theorem closT_ok {P : Program} {T : Tab} {L n f : Nat} (hm : P.follows .mixedOrders = true) (hE : CallOk P T.ext) (hr : isT (funF P T (apF P T L n) L f [] []) = true) : CallOk P (closT f true) := by
 obtain ⟨h0, hr⟩ : ∃ h0, funF P T (apF P T L n) L f [] [] = some (.bool true, h0, []) := by
  unfold isT at hr
  split at hr
  ·exact ⟨_, ‹_›⟩
  ·cases hr
 intro fv args h v h' ws hc M w x xs hV hl hx hxs
 unfold closT at hc
 split at hc
 ·rename_i g
  split at hc
  ·rename_i hg
   subst hg
   cases hc
   cases hx with
   | fn h1 h2 h3 h4 =>
    rename_i ys zs
    have hy : ys = [] := List.eq_nil_of_length_eq_zero h1.symm
    have hz : zs = [] := List.eq_nil_of_length_eq_zero h3.symm
    have hxx : xs = [] := List.eq_nil_of_length_eq_zero hxs.len.symm
    subst hy hz hxx
    have h0 : Base (fun _ => none) [] w := ⟨⟨by simp, by simp, by simp⟩, by simp⟩
    obtain ⟨fn, c, e1, e2, e3, e4⟩ := fun_ok hm (ap_okF (L := L) hm hE n) (funF_eq ▸ hr) h0 (xs := []) .nil
    refine ⟨{ target := .fn (.func g) #[], args := #[] }, fun w => by simp [Deferred.ofValue], .inl ⟨⟨g, #[], ?_, fun n => ?_⟩, _, [], [], rfl⟩⟩
    ·have e2' : ¬ fn.name = "runtime.NumGoroutine" := by simpa using e2
     simp [invoke, callFunc, program, Sem.run, e1, e2', e3]
    ·refine (e4 n).mono fun e w' hR => ?_
     cases e with
     | panicked c => exact hR.elim
     | outgrown => exact hR.elim
     | returned v =>
      obtain ⟨M2, _, _, hX, hv'⟩ := hR
      cases hv'
      have hf : ∀ c, c < w.heap.size → w'.heap[c]? = w.heap[c]? := fun c hc => hX.frame c hc (by simp)
      refine ⟨M, ⟨fun k l hk hd => ?_, hV.own, fun k l hk c hc => Nat.lt_of_lt_of_le (hV.inb k l hk c hc) hX.size⟩, hl, ⟨.refl M, fun c hc _ => hf c hc, fun _ _ _ => rfl, fun _ _ _ => rfl, fun k l hk c hc _ => ⟨l, hk, hc⟩, hX.size, fun _ h => h, by simp, by simp, hX.os, hX.output, hX.tape⟩, .bool _⟩
      obtain ⟨b, g1, g2⟩ := hV.ok k l hk hd
      exact ⟨b, g1, g2.mono (.refl _) fun c hc => hf c (hV.inb k l hk c hc)⟩
  ·cases hc
 ·cases hc
open Go.ChangeShapes Go.WideShapes Go.RowKit
end
end
end Tw
namespace Go.Proofs.YtmefgijobonklaaGreat
open Go Tw
def Aw1 : St := ⟨[(1, .loc 0 0), (2, .val (.int .i64 0)), (3, .loc 1 0), (4, .val (.int .i64 0)), (5, .loc 2 0), (6, .val (.int .i64 0))], [[.slc 10 0 4 4 4 false], [.slc 29 0 4 4 4 false], [.slc 44 0 2 2 4 false]], [.cells .own [.int .i64 2, .int .i64 3], .cells .own [.int .u8 0, .int .i64 5, .int .u8 0, .int .i64 5, .int .u8 0, .int .i64 5, .int .u8 0, .int .i64 5, .int .u8 0, .int .i64 7, .int .u8 1, .int .i64 0], .cells .last [.int .i64 1, .int .i64 2], .cells .last [.int .i64 1, .int .i64 2], .cells .last [.int .i64 1, .int .i64 1], .cells .last [.int .i64 1, .int .i64 1], .cells .last [.int .i64 1, .int .i64 0], .cells .last [.int .i64 1, .int .i64 0], .cells .last [.int .i64 0, .int .i64 2], .cells .last [.int .i64 0, .int .i64 0], .cells .grow [.slc 9 0 2 2 1 false, .slc 8 0 2 2 1 false, .int .u8 0, .int .i64 5, .slc 7 0 2 2 1 false, .slc 6 0 2 2 1 false, .int .u8 0, .int .i64 5, .slc 5 0 2 2 1 false, .slc 4 0 2 2 1 false, .int .u8 0, .int .i64 7, .slc 3 0 2 2 1 false, .slc 2 0 2 2 1 false, .int .u8 1, .int .i64 0], .cells .own [.int .i64 2, .int .i64 3], .cells .own [.int .i64 1, .int .i64 2], .cells .own [.int .i64 1, .int .i64 2], .cells .own [.int .i64 1, .int .i64 1], .cells .own [.int .i64 1, .int .i64 1], .cells .own [.int .i64 0, .int .i64 2], .cells .own [.int .i64 0, .int .i64 1], .cells .own [.int .i64 1, .int .i64 0], .cells .own [.int .i64 0, .int .i64 0], .cells .own [.slc 19 0 2 2 1 true, .slc 18 0 2 2 1 true, .int .u8 0, .int .i64 5, .slc 17 0 2 2 1 true, .slc 16 0 2 2 1 true, .int .u8 0, .int .i64 5, .slc 15 0 2 2 1 true, .slc 14 0 2 2 1 true, .int .u8 0, .int .i64 7, .slc 13 0 2 2 1 true, .slc 12 0 2 2 1 true, .int .u8 1, .int .i64 0], .cells .last [.int .i64 1, .int .i64 2], .cells .last [.int .i64 1, .int .i64 2], .cells .last [.int .i64 1, .int .i64 1], .cells .last [.int .i64 1, .int .i64 1], .cells .last [.int .i64 1, .int .i64 0], .cells .last [.int .i64 1, .int .i64 0], .cells .last [.int .i64 0, .int .i64 2], .cells .last [.int .i64 0, .int .i64 0], .cells .grow [.slc 28 0 2 2 1 false, .slc 27 0 2 2 1 false, .int .u8 0, .int .i64 5, .slc 26 0 2 2 1 false, .slc 25 0 2 2 1 false, .int .u8 0, .int .i64 5, .slc 24 0 2 2 1 false, .slc 23 0 2 2 1 false, .int .u8 0, .int .i64 7, .slc 22 0 2 2 1 false, .slc 21 0 2 2 1 false, .int .u8 1, .int .i64 0], .cells .own [.int .i64 2, .int .i64 3], .cells .own [.int .i64 1, .int .i64 2], .cells .own [.int .i64 1, .int .i64 2], .cells .own [.int .i64 1, .int .i64 1], .cells .own [.int .i64 1, .int .i64 1], .cells .own [.int .i64 0, .int .i64 2], .cells .own [.int .i64 0, .int .i64 1], .cells .own [.int .i64 1, .int .i64 0], .cells .own [.int .i64 0, .int .i64 0], .cells .own [.slc 38 0 2 2 1 true, .slc 37 0 2 2 1 true, .int .u8 0, .int .i64 5, .slc 36 0 2 2 1 true, .slc 35 0 2 2 1 true, .int .u8 0, .int .i64 5, .slc 34 0 2 2 1 true, .slc 33 0 2 2 1 true, .int .u8 0, .int .i64 7, .slc 32 0 2 2 1 true, .slc 31 0 2 2 1 true, .int .u8 1, .int .i64 0], .cells .last [.int .i64 1, .int .i64 2], .cells .last [.int .i64 1, .int .i64 0], .cells .last [.int .i64 0, .int .i64 2], .cells .last [.int .i64 0, .int .i64 0], .cells .grow [.slc 43 0 2 2 1 false, .slc 42 0 2 2 1 false, .int .u8 0, .int .i64 5, .slc 41 0 2 2 1 false, .slc 40 0 2 2 1 false, .int .u8 0, .int .i64 7]], []⟩
def Aw2 : St := ⟨[(1, .loc 0 0), (2, .val (.int .i64 0)), (3, .loc 1 0), (4, .val (.int .i64 0)), (5, .loc 2 0), (6, .val (.int .i64 0)), (7, .val (.int .i64 4)), (8, .val (.int .i64 0)), (9, .loc 3 0), (10, .val (.int .i64 0)), (11, .loc 4 0), (12, .val (.int .i64 0))], [[.slc 10 0 4 4 4 false], [.slc 29 0 4 4 4 false], [.slc 44 0 2 2 4 false], [.int .i64 5, .int .i64 7, .int .u8 1], [.slc 82 0 3 3 4 false]], [.cells .own [.int .i64 2, .int .i64 3], .cells .own [.int .u8 0, .int .i64 5, .int .u8 0, .int .i64 5, .int .u8 0, .int .i64 5, .int .u8 0, .int .i64 5, .int .u8 0, .int .i64 7, .int .u8 1, .int .i64 0], .cells .last [.int .i64 1, .int .i64 2], .cells .last [.int .i64 1, .int .i64 2], .cells .last [.int .i64 1, .int .i64 1], .cells .last [.int .i64 1, .int .i64 1], .cells .last [.int .i64 1, .int .i64 0], .cells .last [.int .i64 1, .int .i64 0], .cells .last [.int .i64 0, .int .i64 2], .cells .last [.int .i64 0, .int .i64 0], .cells .grow [.slc 9 0 2 2 1 false, .slc 8 0 2 2 1 false, .int .u8 0, .int .i64 5, .slc 7 0 2 2 1 false, .slc 6 0 2 2 1 false, .int .u8 0, .int .i64 5, .slc 5 0 2 2 1 false, .slc 4 0 2 2 1 false, .int .u8 0, .int .i64 7, .slc 3 0 2 2 1 false, .slc 2 0 2 2 1 false, .int .u8 1, .int .i64 0], .cells .own [.int .i64 2, .int .i64 3], .cells .own [.int .i64 1, .int .i64 2], .cells .own [.int .i64 1, .int .i64 2], .cells .own [.int .i64 1, .int .i64 1], .cells .own [.int .i64 1, .int .i64 1], .cells .own [.int .i64 0, .int .i64 2], .cells .own [.int .i64 0, .int .i64 1], .cells .own [.int .i64 1, .int .i64 0], .cells .own [.int .i64 0, .int .i64 0], .cells .own [.slc 19 0 2 2 1 true, .slc 18 0 2 2 1 true, .int .u8 0, .int .i64 5, .slc 17 0 2 2 1 true, .slc 16 0 2 2 1 true, .int .u8 0, .int .i64 5, .slc 15 0 2 2 1 true, .slc 14 0 2 2 1 true, .int .u8 0, .int .i64 7, .slc 13 0 2 2 1 true, .slc 12 0 2 2 1 true, .int .u8 1, .int .i64 0], .cells .last [.int .i64 1, .int .i64 2], .cells .last [.int .i64 1, .int .i64 2], .cells .last [.int .i64 1, .int .i64 1], .cells .last [.int .i64 1, .int .i64 1], .cells .last [.int .i64 1, .int .i64 0], .cells .last [.int .i64 1, .int .i64 0], .cells .last [.int .i64 0, .int .i64 2], .cells .last [.int .i64 0, .int .i64 0], .cells .grow [.slc 28 0 2 2 1 false, .slc 27 0 2 2 1 false, .int .u8 0, .int .i64 5, .slc 26 0 2 2 1 false, .slc 25 0 2 2 1 false, .int .u8 0, .int .i64 5, .slc 24 0 2 2 1 false, .slc 23 0 2 2 1 false, .int .u8 0, .int .i64 7, .slc 22 0 2 2 1 false, .slc 21 0 2 2 1 false, .int .u8 1, .int .i64 0], .cells .own [.int .i64 2, .int .i64 3], .cells .own [.int .i64 1, .int .i64 2], .cells .own [.int .i64 1, .int .i64 2], .cells .own [.int .i64 1, .int .i64 1], .cells .own [.int .i64 1, .int .i64 1], .cells .own [.int .i64 0, .int .i64 2], .cells .own [.int .i64 0, .int .i64 1], .cells .own [.int .i64 1, .int .i64 0], .cells .own [.int .i64 0, .int .i64 0], .cells .own [.slc 38 0 2 2 1 true, .slc 37 0 2 2 1 true, .int .u8 0, .int .i64 5, .slc 36 0 2 2 1 true, .slc 35 0 2 2 1 true, .int .u8 0, .int .i64 5, .slc 34 0 2 2 1 true, .slc 33 0 2 2 1 true, .int .u8 0, .int .i64 7, .slc 32 0 2 2 1 true, .slc 31 0 2 2 1 true, .int .u8 1, .int .i64 0], .cells .last [.int .i64 1, .int .i64 2], .cells .last [.int .i64 1, .int .i64 0], .cells .last [.int .i64 0, .int .i64 2], .cells .last [.int .i64 0, .int .i64 0], .cells .grow [.slc 43 0 2 2 1 false, .slc 42 0 2 2 1 false, .int .u8 0, .int .i64 5, .slc 41 0 2 2 1 false, .slc 40 0 2 2 1 false, .int .u8 0, .int .i64 7], .cells .own [.int .i64 2, .int .i64 3], .cells .own [.int .i64 1, .int .i64 2], .cells .own [.int .i64 1, .int .i64 2], .cells .own [.int .i64 1, .int .i64 1], .cells .own [.int .i64 1, .int .i64 1], .cells .own [.int .i64 0, .int .i64 2], .cells .own [.int .i64 0, .int .i64 1], .cells .own [.int .i64 1, .int .i64 0], .cells .own [.int .i64 0, .int .i64 0], .cells .own [.slc 53 0 2 2 1 true, .slc 52 0 2 2 1 true, .int .u8 0, .int .i64 5, .slc 51 0 2 2 1 true, .slc 50 0 2 2 1 true, .int .u8 0, .int .i64 5, .slc 49 0 2 2 1 true, .slc 48 0 2 2 1 true, .int .u8 0, .int .i64 7, .slc 47 0 2 2 1 true, .slc 46 0 2 2 1 true, .int .u8 1, .int .i64 0], .cells .own [.int .i64 2, .int .i64 3], .cells .own [.int .i64 1, .int .i64 2], .cells .own [.int .i64 1, .int .i64 2], .cells .own [.int .i64 1, .int .i64 1], .cells .own [.int .i64 1, .int .i64 1], .cells .own [.int .i64 0, .int .i64 2], .cells .own [.int .i64 0, .int .i64 1], .cells .own [.int .i64 1, .int .i64 0], .cells .own [.int .i64 0, .int .i64 0], .cells .own [.slc 63 0 2 2 1 true, .slc 62 0 2 2 1 true, .int .u8 0, .int .i64 5, .slc 61 0 2 2 1 true, .slc 60 0 2 2 1 true, .int .u8 0, .int .i64 5, .slc 59 0 2 2 1 true, .slc 58 0 2 2 1 true, .int .u8 0, .int .i64 7, .slc 57 0 2 2 1 true, .slc 56 0 2 2 1 true, .int .u8 1, .int .i64 0], .cells .own [.int .i64 2, .int .i64 3], .cells .own [.int .i64 1, .int .i64 2], .cells .own [.int .i64 1, .int .i64 2], .cells .own [.int .i64 1, .int .i64 1], .cells .own [.int .i64 1, .int .i64 1], .cells .own [.int .i64 1, .int .i64 0], .cells .own [.int .i64 1, .int .i64 0], .cells .own [.int .i64 0, .int .i64 2], .cells .own [.int .i64 0, .int .i64 0], .cells .own [.slc 73 0 2 2 1 true, .slc 72 0 2 2 1 true, .int .u8 0, .int .i64 5, .slc 71 0 2 2 1 true, .slc 70 0 2 2 1 true, .int .u8 0, .int .i64 5, .slc 69 0 2 2 1 true, .slc 68 0 2 2 1 true, .int .u8 0, .int .i64 7, .slc 67 0 2 2 1 true, .slc 66 0 2 2 1 true, .int .u8 1, .int .i64 0], .cells .own [.slc 74 0 4 4 4 true], .cells .last [.int .i64 1, .int .i64 2], .cells .last [.int .i64 1, .int .i64 2], .cells .last [.int .i64 1, .int .i64 1], .cells .last [.int .i64 1, .int .i64 0], .cells .last [.int .i64 0, .int .i64 2], .cells .last [.int .i64 0, .int .i64 0], .cells .grow [.slc 81 0 2 2 1 false, .slc 80 0 2 2 1 false, .int .u8 0, .int .i64 0, .slc 79 0 2 2 1 false, .slc 78 0 2 2 1 false, .int .u8 0, .int .i64 0, .slc 77 0 2 2 1 false, .slc 76 0 2 2 1 false, .int .u8 1, .int .i64 0]], []⟩
def Aw3 : St := ⟨[(1, .loc 0 0), (2, .val (.int .i64 0)), (3, .loc 1 0), (4, .val (.int .i64 0)), (5, .loc 2 0), (6, .val (.int .i64 0)), (7, .val (.int .i64 4)), (8, .val (.int .i64 0)), (9, .loc 3 0), (10, .val (.int .i64 0)), (11, .loc 4 0), (12, .val (.int .i64 0)), (13, .val (.slc 99 0 1 1 1 false)), (14, .val (.int .i64 0))], [[.slc 10 0 4 4 4 false], [.slc 29 0 4 4 4 false], [.slc 44 0 2 2 4 false], [.int .i64 5, .int .i64 7, .int .u8 1], [.slc 82 0 3 3 4 false]], [.cells .own [.int .i64 2, .int .i64 3], .cells .own [.int .u8 0, .int .i64 5, .int .u8 0, .int .i64 5, .int .u8 0, .int .i64 5, .int .u8 0, .int .i64 5, .int .u8 0, .int .i64 7, .int .u8 1, .int .i64 0], .cells .last [.int .i64 1, .int .i64 2], .cells .last [.int .i64 1, .int .i64 2], .cells .last [.int .i64 1, .int .i64 1], .cells .last [.int .i64 1, .int .i64 1], .cells .last [.int .i64 1, .int .i64 0], .cells .last [.int .i64 1, .int .i64 0], .cells .last [.int .i64 0, .int .i64 2], .cells .last [.int .i64 0, .int .i64 0], .cells .grow [.slc 9 0 2 2 1 false, .slc 8 0 2 2 1 false, .int .u8 0, .int .i64 5, .slc 7 0 2 2 1 false, .slc 6 0 2 2 1 false, .int .u8 0, .int .i64 5, .slc 5 0 2 2 1 false, .slc 4 0 2 2 1 false, .int .u8 0, .int .i64 7, .slc 3 0 2 2 1 false, .slc 2 0 2 2 1 false, .int .u8 1, .int .i64 0], .cells .own [.int .i64 2, .int .i64 3], .cells .own [.int .i64 1, .int .i64 2], .cells .own [.int .i64 1, .int .i64 2], .cells .own [.int .i64 1, .int .i64 1], .cells .own [.int .i64 1, .int .i64 1], .cells .own [.int .i64 0, .int .i64 2], .cells .own [.int .i64 0, .int .i64 1], .cells .own [.int .i64 1, .int .i64 0], .cells .own [.int .i64 0, .int .i64 0], .cells .own [.slc 19 0 2 2 1 true, .slc 18 0 2 2 1 true, .int .u8 0, .int .i64 5, .slc 17 0 2 2 1 true, .slc 16 0 2 2 1 true, .int .u8 0, .int .i64 5, .slc 15 0 2 2 1 true, .slc 14 0 2 2 1 true, .int .u8 0, .int .i64 7, .slc 13 0 2 2 1 true, .slc 12 0 2 2 1 true, .int .u8 1, .int .i64 0], .cells .last [.int .i64 1, .int .i64 2], .cells .last [.int .i64 1, .int .i64 2], .cells .last [.int .i64 1, .int .i64 1], .cells .last [.int .i64 1, .int .i64 1], .cells .last [.int .i64 1, .int .i64 0], .cells .last [.int .i64 1, .int .i64 0], .cells .last [.int .i64 0, .int .i64 2], .cells .last [.int .i64 0, .int .i64 0], .cells .grow [.slc 28 0 2 2 1 false, .slc 27 0 2 2 1 false, .int .u8 0, .int .i64 5, .slc 26 0 2 2 1 false, .slc 25 0 2 2 1 false, .int .u8 0, .int .i64 5, .slc 24 0 2 2 1 false, .slc 23 0 2 2 1 false, .int .u8 0, .int .i64 7, .slc 22 0 2 2 1 false, .slc 21 0 2 2 1 false, .int .u8 1, .int .i64 0], .cells .own [.int .i64 2, .int .i64 3], .cells .own [.int .i64 1, .int .i64 2], .cells .own [.int .i64 1, .int .i64 2], .cells .own [.int .i64 1, .int .i64 1], .cells .own [.int .i64 1, .int .i64 1], .cells .own [.int .i64 0, .int .i64 2], .cells .own [.int .i64 0, .int .i64 1], .cells .own [.int .i64 1, .int .i64 0], .cells .own [.int .i64 0, .int .i64 0], .cells .own [.slc 38 0 2 2 1 true, .slc 37 0 2 2 1 true, .int .u8 0, .int .i64 5, .slc 36 0 2 2 1 true, .slc 35 0 2 2 1 true, .int .u8 0, .int .i64 5, .slc 34 0 2 2 1 true, .slc 33 0 2 2 1 true, .int .u8 0, .int .i64 7, .slc 32 0 2 2 1 true, .slc 31 0 2 2 1 true, .int .u8 1, .int .i64 0], .cells .last [.int .i64 1, .int .i64 2], .cells .last [.int .i64 1, .int .i64 0], .cells .last [.int .i64 0, .int .i64 2], .cells .last [.int .i64 0, .int .i64 0], .cells .grow [.slc 43 0 2 2 1 false, .slc 42 0 2 2 1 false, .int .u8 0, .int .i64 5, .slc 41 0 2 2 1 false, .slc 40 0 2 2 1 false, .int .u8 0, .int .i64 7], .cells .own [.int .i64 2, .int .i64 3], .cells .own [.int .i64 1, .int .i64 2], .cells .own [.int .i64 1, .int .i64 2], .cells .own [.int .i64 1, .int .i64 1], .cells .own [.int .i64 1, .int .i64 1], .cells .own [.int .i64 0, .int .i64 2], .cells .own [.int .i64 0, .int .i64 1], .cells .own [.int .i64 1, .int .i64 0], .cells .own [.int .i64 0, .int .i64 0], .cells .own [.slc 53 0 2 2 1 true, .slc 52 0 2 2 1 true, .int .u8 0, .int .i64 5, .slc 51 0 2 2 1 true, .slc 50 0 2 2 1 true, .int .u8 0, .int .i64 5, .slc 49 0 2 2 1 true, .slc 48 0 2 2 1 true, .int .u8 0, .int .i64 7, .slc 47 0 2 2 1 true, .slc 46 0 2 2 1 true, .int .u8 1, .int .i64 0], .cells .own [.int .i64 2, .int .i64 3], .cells .own [.int .i64 1, .int .i64 2], .cells .own [.int .i64 1, .int .i64 2], .cells .own [.int .i64 1, .int .i64 1], .cells .own [.int .i64 1, .int .i64 1], .cells .own [.int .i64 0, .int .i64 2], .cells .own [.int .i64 0, .int .i64 1], .cells .own [.int .i64 1, .int .i64 0], .cells .own [.int .i64 0, .int .i64 0], .cells .own [.slc 63 0 2 2 1 true, .slc 62 0 2 2 1 true, .int .u8 0, .int .i64 5, .slc 61 0 2 2 1 true, .slc 60 0 2 2 1 true, .int .u8 0, .int .i64 5, .slc 59 0 2 2 1 true, .slc 58 0 2 2 1 true, .int .u8 0, .int .i64 7, .slc 57 0 2 2 1 true, .slc 56 0 2 2 1 true, .int .u8 1, .int .i64 0], .cells .own [.int .i64 2, .int .i64 3], .cells .own [.int .i64 1, .int .i64 2], .cells .own [.int .i64 1, .int .i64 2], .cells .own [.int .i64 1, .int .i64 1], .cells .own [.int .i64 1, .int .i64 1], .cells .own [.int .i64 1, .int .i64 0], .cells .own [.int .i64 1, .int .i64 0], .cells .own [.int .i64 0, .int .i64 2], .cells .own [.int .i64 0, .int .i64 0], .cells .own [.slc 73 0 2 2 1 true, .slc 72 0 2 2 1 true, .int .u8 0, .int .i64 5, .slc 71 0 2 2 1 true, .slc 70 0 2 2 1 true, .int .u8 0, .int .i64 5, .slc 69 0 2 2 1 true, .slc 68 0 2 2 1 true, .int .u8 0, .int .i64 7, .slc 67 0 2 2 1 true, .slc 66 0 2 2 1 true, .int .u8 1, .int .i64 0], .cells .own [.slc 74 0 4 4 4 true], .cells .last [.int .i64 1, .int .i64 2], .cells .last [.int .i64 1, .int .i64 2], .cells .last [.int .i64 1, .int .i64 1], .cells .last [.int .i64 1, .int .i64 0], .cells .last [.int .i64 0, .int .i64 2], .cells .last [.int .i64 0, .int .i64 0], .cells .grow [.slc 81 0 2 2 1 false, .slc 80 0 2 2 1 false, .int .u8 0, .int .i64 0, .slc 79 0 2 2 1 false, .slc 78 0 2 2 1 false, .int .u8 0, .int .i64 0, .slc 77 0 2 2 1 false, .slc 76 0 2 2 1 false, .int .u8 1, .int .i64 0], .cells .own [.int .i64 2], .cells .own [.int .u8 3, .int .i64 0, .int .i64 0, .int .i64 0, .int .i64 0, .int .u8 3, .int .i64 0, .int .i64 0, .int .i64 0, .int .i64 1, .int .u8 10, .int .i64 0, .int .i64 1, .int .i64 0, .int .i64 0], .cells .own [.str ⟨#[100]⟩, .int .i64 1, .int .i64 2, .str ⟨#[101]⟩, .int .i64 0, .int .i64 2], .cells .last [.int .i64 1, .int .i64 2], .cells .last [.int .i64 1, .int .i64 2], .cells .last [.int .i64 1, .int .i64 1], .cells .last [.int .i64 1, .int .i64 1], .cells .last [.int .i64 1, .int .i64 0], .cells .last [.int .i64 1, .int .i64 0], .cells .last [.int .i64 0, .int .i64 2], .cells .last [.int .i64 0, .int .i64 2], .cells .last [.int .i64 0, .int .i64 1], .cells .last [.int .i64 0, .int .i64 1], .cells .last [.int .i64 0, .int .i64 0], .cells .last [.int .i64 0, .int .i64 0], .cells .grow [.slc 97 0 2 2 1 false, .slc 96 0 2 2 1 false, .int .u8 1, .int .i64 0, .slc 95 0 2 2 1 false, .slc 94 0 2 2 1 false, .int .u8 0, .int .i64 1, .slc 93 0 2 2 1 false, .slc 92 0 2 2 1 false, .int .u8 0, .int .i64 0, .slc 91 0 2 2 1 false, .slc 90 0 2 2 1 false, .int .u8 1, .int .i64 0, .slc 89 0 2 2 1 false, .slc 88 0 2 2 1 false, .int .u8 0, .int .i64 2, .slc 87 0 2 2 1 false, .slc 86 0 2 2 1 false, .int .u8 0, .int .i64 1], .cells .own [.slc 98 0 6 6 4 false]], []⟩
def Aw4 : St := ⟨[(1, .loc 0 0), (2, .val (.int .i64 0)), (3, .loc 1 0), (4, .val (.int .i64 0)), (5, .loc 2 0), (6, .val (.int .i64 0)), (7, .val (.int .i64 4)), (8, .val (.int .i64 0)), (9, .loc 3 0), (10, .val (.int .i64 0)), (11, .loc 4 0), (12, .val (.int .i64 0)), (13, .val (.slc 99 0 1 1 1 false)), (14, .val (.int .i64 0)), (15, .val (.slc 119 0 2 2 1 true)), (16, .val (.int .i64 0))], [[.slc 10 0 4 4 4 false], [.slc 29 0 4 4 4 false], [.slc 44 0 2 2 4 false], [.int .i64 5, .int .i64 7, .int .u8 1], [.slc 82 0 3 3 4 false]], [.cells .own [.int .i64 2, .int .i64 3], .cells .own [.int .u8 0, .int .i64 5, .int .u8 0, .int .i64 5, .int .u8 0, .int .i64 5, .int .u8 0, .int .i64 5, .int .u8 0, .int .i64 7, .int .u8 1, .int .i64 0], .cells .last [.int .i64 1, .int .i64 2], .cells .last [.int .i64 1, .int .i64 2], .cells .last [.int .i64 1, .int .i64 1], .cells .last [.int .i64 1, .int .i64 1], .cells .last [.int .i64 1, .int .i64 0], .cells .last [.int .i64 1, .int .i64 0], .cells .last [.int .i64 0, .int .i64 2], .cells .last [.int .i64 0, .int .i64 0], .cells .grow [.slc 9 0 2 2 1 false, .slc 8 0 2 2 1 false, .int .u8 0, .int .i64 5, .slc 7 0 2 2 1 false, .slc 6 0 2 2 1 false, .int .u8 0, .int .i64 5, .slc 5 0 2 2 1 false, .slc 4 0 2 2 1 false, .int .u8 0, .int .i64 7, .slc 3 0 2 2 1 false, .slc 2 0 2 2 1 false, .int .u8 1, .int .i64 0], .cells .own [.int .i64 2, .int .i64 3], .cells .own [.int .i64 1, .int .i64 2], .cells .own [.int .i64 1, .int .i64 2], .cells .own [.int .i64 1, .int .i64 1], .cells .own [.int .i64 1, .int .i64 1], .cells .own [.int .i64 0, .int .i64 2], .cells .own [.int .i64 0, .int .i64 1], .cells .own [.int .i64 1, .int .i64 0], .cells .own [.int .i64 0, .int .i64 0], .cells .own [.slc 19 0 2 2 1 true, .slc 18 0 2 2 1 true, .int .u8 0, .int .i64 5, .slc 17 0 2 2 1 true, .slc 16 0 2 2 1 true, .int .u8 0, .int .i64 5, .slc 15 0 2 2 1 true, .slc 14 0 2 2 1 true, .int .u8 0, .int .i64 7, .slc 13 0 2 2 1 true, .slc 12 0 2 2 1 true, .int .u8 1, .int .i64 0], .cells .last [.int .i64 1, .int .i64 2], .cells .last [.int .i64 1, .int .i64 2], .cells .last [.int .i64 1, .int .i64 1], .cells .last [.int .i64 1, .int .i64 1], .cells .last [.int .i64 1, .int .i64 0], .cells .last [.int .i64 1, .int .i64 0], .cells .last [.int .i64 0, .int .i64 2], .cells .last [.int .i64 0, .int .i64 0], .cells .grow [.slc 28 0 2 2 1 false, .slc 27 0 2 2 1 false, .int .u8 0, .int .i64 5, .slc 26 0 2 2 1 false, .slc 25 0 2 2 1 false, .int .u8 0, .int .i64 5, .slc 24 0 2 2 1 false, .slc 23 0 2 2 1 false, .int .u8 0, .int .i64 7, .slc 22 0 2 2 1 false, .slc 21 0 2 2 1 false, .int .u8 1, .int .i64 0], .cells .own [.int .i64 2, .int .i64 3], .cells .own [.int .i64 1, .int .i64 2], .cells .own [.int .i64 1, .int .i64 2], .cells .own [.int .i64 1, .int .i64 1], .cells .own [.int .i64 1, .int .i64 1], .cells .own [.int .i64 0, .int .i64 2], .cells .own [.int .i64 0, .int .i64 1], .cells .own [.int .i64 1, .int .i64 0], .cells .own [.int .i64 0, .int .i64 0], .cells .own [.slc 38 0 2 2 1 true, .slc 37 0 2 2 1 true, .int .u8 0, .int .i64 5, .slc 36 0 2 2 1 true, .slc 35 0 2 2 1 true, .int .u8 0, .int .i64 5, .slc 34 0 2 2 1 true, .slc 33 0 2 2 1 true, .int .u8 0, .int .i64 7, .slc 32 0 2 2 1 true, .slc 31 0 2 2 1 true, .int .u8 1, .int .i64 0], .cells .last [.int .i64 1, .int .i64 2], .cells .last [.int .i64 1, .int .i64 0], .cells .last [.int .i64 0, .int .i64 2], .cells .last [.int .i64 0, .int .i64 0], .cells .grow [.slc 43 0 2 2 1 false, .slc 42 0 2 2 1 false, .int .u8 0, .int .i64 5, .slc 41 0 2 2 1 false, .slc 40 0 2 2 1 false, .int .u8 0, .int .i64 7], .cells .own [.int .i64 2, .int .i64 3], .cells .own [.int .i64 1, .int .i64 2], .cells .own [.int .i64 1, .int .i64 2], .cells .own [.int .i64 1, .int .i64 1], .cells .own [.int .i64 1, .int .i64 1], .cells .own [.int .i64 0, .int .i64 2], .cells .own [.int .i64 0, .int .i64 1], .cells .own [.int .i64 1, .int .i64 0], .cells .own [.int .i64 0, .int .i64 0], .cells .own [.slc 53 0 2 2 1 true, .slc 52 0 2 2 1 true, .int .u8 0, .int .i64 5, .slc 51 0 2 2 1 true, .slc 50 0 2 2 1 true, .int .u8 0, .int .i64 5, .slc 49 0 2 2 1 true, .slc 48 0 2 2 1 true, .int .u8 0, .int .i64 7, .slc 47 0 2 2 1 true, .slc 46 0 2 2 1 true, .int .u8 1, .int .i64 0], .cells .own [.int .i64 2, .int .i64 3], .cells .own [.int .i64 1, .int .i64 2], .cells .own [.int .i64 1, .int .i64 2], .cells .own [.int .i64 1, .int .i64 1], .cells .own [.int .i64 1, .int .i64 1], .cells .own [.int .i64 0, .int .i64 2], .cells .own [.int .i64 0, .int .i64 1], .cells .own [.int .i64 1, .int .i64 0], .cells .own [.int .i64 0, .int .i64 0], .cells .own [.slc 63 0 2 2 1 true, .slc 62 0 2 2 1 true, .int .u8 0, .int .i64 5, .slc 61 0 2 2 1 true, .slc 60 0 2 2 1 true, .int .u8 0, .int .i64 5, .slc 59 0 2 2 1 true, .slc 58 0 2 2 1 true, .int .u8 0, .int .i64 7, .slc 57 0 2 2 1 true, .slc 56 0 2 2 1 true, .int .u8 1, .int .i64 0], .cells .own [.int .i64 2, .int .i64 3], .cells .own [.int .i64 1, .int .i64 2], .cells .own [.int .i64 1, .int .i64 2], .cells .own [.int .i64 1, .int .i64 1], .cells .own [.int .i64 1, .int .i64 1], .cells .own [.int .i64 1, .int .i64 0], .cells .own [.int .i64 1, .int .i64 0], .cells .own [.int .i64 0, .int .i64 2], .cells .own [.int .i64 0, .int .i64 0], .cells .own [.slc 73 0 2 2 1 true, .slc 72 0 2 2 1 true, .int .u8 0, .int .i64 5, .slc 71 0 2 2 1 true, .slc 70 0 2 2 1 true, .int .u8 0, .int .i64 5, .slc 69 0 2 2 1 true, .slc 68 0 2 2 1 true, .int .u8 0, .int .i64 7, .slc 67 0 2 2 1 true, .slc 66 0 2 2 1 true, .int .u8 1, .int .i64 0], .cells .own [.slc 74 0 4 4 4 true], .cells .last [.int .i64 1, .int .i64 2], .cells .last [.int .i64 1, .int .i64 2], .cells .last [.int .i64 1, .int .i64 1], .cells .last [.int .i64 1, .int .i64 0], .cells .last [.int .i64 0, .int .i64 2], .cells .last [.int .i64 0, .int .i64 0], .cells .grow [.slc 81 0 2 2 1 false, .slc 80 0 2 2 1 false, .int .u8 0, .int .i64 0, .slc 79 0 2 2 1 false, .slc 78 0 2 2 1 false, .int .u8 0, .int .i64 0, .slc 77 0 2 2 1 false, .slc 76 0 2 2 1 false, .int .u8 1, .int .i64 0], .cells .own [.int .i64 2], .cells .own [.int .u8 3, .int .i64 0, .int .i64 0, .int .i64 0, .int .i64 0, .int .u8 3, .int .i64 0, .int .i64 0, .int .i64 0, .int .i64 1, .int .u8 10, .int .i64 0, .int .i64 1, .int .i64 0, .int .i64 0], .cells .own [.str ⟨#[100]⟩, .int .i64 1, .int .i64 2, .str ⟨#[101]⟩, .int .i64 0, .int .i64 2], .cells .last [.int .i64 1, .int .i64 2], .cells .last [.int .i64 1, .int .i64 2], .cells .last [.int .i64 1, .int .i64 1], .cells .last [.int .i64 1, .int .i64 1], .cells .last [.int .i64 1, .int .i64 0], .cells .last [.int .i64 1, .int .i64 0], .cells .last [.int .i64 0, .int .i64 2], .cells .last [.int .i64 0, .int .i64 2], .cells .last [.int .i64 0, .int .i64 1], .cells .last [.int .i64 0, .int .i64 1], .cells .last [.int .i64 0, .int .i64 0], .cells .last [.int .i64 0, .int .i64 0], .cells .grow [.slc 97 0 2 2 1 false, .slc 96 0 2 2 1 false, .int .u8 1, .int .i64 0, .slc 95 0 2 2 1 false, .slc 94 0 2 2 1 false, .int .u8 0, .int .i64 1, .slc 93 0 2 2 1 false, .slc 92 0 2 2 1 false, .int .u8 0, .int .i64 0, .slc 91 0 2 2 1 false, .slc 90 0 2 2 1 false, .int .u8 1, .int .i64 0, .slc 89 0 2 2 1 false, .slc 88 0 2 2 1 false, .int .u8 0, .int .i64 2, .slc 87 0 2 2 1 false, .slc 86 0 2 2 1 false, .int .u8 0, .int .i64 1], .cells .own [.slc 98 0 6 6 4 false], .cells .own [.int .i64 1, .int .i64 2], .cells .own [.int .i64 1, .int .i64 2], .cells .own [.int .i64 1, .int .i64 1], .cells .own [.int .i64 1, .int .i64 1], .cells .own [.int .i64 1, .int .i64 0], .cells .own [.int .i64 1, .int .i64 0], .cells .own [.int .i64 0, .int .i64 2], .cells .own [.int .i64 0, .int .i64 0], .cells .own [.slc 107 0 2 2 1 true, .slc 106 0 2 2 1 true, .int .u8 0, .int .i64 5, .slc 105 0 2 2 1 true, .slc 104 0 2 2 1 true, .int .u8 0, .int .i64 5, .slc 103 0 2 2 1 true, .slc 102 0 2 2 1 true, .int .u8 0, .int .i64 7, .slc 101 0 2 2 1 true, .slc 100 0 2 2 1 true, .int .u8 1, .int .i64 0], .cells .own [.int .i64 2, .int .i64 3], .cells .own [.int .i64 1, .int .i64 0], .cells .own [.int .u8 0, .int .i64 5, .int .u8 0, .int .i64 5, .int .u8 0, .int .i64 5, .int .u8 0, .int .i64 5, .int .u8 0, .int .i64 8, .int .u8 1, .int .i64 0], .cells .grow [.int .i64 (-1), .int .i64 0, .int .i64 1], .cells .grow [.int .i64 (-1), .int .i64 (-3)], .cells .grow [.int .i64 (-1), .int .i64 (-2)], .cells .grow [.int .i64 0, .slc 114 0 2 2 1 false, .int .i64 0, .slc 113 0 2 2 1 false, .int .i64 1, .slc 112 0 3 3 1 false], .cells .grow [.int .u8 0, .int .i64 5, .int .u8 0, .int .i64 8, .int .u8 1, .int .i64 0], .cells .own [.int .i64 1, .int .i64 0], .cells .own [.int .i64 2, .int .i64 3], .cells .own [.int .i64 1, .int .i64 1]], []⟩
def Aw5 : St := ⟨[(1, .loc 0 0), (2, .val (.int .i64 0)), (3, .loc 1 0), (4, .val (.int .i64 0)), (5, .loc 2 0), (6, .val (.int .i64 0)), (7, .val (.int .i64 4)), (8, .val (.int .i64 0)), (9, .loc 3 0), (10, .val (.int .i64 0)), (11, .loc 4 0), (12, .val (.int .i64 0)), (13, .val (.slc 99 0 1 1 1 false)), (14, .val (.int .i64 0)), (15, .val (.slc 119 0 2 2 1 true)), (16, .val (.int .i64 0)), (17, .loc 5 0), (18, .val (.int .i64 0))], [[.slc 10 0 4 4 4 false], [.slc 29 0 4 4 4 false], [.slc 44 0 2 2 4 false], [.int .i64 5, .int .i64 7, .int .u8 1], [.slc 82 0 3 3 4 false], [.int .u8 1, .int .i64 0]], [.cells .own [.int .i64 2, .int .i64 3], .cells .own [.int .u8 0, .int .i64 5, .int .u8 0, .int .i64 5, .int .u8 0, .int .i64 5, .int .u8 0, .int .i64 5, .int .u8 0, .int .i64 7, .int .u8 1, .int .i64 0], .cells .last [.int .i64 1, .int .i64 2], .cells .last [.int .i64 1, .int .i64 2], .cells .last [.int .i64 1, .int .i64 1], .cells .last [.int .i64 1, .int .i64 1], .cells .last [.int .i64 1, .int .i64 0], .cells .last [.int .i64 1, .int .i64 0], .cells .last [.int .i64 0, .int .i64 2], .cells .last [.int .i64 0, .int .i64 0], .cells .grow [.slc 9 0 2 2 1 false, .slc 8 0 2 2 1 false, .int .u8 0, .int .i64 5, .slc 7 0 2 2 1 false, .slc 6 0 2 2 1 false, .int .u8 0, .int .i64 5, .slc 5 0 2 2 1 false, .slc 4 0 2 2 1 false, .int .u8 0, .int .i64 7, .slc 3 0 2 2 1 false, .slc 2 0 2 2 1 false, .int .u8 1, .int .i64 0], .cells .own [.int .i64 2, .int .i64 3], .cells .own [.int .i64 1, .int .i64 2], .cells .own [.int .i64 1, .int .i64 2], .cells .own [.int .i64 1, .int .i64 1], .cells .own [.int .i64 1, .int .i64 1], .cells .own [.int .i64 0, .int .i64 2], .cells .own [.int .i64 0, .int .i64 1], .cells .own [.int .i64 1, .int .i64 0], .cells .own [.int .i64 0, .int .i64 0], .cells .own [.slc 19 0 2 2 1 true, .slc 18 0 2 2 1 true, .int .u8 0, .int .i64 5, .slc 17 0 2 2 1 true, .slc 16 0 2 2 1 true, .int .u8 0, .int .i64 5, .slc 15 0 2 2 1 true, .slc 14 0 2 2 1 true, .int .u8 0, .int .i64 7, .slc 13 0 2 2 1 true, .slc 12 0 2 2 1 true, .int .u8 1, .int .i64 0], .cells .last [.int .i64 1, .int .i64 2], .cells .last [.int .i64 1, .int .i64 2], .cells .last [.int .i64 1, .int .i64 1], .cells .last [.int .i64 1, .int .i64 1], .cells .last [.int .i64 1, .int .i64 0], .cells .last [.int .i64 1, .int .i64 0], .cells .last [.int .i64 0, .int .i64 2], .cells .last [.int .i64 0, .int .i64 0], .cells .grow [.slc 28 0 2 2 1 false, .slc 27 0 2 2 1 false, .int .u8 0, .int .i64 5, .slc 26 0 2 2 1 false, .slc 25 0 2 2 1 false, .int .u8 0, .int .i64 5, .slc 24 0 2 2 1 false, .slc 23 0 2 2 1 false, .int .u8 0, .int .i64 7, .slc 22 0 2 2 1 false, .slc 21 0 2 2 1 false, .int .u8 1, .int .i64 0], .cells .own [.int .i64 2, .int .i64 3], .cells .own [.int .i64 1, .int .i64 2], .cells .own [.int .i64 1, .int .i64 2], .cells .own [.int .i64 1, .int .i64 1], .cells .own [.int .i64 1, .int .i64 1], .cells .own [.int .i64 0, .int .i64 2], .cells .own [.int .i64 0, .int .i64 1], .cells .own [.int .i64 1, .int .i64 0], .cells .own [.int .i64 0, .int .i64 0], .cells .own [.slc 38 0 2 2 1 true, .slc 37 0 2 2 1 true, .int .u8 0, .int .i64 5, .slc 36 0 2 2 1 true, .slc 35 0 2 2 1 true, .int .u8 0, .int .i64 5, .slc 34 0 2 2 1 true, .slc 33 0 2 2 1 true, .int .u8 0, .int .i64 7, .slc 32 0 2 2 1 true, .slc 31 0 2 2 1 true, .int .u8 1, .int .i64 0], .cells .last [.int .i64 1, .int .i64 2], .cells .last [.int .i64 1, .int .i64 0], .cells .last [.int .i64 0, .int .i64 2], .cells .last [.int .i64 0, .int .i64 0], .cells .grow [.slc 43 0 2 2 1 false, .slc 42 0 2 2 1 false, .int .u8 0, .int .i64 5, .slc 41 0 2 2 1 false, .slc 40 0 2 2 1 false, .int .u8 0, .int .i64 7], .cells .own [.int .i64 2, .int .i64 3], .cells .own [.int .i64 1, .int .i64 2], .cells .own [.int .i64 1, .int .i64 2], .cells .own [.int .i64 1, .int .i64 1], .cells .own [.int .i64 1, .int .i64 1], .cells .own [.int .i64 0, .int .i64 2], .cells .own [.int .i64 0, .int .i64 1], .cells .own [.int .i64 1, .int .i64 0], .cells .own [.int .i64 0, .int .i64 0], .cells .own [.slc 53 0 2 2 1 true, .slc 52 0 2 2 1 true, .int .u8 0, .int .i64 5, .slc 51 0 2 2 1 true, .slc 50 0 2 2 1 true, .int .u8 0, .int .i64 5, .slc 49 0 2 2 1 true, .slc 48 0 2 2 1 true, .int .u8 0, .int .i64 7, .slc 47 0 2 2 1 true, .slc 46 0 2 2 1 true, .int .u8 1, .int .i64 0], .cells .own [.int .i64 2, .int .i64 3], .cells .own [.int .i64 1, .int .i64 2], .cells .own [.int .i64 1, .int .i64 2], .cells .own [.int .i64 1, .int .i64 1], .cells .own [.int .i64 1, .int .i64 1], .cells .own [.int .i64 0, .int .i64 2], .cells .own [.int .i64 0, .int .i64 1], .cells .own [.int .i64 1, .int .i64 0], .cells .own [.int .i64 0, .int .i64 0], .cells .own [.slc 63 0 2 2 1 true, .slc 62 0 2 2 1 true, .int .u8 0, .int .i64 5, .slc 61 0 2 2 1 true, .slc 60 0 2 2 1 true, .int .u8 0, .int .i64 5, .slc 59 0 2 2 1 true, .slc 58 0 2 2 1 true, .int .u8 0, .int .i64 7, .slc 57 0 2 2 1 true, .slc 56 0 2 2 1 true, .int .u8 1, .int .i64 0], .cells .own [.int .i64 2, .int .i64 3], .cells .own [.int .i64 1, .int .i64 2], .cells .own [.int .i64 1, .int .i64 2], .cells .own [.int .i64 1, .int .i64 1], .cells .own [.int .i64 1, .int .i64 1], .cells .own [.int .i64 1, .int .i64 0], .cells .own [.int .i64 1, .int .i64 0], .cells .own [.int .i64 0, .int .i64 2], .cells .own [.int .i64 0, .int .i64 0], .cells .own [.slc 73 0 2 2 1 true, .slc 72 0 2 2 1 true, .int .u8 0, .int .i64 5, .slc 71 0 2 2 1 true, .slc 70 0 2 2 1 true, .int .u8 0, .int .i64 5, .slc 69 0 2 2 1 true, .slc 68 0 2 2 1 true, .int .u8 0, .int .i64 7, .slc 67 0 2 2 1 true, .slc 66 0 2 2 1 true, .int .u8 1, .int .i64 0], .cells .own [.slc 74 0 4 4 4 true], .cells .last [.int .i64 1, .int .i64 2], .cells .last [.int .i64 1, .int .i64 2], .cells .last [.int .i64 1, .int .i64 1], .cells .last [.int .i64 1, .int .i64 0], .cells .last [.int .i64 0, .int .i64 2], .cells .last [.int .i64 0, .int .i64 0], .cells .grow [.slc 81 0 2 2 1 false, .slc 80 0 2 2 1 false, .int .u8 0, .int .i64 0, .slc 79 0 2 2 1 false, .slc 78 0 2 2 1 false, .int .u8 0, .int .i64 0, .slc 77 0 2 2 1 false, .slc 76 0 2 2 1 false, .int .u8 1, .int .i64 0], .cells .own [.int .i64 2], .cells .own [.int .u8 3, .int .i64 0, .int .i64 0, .int .i64 0, .int .i64 0, .int .u8 3, .int .i64 0, .int .i64 0, .int .i64 0, .int .i64 1, .int .u8 10, .int .i64 0, .int .i64 1, .int .i64 0, .int .i64 0], .cells .own [.str ⟨#[100]⟩, .int .i64 1, .int .i64 2, .str ⟨#[101]⟩, .int .i64 0, .int .i64 2], .cells .last [.int .i64 1, .int .i64 2], .cells .last [.int .i64 1, .int .i64 2], .cells .last [.int .i64 1, .int .i64 1], .cells .last [.int .i64 1, .int .i64 1], .cells .last [.int .i64 1, .int .i64 0], .cells .last [.int .i64 1, .int .i64 0], .cells .last [.int .i64 0, .int .i64 2], .cells .last [.int .i64 0, .int .i64 2], .cells .last [.int .i64 0, .int .i64 1], .cells .last [.int .i64 0, .int .i64 1], .cells .last [.int .i64 0, .int .i64 0], .cells .last [.int .i64 0, .int .i64 0], .cells .grow [.slc 97 0 2 2 1 false, .slc 96 0 2 2 1 false, .int .u8 1, .int .i64 0, .slc 95 0 2 2 1 false, .slc 94 0 2 2 1 false, .int .u8 0, .int .i64 1, .slc 93 0 2 2 1 false, .slc 92 0 2 2 1 false, .int .u8 0, .int .i64 0, .slc 91 0 2 2 1 false, .slc 90 0 2 2 1 false, .int .u8 1, .int .i64 0, .slc 89 0 2 2 1 false, .slc 88 0 2 2 1 false, .int .u8 0, .int .i64 2, .slc 87 0 2 2 1 false, .slc 86 0 2 2 1 false, .int .u8 0, .int .i64 1], .cells .own [.slc 98 0 6 6 4 false], .cells .own [.int .i64 1, .int .i64 2], .cells .own [.int .i64 1, .int .i64 2], .cells .own [.int .i64 1, .int .i64 1], .cells .own [.int .i64 1, .int .i64 1], .cells .own [.int .i64 1, .int .i64 0], .cells .own [.int .i64 1, .int .i64 0], .cells .own [.int .i64 0, .int .i64 2], .cells .own [.int .i64 0, .int .i64 0], .cells .own [.slc 107 0 2 2 1 true, .slc 106 0 2 2 1 true, .int .u8 0, .int .i64 5, .slc 105 0 2 2 1 true, .slc 104 0 2 2 1 true, .int .u8 0, .int .i64 5, .slc 103 0 2 2 1 true, .slc 102 0 2 2 1 true, .int .u8 0, .int .i64 7, .slc 101 0 2 2 1 true, .slc 100 0 2 2 1 true, .int .u8 1, .int .i64 0], .cells .own [.int .i64 2, .int .i64 3], .cells .own [.int .i64 1, .int .i64 0], .cells .own [.int .u8 0, .int .i64 5, .int .u8 0, .int .i64 5, .int .u8 0, .int .i64 5, .int .u8 0, .int .i64 5, .int .u8 0, .int .i64 8, .int .u8 1, .int .i64 0], .cells .grow [.int .i64 (-1), .int .i64 0, .int .i64 1], .cells .grow [.int .i64 (-1), .int .i64 (-3)], .cells .grow [.int .i64 (-1), .int .i64 (-2)], .cells .grow [.int .i64 0, .slc 114 0 2 2 1 false, .int .i64 0, .slc 113 0 2 2 1 false, .int .i64 1, .slc 112 0 3 3 1 false], .cells .grow [.int .u8 0, .int .i64 5, .int .u8 0, .int .i64 8, .int .u8 1, .int .i64 0], .cells .own [.int .i64 1, .int .i64 0], .cells .own [.int .i64 2, .int .i64 3], .cells .own [.int .i64 1, .int .i64 1], .cells .own [.int .i64 2, .int .i64 3], .cells .own [.int .i64 1, .int .i64 2], .cells .own [.int .i64 1, .int .i64 2], .cells .own [.int .i64 1, .int .i64 1], .cells .own [.int .i64 1, .int .i64 1], .cells .own [.int .i64 0, .int .i64 2], .cells .own [.int .i64 0, .int .i64 1], .cells .own [.int .i64 1, .int .i64 0], .cells .own [.int .i64 0, .int .i64 0], .cells .own [.slc 128 0 2 2 1 true, .slc 127 0 2 2 1 true, .int .u8 0, .int .i64 5, .slc 126 0 2 2 1 true, .slc 125 0 2 2 1 true, .int .u8 0, .int .i64 5, .slc 124 0 2 2 1 true, .slc 123 0 2 2 1 true, .int .u8 0, .int .i64 7, .slc 122 0 2 2 1 true, .slc 121 0 2 2 1 true, .int .u8 1, .int .i64 0], .cells .own [.int .i64 1, .int .i64 2]], []⟩
theorem Awr1 : runH Tryz.prog T0 (apF Tryz.prog T0 4096 60) 4096 16 (ntF Tryz.prog 16) 4 (bdF Tryz.prog 16) ⟨[], [], [], []⟩ = some Aw1 := by kernel_rfl
theorem Awr2 : runH Tryz.prog T0 (apF Tryz.prog T0 4096 60) 4096 16 (ntF Tryz.prog 16) 3 (tlN 4 (bdF Tryz.prog 16)) Aw1 = some Aw2 := by kernel_rfl
theorem Awr3 : runH Tryz.prog T0 (apF Tryz.prog T0 4096 60) 4096 16 (ntF Tryz.prog 16) 1 (tlN 3 (tlN 4 (bdF Tryz.prog 16))) Aw2 = some Aw3 := by kernel_rfl
theorem Awr4 : runH Tryz.prog T0 (apF Tryz.prog T0 4096 60) 4096 16 (ntF Tryz.prog 16) 1 (tlN 1 (tlN 3 (tlN 4 (bdF Tryz.prog 16)))) Aw3 = some Aw4 := by kernel_rfl
theorem Awr5 : runH Tryz.prog T0 (apF Tryz.prog T0 4096 60) 4096 16 (ntF Tryz.prog 16) 1 (tlN 1 (tlN 1 (tlN 3 (tlN 4 (bdF Tryz.prog 16))))) Aw4 = some Aw5 := by kernel_rfl
theorem Aw_end : endT Tryz.prog 16 (execF Tryz.prog T0 (apF Tryz.prog T0 4096 60) 4096 16 false 0 (ntF Tryz.prog 16) (tlN 1 (tlN 1 (tlN 1 (tlN 3 (tlN 4 (bdF Tryz.prog 16)))))) Aw5) = true := by kernel_rfl
theorem Aw_ok : isT (funF Tryz.prog T0 (apF Tryz.prog T0 4096 60) 4096 16 [] []) = true := endT_ok (runH_ok Awr1 (runH_ok Awr2 (runH_ok Awr3 (runH_ok Awr4 (runH_ok Awr5 (Eq.refl (execF Tryz.prog T0 (apF Tryz.prog T0 4096 60) 4096 16 false 0 (ntF Tryz.prog 16) (tlN 1 (tlN 1 (tlN 1 (tlN 3 (tlN 4 (bdF Tryz.prog 16)))))) Aw5))))))) Aw_end
end Go.Proofs.YtmefgijobonklaaGreat
namespace Go.Proofs.YtmefgijobonklaaGreat
open Go Tw Go.ChangeShapes Go.WideShapes Go.ChangeAt Go.RowKit
theorem Tryz.own : ownKnob Tryz.prog.godebug = none := by kernel_rfl
theorem Tryz.laidOut : laidOutB Tryz.prog = true := by kernel_rfl
theorem Tryz.mixed : Tryz.prog.follows .mixedOrders = true := by kernel_rfl
theorem ext_ok : CallOk Tryz.prog T.ext := extT_ok (closT_ok (T := T0) Tryz.mixed ext0_ok Aw_ok)
end Go.Proofs.YtmefgijobonklaaGreat
namespace Go.Proofs.YtmefgijobonklaaGreat
open Go Tw Pv Go.ChangeShapes Go.WideShapes Go.ChangeAt Go.RowKit
theorem Tryz.tys3 : Tryz.f3.params.toList = [22, 23] := by kernel_rfl
theorem agIs : isAggT Tryz.prog 22 = some false := by kernel_rfl
theorem agVs : isAggT Tryz.prog 23 = some false := by kernel_rfl
set_option maxRecDepth 100000 in
theorem TableOf_lifted (os : Os) (started : os.Started) (H : Type) (enc : TypeId × Value → H) :
  ReturnsInHanded {} Tryz.checked os 3 .any (Rows.tableOfSpec.pre6 enc Tryz.prog Tryz.f3 Rows.tableOfRow.domain false) (Rows.tableOfSpec.post enc Tryz.prog Tryz.f3 false true false false) := by
 refine returnsInHanded_of_change (C := Tryz.checked) Tryz.own started (by kernel_rfl) Tryz.func3
  (ChangeSpec.witness6 (enc := enc) (C := Tryz.checked) false ⟨#[], #[.slice none 0 0, .slice none 0 0], []⟩ 8 (by kernel_rfl) (by kernel_rfl) (by kernel_rfl) (by kernel_rfl)) ?_
 intro W base args ds gs before hval0 hW hcnd _
 have hval : ∀ (j : Nat) t v, Tryz.f3.params[j]? = some t → args[j]? = some v → Value.okWide Tryz.prog W .any base t v := hval0
 have hW' := hW
 obtain ⟨p, q, hTA0, hV, rfl, hfz, hnd⟩ := hW
 have hTA : DataW.TrodAll enc Tryz.prog W 0 (fun _ => true) true Tryz.f3.params.toList args.toList ds p := hTA0
 obtain ⟨rfl, rfl⟩ := trodVars_none hV
 rw [Tryz.tys3] at hTA
 obtain ⟨d0, _, rfl, r0, _, _, hTA⟩ := trodAll_n hTA
 obtain ⟨d1, rfl, r1⟩ := trodAll_1 hTA
 obtain ⟨s, _, hs⟩ := rInts (g := 4) d0 r0
 obtain ⟨l, ql, hl⟩ := rVals (g := 3) d1 r1
 obtain ⟨x0, e0, g0, v0⟩ := hs []
 obtain ⟨x1, e1, g1, v1⟩ := hl ([] ++ e0)
 have w0 := v0 e1
 have w1 := v1 []
 rw [List.append_nil] at w1
 obtain ⟨y0, _, rfl, u0, z0⟩ := w0.inv
 cases z0.inv0
 obtain ⟨y1, _, rfl, u1, z1⟩ := w1.inv
 cases z1.inv0
 obtain ⟨N, hN⟩ := gc3
 have hcon := hN (N + 1) (by omega) 3 ((a2 isA vsA).put (s, l)) (tA.put true) [] [∀ v ∈ l, 0 ≤ v.f] rfl (by
  intro p hp
  simp only [List.mem_cons, List.not_mem_nil, or_false] at hp
  subst hp
  exact fun v hv => (ql v hv).1)
 obtain ⟨h', hr⟩ := run_of hcon (.cons u0 (.cons u1 .nil))
 exact law_callsN (P := Tryz.prog) (T := T) (L := LL) (n := N) (g := 6) Tryz.mixed Tryz.laidOut rfl rfl (by kernel_rfl) Tryz.underlying4 (by kernel_rfl) hW' hval
  (by rw [Tryz.tys3]; exact (encA_o agIs g0 (encA_o agVs g1 encA_0))) ext_ok (by kernel_rfl) hr
theorem TableOf_holds : Rows.TableOfSaid :=
 OpenClaim.holds_of_wide 3 Tryz.f3 rfl rfl rfl rfl rfl rfl rfl ⟨rfl, rfl, rfl, rfl, rfl⟩ rfl rfl rfl rfl rfl (by kernel_rfl) Tryz.func3 (by kernel_rfl)
  (of_decide_eq_true (by kernel_rfl)) (by unfold Func.isWrapper; first | (rw [if_pos (by decide +kernel)]; kernel_rfl) | (rw [if_neg (by decide +kernel)]; exact ⟨rfl, rfl⟩))
  (fun os started H enc _ => TableOf_lifted os started H enc)
end Go.Proofs.YtmefgijobonklaaGreat
