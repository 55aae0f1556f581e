/- The statement TableRows: the numbers of places of all rows are those of all places together, and so is Many of all cells, and the cell of a place is that of the row that has it (tables within the statement's bounds). -/
import Derived.ProofKit
import Derived.Test.YtmefgijobonklaaGreatRows
import Derived.Test.YtmefgijobonklaaGreatPd
set_option linter.constructorNameAsVariable false
set_option linter.unusedVariables false
set_option linter.unusedSimpArgs false
set_option linter.unusedSectionVars false
namespace Go.Proofs.YtmefgijobonklaaGreat
open Go Tw Pv Mist
theorem cEqV {n : Nat} (hO : Ok n oc160) {A : Nat → Prop} {h : List HB} (hA : ∀ b, h.length ≤ b → A b) {a b : List V} {va vb : TV} (ha : VRV A h (lstV a) va) (hb : VRV A h (lstV b) vb) (hl : a.length ≤ most) :
  ∃ h', ApN n (.fn 160 [] []) [va, vb] h = some (.bool (decide (a = b)), h', []) ∧ Stay h h' [] := by
 have hc : Con X0 Tryz.prog (ApN n) 160 [lstV a, lstV b] (tA.put (decide (a = b))) [] := hO 160 [lstV a, lstV b] (tA.put (decide (a = b))) [] [a.length ≤ most] (by kernel_rfl) (fun q hq => by rw [List.mem_singleton.1 hq]; exact hl)
 obtain ⟨x, h', m', c1, c2, c3, c4⟩ := hc (AA A []) h [] [va, vb] [] (fun b hb => ⟨hA b hb, by simp [blks]⟩) (.cons ha (.cons hb .nil))
 have hm : m' = [] := List.length_eq_zero_iff.1 c2.len
 subst hm
 have c3 : x = .bool (decide (a = b)) := by
  have c3 : Pv.VR X0 Tryz.prog (AA (AA A []) []) [] h' (.bool (decide (a = b))) x := c3
  cases c3 with
  | bool => rfl
  | gone hi _ _ => simp [idOf] at hi
 subst c3
 exact ⟨h', c1, c4.len, fun b hb _ => c4.same b hb (by simp [blks])⟩
theorem VRV.rd {A : Nat → Prop} {h : List HB} {l : List Int} {b off n cap : Nat} {ex : Bool} (hv : VRV A h (lstI l) (.slc b off n cap 1 ex)) {j : Nat} (hj : j < l.length) : rdAt false 1 h b (off + j * 1) (off + cap * 1) = some (.int .i64 (l.getD j 0)) ∧ n = l.length := by
 rcases lst_SlR hv szInt with ⟨e, _⟩ | ⟨b', off', cap', ex', cs, e, h1, h2, h3, h4⟩
 ·cases e
 ·cases e
  have hne : l ≠ [] := fun e => by rw [e] at hj; simp at hj
  have h3 := h3 hne
  refine ⟨?_, rfl⟩
  unfold rdAt
  rw [h3]
  simp only []
  have h9 : l.length ≤ cap := h1
  have hlen := h4.2.1
  have hlen : off + l.length * 1 ≤ cs.length := hlen
  rw [if_pos (by omega)]
  simp only [Bool.false_eq_true, if_false, if_true]
  have hlt : off + j * 1 < cs.length := by omega
  have := h4.2.2 j (l.getD j 0) 0 (.int .i64 (l.getD j 0)) cs[off + j * 1] (by show l[j]? = some (l.getD j 0); rw [List.getD_eq_getElem?_getD, List.getElem?_eq_getElem hj]; rfl) rfl (by rw [Nat.add_zero]; exact List.getElem?_eq_getElem hlt)
  rw [List.getElem?_eq_getElem hlt, this.int_inv]
abbrev WT (h : List HB) (vs vo : TV) (b3 b6 : Nat) (j : Nat) (t : Int) : St := ⟨[(0, .val vs), (5, .val vo), (7, .val (clR b3 b6)), (8, .val (.int .i64 (j : Nat))), (9, .val (.int .i64 t))], [], h, []⟩
noncomputable abbrev RdT (N fl m : Nat) (s : St) : Option (Ex × St) := rounds Tryz.prog T (ApN N) LL 115 1 fl m s
noncomputable abbrev hdT (s : St) : St := headOf Tryz.prog T 115 1 s
theorem lTo {N fl : Nat} (hO : ∀ m, N ≤ m → Ok m oc160) {A : Nat → Prop} {s : List Int} {l : List V} {vs vc vo : TV} {b3 b6 w n j : Nat} (hP : Prt l w n) (hw : 0 < w) (hj : j < n) : ∀ (m t : Nat) (h : List HB) (st : St), (∀ b, h.length ≤ b → A b) → VRV A h (lstI ((n : Int) :: s)) vs → VRV A h (lstV l) vc → h[b3]? = some (.cells .own [vc]) → h[b6]? = some (.cells .own [.int .i64 w]) →
  hdT st = WT h vs vo b3 b6 j (t : Nat) → t < n → n ≤ m + t →
  ∃ h', RdT (N + 1) fl (m + 1) st = some (.exit 2, ⟨(WT h' vs vo b3 b6 j (rEnd l w n (blk l w j) m t : Nat)).env ++ [(50, .val (.bool false))], [], h', []⟩) ∧ Stay h h' [] := by
 intro m
 induction m with
 | zero => intro t h st _ _ _ _ _ _ ht hm; omega
 | succ m ih =>
  intro t h st hA hs hc h3 h6 hst ht hm
  have h12 := hP.n12
  obtain ⟨bs, os, cs, ex, rfl⟩ := hs.slc szInt (fun e => by cases e)
  have hr := hs.rd (j := 0) (by simp)
  have hr0 : rdAt false 1 h bs (os + 0 * 1) (os + cs * 1) = some (.int .i64 (n : Int)) := hr.1
  have hix : idx ((n : Int) :: s).length (.int .i64 0) = some 0 := by
   show (if 0 ≤ (0 : Int) ∧ (0 : Int) < (((n : Int) :: s).length : Nat) then some (0 : Int).toNat else none) = _
   rw [if_pos ⟨by omega, by simp only [List.length_cons]; omega⟩]; rfl
  have e1 : IntKind.i64.wrap ((t : Int) + 1) = ((t + 1 : Nat) : Int) := wsucc (m20 (by omega))
  unfold rEnd
  by_cases c : t + 1 < n
  ·have t1 : decide (IntKind.i64.wrap ((t : Int) + 1) < (n : Int)) = true := by rw [e1]; exact lt_nat c
   obtain ⟨v1, a1, a2⟩ := cBlk (n := N) hA hc hP hw hj h3 h6
   obtain ⟨v2, b1, b2⟩ := cBlk (n := N) hA hc hP hw c h3 h6
   rw [← e1] at b1
   obtain ⟨h', d1, d2⟩ := cEqV (hO (N + 1) (by omega)) hA a2 b2 (hP.mo hj)
   by_cases q : blk l w j = blk l w (t + 1)
   ·have t2 : decide (blk l w j = blk l w (t + 1)) = true := by simpa using q
    rw [if_pos ⟨c, q⟩]
    have hlt3 := (List.getElem?_eq_some_iff.1 h3).1
    have hlt6 := (List.getElem?_eq_some_iff.1 h6).1
    obtain ⟨h2, k1, k2⟩ := ih (t + 1) h' ⟨(WT h' (.slc bs os ((n : Int) :: s).length cs 1 ex) vo b3 b6 j (IntKind.i64.wrap ((t : Int) + 1))).env, [], h', []⟩ (fun b hb => hA b (by have := d2.1; omega)) (hs.stay d2) (hc.stay d2) (by rw [d2.2 _ hlt3 (by simp)]; exact h3) (by rw [d2.2 _ hlt6 (by simp)]; exact h6) (by rw [e1]; kernel_rfl) c (by omega)
    refine ⟨h2, ?_, d2.trans k2 (by simp)⟩
    refine round_on (s1 := ⟨(WT h' (.slc bs os ((n : Int) :: s).length cs 1 ex) vo b3 b6 j (IntKind.i64.wrap ((t : Int) + 1))).env, [], h', []⟩) (by rw [show headOf Tryz.prog T 115 1 st = _ from hst]; kernel_rfl) (.i hix (.l hr0 (.b t1 (.b t1 (.b t1 (.c a1 (.b t1 (.b t1 (.b t1 (.b t1 (.c b1 (.b t1 (.c d1 (.b t1 (.b t2 .n))))))))))))))) k1
   ·have t2 : decide (blk l w j = blk l w (t + 1)) = false := by simpa using q
    rw [if_neg (fun h9 => q h9.2)]
    refine ⟨h', ?_, d2⟩
    have := round_out (P := Tryz.prog) (T := T) (call := ApN (N + 1)) (L := LL) (f := 115) (k := 1) (fl := fl) (m := m + 1) (s := st) (s1 := ⟨(WT h' (.slc bs os ((n : Int) :: s).length cs 1 ex) vo b3 b6 j (t : Nat)).env ++ [(50, .val (.bool (decide (blk l w j = blk l w (t + 1)))))], [], h', []⟩) (e := .exit 2) (by rw [show headOf Tryz.prog T 115 1 st = _ from hst]; kernel_rfl) (.i hix (.l hr0 (.b t1 (.b t1 (.b t1 (.c a1 (.b t1 (.b t1 (.b t1 (.b t1 (.c b1 (.b t1 (.c d1 (.b t1 (.b t2 .n))))))))))))))) rfl
    rw [t2] at this
    exact this
  ·have t1 : decide (IntKind.i64.wrap ((t : Int) + 1) < (n : Int)) = false := by rw [e1, decide_eq_false_iff_not]; omega
   rw [if_neg (fun h9 => c h9.1)]
   refine ⟨h, ?_, .refl⟩
   exact round_out (P := Tryz.prog) (T := T) (call := ApN (N + 1)) (L := LL) (f := 115) (k := 1) (fl := fl) (m := m + 1) (s := st) (s1 := ⟨(WT h (.slc bs os ((n : Int) :: s).length cs 1 ex) vo b3 b6 j (t : Nat)).env ++ [(50, .val (.bool false))], [], h, []⟩) (e := .exit 2) (by rw [show headOf Tryz.prog T 115 1 st = _ from hst]; kernel_rfl) (.i hix (.l hr0 (.b t1 (.b t1 (.b t1 (.b t1 (.b t1 (.b t1 (.b t1 (.b t1 (.b t1 (.b (rfl : false = false) .n)))))))))))) rfl
end Go.Proofs.YtmefgijobonklaaGreat
namespace Go.Proofs.YtmefgijobonklaaGreat
open Go Tw Pv Mist
abbrev Tr : Nat → Prop := fun _ => True
abbrev VRF (fl : Nat) (h : List HB) (v : PV gam) (x : TV) : Prop := Pv.VR X0 Tryz.prog (fun b => b < fl) [] h v x
theorem VRF.up {fl : Nat} {h : List HB} {v : PV gam} {x : TV} (hv : VRF fl h v x) : VRV Tr h v x := hv.mono fun b _ => ⟨trivial, by simp [blks]⟩
theorem VRF.stay {fl : Nat} {h h' : List HB} {v : PV gam} {x : TV} {bs : List Nat} (hv : VRF fl h v x) (hc : clos v = true) (hs : Stay h h' bs) (hb : ∀ b ∈ bs, fl ≤ b) : VRF fl h' v x :=
 hv.move hX (fun q cs h1 h2 => ⟨h1, hs.2 q (blkCells_lt h2) fun h3 => by have := hb q h3; omega⟩) hc
theorem VRV.lowI {h : List HB} {l : List Int} {x : TV} (hv : VRV Tr h (lstI l) x) : VRF h.length h (lstI l) x := by
 have hv : Pv.VR X0 Tryz.prog (AA Tr []) [] h (.lst 3 l false) x := hv
 cases hv with
 | lstN => exact .lstN
 | lst a c c2 s z o k f e r =>
  refine .lst (blkCells_lt c) c c2 s z o k f e fun j a i c v h1 h2 h3 => ?_
  cases i with
  | zero =>
   have h2 : some (PV.int .i64 a) = some c := h2
   cases h2
   have := r j a 0 _ v h1 rfl h3
   rw [this.int_inv]
   exact .int _ _
  | succ i => have h2 : ([] : List (PV gam))[i]? = some c := h2; simp at h2
 | gone hi _ _ => simp [idOf] at hi
theorem VRV.lowV {h : List HB} {l : List V} {x : TV} (hv : VRV Tr h (lstV l) x) : VRF h.length h (lstV l) x := by
 have hv : Pv.VR X0 Tryz.prog (AA Tr []) [] h (.lst 58 l false) x := hv
 cases hv with
 | lstN => exact .lstN
 | lst a c c2 s z o k f e r =>
  refine .lst (blkCells_lt c) c c2 s z o k f e fun j a i c v h1 h2 h3 => ?_
  rcases i with _ | _ | i
  ·have h2 : some (PV.int .u8 a.f) = some c := h2
   cases h2
   have := r j a 0 _ v h1 rfl h3
   rw [this.int_inv]
   exact .int _ _
  ·have h2 : some (PV.int .i64 a.n) = some c := h2
   cases h2
   have := r j a 1 _ v h1 rfl h3
   rw [this.int_inv]
   exact .int _ _
  ·have h2 : ([] : List (PV gam))[i]? = some c := h2
   simp at h2
 | gone hi _ _ => simp [idOf] at hi
structure RowsP (h h' : List HB) (L : List RT) (v : TV) : Prop where
 ro : RO h' h.length L
 sl : ∃ b e k, v = .slc b 0 L.length L.length 4 e ∧ h'[b]? = some (.cells k (flT L)) ∧ k ≠ .ro ∧ h.length ≤ b ∧ b ∉ bsO L
 stay : Stay h h' []
def RowsC (n : Nat) (s : List Int) : Prop := ∀ (l : List V), OfOk s l → ∀ (h : List HB) (x0 x1 : TV), VRV Tr h (lstI s) x0 → VRV Tr h (lstV l) x1 → ∃ v h' L, ApN n (.fn 115 [] []) [x0, x1] h = some (v, h', []) ∧ RowsP h h' L v ∧ L.map (·.r) = dOf s l
abbrev WO (h : List HB) (vs vo : TV) (b3 b6 : Nat) (j : Int) : St := ⟨[(0, .val vs), (5, .val vo), (7, .val (clR b3 b6)), (8, .val (.int .i64 j))], [], h, []⟩
noncomputable abbrev RdO (N fl m : Nat) (s : St) : Option (Ex × St) := rounds Tryz.prog T (ApN N) LL 115 0 fl m s
noncomputable abbrev hdO (s : St) : St := headOf Tryz.prog T 115 0 s
theorem rounds_le {P : Program} {T : Tab} {call : CallT} {L f k fl a b : Nat} {s : St} {r : Ex × St} (h : rounds P T call L f k fl a s = some r) (hab : a ≤ b) : rounds P T call L f k fl b s = some r := Tw.iter_le h hab
theorem VRV.tail {h : List HB} {a : Int} {s : List Int} {x : TV} (hv : VRV Tr h (lstI (a :: s)) x) : ∃ w, sliceT Tryz.prog 119 x (some (.int .i64 1)) none none = some w ∧ VRV Tr h (lstI s) w := by
 have := Pv.slice_ok (X := X0) (P := Tryz.prog) (A := Tr) (m := []) (ps := ⟨[], [], []⟩) (ts := ⟨[], [], h, []⟩) ⟨⟨rfl, fun i b hb => by simp at hb, by simp [blks], fun _ _ => trivial, fun b hb => by simp [blks] at hb⟩, rfl, fun k cs hc => by simp at hc, .nil⟩ (t := 119) (lo := some (.int .i64 1)) (hi := none) (mx := none) hv (tlo := some (.int .i64 1)) (thi := none) (tmx := none) (Pv.VR.int .i64 1) trivial trivial (v := lstI (((a :: s).take (((a :: s).length : Nat) : Int).toNat).drop (1 : Int).toNat)) (qs := [0 ≤ (1 : Int), (1 : Int) ≤ ((a :: s).length : Nat), (((a :: s).length : Nat) : Int) ≤ ((a :: s).length : Nat)]) (by kernel_rfl) (fun q hq => by
  rcases List.mem_cons.1 hq with rfl | hq
  ·omega
  rcases List.mem_cons.1 hq with rfl | hq
  ·simp only [List.length_cons]; omega
  rw [List.mem_singleton.1 hq]; exact Int.le_refl _)
 obtain ⟨w, h1, h2⟩ := this
 refine ⟨w, h1, ?_⟩
 rw [show ((a :: s).take (((a :: s).length : Nat) : Int).toNat).drop (1 : Int).toNat = s by rw [Int.toNat_natCast, List.take_length]; rfl] at h2
 exact h2
structure RunI (fl : Nat) (h : List HB) (s : List Int) (l : List V) (n w : Nat) (vs vc vo : TV) (b3 b6 : Nat) (O : List RT) : Prop where
 fle : fl ≤ h.length
 hs : VRF fl h (lstI ((n : Int) :: s)) vs
 hc : VRF fl h (lstV l) vc
 h3 : h[b3]? = some (.cells .own [vc])
 h6 : h[b6]? = some (.cells .own [.int .i64 w])
 ro : RO h fl O
 out : OutL h O vo
 lo : ∀ b ∈ lbT vo, fl ≤ b ∧ b ∉ bsO O
 n3 : b3 ∉ bsO O ++ lbT vo
 n6 : b6 ∉ bsO O ++ lbT vo
theorem lRows {N fl : Nat} (hO : ∀ m, N ≤ m → Ok m oc160) {s : List Int} {l : List V} {n w : Nat} {vs vc : TV} {b3 b6 : Nat} (hOf : OfOk ((n : Int) :: s) l) (hw : l.length / n = w) (hR : RowsC (N + 1) s) : ∀ (m j : Nat) (h : List HB) (vo : TV) (O : List RT) (st : St), hdO st = WO h vs vo b3 b6 (j : Nat) → RunI fl h s l n w vs vc vo b3 b6 O → O.length ≤ j * w → j ≤ n → n ≤ m + j →
  ∃ h' vo' O', RdO (N + 1) fl (m + 1) st = some (.exit 0, ⟨(WO h' vs vo' b3 b6 (n : Nat)).env ++ [(31, .val (.bool false))], [], h', []⟩) ∧ RunI fl h' s l n w vs vc vo' b3 b6 O' ∧ O'.map (·.r) = runsF s l w n m j (O.map (·.r)) ∧ h.length ≤ h'.length ∧ ∀ b, b < fl → h'[b]? = h[b]? := by
 obtain ⟨w1, w2, w3, w4⟩ := hOf.w
 have hpp := prodI_pos hOf.fine.sz.tail
 have hn : (n : Int).toNat = n := by omega
 rw [hn, hw] at w1 w2
 have hm2 := hOf.fine.many
 have hlen := hOf.len
 have hwp : 0 < w := by omega
 have hP : Prt l w n := ⟨by omega, by
  have h9 : 1 * w ≤ n * w := Nat.mul_le_mul_right w (by omega)
  omega, w1⟩
 have hix : idx ((n : Int) :: s).length (.int .i64 0) = some 0 := by
  show (if 0 ≤ (0 : Int) ∧ (0 : Int) < (((n : Int) :: s).length : Nat) then some (0 : Int).toNat else none) = _
  rw [if_pos ⟨by omega, by simp only [List.length_cons]; omega⟩]; rfl
 intro m
 induction m with
 | zero =>
  intro j h vo O st hst hI hol hjn hm
  have hj : j = n := by omega
  subst hj
  obtain ⟨bs, os, cs, ex, rfl⟩ := hI.hs.up.slc szInt (fun e => by cases e)
  have hr0 : rdAt false 1 h bs (os + 0 * 1) (os + cs * 1) = some (.int .i64 (j : Int)) := (hI.hs.up.rd (j := 0) (by simp)).1
  refine ⟨h, vo, O, ?_, hI, rfl, Nat.le_refl _, fun b _ => rfl⟩
  have hno : decide ((j : Int) < (j : Int)) = false := lt_no j
  have := round_out (P := Tryz.prog) (T := T) (call := ApN (N + 1)) (L := LL) (f := 115) (k := 0) (fl := fl) (m := 0) (s := st) (s1 := ⟨(WO h (.slc bs os ((j : Int) :: s).length cs 1 ex) vo b3 b6 (j : Nat)).env ++ [(31, .val (.bool (decide ((j : Int) < (j : Int)))))], [], h, []⟩) (e := .exit 0) (by rw [show headOf Tryz.prog T 115 0 st = _ from hst]; kernel_rfl) (.i hix (.l hr0 (.b hno .n))) rfl
  rw [hno] at this
  exact this
 | succ m ih =>
  intro j h vo O st hst hI hol hjn hm
  obtain ⟨bs, os, cs, ex, rfl⟩ := hI.hs.up.slc szInt (fun e => by cases e)
  have hr0 : rdAt false 1 h bs (os + 0 * 1) (os + cs * 1) = some (.int .i64 (n : Int)) := (hI.hs.up.rd (j := 0) (by simp)).1
  unfold runsF
  rcases Nat.lt_or_ge j n with hjl | hjl
  ·rw [if_pos hjl]
   obtain ⟨h1, a1, a2⟩ := lTo (fl := fl) hO (A := Tr) (vo := vo) hP hwp hjl n j h ⟨(WT h (.slc bs os ((n : Int) :: s).length cs 1 ex) vo b3 b6 j (j : Nat)).env, [], h, []⟩ (fun _ _ => trivial) hI.hs.up hI.hc.up hI.h3 hI.h6 (by kernel_rfl) hjl (by omega)
   have a1 := rounds_le a1 (b := LL) (by have := LLm; unfold most at this; have := hP.n12; omega)
   have e1 : rTo l w n j < n := rEnd_lt hjl
   have e2 : j ≤ rTo l w n j := rEnd_ge
   have a1 : RdT (N + 1) fl LL ⟨(WT h (.slc bs os ((n : Int) :: s).length cs 1 ex) vo b3 b6 j (j : Nat)).env, [], h, []⟩ = some (.exit 2, ⟨(WT h1 (.slc bs os ((n : Int) :: s).length cs 1 ex) vo b3 b6 j (rTo l w n j : Nat)).env ++ [(50, .val (.bool false))], [], h1, []⟩) := a1
   generalize rTo l w n j = to at a1 e1 e2 ⊢
   have hl3 := (List.getElem?_eq_some_iff.1 hI.h3).1
   have hl6 := (List.getElem?_eq_some_iff.1 hI.h6).1
   have f3 : h1[b3]? = some (.cells .own [vc]) := by rw [a2.2 _ hl3 (by simp)]; exact hI.h3
   have f6 : h1[b6]? = some (.cells .own [.int .i64 w]) := by rw [a2.2 _ hl6 (by simp)]; exact hI.h6
   have g1 := hI.hs.stay rfl a2 (by simp)
   have g2 := hI.hc.stay rfl a2 (by simp)
   obtain ⟨v57, b1, b2⟩ := cBlk (n := N) (A := Tr) (fun _ _ => trivial) g2.up hP hwp hjl f3 f6
   obtain ⟨v54, c1, c2⟩ := g1.up.tail
   have hOk : OfOk s (blk l w j) := by have := hOf.blk (j := j) (by omega); rw [hn, hw] at this; exact this
   obtain ⟨v, h2, L, d1, d2, d3⟩ := hR (blk l w j) hOk h1 v54 v57 c2 b2
   obtain ⟨bl, e, k, rfl, q1, q2, q3, q4⟩ := d2.sl
   have hLl : L.length ≤ w := by
    have h9 := dOf_len hOk
    rw [← d3, List.length_map, blk_len hP.len hjl] at h9
    exact h9
   have hOL : bsO (O ++ L) = bsO O ++ bsO L := bsO_app O L
   have hs12 : Stay h h2 [] := a2.trans d2.stay (by simp)
   have ho2 : RO h2 fl O := hI.ro.stay hs12 (by simp)
   have hbO : ∀ b ∈ bsO O, b < h.length := fun b hb => hI.ro.lt hb
   have hbL : ∀ b ∈ bsO L, h.length ≤ b := fun b hb => by have := d2.ro.lo b hb; have := a2.1; omega
   have hbo : ∀ b ∈ lbT vo, b < h.length := fun b hb => hI.out.lt hb
   have hfl := hI.fle
   have hrl : RO h2 fl (O ++ L) := by
    refine ⟨fun x hx => ?_, ?_, fun b hb => ?_⟩
    ·rcases List.mem_append.1 hx with hx | hx
     ·exact ho2.own x hx
     ·exact d2.ro.own x hx
    ·rw [hOL]
     exact List.nodup_append.2 ⟨hI.ro.nd, d2.ro.nd, fun a ha b hb e => by subst e; have := hbO a ha; have := hbL a hb; omega⟩
    ·rw [hOL] at hb
     rcases List.mem_append.1 hb with hb | hb
     ·exact hI.ro.lo b hb
     ·have := hbL b hb; omega
   have hnot : ∀ b, b < h.length → b ∉ bsO O → b ∉ bsO (O ++ L) := fun b hb h9 h8 => by
    rw [hOL] at h8
    rcases List.mem_append.1 h8 with h8 | h8
    ·exact h9 h8
    ·have := hbL b h8; omega
   have hnm : L.length ≤ most := by have := hP.w2; unfold most; omega
   have htot : O.length + L.length ≤ (to + 1) * w := by
    have h9 : (j + 1) * w ≤ (to + 1) * w := Nat.mul_le_mul_right w (by omega)
    rw [Nat.add_mul] at h9
    omega
   have htm : O.length + L.length ≤ most := by
    have h9 : (to + 1) * w ≤ n * w := Nat.mul_le_mul_right w e1
    have : n * w ≤ 5000 := by omega
    unfold most; omega
   have h2l : h.length ≤ h2.length := hs12.1
   have hrows : ∀ x ∈ L, x.r.fr.length ≤ 2 ^ 20 ∧ x.r.to.length ≤ 2 ^ 20 := fun x hx => by
    have h9 := dOf_rows s (blk l w j) x.r (by rw [← d3]; exact List.mem_map.2 ⟨x, hx, rfl⟩)
    have := hOk.fine.len
    omega
   obtain ⟨h3, vo', O', i1, i2⟩ := lIns (N := N) (fl := fl) (vs := .slc bs os ((n : Int) :: s).length cs 1 ex) (b3 := b3) (b6 := b6) (j := j) (to := to) (bl := bl) (nn := L.length) (e := e) (L := L) rfl hnm L 0 (L.length + 1) h2 vo O ⟨(WI h2 (.slc bs os ((n : Int) :: s).length cs 1 ex) vo b3 b6 j to bl L.length e 0).env, [], h2, []⟩ (by kernel_rfl) rfl (by omega) (by omega) hrl (hI.out.stay hs12 (by simp)) (fun b hb => ⟨(hI.lo b hb).1, hnot b (hbo b hb) (hI.lo b hb).2⟩) ⟨k, q1⟩ (fun h9 => by
     rw [hOL] at h9
     rcases List.mem_append.1 h9 with h9 | h9
     ·have := hbO bl h9; have := a2.1; omega
     ·exact q4 h9) (fun h9 => by have := hbo bl h9; have := a2.1; omega) hrows htm (by omega)
   have i1 := rounds_le i1 (b := LL) (by have := LLm; omega)
   have hw1 : IntKind.i64.wrap ((to : Int) + 1) = ((to + 1 : Nat) : Int) := wsucc (m20 (by have := hP.n12; omega))
   have hst3 : ∀ b, b ∈ bsO (O ++ L) ++ lbT vo → fl ≤ b := fun b hb => by
    rcases List.mem_append.1 hb with hb | hb
    ·exact hrl.lo b hb
    ·exact (hI.lo b hb).1
   have h3l := i2.stay.1
   have hb3 : b3 ∉ bsO (O ++ L) ++ lbT vo := fun h9 => by
    rcases List.mem_append.1 h9 with h9 | h9
    ·exact hnot b3 hl3 (fun h8 => hI.n3 (List.mem_append_left _ h8)) h9
    ·exact hI.n3 (List.mem_append_right _ h9)
   have hb6 : b6 ∉ bsO (O ++ L) ++ lbT vo := fun h9 => by
    rcases List.mem_append.1 h9 with h9 | h9
    ·exact hnot b6 hl6 (fun h8 => hI.n6 (List.mem_append_left _ h8)) h9
    ·exact hI.n6 (List.mem_append_right _ h9)
   have hI3 : RunI fl h3 s l n w (.slc bs os ((n : Int) :: s).length cs 1 ex) vc vo' b3 b6 O' := by
    refine ⟨by omega, (g1.stay rfl d2.stay (by simp)).stay rfl i2.stay hst3, (g2.stay rfl d2.stay (by simp)).stay rfl i2.stay hst3, ?_, ?_, i2.ro, i2.out, i2.lo, fun h9 => ?_, fun h9 => ?_⟩
    ·rw [i2.stay.2 b3 (by omega) hb3, d2.stay.2 b3 (by have := a2.1; omega) (by simp)]; exact f3
    ·rw [i2.stay.2 b6 (by omega) hb6, d2.stay.2 b6 (by have := a2.1; omega) (by simp)]; exact f6
    ·rcases i2.new b3 h9 with h8 | h8
     ·exact hb3 h8
     ·omega
    ·rcases i2.new b6 h9 with h8 | h8
     ·exact hb6 h8
     ·omega
   have hOl : O'.length = O.length + L.length := by
    have := congrArg List.length i2.rows
    simpa using this
   obtain ⟨h4, vo4, O4, k1, k2, k3, k4, k5⟩ := ih (to + 1) h3 vo' O' ⟨(WO h3 (.slc bs os ((n : Int) :: s).length cs 1 ex) vo' b3 b6 (IntKind.i64.wrap ((to : Int) + 1))).env, [], h3, []⟩ (by rw [hw1]; kernel_rfl) hI3 (by omega) (by omega) (by omega)
   refine ⟨h4, vo4, O4, ?_, k2, ?_, by omega, fun b hb => ?_⟩
   ·exact round_on (s1 := ⟨(WO h3 (.slc bs os ((n : Int) :: s).length cs 1 ex) vo' b3 b6 (IntKind.i64.wrap ((to : Int) + 1))).env, [], h3, []⟩) (by rw [show headOf Tryz.prog T 115 0 st = _ from hst]; kernel_rfl) (.i hix (.l hr0 (.b (lt_nat hjl) (.w a1 (.r c1 (.c b1 (.c d1 (.k (show lenT Tryz.prog #[26] h2 (.slc bl 0 L.length L.length 4 e) = some (.int .i64 (L.length : Nat), noInf) by kernel_rfl) (.w i1 .n))))))))) k1
   ·rw [k3, i2.rows, ← d3, List.map_map]; rfl
   ·rw [k5 b hb, i2.stay.2 b (by omega) (fun h9 => by have := hst3 b h9; omega), hs12.2 b (by omega) (by simp)]
  ·have hj : j = n := by omega
   subst hj
   rw [if_neg (by omega)]
   refine ⟨h, vo, O, ?_, hI, rfl, Nat.le_refl _, fun b _ => rfl⟩
   have hno : decide ((j : Int) < (j : Int)) = false := lt_no j
   have := round_out (P := Tryz.prog) (T := T) (call := ApN (N + 1)) (L := LL) (f := 115) (k := 0) (fl := fl) (m := m + 1) (s := st) (s1 := ⟨(WO h (.slc bs os ((j : Int) :: s).length cs 1 ex) vo b3 b6 (j : Nat)).env ++ [(31, .val (.bool (decide ((j : Int) < (j : Int)))))], [], h, []⟩) (e := .exit 0) (by rw [show headOf Tryz.prog T 115 0 st = _ from hst]; kernel_rfl) (.i hix (.l hr0 (.b hno .n))) rfl
   rw [hno] at this
   exact this
end Go.Proofs.YtmefgijobonklaaGreat
namespace Go.Proofs.YtmefgijobonklaaGreat
open Go Tw Pv Mist
theorem VRV.rdV {A : Nat → Prop} {h : List HB} {l : List V} {b off n cap : Nat} {ex : Bool} (hv : VRV A h (lstV l) (.slc b off n cap 2 ex)) {j : Nat} (hj : j < l.length) : rdAt true 2 h b (off + j * 2) (off + cap * 2) = some (V.tv (l.getD j V0)) := by
 rcases lst_SlR hv szV with ⟨e, _⟩ | ⟨b', off', cap', ex', cs, e, h1, h2, h3, h4⟩
 ·cases e
 ·cases e
  have hne : l ≠ [] := fun e => by rw [e] at hj; simp at hj
  have h3 := h3 hne
  unfold rdAt
  rw [h3]
  simp only []
  have h9 : l.length ≤ cap := h1
  have hlen := h4.2.1
  have hlen : off + l.length * 2 ≤ cs.length := hlen
  rw [if_pos (by omega)]
  have hg : l[j]? = some (l.getD j V0) := by rw [List.getD_eq_getElem?_getD, List.getElem?_eq_getElem hj]; rfl
  have h5 := h4.2.2 j (l.getD j V0) 0 (.int .u8 (l.getD j V0).f) cs[off + j * 2] hg rfl (by rw [Nat.add_zero]; exact List.getElem?_eq_getElem (by omega))
  have h6 := h4.2.2 j (l.getD j V0) 1 (.int .i64 (l.getD j V0).n) cs[off + j * 2 + 1] hg rfl (List.getElem?_eq_getElem (by omega))
  have hs : sub cs (off + j * 2) 2 = some [cs[off + j * 2], cs[off + j * 2 + 1]] := by
   unfold sub
   rw [if_pos (by omega)]
   congr 1
   apply List.ext_getElem?
   intro i
   rcases i with _ | _ | i
   ·simp
   ·simp [List.getElem?_take, List.getElem?_drop]
   ·simp [List.getElem?_take]; omega
  simp only [if_true, hs, Option.map_some, h5.int_inv, h6.int_inv]
theorem rows_nil {N : Nat} : RowsC (N + 1) [] := fun l hOf h x0 x1 h0 h1 => by
 have hl : l.length = 1 := by have := hOf.len; simp [prodI] at this; omega
 obtain ⟨b, off, cap, ex, rfl⟩ := h1.slc szV (fun e => by rw [e] at hl; cases hl)
 have e0 : lenT Tryz.prog #[119] (h ++ [.cells .own [.slc b off l.length cap 2 ex]]) x0 = some (.int .i64 (0 : Nat), noInf) := by
  rcases lst_SlR h0 szInt with ⟨rfl, _⟩ | ⟨b', off', cap', ex', cs, rfl, _⟩
  ·kernel_rfl
  ·kernel_rfl
 have r1 : rdAt false 1 (h ++ [.cells .own [.slc b off l.length cap 2 ex]]) h.length 0 1 = some (.slc b off l.length cap 2 ex) := by
  unfold rdAt blkLim; simp
 have s1 : Stay h (h ++ [.cells .own [.slc b off l.length cap 2 ex]]) [] := .push
 have r2 := (h1.stay s1).rdV (j := 0) (by omega)
 have hix : idx l.length (.int .i64 0) = some 0 := by
  show (if 0 ≤ (0 : Int) ∧ (0 : Int) < (l.length : Nat) then some (0 : Int).toNat else none) = _
  rw [if_pos ⟨by omega, by omega⟩]; rfl
 have hv : dOf [] l = [⟨[], [], l.getD 0 V0⟩] := rfl
 generalize l.getD 0 V0 = v at r2 hv
 refine ⟨.slc (h ++ [HB.cells .own [.slc b off l.length cap 2 ex]]).length 0 1 1 4 true, h ++ [.cells .own [.slc b off l.length cap 2 ex]] ++ [.cells .own [.nil .slc, .nil .slc, .int .u8 v.f, .int .i64 v.n]], [⟨⟨[], [], v⟩, .nil .slc, .nil .slc⟩], ?_, ⟨⟨fun x hx => ?_, by simp [bsO, bsX, lbT], fun b hb => by simp [bsO, bsX, lbT] at hb⟩, ⟨_, true, .own, rfl, ?_, by simp, by simp, by simp [bsO, bsX, lbT]⟩, s1.trans (Stay.push (bs := [])) (by simp)⟩, by rw [hv]; rfl⟩
 ·rw [show ApN (N + 1) = apN Tryz.prog T LL (N + 1) from rfl, apN_fn (by kernel_rfl)]
  exact funN_path (P := Tryz.prog) (T := T) (call := ApN N) (L := LL) (f := 115) (args := [x0, .slc b off l.length cap 2 ex]) (h := h) (vs := [.slc (h ++ [HB.cells .own [.slc b off l.length cap 2 ex]]).length 0 1 1 4 true]) (e := .ret) (s := ⟨[(4, .val (.slc (h ++ [HB.cells .own [.slc b off l.length cap 2 ex]]).length 0 1 1 4 true))], [], h ++ [.cells .own [.slc b off l.length cap 2 ex]] ++ [.cells .own [.nil .slc, .nil .slc, .int .u8 v.f, .int .i64 v.n]], []⟩) (by kernel_rfl) (.k e0 (.b (rfl : ((0 : Int) == 0) = true) (.l r1 (.i hix (.l r2 .n))))) (.inr rfl) (by kernel_rfl) (by kernel_rfl)
 ·rw [List.mem_singleton.1 hx]; exact ⟨.nil, .nil⟩
 ·simp [flT, rowT]
theorem dOf_ne : ∀ {s : List Int} {l : List V}, OfOk s l → dOf s l ≠ []
 | [], l, _ => by simp [dOf]
 | a :: s, l, h => by
  obtain ⟨h1, h2, h3⟩ := h.w
  rw [dOf_cons]
  have := foldN_inv (g := gOf s l (l.length / a.toNat) a.toNat) (m := a.toNat) (k := 0) (s := []) (fun k acc => 0 < k → acc ≠ []) (by simp) (fun j acc _ hj hq _ => by
   unfold gOf
   split
   ·rename_i hc; exact hq hc.1
   ·have := dOf_ne (h.blk (j := j) (by omega))
    simp [this])
  exact this (by omega)
theorem rows_cons {N : Nat} (hO : ∀ m, N ≤ m → Ok m oc160) {a : Int} {s : List Int} (hR : RowsC (N + 1) s) : RowsC (N + 2) (a :: s) := fun l hOf h x0 x1 h0 h1 => by
 obtain ⟨w1, w2, w3, w4⟩ := hOf.w
 obtain ⟨n, rfl⟩ : ∃ n : Nat, a = n := ⟨a.toNat, by omega⟩
 have hpp := prodI_pos hOf.fine.sz.tail
 obtain ⟨w, hw⟩ : ∃ w, l.length / n = w := ⟨_, rfl⟩
 rw [Int.toNat_natCast, hw] at w1 w2
 have hm2 := hOf.fine.many
 have hlen := hOf.len
 have hln : l ≠ [] := fun e => by
  rw [e] at w1
  have h9 : 1 * 1 ≤ n * w := Nat.mul_le_mul (by omega) (by omega)
  simp at w1; omega
 obtain ⟨bc, oc, cc, exc, rfl⟩ := h1.slc szV hln
 obtain ⟨bs, os, cs, exs, rfl⟩ := h0.slc szInt (fun e => by cases e)
 obtain ⟨x1, hx1⟩ : ∃ x1, x1 = TV.slc bc oc l.length cc 2 exc := ⟨_, rfl⟩
 have h1 : VRV Tr h (lstV l) x1 := by rw [hx1]; exact h1
 let hA : List HB := h ++ [.cells .own [x1]]
 let hB : List HB := hA ++ [.cells .own [.int .i64 0]]
 let hm : List HB := hB.set hA.length (.cells .own [.int .i64 (w : Nat)])
 have sA : Stay h hA [] := .push
 have lA : hA.length = h.length + 1 := by simp [hA]
 have sm : Stay hA hm [] := ⟨by simp [hm, hB], fun b hb _ => by
  show (hB.set hA.length _)[b]? = _
  rw [List.getElem?_set_ne (by omega)]
  show (hA ++ _)[b]? = _
  rw [List.getElem?_append_left hb]⟩
 have shm : Stay h hm [] := sA.trans sm (by simp)
 have q3 : hm[h.length]? = some (.cells .own [x1]) := by rw [sm.2 _ (by omega) (by simp)]; simp [hA]
 have q6 : hm[hA.length]? = some (.cells .own [.int .i64 (w : Nat)]) := by
  show (hB.set hA.length _)[hA.length]? = _
  rw [List.getElem?_set_self (by simp [hB])]
 have r1 : rdAt false 1 hA h.length 0 1 = some x1 := by
  have : blkLim hA h.length 1 = some [x1] := by unfold blkLim; simp [hA]
  unfold rdAt; rw [this]; rfl
 have r0 := ((h0.stay sA).rd (j := 0) (by simp)).1
 have r0 : rdAt false 1 hA bs (os + 0 * 1) (os + cs * 1) = some (.int .i64 (n : Int)) := r0
 have hix : idx ((n : Int) :: s).length (.int .i64 0) = some 0 := by
  show (if 0 ≤ (0 : Int) ∧ (0 : Int) < (((n : Int) :: s).length : Nat) then some (0 : Int).toNat else none) = _
  rw [if_pos ⟨by omega, by simp only [List.length_cons]; omega⟩]; rfl
 have hq : binT Tryz.prog .quo 3 (.tmp 21) (.tmp 24) (.int .i64 (l.length : Nat)) (.int .i64 (n : Int)) = some (.int .i64 (w : Nat)) := by
  rw [binT_quo (by omega), quo_nn (by omega) (by omega) (by omega), ← hw]
  congr 2
 have hst : setH hB hA.length 0 1 [.int .i64 (w : Nat)] = some hm := by
  rw [setH_own (cs := [.int .i64 0]) (by simp [hB])]
  rfl
 have hadd : addW h.length hA.length [] = [] := by unfold addW; rw [if_neg (by omega)]
 have hne : (((n : Int) :: s).length == 0) = false := rfl
 have ht1 : (((((n : Int) :: s).length : Nat) : Int) == 0) = false := by
  rw [beq_eq_false_iff_ne]; simp only [List.length_cons]; omega
 have hL0 := VRV.lowI h0
 have hL1 := VRV.lowV h1
 have hI : RunI h.length hm s l n w (.slc bs os ((n : Int) :: s).length cs 1 exs) x1 (.nil .slc) h.length hA.length [] :=
  ⟨shm.1, hL0.stay rfl shm (by simp), hL1.stay rfl shm (by simp), q3, q6, ⟨by simp, by simp [bsO], by simp [bsO]⟩, .nil, by simp [lbT], by simp [bsO, lbT], by simp [bsO, lbT]⟩
 obtain ⟨h', vo', O', k1, k2, k3, k4, k5⟩ := lRows (N := N) (fl := h.length) hO hOf hw hR n 0 hm (.nil .slc) [] ⟨(WO hm (.slc bs os ((n : Int) :: s).length cs 1 exs) (.nil .slc) h.length hA.length (0 : Nat)).env, [], hm, []⟩ (by kernel_rfl) hI (by simp) (by omega) (by omega)
 have k1 := rounds_le k1 (b := LL) (by have := LLm; unfold most at this; omega)
 have hd : O'.map (·.r) = dOf ((n : Int) :: s) l := by
  rw [k3, List.map_nil, runs_eq n 0 [] (by omega) (by omega) (.inl rfl), dOf_cons, Int.toNat_natCast, hw, Nat.sub_zero]
 have hO' : O' ≠ [] := fun e => by rw [e] at hd; exact dOf_ne hOf hd.symm
 have ho := k2.out
 generalize hvo : vo' = vx at ho
 cases ho with
 | nil => exact absurd rfl hO'
 | @some _ b k g1 g2 g3 =>
  subst hvo
  refine ⟨_, h', O', ?_, ⟨k2.ro, ⟨b, false, k, rfl, g2, g3, (k2.lo b (by simp [lbT])).1, (k2.lo b (by simp [lbT])).2⟩, ?_⟩, hd⟩
  ·rw [show ApN (N + 2) = apN Tryz.prog T LL (N + 1 + 1) from rfl, apN_fn (by kernel_rfl)]
   subst hx1
   exact funN_path (P := Tryz.prog) (T := T) (call := ApN (N + 1)) (L := LL) (f := 115) (args := [.slc bs os ((n : Int) :: s).length cs 1 exs, .slc bc oc l.length cc 2 exc]) (h := h) (vs := [.slc b 0 O'.length O'.length 4 false]) (e := .ret) (s := ⟨[(4, .val (.slc b 0 O'.length O'.length 4 false))], [], h', []⟩) (by kernel_rfl) (.k (show lenT Tryz.prog #[119] hA (.slc bs os ((n : Int) :: s).length cs 1 exs) = some (.int .i64 (((n : Int) :: s).length : Nat), noInf) by kernel_rfl) (.b ht1 (.l r1 (.k (show lenT Tryz.prog #[23] hA (.slc bc oc l.length cc 2 exc) = some (.int .i64 (l.length : Nat), noInf) by kernel_rfl) (.i hix (.l r0 (.r hq (.a (.st hm []) (.o hst (.o (show 0 + 1 ≤ 1 by omega) (.o hadd (.w k1 .n)))))))))))) (.inr rfl) (by kernel_rfl) (by kernel_rfl)
  ·exact ⟨by have := shm.1; omega, fun b hb _ => by rw [k5 b hb, shm.2 b hb (by simp)]⟩
end Go.Proofs.YtmefgijobonklaaGreat
namespace Go.Proofs.YtmefgijobonklaaGreat
open Go Tw Pv Mist
theorem flT_get : ∀ {L : List RT} {j i : Nat} {x : RT}, L[j]? = some x → i < 4 → (flT L)[j * 4 + i]? = (rowT x)[i]?
 | [], j, i, x, h, _ => by simp at h
 | y :: L, 0, i, x, h, hi => by
  simp only [List.getElem?_cons_zero, Option.some.injEq] at h; subst h
  show (rowT y ++ flT L)[0 * 4 + i]? = _
  rw [Nat.zero_mul, Nat.zero_add, List.getElem?_append_left (by simp only [List.length_cons, List.length_nil]; omega)]
 | y :: L, j + 1, i, x, h, hi => by
  have ih := flT_get (L := L) (j := j) (i := i) (x := x) (by simpa using h) hi
  show (rowT y ++ flT L)[(j + 1) * 4 + i]? = _
  rw [List.getElem?_append_right (by simp only [List.length_cons, List.length_nil]; omega), ← ih]
  congr 1
  simp only [List.length_cons, List.length_nil]; omega
theorem szRw : sizeT Tryz.prog 95 = some 4 := by kernel_rfl
theorem OwnL.vr {A : Nat → Prop} {h : List HB} {l : List Int} {v : TV} (hv : OwnL h l v) (hA : ∀ b ∈ lbT v, A b) : Pv.VR X0 Tryz.prog A [] h (lstI l) v := by
 cases hv with
 | nil => exact .lstN
 | @some _ b k h0 h1 h2 =>
  have hc : blkCells h b = Option.some (intsV l) := by unfold blkCells; rw [h1]
  have hl : (intsV l).length = l.length := List.length_map ..
  refine Pv.VR.lst (X := X0) (P := Tryz.prog) (A := A) (m := []) (h := h) (t := 3) (l := l) (fu := false) (b := b) (off := 0) (cap := l.length) (sz := 1) (ex := false) (cs := intsV l) (hA b (by simp [lbT])) hc (fun _ => blkLim_end h1 (by rw [hl]; omega)) szInt (by omega) (by show 0 + l.length * 1 ≤ (intsV l).length; omega) (Nat.le_refl _) (fun h => by cases h) (fun j a _ => rfl) fun j a i c w h3 h4 h5 => ?_
  cases i with
  | zero =>
   have h4 : Option.some (PV.int .i64 a) = Option.some c := h4
   cases h4
   have h3 : l[j]? = Option.some a := h3
   rw [Nat.zero_add, Nat.mul_one, Nat.add_zero, List.getElem?_map, h3] at h5
   have h5 : Option.some (TV.int .i64 a) = Option.some w := h5
   cases h5
   exact .int _ _
  | succ i => have h4 : ([] : List (PV gam))[i]? = Option.some c := h4; simp at h4
theorem rowsP_vr {A : Nat → Prop} {h h' : List HB} {L : List RT} {v : TV} (hp : RowsP h h' L v) (hA : ∀ b, h.length ≤ b → A b) {rs : List Rw} (hrs : L.map (·.r) = rs) : Pv.VR X0 Tryz.prog A [] h' (.lst 95 rs false) v := by
 obtain ⟨b, e, k, rfl, h1, h2, h3, h4⟩ := hp.sl
 have hc : blkCells h' b = some (flT L) := by unfold blkCells; rw [h1]
 have hl := flT_len L
 have hm : rs.length = L.length := by rw [← hrs]; exact List.length_map ..
 rw [← hm]
 refine Pv.VR.lst (X := X0) (P := Tryz.prog) (A := A) (m := []) (h := h') (t := 95) (l := rs) (fu := false) (b := b) (off := 0) (cap := rs.length) (sz := 4) (ex := e) (cs := flT L) (hA b h3) hc (fun _ => blkLim_end h1 (by rw [hl]; omega)) szRw (by omega) (by show 0 + rs.length * 4 ≤ (flT L).length; omega) (Nat.le_refl _) (fun h => by cases h) (fun j a _ => rfl) (fun j a i c w h5 h6 h7 => by
  have h5 : rs[j]? = some a := h5
  rw [← hrs, List.getElem?_map] at h5
  cases hx : L[j]? with
  | none => rw [hx] at h5; cases h5
  | some x =>
   rw [hx] at h5
   have h5 : some x.r = some a := h5
   cases h5
   have hxm := hp.ro.own x (List.mem_of_getElem? hx)
   have hi : i < 4 := by
    have := (List.getElem?_eq_some_iff.1 h6).1
    exact this
   rw [Nat.zero_add, flT_get hx hi] at h7
   have hb : ∀ b ∈ bsX x, A b := fun b hb => hA b (hp.ro.lo b (List.mem_flatMap.2 ⟨x, List.mem_of_getElem? hx, hb⟩))
   rcases i with _ | _ | _ | _ | i
   ·have h6 : some (lstI x.r.fr) = some c := h6
    have h7 : some x.f = some w := h7
    cases h6; cases h7
    exact hxm.1.vr fun b hb2 => hb b (List.mem_append_left _ hb2)
   ·have h6 : some (lstI x.r.to) = some c := h6
    have h7 : some x.t = some w := h7
    cases h6; cases h7
    exact hxm.2.vr fun b hb2 => hb b (List.mem_append_right _ hb2)
   ·have h6 : some (PV.int .u8 x.r.cell.f) = some c := h6
    have h7 : some (TV.int .u8 x.r.cell.f) = some w := h7
    cases h6; cases h7
    exact .int _ _
   ·have h6 : some (PV.int .i64 x.r.cell.n) = some c := h6
    have h7 : some (TV.int .i64 x.r.cell.n) = some w := h7
    cases h6; cases h7
    exact .int _ _
   ·omega)
theorem con_rows {n : Nat} {s : List Int} {l : List V} (hR : RowsC (n + 1) s) (hOf : OfOk s l) : Con X0 Tryz.prog (ApN (n + 1)) 115 [lstI s, lstV l] (rwsA.put (dOf s l)) [] := by
 intro A h first args cap hup hv
 obtain ⟨x0, r, e1, h0, hv⟩ := hv.inv
 obtain ⟨x1, r2, rfl, h1, hv⟩ := hv.inv
 have := hv.inv0
 subst this
 obtain ⟨v, h', L, a1, a2, a3⟩ := hR l hOf h x0 x1 (h0.mono fun b _ => ⟨trivial, by simp [blks]⟩) (h1.mono fun b _ => ⟨trivial, by simp [blks]⟩)
 refine ⟨v, h', [], ?_, ⟨rfl, fun i b hb => by simp at hb, by simp [blks], fun b hb => hup b (by have := a2.stay.1; omega), fun b hb => by simp [blks] at hb⟩, ?_, ⟨a2.stay.1, fun b hb _ => a2.stay.2 b hb (by simp), fun b hb => by simp [blks] at hb, fun b cs hc => ⟨cs, by rw [blkCells_same (a2.stay.2 b (blkCells_lt hc) (by simp)), hc], Nat.le_refl _⟩⟩⟩
 ·rw [show ApN (n + 1) = apN Tryz.prog T LL (n + 1) from rfl, apN_fn (by kernel_rfl)] at a1 ⊢
  rw [e1]
  exact a1
 ·exact rowsP_vr (A := AA A []) a2 (fun b hb => ⟨hup b hb, by simp [blks]⟩) a3
theorem rows_all : ∀ (s : List Int) {N : Nat}, (∀ m, N ≤ m → Ok m oc160) → ∀ m, N + s.length + 1 ≤ m → RowsC m s
 | [], N, hO, m, hm => by
  obtain ⟨k, rfl⟩ : ∃ k, m = k + 1 := ⟨m - 1, by omega⟩
  exact rows_nil
 | a :: s, N, hO, m, hm => by
  simp only [List.length_cons] at hm
  obtain ⟨k, rfl⟩ : ∃ k, m = k + 2 := ⟨m - 2, by omega⟩
  exact rows_cons (N := k) (fun q hq => hO q (by omega)) (rows_all s hO (k + 1) (by omega))
noncomputable def oc115 : Orc gam := orcF 115 (a2 isA vsA) rwsA (fun p => dOf p.1 p.2) (fun p => [OfOk p.1 p.2]) oc160
theorem gc115 : Gd oc115 := gc160.deep 8 fun n hn hO p hp => by
 have h : OfOk p.1 p.2 := hp _ (.head _)
 exact con_rows (rows_all p.1 (N := n - 8) hO (n + 1) (by have := h.fine.len; omega)) h
end Go.Proofs.YtmefgijobonklaaGreat
namespace Go.Proofs.YtmefgijobonklaaGreat
open Go Tw Pv Mist
abbrev w72 (a : List Int) (i : Int) (s : List Int) (x : List (Nat × PE gam)) : PSt gam := ⟨[(0, xL 3 a), (3, xo 0), (6, xi a.length), (7, xi i)] ++ x, [], [.list false false 3 s]⟩
theorem l72 {n : Nat} {orc : Orc gam} (hO : Ok n orc) (a : List Int) (hl : a.length ≤ most) : Lp n 72 0 (w72 a 0 [] []) (.exit 0) (w72 a a.length (iotaI a.length) [(8, xl false)]) := by
 rw [← iotaI_fold]
 exact foldE (s0 := ([] : List Int)) (g := fun k s => s ++ [(k : Int)]) (st := fun i s => w72 a i s []) (fin := fun s => w72 a a.length s [(8, xl false)]) (fun k s => s.length = k) (by kernel_rfl) hl LLm rfl (fun k s _ h => by simp [h]) (fun k s hk hi n e p h => round hX hO (by kernel_rfl) (.b (lt_nat hk) (.o (show s.length + 1 ≤ most by omega) (.goG [.gc [2]] h)))) (fun s _ => round hX hO (by kernel_rfl) (.b (lt_no a.length) .ex))
noncomputable def oc72 : Orc gam := orcF 72 (a1 isA) iA (fun p => S_sizes p) (fun p => [p.length ≤ most]) oc115
theorem gc72 : Gd oc72 := gc115.add fun n hO p hp => fn_is hX hO (by kernel_rfl) (.wG [.nilE 3 3] (l72 hO p (hp _ (.head _))) (.o (hp _ (.head _)) (.o (show (iotaI p.length).length ≤ 2 ^ 20 by rw [iotaI_len]; exact hp _ (.head _)) (.v _ (frame_iota p)))))
def prodW (s : List Int) : Int := foldN (fun k n => IntKind.i64.wrap (n * s.getD k 0)) s.length 0 1
abbrev w73 (a : List Int) (n i : Int) (x : List (Nat × PE gam)) : PSt gam := ⟨[(3, xi n), (6, xL 3 a), (7, xi a.length), (8, xi i)] ++ x, [], []⟩
theorem l73 {n : Nat} {orc : Orc gam} (hO : Ok n orc) (a : List Int) (hl : a.length ≤ most) : Lp n 73 0 (w73 a 1 0 []) (.exit 0) (w73 a (prodW a) a.length [(9, xl false)]) :=
 foldE (st := fun i n => w73 a n i []) (fin := fun n => w73 a n a.length [(9, xl false)]) (fun _ _ => True) (by kernel_rfl) hl LLm trivial (fun _ _ _ _ => trivial) (fun k s hk _ n e p h => round hX hO (by kernel_rfl) (.b (lt_nat hk) (.o (inR_nat hk) (.go h)))) (fun s _ => round hX hO (by kernel_rfl) (.b (lt_no a.length) .ex))
theorem prodW_eq {s : List Int} (hs : SzOk s) (hm : prodI s ≤ 2000) : prodW s = prodI s := by
 have := foldN_inv (g := fun k n => IntKind.i64.wrap (n * s.getD k 0)) (m := s.length) (k := 0) (s := (1 : Int)) (fun k n => n = prodI (s.take k)) rfl (fun j n _ hj hn => by
  have e : s.take (j + 1) = s.take j ++ [s.getD j 0] := by rw [List.take_add_one, List.getElem?_eq_getElem (by omega)]; simp [List.getD, List.getElem?_eq_getElem (show j < s.length by omega)]
  have e2 : prodI (s.take (j + 1)) = n * s.getD j 0 := by rw [e, prodI_app, hn]; simp [prodI]
  have h1 := prodI_take_le hs (j + 1)
  have h2 : 1 ≤ prodI (s.take (j + 1)) := prodI_pos fun b hb => hs b (List.mem_of_mem_take hb)
  rw [e2] at h1 h2 ⊢
  exact wrap_nn (by omega) (by omega))
 unfold prodW
 rw [this, Nat.zero_add, List.take_length]
noncomputable def oc73 : Orc gam := orcF 73 (a1 isA) iA (fun p => prodI p) (fun p => [Fine p]) oc72
theorem gc73 : Gd oc73 := gc72.add fun n hO p hp => fn_is hX hO (by kernel_rfl) (.w (l73 hO p (show Fine p from hp _ (.head _)).lenM) (.v _ (prodW_eq (show Fine p from hp _ (.head _)).sz (show Fine p from hp _ (.head _)).many)))
abbrev w86 (a b : List Int) (m i : Int) (x : List (Nat × PE gam)) : PSt gam := ⟨[(1, xL 3 b), (4, xi m), (7, xL 3 a), (8, xi a.length), (9, xi i)] ++ x, [], []⟩
theorem l86 {n : Nat} {orc : Orc gam} (hO : Ok n orc) (a b : List Int) (hl : a.length ≤ most) (h : b.length = a.length) : Lp n 86 0 (w86 a b 0 0 []) (.exit 0) (w86 a b (numW a b) a.length [(10, xl false)]) :=
 foldE (st := fun i m => w86 a b m i []) (fin := fun m => w86 a b m a.length [(10, xl false)]) (fun _ _ => True) (by kernel_rfl) hl LLm trivial (fun _ _ _ _ => trivial) (fun k s hk _ n e p g => round hX hO (by kernel_rfl) (.b (lt_nat hk) (.o (inR_nat hk) (.o (inR_nat (h ▸ hk)) (.go g))))) (fun s _ => round hX hO (by kernel_rfl) (.b (lt_no a.length) .ex))
noncomputable def oc86 : Orc gam := orcF 86 (a2 isA isA) iA (fun p => numI p.1 p.2) (fun p => [isPl p.1 p.2 = true, Fine p.1]) oc73
theorem gc86 : Gd oc86 := gc73.add fun n hO p hp => fn_is hX hO (by kernel_rfl) (.w (l86 hO p.1 p.2 (show Fine p.1 from hp _ (.tail _ (.head _))).lenM (isPl_len (hp _ (.head _)))) (.v _ (numW_eq (hp _ (.head _)) (show Fine p.1 from hp _ (.tail _ (.head _))).sz (show Fine p.1 from hp _ (.tail _ (.head _))).many)))
abbrev cPt (a b : List Int) (k : Nat) : Bool := if decide (b.getD k 0 < 0) = true then true else decide (b.getD k 0 ≥ a.getD k 0)
abbrev w102 (a b : List Int) (i : Int) (x : List (Nat × PE gam)) : PSt gam := ⟨[(0, xL 3 a), (12, xL 3 b), (13, xi b.length), (14, xi i)] ++ x, [], []⟩
def z102 (a b : List Int) : Unit ⊕ Nat → Ex × PSt gam
 | .inl _ => (.exit 0, w102 a b b.length [(15, xl false)])
 | .inr _ => (.ret, ⟨[(4, xl false)], [], []⟩)
theorem l102 {n : Nat} (hO : Ok n oc86) (a b : List Int) (hl : b.length ≤ most) (h : b.length = a.length) : Lp n 102 0 (w102 a b 0 []) (z102 a b (srch (cPt a b) b.length)).1 (z102 a b (srch (cPt a b) b.length)).2 :=
 eachN (st := fun i _ => w102 a b i []) (fun _ _ => True) (by kernel_rfl) hl LLm trivial (fun k s n hk _ ih => by
  unfold gS cPt
  cases e1 : decide (b.getD k 0 < 0)
  ·exact round hX hO (by kernel_rfl) (.b (lt_nat hk) (.o (inR_nat hk) (.b e1 (.o (inR_nat (show k < a.length by omega)) (.ls (.ou nofun) (.nx (ih _ trivial)))))))
  ·exact round hX hO (by kernel_rfl) (.b (lt_nat hk) (.o (inR_nat hk) (.b e1 (.ou nofun))))
  ) (fun s _ => round hX hO (by kernel_rfl) (.b (lt_no b.length) (.ou nofun)))
theorem cPt_iff {a b : List Int} (h : b.length = a.length) : isL (srch (cPt a b) b.length) = isPl a b := by
 rw [Bool.eq_iff_iff, srch_ok, isPl_iff, h]
 simp only [true_and]
 refine forall_congr' fun j => forall_congr' fun hj => ?_
 unfold cPt
 by_cases c : b.getD j 0 < 0
 ·rw [if_pos (by simpa using c)]
  constructor
  ·intro h; cases h
  ·rintro ⟨h1, _⟩; omega
 ·rw [if_neg (by simpa using c), decide_eq_false_iff_not]; omega
noncomputable def oc102 : Orc gam := orcF 102 (a2 isA isA) tA (fun p => isPl p.1 p.2) (fun p => [p.2.length ≤ most]) oc86
theorem gc102 : Gd oc102 := gc86.add fun n hO p hp => fn_is hX hO (by kernel_rfl) (.s (fun h => .v false (pl_len h).symm) fun h => .z (c := isL (srch (cPt p.1 p.2) p.2.length)) (fun h2 => .w (exInl (l102 hO p.1 p.2 (hp _ (.head _)) (len_eq h)) () h2) (.v true (by rw [← cPt_iff (len_eq h), h2]))) fun h2 => .w (exInr (l102 hO p.1 p.2 (hp _ (.head _)) (len_eq h)) 0 h2) (.v false (by rw [← cPt_iff (len_eq h), h2])))
def S_vCheck (v : V) : Int := if (!(S_isCell v)) = true then 2 else 0
noncomputable def oc114 : Orc gam := orcF 114 (a1 vA) iA (fun p => S_vCheck p) np oc102
theorem gc114 : Gd oc114 := gc102.add fun n hO p hp => fn_is hX hO (by kernel_rfl) (.ss .rr .rr)
noncomputable def oc75 : Orc gam := orcF 75 (a1 vA) tA (fun p => S_vCheck p == 0) np oc114
theorem gc75 : Gd oc75 := gc114.add fun n hO p hp => fn_is hX hO (by kernel_rfl) .rr
def S_opnd (c : Int) : Int := if (c == 5) = true then 1 else if (c == 6) = true then 1 else if decide (7 ≤ c) = true then (if decide (c ≤ 16) = true then 2 else if (c == 17) = true then 3 else 0) else if (c == 17) = true then 3 else 0
abbrev w87 (l : Ld) (v : V) (i m : Int) (x : List (Nat × PE gam)) : PSt gam := ⟨[(3, .loc 1 0), (4, xi m), (8, xL 58 l.cells), (9, xi l.cells.length), (10, xi i)] ++ x, [[.lst 3 l.s false, .lst 58 l.cells false], v.ps], []⟩
theorem l87 {n : Nat} {orc : Orc gam} (hO : Ok n orc) (l : Ld) (v : V) (hl : l.cells.length ≤ most) : Lp n 87 0 (w87 l v 0 0 []) (.exit 0) (w87 l v l.cells.length (S_Many l.cells v) [(11, xl false)]) :=
 foldE (g := gMany v l.cells) (s0 := (0 : Int)) (st := fun i m => w87 l v i m []) (fin := fun m => w87 l v l.cells.length m [(11, xl false)]) (fun _ _ => True) (by kernel_rfl) hl LLm trivial (fun _ _ _ _ => trivial) (fun k s hk _ n e q h => by
  unfold gMany at h
  cases h2 : decide (l.cells.getD k V0 = v)
  ·rw [h2, if_neg (by simp)] at h; exact round hX hO (by kernel_rfl) (.b (lt_nat hk) (.o (inR_nat hk) (.q (.bool (decide (l.cells.getD k V0 = v))) (eqV (.tmp 14) (.tmp 15) (l.cells.getD k V0) v) (.b h2 (.go h)))))
  ·rw [h2, if_pos rfl] at h; exact round hX hO (by kernel_rfl) (.b (lt_nat hk) (.o (inR_nat hk) (.q (.bool (decide (l.cells.getD k V0 = v))) (eqV (.tmp 14) (.tmp 15) (l.cells.getD k V0) v) (.b h2 (.go h)))))
  ) (fun s _ => round hX hO (by kernel_rfl) (.b (lt_no l.cells.length) .ex))
noncomputable def oc87 : Orc gam := orcF 87 (a2 ldA vA) iA (fun p => S_Many p.1.cells p.2) (fun p => [p.1.cells.length ≤ most]) oc75
theorem gc87 : Gd oc87 := gc75.add fun n hO p hp => fn_is hX hO (by kernel_rfl) (.w (l87 hO p.1 p.2 (hp _ (.head _))) .rr)
abbrev cFT (r : Rw) (k : Nat) : Bool := decide (r.fr.getD k 0 > r.to.getD k 0)
abbrev w117 (r : Rw) (i : Int) (x : List (Nat × PE gam)) : PSt gam := ⟨[(3, .loc 0 0), (26, xL 3 r.fr), (27, xi r.fr.length), (28, xi i)] ++ x, [r.ps], []⟩
def z117 (r : Rw) : Unit ⊕ Nat → Ex × PSt gam
 | .inl _ => (.exit 0, w117 r r.fr.length [(29, xl false)])
 | .inr _ => (.ret, ⟨[(4, xl false)], [r.ps], []⟩)
theorem l117 {n : Nat} {orc : Orc gam} (hO : Ok n orc) (r : Rw) (hl : r.fr.length ≤ most) (ht : r.to.length = r.fr.length) : Lp n 117 0 (w117 r 0 []) (z117 r (srch (cFT r) r.fr.length)).1 (z117 r (srch (cFT r) r.fr.length)).2 :=
 searchL (st := fun i _ => w117 r i []) (fun _ _ => True) (by kernel_rfl) hl trivial (fun k s m hk _ ih => round hX hO (by kernel_rfl) (.b (lt_nat hk) (.o (inR_nat hk) (.o (inR_nat (ht ▸ hk)) (.ls (.ou nofun) (.nx (ih _ trivial))))))) (fun s _ => round hX hO (by kernel_rfl) (.b (lt_no r.fr.length) (.ou nofun)))
def S_tRow (s : List Int) (r : Rw) : Bool := if (!(isPl s r.fr)) = true then false else if (!(isPl s r.to)) = true then false else if (!(S_vCheck r.cell == 0)) = true then false else if isL (srch (cFT r) r.fr.length) = true then true else false
theorem row_len {s : List Int} {a b : List Int} (h1 : (!(isPl s a)) = false) (h2 : (!(isPl s b)) = false) : b.length = a.length := by
 rw [isPl_len (s := s) (p := b) (by simpa using h2), isPl_len (s := s) (p := a) (by simpa using h1)]
noncomputable def oc117 : Orc gam := orcF 117 (a2 isA rwA) tA (fun p => S_tRow p.1 p.2) (fun p => [p.2.fr.length ≤ most, p.2.to.length ≤ most]) oc87
theorem gc117 : Gd oc117 := gc87.add fun n hO p hp => fn_is hX hO (by kernel_rfl) (.o (hp _ (.head _)) (.sh (fun _ => .rr) fun h1 => .o (hp _ (.tail _ (.head _))) (.sh (fun _ => .rr) fun h2 => .ss .rr (.zh (fun h => .w (exInl (l117 hO p.2 (hp _ (.head _)) (row_len h1 h2)) () h) .rr) fun h => .w (exInr (l117 hO p.2 (hp _ (.head _)) (row_len h1 h2)) 0 h) .rr))))
abbrev w203 (f : Nat) (a c : List (PV gam)) (H : List (PB gam)) (l : List Rw) (i : Int) (x : List (Nat × PE gam)) : PSt gam := ⟨[(0, xL 95 l), (1, .val (.fn f a c)), (7, xi l.length), (8, xi i)] ++ x, [], H⟩
def z203 (f : Nat) (a c : List (PV gam)) (H : List (PB gam)) (l : List Rw) : Unit ⊕ Nat → Ex × PSt gam
 | .inl _ => (.exit 0, w203 f a c H l l.length [(9, xl false)])
 | .inr k => (.ret, ⟨[(4, xi k)], [], H⟩)
theorem q162 {n f : Nat} {a c : List (PV gam)} {H : List (PB gam)} {g : Rw → Bool} (l : List Rw) (hf : ∀ x ∈ l, Sim X0 Tryz.prog (ApN n) (.fn f a c) [.agg x.ps] H (.bool (g x)) H) (hl : l.length ≤ most) : Sim X0 Tryz.prog (ApN (n + 2)) (.fn 162 [] []) [.lst 95 l false, .fn f a c] H (tA.put (l.any g)) H := by
 have lp : LpB n 203 0 H.length (w203 f a c H l 0 []) (z203 f a c H l (srch (fun k => g (l.getD k Rw0)) l.length)).1 (z203 f a c H l (srch (fun k => g (l.getD k Rw0)) l.length)).2 :=
  eachN (st := fun i _ => w203 f a c H l i []) (fun _ _ => True) (by kernel_rfl) hl LLm trivial (fun k s n hk _ ih => round hX ok0 (by kernel_rfl) (.b (lt_nat hk) (.o (inR_nat hk) (.k (hf (l.getD k Rw0) (by simp [List.getD, List.getElem?_eq_getElem hk])) (.ls (.ou nofun) (.nx (ih _ trivial))))))) (fun s _ => round hX ok0 (by kernel_rfl) (.b (lt_no l.length) (.ou nofun)))
 have hs : isL (srch (fun k => g (l.getD k Rw0)) l.length) = !(l.any g) := by
  rw [Bool.eq_iff_iff, srch_ok]
  simp only [Bool.not_eq_true', List.any_eq_false]
  constructor
  ·intro h x hx
   obtain ⟨k, hk, rfl⟩ := List.mem_iff_getElem.1 hx
   have := h k hk
   simpa [List.getD, List.getElem?_eq_getElem hk] using this
  ·intro h k hk
   have := h l[k] (List.getElem_mem hk)
   simpa [List.getD, List.getElem?_eq_getElem hk] using this
 have h1 : Sim X0 Tryz.prog (ApN (n + 1)) (.fn 203 [] []) [.lst 95 l false, .fn f a c] H (iA.put (if isL (srch (fun k => g (l.getD k Rw0)) l.length) = true then -1 else ((getR 0 (srch (fun k => g (l.getD k Rw0)) l.length) : Nat) : Int))) H :=
  sim_is hX ok0 (first := []) (cap := []) (by kernel_rfl) (.szh (fun h => .w (exInl lp () h) .sr) (fun h => .w (exInr lp 0 h) .sr))
 have e : l.any g = decide ((if isL (srch (fun k => g (l.getD k Rw0)) l.length) = true then (-1 : Int) else ((getR 0 (srch (fun k => g (l.getD k Rw0)) l.length) : Nat) : Int)) ≥ 0) := by
  rw [hs]
  cases l.any g
  ·rfl
  ·simp
 rw [e]
 exact sim_is hX ok0 (first := []) (cap := []) (by kernel_rfl) (.k h1 .sr)
noncomputable def oc76 : Orc gam := orcF 76 (a1 ldA) tbA (fun p => dOf p.s p.cells) (fun p => [OfOk p.s p.cells]) oc117
theorem gc76 : Gd oc76 := gc117.add fun n hO p hp => fn_is hX hO (by kernel_rfl) (.o (hp _ (.head _)) .rr)
end Go.Proofs.YtmefgijobonklaaGreat
namespace Go.Proofs.YtmefgijobonklaaGreat
open Go Tw Pv Mist
def gMax (l : List Int) (k : Nat) (m : Int) : Int := if l.getD (IntKind.i64.wrap ((k : Int) + 1)).toNat 0 > m then l.getD (IntKind.i64.wrap ((k : Int) + 1)).toNat 0 else m
def S_lMax (l : List Int) : Int := foldN (gMax l) (l.length - 1) 0 (l.getD 0 0)
abbrev w120 (l : List Int) (m i : Int) (x : List (Nat × PE gam)) : PSt gam := ⟨[(0, xL 3 l), (3, xi m), (4, xi i)] ++ x, [], []⟩
theorem l120 {n : Nat} {orc : Orc gam} (hO : Ok n orc) (l : List Int) (hl : l.length ≤ most) (h0 : 0 < l.length) : Lp n 120 0 (w120 l (l.getD 0 0) 1 []) (.exit 0) (w120 l (S_lMax l) (IntKind.i64.wrap (((l.length - 1 : Nat) : Int) + 1)) [(15, xl false)]) := by
 refine foldE (X := X0) (P := Tryz.prog) (T := T) (g := gMax l) (s0 := l.getD 0 0) (N := l.length - 1) (st := fun i m => w120 l m (IntKind.i64.wrap (i + 1)) []) (fin := fun m => w120 l m (IntKind.i64.wrap (((l.length - 1 : Nat) : Int) + 1)) [(15, xl false)]) (fun _ _ => True) (by kernel_rfl) (by omega) LLm trivial (fun _ _ _ _ => trivial) (fun k s hk _ n e p h => ?_) (fun s _ => ?_)
 ·have e1 : IntKind.i64.wrap ((k : Int) + 1) = (k : Int) + 1 := wrap_nn (by omega) (by unfold most at hl; omega)
  have t1 : decide (IntKind.i64.wrap ((k : Int) + 1) < (l.length : Int)) = true := by rw [e1, decide_eq_true_eq]; omega
  have t2 : inR (IntKind.i64.wrap ((k : Int) + 1)) l.length := by rw [e1]; exact ⟨by omega, by omega⟩
  exact round hX hO (by kernel_rfl) (.b t1 (.o t2 (.go h)))
 ·have e1 : IntKind.i64.wrap (((l.length - 1 : Nat) : Int) + 1) = ((l.length - 1 : Nat) : Int) + 1 := wrap_nn (by omega) (by unfold most at hl; omega)
  have t1 : decide (IntKind.i64.wrap (((l.length - 1 : Nat) : Int) + 1) < (l.length : Int)) = false := by rw [e1, decide_eq_false_iff_not]; omega
  exact round hX hO (by kernel_rfl) (.b t1 .ex)
noncomputable def oc120 : Orc gam := orcF 120 (a1 isA) iA (fun p => S_lMax p) (fun p => [p.length ≤ most, 0 < p.length]) oc76
theorem gc120 : Gd oc120 := gc76.add fun n hO p hp => fn_is hX hO (by kernel_rfl) (.b (show decide ((p.length : Int) < 1) = false by have h : 0 < p.length := hp _ (.tail _ (.head _)); rw [decide_eq_false_iff_not]; omega) (.o (show inR 0 p.length by have h : 0 < p.length := hp _ (.tail _ (.head _)); exact ⟨by omega, by omega⟩) (.w (l120 hO p (hp _ (.head _)) (hp _ (.tail _ (.head _)))) .rr)))
def gMin (l : List Int) (k : Nat) (m : Int) : Int := if l.getD (IntKind.i64.wrap ((k : Int) + 1)).toNat 0 < m then l.getD (IntKind.i64.wrap ((k : Int) + 1)).toNat 0 else m
def S_lMin (l : List Int) : Int := foldN (gMin l) (l.length - 1) 0 (l.getD 0 0)
abbrev w121 (l : List Int) (m i : Int) (x : List (Nat × PE gam)) : PSt gam := ⟨[(0, xL 3 l), (3, xi m), (4, xi i)] ++ x, [], []⟩
theorem l121 {n : Nat} {orc : Orc gam} (hO : Ok n orc) (l : List Int) (hl : l.length ≤ most) (h0 : 0 < l.length) : Lp n 121 0 (w121 l (l.getD 0 0) 1 []) (.exit 0) (w121 l (S_lMin l) (IntKind.i64.wrap (((l.length - 1 : Nat) : Int) + 1)) [(15, xl false)]) := by
 refine foldE (X := X0) (P := Tryz.prog) (T := T) (g := gMin l) (s0 := l.getD 0 0) (N := l.length - 1) (st := fun i m => w121 l m (IntKind.i64.wrap (i + 1)) []) (fin := fun m => w121 l m (IntKind.i64.wrap (((l.length - 1 : Nat) : Int) + 1)) [(15, xl false)]) (fun _ _ => True) (by kernel_rfl) (by omega) LLm trivial (fun _ _ _ _ => trivial) (fun k s hk _ n e p h => ?_) (fun s _ => ?_)
 ·have e1 : IntKind.i64.wrap ((k : Int) + 1) = (k : Int) + 1 := wrap_nn (by omega) (by unfold most at hl; omega)
  have t1 : decide (IntKind.i64.wrap ((k : Int) + 1) < (l.length : Int)) = true := by rw [e1, decide_eq_true_eq]; omega
  have t2 : inR (IntKind.i64.wrap ((k : Int) + 1)) l.length := by rw [e1]; exact ⟨by omega, by omega⟩
  exact round hX hO (by kernel_rfl) (.b t1 (.o t2 (.go h)))
 ·have e1 : IntKind.i64.wrap (((l.length - 1 : Nat) : Int) + 1) = ((l.length - 1 : Nat) : Int) + 1 := wrap_nn (by omega) (by unfold most at hl; omega)
  have t1 : decide (IntKind.i64.wrap (((l.length - 1 : Nat) : Int) + 1) < (l.length : Int)) = false := by rw [e1, decide_eq_false_iff_not]; omega
  exact round hX hO (by kernel_rfl) (.b t1 .ex)
noncomputable def oc121 : Orc gam := orcF 121 (a1 isA) iA (fun p => S_lMin p) (fun p => [p.length ≤ most, 0 < p.length]) oc120
theorem gc121 : Gd oc121 := gc120.add fun n hO p hp => fn_is hX hO (by kernel_rfl) (.b (show decide ((p.length : Int) < 1) = false by have h : 0 < p.length := hp _ (.tail _ (.head _)); rw [decide_eq_false_iff_not]; omega) (.o (show inR 0 p.length by have h : 0 < p.length := hp _ (.tail _ (.head _)); exact ⟨by omega, by omega⟩) (.w (l121 hO p (hp _ (.head _)) (hp _ (.tail _ (.head _)))) .rr)))
theorem max_one {l : List Int} (h0 : 0 < l.length) (hl : l.length ≤ most) : decide (S_lMax l > 1) = l.any fun x => decide (x > 1) := by
 have h := foldN_inv (g := gMax l) (m := l.length - 1) (k := 0) (s := l.getD 0 0) (fun k m => decide (m > 1) = (l.take (k + 1)).any fun x => decide (x > 1)) (by cases l with | nil => simp at h0 | cons a l => simp) (fun k m _ hk hm => by
  have e1 : IntKind.i64.wrap ((k : Int) + 1) = ((k + 1 : Nat) : Int) := by rw [wrap_nn (by omega) (by unfold most at hl; omega)]; push_cast; rfl
  have e2 : l.take (k + 1 + 1) = l.take (k + 1) ++ [l.getD (k + 1) 0] := by rw [List.take_add_one, List.getElem?_eq_getElem (by omega)]; simp [List.getD, List.getElem?_eq_getElem (show k + 1 < l.length by omega)]
  simp only [gMax, e1, Int.toNat_natCast]
  rw [e2, List.any_append, ← hm]
  simp only [List.any_cons, List.any_nil, Bool.or_false]
  rw [Bool.eq_iff_iff]
  simp only [Bool.or_eq_true, decide_eq_true_eq]
  split <;> omega)
 have e : 0 + (l.length - 1) + 1 = l.length := by omega
 rw [e, List.take_length] at h
 exact h
theorem min_zero {l : List Int} (h0 : 0 < l.length) (hl : l.length ≤ most) (hn : ∀ x ∈ l, 0 ≤ x) : (S_lMin l == 0) = l.any fun x => x == 0 := by
 have h := foldN_inv (g := gMin l) (m := l.length - 1) (k := 0) (s := l.getD 0 0) (fun k m => 0 ≤ m ∧ (m == 0) = (l.take (k + 1)).any fun x => x == 0) (by cases l with | nil => simp at h0 | cons a l => simpa using hn a (List.mem_cons_self ..)) (fun k m _ hk hm => by
  have e1 : IntKind.i64.wrap ((k : Int) + 1) = ((k + 1 : Nat) : Int) := by rw [wrap_nn (by omega) (by unfold most at hl; omega)]; push_cast; rfl
  have e2 : l.take (k + 1 + 1) = l.take (k + 1) ++ [l.getD (k + 1) 0] := by rw [List.take_add_one, List.getElem?_eq_getElem (by omega)]; simp [List.getD, List.getElem?_eq_getElem (show k + 1 < l.length by omega)]
  have h9 := hn _ (getD_mem (show k + 1 < l.length by omega))
  simp only [gMin, e1, Int.toNat_natCast]
  rw [e2, List.any_append, ← hm.2]
  have h8 := hm.1
  simp only [List.any_cons, List.any_nil, Bool.or_false]
  refine ⟨by split <;> omega, ?_⟩
  rw [Bool.eq_iff_iff]
  simp only [Bool.or_eq_true, beq_iff_eq]
  split <;> omega)
 have e : 0 + (l.length - 1) + 1 = l.length := by omega
 rw [e, List.take_length] at h
 exact h.2
end Go.Proofs.YtmefgijobonklaaGreat
namespace Go.Proofs.YtmefgijobonklaaGreat
open Go Tw Pv Mist
noncomputable def oc119 : Orc gam := orcE 119 (a2 isA rwA) (fun _ => .fn 164 [] [.ptr 1 0 4, .ptr 0 0 1]) (fun p => [.cells [.lst 3 p.1 false], .cells p.2.ps]) np oc121
theorem gc119 : Gd oc119 := gc121.deepE 0 fun n _ hO p hp => fn_ex hX (hO n (by omega)) (by kernel_rfl) .er
structure Ly where
 s : List Int
 ts : List (List Rw)
 rows : List Rw
 r : Rw
 acc : List Ld
 i : Int
 k : Int
abbrev envY (y : Ly) : List (Nat × PE gam) := [(4, .val (.nil .slc)), (5, xi 0), (6, xL 3 y.s), (7, .val (.fn 117 [.lst 3 y.s false] [])), (9, xo 0), (12, .val (.ptr 3 0 2)), (13, .val (.ptr 5 0 1)), (15, .val (.ptr 6 0 4)), (25, xL 28 y.ts), (26, xi y.ts.length), (27, xi y.i), (49, xL 95 y.rows), (50, xi y.rows.length), (51, xi y.k), (57, .val (.fn 164 [] [.ptr 8 0 4, .ptr 7 0 1]))]
noncomputable abbrev LRY (y : Ly) (rd : Bool) (pend : Option Code) : PB gam := .loop rd 80 (ntP Tryz.prog 80) (envY y) [58] (rfAssign Tryz.prog 80) (rfBody Tryz.prog 80) pend
noncomputable abbrev MY0 (y : Ly) (x : List Int × List V) : List (PB gam) := [.list false false 124 y.acc, .cells [.lst 95 y.rows false], .list true true 58 x.2, .cells [.lst 3 y.s false, .own 2], oI true true x.1, .cells [.own 4], .cells y.r.ps, .cells [.lst 3 y.s false], .cells y.r.ps]
noncomputable abbrev MY (y : Ly) (rd : Bool) (x : List Int × List V) : List (PB gam) := MY0 y x ++ [.mark, LRY y rd none]
def stB (c : V) (x : List Int × List V) (q : Int) : List Int × List V := (x.1.set q.toNat (IntKind.i64.wrap (x.1.getD q.toNat 0 + 1)), x.2.set q.toNat c)
theorem yB {n : Nat} {orc : Orc gam} (hO : Ok n orc) (y : Ly) (x : List Int × List V) {q : Int} (h1 : inR q x.1.length) (h2 : inR q x.2.length) : Sim X0 Tryz.prog (ApN (n + 1)) (.yld 10) [.int .i64 q] (MY y true x) (.bool true) (MY y true (stB y.r.cell x q)) := by
 obtain ⟨a, b⟩ := x
 have h1 : inR q a.length := h1
 have h2 : inR q b.length := h2
 unfold stB
 have q1 : ExecS X0 Tryz.prog T (ApN n) LL 80 true (ntP Tryz.prog 80) 11 (rfAssign Tryz.prog 80) ⟨pputAll (envY y) [58] [.int .i64 q], [], MY y true (a, b)⟩ .norm ⟨[(12, .val (.ptr 3 0 2)), (13, .val (.ptr 5 0 1)), (15, .val (.ptr 6 0 4)), (16, xi q)], [], MY y true (a, b)⟩ := exec_fp hX hO (by kernel_rfl) .xx
 have q2 : ExecS X0 Tryz.prog T (ApN n) LL 80 true (ntP Tryz.prog 80) 11 (rfBody Tryz.prog 80) ⟨[(12, .val (.ptr 3 0 2)), (13, .val (.ptr 5 0 1)), (15, .val (.ptr 6 0 4)), (16, xi q)], [], MY y false (a, b)⟩ .norm ⟨[], [], MY y false (a.set q.toNat (IntKind.i64.wrap (a.getD q.toNat 0 + 1)), b.set q.toNat y.r.cell)⟩ := exec_fp hX hO (by kernel_rfl) (.o h1 (.o h1 (.o h2 .xx)))
 exact yld_sim hX (l := 10) rfl rfl (by kernel_rfl) q1 rfl q2 rfl
noncomputable abbrev wBx (y : Ly) (p : List Int) (x : List Int × List V) (z : List (Nat × PE gam)) : PSt gam := ⟨[(0, .val (.yld 10)), (1, .val (.ptr 8 0 4)), (2, .val (.ptr 7 0 1)), (4, .val (.own 11))] ++ z, [], MY y true x ++ [.list false false 3 p]⟩
def gIb (r : Rw) (x : Int × List Int) : (Int × List Int) ⊕ (Int × List Int) := if decide (x.1 ≥ 0) = true then (if (x.2.getD x.1.toNat 0 == r.to.getD x.1.toNat 0) = true then .inl (IntKind.i64.wrap (x.1 - 1), x.2.set x.1.toNat (r.fr.getD x.1.toNat 0)) else .inr x) else .inr x
theorem ib_it {r : Rw} : ∀ (k : Nat) (p : List Int), k ≤ 6 → itF (gIb r) (k + 1) ((k : Int) - 1, p) = some (((car r.fr r.to k p).1 : Int) - 1, (car r.fr r.to k p).2)
 | 0, p, _ => by
  simp only [itF, gIb, car]
  rw [if_neg (by simp)]
 | k + 1, p, h => by
  rw [itF]
  simp only [gIb, car]
  have hk : (((k + 1 : Nat) : Int) - 1).toNat = k := by omega
  rw [if_pos (decide_eq_true (by omega)), hk, wdown (by omega)]
  by_cases e : p.getD k 0 = r.to.getD k 0
  ·rw [if_pos (by simpa using e), if_pos e]
   exact ib_it k _ (by omega)
  ·rw [if_neg (by simpa using e), if_neg e]
theorem lIb {n : Nat} (hO : Ok n oc119) (y : Ly) {p : List Int} (hl : p.length ≤ 6) (hf : y.r.fr.length = p.length) (ht : y.r.to.length = p.length) (x : List Int × List V) : LpB n 164 1 11 (wBx y p x [(5, xi ((p.length : Int) - 1))]) (.exit 2) (wBx y (car y.r.fr y.r.to p.length p).2 x [(5, xi (((car y.r.fr y.r.to p.length p).1 : Int) - 1)), (31, xl false)]) := by
 have hit := ib_it (r := y.r) p.length p hl
 refine whileE (X := X0) (P := Tryz.prog) (T := T) (st := fun z => wBx y z.2 x [(5, xi z.1)]) (g := gIb y.r) (s := ((p.length : Int) - 1, p)) (out := fun z => (.exit 2, wBx y z.2 x [(5, xi z.1), (31, xl false)])) (fun z => z.2.length = p.length ∧ z.1 < p.length) hit (by kernel_rfl) (show p.length + 1 ≤ LL by have := LLm; unfold most at this; omega) ⟨rfl, by show (p.length : Int) - 1 < _; omega⟩ ?_ ?_
 ·rintro ⟨a, q⟩ ⟨b, r⟩ ⟨h1, h2⟩ e
  unfold gIb at e
  split at e
  ·rename_i c
   split at e
   ·cases e
    have c : a ≥ 0 := by simpa using c
    have h2 : a < (p.length : Int) := h2
    refine ⟨by simpa using h1, ?_⟩
    show IntKind.i64.wrap (a - 1) < _
    rw [wrap_nn (by omega) (by omega)]
    omega
   ·cases e
  ·cases e
 ·rintro ⟨a, q⟩ m r' ⟨h1, h2⟩ ih
  have h1 : q.length = p.length := h1
  have h2 : a < (p.length : Int) := h2
  by_cases c : a ≥ 0
  ·have t1 : decide (a ≥ 0) = true := by simpa using c
   have i1 : inR a q.length := ⟨c, by omega⟩
   have i2 : inR a y.r.to.length := ⟨c, by omega⟩
   have i3 : inR a y.r.fr.length := ⟨c, by omega⟩
   cases t2 : q.getD a.toNat 0 == y.r.to.getD a.toNat 0
   ·have e : gIb y.r (a, q) = .inr (a, q) := by unfold gIb; rw [if_pos t1, if_neg (by simp only []; rw [t2]; simp)]
    rw [e]
    dsimp only [contW]
    exact round hX hO (by kernel_rfl) (.b t1 (.o i1 (.o i2 (.b t2 .ex))))
   ·have e : gIb y.r (a, q) = .inl (IntKind.i64.wrap (a - 1), q.set a.toNat (y.r.fr.getD a.toNat 0)) := by unfold gIb; rw [if_pos t1, if_pos t2]
    have g := ih _ e
    rw [e]
    exact round hX hO (by kernel_rfl) (.b t1 (.o i1 (.o i2 (.b t2 (.o i3 (.o i1 (.go g)))))))
  ·have t1 : decide (a ≥ 0) = false := by simpa using c
   have e : gIb y.r (a, q) = .inr (a, q) := by unfold gIb; rw [if_neg (by simp only []; rw [t1]; simp)]
   rw [e]
   dsimp only [contW]
   exact round hX hO (by kernel_rfl) (.b t1 .ex)
structure RowIn (s : List Int) (r : Rw) : Prop where
 f : isPl s r.fr = true
 t : isPl s r.to = true
 le : LeB r.to r.fr
def gBx (y : Ly) (z : List Int × List Int × List V) : (List Int × List Int × List V) ⊕ (Int × List Int × List Int × List V) := if decide ((((car y.r.fr y.r.to z.1.length z.1).1 : Nat) : Int) - 1 < 0) = true then .inr ((((car y.r.fr y.r.to z.1.length z.1).1 : Nat) : Int) - 1, (car y.r.fr y.r.to z.1.length z.1).2, stB y.r.cell z.2 (numI y.s z.1))
 else .inl ((car y.r.fr y.r.to z.1.length z.1).2.set ((((car y.r.fr y.r.to z.1.length z.1).1 : Nat) : Int) - 1).toNat (IntKind.i64.wrap ((car y.r.fr y.r.to z.1.length z.1).2.getD ((((car y.r.fr y.r.to z.1.length z.1).1 : Nat) : Int) - 1).toNat 0 + 1)), stB y.r.cell z.2 (numI y.s z.1))
theorem car_pl {s f t : List Int} (hf : isPl s f = true) : ∀ (k : Nat) (p : List Int), isPl s p = true → isPl s (car f t k p).2 = true
 | 0, p, h => h
 | k + 1, p, h => by
  simp only [car]
  split
  ·rcases Nat.lt_or_ge k s.length with hk | hk
   ·have h1 := (isPl_iff.1 hf).2 k hk
    exact car_pl hf k _ (set_isPl (ch := (k : Int)) h (inR_nat hk) ⟨h1.1, by rw [Int.toNat_natCast]; omega⟩)
   ·have hp := isPl_len h
    rw [List.set_eq_of_length_le (by omega)]
    exact car_pl hf k _ h
  ·exact h
theorem leB_get : ∀ {t q : List Int}, LeB t q → ∀ j, j < t.length → q.getD j 0 ≤ t.getD j 0
 | [], _, _, j, h => by simp at h
 | _ :: _, [], h, _, _ => h.elim
 | _ :: _, _ :: _, h, 0, _ => h.1
 | _ :: _, _ :: _, h, j + 1, hj => leB_get h.2 j (by simpa using hj)
theorem gBx_eq {y : Ly} (hf : Fine y.s) (hr : RowIn y.s y.r) {p : List Int} (hp : isPl y.s p = true) (hq : LeB y.r.to p) (x : List Int × List V) : match nextB y.r.fr y.r.to p with
  | none => ∃ a q, q.length = p.length ∧ gBx y (p, x) = .inr (a, q, stB y.r.cell x (numI y.s p))
  | some q => isPl y.s q = true ∧ LeB y.r.to q ∧ gBx y (p, x) = .inl (q, stB y.r.cell x (numI y.s p)) := by
 have hl := isPl_len hp
 have hl1 := isPl_len hr.f
 have hl2 := isPl_len hr.t
 have hc := car_len (f := y.r.fr) (t := y.r.to) p.length p
 have hd := car_pl (t := y.r.to) hr.f p.length p hp
 have hne := nextC_eq (f := y.r.fr) (t := y.r.to) (p := p) (by omega) (by omega)
 unfold nextC at hne
 by_cases c : (car y.r.fr y.r.to p.length p).1 = 0
 ·rw [if_pos c] at hne
  rw [← hne]
  refine ⟨(((car y.r.fr y.r.to p.length p).1 : Nat) : Int) - 1, (car y.r.fr y.r.to p.length p).2, hc.2, ?_⟩
  unfold gBx
  rw [if_pos (decide_eq_true (by show (((car y.r.fr y.r.to p.length p).1 : Nat) : Int) - 1 < 0; omega))]
 ·rw [if_neg c] at hne
  have hk : (car y.r.fr y.r.to p.length p).1 - 1 < y.s.length := by omega
  have e1 : ((((car y.r.fr y.r.to p.length p).1 : Nat) : Int) - 1).toNat = (car y.r.fr y.r.to p.length p).1 - 1 := by omega
  have hz := hf.sz _ (getD_mem hk)
  have hdg := (isPl_iff.1 hd).2 _ hk
  have e2 : IntKind.i64.wrap ((car y.r.fr y.r.to p.length p).2.getD ((car y.r.fr y.r.to p.length p).1 - 1) 0 + 1) = (car y.r.fr y.r.to p.length p).2.getD ((car y.r.fr y.r.to p.length p).1 - 1) 0 + 1 := wrap_nn (by omega) (by omega)
  have hg : gBx y (p, x) = .inl ((car y.r.fr y.r.to p.length p).2.set ((car y.r.fr y.r.to p.length p).1 - 1) ((car y.r.fr y.r.to p.length p).2.getD ((car y.r.fr y.r.to p.length p).1 - 1) 0 + 1), stB y.r.cell x (numI y.s p)) := by
   unfold gBx
   rw [if_neg (by rw [decide_eq_true_eq]; show ¬ ((((car y.r.fr y.r.to p.length p).1 : Nat) : Int) - 1 < 0); omega)]
   simp only [e1, e2]
  rw [← hne]
  have hcl : (car y.r.fr y.r.to p.length p).2.length = y.s.length := by rw [hc.2, hl]
  have hle := hq.next hr.le hne.symm
  refine ⟨isPl_iff.2 ⟨by simpa using hcl, fun j hj => ?_⟩, hle, hg⟩
  have hj1 := (isPl_iff.1 hd).2 j hj
  have h9 := leB_get hle j (by omega)
  have h8 := (isPl_iff.1 hr.t).2 j hj
  refine ⟨?_, by omega⟩
  rw [getD_set (by omega)]
  split
  ·omega
  ·exact hj1.1
def outB (y : Ly) (p : List Int) (x : List Int × List V) : List Int × List V := (boxA y.r.fr y.r.to p).foldl (fun x p => stB y.r.cell x (numI y.s p)) x
theorem bx_it {y : Ly} (hf : Fine y.s) (hr : RowIn y.s y.r) : ∀ (m : Nat) (p : List Int) (x : List Int × List V), isPl y.s p = true → LeB y.r.to p → (boxA y.r.fr y.r.to p).length ≤ m → ∃ a q, itF (gBx y) m (p, x) = some (a, q, outB y p x)
 | 0, p, x, hp, hq, hm => by
  rw [boxA_next hq hr.le] at hm
  simp at hm
 | m + 1, p, x, hp, hq, hm => by
  have hb := boxA_next hq hr.le
  have hg := gBx_eq hf hr hp hq x
  cases hn : nextB y.r.fr y.r.to p with
  | none =>
   rw [hn] at hb hg
   obtain ⟨a, q, _, h2⟩ := hg
   refine ⟨a, q, by rw [itF, h2]; unfold outB; rw [hb]; rfl⟩
  | some q =>
   rw [hn] at hb hg
   obtain ⟨h1, h2, h3⟩ := hg
   rw [hb] at hm
   obtain ⟨a, q', h4⟩ := bx_it hf hr m q (stB y.r.cell x (numI y.s p)) h1 h2 (by simpa using hm)
   refine ⟨a, q', by rw [itF, h3]; unfold outB at h4 ⊢; rw [hb]; exact h4⟩
theorem boxA_len : ∀ {s f t p : List Int}, SzOk s → isPl s f = true → isPl s t = true → isPl s p = true → ((boxA f t p).length : Int) ≤ prodI s
 | [], [], [], [], _, _, _, _ => by simp [boxA, prodI]
 | a :: s, f :: fs, t :: ts, x :: p, hs, hf, ht, hp => by
  simp only [isPl, Bool.and_eq_true, decide_eq_true_eq] at hf ht hp
  have i1 := boxA_len hs.tail hf.2 ht.2 hp.2
  have i2 := boxA_len hs.tail hf.2 ht.2 hf.2
  simp only [boxA, prodI, List.length_append, List.length_map, List.length_flatMap, List.map_const', List.sum_replicate_nat, List.length_range]
  have e : (((t - x).toNat : Nat) : Int) ≤ a - 1 := by omega
  have h1 : 1 ≤ prodI s := prodI_pos hs.tail
  have h3 : (((t - x).toNat * (boxA fs ts fs).length : Nat) : Int) ≤ (a - 1) * prodI s := by
   push_cast
   exact Int.mul_le_mul e i2 (by omega) (by omega)
  have h4 : (a - 1) * prodI s = a * prodI s - prodI s := by rw [Int.sub_mul, Int.one_mul]
  push_cast at h3 ⊢
  omega
 | [], _ :: _, _, _, _, h, _, _ => by simp [isPl] at h
 | _ :: _, [], _, _, _, h, _, _ => by simp [isPl] at h
 | [], _, _ :: _, _, _, _, h, _ => by simp [isPl] at h
 | _ :: _, _, [], _, _, _, h, _ => by simp [isPl] at h
 | [], _, _, _ :: _, _, _, _, h => by simp [isPl] at h
 | _ :: _, _, _, [], _, _, _, h => by simp [isPl] at h
theorem sNum {n : Nat} (hO : Ok n oc119) {s p : List Int} (hp : isPl s p = true) (hf : Fine s) : Sim X0 Tryz.prog (ApN n) (.fn 86 [] []) [.lst 3 s false, .own 0] [.list false false 3 p] (.int .i64 (numI s p)) [.list false false 3 p] :=
 sim_orc hX hO (f := 86) (first := []) (xs := [.lst 3 s false, .own 0]) (cap := []) (v := .int .i64 (numI s p)) (H := [.list false false 3 p]) (vs := [.lst 3 s false, .lst 3 p false]) (ps := [isPl s p = true, Fine s]) rfl (by kernel_rfl) (List.forall_mem_cons.2 ⟨hp, List.forall_mem_singleton.2 hf⟩) rfl
noncomputable abbrev oBx (y : Ly) (z : Int × List Int × List Int × List V) : Ex × PSt gam := (.ret, wBx y z.2.1 z.2.2 [(5, xi z.1), (43, xl true)])
theorem lBx {n : Nat} (hO : ∀ m, n ≤ m → Ok m oc119) (y : Ly) (hf : Fine y.s) (hr : RowIn y.s y.r) (x : List Int × List V) (h1 : x.1.length = cnt y.s) (h2 : x.2.length = cnt y.s) {a : Int} {q : List Int} (hit : itF (gBx y) (cnt y.s) (y.r.fr, x) = some (a, q, outB y y.r.fr x)) : LpB (n + 1) 164 0 11 (wBx y y.r.fr x []) (oBx y (a, q, outB y y.r.fr x)).1 (oBx y (a, q, outB y y.r.fr x)).2 := by
 refine whileE (X := X0) (P := Tryz.prog) (T := T) (st := fun z => wBx y z.1 z.2 []) (g := gBx y) (s := (y.r.fr, x)) (out := oBx y) (fun z => isPl y.s z.1 = true ∧ LeB y.r.to z.1 ∧ z.2.1.length = cnt y.s ∧ z.2.2.length = cnt y.s) hit (by kernel_rfl) (show cnt y.s ≤ LL by have := hf.cnt_most; have := LLm; omega) ⟨hr.f, hr.le, h1, h2⟩ ?_ ?_
 ·rintro ⟨p, x⟩ ⟨q, x'⟩ ⟨h1, h2, h3, h4⟩ e
  have hg := gBx_eq hf hr h1 h2 x
  cases hn : nextB y.r.fr y.r.to p with
  | none => rw [hn] at hg; obtain ⟨y, _, _, e2⟩ := hg; rw [e2] at e; cases e
  | some r =>
   rw [hn] at hg
   obtain ⟨g1, g2, g3⟩ := hg
   rw [g3] at e
   cases e
   exact ⟨g1, g2, by simpa [stB] using h3, by simpa [stB] using h4⟩
 ·rintro ⟨p, x⟩ m r ⟨h1, h2, h3, h4⟩ ih
  have h1 : isPl y.s p = true := h1
  have h2 : LeB y.r.to p := h2
  have h3 : x.1.length = cnt y.s := h3
  have h4 : x.2.length = cnt y.s := h4
  have hp := isPl_len h1
  have hp1 := isPl_len hr.f
  have hp2 := isPl_len hr.t
  have hn := numI_rng h1 hf.sz
  have hi : inR (numI y.s p) (cnt y.s) := ⟨hn.1, by unfold cnt; omega⟩
  have hy := yB (hO n (Nat.le_refl _)) y x (h3 ▸ hi) (h4 ▸ hi)
  have hl := lIb (hO (n + 1) (by omega)) y (p := p) (by have := hf.len; omega) (by omega) (by omega) (stB y.r.cell x (numI y.s p))
  rw [show (p.length : Int) - 1 = IntKind.i64.wrap ((p.length : Int) - 1) by rw [wrap_nn (by omega) (by have := hf.len; omega)]] at hl
  have hc := car_len (f := y.r.fr) (t := y.r.to) p.length p
  have hgz : ∀ z : Nat × List Int, car y.r.fr y.r.to p.length p = z → gBx y (p, x) = (if decide (((z.1 : Nat) : Int) - 1 < 0) = true then .inr (((z.1 : Nat) : Int) - 1, z.2, stB y.r.cell x (numI y.s p)) else .inl (z.2.set (((z.1 : Nat) : Int) - 1).toNat (IntKind.i64.wrap (z.2.getD (((z.1 : Nat) : Int) - 1).toNat 0 + 1)), stB y.r.cell x (numI y.s p))) := by rintro _ rfl; rfl
  obtain ⟨z, hz⟩ : ∃ z, car y.r.fr y.r.to p.length p = z := ⟨_, rfl⟩
  have hg := hgz z hz
  rw [hz] at hl hc
  obtain ⟨k, q⟩ := z
  have hc : k ≤ p.length ∧ q.length = p.length := hc
  have hg : gBx y (p, x) = (if decide ((k : Int) - 1 < 0) = true then .inr ((k : Int) - 1, q, stB y.r.cell x (numI y.s p)) else .inl (q.set ((k : Int) - 1).toNat (IntKind.i64.wrap (q.getD ((k : Int) - 1).toNat 0 + 1)), stB y.r.cell x (numI y.s p))) := hg
  generalize stB y.r.cell x (numI y.s p) = x' at hy hl hg
  cases t : decide (((k : Nat) : Int) - 1 < 0)
  ·have t' : ¬ (((k : Nat) : Int) - 1 < 0) := by simpa using t
   rw [if_neg (by rw [t]; simp)] at hg
   have hi : inR ((k : Int) - 1) q.length := ⟨by omega, by omega⟩
   have g := ih _ hg
   rw [hg]
   exact round hX (hO (n + 1) (by omega)) (by kernel_rfl) (.fr [11] (sNum (hO (n + 1) (by omega)) h1 hf) (.fr [0, 1, 2, 3, 4, 5, 6, 7, 8, 9, 10] hy (.b (rfl : (!true) = false) (.w hl (.b t (.o hi (.o hi (.go g))))))))
  ·rw [if_pos t] at hg
   rw [hg]
   exact round hX (hO (n + 1) (by omega)) (by kernel_rfl) (.fr [11] (sNum (hO (n + 1) (by omega)) h1 hf) (.fr [0, 1, 2, 3, 4, 5, 6, 7, 8, 9, 10] hy (.b (rfl : (!true) = false) (.w hl (.b t .re)))))
theorem sBx {n : Nat} (hO : ∀ m, n ≤ m → Ok m oc119) (y : Ly) (hf : Fine y.s) (hr : RowIn y.s y.r) (x : List Int × List V) (h1 : x.1.length = cnt y.s) (h2 : x.2.length = cnt y.s) : Sim X0 Tryz.prog (ApN (n + 2)) (.fn 164 [] [.ptr 8 0 4, .ptr 7 0 1]) [.yld 10] (MY y true x) (.tup []) (MY y true (outB y y.r.fr x)) := by
 have hm := hf.cnt_most
 have hb := boxA_len (p := y.r.fr) hf.sz hr.f hr.t hr.f
 obtain ⟨a, q, hit⟩ := bx_it hf hr (cnt y.s) y.r.fr x hr.f hr.le (by unfold cnt; omega)
 have hl := lBx hO y hf hr x h1 h2 hit
 have hs : y.r.fr.length ≤ most := by have := isPl_len hr.f; have := hf.lenM; omega
 have := sim_ex hX (hO (n + 1) (by omega)) (f := 164) (first := []) (xs := [.yld 10]) (cap := [.ptr 8 0 4, .ptr 7 0 1]) (H := MY y true x) (v := .tup []) (H1 := MY y true (outB y y.r.fr x) ++ [.list false false 3 q]) (by kernel_rfl) (.o hs (.w hl .er))
 exact Sim.cut hX this rfl rfl rfl rfl
end Go.Proofs.YtmefgijobonklaaGreat
namespace Go.Proofs.YtmefgijobonklaaGreat
open Go Tw Pv Mist
noncomputable abbrev wRw (y : Ly) (x : List Int × List V) (z : List (Nat × PE gam)) : PSt gam := ⟨[(4, .val (.nil .slc)), (5, xi 0), (6, xL 3 y.s), (7, .val (.fn 117 [.lst 3 y.s false] [])), (9, xo 0), (12, .val (.ptr 3 0 2)), (13, .val (.ptr 5 0 1)), (25, xL 28 y.ts), (26, xi y.ts.length), (27, xi y.i), (49, xL 95 y.rows), (50, xi y.rows.length), (51, xi y.k)] ++ z, [], (MY0 y x).take 6⟩
theorem rfY {n : Nat} (hO : ∀ m, n ≤ m → Ok m oc119) (y : Ly) (hf : Fine y.s) (hr : RowIn y.s y.r) (x : List Int × List V) (h1 : x.1.length = cnt y.s) (h2 : x.2.length = cnt y.s) : ExecS X0 Tryz.prog T (ApN (n + 2)) LL 80 false (ntP Tryz.prog 80) 0 (.rangeFunc (.tmp 57) #[58] (rfAssign Tryz.prog 80) (rfBody Tryz.prog 80)) ⟨envY y, [], MY0 y x⟩ .norm ⟨envY y, [], (MY y true (outB y y.r.fr x)).set 10 (LRY y false (some .skip))⟩ :=
 rf_exec hX (ps := ⟨envY y, [], MY0 y x⟩) rfl rfl (sBx hO y hf hr x h1 h2) rfl rfl
def stR (s : List Int) (r : Rw) (x : List Int × List V) : List Int × List V := (boxA r.fr r.to r.fr).foldl (fun x p => stB r.cell x (numI s p)) x
abbrev Yk (y : Ly) (k : Nat) : Ly := ⟨y.s, y.ts, y.rows, y.rows.getD k Rw0, y.acc, y.i, k⟩
def gRw (y : Ly) (k : Nat) (x : List Int × List V) : List Int × List V := stR y.s (y.rows.getD k Rw0) x
theorem stR_len (s : List Int) (r : Rw) (x : List Int × List V) : (stR s r x).1.length = x.1.length ∧ (stR s r x).2.length = x.2.length := by
 unfold stR
 generalize boxA r.fr r.to r.fr = l
 induction l generalizing x with
 | nil => exact ⟨rfl, rfl⟩
 | cons p l ih =>
  have := ih (stB r.cell x (numI s p))
  simp only [List.foldl_cons]
  rw [this.1, this.2]
  exact ⟨by simp [stB], by simp [stB]⟩
theorem lLayR {n : Nat} (hO : ∀ m, n ≤ m → Ok m oc119) (y : Ly) (hf : Fine y.s) (hl : y.rows.length ≤ most) (hr : ∀ r ∈ y.rows, RowIn y.s r) (x : List Int × List V) (h1 : x.1.length = cnt y.s) (h2 : x.2.length = cnt y.s) : LpB (n + 2) 80 1 0 (wRw (Yk y 0) x []) (.exit 2) (wRw (Yk y y.rows.length) (foldN (gRw y) y.rows.length 0 x) [(52, xl false)]) := by
 refine foldE (X := X0) (P := Tryz.prog) (T := T) (g := gRw y) (s0 := x) (st := fun i x => wRw ⟨y.s, y.ts, y.rows, Rw0, y.acc, y.i, i⟩ x []) (fin := fun x => wRw (Yk y y.rows.length) x [(52, xl false)]) (fun _ x => x.1.length = cnt y.s ∧ x.2.length = cnt y.s) (by kernel_rfl) hl LLm ⟨h1, h2⟩ (fun k x _ h => ?_) (fun k x hk hx m e q p => ?_) (fun s _ => ?_)
 ·have := stR_len y.s (y.rows.getD k Rw0) x
  exact ⟨by show (stR _ _ _).1.length = _; rw [this.1, h.1], by show (stR _ _ _).2.length = _; rw [this.2, h.2]⟩
 ·have hm : y.rows.getD k Rw0 ∈ y.rows := by simp [List.getD, List.getElem?_eq_getElem hk]
  have h3 := rfY hO (Yk y k) hf (hr _ hm) x hx.1 hx.2
  exact round hX (hO (n + 2) (by omega)) (by kernel_rfl) (.b (lt_nat hk) (.o (inR_nat hk) (.w h3 (.goG [.gc [0, 1, 2, 3, 4, 5]] p))))
 ·exact round hX (hO (n + 2) (by omega)) (by kernel_rfl) (.b (lt_no y.rows.length) .ex)
noncomputable abbrev wTs (s : List Int) (ts : List (List Rw)) (acc : List Ld) (i : Int) (z : List (Nat × PE gam)) : PSt gam := ⟨[(4, .val (.nil .slc)), (5, xi 0), (6, xL 3 s), (7, .val (.fn 117 [.lst 3 s false] [])), (9, xo 0), (25, xL 28 ts), (26, xi ts.length), (27, xi i)] ++ z, [], [.list false false 124 acc]⟩
def x0 (s : List Int) : List Int × List V := (List.replicate (prodI s).toNat 0, List.replicate (prodI s).toNat V0)
def layX (s : List Int) (t : List Rw) : List Int × List V := foldN (fun k => stR s (t.getD k Rw0)) t.length 0 (x0 s)
def gT (s : List Int) (ts : List (List Rw)) (k : Nat) (acc : List Ld) : List Ld ⊕ Int := if decide (((ts.getD k []).length : Int) > 4000) = true then .inr 5 else if (!((ts.getD k []).all (S_tRow s))) = true then .inr 4 else if decide (S_lMax (layX s (ts.getD k [])).1 > 1) = true then .inr 6 else if (S_lMin (layX s (ts.getD k [])).1 == 0) = true then .inr 7 else .inl (acc ++ [⟨s, (layX s (ts.getD k [])).2⟩])
noncomputable def zT (s : List Int) (ts : List (List Rw)) : List Ld ⊕ Int → Ex × PSt gam
 | .inl acc => (.exit 0, wTs s ts acc ts.length [(28, xl false)])
 | .inr e => (.ret, ⟨[(4, .val (.nil .slc)), (5, xi e)], [], []⟩)
theorem leB_of : ∀ {t f : List Int}, f.length = t.length → (∀ j, j < f.length → f.getD j 0 ≤ t.getD j 0) → LeB t f
 | [], [], _, _ => trivial
 | a :: t, b :: f, h, hj => ⟨hj 0 (by simp), leB_of (by simpa using h) fun j h1 => by simpa using hj (j + 1) (by simpa using h1)⟩
 | [], _ :: _, h, _ => by simp at h
 | _ :: _, [], h, _ => by simp at h
theorem rowIn_of {s : List Int} {r : Rw} (h : S_tRow s r = true) : RowIn s r := by
 unfold S_tRow at h
 split at h
 ·cases h
 rename_i h1
 split at h
 ·cases h
 rename_i h2
 split at h
 ·cases h
 split at h
 ·rename_i h4
  have h1 : isPl s r.fr = true := by simpa using h1
  have h2 : isPl s r.to = true := by simpa using h2
  refine ⟨h1, h2, leB_of (by rw [isPl_len h1, isPl_len h2]) fun j hj => ?_⟩
  have := srch_ok.1 h4 j hj
  simpa [cFT] using this
 ·cases h
theorem layX_len (s : List Int) (t : List Rw) : (layX s t).1.length = (prodI s).toNat ∧ (layX s t).2.length = (prodI s).toNat := by
 refine foldN_inv (g := fun k => stR s (t.getD k Rw0)) (m := t.length) (k := 0) (s := x0 s) (fun _ x => x.1.length = (prodI s).toNat ∧ x.2.length = (prodI s).toNat) ⟨by simp [x0], by simp [x0]⟩ fun j x _ _ h => ?_
 have := stR_len s (t.getD j Rw0) x
 exact ⟨by rw [this.1, h.1], by rw [this.2, h.2]⟩
def RwsOk (t : List Rw) : Prop := ∀ r ∈ t, r.fr.length ≤ most ∧ r.to.length ≤ most
theorem qAll {n : Nat} (hO : Ok n oc119) (s : List Int) (l : List Rw) (hl : l.length ≤ most) (hr : ∀ r ∈ l, r.fr.length ≤ most ∧ r.to.length ≤ most) : Sim X0 Tryz.prog (ApN (n + 4)) (.fn 118 [] []) [.lst 95 l false, .fn 117 [.lst 3 s false] []] [] (tA.put (l.all (S_tRow s))) [] := by
 have h1 : ∀ x ∈ l, Sim X0 Tryz.prog (ApN (n + 1)) (.fn 163 [] [.ptr 0 0 1]) [.agg x.ps] (boxF 117 [.lst 3 s false]) (tA.put (!(S_tRow s x))) (boxF 117 [.lst 3 s false]) := fun x hx =>
  sim_is hX hO (first := []) (by kernel_rfl) (.o (hr x hx).1 (.o (hr x hx).2 .sr))
 have h2 := q162 (n := n + 1) (g := fun x => !(S_tRow s x)) l h1 hl
 rw [← any_not]
 exact Sim.drop hX (sim_is hX ok0 (first := []) (cap := []) (H1 := boxF 117 [.lst 3 s false]) (by kernel_rfl) (.k h2 .sr)) rfl rfl
theorem lLay {n : Nat} (hO : ∀ m, n ≤ m → Ok m oc119) {s : List Int} (hf : Fine s) {ts : List (List Rw)} (hl : ts.length ≤ most) (hr : ∀ t ∈ ts, RwsOk t) : ExecS X0 Tryz.prog T (ApN (n + 4)) LL 80 false (ntP Tryz.prog 80) 0 (.loop (bodyP Tryz.prog 80 0)) (wTs s ts [] 0 []) (zT s ts (cntN (gT s ts) ts.length 0 [])).1 (zT s ts (cntN (gT s ts) ts.length 0 [])).2 := by
 have hO4 := hO (n + 4) (by omega)
 refine eachN (X := X0) (P := Tryz.prog) (T := T) (st := fun i acc => wTs s ts acc i []) (g := gT s ts) (out := zT s ts) (fun k acc => acc.length = k) (by kernel_rfl) hl LLm rfl (fun k acc m hk ha ih => ?_) (fun acc _ => ?_)
 ·obtain ⟨t, ht⟩ : ∃ t, ts.getD k [] = t := ⟨_, rfl⟩
  have hm : t ∈ ts := by rw [← ht]; simp [List.getD, List.getElem?_eq_getElem hk]
  have h1 := lt_nat hk
  have h2 := inR_nat hk
  cases e1 : decide (((ts.getD k []).length : Int) > 4000)
  ·have ht4 : (ts.getD k []).length ≤ most := most4 e1
   have hq := qAll (n := n) (hO n (Nat.le_refl _)) s (ts.getD k []) ht4 (hr _ (ht ▸ hm))
   cases e2 : (ts.getD k []).all (S_tRow s)
   ·have e : gT s ts k acc = .inr 4 := by unfold gT; rw [if_neg (by rw [e1]; simp), if_pos (by rw [e2]; rfl)]
    rw [e]
    rw [e2] at hq
    exact round hX hO4 (by kernel_rfl) (.b h1 (.o h2 (.b e1 (.fr [] hq (.b (rfl : (!false) = true) (.ouG [.gc []] nofun))))))
   ·rw [e2] at hq
    have hf1 := hf.cnt_most
    have hn0 : 1 ≤ prodI s := prodI_pos hf.sz
    have hnm : prodI s ≤ (most : Int) := by unfold cnt at hf1; omega
    have hx := layX_len s (ts.getD k [])
    have hR : LpB (n + 2 + 2) 80 1 0 (wRw (Yk ⟨s, ts, ts.getD k [], Rw0, acc, k, 0⟩ 0) (x0 s) []) (.exit 2) (wRw (Yk ⟨s, ts, ts.getD k [], Rw0, acc, k, 0⟩ (ts.getD k []).length) (layX s (ts.getD k [])) [(52, xl false)]) := lLayR (n := n + 2) (fun m hm => hO m (by omega)) ⟨s, ts, ts.getD k [], Rw0, acc, k, 0⟩ hf ht4 (fun r hr => rowIn_of (List.all_eq_true.1 e2 r hr)) (x0 s) (by simp [x0, cnt]) (by simp [x0, cnt])
    have hxl : (layX s (ts.getD k [])).1.length ≤ most := by rw [hx.1]; omega
    have hx0 : 0 < (layX s (ts.getD k [])).1.length := by rw [hx.1]; omega
    have hal : acc.length + ([⟨s, (layX s (ts.getD k [])).2⟩] : List Ld).length ≤ most := by rw [ha]; show k + 1 ≤ most; omega
    have e0 : gT s ts k acc = if decide (S_lMax (layX s (ts.getD k [])).1 > 1) = true then .inr 6 else if (S_lMin (layX s (ts.getD k [])).1 == 0) = true then .inr 7 else .inl (acc ++ [⟨s, (layX s (ts.getD k [])).2⟩]) := by unfold gT; rw [if_neg (by rw [e1]; simp), if_neg (by rw [e2]; simp)]
    cases e3 : decide (S_lMax (layX s (ts.getD k [])).1 > 1)
    ·cases e4 : S_lMin (layX s (ts.getD k [])).1 == 0
     ·rw [if_neg (by rw [e3]; simp), if_neg (by rw [e4]; simp)] at e0
      rw [e0]
      exact round hX hO4 (by kernel_rfl) (.b h1 (.o h2 (.b e1 (.fr [] hq (.b (rfl : (!true) = false) (.o hf (.o (rfl : prodI s = prodI s) (.o (show 0 ≤ prodI s by omega) (.o hnm (.o hf (.o (rfl : prodI s = prodI s) (.o (show 0 ≤ prodI s by omega) (.o hnm (.w hR (.o hxl (.o hx0 (.b e3 (.o hxl (.o hx0 (.b e4 (.o hal (.nxG [.gc [7]] (ih _ (by simp [ha]))))))))))))))))))))))))
     ·rw [if_neg (by rw [e3]; simp), if_pos e4] at e0
      rw [e0]
      exact round hX hO4 (by kernel_rfl) (.b h1 (.o h2 (.b e1 (.fr [] hq (.b (rfl : (!true) = false) (.o hf (.o (rfl : prodI s = prodI s) (.o (show 0 ≤ prodI s by omega) (.o hnm (.o hf (.o (rfl : prodI s = prodI s) (.o (show 0 ≤ prodI s by omega) (.o hnm (.w hR (.o hxl (.o hx0 (.b e3 (.o hxl (.o hx0 (.b e4 (.ouG [.gc []] nofun)))))))))))))))))))))
    ·rw [if_pos e3] at e0
     rw [e0]
     exact round hX hO4 (by kernel_rfl) (.b h1 (.o h2 (.b e1 (.fr [] hq (.b (rfl : (!true) = false) (.o hf (.o (rfl : prodI s = prodI s) (.o (show 0 ≤ prodI s by omega) (.o hnm (.o hf (.o (rfl : prodI s = prodI s) (.o (show 0 ≤ prodI s by omega) (.o hnm (.w hR (.o hxl (.o hx0 (.b e3 (.ouG [.gc []] nofun))))))))))))))))))
  ·have e : gT s ts k acc = .inr 5 := by unfold gT; rw [if_pos e1]
   rw [e]
   exact round hX hO4 (by kernel_rfl) (.b h1 (.o h2 (.b e1 (.ouG [.gc []] nofun))))
 ·exact round hX hO4 (by kernel_rfl) (.b (lt_no ts.length) (.ou nofun))
def S_lay (s : List Int) (ts : List (List Rw)) : List Ld × Int := if (S_sizes s != 0) = true then ([], S_sizes s) else match cntN (gT s ts) ts.length 0 [] with
 | .inl acc => (acc, 0)
 | .inr e => ([], e)
noncomputable def oc80 : Orc gam := orcF 80 (a2 isA tbsA) (tupA (a2 ldsA iA)) (fun p => S_lay p.1 p.2) (fun p => [p.1.length ≤ most, p.2.length ≤ most, ∀ t ∈ p.2, RwsOk t]) oc119
theorem gc80 : Gd oc80 := gc119.deep 4 fun n hn hO p hp => by
 obtain ⟨n, rfl⟩ : ∃ k, n = k + 4 := ⟨n - 4, by omega⟩
 obtain ⟨s, ts⟩ := p
 have h1 : s.length ≤ most := hp _ (.head _)
 have h2 : ts.length ≤ most := hp _ (.tail _ (.head _))
 have h3 : ∀ t ∈ ts, RwsOk t := hp _ (.tail _ (.tail _ (.head _)))
 have hO4 := hO (n + 4) (by omega)
 show Con _ _ _ _ _ ((tupA (a2 ldsA iA)).put (S_lay s ts)) _
 cases e : S_sizes s != 0
 ·have hl := lLay (n := n) (fun m hm => hO m (by omega)) (fine_of e) h2 h3
  have e0 : S_lay s ts = match cntN (gT s ts) ts.length 0 [] with | .inl acc => (acc, 0) | .inr e => ([], e) := by unfold S_lay; rw [if_neg (by rw [e]; simp)]
  cases e2 : cntN (gT s ts) ts.length 0 [] with
  | inl acc =>
   rw [e2] at hl e0
   rw [e0]
   exact fn_is hX hO4 (by kernel_rfl) (.o h1 (.b e (.wG [.nilE 9 124] hl .rr)))
  | inr er =>
   rw [e2] at hl e0
   rw [e0]
   exact fn_is hX hO4 (by kernel_rfl) (.o h1 (.b e (.wG [.nilE 9 124] hl (.rn (.tup [.nil .slc, .int .i64 er]) rfl))))
 ·have e0 : S_lay s ts = ([], S_sizes s) := by unfold S_lay; rw [if_pos e]
  rw [e0]
  exact fn_is hX hO4 (by kernel_rfl) (.o h1 (.b e (.rn (.tup [.nil .slc, .int .i64 (S_sizes s)]) rfl)))
end Go.Proofs.YtmefgijobonklaaGreat
namespace Go.Proofs.YtmefgijobonklaaGreat
open Go Tw Pv Mist
abbrev lyE (s : List Int) (t : List Rw) : Int := (S_lay s [t]).2
abbrev lyL (s : List Int) (t : List Rw) : Ld := (S_lay s [t]).1.getD (Int.toNat 0) Ld0
theorem m1 (t : List Rw) : [t].length ≤ most := by unfold most; simp
theorem m2 {t : List Rw} (h : RwsOk t) : ∀ x ∈ [t], RwsOk x := List.forall_mem_singleton.2 h
def S_tErr (s : List Int) (t : List Rw) : Int := if (S_sizes s != 0) = true then S_sizes s else if decide ((t.length : Int) > 4000) = true then 5 else if (!(t.all (S_tRow s))) = true then 4 else if decide (S_lMax (layX s t).1 > 1) = true then 6 else if (S_lMin (layX s t).1 == 0) = true then 7 else 0
theorem lay1 (s : List Int) (t : List Rw) : S_lay s [t] = if (S_tErr s t != 0) = true then ([], S_tErr s t) else ([⟨s, (layX s t).2⟩], 0) := by
 unfold S_lay S_tErr
 by_cases c : (S_sizes s != 0) = true
 ·rw [if_pos c, if_pos c, if_pos c]
 ·rw [if_neg c, if_neg c]
  have e : gT s [t] 0 [] = if decide ((t.length : Int) > 4000) = true then .inr 5 else if (!(t.all (S_tRow s))) = true then .inr 4 else if decide (S_lMax (layX s t).1 > 1) = true then .inr 6 else if (S_lMin (layX s t).1 == 0) = true then .inr 7 else .inl [⟨s, (layX s t).2⟩] := rfl
  simp only [List.length_singleton, cntN]
  rw [e]
  by_cases c1 : decide ((t.length : Int) > 4000) = true
  ·rw [if_pos c1, if_pos c1]; rfl
  rw [if_neg c1, if_neg c1]
  by_cases c2 : (!(t.all (S_tRow s))) = true
  ·rw [if_pos c2, if_pos c2]; rfl
  rw [if_neg c2, if_neg c2]
  by_cases c3 : decide (S_lMax (layX s t).1 > 1) = true
  ·rw [if_pos c3, if_pos c3]; rfl
  rw [if_neg c3, if_neg c3]
  by_cases c4 : (S_lMin (layX s t).1 == 0) = true
  ·rw [if_pos c4, if_pos c4]; rfl
  rw [if_neg c4, if_neg c4]; rfl
theorem lyE_eq (s : List Int) (t : List Rw) : lyE s t = S_tErr s t := by
 unfold lyE
 rw [lay1]
 split
 ·rfl
 ·rename_i h; simpa using Eq.symm (by simpa using h)
theorem lyL_eq {s : List Int} {t : List Rw} (h : (lyE s t != 0) = false) : (S_lay s [t]).1 = [⟨s, (layX s t).2⟩] ∧ Fine s ∧ t.length ≤ most ∧ t.all (S_tRow s) = true := by
 rw [lyE_eq] at h
 refine ⟨by rw [lay1, if_neg (by rw [h]; simp)], ?_⟩
 have h : S_tErr s t = 0 := by simpa using h
 unfold S_tErr at h
 split at h
 ·rename_i c; simp [h] at c
 rename_i c
 split at h
 ·cases h
 rename_i c2
 split at h
 ·cases h
 rename_i c3
 exact ⟨fine_of (by simpa using c), most4 (by simpa using c2), by simpa using c3⟩
theorem lyL_in {s : List Int} {t : List Rw} (h : (lyE s t != 0) = false) : inR 0 (S_lay s [t]).1.length := by rw [(lyL_eq h).1]; exact ⟨by omega, by simp⟩
theorem lyL_of {s : List Int} {t : List Rw} (h : (lyE s t != 0) = false) : lyL s t = ⟨s, (layX s t).2⟩ := by unfold lyL; rw [(lyL_eq h).1]; rfl
theorem lyL_ok {s : List Int} {t : List Rw} (h : (lyE s t != 0) = false) : OfOk (lyL s t).s (lyL s t).cells := by
 rw [lyL_of h]
 have hf := (lyL_eq h).2.1
 have := prodI_pos hf.sz
 exact ⟨hf, by show ((layX s t).2.length : Int) = prodI s; rw [(layX_len s t).2]; omega⟩
theorem lyL_len {s : List Int} {t : List Rw} (h : (lyE s t != 0) = false) : (lyL s t).cells.length ≤ most := by
 rw [lyL_of h]
 have hf := (lyL_eq h).2.1
 have h1 := hf.cnt_most
 show (layX s t).2.length ≤ most
 rw [(layX_len s t).2]
 exact h1
def S_tList (s : List Int) (t : List Rw) : List V × Int := if (lyE s t != 0) = true then ([], lyE s t) else ((lyL s t).cells, 0)
def S_tMerge (s : List Int) (t : List Rw) : List Rw × Int := if (lyE s t != 0) = true then ([], lyE s t) else (dOf (lyL s t).s (lyL s t).cells, 0)
noncomputable def oc27 : Orc gam := orcF 27 (a2 isA tbA) (tupA (a2 tbA iA)) (fun p => S_tMerge p.1 p.2) (fun p => [p.1.length ≤ most, RwsOk p.2]) oc80
theorem gc27 : Gd oc27 := gc80.add fun n hO p hp => fn_is hX hO (by kernel_rfl) (.o (hp _ (.head _)) (.o (m1 p.2) (.o (m2 (hp _ (.tail _ (.head _)))) (.sh (fun _ => .rn (.tup [.agg [.nil .slc], .int .i64 (lyE p.1 p.2)]) rfl) fun h => .o (lyL_in h) (.o (lyL_ok h) .rr)))))
def S_tAt (s : List Int) (t : List Rw) (q : List Int) : V × Int := if (lyE s t != 0) = true then (V0, lyE s t) else if (!(isPl (lyL s t).s q)) = true then (V0, 3) else ((lyL s t).cells.getD (numI (lyL s t).s q).toNat V0, 0)
theorem at_in {s q : List Int} {t : List Rw} (h : (lyE s t != 0) = false) (h2 : (!(isPl (lyL s t).s q)) = false) : inR (numI (lyL s t).s q) (lyL s t).cells.length := by
 have h3 := lyL_ok h
 have h4 := numI_rng (s := (lyL s t).s) (p := q) (by simpa using h2) h3.1.sz
 have h5 := h3.2
 exact ⟨h4.1, by omega⟩
noncomputable def oc56 : Orc gam := orcF 56 (a3 isA tbA isA) (tupA (a2 vA iA)) (fun p => S_tAt p.1 p.2.1 p.2.2) (fun p => [p.1.length ≤ most, RwsOk p.2.1, p.2.2.length ≤ most]) oc27
theorem gc56 : Gd oc56 := gc27.add fun n hO p hp => fn_is hX hO (by kernel_rfl) (.o (hp _ (.head _)) (.o (m1 p.2.1) (.o (m2 (hp _ (.tail _ (.head _)))) (.sh (fun _ => .rr) fun h => .o (lyL_in h) (.o (hp _ (.tail _ (.tail _ (.head _)))) (.sh (fun _ => .rr) fun h2 => .o (lyL_in h) (.o (lyL_in h) (.o (show isPl (lyL p.1 p.2.1).s p.2.2 = true by simpa using h2) (.o (lyL_ok h).1 (.o (at_in h h2) .rr))))))))))
def S_tMany (s : List Int) (t : List Rw) (v : V) : Int × Int := if (lyE s t != 0) = true then (0, lyE s t) else if (!(S_vCheck v == 0)) = true then (0, 4) else (S_Many (lyL s t).cells v, 0)
noncomputable def oc38 : Orc gam := orcF 38 (a3 isA tbA vA) (tupA (a2 iA iA)) (fun p => S_tMany p.1 p.2.1 p.2.2) (fun p => [p.1.length ≤ most, RwsOk p.2.1]) oc56
theorem gc38 : Gd oc38 := gc56.add fun n hO p hp => fn_is hX hO (by kernel_rfl) (.o (hp _ (.head _)) (.o (m1 p.2.1) (.o (m2 (hp _ (.tail _ (.head _)))) (.sh (fun _ => .rr) fun h => .ss .rr (.o (lyL_in h) (.o (lyL_len h) .rr))))))
end Go.Proofs.YtmefgijobonklaaGreat
namespace Go.Proofs.YtmefgijobonklaaGreat
open Go Tw Pv Mist
abbrev V3 := V × V × V
abbrev V3.vs (x : V3) : Array Value := #[.int .u8 x.1.f, .int .i64 x.1.n, .int .u8 x.2.1.f, .int .i64 x.2.1.n, .int .u8 x.2.2.f, .int .i64 x.2.2.n]
theorem opnd_rng (c : Int) : 0 ≤ S_opnd c ∧ S_opnd c ≤ 3 := by
 unfold S_opnd
 split
 ·omega
 split
 ·omega
 split
 ·split
  ·omega
  ·split <;> omega
 ·split <;> omega
end Go.Proofs.YtmefgijobonklaaGreat
namespace Mist
def inB : List Int → List Int → List Int → Prop
 | f :: fs, t :: ts, y :: q => f ≤ y ∧ y ≤ t ∧ inB fs ts q
 | [], [], [] => True
 | _, _, _ => False
theorem box_cons {f t : Int} {fs ts : List Int} (h : f ≤ t) : boxA (f :: fs) (t :: ts) (f :: fs) = (List.range (t - f + 1).toNat).flatMap fun (k : Nat) => (boxA fs ts fs).map ((f + (k : Int)) :: ·) := by
 have e : (t - f + 1).toNat = (t - f).toNat + 1 := by omega
 rw [e, List.range_succ_eq_map]
 simp only [boxA, List.flatMap_cons, List.flatMap_map]
 congr 1
 ·simp
 ·congr 1
  funext k
  have e1 : f + 1 + (k : Int) = f + ((Nat.succ k : Nat) : Int) := by push_cast; omega
  rw [e1]
theorem mem_box : ∀ {f t q : List Int}, LeB t f → (q ∈ boxA f t f ↔ inB f t q)
 | [], [], [], _ => by simp [boxA, inB]
 | [], [], _ :: _, _ => by simp [boxA, inB]
 | f :: fs, t :: ts, [], h => by
  rw [box_cons h.1]
  simp [inB]
 | f :: fs, t :: ts, y :: q, h => by
  have ih := mem_box (q := q) h.2
  rw [box_cons h.1]
  simp only [List.mem_flatMap, List.mem_range, List.mem_map, inB, ← ih]
  constructor
  ·rintro ⟨k, hk, q', hq, e⟩
   cases e
   exact ⟨by omega, by omega, hq⟩
  ·rintro ⟨h1, h2, h3⟩
   exact ⟨(y - f).toNat, by omega, q, h3, by rw [show f + (((y - f).toNat : Nat) : Int) = y by omega]⟩
 | [], _ :: _, _, h => h.elim
 | _ :: _, [], _, h => h.elim
theorem nodup_box : ∀ {f t : List Int}, LeB t f → (boxA f t f).Nodup
 | [], [], _ => by simp [boxA]
 | f :: fs, t :: ts, h => by
  have ih := nodup_box h.2
  rw [box_cons h.1]
  unfold List.Nodup
  rw [List.pairwise_flatMap]
  refine ⟨fun k _ => ?_, ?_⟩
  ·rw [List.pairwise_map]
   exact ih.imp fun h e => h (List.cons.inj e).2
  ·refine List.pairwise_lt_range.imp fun {a b} hab x hx y hy e => ?_
   obtain ⟨x', _, rfl⟩ := List.mem_map.1 hx
   obtain ⟨y', _, rfl⟩ := List.mem_map.1 hy
   have := (List.cons.inj e).1
   omega
 | [], _ :: _, h => h.elim
 | _ :: _, [], h => h.elim
theorem inB_iff : ∀ {f t q : List Int}, inB f t q ↔ f.length = q.length ∧ t.length = q.length ∧ ∀ j, j < q.length → f.getD j 0 ≤ q.getD j 0 ∧ q.getD j 0 ≤ t.getD j 0
 | [], [], [] => by simp [inB]
 | f :: fs, t :: ts, y :: q => by
  have ih := inB_iff (f := fs) (t := ts) (q := q)
  simp only [inB, ih, List.length_cons]
  constructor
  ·rintro ⟨h1, h2, h3, h4, h5⟩
   refine ⟨by omega, by omega, fun j hj => ?_⟩
   cases j with
   | zero => exact ⟨h1, h2⟩
   | succ j => exact h5 j (by omega)
  ·rintro ⟨h1, h2, h3⟩
   have h0 := h3 0 (by omega)
   exact ⟨h0.1, h0.2, by omega, by omega, fun j hj => h3 (j + 1) (by omega)⟩
 | [], _ :: _, q => by cases q <;> simp [inB] <;> (intro h1 h2; omega)
 | _ :: _, [], q => by cases q <;> simp [inB] <;> (intro h1 h2; omega)
 | [], [], _ :: _ => by simp [inB]
 | _ :: _, _ :: _, [] => by simp [inB]
end Mist
namespace Go.Proofs.YtmefgijobonklaaGreat
open Go Tw Pv Mist
theorem fold_on {α γ : Type} {st : α → Nat → α} {get : α → Nat → γ} {up : γ → γ} (I : α → Prop) (N : Nat) (hI : ∀ x n, I x → I (st x n)) (h1 : ∀ x n, I x → n < N → get (st x n) n = up (get x n)) (h2 : ∀ x n m, n ≠ m → get (st x n) m = get x m) : ∀ (l : List Nat) (x : α) (m : Nat), I x → (∀ n ∈ l, n < N) → l.Nodup → get (l.foldl st x) m = if m ∈ l then up (get x m) else get x m
 | [], x, m, _, _, _ => by simp
 | a :: l, x, m, hx, hl, h => by
  rw [List.nodup_cons] at h
  rw [List.foldl_cons, fold_on I N hI h1 h2 l _ m (hI _ _ hx) (fun n hn => hl n (List.mem_cons_of_mem _ hn)) h.2]
  by_cases e : a = m
  ·subst e
   rw [if_neg h.1, if_pos (List.mem_cons_self ..), h1 _ _ hx (hl a (List.mem_cons_self ..))]
  ·rw [h2 x a m e]
   have : m ∈ a :: l ↔ m ∈ l := List.mem_cons.trans (or_iff_right fun h => e h.symm)
   simp only [this]
theorem inB_pl : ∀ {s f t q : List Int}, isPl s f = true → isPl s t = true → inB f t q → isPl s q = true := by
 intro s f t q hf ht h
 obtain ⟨h1, h2, h3⟩ := inB_iff.1 h
 have hf := isPl_iff.1 hf
 have ht := isPl_iff.1 ht
 refine isPl_iff.2 ⟨by omega, fun j hj => ?_⟩
 have a1 := h3 j (by omega)
 have a2 := hf.2 j hj
 have a3 := ht.2 j hj
 omega
def nmR (s : List Int) (r : Rw) : List Nat := (boxA r.fr r.to r.fr).map fun p => (numI s p).toNat
theorem nmR_nodup {s : List Int} (hs : SzOk s) {r : Rw} (hr : RowIn s r) : (nmR s r).Nodup := by
 unfold nmR List.Nodup
 rw [List.pairwise_map]
 refine List.Pairwise.imp_of_mem ?_ (nodup_box hr.le)
 intro a b ha hb hab e
 have pa := inB_pl hr.f hr.t ((mem_box hr.le).1 ha)
 have pb := inB_pl hr.f hr.t ((mem_box hr.le).1 hb)
 have ra := numI_rng pa hs
 have rb := numI_rng pb hs
 have : numI s a = numI s b := by omega
 exact hab (by rw [← nth_num pa hs, ← nth_num pb hs, this])
theorem nmR_mem {s : List Int} (hs : SzOk s) {r : Rw} (hr : RowIn s r) {n : Nat} (hn : n < cnt s) : n ∈ nmR s r ↔ inB r.fr r.to (nthI s n) := by
 unfold nmR
 rw [List.mem_map]
 constructor
 ·rintro ⟨p, hp, e⟩
  have hb := (mem_box hr.le).1 hp
  have pp := inB_pl hr.f hr.t hb
  have rp := numI_rng pp hs
  have : ((n : Nat) : Int) = numI s p := by omega
  rw [this, nth_num pp hs]
  exact hb
 ·intro h
  exact ⟨nthI s n, (mem_box hr.le).2 h, by rw [num_nth hs (by omega) (by unfold cnt at hn; omega)]; simp⟩
theorem nmR_lt {s : List Int} (hs : SzOk s) {r : Rw} (hr : RowIn s r) : ∀ n ∈ nmR s r, n < cnt s := by
 intro n h
 obtain ⟨p, hp, rfl⟩ := List.mem_map.1 h
 have rp := numI_rng (inB_pl hr.f hr.t ((mem_box hr.le).1 hp)) hs
 unfold cnt
 omega
theorem has_iff {s : List Int} {r : Rw} (hr : RowIn s r) {p : List Int} (hp : p.length = s.length) : hasR r p = true ↔ inB r.fr r.to p := by
 unfold hasR
 rw [srch_ok, inB_iff, isPl_len hr.f, isPl_len hr.t, hp]
 simp only [true_and]
 refine forall_congr' fun j => forall_congr' fun hj => ?_
 unfold cHas
 by_cases c : p.getD j 0 < r.fr.getD j 0
 ·rw [if_pos (by simpa using c)]
  constructor
  ·intro h; cases h
  ·rintro ⟨h1, _⟩; omega
 ·rw [if_neg (by simpa using c), decide_eq_false_iff_not]; omega
def stN (c : V) (x : List Int × List V) (n : Nat) : List Int × List V := (x.1.set n (IntKind.i64.wrap (x.1.getD n 0 + 1)), x.2.set n c)
theorem stR_nm (s : List Int) (r : Rw) (x : List Int × List V) : stR s r x = (nmR s r).foldl (stN r.cell) x := by
 unfold stR nmR
 rw [List.foldl_map]
 rfl
theorem stR_at {s : List Int} (hs : SzOk s) {r : Rw} (hr : RowIn s r) {x : List Int × List V} (h1 : x.1.length = cnt s) (h2 : x.2.length = cnt s) {n : Nat} (hn : n < cnt s) : (stR s r x).1.getD n 0 = (if hasR r (nthI s n) = true then IntKind.i64.wrap (x.1.getD n 0 + 1) else x.1.getD n 0) ∧ (stR s r x).2.getD n V0 = if hasR r (nthI s n) = true then r.cell else x.2.getD n V0 := by
 have hm : n ∈ nmR s r ↔ hasR r (nthI s n) = true := by rw [nmR_mem hs hr hn, has_iff hr (nthI_len s n)]
 rw [stR_nm]
 have a1 := fold_on (st := stN r.cell) (get := fun x n => x.1.getD n 0) (up := fun z => IntKind.i64.wrap (z + 1)) (fun x => x.1.length = cnt s ∧ x.2.length = cnt s) (cnt s) (fun x n h => by simpa [stN] using h) (fun x n h hn => by simp [stN, List.getD, List.getElem?_set, h.1, hn]) (fun x n m e => by simp [stN, List.getD, List.getElem?_set, e]) (nmR s r) x n ⟨h1, h2⟩ (nmR_lt hs hr) (nmR_nodup hs hr)
 have a2 := fold_on (st := stN r.cell) (get := fun x n => x.2.getD n V0) (up := fun _ => r.cell) (fun x => x.1.length = cnt s ∧ x.2.length = cnt s) (cnt s) (fun x n h => by simpa [stN] using h) (fun x n h hn => by simp [stN, List.getD, List.getElem?_set, h.2, hn]) (fun x n m e => by simp [stN, List.getD, List.getElem?_set, e]) (nmR s r) x n ⟨h1, h2⟩ (nmR_lt hs hr) (nmR_nodup hs hr)
 simp only [hm] at a1 a2
 exact ⟨a1, a2⟩
def cellI (t : List Rw) (i : Int) : V := if i < 0 then V0 else (t.getD i.toNat Rw0).cell
theorem layX_own {s : List Int} (hs : SzOk s) {t : List Rw} (hr : ∀ r ∈ t, RowIn s r) {n : Nat} (hn : n < cnt s) : (layX s t).1.getD n 0 = (S_Owners t (nthI s n)).1 ∧ (layX s t).2.getD n V0 = cellI t (S_Owners t (nthI s n)).2 := by
 have key : ∀ m, m ≤ t.length → (foldN (fun k => stR s (t.getD k Rw0)) m 0 (x0 s)).1.length = cnt s ∧ (foldN (fun k => stR s (t.getD k Rw0)) m 0 (x0 s)).2.length = cnt s ∧ (foldN (fun k => stR s (t.getD k Rw0)) m 0 (x0 s)).1.getD n 0 = (foldN (gOwn t (nthI s n)) m 0 (0, -1)).1 ∧ (foldN (fun k => stR s (t.getD k Rw0)) m 0 (x0 s)).2.getD n V0 = cellI t (foldN (gOwn t (nthI s n)) m 0 (0, -1)).2 := by
  intro m
  induction m with
  | zero =>
   intro _
   refine ⟨by simp [foldN, x0, cnt], by simp [foldN, x0, cnt], ?_, ?_⟩
   ·simp only [foldN, x0, List.getD, List.getElem?_replicate]; split <;> rfl
   ·simp only [foldN, x0, List.getD, List.getElem?_replicate]; split <;> rfl
  | succ m ih =>
   intro hm
   obtain ⟨i1, i2, i3, i4⟩ := ih (by omega)
   rw [foldN_succ, foldN_succ, Nat.zero_add]
   generalize foldN (fun k => stR s (t.getD k Rw0)) m 0 (x0 s) = x at i1 i2 i3 i4 ⊢
   generalize foldN (gOwn t (nthI s n)) m 0 (0, -1) = y at i3 i4 ⊢
   have hrow := hr (t.getD m Rw0) (by simp [List.getD, List.getElem?_eq_getElem (show m < t.length by omega)])
   have hl := stR_len s (t.getD m Rw0) x
   have ha := stR_at hs hrow i1 i2 hn
   refine ⟨by rw [hl.1, i1], by rw [hl.2, i2], ?_, ?_⟩
   ·rw [ha.1, i3]
    unfold gOwn
    split <;> rfl
   ·rw [ha.2, i4]
    unfold gOwn
    split
    ·show _ = cellI t ((m : Nat) : Int)
     unfold cellI
     rw [if_neg (by omega), Int.toNat_natCast]
    ·rfl
 exact ⟨(key t.length (Nat.le_refl _)).2.2.1, (key t.length (Nat.le_refl _)).2.2.2⟩
end Go.Proofs.YtmefgijobonklaaGreat
namespace Go.Proofs.YtmefgijobonklaaGreat
open Go Tw Pv Mist
theorem cell_vIs {v : V} (h : 0 ≤ v.f) : (S_vCheck v == 0) = vIs v := by
 have e1 : (S_vCheck v == 0) = S_isCell v := by unfold S_vCheck; cases S_isCell v <;> rfl
 have e2 : S_withinV [v.n] (-9999) 9999 = S_rIn v.n (-9999) 9999 := by
  rw [Bool.eq_iff_iff, rIn_iff]
  simp only [S_withinV, S_within1V, List.any_cons, List.any_nil, Bool.or_false, Bool.not_eq_true']
  by_cases c : v.n < -9999
  ·rw [if_pos (by simpa using c)]; simp; omega
  ·rw [if_neg (by simpa using c), decide_eq_false_iff_not]; omega
 rw [e1]
 unfold S_isCell vIs
 rw [e2]
 by_cases c : v.f = 0
 ·rw [if_pos (by simpa using c), if_neg (by simp [c])]
 ·rw [if_neg (by simpa using c), if_pos (show decide (v.f > 0) = true by rw [decide_eq_true_eq]; omega)]
theorem tRow_iff {s : List Int} {r : Rw} : S_tRow s r = true ↔ isPl s r.fr = true ∧ isPl s r.to = true ∧ (S_vCheck r.cell == 0) = true ∧ isL (srch (cFT r) r.fr.length) = true := by
 unfold S_tRow
 cases isPl s r.fr <;> cases isPl s r.to <;> cases (S_vCheck r.cell == 0) <;> cases isL (srch (cFT r) r.fr.length) <;> simp
theorem isRow_iff {s : List Int} {r : Rw} : S_isRow21 s r = true ↔ r.fr.length = s.length ∧ r.to.length = s.length ∧ vIs r.cell = true ∧ isL (srch (cRow s r) s.length) = true := by
 unfold S_isRow21
 by_cases c1 : r.fr.length = s.length
 ·by_cases c2 : r.to.length = s.length
  ·rw [if_neg (by simp [c1]), if_neg (by simp [c2])]
   cases vIs r.cell <;> cases isL (srch (cRow s r) s.length) <;> simp [c1, c2]
  ·rw [if_neg (by simp [c1]), if_pos (by simp; omega)]
   simp [c2]
 ·rw [if_pos (by simp; omega)]
  simp [c1]
theorem row_eq {s : List Int} {r : Rw} (h : 0 ≤ r.cell.f) : S_tRow s r = S_isRow21 s r := by
 rw [Bool.eq_iff_iff, tRow_iff, isRow_iff, cell_vIs h, isPl_iff, isPl_iff, srch_ok, srch_ok]
 constructor
 ·rintro ⟨⟨a1, a2⟩, ⟨b1, b2⟩, c, d⟩
  refine ⟨a1, b1, c, fun j hj => ?_⟩
  have x1 := a2 j hj
  have x2 := b2 j hj
  have x3 := d j (by omega)
  simp only [cFT, decide_eq_false_iff_not] at x3
  simp only [cRow]
  rw [if_neg (by rw [decide_eq_true_eq]; omega), if_neg (by rw [decide_eq_true_eq]; omega), decide_eq_false_iff_not]
  omega
 ·rintro ⟨a1, b1, c, d⟩
  have key : ∀ j, j < s.length → 0 ≤ r.fr.getD j 0 ∧ r.fr.getD j 0 ≤ r.to.getD j 0 ∧ r.to.getD j 0 < s.getD j 0 := fun j hj => by
   have x := d j hj
   simp only [cRow] at x
   split at x
   ·cases x
   rename_i y1
   split at x
   ·cases x
   rename_i y2
   rw [decide_eq_true_eq] at y1 y2
   rw [decide_eq_false_iff_not] at x
   omega
  refine ⟨⟨a1, fun j hj => ?_⟩, ⟨b1, fun j hj => ?_⟩, c, fun j hj => ?_⟩
  ·have := key j hj; omega
  ·have := key j hj; omega
  ·have := key j (by omega)
   simp only [cFT, decide_eq_false_iff_not]
   omega
abbrev ownN (s : List Int) (t : List Rw) (n : Nat) : Int := (S_Owners t (nthI s n)).1
theorem none_cnt {s : List Int} {t : List Rw} : ∀ (m k : Nat) (b : Bool), cntN (gNone s t) m k b = if ((List.range' k m).any fun j => decide (ownN s t j > 1)) = true then .inr () else .inl (b || (List.range' k m).any fun j => ownN s t j == 0)
 | 0, k, b => by simp [cntN]
 | m + 1, k, b => by
  rw [List.range'_succ]
  simp only [cntN, List.any_cons]
  by_cases c : decide (ownN s t k > 1) = true
  ·have e : gNone s t k b = .inr () := by unfold gNone; rw [if_pos c]
   rw [e]
   simp only [c, Bool.true_or, if_true]
  ·have c' : decide (ownN s t k > 1) = false := by simpa using c
   have e : gNone s t k b = .inl (b || (ownN s t k == 0)) := by
    unfold gNone
    rw [if_neg c]
    cases b <;> rfl
   rw [e]
   show cntN (gNone s t) m (k + 1) _ = _
   rw [none_cnt m (k + 1)]
   simp only [c', Bool.false_or, Bool.or_assoc]
theorem own_inv {t : List Rw} (ht : t.length ≤ 4000) (p : List Int) : 0 ≤ (S_Owners t p).1 ∧ (1 ≤ (S_Owners t p).1 → inR (S_Owners t p).2 t.length) := by
 have := foldN_inv (g := gOwn t p) (m := t.length) (k := 0) (s := (0, -1)) (fun k x => 0 ≤ x.1 ∧ x.1 ≤ (k : Int) ∧ (1 ≤ x.1 → inR x.2 t.length)) ⟨by simp, by simp, fun h => by simp at h⟩ (fun j x _ hj h => by
  obtain ⟨h1, h2, h3⟩ := h
  unfold gOwn
  split
  ·have e : IntKind.i64.wrap (x.1 + 1) = x.1 + 1 := wrap_nn (by omega) (by omega)
   refine ⟨by show 0 ≤ IntKind.i64.wrap (x.1 + 1); omega, by show IntKind.i64.wrap (x.1 + 1) ≤ _; push_cast; omega, fun _ => inR_nat (by omega)⟩
  ·exact ⟨h1, by push_cast; omega, h3⟩)
 exact ⟨this.1, this.2.2⟩
theorem layX_had {s : List Int} (hs : SzOk s) {t : List Rw} (hr : ∀ r ∈ t, RowIn s r) : (layX s t).1 = (List.range (cnt s)).map (ownN s t) := by
 refine List.ext_getElem (by rw [(layX_len s t).1]; simp [cnt]) fun n h1 h2 => ?_
 have hn : n < cnt s := by simpa using h2
 have := (layX_own hs hr hn).1
 rw [List.getD, List.getElem?_eq_getElem h1] at this
 simpa using this
theorem err_eq {s : List Int} {t : List Rw} (hc : ∀ r ∈ t, 0 ≤ r.cell.f) : S_tErr s t = S_rTab s t := by
 unfold S_tErr S_rTab
 by_cases c0 : (S_sizes s != 0) = true
 ·rw [if_pos c0, if_pos c0]
 rw [if_neg c0, if_neg c0]
 by_cases c1 : decide ((t.length : Int) > 4000) = true
 ·rw [if_pos c1, if_pos c1]
 rw [if_neg c1, if_neg c1]
 have e : t.all (S_tRow s) = isL (srch (cRows s t) t.length) := by
  rw [Bool.eq_iff_iff, srch_ok, List.all_eq_true]
  have h := all_getD (l := t) (d := Rw0) (p := fun r => S_tRow s r = true)
  rw [← h]
  refine forall_congr' fun j => forall_congr' fun hj => ?_
  have hm : t.getD j Rw0 ∈ t := by simp [List.getD, List.getElem?_eq_getElem hj]
  rw [row_eq (hc _ hm)]
  simp [cRows]
 cases c2 : isL (srch (cRows s t) t.length)
 ·rw [if_pos (by rw [e, c2]; rfl), if_neg (by simp)]
 rw [if_neg (by rw [e, c2]; simp), if_pos rfl]
 have hf := fine_of (s := s) (by simpa using c0)
 have hr : ∀ r ∈ t, RowIn s r := fun r h => rowIn_of (List.all_eq_true.1 (e.trans c2) r h)
 have hl : (layX s t).1.length = cnt s := (layX_len s t).1
 have hcm := hf.cnt_most
 have h0 : 0 < cnt s := by have := prodI_pos hf.sz; unfold cnt; omega
 have ht : t.length ≤ 4000 := by simp at c1; omega
 have hM := max_one (l := (layX s t).1) (by omega) (by omega)
 have hm := min_zero (l := (layX s t).1) (by omega) (by omega) (fun x hx => by
  rw [layX_had hf.sz hr] at hx
  obtain ⟨n, _, rfl⟩ := List.mem_map.1 hx
  exact (own_inv ht _).1)
 rw [layX_had hf.sz hr] at hM hm
 rw [List.any_map] at hM hm
 have hn := none_cnt (s := s) (t := t) (cnt s) 0 false
 rw [← List.range_eq_range', Bool.false_or] at hn
 rw [layX_had hf.sz hr, hM, hm, hn]
 by_cases c3 : ((List.range (cnt s)).any fun j => decide (ownN s t j > 1)) = true
 ·rw [if_pos (show ((List.range (cnt s)).any ((fun x => decide (x > 1)) ∘ ownN s t)) = true from c3), if_pos c3]
  rfl
 ·rw [if_neg (show ¬ ((List.range (cnt s)).any ((fun x => decide (x > 1)) ∘ ownN s t)) = true from c3), if_neg c3]
  rfl
theorem lyE_rTab {s : List Int} {t : List Rw} (hc : ∀ r ∈ t, 0 ≤ r.cell.f) : lyE s t = S_rTab s t := by rw [lyE_eq, err_eq hc]
theorem lyL_list {s : List Int} {t : List Rw} (h : (lyE s t != 0) = false) : (lyL s t).cells = S_List s t := by
 rw [lyL_of h]
 obtain ⟨_, hf, _, ha⟩ := lyL_eq h
 have hr : ∀ r ∈ t, RowIn s r := fun r h => rowIn_of (List.all_eq_true.1 ha r h)
 have hE : S_tErr s t = 0 := by have := lyE_eq s t; rw [this] at h; simpa using h
 have hl : (layX s t).1.length = cnt s := (layX_len s t).1
 have hcm := hf.cnt_most
 have h0 : 0 < cnt s := by have := prodI_pos hf.sz; unfold cnt; omega
 unfold S_tErr at hE
 split at hE
 ·rename_i c; rw [hE] at c; cases c
 split at hE
 ·cases hE
 rename_i c1
 have ht : t.length ≤ 4000 := by simp at c1; omega
 split at hE
 ·cases hE
 split at hE
 ·cases hE
 split at hE
 ·cases hE
 rename_i c4
 have hm := min_zero (l := (layX s t).1) (by omega) (by omega) (fun x hx => by
  rw [layX_had hf.sz hr] at hx
  obtain ⟨n, _, rfl⟩ := List.mem_map.1 hx
  exact (own_inv ht _).1)
 have c4 : (S_lMin (layX s t).1 == 0) = false := by simpa using c4
 rw [c4, layX_had hf.sz hr] at hm
 show (layX s t).2 = _
 unfold S_List
 refine List.ext_getElem (by rw [(layX_len s t).2]; simp [cnt]) fun n h1 h2 => ?_
 have hn : n < cnt s := by simpa using h2
 have h3 := (layX_own hf.sz hr hn).2
 rw [List.getD, List.getElem?_eq_getElem h1] at h3
 have h4 := List.any_eq_false.1 hm.symm (ownN s t n) (List.mem_map.2 ⟨n, by simpa using hn, rfl⟩)
 have h5 := own_inv ht (nthI s n)
 have h6 : 1 ≤ (S_Owners t (nthI s n)).1 := by
  have : ¬ ((S_Owners t (nthI s n)).1 = 0) := by simpa using h4
  omega
 have h7 := h5.2 h6
 have h3 : (layX s t).2[n] = cellI t (S_Owners t (nthI s n)).2 := by simpa using h3
 rw [h3]
 simp only [List.getElem_map, List.getElem_range, atN, S_At, cellI]
 rw [if_neg (by have := h7.1; omega)]
end Go.Proofs.YtmefgijobonklaaGreat
namespace Go.Proofs.YtmefgijobonklaaGreat
open Go Tw Pv Mist
noncomputable def oc18 : Orc gam := orcF 18 (a1 isA) isA (fun p => p) (fun p => [p.length ≤ most]) oc38
theorem gc18 : Gd oc18 := gc38.add fun n hO p hp => fn_is hX hO (by kernel_rfl) (.o (hp _ (.head _)) .rr)
def S_thinS (s : List Int) : Bool := if decide ((s.length : Int) ≤ 8) = true then (if (S_sizes s != 0) = true then true else decide (prodC s ≤ 60)) else false
theorem most8 {n : Nat} (h : decide ((n : Int) ≤ 8) = true) : n ≤ most := by rw [decide_eq_true_eq] at h; unfold most; omega
noncomputable def oc15 : Orc gam := orcF 15 (a1 isA) tA (fun p => S_thinS p) np oc18
theorem gc15 : Gd oc15 := gc18.add fun n hO p hp => fn_is hX hO (by kernel_rfl) (.sh (fun h => .o (most8 h) (.ss .rr (.o (most8 h) .rr))) fun _ => .rr)
noncomputable abbrev wCp (t acc : List Rw) (i : Int) (x : List (Nat × PE gam)) : PSt gam := ⟨[(1, .loc 0 0), (2, .loc 1 0), (3, .loc 2 0), (4, xi i)] ++ x, [[lRw t], [.nil .slc], [.own 0]], [.list false false 95 acc]⟩
theorem lCp {n : Nat} {t : List Rw} (hO : Ok n oc15) (hl : t.length ≤ most) (hr : RwsOk t) : Lp n 28 0 (wCp t [] 0 []) (.exit 0) (wCp t t t.length [(10, xl false)]) := by
 have e : foldN (fun k (a : List Rw) => a ++ [t.getD k Rw0]) t.length 0 [] = t := by
  rw [map_fold, map_range t Rw0 fun r => r, List.map_id']
 rw [show wCp t t t.length [(10, xl false)] = wCp t (foldN (fun k (a : List Rw) => a ++ [t.getD k Rw0]) t.length 0 []) t.length [(10, xl false)] by rw [e]]
 refine foldL (σ := List Rw) (N := t.length) (g := fun k (a : List Rw) => a ++ [t.getD k Rw0]) (s0 := ([] : List Rw)) (st := fun i a => wCp t a i []) (fin := fun a => wCp t a t.length [(10, xl false)]) (fun k a => a.length = k) (by kernel_rfl) hl rfl (fun k a _ h => by simp [h]) (fun k a hk ha m e p h => ?_) (fun a _ => ?_)
 ·have hm := hr (t.getD k Rw0) (by simp [List.getD, List.getElem?_eq_getElem hk])
  have hal : a.length + 1 ≤ most := by have : a.length = k := ha; omega
  exact round hX hO (by kernel_rfl) (.b (lt_nat hk) (.o (inR_nat hk) (.o hm.1 (.o hm.2 (.o hal (.goG [.gc [2]] h))))))
 ·exact round hX hO (by kernel_rfl) (.b (lt_no t.length) .ex)
noncomputable def oc28 : Orc gam := orcF 28 (a1 tbA) tbA (fun p => p) (fun p => [p.length ≤ most, RwsOk p]) oc15
theorem gc28 : Gd oc28 := gc15.add fun n hO p hp => fn_is hX hO (by kernel_rfl) (.wG [.nilL 2 0 95] (lCp hO (hp _ (.head _)) (hp _ (.tail _ (.head _)))) .rr)
abbrev cTh (t : List Rw) (k : Nat) : Bool := if decide (((t.getD k Rw0).fr.length : Int) > 8) = true then true else decide (((t.getD k Rw0).to.length : Int) > 8)
abbrev wTh (t : List Rw) (i : Int) (x : List (Nat × PE gam)) : PSt gam := ⟨[(1, .loc 0 0), (3, xi i)] ++ x, [[lRw t]], []⟩
def zTh (t : List Rw) : Unit ⊕ Nat → Ex × PSt gam
 | .inl _ => (.exit 0, wTh t t.length [(12, xl false)])
 | .inr _ => (.ret, ⟨[(2, xl false)], [[lRw t]], []⟩)
theorem lTh {n : Nat} (hO : Ok n oc28) (t : List Rw) (hl : t.length ≤ most) : Lp n 31 0 (wTh t 0 []) (zTh t (srch (cTh t) t.length)).1 (zTh t (srch (cTh t) t.length)).2 := by
 refine eachN (X := X0) (P := Tryz.prog) (T := T) (st := fun i _ => wTh t i []) (g := gS (cTh t)) (out := zTh t) (fun _ _ => True) (by kernel_rfl) hl LLm trivial (fun k u m hk _ ih => ?_) (fun _ _ => ?_)
 ·unfold gS cTh
  cases e1 : decide (((t.getD k Rw0).fr.length : Int) > 8)
  ·exact round hX hO (by kernel_rfl) (.b (lt_nat hk) (.o (inR_nat hk) (.b e1 (.o (inR_nat hk) (.ls (.ou nofun) (.nx (ih _ trivial)))))))
  ·exact round hX hO (by kernel_rfl) (.b (lt_nat hk) (.o (inR_nat hk) (.b e1 (.ou nofun))))
 ·exact round hX hO (by kernel_rfl) (.b (lt_no t.length) (.ou nofun))
def S_thinT (t : List Rw) : Bool := if decide ((t.length : Int) > 70) = true then false else if isL (srch (cTh t) t.length) = true then true else false
theorem most70 {n : Nat} (h : decide ((n : Int) > 70) = false) : n ≤ most := by rw [decide_eq_false_iff_not] at h; unfold most; omega
noncomputable def oc31 : Orc gam := orcF 31 (a1 tbA) tA (fun p => S_thinT p) np oc28
theorem gc31 : Gd oc31 := gc28.add fun n hO p hp => fn_is hX hO (by kernel_rfl) (.sh (fun _ => .rr) fun h => .zh (fun h2 => .w (exInl (lTh hO p (most70 h)) () h2) .rr) fun h2 => .w (exInr (lTh hO p (most70 h)) 0 h2) .rr)
def S_thin21 (s : List Int) (t : List Rw) : Bool := if S_thinS s = true then S_thinT t else false
noncomputable def asA : Arg (List Int × List Rw) := aggL (a2 isA rwsA)
noncomputable def oc26 : Orc gam := orcF 26 (a1 asA) tA (fun p => S_thin21 p.1 p.2) np oc31
theorem gc26 : Gd oc26 := gc31.add fun n hO p hp => fn_is hX hO (by kernel_rfl) (.ss .rr .rr)
end Go.Proofs.YtmefgijobonklaaGreat
namespace Go.Proofs.YtmefgijobonklaaGreat
open Go Tw Pv Mist
def S_ready (s : List Int) (t : List Rw) : Bool := if S_thin21 s t = true then (S_rTab s t == 0) else false
theorem thin_len {s : List Int} {t : List Rw} (h : S_thin21 s t = true) : s.length ≤ most := by
 unfold S_thin21 at h
 split at h
 ·rename_i h1
  unfold S_thinS at h1
  split at h1
  ·rename_i h2; exact most8 h2
  ·cases h1
 ·cases h
noncomputable def oc54 : Orc gam := orcF 54 (a1 asA) tA (fun p => S_ready p.1 p.2) np oc26
theorem gc54 : Gd oc54 := gc26.add fun n hO p hp => fn_is hX hO (by kernel_rfl) (.sh (fun h => .o (thin_len h) .rr) fun _ => .rr)
end Go.Proofs.YtmefgijobonklaaGreat
namespace Go.Proofs.YtmefgijobonklaaGreat
open Go Tw Pv Mist
theorem merge_eq {s : List Int} {t : List Rw} (hc : ∀ r ∈ t, 0 ≤ r.cell.f) : S_tMerge s t = if (S_rTab s t != 0) = true then ([], S_rTab s t) else (dOf s (S_List s t), 0) := by
 unfold S_tMerge
 by_cases c : (lyE s t != 0) = true
 ·rw [if_pos c, lyE_rTab hc] at *
  rw [if_pos c]
 ·have c' : (lyE s t != 0) = false := by simpa using c
  have e := lyL_list c'
  have e2 : (lyL s t).s = s := by rw [lyL_of c']
  rw [if_neg c, e, e2]
  rw [lyE_rTab hc] at c
  rw [if_neg c]
theorem tlist_eq {s : List Int} {t : List Rw} (hc : ∀ r ∈ t, 0 ≤ r.cell.f) : S_tList s t = if (S_rTab s t != 0) = true then ([], S_rTab s t) else (S_List s t, 0) := by
 unfold S_tList
 by_cases c : (lyE s t != 0) = true
 ·rw [if_pos c, lyE_rTab hc] at *
  rw [if_pos c]
 ·have c' : (lyE s t != 0) = false := by simpa using c
  have e := lyL_list c'
  rw [if_neg c, e]
  rw [lyE_rTab hc] at c
  rw [if_neg c]
end Go.Proofs.YtmefgijobonklaaGreat
namespace Go.Proofs.YtmefgijobonklaaGreat
open Go Tw Pv Mist
theorem list_at {s p : List Int} {t : List Rw} (hs : SzOk s) (hp : isPl s p = true) : (S_List s t).getD (numI s p).toNat V0 = S_At t p := by
 have hr := numI_rng hp hs
 have hn : (numI s p).toNat < cnt s := by unfold cnt; omega
 have e : (((numI s p).toNat : Nat) : Int) = numI s p := by omega
 unfold S_List
 rw [List.getD, List.getElem?_eq_getElem (by simpa using hn)]
 simp only [List.getElem_map, List.getElem_range, Option.getD_some, atN, e]
 rw [nth_num hp hs]
theorem tat_eq {s q : List Int} {t : List Rw} (hc : ∀ r ∈ t, 0 ≤ r.cell.f) : S_tAt s t q = if (S_rTab s t != 0) = true then (V0, S_rTab s t) else if (!(isPl s q)) = true then (V0, 3) else (S_At t q, 0) := by
 unfold S_tAt
 by_cases c : (lyE s t != 0) = true
 ·rw [if_pos c, lyE_rTab hc] at *
  rw [if_pos c]
 ·have c' : (lyE s t != 0) = false := by simpa using c
  have e := lyL_list c'
  have e2 : (lyL s t).s = s := by rw [lyL_of c']
  rw [if_neg c, e, e2]
  rw [lyE_rTab hc] at c
  rw [if_neg c]
  by_cases d : (!(isPl s q)) = true
  ·rw [if_pos d, if_pos d]
  ·rw [if_neg d, if_neg d, list_at (lyL_eq c').2.1.sz (by simpa using d)]
theorem tmany_eq {s : List Int} {t : List Rw} {v : V} (hc : ∀ r ∈ t, 0 ≤ r.cell.f) : S_tMany s t v = if (S_rTab s t != 0) = true then (0, S_rTab s t) else if (!(S_vCheck v == 0)) = true then (0, 4) else (S_Many (S_List s t) v, 0) := by
 unfold S_tMany
 by_cases c : (lyE s t != 0) = true
 ·rw [if_pos c, lyE_rTab hc] at *
  rw [if_pos c]
 ·have c' : (lyE s t != 0) = false := by simpa using c
  have e := lyL_list c'
  rw [if_neg c, e]
  rw [lyE_rTab hc] at c
  rw [if_neg c]
theorem list_f {s : List Int} {t : List Rw} (hc : ∀ r ∈ t, 0 ≤ r.cell.f) : ∀ v ∈ S_List s t, 0 ≤ v.f := by
 intro v hv
 obtain ⟨n, _, rfl⟩ := List.mem_map.1 hv
 unfold atN S_At
 rcases Nat.lt_or_ge (S_Owners t (nthI s n)).2.toNat t.length with h | h
 ·exact hc _ (by simp [List.getD, List.getElem?_eq_getElem h])
 ·rw [List.getD, List.getElem?_eq_none h]
  exact Int.le_refl 0
end Go.Proofs.YtmefgijobonklaaGreat
namespace Go.Proofs.YtmefgijobonklaaGreat
open Go Tw Pv Mist
theorem con_aw {n : Nat} : Con X0 Tryz.prog (ApN (n + 1)) 16 ((nilA : Args Unit).put ()) ((tA : Arg Bool).put true) [] := by
 intro A h first args cap hup hv
 have e := hv.inv0
 have e1 : first = [] := by cases first with | nil => rfl | cons => cases e
 subst e1
 have e2 : args = [] := by cases args with | nil => rfl | cons => cases e
 subst e2
 have e3 : cap = [] := by cases cap with | nil => rfl | cons => cases e
 subst e3
 exact ⟨.bool true, h, [], rfl, ⟨rfl, fun i b hb => by simp at hb, by simp [blks], hup, fun b hb => by simp [blks] at hb⟩, .bool _, .refl⟩
noncomputable def oc16 : Orc gam := orcF 16 nilA tA (fun _ => true) np oc54
theorem gc16 : Gd oc16 := gc54.deep 0 fun n hn hO p hp => con_aw
theorem dOf_m {s : List Int} {l : List V} (h : OfOk s l) : (dOf s l).length ≤ most := by
 have h1 := dOf_len h
 have h2 := h.len
 have h3 := h.fine.many
 unfold most; omega
end Go.Proofs.YtmefgijobonklaaGreat
namespace Go.Proofs.YtmefgijobonklaaGreat
open Go Tw Pv Mist
theorem laid_of {s : List Int} {t : List Rw} (h : (S_rTab s t != 0) = false) : Laid s t := by
 have h0 : S_rTab s t = 0 := by simpa using h
 unfold S_rTab at h0
 split at h0
 ·rename_i c; rw [h0] at c; simp at c
 rename_i c1
 split at h0
 ·cases h0
 rename_i c2
 split at h0
 ·rename_i c3
  split at h0
  ·rename_i c4
   split at h0
   ·cases h0
   ·rename_i c5
    have hf := fine_of (s := s) (by simpa using c1)
    have hl : t.length ≤ 4000 := by simp at c2; omega
    refine ⟨hf, hl, rowsL_of c3, fun p hp => ?_⟩
    rw [none_cnt] at c4 c5
    split at c4
    ·cases c4
    rename_i c6
    rw [if_neg c6] at c5
    simp only [Bool.false_or] at c5
    have hr := numI_rng hp hf.sz
    have hn : (numI s p).toNat < cnt s := by unfold cnt; omega
    have e : (((numI s p).toNat : Nat) : Int) = numI s p := by omega
    have hk : ownN s t (numI s p).toNat ≠ 0 := fun e0 => c5 (by
     show List.any _ _ = true
     rw [List.any_eq_true]
     exact ⟨(numI s p).toNat, by rw [List.mem_range']; exact ⟨(numI s p).toNat, hn, by omega⟩, by rw [e0]; rfl⟩)
    unfold ownN at hk
    rw [e, nth_num hp hf.sz] at hk
    obtain ⟨a1, a2⟩ := own_inv hl p
    exact a2 (by omega)
  ·cases h0
 ·cases h0
theorem ofOk_of {s : List Int} {t : List Rw} (h : Laid s t) : OfOk s (S_List s t) := ⟨h.fine, by unfold S_List; rw [List.length_map, List.length_range, h.fine.cntI]⟩
theorem thin_t {s : List Int} {t : List Rw} (h : S_thin21 s t = true) : s.length ≤ most ∧ t.length ≤ most ∧ RwsOk t := by
 refine ⟨thin_len h, ?_⟩
 unfold S_thin21 at h
 split at h
 ·unfold S_thinT at h
  split at h
  ·cases h
  ·rename_i c
   split at h
   ·rename_i c2
    refine ⟨most70 (by simpa using c), fun r hr => ?_⟩
    obtain ⟨k, hk, e⟩ := List.mem_iff_getElem.1 hr
    have := (srch_ok.1 c2) k hk
    unfold cTh at this
    rw [show t.getD k Rw0 = r by rw [List.getD, List.getElem?_eq_getElem hk, ← e]; rfl] at this
    unfold most
    split at this
    ·cases this
    ·simp at *; omega
   ·cases h
 ·cases h
end Go.Proofs.YtmefgijobonklaaGreat
namespace Go.Proofs.YtmefgijobonklaaGreat
open Go Tw Pv Mist
theorem vIs_good {v : V} (h : vIs v = true) (h0 : 0 ≤ v.f) : VGood v := by
 unfold vIs at h
 split at h
 ·rename_i c
  split at h
  ·rename_i c2
   rw [decide_eq_true_eq] at c c2
   exact ⟨h0, c2, fun e => by omega, fun _ => by simpa using h⟩
  ·cases h
 ·rename_i c
  rw [decide_eq_true_eq] at c
  exact ⟨h0, by omega, fun _ => rIn_iff.1 h, fun e => by omega⟩
theorem laid_row {s : List Int} {t : List Rw} (h : (S_rTab s t != 0) = false) : ∀ r ∈ t, S_isRow21 s r = true := by
 have h0 : S_rTab s t = 0 := by simpa using h
 unfold S_rTab at h0
 split at h0
 ·rename_i c; rw [h0] at c; simp at c
 split at h0
 ·cases h0
 split at h0
 ·rename_i c3
  have := srch_ok.1 c3
  intro r hr
  have := (all_getD (l := t) (d := Rw0) (p := fun r => S_isRow21 s r = true)).1 (fun j hj => by have := this j hj; simpa [cRows] using this)
  exact this r hr
 ·cases h0
def erL (s : List Int) : List (List Rw) → Int → Int
 | [], w => w
 | t :: ts, w => if (w == 0) = true then erL s ts (S_rTab s t) else w
theorem erL_no {s : List Int} : ∀ {ts : List (List Rw)} {w : Int}, w ≠ 0 → erL s ts w = w
 | [], _, _ => rfl
 | t :: ts, w, h => by rw [erL, if_neg (by simpa using h)]
theorem erL_ok {s : List Int} : ∀ {ts : List (List Rw)}, erL s ts 0 = 0 → ∀ t ∈ ts, S_rTab s t = 0
 | [], _, t, ht => by cases ht
 | t :: ts, h, t', ht => by
  rw [erL, if_pos (show ((0 : Int) == 0) = true from rfl)] at h
  by_cases c : S_rTab s t = 0
  ·rw [c] at h
   rcases List.mem_cons.1 ht with rfl | ht
   ·exact c
   ·exact erL_ok h t' ht
  ·rw [erL_no c] at h; exact absurd h c
def wantO (s : List Int) (c : Int) (ts : List (List Rw)) : Int := if (S_sizes s != 0) = true then S_sizes s else if ((ts.length : Int) == 0) = true then 2 else if (S_Tables c != (ts.length : Int)) = true then 2 else erL s ts 0
theorem want_ok {s : List Int} {c : Int} {ts : List (List Rw)} (hf : ∀ t ∈ ts, ∀ r ∈ t, 0 ≤ r.cell.f) (h : (wantO s c ts != 0) = false) : OpOk s ts := by
 have h : wantO s c ts = 0 := by simpa using h
 unfold wantO at h
 split at h
 ·rename_i c1; rw [h] at c1; simp at c1
 rename_i c1
 split at h
 ·cases h
 rename_i c2
 split at h
 ·cases h
 rename_i c3
 have hok := erL_ok h
 have c3' : (ts.length : Int) = S_opnd c := by rw [show S_Tables c = S_opnd c from rfl] at c3; simp at c3; omega
 have := opnd_rng c
 refine ⟨fine_of (by simpa using c1), fun t ht => laid_of (by rw [hok t ht]; rfl), fun t ht r hr => ?_, ?_⟩
 ·have hg := vIs_good (isRow_iff.1 (laid_row (by rw [hok t ht]; rfl) r hr)).2.2.1 (hf t ht r hr)
  by_cases e : r.cell.f = 0
  ·have := hg.n e; exact ⟨by omega, by omega⟩
  ·have := hg.z e; exact ⟨by omega, by omega⟩
 ·have c2' : (ts.length : Int) ≠ 0 := fun e => c2 (by rw [e]; rfl)
  omega
end Go.Proofs.YtmefgijobonklaaGreat
namespace Go.Proofs.YtmefgijobonklaaGreat
open Go Tw Pv Mist
def hb : List Int → List Int → List Int → Bool
 | f :: fs, t :: ts, y :: q => decide (f ≤ y) && decide (y ≤ t) && hb fs ts q
 | [], [], [] => true
 | _, _, _ => false
theorem hb_iff : ∀ {f t q : List Int}, hb f t q = true ↔ inB f t q
 | [], [], [] => by simp [hb, inB]
 | f :: fs, t :: ts, y :: q => by
  have ih := hb_iff (f := fs) (t := ts) (q := q)
  simp only [hb, inB, Bool.and_eq_true, decide_eq_true_eq, ih, and_assoc]
 | [], [], _ :: _ => by simp [hb, inB]
 | [], _ :: _, _ => by simp [hb, inB]
 | _ :: _, [], _ => by simp [hb, inB]
 | _ :: _, _ :: _, [] => by simp [hb, inB]
theorem hasR_hb {r : Rw} {p : List Int} (h1 : r.fr.length = p.length) (h2 : r.to.length = p.length) : hasR r p = hb r.fr r.to p := by
 rw [Bool.eq_iff_iff, hb_iff, inB_iff]
 unfold hasR
 rw [srch_ok]
 constructor
 ·intro h
  refine ⟨h1, h2, fun j hj => ?_⟩
  have := h j hj
  unfold cHas at this
  split at this
  ·cases this
  ·rename_i c
   rw [decide_eq_true_eq] at c
   rw [decide_eq_false_iff_not] at this
   omega
 ·rintro ⟨_, _, h⟩ j hj
  have := h j hj
  unfold cHas
  rw [if_neg (by rw [decide_eq_true_eq]; omega), decide_eq_false_iff_not]
  omega
theorem blk_at {l : List V} {w j k : Nat} (hk : k < w) (hl : (j + 1) * w ≤ l.length) : (blk l w j).getD k V0 = l.getD (j * w + k) V0 := by
 unfold blk
 rw [List.getD, List.getD, List.getElem?_drop, List.getElem?_take_of_lt (by rw [Nat.add_mul]; omega)]
theorem row_split {p : List Int} {j t : Nat} {d : Int} {R : List Rw} : (R.map (rowC j t)).filter (fun r => hb r.fr r.to (d :: p)) = if (j : Int) ≤ d ∧ d ≤ (t : Int) then (R.filter fun r => hb r.fr r.to p).map (rowC j t) else [] := by
 rw [List.filter_map]
 split
 ·rename_i c
  congr 1
  apply List.filter_congr
  intro r _
  simp [Function.comp, rowC, hb, c.1, c.2]
 ·rename_i c
  rw [List.map_eq_nil_iff, List.filter_eq_nil_iff]
  intro r _
  simp only [Function.comp, rowC, hb, Bool.and_eq_true, decide_eq_true_eq]
  rintro ⟨⟨h1, h2⟩, _⟩
  exact c ⟨h1, h2⟩
theorem rTo_blk {l : List V} {w n j i : Nat} (h1 : j ≤ i) (h2 : i ≤ rTo l w n j) : blk l w i = blk l w j := by
 rcases Nat.lt_or_ge j i with h | h
 ·exact rEnd_eq h h2
 ·rw [show i = j by omega]
theorem own1 : ∀ {s : List Int} {l : List V} {p : List Int}, OfOk s l → isPl s p = true → ∃ r, ((dOf s l).filter fun r => hb r.fr r.to p) = [r] ∧ r.cell = l.getD (numI s p).toNat V0
 | [], l, [], _, _ => ⟨⟨[], [], l.getD 0 V0⟩, by simp [dOf, hb], rfl⟩
 | [], l, _ :: _, _, h => by simp [isPl] at h
 | _ :: _, l, [], _, h => by simp [isPl] at h
 | a :: s, l, d :: q, h, hp => by
  obtain ⟨h1, h2, h3⟩ := h.w
  simp only [isPl, Bool.and_eq_true, decide_eq_true_eq] at hp
  obtain ⟨⟨hd0, hd1⟩, hq⟩ := hp
  have hr := numI_rng hq h.fine.sz.tail
  rw [dOf_cons]
  generalize hw : l.length / a.toNat = w at *
  generalize hn : a.toNat = n at *
  have hX : ∀ j, blk l w d.toNat = blk l w j → (blk l w j).getD (numI s q).toNat V0 = l.getD (numI (a :: s) (d :: q)).toNat V0 := fun j e => by
   rw [← e, blk_at (by omega) (by rw [h1]; exact Nat.mul_le_mul_right w (by omega))]
   congr 1
   simp only [numI]
   rw [← h2]
   have : ((d.toNat * w : Nat) : Int) = d * (w : Int) := by rw [Int.natCast_mul, Int.toNat_of_nonneg hd0]
   omega
  have key : ∀ (m j : Nat) (acc : List Rw), n ≤ m + j → j ≤ n → (if d.toNat < j then ∃ r, (acc.filter fun r => hb r.fr r.to (d :: q)) = [r] ∧ r.cell = l.getD (numI (a :: s) (d :: q)).toNat V0 else (acc.filter fun r => hb r.fr r.to (d :: q)) = []) → ∃ r, ((runsF s l w n m j acc).filter fun r => hb r.fr r.to (d :: q)) = [r] ∧ r.cell = l.getD (numI (a :: s) (d :: q)).toNat V0 := by
   intro m
   induction m with
   | zero =>
    intro j acc e1 e2 hi
    rw [if_pos (by omega)] at hi
    exact hi
   | succ m ih =>
    intro j acc e1 e2 hi
    unfold runsF
    by_cases hj : j < n
    ·rw [if_pos hj]
     have f1 : rTo l w n j < n := rEnd_lt hj
     have f2 : j ≤ rTo l w n j := rEnd_ge
     refine ih _ _ (by omega) (by omega) ?_
     rw [List.filter_append, row_split]
     by_cases c1 : d.toNat < j
     ·rw [if_pos c1] at hi
      rw [if_pos (by omega), if_neg (by omega), List.append_nil]
      exact hi
     ·rw [if_neg c1] at hi
      rw [hi, List.nil_append]
      by_cases c2 : d.toNat < rTo l w n j + 1
      ·rw [if_pos c2, if_pos (by omega)]
       have ho := h.blk (j := j) (by omega)
       rw [hn, hw] at ho
       obtain ⟨r, r1, r2⟩ := own1 ho hq
       rw [r1]
       exact ⟨rowC j (rTo l w n j) r, rfl, by rw [← hX j (rTo_blk (l := l) (w := w) (n := n) (j := j) (i := d.toNat) (by omega) (by omega))]; exact r2⟩
      ·rw [if_neg c2, if_neg (by omega)]
    ·rw [if_neg hj]
     rw [if_pos (by omega)] at hi
     exact hi
  have := key n 0 [] (by omega) (by omega) (by simp)
  rw [runs_eq n 0 [] (by omega) (by omega) (.inl rfl)] at this
  exact this
theorem own_filter {t : List Rw} (ht : t.length ≤ 4000) {p : List Int} (hr : RowsL t p.length) : (S_Owners t p).1 = ((t.filter fun r => hb r.fr r.to p).length : Int) ∧ ∀ r, (t.filter fun r => hb r.fr r.to p).getLast? = some r → t.getD (S_Owners t p).2.toNat Rw0 = r := by
 have := foldN_inv (g := gOwn t p) (m := t.length) (k := 0) (s := (0, -1)) (fun k x => x.1 = (((t.take k).filter fun r => hb r.fr r.to p).length : Int) ∧ ∀ r, ((t.take k).filter fun r => hb r.fr r.to p).getLast? = some r → t.getD x.2.toNat Rw0 = r) ⟨by simp, by simp⟩ (fun j x _ hj h => by
  obtain ⟨h1, h2⟩ := h
  have hj' : j < t.length := by omega
  have hg : t.getD j Rw0 = t[j] := by simp [List.getD, List.getElem?_eq_getElem hj']
  have hl := hr _ (List.getElem_mem hj')
  unfold gOwn
  rw [hg, hasR_hb hl.1 hl.2, List.take_succ_eq_append_getElem hj', List.filter_append]
  by_cases c : hb t[j].fr t[j].to p = true
  ·rw [if_pos c, List.filter_cons_of_pos (by simpa using c), List.filter_nil]
   have h3 : ((t.take j).filter fun r => hb r.fr r.to p).length ≤ j := Nat.le_trans (List.length_filter_le _ _) (by simp; omega)
   refine ⟨?_, fun r h => ?_⟩
   ·show IntKind.i64.wrap (x.1 + 1) = _
    rw [wrap_nn (by omega) (by omega), List.length_append, h1]
    simp
   ·rw [List.getLast?_append] at h
    simp only [List.getLast?_singleton, Option.some_or, Option.some.injEq] at h
    subst h
    exact hg
  ·rw [if_neg c, List.filter_cons_of_neg (by simpa using c), List.filter_nil, List.append_nil]
   exact ⟨h1, h2⟩)
 rw [Nat.zero_add, List.take_length] at this
 exact this
theorem dOf_own {s : List Int} {l : List V} {p : List Int} (h : OfOk s l) (hp : isPl s p = true) : (S_Owners (dOf s l) p).1 = 1 ∧ S_At (dOf s l) p = l.getD (numI s p).toNat V0 ∧ ∀ r ∈ dOf s l, inB r.fr r.to p → r.cell = l.getD (numI s p).toNat V0 := by
 obtain ⟨r, h1, h2⟩ := own1 h hp
 have hm := h.fine.many
 have hlen := dOf_len h
 have hl := h.len
 have hR : RowsL (dOf s l) p.length := by rw [isPl_len hp]; exact dOf_rows s l
 have := own_filter (by omega) hR
 rw [h1] at this
 refine ⟨this.1, ?_, fun x hx hi => ?_⟩
 ·unfold S_At; rw [this.2 r rfl, h2]
 ·have : x ∈ [r] := by rw [← h1]; exact List.mem_filter.2 ⟨hx, hb_iff.2 hi⟩
  rw [List.mem_singleton.1 this, h2]
theorem mem_dOf {a : Int} {s : List Int} {l : List V} (h : OfOk (a :: s) l) {r : Rw} (hr : r ∈ dOf (a :: s) l) : ∃ (j t : Nat) (q : Rw), j ≤ t ∧ t < a.toNat ∧ q ∈ dOf s (blk l (l.length / a.toNat) j) ∧ r = rowC j t q ∧ (∀ i, j ≤ i → i ≤ t → blk l (l.length / a.toNat) i = blk l (l.length / a.toNat) j) := by
 rw [dOf_cons] at hr
 generalize l.length / a.toNat = w at *
 generalize a.toNat = n at *
 have := foldN_inv (g := gOf s l w n) (m := n) (k := 0) (s := []) (fun _ acc => ∀ r ∈ acc, ∃ (j t : Nat) (q : Rw), j ≤ t ∧ t < n ∧ q ∈ dOf s (blk l w j) ∧ r = rowC j t q ∧ (∀ i, j ≤ i → i ≤ t → blk l w i = blk l w j)) (by simp) (fun j acc _ hj h r hr => by
  unfold gOf at hr
  split at hr
  ·exact h r hr
  ·rw [List.mem_append] at hr
   rcases hr with hr | hr
   ·exact h r hr
   ·obtain ⟨q, hq, rfl⟩ := List.mem_map.1 hr
    exact ⟨j, rTo l w n j, q, rEnd_ge, rEnd_lt (by omega), hq, rfl, fun i i1 i2 => rTo_blk i1 i2⟩)
 exact this r hr
def boxIn : List Int → List Int → List Int → Prop
 | [], [], [] => True
 | a :: s, f :: fs, t :: ts => 0 ≤ f ∧ f ≤ t ∧ t < a ∧ boxIn s fs ts
 | _, _, _ => False
theorem boxIn_at : ∀ {s f t : List Int}, boxIn s f t → f.length = s.length ∧ t.length = s.length ∧ (∀ j, j < s.length → 0 ≤ f.getD j 0 ∧ f.getD j 0 ≤ t.getD j 0 ∧ t.getD j 0 < s.getD j 0)
 | [], [], [], _ => by simp
 | a :: s, f :: fs, t :: ts, h => by
  obtain ⟨h1, h2, h3, h4⟩ := h
  obtain ⟨i1, i2, i3⟩ := boxIn_at h4
  refine ⟨by simp [i1], by simp [i2], fun j hj => ?_⟩
  cases j with
  | zero => exact ⟨h1, h2, h3⟩
  | succ j => have := i3 j (by simpa using hj); simpa using this
 | [], [], _ :: _, h => h.elim
 | [], _ :: _, _, h => h.elim
 | _ :: _, [], _, h => h.elim
 | _ :: _, _ :: _, [], h => h.elim
theorem boxIn_pl : ∀ {s f t : List Int}, boxIn s f t → isPl s f = true ∧ isPl s t = true ∧ inB f t f ∧ inB f t t
 | [], [], [], _ => ⟨rfl, rfl, trivial, trivial⟩
 | a :: s, f :: fs, t :: ts, h => by
  obtain ⟨h1, h2, h3, h4⟩ := h
  obtain ⟨i1, i2, i3, i4⟩ := boxIn_pl h4
  refine ⟨?_, ?_, ⟨Int.le_refl _, h2, i3⟩, ⟨h2, Int.le_refl _, i4⟩⟩
  ·simp only [isPl, Bool.and_eq_true, decide_eq_true_eq]; exact ⟨⟨h1, by omega⟩, i1⟩
  ·simp only [isPl, Bool.and_eq_true, decide_eq_true_eq]; exact ⟨⟨by omega, h3⟩, i2⟩
 | [], [], _ :: _, h => h.elim
 | [], _ :: _, _, h => h.elim
 | _ :: _, [], _, h => h.elim
 | _ :: _, _ :: _, [], h => h.elim
theorem blk_sub {l : List V} {w j : Nat} {v : V} (h : v ∈ blk l w j) : v ∈ l := List.mem_of_mem_take (List.mem_of_mem_drop h)
theorem dOf_box : ∀ {s : List Int} {l : List V} {r : Rw}, OfOk s l → r ∈ dOf s l → boxIn s r.fr r.to ∧ r.cell ∈ l
 | [], l, r, h, hr => by
  simp only [dOf, List.mem_singleton] at hr
  subst hr
  have := h.len
  simp only [prodI] at this
  refine ⟨trivial, ?_⟩
  rw [List.getD, List.getElem?_eq_getElem (show 0 < l.length by omega)]
  exact List.getElem_mem _
 | a :: s, l, r, h, hr => by
  obtain ⟨h1, h2, h3⟩ := h.w
  obtain ⟨j, t, q, e1, e2, hq, rfl, _⟩ := mem_dOf h hr
  have ih := dOf_box (h.blk (j := j) (by omega)) hq
  exact ⟨⟨by omega, by omega, by omega, ih.1⟩, blk_sub ih.2⟩
theorem box_isRow {s : List Int} {r : Rw} (h : boxIn s r.fr r.to) (hv : vIs r.cell = true) : S_isRow21 s r = true := by
 obtain ⟨h1, h2, h3⟩ := boxIn_at h
 refine isRow_iff.2 ⟨h1, h2, hv, srch_ok.2 fun j hj => ?_⟩
 have := h3 j hj
 unfold cRow
 rw [if_neg (by rw [decide_eq_true_eq]; omega), if_neg (by rw [decide_eq_true_eq]; omega), decide_eq_false_iff_not]
 omega
def vol : List Int → List Int → Int
 | f :: fs, t :: ts => (t - f + 1) * vol fs ts
 | _, _ => 1
theorem blk_app {l : List V} {w k : Nat} : l.take ((k + 1) * w) = l.take (k * w) ++ blk l w k := by
 unfold blk
 have h : k * w ≤ (k + 1) * w := Nat.mul_le_mul_right w (by omega)
 rw [show l.take (k * w) = (l.take ((k + 1) * w)).take (k * w) by rw [List.take_take, Nat.min_eq_left h], List.take_append_drop]
theorem run_cnt {l : List V} {w j : Nat} (c : V) : ∀ (t : Nat), j ≤ t → (∀ i, j ≤ i → i ≤ t → blk l w i = blk l w j) → (t - j + 1) * (blk l w j).count c ≤ (l.take ((t + 1) * w)).count c
 | t, h, hb => by
  rw [blk_app, List.count_append]
  rcases Nat.lt_or_ge j t with h1 | h1
  ·have ih := run_cnt c (t - 1) (by omega) (fun i i1 i2 => hb i i1 (by omega))
   rw [show t - 1 + 1 = t by omega] at ih
   rw [hb t (by omega) (Nat.le_refl _), show t - j + 1 = (t - 1 - j + 1) + 1 by omega, Nat.add_mul, Nat.one_mul]
   omega
  ·rw [show t = j by omega, Nat.sub_self]; omega
 termination_by t => t
theorem dOf_vol : ∀ {s : List Int} {l : List V} {r : Rw}, OfOk s l → r ∈ dOf s l → 1 ≤ vol r.fr r.to ∧ vol r.fr r.to ≤ (l.count r.cell : Int)
 | [], l, r, h, hr => by
  have hm := (dOf_box h hr).2
  simp only [dOf, List.mem_singleton] at hr
  subst hr
  have := List.count_pos_iff.2 hm
  exact ⟨by simp [vol], by simp only [vol]; simp only at this; omega⟩
 | a :: s, l, r, h, hr => by
  obtain ⟨h1, h2, h3⟩ := h.w
  obtain ⟨j, t, q, e1, e2, hq, rfl, hb⟩ := mem_dOf h hr
  obtain ⟨ih1, ih2⟩ := dOf_vol (h.blk (j := j) (by omega)) hq
  have hc := run_cnt q.cell t e1 hb
  have hs : (l.take ((t + 1) * (l.length / a.toNat))).count q.cell ≤ l.count q.cell := (List.take_sublist _ _).count_le _
  have e : ((t : Int) - (j : Int) + 1) = ((t - j + 1 : Nat) : Int) := by omega
  simp only [rowC, vol, e]
  refine ⟨?_, ?_⟩
  ·have : ((1 : Nat) : Int) * 1 ≤ ((t - j + 1 : Nat) : Int) * vol q.fr q.to := Int.mul_le_mul (by omega) ih1 (by omega) (by omega)
   simpa using this
  ·have k1 : ((t - j + 1 : Nat) : Int) * vol q.fr q.to ≤ ((t - j + 1 : Nat) : Int) * ((blk l (l.length / a.toNat) j).count q.cell : Int) := Int.mul_le_mul_of_nonneg_left ih2 (by omega)
   rw [← Int.natCast_mul] at k1
   omega
theorem vol_row {j t : Nat} : ∀ (R : List Rw), ((R.map (rowC j t)).map fun r => vol r.fr r.to).sum = ((t : Int) - j + 1) * (R.map fun r => vol r.fr r.to).sum
 | [] => by simp
 | r :: R => by
  simp only [List.map_cons, List.sum_cons, vol_row R, rowC, vol, Int.mul_add]
theorem dOf_sum : ∀ {s : List Int} {l : List V}, OfOk s l → ((dOf s l).map fun r => vol r.fr r.to).sum = prodI s
 | [], l, _ => by simp [dOf, vol, prodI]
 | a :: s, l, h => by
  obtain ⟨h1, h2, h3⟩ := h.w
  rw [dOf_cons]
  generalize hw : l.length / a.toNat = w at *
  generalize hn : a.toNat = n at *
  have key : ∀ (m j : Nat) (acc : List Rw), n ≤ m + j → j ≤ n → (acc.map fun r => vol r.fr r.to).sum = (j : Int) * prodI s → ((runsF s l w n m j acc).map fun r => vol r.fr r.to).sum = (n : Int) * prodI s := by
   intro m
   induction m with
   | zero =>
    intro j acc e1 e2 hi
    rw [show n = j by omega]; exact hi
   | succ m ih =>
    intro j acc e1 e2 hi
    unfold runsF
    by_cases hj : j < n
    ·rw [if_pos hj]
     have f1 : rTo l w n j < n := rEnd_lt hj
     have f2 : j ≤ rTo l w n j := rEnd_ge
     have ho := h.blk (j := j) (by omega)
     rw [hn, hw] at ho
     refine ih _ _ (by omega) (by omega) ?_
     rw [List.map_append, List.sum_append, hi, vol_row, dOf_sum ho, ← Int.add_mul]
     congr 1; push_cast; omega
    ·rw [if_neg hj, show n = j by omega]; exact hi
  have := key n 0 [] (by omega) (by omega) (by simp)
  rw [runs_eq n 0 [] (by omega) (by omega) (.inl rfl)] at this
  simp only [prodI]
  rw [show a = (n : Int) by omega]
  exact this
theorem dOf_has {s : List Int} {l : List V} (h : OfOk s l) {v : V} (hv : v ∈ l) : ∃ r ∈ dOf s l, r.cell = v := by
 obtain ⟨n, hn, rfl⟩ := List.getElem_of_mem hv
 have hl := h.len
 have hp := nthI_isPl (n : Int) h.fine.sz
 obtain ⟨r, h1, h2⟩ := own1 h hp
 rw [num_nth h.fine.sz (by omega) (by omega)] at h2
 refine ⟨r, ?_, by rw [h2]; simp [List.getD, List.getElem?_eq_getElem hn]⟩
 have : r ∈ (dOf s l).filter fun r => hb r.fr r.to (nthI s n) := by rw [h1]; exact List.mem_singleton.2 rfl
 exact (List.mem_filter.1 this).1
end Go.Proofs.YtmefgijobonklaaGreat
namespace Go.Proofs.YtmefgijobonklaaGreat
open Go Tw Pv Mist
theorem ready_ok {s : List Int} {t : List Rw} (h : S_ready s t = true) : (s.length ≤ most ∧ t.length ≤ most ∧ RwsOk t) ∧ S_rTab s t = 0 ∧ S_thinS s = true := by
 unfold S_ready at h
 split at h
 ·rename_i c
  refine ⟨thin_t c, by simpa using h, ?_⟩
  unfold S_thin21 at c
  split at c
  ·assumption
  ·cases c
 ·cases h
structure Rdy21 (s : List Int) (t : List Rw) : Prop where
 ok : OfOk s (S_List s t)
 vis : ∀ v ∈ S_List s t, vIs v = true
 fault : ∀ v ∈ S_List s t, 0 ≤ v.f
 list : S_tList s t = (S_List s t, 0)
 merge : S_tMerge s t = (dOf s (S_List s t), 0)
theorem rdy21 {s : List Int} {t : List Rw} (hc : ∀ r ∈ t, 0 ≤ r.cell.f) (h : S_ready s t = true) : Rdy21 s t := by
 have h0 := (ready_ok h).2.1
 have hz : ¬(S_rTab s t != 0) = true := by rw [h0]; simp
 have hz2 : (S_rTab s t != 0) = false := by rw [h0]; rfl
 refine ⟨ofOk_of (laid_of hz2), fun v hv => ?_, list_f hc, by rw [tlist_eq hc, if_neg hz], by rw [merge_eq hc, if_neg hz]⟩
 obtain ⟨k, _, rfl⟩ := List.mem_map.1 hv
 obtain ⟨r, hr, e⟩ := at_mem (laid_of hz2) k
 rw [e]
 exact (isRow_iff.1 (laid_row hz2 r hr)).2.2.1
end Go.Proofs.YtmefgijobonklaaGreat
namespace Go.Proofs.YtmefgijobonklaaGreat
open Go Tw Pv Mist
theorem take_snoc {α : Type} {l : List α} {k : Nat} {d : α} (h : k < l.length) : l.take (k + 1) = l.take k ++ [l.getD k d] := by
 rw [List.take_succ_eq_append_getElem h]; simp [List.getD, List.getElem?_eq_getElem h]
theorem many_count {l : List V} (hl : l.length ≤ most) (v : V) : S_Many l v = (l.count v : Int) := by
 have := foldN_inv (g := gMany v l) (m := l.length) (k := 0) (s := 0) (fun k x => x = ((l.take k).count v : Int)) (by simp) (fun j x _ hj h => by
  have hj : j < l.length := by omega
  have hc : (l.take j).count v ≤ j := Nat.le_trans List.count_le_length (by simp; omega)
  rw [take_snoc (d := V0) hj, List.count_append, List.count_singleton]
  unfold gMany
  by_cases c : l.getD j V0 = v
  ·rw [if_pos (by simpa using c), h, wrap_up (by omega), if_pos (by simpa using c)]
  ·rw [if_neg (by simpa using c), h, if_neg (by simpa using c)]; simp)
 rw [Nat.zero_add, List.take_length] at this
 exact this
theorem vol_snoc : ∀ {f t : List Int} {x y : Int}, f.length = t.length → vol (f ++ [x]) (t ++ [y]) = vol f t * (y - x + 1)
 | [], [], x, y, _ => by simp [vol]
 | f :: fs, t :: ts, x, y, h => by
  have ih := vol_snoc (f := fs) (t := ts) (x := x) (y := y) (by simpa using h)
  simp only [List.cons_append, vol, ih, Int.mul_assoc]
 | [], _ :: _, _, _, h => by simp at h
 | _ :: _, [], _, _, h => by simp at h
theorem vol_le : ∀ {s f t : List Int}, SzOk s → boxIn s f t → 1 ≤ vol f t ∧ vol f t ≤ prodI s
 | [], [], [], _, _ => by simp [vol, prodI]
 | a :: s, f :: fs, t :: ts, hs, h => by
  obtain ⟨h1, h2, h3, h4⟩ := h
  obtain ⟨i1, i2⟩ := vol_le hs.tail h4
  simp only [vol, prodI]
  refine ⟨?_, ?_⟩
  ·have : (1 : Int) * 1 ≤ (t - f + 1) * vol fs ts := Int.mul_le_mul (by omega) i1 (by omega) (by omega)
   simpa using this
  ·exact Int.mul_le_mul (by omega) i2 (by omega) (by omega)
 | [], [], _ :: _, _, h => h.elim
 | [], _ :: _, _, _, h => h.elim
 | _ :: _, [], _, _, h => h.elim
 | _ :: _, _ :: _, [], _, h => h.elim
theorem boxIn_take : ∀ {s f t : List Int} (k : Nat), boxIn s f t → boxIn (s.take k) (f.take k) (t.take k)
 | [], [], [], k, _ => by simp [boxIn]
 | a :: s, f :: fs, t :: ts, 0, _ => by simp [boxIn]
 | a :: s, f :: fs, t :: ts, k + 1, h => ⟨h.1, h.2.1, h.2.2.1, boxIn_take k h.2.2.2⟩
 | [], [], _ :: _, _, h => h.elim
 | [], _ :: _, _, _, h => h.elim
 | _ :: _, [], _, _, h => h.elim
 | _ :: _, _ :: _, [], _, h => h.elim
def gVol (r : Rw) (k : Nat) (x : Int) : Int := IntKind.i64.wrap (x * IntKind.i64.wrap (IntKind.i64.wrap (r.to.getD k 0 - r.fr.getD k 0) + 1))
theorem fold_vol {s : List Int} (hf : Fine s) {r : Rw} (h : boxIn s r.fr r.to) : foldN (gVol r) s.length 0 1 = vol r.fr r.to := by
 obtain ⟨h1, h2, h3⟩ := boxIn_at h
 have := foldN_inv (g := gVol r) (m := s.length) (k := 0) (s := 1) (fun k x => x = vol (r.fr.take k) (r.to.take k)) (by simp [vol]) (fun j x _ hj e => by
  have hj : j < s.length := by omega
  have hb := h3 j hj
  have hz := hf.sz _ (getD_mem hj)
  have hv := vol_le (fun a ha => hf.sz a (List.mem_of_mem_take ha)) (boxIn_take (j + 1) h)
  rw [take_snoc (d := 0) (show j < r.fr.length by omega), take_snoc (d := 0) (show j < r.to.length by omega), vol_snoc (by simp; omega)] at hv ⊢
  have hp := prodI_take_le hf.sz (j + 1)
  have := hf.many
  unfold gVol
  rw [wrap_nn (z := r.to.getD j 0 - r.fr.getD j 0) (by omega) (by omega), wrap_nn (z := r.to.getD j 0 - r.fr.getD j 0 + 1) (by omega) (by omega), e, wrap_nn (by omega) (by omega)])
 rw [Nat.zero_add, List.take_of_length_le (by omega), List.take_of_length_le (by omega)] at this
 exact this
abbrev w0R (s : List Int) (t m : List Rw) (i many places : Int) (z : List (Nat × PE gam)) : PSt gam := ⟨[(1, .loc 0 0), (3, .loc 1 0), (5, xi places), (6, xi many), (7, xi i)] ++ z, [[lI s, lRw t], [lRw m]], []⟩
abbrev w1R (s : List Int) (t m : List Rw) (i many places : Int) (r : Rw) (size k : Int) (z : List (Nat × PE gam)) : PSt gam := ⟨[(1, .loc 0 0), (3, .loc 1 0), (5, xi places), (6, xi many), (7, xi i), (8, .loc 2 0), (9, xi size), (10, xi k)] ++ z, [[lI s, lRw t], [lRw m], r.ps], []⟩
abbrev w2R (s : List Int) (t m : List Rw) (i many places : Int) (r : Rw) (size : Int) (b : Bool) (k : Int) (z : List (Nat × PE gam)) : PSt gam := ⟨[(1, .loc 0 0), (3, .loc 1 0), (5, xi places), (6, xi many), (7, xi i), (8, .loc 2 0), (9, xi size), (11, xt b), (12, xi k)] ++ z, [[lI s, lRw t], [lRw m], r.ps], []⟩
theorem l1R {n : Nat} (hO : Ok n oc16) {s : List Int} (hf : Fine s) (t m : List Rw) (i many places : Int) {r : Rw} (h : boxIn s r.fr r.to) : Lp n 10 1 (w1R s t m i many places r 1 0 []) (.exit 2) (w1R s t m i many places r (vol r.fr r.to) s.length [(62, xl false)]) := by
 obtain ⟨h1, h2, h3⟩ := boxIn_at h
 rw [← fold_vol hf h]
 refine foldL (σ := Int) (N := s.length) (g := gVol r) (s0 := 1) (st := fun k x => w1R s t m i many places r x k []) (fin := fun x => w1R s t m i many places r x s.length [(62, xl false)]) (fun _ _ => True) (by kernel_rfl) (most6 hf.len) trivial (fun _ _ _ _ => trivial) (fun k x hk _ q e p g => ?_) (fun _ _ => ?_)
 ·exact round hX hO (by kernel_rfl) (.b (lt_nat hk) (.o (show inR k r.to.length from inR_nat (by omega)) (.o (show inR k r.fr.length from inR_nat (by omega)) (.go g))))
 ·exact round hX hO (by kernel_rfl) (.b (lt_no s.length) .ex)
def gKn (m : List Rw) (c : V) (k : Nat) (b : Bool) : Bool := if b = true then true else decide ((m.getD k Rw0).cell = c)
abbrev kn21 (m : List Rw) (c : V) (i : Nat) : Bool := foldN (gKn m c) i 0 false
theorem kn_iff {m : List Rw} {c : V} {i : Nat} (hi : i ≤ m.length) : kn21 m c i = true ↔ c ∈ (m.take i).map (·.cell) := by
 have := foldN_inv (g := gKn m c) (m := i) (k := 0) (s := false) (fun k b => b = true ↔ c ∈ (m.take k).map (·.cell)) (by simp) (fun j b _ hj h => by
  have hj : j < m.length := by omega
  rw [take_snoc (d := Rw0) hj, List.map_append, List.mem_append]
  unfold gKn
  by_cases hb : b = true
  ·rw [if_pos hb]; exact ⟨fun _ => .inl (h.1 hb), fun _ => rfl⟩
  ·rw [if_neg hb, decide_eq_true_eq]
   have hn := fun e => hb (h.2 e)
   constructor
   ·rintro rfl; exact .inr (by simp)
   ·rintro (e | e)
    ·exact absurd e hn
    ·simp at e; exact e.symm)
 rw [Nat.zero_add] at this
 exact this
theorem l2R {n : Nat} (hO : Ok n oc16) (s : List Int) (t : List Rw) {m : List Rw} (hm : m.length ≤ most) {i : Nat} (hi : i ≤ m.length) (many places : Int) (r : Rw) (size : Int) : Lp n 10 2 (w2R s t m i many places r size false 0 []) (.exit 4) (w2R s t m i many places r size (kn21 m r.cell i) i [(84, xl false)]) := by
 refine foldL (σ := Bool) (N := i) (g := gKn m r.cell) (s0 := false) (st := fun k x => w2R s t m i many places r size x k []) (fin := fun x => w2R s t m i many places r size x i [(84, xl false)]) (fun _ _ => True) (by kernel_rfl) (by omega) trivial (fun _ _ _ _ => trivial) (fun k x hk _ q e p g => ?_) (fun _ _ => ?_)
 ·have hk2 : k < m.length := by omega
  unfold gKn at g
  cases x
  ·rw [if_neg (by simp)] at g
   exact round hX hO (by kernel_rfl) (.b (lt_nat hk) (.b (rfl : false = false) (.o (inR_nat hk2) (.q (.bool (decide ((m.getD k Rw0).cell = r.cell))) (eqV (.tmp 94) (.tmp 96) (m.getD k Rw0).cell r.cell) (.go g)))))
  ·rw [if_pos rfl] at g
   exact round hX hO (by kernel_rfl) (.b (lt_nat hk) (.b (rfl : true = true) (.goG [.lit] g)))
 ·exact round hX hO (by kernel_rfl) (.b (lt_no i) .ex)
def cM (L : List V) (m : List Rw) (k : Nat) : Nat := L.countP fun v => decide (v ∈ (m.take k).map (·.cell))
def pL (m : List Rw) (k : Nat) : Int := ((m.take k).map fun r => vol r.fr r.to).sum
theorem cM_step (L : List V) {m : List Rw} {k : Nat} (hk : k < m.length) : cM L m (k + 1) = if kn21 m (m.getD k Rw0).cell k = true then cM L m k else cM L m k + L.count (m.getD k Rw0).cell := by
 have e : kn21 m (m.getD k Rw0).cell k = true ↔ (m.getD k Rw0).cell ∈ (m.take k).map (·.cell) := kn_iff (by omega)
 have hc := take_snoc (d := Rw0) hk
 generalize m.getD k Rw0 = r at *
 unfold cM
 rw [hc, List.map_append]
 generalize (m.take k).map (·.cell) = K at *
 split
 ·rename_i c
  have := e.1 c
  refine List.countP_congr fun v _ => ?_
  simp only [List.map_cons, List.map_nil, List.mem_append, List.mem_singleton, decide_eq_true_eq]
  constructor
  ·rintro (h | rfl)
   ·exact h
   ·exact this
  ·exact .inl
 ·rename_i c
  have hn : r.cell ∉ K := fun h => c (e.2 h)
  induction L with
  | nil => rfl
  | cons v L ih =>
   rw [List.countP_cons, List.countP_cons, List.count_cons, ih]
   by_cases h1 : v = r.cell
   ·subst h1
    rw [if_pos (by simp), if_neg (by simpa using hn), if_pos (by simp)]; omega
   ·by_cases h2 : v ∈ K
    ·rw [if_pos (by simp [h2]), if_pos (by simpa using h2), if_neg (by simpa using h1)]; omega
    ·rw [if_neg (by simp [h2, h1]), if_neg (by simpa using h2), if_neg (by simpa using h1)]; omega
theorem cM_all {s : List Int} {L : List V} (h : OfOk s L) : cM L (dOf s L) (dOf s L).length = L.length := by
 unfold cM
 rw [List.take_length, List.countP_eq_length]
 intro v hv
 obtain ⟨r, hr, rfl⟩ := dOf_has h hv
 rw [decide_eq_true_eq]
 exact List.mem_map_of_mem hr
theorem pL_step {m : List Rw} {k : Nat} (hk : k < m.length) : pL m (k + 1) = pL m k + vol (m.getD k Rw0).fr (m.getD k Rw0).to := by
 unfold pL
 rw [take_snoc (d := Rw0) hk, List.map_append, List.sum_append]
 simp
theorem pL_rng {s : List Int} {L : List V} (h : OfOk s L) : ∀ k, k ≤ (dOf s L).length → 0 ≤ pL (dOf s L) k ∧ pL (dOf s L) k ≤ prodI s := by
 have key : ∀ (R : List Rw) (k : Nat), (∀ r ∈ R, 1 ≤ vol r.fr r.to) → 0 ≤ pL R k ∧ pL R k ≤ (R.map fun r => vol r.fr r.to).sum := by
  intro R
  induction R with
  | nil => intro k _; simp [pL]
  | cons r R ih =>
   intro k hv
   have h1 := hv r (by simp)
   have h2 := fun k => ih k fun r hr => hv r (by simp [hr])
   cases k with
   | zero => have := h2 0; simp only [pL, List.take_zero, List.map_nil, List.sum_nil, List.map_cons, List.sum_cons] at *; omega
   | succ k => have := h2 k; simp only [pL, List.take_succ_cons, List.map_cons, List.sum_cons] at *; omega
 intro k _
 have := key (dOf s L) k fun r hr => (dOf_vol h hr).1
 rw [dOf_sum h] at this
 exact this
def gRows (L : List V) (m : List Rw) (k : Nat) (x : Int × Int) : Int × Int := (if kn21 m (m.getD k Rw0).cell k = true then x.1 else IntKind.i64.wrap (x.1 + S_Many L (m.getD k Rw0).cell), IntKind.i64.wrap (x.2 + vol (m.getD k Rw0).fr (m.getD k Rw0).to))
theorem fold_rw {s : List Int} {L : List V} (h : OfOk s L) : foldN (gRows L (dOf s L)) (dOf s L).length 0 (0, 0) = (prodI s, prodI s) := by
 have hL := h.len
 have hmm := h.fine.many
 have := foldN_inv (g := gRows L (dOf s L)) (m := (dOf s L).length) (k := 0) (s := (0, 0)) (fun k x => x.1 = (cM L (dOf s L) k : Int) ∧ x.2 = pL (dOf s L) k) (by
  refine ⟨?_, by simp [pL]⟩
  have : cM L (dOf s L) 0 = 0 := by unfold cM; rw [List.countP_eq_zero]; simp
  rw [this]; rfl) (fun j x _ hj e => by
  obtain ⟨e1, e2⟩ := e
  have hj : j < (dOf s L).length := by omega
  have hp := pL_rng h (j + 1) (by omega)
  have c1 : cM L (dOf s L) (j + 1) ≤ L.length := List.countP_le_length
  rw [pL_step hj] at hp ⊢
  have cs := cM_step L hj
  unfold gRows
  refine ⟨?_, by show IntKind.i64.wrap (x.2 + _) = _; rw [e2, wrap_nn (by omega) (by omega)]⟩
  show (if _ then x.1 else _) = _
  rw [cs]
  rw [cs] at c1
  split
  ·exact e1
  ·rename_i c
   rw [if_neg c] at c1
   rw [e1, many_count (by unfold most; omega), wrap_nn (by omega) (by omega)]; omega)
 rw [Nat.zero_add] at this
 obtain ⟨e1, e2⟩ := this
 have e3 : pL (dOf s L) (dOf s L).length = prodI s := by unfold pL; rw [List.take_length]; exact dOf_sum h
 exact Prod.ext (by rw [e1, cM_all h]; exact hL) (by rw [e2]; exact e3)
theorem l0R {n : Nat} (hO : Ok n oc16) {s : List Int} {t m : List Rw} (hc : ∀ r ∈ t, 0 ≤ r.cell.f) (hr : S_ready s t = true) (hm : m = dOf s (S_List s t)) : Lp n 10 0 (w0R s t m 0 0 0 []) (.exit 0) (w0R s t m m.length (prodI s) (prodI s) [(45, xl false)]) := by
 have R := rdy21 hc hr
 obtain ⟨⟨h1, h2, h3⟩, ht0, -⟩ := ready_ok hr
 have hf := R.ok.fine
 have hmost := dOf_m R.ok
 have hfold := fold_rw R.ok
 have hLm : (S_List s t).length ≤ most := by have := R.ok.len; have := hf.many; unfold most; omega
 have hbox := fun r (hr : r ∈ dOf s (S_List s t)) => dOf_box R.ok hr
 have hvol := fun r (hr : r ∈ dOf s (S_List s t)) => dOf_vol R.ok hr
 rw [← hm] at hmost hfold hbox hvol
 have e0 : foldN (gRows (S_List s t) m) m.length 0 (0, 0) = (prodI s, prodI s) := hfold
 rw [show w0R s t m m.length (prodI s) (prodI s) [(45, xl false)] = (fun x : Int × Int => w0R s t m m.length x.1 x.2 [(45, xl false)]) (foldN (gRows (S_List s t) m) m.length 0 (0, 0)) by rw [e0]]
 refine foldL (σ := Int × Int) (N := m.length) (g := gRows (S_List s t) m) (s0 := (0, 0)) (st := fun k x => w0R s t m k x.1 x.2 []) (fin := fun x => w0R s t m m.length x.1 x.2 [(45, xl false)]) (fun _ _ => True) (by kernel_rfl) hmost trivial (fun _ _ _ _ => trivial) (fun k x hk _ q e p g => ?_) (fun _ _ => ?_)
 ·have hmem : m.getD k Rw0 ∈ m := by simp [List.getD, List.getElem?_eq_getElem hk]
  obtain ⟨hb, hcm⟩ := hbox _ hmem
  obtain ⟨v1, v2⟩ := hvol _ hmem
  obtain ⟨pl1, pl2, in1, in2⟩ := boxIn_pl hb
  have l1 := l1R hO hf t m k x.1 x.2 hb
  have l2 := l2R hO s t hmost (i := k) (by omega) x.1 (IntKind.i64.wrap (x.2 + vol (m.getD k Rw0).fr (m.getD k Rw0).to)) (m.getD k Rw0) (vol (m.getD k Rw0).fr (m.getD k Rw0).to)
  have hz : (S_rTab s t != 0) = false := by rw [ht0]; rfl
  have hzn : ¬(S_rTab s t != 0) = true := by rw [hz]; simp
  have hv := R.vis _ hcm
  have hvf := R.fault _ hcm
  have hrow : S_isRow21 s (m.getD k Rw0) = true := box_isRow hb hv
  have hmem2 : m.getD k Rw0 ∈ dOf s (S_List s t) := hm ▸ hmem
  have atc : ∀ p, isPl s p = true → inB (m.getD k Rw0).fr (m.getD k Rw0).to p → S_tAt s t p = ((m.getD k Rw0).cell, 0) := fun p hp hi => by
   rw [tat_eq hc, if_neg hzn, if_neg (by rw [hp]; simp), (dOf_own R.ok hp).2.2 _ hmem2 hi, list_at hf.sz hp]
  have ea := atc _ pl1 in1
  have eb := atc _ pl2 in2
  have em : S_tMany s t (m.getD k Rw0).cell = (S_Many (S_List s t) (m.getD k Rw0).cell, 0) := by
   rw [tmany_eq hc, if_neg hzn, if_neg (by rw [cell_vIs hvf, hv]; simp)]
  have fl := isPl_len pl1
  have tl := isPl_len pl2
  have hfr : (m.getD k Rw0).fr.length ≤ most := by rw [fl]; exact h1
  have hto : (m.getD k Rw0).to.length ≤ most := by rw [tl]; exact h1
  have d1 : ((S_tMany s t (m.getD k Rw0).cell).2 != 0) = false := by rw [em]; rfl
  have d2 : ((S_tAt s t (m.getD k Rw0).fr).2 != 0) = false := by rw [ea]; rfl
  have d3 : ((S_tAt s t (m.getD k Rw0).to).2 != 0) = false := by rw [eb]; rfl
  have d4 : decide ((S_tMany s t (m.getD k Rw0).cell).1 < vol (m.getD k Rw0).fr (m.getD k Rw0).to) = false := by
   rw [em, decide_eq_false_iff_not]
   show ¬(S_Many _ _ < _)
   rw [many_count hLm]; omega
  have n4 : (!(decide ((S_tAt s t (m.getD k Rw0).fr).1 = (m.getD k Rw0).cell))) = false := by rw [ea]; simp
  have n5 : (!(decide ((S_tAt s t (m.getD k Rw0).to).1 = (m.getD k Rw0).cell))) = false := by rw [eb]; simp
  unfold gRows at g
  cases ck : kn21 m (m.getD k Rw0).cell k
  ·rw [ck] at l2
   rw [if_neg (by rw [ck]; simp)] at g
   have em1 : (S_tMany s t (m.getD k Rw0).cell).1 = S_Many (S_List s t) (m.getD k Rw0).cell := by rw [em]
   rw [← em1] at g
   exact round hX hO (by kernel_rfl) (.b (lt_nat hk) (.o (inR_nat hk) (.o h1 (.b (show (!(S_isRow21 s (m.getD k Rw0))) = false by rw [hrow]; rfl) (.w l1 (.wG [.lit] l2 (.o h1 (.o h2 (.o h3 (.o h1 (.o h3 (.o h1 (.o h2 (.o h3 (.o hfr (.o h1 (.o h3 (.o hfr (.o h1 (.o h2 (.o h3 (.o hto (.o h1 (.o h3 (.o hto (.b d1 (.b d2 (.b d3 (.q (.bool false) ((neV (.tmp 148) (.tmp 150) (S_tAt s t (m.getD k Rw0).fr).1 (m.getD k Rw0).cell).trans (by rw [n4])) (.b (rfl : false = false) (.q (.bool false) ((neV (.tmp 154) (.tmp 156) (S_tAt s t (m.getD k Rw0).to).1 (m.getD k Rw0).cell).trans (by rw [n5])) (.b (rfl : false = false) (.b d4 (.b (rfl : (!false) = true) (.go g)))))))))))))))))))))))))))))))))))
  ·rw [ck] at l2
   rw [if_pos ck] at g
   exact round hX hO (by kernel_rfl) (.b (lt_nat hk) (.o (inR_nat hk) (.o h1 (.b (show (!(S_isRow21 s (m.getD k Rw0))) = false by rw [hrow]; rfl) (.w l1 (.wG [.lit] l2 (.o h1 (.o h2 (.o h3 (.o h1 (.o h3 (.o h1 (.o h2 (.o h3 (.o hfr (.o h1 (.o h3 (.o hfr (.o h1 (.o h2 (.o h3 (.o hto (.o h1 (.o h3 (.o hto (.b d1 (.b d2 (.b d3 (.q (.bool false) ((neV (.tmp 148) (.tmp 150) (S_tAt s t (m.getD k Rw0).fr).1 (m.getD k Rw0).cell).trans (by rw [n4])) (.b (rfl : false = false) (.q (.bool false) ((neV (.tmp 154) (.tmp 156) (S_tAt s t (m.getD k Rw0).to).1 (m.getD k Rw0).cell).trans (by rw [n5])) (.b (rfl : false = false) (.b d4 (.b (rfl : (!true) = false) (.go g)))))))))))))))))))))))))))))))))))
 ·exact round hX hO (by kernel_rfl) (.b (lt_no m.length) .ex)
noncomputable def oc10 : Orc gam := orcF 10 (a1 asA) tA (fun _ => true) (fun p => [∀ r ∈ p.2, 0 ≤ r.cell.f]) oc16
theorem gc10 : Gd oc10 := gc16.add fun n hO p hp => by
 obtain ⟨s, t⟩ := p
 have hc : ∀ r ∈ t, 0 ≤ r.cell.f := hp _ (.head _)
 show Con _ _ _ _ _ ((tA : Arg Bool).put true) _
 cases c1 : S_ready s t
 ·exact fn_is hX hO (by kernel_rfl) (.b (show (!(S_ready s t)) = true by rw [c1]; rfl) .rr)
 have t1 : (!(S_ready s t)) = false := by rw [c1]; rfl
 obtain ⟨⟨h1, h2, h3⟩, -, hth⟩ := ready_ok c1
 have R := rdy21 hc c1
 have eM : (S_tMerge s t).1 = dOf s (S_List s t) := by rw [R.merge]
 have b2 : ((S_tMerge s t).2 != 0) = false := by rw [R.merge]; rfl
 have b3 : decide (((S_tMerge s t).1.length : Int) > 60) = false := by
  rw [eM, decide_eq_false_iff_not]
  have a1 := dOf_len R.ok
  have a2 := R.ok.len
  have a3 := R.ok.fine.many3
  have a4 := S_sizes_ok.2 R.ok.fine
  unfold S_thinS at hth
  split at hth
  ·rw [if_neg (by rw [a4]; simp), decide_eq_true_eq] at hth
   omega
  ·cases hth
 have b4 : (prodI s == prodC s) = true := by rw [R.ok.fine.many3]; simp
 exact fn_is hX hO (by kernel_rfl) (.b t1 (.o h1 (.o h2 (.o h3 (.o h1 (.o h3 (.b b2 (.b b3 (.w (l0R hO hc c1 eM) (.o h1 (.b b4 (.b (show (prodI s == prodI s) = true by simp) .rr))))))))))))
end Go.Proofs.YtmefgijobonklaaGreat
namespace Tw
open Go Go.ChangeShapes Go.WideShapes Go.RowKit
theorem trodAll_n {H : Type} {enc : TypeId × Value → H} {P : Program} {w : World} {t : TypeId} {ts : List TypeId} {vs : List Value} {ds : List (DataW H)} {ps : List MemPlace} (h : DataW.TrodAll enc P w 0 (fun _ => true) true (t :: ts) vs ds ps) : ∃ d e, ds = d :: e ∧ Rd enc P w t d ∧ ∃ vs ps, DataW.TrodAll enc P w 0 (fun _ => true) true ts vs e ps := by
 obtain ⟨v, vs', d, ds', p, q, rfl, rfl, rfl, ⟨fuel, hd⟩, hrest⟩ := trodAll_cons h
 exact ⟨d, ds', rfl, ⟨_, fuel, p, hd⟩, _, _, hrest⟩
section
variable {H : Type} {P : Program} {g : Nat} {t : TypeId} {ts : List TypeId} {d : DataW H} {ds : List (DataW H)} {h h1 h2 : List HB} {xs : List TV}
theorem encA_a {cs : List TV} (ha : isAggT P t = some true) (he : encT P g t d h = some (cs, h1)) (hr : encA P g ts ds h1 = some (xs, h2)) : encA P g (t :: ts) (d :: ds) h = some (.agg cs :: xs, h2) := by
 simp only [encA, he, ha, hr]
theorem encA_0 : encA (H := H) P g [] [] h = some ([], h) := rfl
end
end Tw
namespace Pv
open Go Tw
section
variable {X : Cod} {P : Program} {H : Type} {encH : TypeId × Value → H} {w : World}
abbrev AT : Nat → Prop := fun _ => True
def RdP (encH : TypeId × Value → H) (X : Cod) (P : Program) (w : World) (g t : Nat) {α : Type} (ps : α → List (PV X.Γ)) (Q : α → Prop) : Prop :=
 ∀ d, Rd encH P w t d → ∃ a, Q a ∧ ∀ h, ∃ xs ext, encT P g t d h = some (xs, h ++ ext) ∧ ∀ e, VRs X P AT [] (h ++ ext ++ e) (ps a) xs
theorem rdp_int {t g : Nat} {k : IntKind} (ht : P.underlying t = some (.int k)) : RdP encH X P w (g + 1) t (fun n : Int => [.int k n]) (fun n => (Lit.int k n).wf = true) := fun d hd => by
 obtain ⟨n, rfl, hn⟩ := rd_int ht hd
 exact ⟨n, hn, fun h => ⟨[.int k n], [], by simp [encT, ht], fun e => .cons (.int _ _) .nil⟩⟩
theorem encL_rows {e g sz : Nat} {Q : X.Γ e → Prop} (hlen : ∀ a, (X.enc e a).length = sz) (hr : RdP encH X P w g e (X.enc e) Q) : ∀ (ds : List (DataW H)), (∀ y ∈ ds, Rd encH P w e y) →
  ∃ l : List (X.Γ e), l.length = ds.length ∧ (∀ a ∈ l, Q a) ∧ ∀ h, ∃ cs ext, encL (encT P g e) sz ds h = some (cs, h ++ ext) ∧ cs.length = l.length * sz ∧ ∀ e2 (j : Nat) a (i : Nat) c v, l[j]? = some a → (X.enc e a)[i]? = some c → cs[j * sz + i]? = some v → VR X P AT [] (h ++ ext ++ e2) c v
 | [], _ => ⟨[], rfl, by simp, fun h => ⟨[], [], by simp [encL], by simp, fun e2 j a i c v h1 => by simp at h1⟩⟩
 | d :: ds, hd => by
  obtain ⟨a, qa, ha⟩ := hr d (hd d (List.mem_cons_self ..))
  obtain ⟨l, l1, l2, l3⟩ := encL_rows hlen hr ds fun y hy => hd y (List.mem_cons_of_mem _ hy)
  refine ⟨a :: l, by simp [l1], fun b hb => (List.mem_cons.1 hb).elim (fun e => e ▸ qa) (l2 b), fun h => ?_⟩
  obtain ⟨xs, e1, h1, v1⟩ := ha h
  obtain ⟨cs, e2, h2, c2, v2⟩ := l3 (h ++ e1)
  have hx : xs.length = sz := by rw [← (v1 []).1]; exact hlen a
  refine ⟨xs ++ cs, e1 ++ e2, ?_, by simp only [List.length_append, List.length_cons, hx, c2, Nat.add_mul]; omega, fun e3 j b i c v hj hi hv => ?_⟩
  ·simp only [encL, h1, hx, if_true, h2, List.append_assoc]
  ·cases j with
   | zero =>
    simp only [List.getElem?_cons_zero, Option.some.injEq] at hj
    subst hj
    have hi2 : i < sz := by rw [← hlen a]; exact (List.getElem?_eq_some_iff.1 hi).1
    rw [Nat.zero_mul, Nat.zero_add, List.getElem?_append_left (by omega)] at hv
    have := (v1 (e2 ++ e3)).2 i c v hi hv
    simp only [List.append_assoc] at this ⊢
    exact this
   | succ j =>
    rw [List.getElem?_cons_succ] at hj
    rw [List.getElem?_append_right (by rw [hx, Nat.add_mul]; omega), hx, show (j + 1) * sz + i - sz = j * sz + i by rw [Nat.add_mul]; omega] at hv
    have := v2 e3 j b i c v hj hi hv
    simp only [List.append_assoc] at this ⊢
    exact this
theorem rdp_list {t e g sz : Nat} {Q : X.Γ e → Prop} (ht : P.underlying t = some (.slice e)) (hsz : P.cellsOf e = sz) (hz : sizeT P e = some sz) (h0 : 0 < sz) (hlen : ∀ a, (X.enc e a).length = sz) (hr : RdP encH X P w g e (X.enc e) Q) : RdP encH X P w (g + 1) t (fun l : List (X.Γ e) => [.lst e l false]) (fun l => ∀ a ∈ l, Q a) := fun d hd => by
 rcases rd_slice ht hd with rfl | ⟨xs, ys, rfl, hy⟩
 ·exact ⟨[], by simp, fun h => ⟨[.nil .slc], [], by simp [encT, ht], fun e => .cons .lstN .nil⟩⟩
 ·obtain ⟨l, l1, l2, l3⟩ := encL_rows hlen hr (xs ++ ys) hy
  have hl : xs.length ≤ l.length := by rw [l1, List.length_append]; omega
  refine ⟨l.take xs.length, fun a ha => l2 a (List.mem_of_mem_take ha), fun h => ?_⟩
  obtain ⟨cs, e1, h1, c1, v1⟩ := l3 h
  refine ⟨[.slc (h ++ e1).length 0 xs.length (xs.length + ys.length) sz true], e1 ++ [.cells .ro cs], ?_, fun e2 => .cons ?_ .nil⟩
  ·have hne : ¬ sz = 0 := by omega
   simp only [encT, ht, hsz, h1, hne, if_false, List.append_assoc]
  ·have hln : (l.take xs.length).length = xs.length := by rw [List.length_take, Nat.min_eq_left hl]
   have hb : (h ++ (e1 ++ [HB.cells .ro cs]) ++ e2)[(h ++ e1).length]? = some (.cells .ro cs) := by
    rw [show h ++ (e1 ++ [HB.cells .ro cs]) ++ e2 = (h ++ e1) ++ (HB.cells .ro cs :: e2) by simp, List.getElem?_append_right (Nat.le_refl _), Nat.sub_self]; rfl
   have hcap : (l.take xs.length).length ≤ xs.length + ys.length := by omega
   have hj2 : ∀ (j : Nat) a, (l.take xs.length)[j]? = some a → l[j]? = some a := fun j a hj => by
    rw [List.getElem?_take] at hj
    split at hj
    ·exact hj
    ·cases hj
   have hle : (l.take xs.length).length * sz ≤ cs.length := by rw [c1, hln]; exact Nat.mul_le_mul_right sz hl
   generalize xs.length + ys.length = cp at hcap ⊢
   generalize l.take xs.length = l' at hcap hj2 hle hln ⊢
   rw [← hln]
   exact VR.lst (X := X) (P := P) (A := AT) (m := []) (t := e) (l := l') (fu := false) (b := (h ++ e1).length) (off := 0) (cap := cp) (sz := sz) (ex := true) (cs := cs) trivial (by unfold blkCells; rw [hb]) (fun _ => by unfold blkLim; rw [hb]; simp) hz h0 (by omega) hcap (by simp) (fun j a _ => hlen a) (fun j a i c v hj hi hv => by
    rw [Nat.zero_add] at hv
    have := v1 ([HB.cells .ro cs] ++ e2) j a i c v (hj2 j a hj) hi hv
    simp only [List.append_assoc] at this ⊢
    exact this)
def RdF (encH : TypeId × Value → H) (X : Cod) (P : Program) (w : World) (g o : Nat) (fs : List Field) {α : Type} (ps : α → List (PV X.Γ)) (Q : α → Prop) : Prop :=
 ∀ ds : List (DataW H), ds.length = fs.length → (∀ (i : Nat) f d, fs[i]? = some f → ds[i]? = some d → Rd encH P w f.type d) → ∃ a, Q a ∧ ∀ h, ∃ xs ext, encF P (encT P g) o fs ds h = some (xs, h ++ ext) ∧ ∀ e, VRs X P AT [] (h ++ ext ++ e) (ps a) xs
theorem rdf_nil {g o : Nat} : RdF encH X P w g o [] (fun _ : Unit => []) (fun _ => True) := fun ds hl _ => by
 have := List.eq_nil_of_length_eq_zero hl
 subst this
 exact ⟨(), trivial, fun h => ⟨[], [], by simp [encF], fun e => .nil⟩⟩
theorem rdf_cons {g o n : Nat} {f : Field} {fs : List Field} {α β : Type} {p1 : α → List (PV X.Γ)} {p2 : β → List (PV X.Γ)} {Q1 : α → Prop} {Q2 : β → Prop} (ho : f.offset = o) (hc : P.cellsOf f.type = n) (hn : ∀ a, (p1 a).length = n) (h1 : RdP encH X P w g f.type p1 Q1) (h2 : RdF encH X P w g (o + n) fs p2 Q2) : RdF encH X P w g o (f :: fs) (fun x : α × β => p1 x.1 ++ p2 x.2) (fun x => Q1 x.1 ∧ Q2 x.2) := fun ds hl hd => by
 cases ds with
 | nil => cases hl
 | cons d ds =>
  obtain ⟨a, qa, ha⟩ := h1 d (hd 0 f d rfl rfl)
  obtain ⟨b, qb, hb⟩ := h2 ds (by simpa using hl) fun i f' d' e1 e2 => hd (i + 1) f' d' e1 e2
  refine ⟨(a, b), ⟨qa, qb⟩, fun h => ?_⟩
  obtain ⟨xs, e1, g1, v1⟩ := ha h
  obtain ⟨ys, e2, g2, v2⟩ := hb (h ++ e1)
  have hx : xs.length = n := by rw [← (v1 []).1]; exact hn a
  refine ⟨xs ++ ys, e1 ++ e2, ?_, fun e => ?_⟩
  ·simp only [encF, g1, ho, hx, hc, and_self, if_true, g2, List.append_assoc]
  ·have w1 := v1 (e2 ++ e)
   have w2 := v2 e
   simp only [List.append_assoc] at w1 w2 ⊢
   exact w1.app w2
theorem rdp_struct {t g n : Nat} {fs : Array Field} {α : Type} {ps : α → List (PV X.Γ)} {Q : α → Prop} (ht : P.underlying t = some (.struct fs)) (hc : P.cellsOf t = n) (hn : ∀ a, (ps a).length = n) (hf : RdF encH X P w g 0 fs.toList ps Q) : RdP encH X P w (g + 1) t ps Q := fun d hd => by
 obtain ⟨ds, rfl, hl, hat⟩ := rd_struct ht hd
 obtain ⟨a, qa, ha⟩ := hf ds (by simpa using hl) fun i f d e1 e2 => hat i f d (by simpa using e1) e2
 refine ⟨a, qa, fun h => ?_⟩
 obtain ⟨xs, e1, g1, v1⟩ := ha h
 have hx : xs.length = n := by rw [← (v1 []).1]; exact hn a
 refine ⟨xs, e1, ?_, v1⟩
 rw [encT_struct ht, g1]
 simp [hx, hc]
theorem RdP.iso {t g : Nat} {α β : Type} {ps : α → List (PV X.Γ)} {Q : α → Prop} (h : RdP encH X P w g t ps Q) (f : α → β) {p2 : β → List (PV X.Γ)} {Q2 : β → Prop} (hp : ∀ a, p2 (f a) = ps a) (hq : ∀ a, Q a → Q2 (f a)) : RdP encH X P w g t p2 Q2 := fun d hd => by
 obtain ⟨a, qa, ha⟩ := h d hd
 exact ⟨f a, hq a qa, fun h => by rw [hp]; exact ha h⟩
theorem run_of {T : Tab} {L n f : Nat} {vs : List (PV X.Γ)} {xs : List TV} {h : List HB} (hc : Con X P (apN P T L (n + 1)) f vs (PV.bool true) []) (hv : VRs X P AT [] h vs xs) : ∃ h', apN P T L (n + 1) (TV.fn f [] []) xs h = some (TV.bool true, h', []) := by
 obtain ⟨x, h', m', c1, _, c3, _⟩ := hc AT h [] xs [] (fun _ _ => trivial) (by simpa using hv)
 have : x = TV.bool true := by
  cases c3 with
  | bool => rfl
  | gone hi _ _ => simp [idOf] at hi
 subst this
 exact ⟨h', c1⟩
end
end Pv
namespace Go.Proofs.YtmefgijobonklaaGreat
open Go Tw Pv
section
variable {H : Type} {encH : TypeId × Value → H} {w : World}
abbrev RdX (encH : TypeId × Value → H) (w : World) (g t : Nat) {α : Type} (ps : α → List (PV gam)) (Q : α → Prop) : Prop := RdP encH X0 Tryz.prog w g t ps Q
theorem ccInt : Tryz.prog.cellsOf 3 = 1 := by kernel_rfl
theorem ccU8 : Tryz.prog.cellsOf 5 = 1 := by kernel_rfl
theorem ccVal : Tryz.prog.cellsOf 58 = 2 := by kernel_rfl
theorem zI0 : sizeT Tryz.prog 3 = some 1 := by kernel_rfl
theorem rInt {g : Nat} : RdX encH w (g + 1) 3 (fun n : Int => [.int .i64 n]) (fun n => (Lit.int .i64 n).wf = true) := rdp_int Tryz.underlying3
theorem rU8 {g : Nat} : RdX encH w (g + 1) 5 (fun n : Int => [.int .u8 n]) (fun n => 0 ≤ n ∧ n ≤ 255) := (rdp_int Tryz.underlying5).iso id (fun _ => rfl) fun n h => by
 simp only [Lit.wf, Bool.and_eq_true, decide_eq_true_eq] at h
 exact h
theorem rInts {g : Nat} : RdX encH w (g + 2) 22 (fun l : List Int => [lI l]) (fun l => ∀ a ∈ l, (Lit.int .i64 a).wf = true) := rdp_list (e := 3) Tryz.underlying22 ccInt zI0 (by decide) (fun _ => rfl) rInt
theorem rVal {g : Nat} : RdX encH w (g + 2) 58 V.ps (fun v => 0 ≤ v.f ∧ v.f ≤ 255) :=
 (rdp_struct Tryz.underlying58 ccVal (fun _ => rfl) (rdf_cons rfl ccU8 (fun _ => rfl) rU8 (rdf_cons rfl ccInt (fun _ => rfl) rInt rdf_nil))).iso (fun x => ⟨x.1, x.2.1⟩) (fun _ => rfl) fun _ h => h.1
theorem ccIs : Tryz.prog.cellsOf 22 = 1 := by kernel_rfl
theorem ccRow : Tryz.prog.cellsOf 95 = 4 := by kernel_rfl
theorem zRow0 : sizeT Tryz.prog 95 = some 4 := by kernel_rfl
theorem ccRows : Tryz.prog.cellsOf 26 = 1 := by kernel_rfl
theorem ccTab : Tryz.prog.cellsOf 28 = 1 := by kernel_rfl
theorem ccAsk : Tryz.prog.cellsOf 42 = 2 := by kernel_rfl
theorem rRow {g : Nat} : RdX encH w (g + 3) 95 Rw.ps (fun r => 0 ≤ r.cell.f) :=
 (rdp_struct Tryz.underlying95 ccRow (fun _ => rfl) (rdf_cons rfl ccIs (fun _ => rfl) rInts (rdf_cons rfl ccIs (fun _ => rfl) rInts (rdf_cons rfl ccVal (fun _ => rfl) rVal rdf_nil)))).iso (fun x => ⟨x.1, x.2.1, x.2.2.1⟩) (fun _ => rfl) fun _ h => h.2.2.1.1
theorem rRows {g : Nat} : RdX encH w (g + 4) 26 (fun l : List Rw => [lRw l]) (fun l => ∀ r ∈ l, 0 ≤ r.cell.f) := rdp_list (e := 95) Tryz.underlying26 ccRow zRow0 (by decide) (fun _ => rfl) rRow
theorem rTab {g : Nat} : RdX encH w (g + 5) 28 (fun l : List Rw => [lRw l]) (fun l => ∀ r ∈ l, 0 ≤ r.cell.f) :=
 (rdp_struct Tryz.underlying28 ccTab (fun _ => rfl) (rdf_cons rfl ccRows (fun _ => rfl) rRows rdf_nil)).iso (fun x => x.1) (fun _ => rfl) fun _ h => h.1
theorem rAsk {g : Nat} : RdX encH w (g + 6) 42 (fun x : List Int × List Rw => [lI x.1, lRw x.2]) (fun x => ∀ r ∈ x.2, 0 ≤ r.cell.f) :=
 (rdp_struct Tryz.underlying42 ccAsk (fun _ => rfl) (rdf_cons rfl ccIs (fun _ => rfl) rInts (rdf_cons rfl ccTab (fun _ => rfl) rTab rdf_nil))).iso (fun x => (x.1, x.2.1)) (fun _ => rfl) fun _ h => h.2.1
end
end Go.Proofs.YtmefgijobonklaaGreat
namespace Tw
open Go
def renT (g : Nat → Option Nat) : TV → Option TV
 | .ptr b o l => (g b).map fun b => .ptr b o l
 | .slc b o n c z e => (g b).map fun b => .slc b o n c z e
 | .map r => (g r).map .map
 | .yld _ => none
 | .fn f a c => match renTs g a, renTs g c with
  | some a, some c => some (.fn f a c)
  | _, _ => none
 | .agg cs => (renTs g cs).map .agg
 | .tup cs => (renTs g cs).map .tup
 | .bool b => some (.bool b)
 | .int k n => some (.int k n)
 | .str s => some (.str s)
 | .nil k => some (.nil k)
where
 renTs (g : Nat → Option Nat) : List TV → Option (List TV)
 | [] => some []
 | c :: cs => match renT g c, renTs g cs with
  | some v, some vs => some (v :: vs)
  | _, _ => none
theorem renTs_at {g : Nat → Option Nat} : ∀ {az as' : List TV}, renT.renTs g az = some as' → az.length = as'.length ∧ ∀ (i : Nat) c', as'[i]? = some c' → ∃ c, az[i]? = some c ∧ renT g c = some c'
 | [], as', h => by cases h; exact ⟨rfl, fun i c h => by simp at h⟩
 | a :: az, as', h => by
  simp only [renT.renTs] at h
  split at h
  ·rename_i v vs e1 e2
   cases h
   obtain ⟨h1, h2⟩ := renTs_at e2
   refine ⟨by simp [h1], fun i c' hi => ?_⟩
   cases i with
   | zero => simp at hi; subst hi; exact ⟨a, rfl, e1⟩
   | succ i => exact h2 i c' (by simpa using hi)
  ·cases h
section
variable {g : Nat → Option Nat} {N N' : Np}
theorem renT_ok (hg : ∀ b b', g b = some b' → N' b' = N b) {v : TV} {x : Value} (h : VR N v x) : ∀ {v'}, renT g v = some v' → VR N' v' x := by
 have lst : ∀ {az : List TV} {xs : List Value}, az.length = xs.length → (∀ (i : Nat) (c : TV) (v : Value), az[i]? = some c → xs[i]? = some v → ∀ {v'}, renT g c = some v' → VR N' v' v) → ∀ {as'}, renT.renTs g az = some as' → as'.length = xs.length ∧ ∀ (i : Nat) (c : TV) (v : Value), as'[i]? = some c → xs[i]? = some v → VR N' c v := by
  intro az xs hl ha as' hr
  obtain ⟨h1, h2⟩ := renTs_at hr
  exact ⟨by rw [← h1, hl], fun i c v e1 e2 => by obtain ⟨c0, f1, f2⟩ := h2 i c e1; exact ha i c0 v f1 e2 f2⟩
 induction h with
 | bool b => intro v' h; cases h; exact .bool b
 | int k n => intro v' h; cases h; exact .int k n
 | str s => intro v' h; cases h; exact .str s
 | nptr => intro v' h; cases h; exact .nptr
 | nslc => intro v' h; cases h; exact .nslc
 | nmap => intro v' h; cases h; exact .nmap
 | nfn => intro v' h; cases h; exact .nfn
 | nifc => intro v' h; cases h; exact .nifc
 | ptr hb hp h ht =>
  intro v' hr
  simp only [renT, Option.map_eq_some_iff] at hr
  obtain ⟨b', e, rfl⟩ := hr
  exact .ptr (by rw [hg _ _ e]; exact hb) hp h ht
 | slc hb hp h hl hc hx ha hk =>
  intro v' hr
  simp only [renT, Option.map_eq_some_iff] at hr
  obtain ⟨b', e, rfl⟩ := hr
  exact .slc (by rw [hg _ _ e]; exact hb) hp h hl hc hx ha hk
 | map h =>
  intro v' hr
  simp only [renT, Option.map_eq_some_iff] at hr
  obtain ⟨b', e, rfl⟩ := hr
  exact .map (by rw [hg _ _ e]; exact h)
 | yld h => intro v' hr; simp [renT] at hr
 | fn h1 h2 h3 h4 i2 i4 =>
  intro v' hr
  simp only [renT] at hr
  split at hr
  ·rename_i a c e1 e2
   cases hr
   obtain ⟨p1, p2⟩ := lst h1 i2 e1
   obtain ⟨q1, q2⟩ := lst h3 i4 e2
   exact .fn p1 p2 q1 q2
  ·cases hr
 | agg h1 h2 i2 =>
  intro v' hr
  simp only [renT, Option.map_eq_some_iff] at hr
  obtain ⟨a, e, rfl⟩ := hr
  obtain ⟨p1, p2⟩ := lst h1 i2 e
  exact .agg p1 p2
 | tup h1 h2 i2 =>
  intro v' hr
  simp only [renT, Option.map_eq_some_iff] at hr
  obtain ⟨a, e, rfl⟩ := hr
  obtain ⟨p1, p2⟩ := lst h1 i2 e
  exact .tup p1 p2
def renEs (g : Nat → Option Nat) : List (TV × TV) → Option (List (TV × TV))
 | [] => some []
 | (k, v) :: r => match renT g k, renT g v, renEs g r with
  | some k, some v, some r => some ((k, v) :: r)
  | _, _, _ => none
theorem renEs_at : ∀ {az as' : List (TV × TV)}, renEs g az = some as' → az.length = as'.length ∧ ∀ (i : Nat) c', as'[i]? = some c' → ∃ c, az[i]? = some c ∧ renT g c.1 = some c'.1 ∧ renT g c.2 = some c'.2
 | [], as', h => by cases h; exact ⟨rfl, fun i c h => by simp at h⟩
 | (k, v) :: az, as', h => by
  simp only [renEs] at h
  split at h
  ·rename_i k' v' vs e0 e1 e2
   cases h
   obtain ⟨h1, h2⟩ := renEs_at e2
   refine ⟨by simp [h1], fun i c' hi => ?_⟩
   cases i with
   | zero => simp at hi; subst hi; exact ⟨(k, v), rfl, e0, e1⟩
   | succ i => exact h2 i c' (by simpa using hi)
  ·cases h
def renHB (g : Nat → Option Nat) : HB → Option HB
 | .cells k cs => (renT.renTs g cs).map (.cells k)
 | .map es => (renEs g es).map .map
 | .mark => some .mark
 | .loop .. => none
theorem ren_oneT {v v' : TV} (h : renT g v = some v') : oneT v' = oneT v := by
 cases v <;> simp only [renT, Option.map_eq_some_iff, Option.some.injEq] at h
 all_goals first
  | (obtain ⟨b, _, rfl⟩ := h; rfl)
  | (subst h; rfl)
  | (split at h <;> cases h; rfl)
  | cases h
theorem renHB_ok (hg : ∀ b b', g b = some b' → N' b' = N b) {w : World} {b b' : HB} {l : Lc} (h : okBlk N w b l) (hr : renHB g b = some b') : okBlk N' w b' l := by
 cases b with
 | cells k cs =>
  cases l with
  | obj r => exact h.elim
  | cells ls =>
   simp only [renHB, Option.map_eq_some_iff] at hr
   obtain ⟨cs', e, rfl⟩ := hr
   obtain ⟨h1, h2⟩ := renTs_at e
   refine ⟨fun c hc => ?_, fun p hp => ?_, fun hk => by rw [← h1]; exact h.2.2.1 hk, fun hk => by rw [← h1]; exact h.2.2.2 hk⟩
   ·obtain ⟨i, hi⟩ := List.mem_iff_getElem?.1 hc
    obtain ⟨c0, f1, f2⟩ := h2 i c hi
    rw [ren_oneT f2]
    exact h.1 c0 (List.mem_of_getElem? f1)
   ·obtain ⟨⟨arr, ty, fz, a1, a2, a3, a4⟩, b1, b2, b3⟩ := h.2.1 p hp
    exact ⟨⟨arr, ty, fz, a1, a2, a3, fun hk i c v hi hc hv => by obtain ⟨c0, f1, f2⟩ := h2 i c hc; exact renT_ok hg (a4 (by rw [h1]; exact hk) i c0 v hi f1 hv) f2⟩, b1, by rw [← h1]; exact b2, b3⟩
 | map es =>
  cases l with
  | cells ls => exact h.elim
  | obj r =>
   simp only [renHB, Option.map_eq_some_iff] at hr
   obtain ⟨es', e, rfl⟩ := hr
   obtain ⟨h1, h2⟩ := renEs_at e
   obtain ⟨xs, ck, a1, a2, a3⟩ := h
   exact ⟨xs, ck, a1, by rw [← h1]; exact a2, fun i c x hc hx => by obtain ⟨c0, f1, f2, f3⟩ := h2 i c hc; exact ⟨renT_ok hg (a3 i c0 x f1 hx).1 f2, renT_ok hg (a3 i c0 x f1 hx).2 f3⟩⟩
 | mark => simp only [renHB, Option.some.injEq] at hr; subst hr; cases l <;> exact h
 | loop => simp [renHB] at hr
theorem ren_wr {b b' : HB} (h : renHB g b = some b') : wr b' = wr b := by
 cases b with
 | cells k cs => simp only [renHB, Option.map_eq_some_iff] at h; obtain ⟨_, _, rfl⟩ := h; cases k <;> rfl
 | map es => simp only [renHB, Option.map_eq_some_iff] at h; obtain ⟨_, _, rfl⟩ := h; rfl
 | mark => simp only [renHB, Option.some.injEq] at h; subst h; rfl
 | loop => simp [renHB] at h
end
def posF : List Nat → Nat → Option Nat
 | [], _ => none
 | a :: l, i => match Nat.beq a i with
  | true => some 0
  | false => (posF l i).map (· + 1)
theorem posF_at : ∀ {l : List Nat} {i p : Nat}, posF l i = some p → l[p]? = some i
 | [], i, p, h => by cases h
 | a :: l, i, p, h => by
  simp only [posF] at h
  split at h
  ·rename_i e; cases h; rw [Nat.eq_of_beq_eq_true e]; rfl
  ·simp only [Option.map_eq_some_iff] at h
   obtain ⟨q, e, rfl⟩ := h
   rw [List.getElem?_cons_succ]; exact posF_at e
def renG (fl : Nat) (keep : List Nat) (b : Nat) : Option Nat := match Nat.blt b fl with
 | true => some b
 | false => (posF keep b).map (· + fl)
def pickG (g : Nat → Option Nat) (h : List HB) : List Nat → Option (List HB)
 | [] => some []
 | b :: l => match h[b]? with
  | some x => match renHB g x, pickG g h l with
   | some y, some r => some (y :: r)
   | _, _ => none
  | none => none
theorem pickG_at {g : Nat → Option Nat} {h : List HB} : ∀ {l : List Nat} {bs : List HB}, pickG g h l = some bs → l.length = bs.length ∧ ∀ (i : Nat) y, bs[i]? = some y → ∃ c x, l[i]? = some c ∧ h[c]? = some x ∧ renHB g x = some y
 | [], bs, e => by cases e; exact ⟨rfl, fun i y h => by simp at h⟩
 | b :: l, bs, e => by
  simp only [pickG] at e
  split at e
  ·rename_i x hx
   split at e
   ·rename_i y r e1 e2
    cases e
    obtain ⟨h1, h2⟩ := pickG_at e2
    refine ⟨by simp [h1], fun i y' hi => ?_⟩
    cases i with
    | zero => simp at hi; subst hi; exact ⟨b, x, rfl, hx, e1⟩
    | succ i => exact h2 i y' (by simpa using hi)
   ·cases e
  ·cases e
theorem CallR.gc {M : Mp} {h h' bs : List HB} {w w' : World} {v v' : TV} {y : Value} {keep : List Nat} (hV : Valid M allK (ctH h) w) (hl : ∀ k, M (.l k) = none) (hR : CallR M h w v h' [] y w') (hn : keep.Nodup) (hk : ∀ b ∈ keep, h.length ≤ b) (hv : renT (renG h.length keep) v = some v') (hb : pickG (renG h.length keep) h' keep = some bs) : CallR M h w v' (h ++ bs) [] y w' := by
 obtain ⟨M', hV', hl', hX, hv'⟩ := hR
 have hdom : ∀ b l, M (.h b) = some l → b < h.length := fun b l hb => by
  have := hV.has hb
  simp only [ctH, St.get] at this
  rcases Nat.lt_or_ge b h.length with h1 | h1
  ·exact h1
  ·rw [List.getElem?_eq_none h1] at this; simp at this
 have hold : ∀ b, b < h.length → M' (.h b) = M (.h b) := fun b hb => hX.keepM (.h b) (.inl (by simp [ctH, St.get, hb])) (by simp)
 have hoc : ∀ b, b < h.length → ctH h' (.h b) = ctH h (.h b) := fun b hb => hX.keep (.h b) (by simp [ctH, St.get, hb]) (by simp)
 obtain ⟨p1, p2⟩ := pickG_at hb
 let κ : Nat → Option Nat := fun b => if b < h.length then some b else keep[b - h.length]?
 let M2 : Mp := fun k => match k with
  | .l _ => none
  | .h b => match κ b with
   | some c => M' (.h c)
   | none => none
 have hκ : ∀ b c, κ b = some c → M2 (.h b) = M' (.h c) := fun b c e => by show (match κ b with | some c => M' (.h c) | none => none) = _; rw [e]
 have hκn : ∀ b, κ b = none → M2 (.h b) = none := fun b e => by show (match κ b with | some c => M' (.h c) | none => none) = _; rw [e]
 have hM2 : ∀ b l, M2 (.h b) = some l → ∃ c, κ b = some c ∧ M' (.h c) = some l := fun b l e => by
  cases e2 : κ b with
  | none => rw [hκn b e2] at e; cases e
  | some c => rw [hκ b c e2] at e; exact ⟨c, rfl, e⟩
 have klt : ∀ b, b < h.length → κ b = some b := fun b hb => by simp only [κ, if_pos hb]
 have kge : ∀ b, ¬ b < h.length → κ b = keep[b - h.length]? := fun b hb => by simp only [κ, if_neg hb]
 have hg : ∀ b b', renG h.length keep b = some b' → M2.h b' = M'.h b := fun b b' e => by
  unfold renG at e
  split at e
  ·rename_i hlt
   have hlt : b < h.length := Nat.le_of_ble_eq_true hlt
   cases e
   exact hκ _ _ (klt b hlt)
  ·simp only [Option.map_eq_some_iff] at e
   obtain ⟨p, e1, rfl⟩ := e
   exact hκ _ _ (by rw [kge _ (by omega), Nat.add_sub_cancel]; exact posF_at e1)
 have hle : Mle M.h M2.h := fun b l e => ⟨l, by show M2 (.h b) = some l; rw [hκ b b (klt b (hdom b l e)), hold b (hdom b l e)]; exact e, .refl l⟩
 have hfr : ∀ c, c < w.heap.size → w'.heap[c]? = w.heap[c]? := fun c hc => hX.frame c hc (by simp)
 have hC : ∀ b, b < h.length → ctH (h ++ bs) (.h b) = ctH h (.h b) := fun b hb => by simp only [ctH, St.get]; rw [List.getElem?_append_left hb]
 have hC2 : ∀ b, ¬ b < h.length → ctH (h ++ bs) (.h b) = bs[b - h.length]? := fun b hb => by simp only [ctH, St.get]; rw [List.getElem?_append_right (by omega)]
 refine ⟨M2, ⟨fun k l hk2 _ => ?_, fun k k' l l' b hne h1 h2 _ hc hw => ?_, fun k l hk2 => ?_⟩, fun _ => rfl, ⟨fun k l e => ?_, fun c hc _ => hfr c hc, fun k hs _ => ?_, fun k hs _ => ?_, fun k l e c hc hs => ?_, hX.size, fun k hs => ?_, by simp, by simp, hX.os, hX.output, hX.tape⟩, renT_ok hg hv' hv⟩
 ·cases k with
  | l k => cases hk2
  | h b =>
   obtain ⟨c, e1, e2⟩ := hM2 b l hk2
   by_cases hb2 : b < h.length
   ·have := klt b hb2
    rw [this] at e1; cases e1
    rw [hold b hb2] at e2
    obtain ⟨x, f1, f2⟩ := hV.ok _ l e2 trivial
    exact ⟨x, by rw [hC b hb2]; exact f1, f2.mono hle fun c hc => hfr c (hV.inb _ l e2 c hc)⟩
   ·rw [kge b hb2] at e1
    have hlt : b - h.length < bs.length := by rw [← p1]; exact (List.getElem?_eq_some_iff.1 e1).1
    obtain ⟨c', x, f1, f2, f3⟩ := p2 _ _ (List.getElem?_eq_getElem hlt)
    rw [e1] at f1; cases f1
    obtain ⟨x', g1, g2⟩ := hV'.ok _ l e2 trivial
    have g1 : h'[c]? = some x' := g1
    rw [f2] at g1; cases g1
    exact ⟨_, by rw [hC2 b hb2]; exact List.getElem?_eq_getElem hlt, renHB_ok hg g2 f3⟩
 ·cases k with
  | l k => cases h1
  | h b1 =>
   cases k' with
   | l k => cases h2
   | h b2 =>
    obtain ⟨c1, e1, e2⟩ := hM2 b1 l h1
    obtain ⟨c2, e3, e4⟩ := hM2 b2 l' h2
    have hcc : c1 ≠ c2 := fun e => by
     subst e
     by_cases q1 : b1 < h.length <;> by_cases q2 : b2 < h.length
     ·rw [klt _ q1] at e1; rw [klt _ q2] at e3; cases e1; cases e3; exact hne rfl
     ·rw [klt _ q1] at e1; rw [kge _ q2] at e3; cases e1; have := hk _ (List.mem_of_getElem? e3); omega
     ·rw [kge _ q1] at e1; rw [klt _ q2] at e3; cases e3; have := hk _ (List.mem_of_getElem? e1); omega
     ·rw [kge _ q1] at e1; rw [kge _ q2] at e3
      have i1 := (List.getElem?_eq_some_iff.1 e1)
      have i2 := (List.getElem?_eq_some_iff.1 e3)
      have := (List.getElem_inj hn (h₀ := i1.1) (h₁ := i2.1)).1 (i1.2.trans i2.2.symm)
      exact hne (by rw [show b1 = b2 by omega])
    obtain ⟨x, g1, g2⟩ : ∃ x, ctH h' (.h c1) = some x ∧ wr x = true := by
     by_cases q1 : b1 < h.length
     ·rw [klt _ q1] at e1; cases e1
      exact ⟨b, by rw [hoc _ q1, ← hC _ q1]; exact hc, hw⟩
     ·rw [hC2 _ q1] at hc
      obtain ⟨c', x, f1, f2, f3⟩ := p2 _ _ hc
      rw [kge _ q1, f1] at e1; cases e1
      exact ⟨x, f2, by rw [← ren_wr f3]; exact hw⟩
    exact hV'.own (.h c1) (.h c2) l l' x (fun e => hcc (by cases e; rfl)) e2 e4 trivial g1 g2
 ·cases k with
  | l k => cases hk2
  | h b => obtain ⟨c, e1, e2⟩ := hM2 b l hk2; exact hV'.inb _ l e2
 ·cases k with
  | l k => rw [hl k] at e; cases e
  | h b => exact hle b l e
 ·cases k with
  | l k => simp [ctH, St.get] at hs
  | h b =>
   refine hC b ?_
   simp only [ctH, St.get] at hs
   rcases Nat.lt_or_ge b h.length with h1 | h1
   ·exact h1
   ·rw [List.getElem?_eq_none h1] at hs; simp at hs
 ·cases k with
  | l k => rw [hl k]
  | h b =>
   by_cases hb2 : b < h.length
   ·rw [hκ b b (klt b hb2), hold b hb2]
   ·have h1 : M (.h b) = none := by
     cases e : M (.h b) with
     | none => rfl
     | some l => exact absurd (hdom b l e) hb2
    rw [h1]
    refine hκn b ?_
    rw [kge b hb2]
    rcases hs with hs | hs
    ·simp only [ctH, St.get] at hs
     rw [List.getElem?_eq_none (by omega)] at hs
     simp at hs
    ·rw [hC2 b hb2] at hs
     rw [List.getElem?_eq_none_iff] at hs ⊢
     omega
 ·cases k with
  | l k => cases e
  | h b =>
   obtain ⟨c', e1, e2⟩ := hM2 b l e
   obtain ⟨l0, f1, f2⟩ := hX.fresh _ l e2 c hc hs
   have := hdom _ _ f1
   by_cases hb2 : b < h.length
   ·rw [klt b hb2] at e1; cases e1; exact ⟨l0, f1, f2⟩
   ·rw [kge b hb2] at e1
    have := hk _ (List.mem_of_getElem? e1)
    omega
 ·cases k with
  | l k => simp [ctH, St.get] at hs
  | h b =>
   simp only [ctH, St.get] at hs ⊢
   rcases Nat.lt_or_ge b h.length with h1 | h1
   ·simp [List.getElem?_append_left h1, h1]
   ·rw [List.getElem?_eq_none h1] at hs; simp at hs
def refT : TV → List Nat → List Nat
 | .ptr b _ _, l => b :: l
 | .slc b _ _ _ _ _, l => b :: l
 | .map b, l => b :: l
 | .fn _ a c, l => refTs a (refTs c l)
 | .agg cs, l => refTs cs l
 | .tup cs, l => refTs cs l
 | _, l => l
where
 refTs : List TV → List Nat → List Nat
 | [], l => l
 | c :: cs, l => refT c (refTs cs l)
def refH : Option HB → List Nat → List Nat
 | some (.cells _ cs), l => refT.refTs cs l
 | some (.map es), l => refEs es l
 | _, l => l
where
 refEs : List (TV × TV) → List Nat → List Nat
 | [], l => l
 | e :: es, l => refT e.1 (refT e.2 (refEs es l))
def memF (b : Nat) : List Nat → Bool
 | [] => false
 | a :: l => match Nat.beq a b with
  | true => true
  | false => memF b l
theorem memF_no : ∀ {l : List Nat} {b : Nat}, memF b l = false → b ∉ l
 | [], b, _ => by simp
 | a :: l, b, h => by
  simp only [memF] at h
  split at h
  ·cases h
  ·rename_i e
   rw [List.mem_cons]
   rintro (rfl | h2)
   ·rw [Nat.beq_refl] at e; cases e
   ·exact memF_no h h2
def reachF (h : List HB) (fl : Nat) : Nat → List Nat → List Nat → List Nat
 | 0, _, acc => acc
 | _ + 1, [], acc => acc
 | n + 1, b :: t, acc => match Nat.blt b fl || memF b acc with
  | true => reachF h fl n t acc
  | false => reachF h fl n (refH h[b]? t) (b :: acc)
theorem reachF_ok {h : List HB} {fl : Nat} : ∀ (n : Nat) (t acc : List Nat), acc.Nodup → (∀ b ∈ acc, fl ≤ b) → (reachF h fl n t acc).Nodup ∧ ∀ b ∈ reachF h fl n t acc, fl ≤ b
 | 0, _, _, h1, h2 => ⟨h1, h2⟩
 | _ + 1, [], _, h1, h2 => ⟨h1, h2⟩
 | n + 1, b :: t, acc, h1, h2 => by
  simp only [reachF]
  split
  ·exact reachF_ok n t acc h1 h2
  ·rename_i e
   simp only [Bool.or_eq_false_iff] at e
   have e1 : fl ≤ b := by
    rcases Nat.lt_or_ge b fl with h3 | h3
    ·rw [show Nat.blt b fl = true from Nat.ble_eq_true_of_le h3] at e; cases e.1
    ·exact h3
   exact reachF_ok n _ _ (List.nodup_cons.2 ⟨memF_no e.2, h1⟩) fun c hc => by
    rcases List.mem_cons.1 hc with rfl | hc
    ·exact e1
    ·exact h2 c hc
def gcR (h : List HB) : Option (TV × List HB × List Nat) → Option (TV × List HB × List Nat)
 | some (v, h', []) => match reachF h' h.length 5000 (refT v []) [] with
  | keep => match renT (renG h.length keep) v, pickG (renG h.length keep) h' keep with
   | some v', some [] => some (v', h, [])
   | some v', some bs => some (v', h ++ bs, [])
   | _, _ => some (v, h', [])
 | r => r
theorem gcR_ok {P : Program} {M : Mp} {h h2 : List HB} {w : World} {v2 : TV} {ws2 : List Nat} {r : Option (TV × List HB × List Nat)} (hV : Valid M allK (ctH h) w) (hl : ∀ k, M (.l k) = none) (hr : gcR h r = some (v2, h2, ws2)) : ∃ v h' ws, r = some (v, h', ws) ∧ ∀ y w', CallR M h w v h' ws y w' → CallR M h w v2 h2 ws2 y w' := by
 unfold gcR at hr
 split at hr
 ·rename_i v h'
  refine ⟨v, h', [], rfl, fun y w' hR => ?_⟩
  simp only at hr
  obtain ⟨k1, k2⟩ := reachF_ok (h := h') (fl := h.length) 5000 (refT v []) [] .nil (by simp)
  split at hr
  ·rename_i v' e1 e2
   cases hr
   have := hR.gc hV hl k1 k2 e1 e2
   rw [List.append_nil] at this
   exact this
  ·rename_i v' bs _ e1 e2
   cases hr
   exact hR.gc hV hl k1 k2 e1 e2
  ·cases hr; exact hR
 ·exact ⟨v2, h2, ws2, hr, fun _ _ h => h⟩
end Tw
namespace Tw
open Go
noncomputable section
def lookF (t : Nat) (env : List (Nat × EV)) : Option EV := List.rec (motive := fun _ => Option EV) none (fun p _ ih => Bool.rec (motive := fun _ => Option EV) ih (some p.2) (Nat.beq p.1 t)) env
theorem lookF_eq (t : Nat) : ∀ env, lookF t env = lookE t env
 | [] => rfl
 | (k, v) :: r => by
  show Bool.rec (motive := fun _ => Option EV) (lookF t r) (some v) (Nat.beq k t) = if k = t then some v else lookE t r
  rw [lookF_eq t r]
  by_cases h : k = t
  ·subst h; rw [if_pos rfl, show Nat.beq k k = true from Nat.beq_refl k]
  ·rw [if_neg h, show Nat.beq k t = false from by cases e : Nat.beq k t with | false => rfl | true => exact absurd (Nat.eq_of_beq_eq_true e) h]
def pickF (live : List Nat) (env : List (Nat × EV)) : List (Nat × EV) := List.rec (motive := fun _ => List (Nat × EV)) [] (fun t _ ih => Option.rec (motive := fun _ => List (Nat × EV)) ih (fun v => (t, v) :: ih) (lookF t env)) live
theorem pickF_eq (env : List (Nat × EV)) : ∀ live, pickF live env = pick live env
 | [] => rfl
 | t :: r => by
  show Option.rec (motive := fun _ => List (Nat × EV)) (pickF r env) (fun v => (t, v) :: pickF r env) (lookF t env) = _
  rw [lookF_eq, pickF_eq env r]
  rw [show pick (t :: r) env = match lookE t env with | some v => (t, v) :: pick r env | none => pick r env from rfl]
  cases lookE t env <;> rfl
def evF (env : List (Nat × EV)) (x : Operand) : Option EV := match x with
 | .tmp t => lookF t env
 | .const v => (TV.ofV v).map .val
 | .func f => some (.val (.fn f [] []))
 | .global _ => none
theorem evF_eq : evF = evO := by funext env x; cases x <;> first | exact lookF_eq _ _ | rfl
def tvF (env : List (Nat × EV)) (x : Operand) : Option TV :=
 match evF env x with
 | some (.val v) => some v
 | _ => none
theorem tvF_eq : tvF = tvO := by funext env x; unfold tvF tvO; rw [evF_eq]; rfl
def tvFs (env : List (Nat × EV)) : List Operand → Option (List TV)
 | [] => some []
 | x :: xs => match tvF env x, tvFs env xs with
  | some v, some vs => some (v :: vs)
  | _, _ => none
theorem tvFs_eq (env : List (Nat × EV)) : ∀ xs, tvFs env xs = tvOs env xs
 | [] => rfl
 | x :: xs => by unfold tvFs tvOs; rw [tvF_eq, tvFs_eq env xs]; rfl
def tvPF (env : List (Nat × EV)) : List (Nat × Operand) → Option (List (Nat × TV))
 | [] => some []
 | (i, x) :: xs => match tvF env x, tvPF env xs with
  | some v, some vs => some ((i, v) :: vs)
  | _, _ => none
theorem tvPF_eq (env : List (Nat × EV)) : ∀ xs, tvPF env xs = tvPs env xs
 | [] => rfl
 | (i, x) :: xs => by unfold tvPF tvPs; rw [tvF_eq, tvPF_eq env xs]; rfl
def wantF (ops : Array Oper) (env : List (Nat × EV)) (o : Oper) : Option Bool :=
 match o.guard with
 | none => some true
 | some (j, want) => match (ops[j]?).bind (·.dst) with
  | some d => match lookF d env with
   | some (.val (.bool b)) => some (b == want)
   | some .undef => some false
   | _ => none
  | none => none
theorem wantF_eq (ops : Array Oper) (env : List (Nat × EV)) (o : Oper) : wantF ops env o = wantT ops env o := by
 unfold wantF wantT
 simp only [lookF_eq]
 rfl
def atHeadF (live : List Nat) (s : St) : St :=
 let env := pickF live s.env
 { s with env := env, loc := s.loc.take (topL env) }
theorem atHeadF_eq : atHeadF = atHead := by
 funext live s
 simp only [atHeadF, atHead, pickF_eq]
def optF (env : List (Nat × EV)) : Option Operand → Option (Option TV)
 | none => some none
 | some x => match tvF env x with
  | some v => some (some v)
  | none => none
theorem optF_eq (env : List (Nat × EV)) (x : Option Operand) : optF env x = optT env x := by cases x <;> simp only [optF, optT, tvF_eq] <;> rfl
section
variable (P : Program) (call : CallT) (site : Nat → Bool) (s : St)
abbrev RO1 := Option (EV × St × Inf)
def fMove (x : Operand) : RO1 := (evF s.env x).map fun v => (v, s, noInf)
def fPick (c a b : Operand) : RO1 := match tvF s.env c with
  | some (.bool t) => (evF s.env (if t then a else b)).map fun v => (v, s, noInf)
  | _ => none
def fAlloc (d : Nat) (e : TypeId) : RO1 := (zeroT P e).map fun z => let (v, s) := newBox (site d) s z; (v, s, noInf)
def fBox (d : Nat) (x : Operand) : RO1 := match tvF s.env x with
  | some v => if v.cells.all oneT then let (v, s) := newBox (site d) s v.cells; some (v, s, noInf) else none
  | none => none
def fBuild (t : TypeId) (ps : Array (Nat × Operand)) : RO1 := match tvPF s.env ps.toList with
  | some ps => (buildT P t ps).map fun v => (.val v, s, noInf)
  | none => none
def fBuildSlice (t : TypeId) (len : Nat) (ps : Array (Nat × Operand)) : RO1 := match tvPF s.env ps.toList with
  | some ps => (buildSliceT P t len s ps).map fun (v, s) => (.val v, s, noInf)
  | none => none
def fLoad (t : TypeId) (a : Operand) : RO1 := match evF s.env a with
  | some a => (loadT P t s a).map fun (v, i) => (.val v, s, i)
  | none => none
def fStore (t : TypeId) (a x : Operand) : RO1 := match evF s.env a, tvF s.env x with
  | some a, some v => (storeT P t s a v).map fun (s, i) => (.undef, s, i)
  | _, _ => none
def fNil (x : Operand) : RO1 := match evF s.env x with
  | some (.loc k o) => some (.loc k o, s, noInf)
  | some (.val (.ptr b o lim)) => some (.val (.ptr b o lim), s, noInf)
  | some (.val (.fn f a b)) => some (.val (.fn f a b), s, noInf)
  | some (.val (.yld l)) => some (.val (.yld l), s, noInf)
  | _ => none
def fBin (op : BinOp) (t : TypeId) (x y : Operand) : RO1 := match tvF s.env x, tvF s.env y with
  | some a, some b => (binT P op t x y a b).map fun v => (.val v, s, noInf)
  | _, _ => none
def fUn (op : UnOp) (x : Operand) : RO1 := match tvF s.env x with
  | some a => (unT P op a).map fun v => (.val v, s, noInf)
  | none => none
def fConv (src dst : TypeId) (x : Operand) : RO1 := match tvF s.env x with
  | some a => (convT P src dst a).map fun v => (.val v, s, noInf)
  | none => none
def fMakeFunc (f : FuncId) (first cap : Array Operand) : RO1 := match tvFs s.env first.toList, tvFs s.env cap.toList with
  | some a, some b => some (.val (.fn f a b), s, noInf)
  | _, _ => none
def fMakeMap (t : TypeId) (r : Option Operand) : RO1 := match optF s.env r, P.underlying t with
  | some none, _ => some (.val (.map s.heap.length), { s with heap := s.heap ++ [.map []] }, noInf)
  | some (some (.int _ _)), some (.map _ _) => some (.val (.map s.heap.length), { s with heap := s.heap ++ [.map []] }, noInf)
  | _, _ => none
def fMakeSlice (t : TypeId) (l c : Operand) : RO1 := match tvF s.env l, tvF s.env c with
  | some l, some c => (makeSliceT P t s l c).map fun (v, s) => (.val v, s, noInf)
  | _, _ => none
def fSlice (t : TypeId) (x : Operand) (lo hi mx : Option Operand) : RO1 := match evF s.env x, optF s.env lo, optF s.env hi, optF s.env mx with
  | some x, some lo, some hi, some mx => match P.underlying t, x with
   | some (.array _ _), x => (sliceArrT P t x lo hi mx).map fun v => (.val v, s, noInf)
   | _, .val x => (sliceT P t x lo hi mx).map fun v => (.val v, s, noInf)
   | _, _ => none
  | _, _, _, _ => none
def fFieldAddr (t : TypeId) (x : Operand) (f : Nat) : RO1 := match evF s.env x, fieldOff P t f with
  | some a, some n => (offT n a).map fun v => (v, s, noInf)
  | _, _ => none
def fField (t : TypeId) (x : Operand) (f : Nat) : RO1 := match tvF s.env x with
  | some a => (fieldT P t a f).map fun v => (.val v, s, noInf)
  | none => none
def fIndexAddr (t : TypeId) (x i : Operand) : RO1 := match evF s.env x, tvF s.env i with
  | some a, some i => (indexAddrT P t a i).map fun v => (v, s, noInf)
  | _, _ => none
def fIndex (t : TypeId) (x i : Operand) : RO1 := match tvF s.env x, tvF s.env i with
  | some a, some i => (indexT P t a i).map fun v => (.val v, s, noInf)
  | _, _ => none
def fLookup (t : TypeId) (m k : Operand) (ok : Bool) : RO1 := match tvF s.env m, tvF s.env k with
  | some m, some k => (lookupT P t s.heap m k ok).map fun v => (.val v, s, rdKs (match m with | .map r => [.h r] | _ => []))
  | _, _ => none
def fUpd (t : TypeId) (m k x : Operand) : RO1 := match tvF s.env m, tvF s.env k, tvF s.env x with
  | some m, some k, some v => (updateT P t s m k v).map fun (s, i) => (.undef, s, i)
  | _, _, _ => none
def fExtract (t : Operand) (i : Nat) : RO1 := match tvF s.env t with
  | some (.tup vs) => (vs[i]?).map fun v => (.val v, s, noInf)
  | _ => none
def fCall (c : Call) (t : TypeId) : RO1 :=
 match c.callee, tvFs s.env c.args.toList with
 | .builtin b, some az => (builtinT P b c.argTypes t s az).map fun (v, s, i) => (.val v, s, i)
 | .value f, some az => match tvF s.env f with
  | some fv => match call fv az s.heap with
   | some (v, h, ws) => some (.val v, { s with heap := h }, ⟨true, [], ws.map .h⟩)
   | none => none
  | none => none
 | _, _ => none
def opF (o : Oper) : RO1 :=
 match o.op with
 | .move x | .assign x => fMove s x
 | .pick c a b => fPick s c a b
 | .alloc e => fAlloc P site s (o.dst.getD 0) e
 | .box _ x => fBox site s (o.dst.getD 0) x
 | .build t ps => fBuild P s t ps
 | .buildSlice t len ps => fBuildSlice P s t len ps
 | .load t a => fLoad P s t a
 | .store t a x => fStore P s t a x
 | .nilCheck x => fNil s x
 | .binOp op t x y _ => fBin P s op t x y
 | .unOp op _ x => fUn P s op x
 | .convert src dst x => fConv P s src dst x
 | .makeFunc (.func f) first cap => fMakeFunc s f first cap
 | .makeMap t r => fMakeMap P s t r
 | .makeSlice t l c => fMakeSlice P s t l c
 | .slice t x lo hi mx => fSlice P s t x lo hi mx
 | .fieldAddr t x f => fFieldAddr P s t x f
 | .field t x f => fField P s t x f
 | .indexAddr t x i => fIndexAddr P s t x i
 | .index t x i => fIndex P s t x i
 | .lookup t m k ok => fLookup P s t m k ok
 | .mapUpdate t m k x | .insert t m k x => fUpd P s t m k x
 | .extract t i => fExtract s t i
 | .call c => fCall P call s c o.type
 | _ => none
theorem opF_eq (o : Oper) : opF P call site s o = opT P call site s o := by
 unfold opF opT
 cases o.op <;> simp only [fMove, fPick, fAlloc, fBox, fBuild, fBuildSlice, fLoad, fStore, fNil, fBin, fUn, fConv, fMakeMap, fMakeSlice, fSlice, fFieldAddr, fField, fIndexAddr, fIndex, fLookup, fUpd, fExtract, fCall, callT, evF_eq, tvF_eq, tvFs_eq, tvPF_eq, optF_eq] <;> try rfl
 case makeFunc f first cap => cases f <;> simp only [fMakeFunc, tvFs_eq] <;> rfl
def tbF (A k : Nat) : Bool := Nat.beq (Nat.mod (Nat.shiftRight A k) 2) 1
theorem tbF_eq (A k : Nat) : tbF A k = A.testBit k := by
 unfold tbF
 rw [Nat.testBit_eq_decide_div_mod_eq, show Nat.mod (Nat.shiftRight A k) 2 = A / 2 ^ k % 2 from by show (A >>> k) % 2 = _; rw [Nat.shiftRight_eq_div_pow]]
 rw [Bool.eq_iff_iff]
 simp [Nat.beq_eq]
def mskE (W A on l : Nat) : Nat := Nat.lor l (Nat.lor (Nat.shiftLeft 1 on) (Nat.mod (Nat.shiftRight A (on * W)) (2 ^ W)))
def mskL (W A : Nat) : List Edge → Nat → Nat
 | [], l => l
 | e :: es, l => match Region.binds .any e with
  | true => mskL W A es (mskE W A e.on l)
  | false => mskL W A es l
def mskS (W : Nat) : List Oper → Nat → Nat → Nat
 | [], _, A => A
 | o :: os, j, A => mskS W os (j + 1) (Nat.lor A (Nat.shiftLeft (Nat.mod (mskL W A o.after.toList 0) (2 ^ W)) (j * W)))
theorem addNew_mem {x : Nat} : ∀ {xs l : List Nat}, (addNew xs l).contains x = (xs.contains x || l.contains x)
 | [], l => by simp [addNew]
 | y :: xs, l => by
  simp only [addNew]
  rw [addNew_mem]
  split
  ·rename_i h
   by_cases e : x = y
   ·subst e; rw [h]; simp
   ·simp [e]
  ·by_cases e : x = y
   ·subst e; simp
   ·simp [e]
def Acc (W A : Nat) (acc : List (List Nat)) : Prop := ∀ j i, i < W → A.testBit (j * W + i) = (acc.getD j []).contains i
theorem mskL_ok {W A : Nat} {acc : List (List Nat)} (h : Acc W A acc) : ∀ (es : List Edge) (l : Nat) (ps : List Nat), (∀ i, i < W → l.testBit i = ps.contains i) → ∀ i, i < W → (mskL W A es l).testBit i = (es.foldl (fun l e => if Region.binds .any e then addNew (e.on :: acc.getD e.on []) l else l) ps).contains i
 | [], l, ps, hl, i, hi => hl i hi
 | e :: es, l, ps, hl, i, hi => by
  simp only [mskL, List.foldl_cons]
  split
  ·rename_i hb
   rw [if_pos hb]
   refine mskL_ok h es _ _ (fun k hk => ?_) i hi
   rw [addNew_mem, ← hl k hk, List.contains_cons, ← h e.on k hk]
   show (l ||| (1 <<< e.on ||| (A >>> (e.on * W)) % 2 ^ W)).testBit k = _
   rw [Nat.testBit_or, Nat.testBit_or, Nat.testBit_shiftLeft, Nat.testBit_mod_two_pow, Nat.testBit_shiftRight, Bool.or_comm]
   simp only [hk, decide_true, Bool.true_and]
   congr 2
   by_cases e1 : k = e.on
   ·subst e1; simp
   ·rw [show (k == e.on) = false from by simpa using e1]
    by_cases h2 : k ≥ e.on
    ·obtain ⟨d, hd⟩ : ∃ d, k - e.on = d + 1 := ⟨k - e.on - 1, by omega⟩
     rw [hd, Nat.testBit_succ]
     simp
    ·simp [h2]
  ·rename_i hb
   rw [if_neg (by rw [hb]; simp)]
   exact mskL_ok h es _ _ hl i hi
theorem mskS_ok {W : Nat} : ∀ (os : List Oper) (j A : Nat) (acc : List (List Nat)), acc.length = j → Acc W A acc → Acc W (mskS W os j A) (preds os acc)
 | [], _, _, _, _, h => h
 | o :: os, j, A, acc, hj, h => by
  simp only [mskS, preds]
  refine mskS_ok os (j + 1) _ _ (by simp [hj]) fun j' i hi => ?_
  have hm := mskL_ok h o.after.toList 0 [] (fun i _ => by simp)
  show (A ||| ((mskL W A o.after.toList 0 % 2 ^ W) <<< (j * W))).testBit (j' * W + i) = _
  rw [Nat.testBit_or, h j' i hi, Nat.testBit_shiftLeft, Nat.testBit_mod_two_pow]
  rcases Nat.lt_trichotomy j' j with h1 | h1 | h1
  ·have : (j' + 1) * W ≤ j * W := Nat.mul_le_mul_right W h1
   rw [Nat.add_mul] at this
   rw [show decide (j' * W + i ≥ j * W) = false from by simp; omega]
   simp only [Bool.false_and, Bool.or_false]
   rw [List.getD, List.getD, List.getElem?_append_left (by omega)]
  ·subst h1
   rw [show j' * W + i - j' * W = i by omega, hm i hi]
   have e1 : acc.getD j' [] = [] := by rw [List.getD, List.getElem?_eq_none (by omega)]; rfl
   have e2 : (acc ++ [predOf acc o]).getD j' [] = predOf acc o := by rw [List.getD, ← hj, List.getElem?_concat_length]; rfl
   rw [e1, e2]
   simp [hi, predOf]
  ·have : (j + 1) * W ≤ j' * W := Nat.mul_le_mul_right W h1
   rw [Nat.add_mul] at this
   rw [show decide (j' * W + i - j * W < W) = false from by simp; omega]
   have e1 : acc.getD j' [] = [] := by rw [List.getD, List.getElem?_eq_none (by omega)]; rfl
   have e2 : (acc ++ [predOf acc o]).getD j' [] = [] := by rw [List.getD, List.getElem?_eq_none (by simp; omega)]; rfl
   rw [e1, e2]
   simp
def openF (ops : List Oper) : List (Nat × Nat) := match ops.length with
 | W => match mskS W ops 0 0 with
  | A => (List.range W).flatMap fun j => ((List.range j).filter fun i => !(tbF A (j * W + i))).map fun i => (i, j)
theorem openF_eq (ops : List Oper) : openF ops = openPairs ops := by
 have h := mskS_ok (W := ops.length) ops 0 0 [] rfl (fun j i _ => by simp)
 unfold openF openPairs
 simp only
 generalize mskS ops.length ops 0 0 = A at h
 have : ∀ j, j ∈ List.range ops.length → (((List.range j).filter fun i => !(tbF A (j * ops.length + i))).map fun i => (i, j)) = ((List.range j).filter fun i => !((preds ops []).getD j []).contains i).map fun i => (i, j) := fun j hj => by
  rw [List.mem_range] at hj
  congr 1
  refine List.filter_congr fun i hi => ?_
  rw [List.mem_range] at hi
  rw [tbF_eq, h j i (by omega)]
 rw [List.flatMap_def, List.flatMap_def, List.map_congr_left this]
def staticF (ops : List Oper) : Bool :=
 (ops.zipIdx.all fun (o, i) => o.after.all fun e => !Region.binds .any e || decide (e.on < i)) &&
 (openF ops).all fun (i, j) => match ops[i]?, ops[j]? with
  | some a, some b => a.apart ops.toArray b && b.apart ops.toArray a
  | _, _ => false
def hotF (ops : List Oper) : List (Nat × Nat) :=
 (openF ops).filter fun (i, j) => match ops[i]?, ops[j]? with
  | some a, some b => (mayW a.op && mayT b.op) || (mayT a.op && mayW b.op)
  | _, _ => false
theorem staticF_eq (ops : List Oper) : staticF ops = staticOk ops := by unfold staticF staticOk; rw [openF_eq]; rfl
theorem hotF_eq (ops : List Oper) : hotF ops = hotPairs ops := by unfold hotF hotPairs; rw [openF_eq]; rfl
abbrev Rx := Option (Ex × St)
def putF (dst : Option Nat) (v : EV) (env : List (Nat × EV)) (loc : List (List TV)) (heap : List HB) (ws : List Nat) : St := Option.rec (motive := fun _ => St) ⟨env, loc, heap, ws⟩ (fun d => ⟨(d, v) :: env, loc, heap, ws⟩) dst
abbrev KR := St → List Inf → Rx
abbrev IR := St → KR → Rx
def kCons (k : KR) (i : Inf) : KR := fun s is => k s (i :: is)
def rPut (fl : Nat) (ih : IR) (o : Oper) (s : St) (k : KR) (v : EV) (i : Inf) (s1 : St) : Rx := St.rec (motive := fun _ => Rx) (fun e l h _ => ih (putF o.dst v e l h (addKs fl i.ws s.ws)) (kCons k i)) s1
def rDo (P : Program) (call : CallT) (site : Nat → Bool) (fl : Nat) (ih : IR) (o : Oper) (s : St) (k : KR) : Rx := Option.rec (motive := fun _ => Rx) none (fun r => Prod.rec (motive := fun _ => Rx) (fun v p => Prod.rec (motive := fun _ => Rx) (fun s1 i => rPut fl ih o s k v i s1) p) r) (opF P call site s o)
def rNo (ih : IR) (o : Oper) (s : St) (k : KR) : Rx := ih (putF o.dst .undef s.env s.loc s.heap s.ws) (kCons k noInf)
def rGo (P : Program) (call : CallT) (site : Nat → Bool) (fl : Nat) (ops : Array Oper) (ih : IR) (o : Oper) (s : St) (k : KR) : Rx := Option.rec (motive := fun _ => Rx) none (fun b => Bool.rec (motive := fun _ => Rx) (rNo ih o s k) (rDo P call site fl ih o s k) b) (wantF ops s.env o)
def dstF (nt : Nat) (o : Oper) : Bool := Option.rec (motive := fun _ => Bool) true (fun d => Nat.ble (d + 1) nt) o.dst
theorem dstF_eq (nt : Nat) (o : Oper) : dstF nt o = dstOk nt o := by
 unfold dstF dstOk
 cases o.dst with
 | none => rfl
 | some d =>
  show Nat.ble (d + 1) nt = decide (d < nt)
  rw [Bool.eq_iff_iff]
  simp [Nat.lt_iff_add_one_le]
def rOne (P : Program) (call : CallT) (site : Nat → Bool) (fl nt : Nat) (ops : Array Oper) (o : Oper) (ih : IR) (s : St) (k : KR) : Rx := Bool.rec (motive := fun _ => Rx) none (rGo P call site fl ops ih o s k) (dstF nt o)
def rK (P : Program) (call : CallT) (site : Nat → Bool) (fl nt : Nat) (ops : Array Oper) (os : List Oper) : IR := List.rec (motive := fun _ => IR) (fun s k => k s []) (fun o _ ih => rOne P call site fl nt ops o ih) os
def andR (r : Option (St × List Inf)) (k : KR) : Rx := match r with
 | some (s, is) => k s is
 | none => none
theorem rK_eq (P : Program) (call : CallT) (site : Nat → Bool) (fl nt : Nat) (ops : Array Oper) : ∀ os s k, rK P call site fl nt ops os s k = andR (runOps P call site fl nt ops os s) k
 | [], _, _ => rfl
 | o :: os, s, k => by
  have ih := rK_eq P call site fl nt ops os
  show Bool.rec (motive := fun _ => Rx) none (Option.rec (motive := fun _ => Rx) none (fun b => Bool.rec (motive := fun _ => Rx) (rK P call site fl nt ops os (putF o.dst .undef s.env s.loc s.heap s.ws) (kCons k noInf)) (Option.rec (motive := fun _ => Rx) none (fun r => Prod.rec (motive := fun _ => Rx) (fun v p => Prod.rec (motive := fun _ => Rx) (fun s1 i => St.rec (motive := fun _ => Rx) (fun e l h _ => rK P call site fl nt ops os (putF o.dst v e l h (addKs fl i.ws s.ws)) (kCons k i)) s1) p) r) (opF P call site s o)) b) (wantF ops s.env o)) (dstF nt o) = _
  rw [dstF_eq, wantF_eq, opF_eq]
  unfold runOps
  cases dstOk nt o with
  | false => rfl
  | true =>
   cases wantT ops s.env o with
   | none => rfl
   | some b =>
    cases b with
    | false =>
     show rK _ _ _ _ _ _ _ _ _ = andR (match runOps P call site fl nt ops os (s.put o.dst .undef) with | some (s, is) => some (s, noInf :: is) | none => none) k
     rw [ih, show putF o.dst .undef s.env s.loc s.heap s.ws = s.put o.dst .undef by unfold putF St.put; cases o.dst <;> rfl]
     cases runOps P call site fl nt ops os (s.put o.dst .undef) <;> rfl
    | true =>
     cases opT P call site s o with
     | none => rfl
     | some r =>
      obtain ⟨v, s1, i⟩ := r
      show rK _ _ _ _ _ _ _ _ _ = andR (match runOps P call site fl nt ops os ({ s1 with ws := addKs fl i.ws s.ws }.put o.dst v) with | some (s, is) => some (s, i :: is) | none => none) k
      rw [ih, show putF o.dst v s1.env s1.loc s1.heap (addKs fl i.ws s.ws) = { s1 with ws := addKs fl i.ws s.ws }.put o.dst v by unfold putF St.put; cases o.dst <;> rfl]
      cases runOps P call site fl nt ops os ({ s1 with ws := addKs fl i.ws s.ws }.put o.dst v) <;> rfl
abbrev KX := Ex → St → Rx
abbrev IX := St → KX → Rx
def andX (r : Rx) (k : KX) : Rx := match r with
 | some (e, s) => k e s
 | none => none
def xSeq (ib : IX) (k : KX) : KX := fun e s => Ex.rec (motive := fun _ => Rx) (ib s k) (fun i => k (.exit i) s) (k .ret s) e
def xBlk (id : Nat) (k : KX) : KX := fun e s => Ex.rec (motive := fun _ => Rx) (k .norm s) (fun i => Bool.rec (motive := fun _ => Rx) (k (.exit i) s) (k .norm s) (Nat.beq i id)) (k .ret s) e
def xReg (T : Tab) (f id : Nat) (ops : Array Oper) (draw : Bool) (k : KX) : KR := fun s is => Bool.rec (motive := fun _ => Rx) none (k .norm ⟨pickF (T.liveAt f id) s.env, s.loc, s.heap, s.ws⟩) (!draw || (staticF ops.toList && dynOk is (hotF ops.toList)))
def xRegion (P : Program) (T : Tab) (call : CallT) (f : Nat) (rnd : Bool) (fl nt id : Nat) (ops : Array Oper) (draw : Bool) : IX := fun s k => rK P call (fun d => rnd || T.siteAt f d) fl nt ops ops.toList s (xReg T f id ops draw k)
def xCond (c : Operand) (ia ib : IX) : IX := fun s k => match tvF s.env c with
 | some (.bool b) => Bool.rec (motive := fun _ => Rx) (ib s k) (ia s k) b
 | _ => none
def xNext (ih : IX) (k : KX) : KX := fun e s => Ex.rec (motive := fun _ => Rx) (ih s k) (fun i => k (.exit i) s) (k .ret s) e
def xLoop (T : Tab) (L f : Nat) (b : Code) (ib : IX) : IX := Nat.rec (motive := fun _ => IX) (fun _ _ => none) (fun _ ih s k => ib (atHeadF (T.headAt f (headId b)) s) (xNext ih k)) L
def xRange (call : CallT) (f : Nat) (rnd : Bool) (fl nt : Nat) (g : Operand) (ps : Array Nat) (assign body : Code) : IX := fun s k => andX (match tvF s.env g with
  | some (.fn f1 a1 b1) =>
   if s.env.all isVal && !rnd then
    match call (.fn f1 a1 b1) [.yld (s.heap.length + 1)] (s.heap ++ [.mark, .loop true f nt s.env ps.toList assign body none]) with
    | some (_, h, ws) => match h[s.heap.length + 1]? with
     | some (.loop rd f2 nt2 e2 ps2 a2 b2 pend) => match jumpT rd pend with
      | some e => some (e, { s with heap := h.set (s.heap.length + 1) (.loop false f2 nt2 e2 ps2 a2 b2 (some .skip)), ws := addKs fl (ws.map .h) s.ws })
      | none => none
     | _ => none
    | none => none
   else none
  | _ => none) k
def xNone : IX := fun _ _ => none
def execK (P : Program) (T : Tab) (call : CallT) (L : Nat) (f : Nat) (rnd : Bool) (fl nt : Nat) : Code → IX
 | .skip => fun s k => k .norm s
 | .label _ => fun s k => k .norm s
 | .region id ops draw => xRegion P T call f rnd fl nt id ops draw
 | .seq a b => fun s k => execK P T call L f rnd fl nt a s (xSeq (execK P T call L f rnd fl nt b) k)
 | .cond c a b => xCond c (execK P T call L f rnd fl nt a) (execK P T call L f rnd fl nt b)
 | .block id b => fun s k => execK P T call L f rnd fl nt b s (xBlk id k)
 | .scope b => execK P T call L f rnd fl nt b
 | .loop b => xLoop T L f b (execK P T call L f rnd fl nt b)
 | .exit id => fun s k => k (.exit id) s
 | .ret => fun s k => k .ret s
 | .rangeFunc g ps assign body => xRange call f rnd fl nt g ps assign body
 | _ => xNone
theorem execK_eq (P : Program) (T : Tab) (call : CallT) (L : Nat) (f : Nat) (rnd : Bool) (fl nt : Nat) : ∀ c s k, execK P T call L f rnd fl nt c s k = andX (exec P T call L f rnd fl nt c s) k := by
 intro c
 induction c with
 | seq a b ia ib =>
  intro s k
  simp only [execK, exec, ia]
  cases exec P T call L f rnd fl nt a s with
  | none => rfl
  | some r =>
   obtain ⟨e, s1⟩ := r
   cases e with
   | norm => exact ib s1 k
   | exit i => rfl
   | ret => rfl
 | cond x a b ia ib =>
  intro s k
  simp only [execK, exec, xCond, tvF_eq]
  cases tvO s.env x with
  | none => rfl
  | some v =>
   cases v with
   | bool t =>
    cases t with
    | false => exact ib s k
    | true => exact ia s k
   | _ => rfl
 | block id b ib =>
  intro s k
  simp only [execK, exec, ib]
  cases exec P T call L f rnd fl nt b s with
  | none => rfl
  | some r =>
   obtain ⟨e, s1⟩ := r
   cases e with
   | norm => rfl
   | exit i =>
    show Bool.rec (motive := fun _ => Rx) (k (.exit i) s1) (k .norm s1) (Nat.beq i id) = k (if i = id then .norm else .exit i) s1
    by_cases h : i = id
    ·subst h; rw [if_pos rfl, show Nat.beq i i = true from Nat.beq_refl i]
    ·rw [if_neg h, show Nat.beq i id = false from by cases e : Nat.beq i id with | false => rfl | true => exact absurd (Nat.eq_of_beq_eq_true e) h]
   | ret => rfl
 | scope b ib => intro s k; simp only [execK, exec, ib]
 | loop b ib =>
  intro s k
  simp only [execK, exec]
  have key : ∀ n s, xLoop T n f b (execK P T call L f rnd fl nt b) s k = andX (iter (fun s => exec P T call L f rnd fl nt b (atHead (T.headAt f (headId b)) s)) n s) k := by
   intro n
   induction n with
   | zero => intro s; rfl
   | succ n ih =>
    intro s
    show execK P T call L f rnd fl nt b (atHeadF (T.headAt f (headId b)) s) (xNext (xLoop T n f b (execK P T call L f rnd fl nt b)) k) = _
    rw [ib, atHeadF_eq]
    simp only [iter]
    cases exec P T call L f rnd fl nt b (atHead (T.headAt f (headId b)) s) with
    | none => rfl
    | some r =>
     obtain ⟨e, s1⟩ := r
     cases e with
     | norm => exact ih s1
     | exit i => rfl
     | ret => rfl
  exact key L s
 | region id ops draw =>
  intro s k
  simp only [execK, exec, xRegion, rK_eq]
  cases runOps P call (fun d => rnd || T.siteAt f d) fl nt ops ops.toList s with
  | none => rfl
  | some r =>
   obtain ⟨s1, is⟩ := r
   show Bool.rec (motive := fun _ => Rx) none (k .norm ⟨pickF (T.liveAt f id) s1.env, s1.loc, s1.heap, s1.ws⟩) (!draw || (staticF ops.toList && dynOk is (hotF ops.toList))) = andX (if (!draw || (staticOk ops.toList && dynOk is (hotPairs ops.toList))) = true then some (.norm, { s1 with env := pick (T.liveAt f id) s1.env }) else none) k
   rw [pickF_eq, staticF_eq, hotF_eq]
   cases (!draw || (staticOk ops.toList && dynOk is (hotPairs ops.toList))) <;> rfl
 | rangeFunc g ps a b _ _ => intro s k; simp only [execK, exec, xRange, tvF_eq] <;> rfl
 | _ => intro s k; rfl
def execF (P : Program) (T : Tab) (call : CallT) (L : Nat) (f : Nat) (rnd : Bool) (fl nt : Nat) (c : Code) (s : St) : Rx := execK P T call L f rnd fl nt c s fun e s => some (e, s)
theorem execF_eq (P : Program) (T : Tab) (call : CallT) (L : Nat) (f : Nat) (rnd : Bool) (fl nt : Nat) (c : Code) (s : St) : execF P T call L f rnd fl nt c s = exec P T call L f rnd fl nt c s := by
 unfold execF
 rw [execK_eq]
 cases exec P T call L f rnd fl nt c s <;> rfl
def funF (P : Program) (T : Tab) (call : CallT) (L : Nat) (f : Nat) (args : List TV) (h : List HB) : Option (TV × List HB × List Nat) :=
 match fnT P f with
 | some t => match execF P T call L f false h.length t.nt t.body ⟨argEnv 0 args, [], h, []⟩ with
  | some (.norm, s) | some (.ret, s) => match resTs P s t.results with
   | some vs => if s.ws.isEmpty && (one vs).flat then some (one vs, h, []) else some (one vs, s.heap, s.ws)
   | none => none
  | _ => none
 | none => none
theorem funF_eq : funF = funT := by
 funext P T call L f args h
 simp only [funF, funT, execF_eq]
 rfl
def roundF (P : Program) (T : Tab) (call : CallT) (L : Nat) (l : Nat) (args : List TV) (h : List HB) : Option (TV × List HB × List Nat) :=
 match h[l]? with
 | some (.loop true f nt env ps assign body _) =>
  if args.length = ps.length ∧ ps.all (fun p => decide (p < nt)) then
   match execF P T call L f true h.length nt assign ⟨putAll env ps args, [], h, []⟩ with
   | some (.norm, s) => match s.heap[l]? with
    | some (.loop true f' nt' env' ps' a' b' _) =>
     match execF P T call L f true h.length nt body { s with heap := s.heap.set l (.loop false f' nt' env' ps' a' b' none), ws := addW h.length l s.ws } with
     | some (e, s) => match s.heap[l]? with
      | some (.loop false f' nt' env' ps' a' b' none) => some (.bool (isNorm e), s.heap.set l (.loop (isNorm e) f' nt' env' ps' a' b' (jumpOf e)), addW h.length l s.ws)
      | _ => none
     | none => none
    | _ => none
   | _ => none
  else none
 | _ => none
theorem roundF_eq : roundF = roundT := by
 funext P T call L l args h
 simp only [roundF, roundT, execF_eq]
 rfl
def apF (P : Program) (T : Tab) (L : Nat) : Nat → CallT
 | 0, _, _, _ => none
 | n + 1, .fn f first cap, args, h => if T.exts.contains f = true then T.ext (.fn f first cap) args h else gcR h (funF P T (apF P T L n) L f (first ++ args ++ cap) h)
 | n + 1, .yld l, args, h => roundF P T (apF P T L n) L l args h
 | _, _, _, _ => none
theorem ap_okF {P : Program} {T : Tab} {L : Nat} (hm : P.follows .mixedOrders = true) (hE : CallOk P T.ext) : ∀ n, CallOk P (apF P T L n)
 | 0 => by
  intro fv args h v h' ws hc
  simp [apF] at hc
 | n + 1 => by
  intro fv args h v h' ws hc M w x xs hV hl hx hxs
  have ih := ap_okF (L := L) hm hE n
  cases fv with
  | fn f first cap =>
   simp only [apF, funF_eq] at hc
   split at hc
   ·exact hE _ _ _ _ _ _ hc M w x xs hV hl hx hxs
   cases hx with
   | fn h1 h2 h3 h4 =>
    rename_i ys zs
    have hargs : VRs M.h (first ++ args ++ cap) (ys ++ xs ++ zs) := (VRs.append ⟨h1, h2⟩ hxs).append ⟨h3, h4⟩
    obtain ⟨v0, h0, ws0, hc, hgc⟩ := gcR_ok (P := P) hV hl hc
    obtain ⟨fn, c, e1, e2, e3, e4⟩ := fun_ok hm ih hc ⟨hV, hl⟩ hargs
    refine ⟨{ target := .fn (.func f) zs.toArray, args := ys.toArray ++ xs.toArray }, fun w => by simp [Deferred.ofValue], .inl ⟨⟨f, (ys ++ xs ++ zs).toArray, ?_, fun n => (e4 n).mono fun e w' hR => by cases e with | returned v => exact hgc _ _ hR | panicked c => exact hR.elim | outgrown => exact hR.elim⟩, f, first, cap, rfl⟩⟩
    have e2' : ¬ fn.name = "runtime.NumGoroutine" := by simpa using e2
    simp [invoke, callFunc, program, Sem.run, e1, e2', e3]
  | yld l =>
   simp only [apF, roundF_eq] at hc
   cases hx with
   | yld hm' =>
    rename_i l'
    refine ⟨{ target := .fn (.yield l') #[], args := xs.toArray }, fun w => by simp [Deferred.ofValue], .inr ⟨round_ok hm ih hc ⟨hV, hl⟩ hm' hxs, l, rfl⟩⟩
  | _ => simp [apF] at hc
def runH (P : Program) (T : Tab) (call : CallT) (L : Nat) (f nt : Nat) : Nat → Code → St → Option St
 | 0, _, s => some s
 | m + 1, .seq a b, s => match execF P T call L f false 0 nt a s with
  | some (.norm, s) => runH P T call L f nt m b s
  | _ => none
 | _, _, _ => none
def tlN : Nat → Code → Code
 | 0, c => c
 | m + 1, .seq _ b => tlN m b
 | _, c => c
theorem runH_ok {P : Program} {T : Tab} {call : CallT} {L f nt : Nat} {r : Option (Ex × St)} : ∀ {m : Nat} {c : Code} {s s1 : St}, runH P T call L f nt m c s = some s1 → execF P T call L f false 0 nt (tlN m c) s1 = r → execF P T call L f false 0 nt c s = r
 | 0, c, s, s1, h, h2 => by cases h; exact h2
 | m + 1, .seq a b, s, s1, h, h2 => by
  simp only [runH] at h
  split at h
  ·rename_i s2 e
   rw [execF_eq] at e h2 ⊢
   simp only [exec, e]
   rw [← execF_eq] at h2 ⊢
   exact runH_ok h h2
  ·cases h
 | _ + 1, .skip, _, _, h, _ | _ + 1, .region _ _ _, _, _, h, _ | _ + 1, .cond _ _ _, _, _, h, _ | _ + 1, .block _ _, _, _, h, _ | _ + 1, .loop _, _, _, h, _ | _ + 1, .exit _, _, _, h, _ | _ + 1, .ret, _, _, h, _ | _ + 1, .scope _, _, _, h, _ | _ + 1, .label _, _, _, h, _ | _ + 1, .rangeFunc _ _ _ _, _, _, h, _ => by simp [runH] at h
def bdF (P : Program) (f : Nat) : Code := match fnT P f with
 | some t => t.body
 | none => .skip
def ntF (P : Program) (f : Nat) : Nat := match fnT P f with
 | some t => t.nt
 | none => 0
def endT (P : Program) (f : Nat) : Option (Ex × St) → Bool
 | some (.ret, s) => match fnT P f with
  | some t => match resTs P s t.results, s.ws with
   | some [.bool true], [] => true
   | _, _ => false
  | none => false
 | _ => false
theorem endT_ok {P : Program} {T : Tab} {call : CallT} {L f : Nat} {r : Option (Ex × St)} (h : execF P T call L f false 0 (ntF P f) (bdF P f) ⟨[], [], [], []⟩ = r) (h2 : endT P f r = true) : isT (funF P T call L f [] []) = true := by
 unfold endT at h2
 split at h2
 ·rename_i s
  split at h2
  ·rename_i t ht
   split at h2
   ·rename_i hr hw
    unfold ntF bdF at h
    rw [ht] at h
    have h : execF P T call L f false ([] : List HB).length t.nt t.body ⟨argEnv 0 [], [], [], []⟩ = some (.ret, s) := h
    unfold funF
    simp only [ht, h, hr, hw]
    rfl
   ·cases h2
  ·cases h2
 ·cases h2
theorem closT_ok {P : Program} {T : Tab} {L n f : Nat} (hm : P.follows .mixedOrders = true) (hE : CallOk P T.ext) (hr : isT (funF P T (apF P T L n) L f [] []) = true) : CallOk P (closT f true) := by
 obtain ⟨h0, hr⟩ : ∃ h0, funF P T (apF P T L n) L f [] [] = some (.bool true, h0, []) := by
  unfold isT at hr
  split at hr
  ·exact ⟨_, ‹_›⟩
  ·cases hr
 intro fv args h v h' ws hc M w x xs hV hl hx hxs
 unfold closT at hc
 split at hc
 ·rename_i g
  split at hc
  ·rename_i hg
   subst hg
   cases hc
   cases hx with
   | fn h1 h2 h3 h4 =>
    rename_i ys zs
    have hy : ys = [] := List.eq_nil_of_length_eq_zero h1.symm
    have hz : zs = [] := List.eq_nil_of_length_eq_zero h3.symm
    have hxx : xs = [] := List.eq_nil_of_length_eq_zero hxs.len.symm
    subst hy hz hxx
    have h0 : Base (fun _ => none) [] w := ⟨⟨by simp, by simp, by simp⟩, by simp⟩
    obtain ⟨fn, c, e1, e2, e3, e4⟩ := fun_ok hm (ap_okF (L := L) hm hE n) (funF_eq ▸ hr) h0 (xs := []) .nil
    refine ⟨{ target := .fn (.func g) #[], args := #[] }, fun w => by simp [Deferred.ofValue], .inl ⟨⟨g, #[], ?_, fun n => ?_⟩, _, [], [], rfl⟩⟩
    ·have e2' : ¬ fn.name = "runtime.NumGoroutine" := by simpa using e2
     simp [invoke, callFunc, program, Sem.run, e1, e2', e3]
    ·refine (e4 n).mono fun e w' hR => ?_
     cases e with
     | panicked c => exact hR.elim
     | outgrown => exact hR.elim
     | returned v =>
      obtain ⟨M2, _, _, hX, hv'⟩ := hR
      cases hv'
      have hf : ∀ c, c < w.heap.size → w'.heap[c]? = w.heap[c]? := fun c hc => hX.frame c hc (by simp)
      refine ⟨M, ⟨fun k l hk hd => ?_, hV.own, fun k l hk c hc => Nat.lt_of_lt_of_le (hV.inb k l hk c hc) hX.size⟩, hl, ⟨.refl M, fun c hc _ => hf c hc, fun _ _ _ => rfl, fun _ _ _ => rfl, fun k l hk c hc _ => ⟨l, hk, hc⟩, hX.size, fun _ h => h, by simp, by simp, hX.os, hX.output, hX.tape⟩, .bool _⟩
      obtain ⟨b, g1, g2⟩ := hV.ok k l hk hd
      exact ⟨b, g1, g2.mono (.refl _) fun c hc => hf c (hV.inb k l hk c hc)⟩
  ·cases hc
 ·cases hc
open Go.ChangeShapes Go.WideShapes Go.RowKit
end
end
end Tw
namespace Go.Proofs.YtmefgijobonklaaGreat
open Go Tw
def Aw1 : St := ⟨[(1, .loc 0 0), (2, .val (.int .i64 0)), (3, .loc 1 0), (4, .val (.int .i64 0)), (5, .loc 2 0), (6, .val (.int .i64 0))], [[.slc 10 0 4 4 4 false], [.slc 29 0 4 4 4 false], [.slc 44 0 2 2 4 false]], [.cells .own [.int .i64 2, .int .i64 3], .cells .own [.int .u8 0, .int .i64 5, .int .u8 0, .int .i64 5, .int .u8 0, .int .i64 5, .int .u8 0, .int .i64 5, .int .u8 0, .int .i64 7, .int .u8 1, .int .i64 0], .cells .last [.int .i64 1, .int .i64 2], .cells .last [.int .i64 1, .int .i64 2], .cells .last [.int .i64 1, .int .i64 1], .cells .last [.int .i64 1, .int .i64 1], .cells .last [.int .i64 1, .int .i64 0], .cells .last [.int .i64 1, .int .i64 0], .cells .last [.int .i64 0, .int .i64 2], .cells .last [.int .i64 0, .int .i64 0], .cells .grow [.slc 9 0 2 2 1 false, .slc 8 0 2 2 1 false, .int .u8 0, .int .i64 5, .slc 7 0 2 2 1 false, .slc 6 0 2 2 1 false, .int .u8 0, .int .i64 5, .slc 5 0 2 2 1 false, .slc 4 0 2 2 1 false, .int .u8 0, .int .i64 7, .slc 3 0 2 2 1 false, .slc 2 0 2 2 1 false, .int .u8 1, .int .i64 0], .cells .own [.int .i64 2, .int .i64 3], .cells .own [.int .i64 1, .int .i64 2], .cells .own [.int .i64 1, .int .i64 2], .cells .own [.int .i64 1, .int .i64 1], .cells .own [.int .i64 1, .int .i64 1], .cells .own [.int .i64 0, .int .i64 2], .cells .own [.int .i64 0, .int .i64 1], .cells .own [.int .i64 1, .int .i64 0], .cells .own [.int .i64 0, .int .i64 0], .cells .own [.slc 19 0 2 2 1 true, .slc 18 0 2 2 1 true, .int .u8 0, .int .i64 5, .slc 17 0 2 2 1 true, .slc 16 0 2 2 1 true, .int .u8 0, .int .i64 5, .slc 15 0 2 2 1 true, .slc 14 0 2 2 1 true, .int .u8 0, .int .i64 7, .slc 13 0 2 2 1 true, .slc 12 0 2 2 1 true, .int .u8 1, .int .i64 0], .cells .last [.int .i64 1, .int .i64 2], .cells .last [.int .i64 1, .int .i64 2], .cells .last [.int .i64 1, .int .i64 1], .cells .last [.int .i64 1, .int .i64 1], .cells .last [.int .i64 1, .int .i64 0], .cells .last [.int .i64 1, .int .i64 0], .cells .last [.int .i64 0, .int .i64 2], .cells .last [.int .i64 0, .int .i64 0], .cells .grow [.slc 28 0 2 2 1 false, .slc 27 0 2 2 1 false, .int .u8 0, .int .i64 5, .slc 26 0 2 2 1 false, .slc 25 0 2 2 1 false, .int .u8 0, .int .i64 5, .slc 24 0 2 2 1 false, .slc 23 0 2 2 1 false, .int .u8 0, .int .i64 7, .slc 22 0 2 2 1 false, .slc 21 0 2 2 1 false, .int .u8 1, .int .i64 0], .cells .own [.int .i64 2, .int .i64 3], .cells .own [.int .i64 1, .int .i64 2], .cells .own [.int .i64 1, .int .i64 2], .cells .own [.int .i64 1, .int .i64 1], .cells .own [.int .i64 1, .int .i64 1], .cells .own [.int .i64 0, .int .i64 2], .cells .own [.int .i64 0, .int .i64 1], .cells .own [.int .i64 1, .int .i64 0], .cells .own [.int .i64 0, .int .i64 0], .cells .own [.slc 38 0 2 2 1 true, .slc 37 0 2 2 1 true, .int .u8 0, .int .i64 5, .slc 36 0 2 2 1 true, .slc 35 0 2 2 1 true, .int .u8 0, .int .i64 5, .slc 34 0 2 2 1 true, .slc 33 0 2 2 1 true, .int .u8 0, .int .i64 7, .slc 32 0 2 2 1 true, .slc 31 0 2 2 1 true, .int .u8 1, .int .i64 0], .cells .last [.int .i64 1, .int .i64 2], .cells .last [.int .i64 1, .int .i64 0], .cells .last [.int .i64 0, .int .i64 2], .cells .last [.int .i64 0, .int .i64 0], .cells .grow [.slc 43 0 2 2 1 false, .slc 42 0 2 2 1 false, .int .u8 0, .int .i64 5, .slc 41 0 2 2 1 false, .slc 40 0 2 2 1 false, .int .u8 0, .int .i64 7]], []⟩
def Aw2 : St := ⟨[(1, .loc 0 0), (2, .val (.int .i64 0)), (3, .loc 1 0), (4, .val (.int .i64 0)), (5, .loc 2 0), (6, .val (.int .i64 0)), (7, .val (.int .i64 4)), (8, .val (.int .i64 0)), (9, .loc 3 0), (10, .val (.int .i64 0)), (11, .loc 4 0), (12, .val (.int .i64 0))], [[.slc 10 0 4 4 4 false], [.slc 29 0 4 4 4 false], [.slc 44 0 2 2 4 false], [.int .i64 5, .int .i64 7, .int .u8 1], [.slc 82 0 3 3 4 false]], [.cells .own [.int .i64 2, .int .i64 3], .cells .own [.int .u8 0, .int .i64 5, .int .u8 0, .int .i64 5, .int .u8 0, .int .i64 5, .int .u8 0, .int .i64 5, .int .u8 0, .int .i64 7, .int .u8 1, .int .i64 0], .cells .last [.int .i64 1, .int .i64 2], .cells .last [.int .i64 1, .int .i64 2], .cells .last [.int .i64 1, .int .i64 1], .cells .last [.int .i64 1, .int .i64 1], .cells .last [.int .i64 1, .int .i64 0], .cells .last [.int .i64 1, .int .i64 0], .cells .last [.int .i64 0, .int .i64 2], .cells .last [.int .i64 0, .int .i64 0], .cells .grow [.slc 9 0 2 2 1 false, .slc 8 0 2 2 1 false, .int .u8 0, .int .i64 5, .slc 7 0 2 2 1 false, .slc 6 0 2 2 1 false, .int .u8 0, .int .i64 5, .slc 5 0 2 2 1 false, .slc 4 0 2 2 1 false, .int .u8 0, .int .i64 7, .slc 3 0 2 2 1 false, .slc 2 0 2 2 1 false, .int .u8 1, .int .i64 0], .cells .own [.int .i64 2, .int .i64 3], .cells .own [.int .i64 1, .int .i64 2], .cells .own [.int .i64 1, .int .i64 2], .cells .own [.int .i64 1, .int .i64 1], .cells .own [.int .i64 1, .int .i64 1], .cells .own [.int .i64 0, .int .i64 2], .cells .own [.int .i64 0, .int .i64 1], .cells .own [.int .i64 1, .int .i64 0], .cells .own [.int .i64 0, .int .i64 0], .cells .own [.slc 19 0 2 2 1 true, .slc 18 0 2 2 1 true, .int .u8 0, .int .i64 5, .slc 17 0 2 2 1 true, .slc 16 0 2 2 1 true, .int .u8 0, .int .i64 5, .slc 15 0 2 2 1 true, .slc 14 0 2 2 1 true, .int .u8 0, .int .i64 7, .slc 13 0 2 2 1 true, .slc 12 0 2 2 1 true, .int .u8 1, .int .i64 0], .cells .last [.int .i64 1, .int .i64 2], .cells .last [.int .i64 1, .int .i64 2], .cells .last [.int .i64 1, .int .i64 1], .cells .last [.int .i64 1, .int .i64 1], .cells .last [.int .i64 1, .int .i64 0], .cells .last [.int .i64 1, .int .i64 0], .cells .last [.int .i64 0, .int .i64 2], .cells .last [.int .i64 0, .int .i64 0], .cells .grow [.slc 28 0 2 2 1 false, .slc 27 0 2 2 1 false, .int .u8 0, .int .i64 5, .slc 26 0 2 2 1 false, .slc 25 0 2 2 1 false, .int .u8 0, .int .i64 5, .slc 24 0 2 2 1 false, .slc 23 0 2 2 1 false, .int .u8 0, .int .i64 7, .slc 22 0 2 2 1 false, .slc 21 0 2 2 1 false, .int .u8 1, .int .i64 0], .cells .own [.int .i64 2, .int .i64 3], .cells .own [.int .i64 1, .int .i64 2], .cells .own [.int .i64 1, .int .i64 2], .cells .own [.int .i64 1, .int .i64 1], .cells .own [.int .i64 1, .int .i64 1], .cells .own [.int .i64 0, .int .i64 2], .cells .own [.int .i64 0, .int .i64 1], .cells .own [.int .i64 1, .int .i64 0], .cells .own [.int .i64 0, .int .i64 0], .cells .own [.slc 38 0 2 2 1 true, .slc 37 0 2 2 1 true, .int .u8 0, .int .i64 5, .slc 36 0 2 2 1 true, .slc 35 0 2 2 1 true, .int .u8 0, .int .i64 5, .slc 34 0 2 2 1 true, .slc 33 0 2 2 1 true, .int .u8 0, .int .i64 7, .slc 32 0 2 2 1 true, .slc 31 0 2 2 1 true, .int .u8 1, .int .i64 0], .cells .last [.int .i64 1, .int .i64 2], .cells .last [.int .i64 1, .int .i64 0], .cells .last [.int .i64 0, .int .i64 2], .cells .last [.int .i64 0, .int .i64 0], .cells .grow [.slc 43 0 2 2 1 false, .slc 42 0 2 2 1 false, .int .u8 0, .int .i64 5, .slc 41 0 2 2 1 false, .slc 40 0 2 2 1 false, .int .u8 0, .int .i64 7], .cells .own [.int .i64 2, .int .i64 3], .cells .own [.int .i64 1, .int .i64 2], .cells .own [.int .i64 1, .int .i64 2], .cells .own [.int .i64 1, .int .i64 1], .cells .own [.int .i64 1, .int .i64 1], .cells .own [.int .i64 0, .int .i64 2], .cells .own [.int .i64 0, .int .i64 1], .cells .own [.int .i64 1, .int .i64 0], .cells .own [.int .i64 0, .int .i64 0], .cells .own [.slc 53 0 2 2 1 true, .slc 52 0 2 2 1 true, .int .u8 0, .int .i64 5, .slc 51 0 2 2 1 true, .slc 50 0 2 2 1 true, .int .u8 0, .int .i64 5, .slc 49 0 2 2 1 true, .slc 48 0 2 2 1 true, .int .u8 0, .int .i64 7, .slc 47 0 2 2 1 true, .slc 46 0 2 2 1 true, .int .u8 1, .int .i64 0], .cells .own [.int .i64 2, .int .i64 3], .cells .own [.int .i64 1, .int .i64 2], .cells .own [.int .i64 1, .int .i64 2], .cells .own [.int .i64 1, .int .i64 1], .cells .own [.int .i64 1, .int .i64 1], .cells .own [.int .i64 0, .int .i64 2], .cells .own [.int .i64 0, .int .i64 1], .cells .own [.int .i64 1, .int .i64 0], .cells .own [.int .i64 0, .int .i64 0], .cells .own [.slc 63 0 2 2 1 true, .slc 62 0 2 2 1 true, .int .u8 0, .int .i64 5, .slc 61 0 2 2 1 true, .slc 60 0 2 2 1 true, .int .u8 0, .int .i64 5, .slc 59 0 2 2 1 true, .slc 58 0 2 2 1 true, .int .u8 0, .int .i64 7, .slc 57 0 2 2 1 true, .slc 56 0 2 2 1 true, .int .u8 1, .int .i64 0], .cells .own [.int .i64 2, .int .i64 3], .cells .own [.int .i64 1, .int .i64 2], .cells .own [.int .i64 1, .int .i64 2], .cells .own [.int .i64 1, .int .i64 1], .cells .own [.int .i64 1, .int .i64 1], .cells .own [.int .i64 1, .int .i64 0], .cells .own [.int .i64 1, .int .i64 0], .cells .own [.int .i64 0, .int .i64 2], .cells .own [.int .i64 0, .int .i64 0], .cells .own [.slc 73 0 2 2 1 true, .slc 72 0 2 2 1 true, .int .u8 0, .int .i64 5, .slc 71 0 2 2 1 true, .slc 70 0 2 2 1 true, .int .u8 0, .int .i64 5, .slc 69 0 2 2 1 true, .slc 68 0 2 2 1 true, .int .u8 0, .int .i64 7, .slc 67 0 2 2 1 true, .slc 66 0 2 2 1 true, .int .u8 1, .int .i64 0], .cells .own [.slc 74 0 4 4 4 true], .cells .last [.int .i64 1, .int .i64 2], .cells .last [.int .i64 1, .int .i64 2], .cells .last [.int .i64 1, .int .i64 1], .cells .last [.int .i64 1, .int .i64 0], .cells .last [.int .i64 0, .int .i64 2], .cells .last [.int .i64 0, .int .i64 0], .cells .grow [.slc 81 0 2 2 1 false, .slc 80 0 2 2 1 false, .int .u8 0, .int .i64 0, .slc 79 0 2 2 1 false, .slc 78 0 2 2 1 false, .int .u8 0, .int .i64 0, .slc 77 0 2 2 1 false, .slc 76 0 2 2 1 false, .int .u8 1, .int .i64 0]], []⟩
def Aw3 : St := ⟨[(1, .loc 0 0), (2, .val (.int .i64 0)), (3, .loc 1 0), (4, .val (.int .i64 0)), (5, .loc 2 0), (6, .val (.int .i64 0)), (7, .val (.int .i64 4)), (8, .val (.int .i64 0)), (9, .loc 3 0), (10, .val (.int .i64 0)), (11, .loc 4 0), (12, .val (.int .i64 0)), (13, .val (.slc 99 0 1 1 1 false)), (14, .val (.int .i64 0))], [[.slc 10 0 4 4 4 false], [.slc 29 0 4 4 4 false], [.slc 44 0 2 2 4 false], [.int .i64 5, .int .i64 7, .int .u8 1], [.slc 82 0 3 3 4 false]], [.cells .own [.int .i64 2, .int .i64 3], .cells .own [.int .u8 0, .int .i64 5, .int .u8 0, .int .i64 5, .int .u8 0, .int .i64 5, .int .u8 0, .int .i64 5, .int .u8 0, .int .i64 7, .int .u8 1, .int .i64 0], .cells .last [.int .i64 1, .int .i64 2], .cells .last [.int .i64 1, .int .i64 2], .cells .last [.int .i64 1, .int .i64 1], .cells .last [.int .i64 1, .int .i64 1], .cells .last [.int .i64 1, .int .i64 0], .cells .last [.int .i64 1, .int .i64 0], .cells .last [.int .i64 0, .int .i64 2], .cells .last [.int .i64 0, .int .i64 0], .cells .grow [.slc 9 0 2 2 1 false, .slc 8 0 2 2 1 false, .int .u8 0, .int .i64 5, .slc 7 0 2 2 1 false, .slc 6 0 2 2 1 false, .int .u8 0, .int .i64 5, .slc 5 0 2 2 1 false, .slc 4 0 2 2 1 false, .int .u8 0, .int .i64 7, .slc 3 0 2 2 1 false, .slc 2 0 2 2 1 false, .int .u8 1, .int .i64 0], .cells .own [.int .i64 2, .int .i64 3], .cells .own [.int .i64 1, .int .i64 2], .cells .own [.int .i64 1, .int .i64 2], .cells .own [.int .i64 1, .int .i64 1], .cells .own [.int .i64 1, .int .i64 1], .cells .own [.int .i64 0, .int .i64 2], .cells .own [.int .i64 0, .int .i64 1], .cells .own [.int .i64 1, .int .i64 0], .cells .own [.int .i64 0, .int .i64 0], .cells .own [.slc 19 0 2 2 1 true, .slc 18 0 2 2 1 true, .int .u8 0, .int .i64 5, .slc 17 0 2 2 1 true, .slc 16 0 2 2 1 true, .int .u8 0, .int .i64 5, .slc 15 0 2 2 1 true, .slc 14 0 2 2 1 true, .int .u8 0, .int .i64 7, .slc 13 0 2 2 1 true, .slc 12 0 2 2 1 true, .int .u8 1, .int .i64 0], .cells .last [.int .i64 1, .int .i64 2], .cells .last [.int .i64 1, .int .i64 2], .cells .last [.int .i64 1, .int .i64 1], .cells .last [.int .i64 1, .int .i64 1], .cells .last [.int .i64 1, .int .i64 0], .cells .last [.int .i64 1, .int .i64 0], .cells .last [.int .i64 0, .int .i64 2], .cells .last [.int .i64 0, .int .i64 0], .cells .grow [.slc 28 0 2 2 1 false, .slc 27 0 2 2 1 false, .int .u8 0, .int .i64 5, .slc 26 0 2 2 1 false, .slc 25 0 2 2 1 false, .int .u8 0, .int .i64 5, .slc 24 0 2 2 1 false, .slc 23 0 2 2 1 false, .int .u8 0, .int .i64 7, .slc 22 0 2 2 1 false, .slc 21 0 2 2 1 false, .int .u8 1, .int .i64 0], .cells .own [.int .i64 2, .int .i64 3], .cells .own [.int .i64 1, .int .i64 2], .cells .own [.int .i64 1, .int .i64 2], .cells .own [.int .i64 1, .int .i64 1], .cells .own [.int .i64 1, .int .i64 1], .cells .own [.int .i64 0, .int .i64 2], .cells .own [.int .i64 0, .int .i64 1], .cells .own [.int .i64 1, .int .i64 0], .cells .own [.int .i64 0, .int .i64 0], .cells .own [.slc 38 0 2 2 1 true, .slc 37 0 2 2 1 true, .int .u8 0, .int .i64 5, .slc 36 0 2 2 1 true, .slc 35 0 2 2 1 true, .int .u8 0, .int .i64 5, .slc 34 0 2 2 1 true, .slc 33 0 2 2 1 true, .int .u8 0, .int .i64 7, .slc 32 0 2 2 1 true, .slc 31 0 2 2 1 true, .int .u8 1, .int .i64 0], .cells .last [.int .i64 1, .int .i64 2], .cells .last [.int .i64 1, .int .i64 0], .cells .last [.int .i64 0, .int .i64 2], .cells .last [.int .i64 0, .int .i64 0], .cells .grow [.slc 43 0 2 2 1 false, .slc 42 0 2 2 1 false, .int .u8 0, .int .i64 5, .slc 41 0 2 2 1 false, .slc 40 0 2 2 1 false, .int .u8 0, .int .i64 7], .cells .own [.int .i64 2, .int .i64 3], .cells .own [.int .i64 1, .int .i64 2], .cells .own [.int .i64 1, .int .i64 2], .cells .own [.int .i64 1, .int .i64 1], .cells .own [.int .i64 1, .int .i64 1], .cells .own [.int .i64 0, .int .i64 2], .cells .own [.int .i64 0, .int .i64 1], .cells .own [.int .i64 1, .int .i64 0], .cells .own [.int .i64 0, .int .i64 0], .cells .own [.slc 53 0 2 2 1 true, .slc 52 0 2 2 1 true, .int .u8 0, .int .i64 5, .slc 51 0 2 2 1 true, .slc 50 0 2 2 1 true, .int .u8 0, .int .i64 5, .slc 49 0 2 2 1 true, .slc 48 0 2 2 1 true, .int .u8 0, .int .i64 7, .slc 47 0 2 2 1 true, .slc 46 0 2 2 1 true, .int .u8 1, .int .i64 0], .cells .own [.int .i64 2, .int .i64 3], .cells .own [.int .i64 1, .int .i64 2], .cells .own [.int .i64 1, .int .i64 2], .cells .own [.int .i64 1, .int .i64 1], .cells .own [.int .i64 1, .int .i64 1], .cells .own [.int .i64 0, .int .i64 2], .cells .own [.int .i64 0, .int .i64 1], .cells .own [.int .i64 1, .int .i64 0], .cells .own [.int .i64 0, .int .i64 0], .cells .own [.slc 63 0 2 2 1 true, .slc 62 0 2 2 1 true, .int .u8 0, .int .i64 5, .slc 61 0 2 2 1 true, .slc 60 0 2 2 1 true, .int .u8 0, .int .i64 5, .slc 59 0 2 2 1 true, .slc 58 0 2 2 1 true, .int .u8 0, .int .i64 7, .slc 57 0 2 2 1 true, .slc 56 0 2 2 1 true, .int .u8 1, .int .i64 0], .cells .own [.int .i64 2, .int .i64 3], .cells .own [.int .i64 1, .int .i64 2], .cells .own [.int .i64 1, .int .i64 2], .cells .own [.int .i64 1, .int .i64 1], .cells .own [.int .i64 1, .int .i64 1], .cells .own [.int .i64 1, .int .i64 0], .cells .own [.int .i64 1, .int .i64 0], .cells .own [.int .i64 0, .int .i64 2], .cells .own [.int .i64 0, .int .i64 0], .cells .own [.slc 73 0 2 2 1 true, .slc 72 0 2 2 1 true, .int .u8 0, .int .i64 5, .slc 71 0 2 2 1 true, .slc 70 0 2 2 1 true, .int .u8 0, .int .i64 5, .slc 69 0 2 2 1 true, .slc 68 0 2 2 1 true, .int .u8 0, .int .i64 7, .slc 67 0 2 2 1 true, .slc 66 0 2 2 1 true, .int .u8 1, .int .i64 0], .cells .own [.slc 74 0 4 4 4 true], .cells .last [.int .i64 1, .int .i64 2], .cells .last [.int .i64 1, .int .i64 2], .cells .last [.int .i64 1, .int .i64 1], .cells .last [.int .i64 1, .int .i64 0], .cells .last [.int .i64 0, .int .i64 2], .cells .last [.int .i64 0, .int .i64 0], .cells .grow [.slc 81 0 2 2 1 false, .slc 80 0 2 2 1 false, .int .u8 0, .int .i64 0, .slc 79 0 2 2 1 false, .slc 78 0 2 2 1 false, .int .u8 0, .int .i64 0, .slc 77 0 2 2 1 false, .slc 76 0 2 2 1 false, .int .u8 1, .int .i64 0], .cells .own [.int .i64 2], .cells .own [.int .u8 3, .int .i64 0, .int .i64 0, .int .i64 0, .int .i64 0, .int .u8 3, .int .i64 0, .int .i64 0, .int .i64 0, .int .i64 1, .int .u8 10, .int .i64 0, .int .i64 1, .int .i64 0, .int .i64 0], .cells .own [.str ⟨#[100]⟩, .int .i64 1, .int .i64 2, .str ⟨#[101]⟩, .int .i64 0, .int .i64 2], .cells .last [.int .i64 1, .int .i64 2], .cells .last [.int .i64 1, .int .i64 2], .cells .last [.int .i64 1, .int .i64 1], .cells .last [.int .i64 1, .int .i64 1], .cells .last [.int .i64 1, .int .i64 0], .cells .last [.int .i64 1, .int .i64 0], .cells .last [.int .i64 0, .int .i64 2], .cells .last [.int .i64 0, .int .i64 2], .cells .last [.int .i64 0, .int .i64 1], .cells .last [.int .i64 0, .int .i64 1], .cells .last [.int .i64 0, .int .i64 0], .cells .last [.int .i64 0, .int .i64 0], .cells .grow [.slc 97 0 2 2 1 false, .slc 96 0 2 2 1 false, .int .u8 1, .int .i64 0, .slc 95 0 2 2 1 false, .slc 94 0 2 2 1 false, .int .u8 0, .int .i64 1, .slc 93 0 2 2 1 false, .slc 92 0 2 2 1 false, .int .u8 0, .int .i64 0, .slc 91 0 2 2 1 false, .slc 90 0 2 2 1 false, .int .u8 1, .int .i64 0, .slc 89 0 2 2 1 false, .slc 88 0 2 2 1 false, .int .u8 0, .int .i64 2, .slc 87 0 2 2 1 false, .slc 86 0 2 2 1 false, .int .u8 0, .int .i64 1], .cells .own [.slc 98 0 6 6 4 false]], []⟩
def Aw4 : St := ⟨[(1, .loc 0 0), (2, .val (.int .i64 0)), (3, .loc 1 0), (4, .val (.int .i64 0)), (5, .loc 2 0), (6, .val (.int .i64 0)), (7, .val (.int .i64 4)), (8, .val (.int .i64 0)), (9, .loc 3 0), (10, .val (.int .i64 0)), (11, .loc 4 0), (12, .val (.int .i64 0)), (13, .val (.slc 99 0 1 1 1 false)), (14, .val (.int .i64 0)), (15, .val (.slc 119 0 2 2 1 true)), (16, .val (.int .i64 0))], [[.slc 10 0 4 4 4 false], [.slc 29 0 4 4 4 false], [.slc 44 0 2 2 4 false], [.int .i64 5, .int .i64 7, .int .u8 1], [.slc 82 0 3 3 4 false]], [.cells .own [.int .i64 2, .int .i64 3], .cells .own [.int .u8 0, .int .i64 5, .int .u8 0, .int .i64 5, .int .u8 0, .int .i64 5, .int .u8 0, .int .i64 5, .int .u8 0, .int .i64 7, .int .u8 1, .int .i64 0], .cells .last [.int .i64 1, .int .i64 2], .cells .last [.int .i64 1, .int .i64 2], .cells .last [.int .i64 1, .int .i64 1], .cells .last [.int .i64 1, .int .i64 1], .cells .last [.int .i64 1, .int .i64 0], .cells .last [.int .i64 1, .int .i64 0], .cells .last [.int .i64 0, .int .i64 2], .cells .last [.int .i64 0, .int .i64 0], .cells .grow [.slc 9 0 2 2 1 false, .slc 8 0 2 2 1 false, .int .u8 0, .int .i64 5, .slc 7 0 2 2 1 false, .slc 6 0 2 2 1 false, .int .u8 0, .int .i64 5, .slc 5 0 2 2 1 false, .slc 4 0 2 2 1 false, .int .u8 0, .int .i64 7, .slc 3 0 2 2 1 false, .slc 2 0 2 2 1 false, .int .u8 1, .int .i64 0], .cells .own [.int .i64 2, .int .i64 3], .cells .own [.int .i64 1, .int .i64 2], .cells .own [.int .i64 1, .int .i64 2], .cells .own [.int .i64 1, .int .i64 1], .cells .own [.int .i64 1, .int .i64 1], .cells .own [.int .i64 0, .int .i64 2], .cells .own [.int .i64 0, .int .i64 1], .cells .own [.int .i64 1, .int .i64 0], .cells .own [.int .i64 0, .int .i64 0], .cells .own [.slc 19 0 2 2 1 true, .slc 18 0 2 2 1 true, .int .u8 0, .int .i64 5, .slc 17 0 2 2 1 true, .slc 16 0 2 2 1 true, .int .u8 0, .int .i64 5, .slc 15 0 2 2 1 true, .slc 14 0 2 2 1 true, .int .u8 0, .int .i64 7, .slc 13 0 2 2 1 true, .slc 12 0 2 2 1 true, .int .u8 1, .int .i64 0], .cells .last [.int .i64 1, .int .i64 2], .cells .last [.int .i64 1, .int .i64 2], .cells .last [.int .i64 1, .int .i64 1], .cells .last [.int .i64 1, .int .i64 1], .cells .last [.int .i64 1, .int .i64 0], .cells .last [.int .i64 1, .int .i64 0], .cells .last [.int .i64 0, .int .i64 2], .cells .last [.int .i64 0, .int .i64 0], .cells .grow [.slc 28 0 2 2 1 false, .slc 27 0 2 2 1 false, .int .u8 0, .int .i64 5, .slc 26 0 2 2 1 false, .slc 25 0 2 2 1 false, .int .u8 0, .int .i64 5, .slc 24 0 2 2 1 false, .slc 23 0 2 2 1 false, .int .u8 0, .int .i64 7, .slc 22 0 2 2 1 false, .slc 21 0 2 2 1 false, .int .u8 1, .int .i64 0], .cells .own [.int .i64 2, .int .i64 3], .cells .own [.int .i64 1, .int .i64 2], .cells .own [.int .i64 1, .int .i64 2], .cells .own [.int .i64 1, .int .i64 1], .cells .own [.int .i64 1, .int .i64 1], .cells .own [.int .i64 0, .int .i64 2], .cells .own [.int .i64 0, .int .i64 1], .cells .own [.int .i64 1, .int .i64 0], .cells .own [.int .i64 0, .int .i64 0], .cells .own [.slc 38 0 2 2 1 true, .slc 37 0 2 2 1 true, .int .u8 0, .int .i64 5, .slc 36 0 2 2 1 true, .slc 35 0 2 2 1 true, .int .u8 0, .int .i64 5, .slc 34 0 2 2 1 true, .slc 33 0 2 2 1 true, .int .u8 0, .int .i64 7, .slc 32 0 2 2 1 true, .slc 31 0 2 2 1 true, .int .u8 1, .int .i64 0], .cells .last [.int .i64 1, .int .i64 2], .cells .last [.int .i64 1, .int .i64 0], .cells .last [.int .i64 0, .int .i64 2], .cells .last [.int .i64 0, .int .i64 0], .cells .grow [.slc 43 0 2 2 1 false, .slc 42 0 2 2 1 false, .int .u8 0, .int .i64 5, .slc 41 0 2 2 1 false, .slc 40 0 2 2 1 false, .int .u8 0, .int .i64 7], .cells .own [.int .i64 2, .int .i64 3], .cells .own [.int .i64 1, .int .i64 2], .cells .own [.int .i64 1, .int .i64 2], .cells .own [.int .i64 1, .int .i64 1], .cells .own [.int .i64 1, .int .i64 1], .cells .own [.int .i64 0, .int .i64 2], .cells .own [.int .i64 0, .int .i64 1], .cells .own [.int .i64 1, .int .i64 0], .cells .own [.int .i64 0, .int .i64 0], .cells .own [.slc 53 0 2 2 1 true, .slc 52 0 2 2 1 true, .int .u8 0, .int .i64 5, .slc 51 0 2 2 1 true, .slc 50 0 2 2 1 true, .int .u8 0, .int .i64 5, .slc 49 0 2 2 1 true, .slc 48 0 2 2 1 true, .int .u8 0, .int .i64 7, .slc 47 0 2 2 1 true, .slc 46 0 2 2 1 true, .int .u8 1, .int .i64 0], .cells .own [.int .i64 2, .int .i64 3], .cells .own [.int .i64 1, .int .i64 2], .cells .own [.int .i64 1, .int .i64 2], .cells .own [.int .i64 1, .int .i64 1], .cells .own [.int .i64 1, .int .i64 1], .cells .own [.int .i64 0, .int .i64 2], .cells .own [.int .i64 0, .int .i64 1], .cells .own [.int .i64 1, .int .i64 0], .cells .own [.int .i64 0, .int .i64 0], .cells .own [.slc 63 0 2 2 1 true, .slc 62 0 2 2 1 true, .int .u8 0, .int .i64 5, .slc 61 0 2 2 1 true, .slc 60 0 2 2 1 true, .int .u8 0, .int .i64 5, .slc 59 0 2 2 1 true, .slc 58 0 2 2 1 true, .int .u8 0, .int .i64 7, .slc 57 0 2 2 1 true, .slc 56 0 2 2 1 true, .int .u8 1, .int .i64 0], .cells .own [.int .i64 2, .int .i64 3], .cells .own [.int .i64 1, .int .i64 2], .cells .own [.int .i64 1, .int .i64 2], .cells .own [.int .i64 1, .int .i64 1], .cells .own [.int .i64 1, .int .i64 1], .cells .own [.int .i64 1, .int .i64 0], .cells .own [.int .i64 1, .int .i64 0], .cells .own [.int .i64 0, .int .i64 2], .cells .own [.int .i64 0, .int .i64 0], .cells .own [.slc 73 0 2 2 1 true, .slc 72 0 2 2 1 true, .int .u8 0, .int .i64 5, .slc 71 0 2 2 1 true, .slc 70 0 2 2 1 true, .int .u8 0, .int .i64 5, .slc 69 0 2 2 1 true, .slc 68 0 2 2 1 true, .int .u8 0, .int .i64 7, .slc 67 0 2 2 1 true, .slc 66 0 2 2 1 true, .int .u8 1, .int .i64 0], .cells .own [.slc 74 0 4 4 4 true], .cells .last [.int .i64 1, .int .i64 2], .cells .last [.int .i64 1, .int .i64 2], .cells .last [.int .i64 1, .int .i64 1], .cells .last [.int .i64 1, .int .i64 0], .cells .last [.int .i64 0, .int .i64 2], .cells .last [.int .i64 0, .int .i64 0], .cells .grow [.slc 81 0 2 2 1 false, .slc 80 0 2 2 1 false, .int .u8 0, .int .i64 0, .slc 79 0 2 2 1 false, .slc 78 0 2 2 1 false, .int .u8 0, .int .i64 0, .slc 77 0 2 2 1 false, .slc 76 0 2 2 1 false, .int .u8 1, .int .i64 0], .cells .own [.int .i64 2], .cells .own [.int .u8 3, .int .i64 0, .int .i64 0, .int .i64 0, .int .i64 0, .int .u8 3, .int .i64 0, .int .i64 0, .int .i64 0, .int .i64 1, .int .u8 10, .int .i64 0, .int .i64 1, .int .i64 0, .int .i64 0], .cells .own [.str ⟨#[100]⟩, .int .i64 1, .int .i64 2, .str ⟨#[101]⟩, .int .i64 0, .int .i64 2], .cells .last [.int .i64 1, .int .i64 2], .cells .last [.int .i64 1, .int .i64 2], .cells .last [.int .i64 1, .int .i64 1], .cells .last [.int .i64 1, .int .i64 1], .cells .last [.int .i64 1, .int .i64 0], .cells .last [.int .i64 1, .int .i64 0], .cells .last [.int .i64 0, .int .i64 2], .cells .last [.int .i64 0, .int .i64 2], .cells .last [.int .i64 0, .int .i64 1], .cells .last [.int .i64 0, .int .i64 1], .cells .last [.int .i64 0, .int .i64 0], .cells .last [.int .i64 0, .int .i64 0], .cells .grow [.slc 97 0 2 2 1 false, .slc 96 0 2 2 1 false, .int .u8 1, .int .i64 0, .slc 95 0 2 2 1 false, .slc 94 0 2 2 1 false, .int .u8 0, .int .i64 1, .slc 93 0 2 2 1 false, .slc 92 0 2 2 1 false, .int .u8 0, .int .i64 0, .slc 91 0 2 2 1 false, .slc 90 0 2 2 1 false, .int .u8 1, .int .i64 0, .slc 89 0 2 2 1 false, .slc 88 0 2 2 1 false, .int .u8 0, .int .i64 2, .slc 87 0 2 2 1 false, .slc 86 0 2 2 1 false, .int .u8 0, .int .i64 1], .cells .own [.slc 98 0 6 6 4 false], .cells .own [.int .i64 1, .int .i64 2], .cells .own [.int .i64 1, .int .i64 2], .cells .own [.int .i64 1, .int .i64 1], .cells .own [.int .i64 1, .int .i64 1], .cells .own [.int .i64 1, .int .i64 0], .cells .own [.int .i64 1, .int .i64 0], .cells .own [.int .i64 0, .int .i64 2], .cells .own [.int .i64 0, .int .i64 0], .cells .own [.slc 107 0 2 2 1 true, .slc 106 0 2 2 1 true, .int .u8 0, .int .i64 5, .slc 105 0 2 2 1 true, .slc 104 0 2 2 1 true, .int .u8 0, .int .i64 5, .slc 103 0 2 2 1 true, .slc 102 0 2 2 1 true, .int .u8 0, .int .i64 7, .slc 101 0 2 2 1 true, .slc 100 0 2 2 1 true, .int .u8 1, .int .i64 0], .cells .own [.int .i64 2, .int .i64 3], .cells .own [.int .i64 1, .int .i64 0], .cells .own [.int .u8 0, .int .i64 5, .int .u8 0, .int .i64 5, .int .u8 0, .int .i64 5, .int .u8 0, .int .i64 5, .int .u8 0, .int .i64 8, .int .u8 1, .int .i64 0], .cells .grow [.int .i64 (-1), .int .i64 0, .int .i64 1], .cells .grow [.int .i64 (-1), .int .i64 (-3)], .cells .grow [.int .i64 (-1), .int .i64 (-2)], .cells .grow [.int .i64 0, .slc 114 0 2 2 1 false, .int .i64 0, .slc 113 0 2 2 1 false, .int .i64 1, .slc 112 0 3 3 1 false], .cells .grow [.int .u8 0, .int .i64 5, .int .u8 0, .int .i64 8, .int .u8 1, .int .i64 0], .cells .own [.int .i64 1, .int .i64 0], .cells .own [.int .i64 2, .int .i64 3], .cells .own [.int .i64 1, .int .i64 1]], []⟩
def Aw5 : St := ⟨[(1, .loc 0 0), (2, .val (.int .i64 0)), (3, .loc 1 0), (4, .val (.int .i64 0)), (5, .loc 2 0), (6, .val (.int .i64 0)), (7, .val (.int .i64 4)), (8, .val (.int .i64 0)), (9, .loc 3 0), (10, .val (.int .i64 0)), (11, .loc 4 0), (12, .val (.int .i64 0)), (13, .val (.slc 99 0 1 1 1 false)), (14, .val (.int .i64 0)), (15, .val (.slc 119 0 2 2 1 true)), (16, .val (.int .i64 0)), (17, .loc 5 0), (18, .val (.int .i64 0))], [[.slc 10 0 4 4 4 false], [.slc 29 0 4 4 4 false], [.slc 44 0 2 2 4 false], [.int .i64 5, .int .i64 7, .int .u8 1], [.slc 82 0 3 3 4 false], [.int .u8 1, .int .i64 0]], [.cells .own [.int .i64 2, .int .i64 3], .cells .own [.int .u8 0, .int .i64 5, .int .u8 0, .int .i64 5, .int .u8 0, .int .i64 5, .int .u8 0, .int .i64 5, .int .u8 0, .int .i64 7, .int .u8 1, .int .i64 0], .cells .last [.int .i64 1, .int .i64 2], .cells .last [.int .i64 1, .int .i64 2], .cells .last [.int .i64 1, .int .i64 1], .cells .last [.int .i64 1, .int .i64 1], .cells .last [.int .i64 1, .int .i64 0], .cells .last [.int .i64 1, .int .i64 0], .cells .last [.int .i64 0, .int .i64 2], .cells .last [.int .i64 0, .int .i64 0], .cells .grow [.slc 9 0 2 2 1 false, .slc 8 0 2 2 1 false, .int .u8 0, .int .i64 5, .slc 7 0 2 2 1 false, .slc 6 0 2 2 1 false, .int .u8 0, .int .i64 5, .slc 5 0 2 2 1 false, .slc 4 0 2 2 1 false, .int .u8 0, .int .i64 7, .slc 3 0 2 2 1 false, .slc 2 0 2 2 1 false, .int .u8 1, .int .i64 0], .cells .own [.int .i64 2, .int .i64 3], .cells .own [.int .i64 1, .int .i64 2], .cells .own [.int .i64 1, .int .i64 2], .cells .own [.int .i64 1, .int .i64 1], .cells .own [.int .i64 1, .int .i64 1], .cells .own [.int .i64 0, .int .i64 2], .cells .own [.int .i64 0, .int .i64 1], .cells .own [.int .i64 1, .int .i64 0], .cells .own [.int .i64 0, .int .i64 0], .cells .own [.slc 19 0 2 2 1 true, .slc 18 0 2 2 1 true, .int .u8 0, .int .i64 5, .slc 17 0 2 2 1 true, .slc 16 0 2 2 1 true, .int .u8 0, .int .i64 5, .slc 15 0 2 2 1 true, .slc 14 0 2 2 1 true, .int .u8 0, .int .i64 7, .slc 13 0 2 2 1 true, .slc 12 0 2 2 1 true, .int .u8 1, .int .i64 0], .cells .last [.int .i64 1, .int .i64 2], .cells .last [.int .i64 1, .int .i64 2], .cells .last [.int .i64 1, .int .i64 1], .cells .last [.int .i64 1, .int .i64 1], .cells .last [.int .i64 1, .int .i64 0], .cells .last [.int .i64 1, .int .i64 0], .cells .last [.int .i64 0, .int .i64 2], .cells .last [.int .i64 0, .int .i64 0], .cells .grow [.slc 28 0 2 2 1 false, .slc 27 0 2 2 1 false, .int .u8 0, .int .i64 5, .slc 26 0 2 2 1 false, .slc 25 0 2 2 1 false, .int .u8 0, .int .i64 5, .slc 24 0 2 2 1 false, .slc 23 0 2 2 1 false, .int .u8 0, .int .i64 7, .slc 22 0 2 2 1 false, .slc 21 0 2 2 1 false, .int .u8 1, .int .i64 0], .cells .own [.int .i64 2, .int .i64 3], .cells .own [.int .i64 1, .int .i64 2], .cells .own [.int .i64 1, .int .i64 2], .cells .own [.int .i64 1, .int .i64 1], .cells .own [.int .i64 1, .int .i64 1], .cells .own [.int .i64 0, .int .i64 2], .cells .own [.int .i64 0, .int .i64 1], .cells .own [.int .i64 1, .int .i64 0], .cells .own [.int .i64 0, .int .i64 0], .cells .own [.slc 38 0 2 2 1 true, .slc 37 0 2 2 1 true, .int .u8 0, .int .i64 5, .slc 36 0 2 2 1 true, .slc 35 0 2 2 1 true, .int .u8 0, .int .i64 5, .slc 34 0 2 2 1 true, .slc 33 0 2 2 1 true, .int .u8 0, .int .i64 7, .slc 32 0 2 2 1 true, .slc 31 0 2 2 1 true, .int .u8 1, .int .i64 0], .cells .last [.int .i64 1, .int .i64 2], .cells .last [.int .i64 1, .int .i64 0], .cells .last [.int .i64 0, .int .i64 2], .cells .last [.int .i64 0, .int .i64 0], .cells .grow [.slc 43 0 2 2 1 false, .slc 42 0 2 2 1 false, .int .u8 0, .int .i64 5, .slc 41 0 2 2 1 false, .slc 40 0 2 2 1 false, .int .u8 0, .int .i64 7], .cells .own [.int .i64 2, .int .i64 3], .cells .own [.int .i64 1, .int .i64 2], .cells .own [.int .i64 1, .int .i64 2], .cells .own [.int .i64 1, .int .i64 1], .cells .own [.int .i64 1, .int .i64 1], .cells .own [.int .i64 0, .int .i64 2], .cells .own [.int .i64 0, .int .i64 1], .cells .own [.int .i64 1, .int .i64 0], .cells .own [.int .i64 0, .int .i64 0], .cells .own [.slc 53 0 2 2 1 true, .slc 52 0 2 2 1 true, .int .u8 0, .int .i64 5, .slc 51 0 2 2 1 true, .slc 50 0 2 2 1 true, .int .u8 0, .int .i64 5, .slc 49 0 2 2 1 true, .slc 48 0 2 2 1 true, .int .u8 0, .int .i64 7, .slc 47 0 2 2 1 true, .slc 46 0 2 2 1 true, .int .u8 1, .int .i64 0], .cells .own [.int .i64 2, .int .i64 3], .cells .own [.int .i64 1, .int .i64 2], .cells .own [.int .i64 1, .int .i64 2], .cells .own [.int .i64 1, .int .i64 1], .cells .own [.int .i64 1, .int .i64 1], .cells .own [.int .i64 0, .int .i64 2], .cells .own [.int .i64 0, .int .i64 1], .cells .own [.int .i64 1, .int .i64 0], .cells .own [.int .i64 0, .int .i64 0], .cells .own [.slc 63 0 2 2 1 true, .slc 62 0 2 2 1 true, .int .u8 0, .int .i64 5, .slc 61 0 2 2 1 true, .slc 60 0 2 2 1 true, .int .u8 0, .int .i64 5, .slc 59 0 2 2 1 true, .slc 58 0 2 2 1 true, .int .u8 0, .int .i64 7, .slc 57 0 2 2 1 true, .slc 56 0 2 2 1 true, .int .u8 1, .int .i64 0], .cells .own [.int .i64 2, .int .i64 3], .cells .own [.int .i64 1, .int .i64 2], .cells .own [.int .i64 1, .int .i64 2], .cells .own [.int .i64 1, .int .i64 1], .cells .own [.int .i64 1, .int .i64 1], .cells .own [.int .i64 1, .int .i64 0], .cells .own [.int .i64 1, .int .i64 0], .cells .own [.int .i64 0, .int .i64 2], .cells .own [.int .i64 0, .int .i64 0], .cells .own [.slc 73 0 2 2 1 true, .slc 72 0 2 2 1 true, .int .u8 0, .int .i64 5, .slc 71 0 2 2 1 true, .slc 70 0 2 2 1 true, .int .u8 0, .int .i64 5, .slc 69 0 2 2 1 true, .slc 68 0 2 2 1 true, .int .u8 0, .int .i64 7, .slc 67 0 2 2 1 true, .slc 66 0 2 2 1 true, .int .u8 1, .int .i64 0], .cells .own [.slc 74 0 4 4 4 true], .cells .last [.int .i64 1, .int .i64 2], .cells .last [.int .i64 1, .int .i64 2], .cells .last [.int .i64 1, .int .i64 1], .cells .last [.int .i64 1, .int .i64 0], .cells .last [.int .i64 0, .int .i64 2], .cells .last [.int .i64 0, .int .i64 0], .cells .grow [.slc 81 0 2 2 1 false, .slc 80 0 2 2 1 false, .int .u8 0, .int .i64 0, .slc 79 0 2 2 1 false, .slc 78 0 2 2 1 false, .int .u8 0, .int .i64 0, .slc 77 0 2 2 1 false, .slc 76 0 2 2 1 false, .int .u8 1, .int .i64 0], .cells .own [.int .i64 2], .cells .own [.int .u8 3, .int .i64 0, .int .i64 0, .int .i64 0, .int .i64 0, .int .u8 3, .int .i64 0, .int .i64 0, .int .i64 0, .int .i64 1, .int .u8 10, .int .i64 0, .int .i64 1, .int .i64 0, .int .i64 0], .cells .own [.str ⟨#[100]⟩, .int .i64 1, .int .i64 2, .str ⟨#[101]⟩, .int .i64 0, .int .i64 2], .cells .last [.int .i64 1, .int .i64 2], .cells .last [.int .i64 1, .int .i64 2], .cells .last [.int .i64 1, .int .i64 1], .cells .last [.int .i64 1, .int .i64 1], .cells .last [.int .i64 1, .int .i64 0], .cells .last [.int .i64 1, .int .i64 0], .cells .last [.int .i64 0, .int .i64 2], .cells .last [.int .i64 0, .int .i64 2], .cells .last [.int .i64 0, .int .i64 1], .cells .last [.int .i64 0, .int .i64 1], .cells .last [.int .i64 0, .int .i64 0], .cells .last [.int .i64 0, .int .i64 0], .cells .grow [.slc 97 0 2 2 1 false, .slc 96 0 2 2 1 false, .int .u8 1, .int .i64 0, .slc 95 0 2 2 1 false, .slc 94 0 2 2 1 false, .int .u8 0, .int .i64 1, .slc 93 0 2 2 1 false, .slc 92 0 2 2 1 false, .int .u8 0, .int .i64 0, .slc 91 0 2 2 1 false, .slc 90 0 2 2 1 false, .int .u8 1, .int .i64 0, .slc 89 0 2 2 1 false, .slc 88 0 2 2 1 false, .int .u8 0, .int .i64 2, .slc 87 0 2 2 1 false, .slc 86 0 2 2 1 false, .int .u8 0, .int .i64 1], .cells .own [.slc 98 0 6 6 4 false], .cells .own [.int .i64 1, .int .i64 2], .cells .own [.int .i64 1, .int .i64 2], .cells .own [.int .i64 1, .int .i64 1], .cells .own [.int .i64 1, .int .i64 1], .cells .own [.int .i64 1, .int .i64 0], .cells .own [.int .i64 1, .int .i64 0], .cells .own [.int .i64 0, .int .i64 2], .cells .own [.int .i64 0, .int .i64 0], .cells .own [.slc 107 0 2 2 1 true, .slc 106 0 2 2 1 true, .int .u8 0, .int .i64 5, .slc 105 0 2 2 1 true, .slc 104 0 2 2 1 true, .int .u8 0, .int .i64 5, .slc 103 0 2 2 1 true, .slc 102 0 2 2 1 true, .int .u8 0, .int .i64 7, .slc 101 0 2 2 1 true, .slc 100 0 2 2 1 true, .int .u8 1, .int .i64 0], .cells .own [.int .i64 2, .int .i64 3], .cells .own [.int .i64 1, .int .i64 0], .cells .own [.int .u8 0, .int .i64 5, .int .u8 0, .int .i64 5, .int .u8 0, .int .i64 5, .int .u8 0, .int .i64 5, .int .u8 0, .int .i64 8, .int .u8 1, .int .i64 0], .cells .grow [.int .i64 (-1), .int .i64 0, .int .i64 1], .cells .grow [.int .i64 (-1), .int .i64 (-3)], .cells .grow [.int .i64 (-1), .int .i64 (-2)], .cells .grow [.int .i64 0, .slc 114 0 2 2 1 false, .int .i64 0, .slc 113 0 2 2 1 false, .int .i64 1, .slc 112 0 3 3 1 false], .cells .grow [.int .u8 0, .int .i64 5, .int .u8 0, .int .i64 8, .int .u8 1, .int .i64 0], .cells .own [.int .i64 1, .int .i64 0], .cells .own [.int .i64 2, .int .i64 3], .cells .own [.int .i64 1, .int .i64 1], .cells .own [.int .i64 2, .int .i64 3], .cells .own [.int .i64 1, .int .i64 2], .cells .own [.int .i64 1, .int .i64 2], .cells .own [.int .i64 1, .int .i64 1], .cells .own [.int .i64 1, .int .i64 1], .cells .own [.int .i64 0, .int .i64 2], .cells .own [.int .i64 0, .int .i64 1], .cells .own [.int .i64 1, .int .i64 0], .cells .own [.int .i64 0, .int .i64 0], .cells .own [.slc 128 0 2 2 1 true, .slc 127 0 2 2 1 true, .int .u8 0, .int .i64 5, .slc 126 0 2 2 1 true, .slc 125 0 2 2 1 true, .int .u8 0, .int .i64 5, .slc 124 0 2 2 1 true, .slc 123 0 2 2 1 true, .int .u8 0, .int .i64 7, .slc 122 0 2 2 1 true, .slc 121 0 2 2 1 true, .int .u8 1, .int .i64 0], .cells .own [.int .i64 1, .int .i64 2]], []⟩
theorem Awr1 : runH Tryz.prog T0 (apF Tryz.prog T0 4096 60) 4096 16 (ntF Tryz.prog 16) 4 (bdF Tryz.prog 16) ⟨[], [], [], []⟩ = some Aw1 := by kernel_rfl
theorem Awr2 : runH Tryz.prog T0 (apF Tryz.prog T0 4096 60) 4096 16 (ntF Tryz.prog 16) 3 (tlN 4 (bdF Tryz.prog 16)) Aw1 = some Aw2 := by kernel_rfl
theorem Awr3 : runH Tryz.prog T0 (apF Tryz.prog T0 4096 60) 4096 16 (ntF Tryz.prog 16) 1 (tlN 3 (tlN 4 (bdF Tryz.prog 16))) Aw2 = some Aw3 := by kernel_rfl
theorem Awr4 : runH Tryz.prog T0 (apF Tryz.prog T0 4096 60) 4096 16 (ntF Tryz.prog 16) 1 (tlN 1 (tlN 3 (tlN 4 (bdF Tryz.prog 16)))) Aw3 = some Aw4 := by kernel_rfl
theorem Awr5 : runH Tryz.prog T0 (apF Tryz.prog T0 4096 60) 4096 16 (ntF Tryz.prog 16) 1 (tlN 1 (tlN 1 (tlN 3 (tlN 4 (bdF Tryz.prog 16))))) Aw4 = some Aw5 := by kernel_rfl
theorem Aw_end : endT Tryz.prog 16 (execF Tryz.prog T0 (apF Tryz.prog T0 4096 60) 4096 16 false 0 (ntF Tryz.prog 16) (tlN 1 (tlN 1 (tlN 1 (tlN 3 (tlN 4 (bdF Tryz.prog 16)))))) Aw5) = true := by kernel_rfl
theorem Aw_ok : isT (funF Tryz.prog T0 (apF Tryz.prog T0 4096 60) 4096 16 [] []) = true := endT_ok (runH_ok Awr1 (runH_ok Awr2 (runH_ok Awr3 (runH_ok Awr4 (runH_ok Awr5 (Eq.refl (execF Tryz.prog T0 (apF Tryz.prog T0 4096 60) 4096 16 false 0 (ntF Tryz.prog 16) (tlN 1 (tlN 1 (tlN 1 (tlN 3 (tlN 4 (bdF Tryz.prog 16)))))) Aw5))))))) Aw_end
end Go.Proofs.YtmefgijobonklaaGreat
namespace Go.Proofs.YtmefgijobonklaaGreat
open Go Tw Go.ChangeShapes Go.WideShapes Go.ChangeAt Go.RowKit
theorem Tryz.own : ownKnob Tryz.prog.godebug = none := by kernel_rfl
theorem Tryz.laidOut : laidOutB Tryz.prog = true := by kernel_rfl
theorem Tryz.mixed : Tryz.prog.follows .mixedOrders = true := by kernel_rfl
theorem ext_ok : CallOk Tryz.prog T.ext := extT_ok (closT_ok (T := T0) Tryz.mixed ext0_ok Aw_ok)
end Go.Proofs.YtmefgijobonklaaGreat
namespace Go.Proofs.YtmefgijobonklaaGreat
open Go Tw Pv Go.ChangeShapes Go.WideShapes Go.ChangeAt Go.RowKit
theorem Tryz.tys10 : Tryz.f10.params.toList = [42] := by kernel_rfl
set_option maxRecDepth 100000 in
theorem TableRows_lifted (os : Os) (started : os.Started) (H : Type) (enc : TypeId × Value → H) :
  ReturnsInHanded {} Tryz.checked os 10 .any (Rows.tableRowsSpec.pre6 enc Tryz.prog Tryz.f10 Rows.tableRowsRow.domain false) (Rows.tableRowsSpec.post enc Tryz.prog Tryz.f10 false true false false) := by
 refine returnsInHanded_of_change (C := Tryz.checked) Tryz.own started (by kernel_rfl) Tryz.func10
  (ChangeSpec.witness6 (enc := enc) (C := Tryz.checked) false ⟨#[], #[.agg #[.slice none 0 0, .slice none 0 0]], []⟩ 8 (by kernel_rfl) (by kernel_rfl) (by kernel_rfl) (by kernel_rfl)) ?_
 intro W base args ds gs before hval0 hW hcnd _
 have hval : ∀ (j : Nat) t v, Tryz.f10.params[j]? = some t → args[j]? = some v → Value.okWide Tryz.prog W .any base t v := hval0
 have hW' := hW
 obtain ⟨p, q, hTA0, hV, rfl, hfz, hnd⟩ := hW
 have hTA : DataW.TrodAll enc Tryz.prog W 0 (fun _ => true) true Tryz.f10.params.toList args.toList ds p := hTA0
 obtain ⟨rfl, rfl⟩ := trodVars_none hV
 rw [Tryz.tys10] at hTA
 obtain ⟨d0, _, rfl, r0, _, _, hTA⟩ := trodAll_n hTA
 obtain ⟨_, rfl, _⟩ := trodAll_nil hTA
 obtain ⟨a0, q0, h0⟩ := rAsk (g := 1) d0 r0
 obtain ⟨x0, e0, g0, v0⟩ := h0 ([])
 have w0 := v0 ([])
 simp only [List.append_assoc, List.nil_append, List.append_nil] at w0
 obtain ⟨N, hN⟩ := gc10
 have hcon := hN (N + 1) (by omega) 10 ((Pv.a1 asA).put a0) (tA.put true) [] [∀ r ∈ a0.2, 0 ≤ r.cell.f] rfl (by
  intro p hp
  simp only [List.mem_cons, List.not_mem_nil, or_false] at hp
  subst hp
  exact q0)
 obtain ⟨h', hr⟩ := run_of (h := [] ++ e0) hcon (by simp only [List.append_assoc, List.nil_append, List.append_nil]; exact .cons (.agg w0.1 w0.2) .nil)
 exact law_callsN (P := Tryz.prog) (T := T) (L := LL) (n := N) (g := 7) Tryz.mixed Tryz.laidOut rfl rfl (by kernel_rfl) Tryz.underlying4 (by kernel_rfl) hW' hval
  (by rw [Tryz.tys10]; exact (encA_a (by kernel_rfl) g0 encA_0)) ext_ok (by kernel_rfl) hr
theorem TableRows_holds : Rows.TableRowsSaid :=
 OpenClaim.holds_of_wide 10 Tryz.f10 rfl rfl rfl rfl rfl rfl rfl ⟨rfl, rfl, rfl, rfl, rfl⟩ rfl rfl rfl rfl rfl (by kernel_rfl) Tryz.func10 (by kernel_rfl)
  (of_decide_eq_true (by kernel_rfl)) (by unfold Func.isWrapper; first | (rw [if_pos (by decide +kernel)]; kernel_rfl) | (rw [if_neg (by decide +kernel)]; exact ⟨rfl, rfl⟩))
  (fun os started H enc _ => TableRows_lifted os started H enc)
end Go.Proofs.YtmefgijobonklaaGreat
