-- By a program of this session (wip/tools/mk.py), out of the kit's print of the translation; Lean checks it.
import Derived.Test.YtfihdlekeainpaaUp2
import Derived.Test.YtfihdlekeainpaaUp
import Derived.Test.YtfihdlekeainpaaShort
import Derived.Test.YtfihdlekeainpaaQ0
import Derived.Test.YtfihdlekeainpaaQ33
namespace Go.Proofs.Ytfihdlekeainpaa.Q
open Go.RowKit Go.Proofs.YtfihdlekeainpaaW.PrintWords Go.Proofs.YtfihdlekeainpaaW.PrintLast Go.Proofs.YtfihdlekeainpaaW.PrintMore
attribute [local go_sem] max2_int min2_int max_two min_two max_three min_three max_four min_four   -- for this text's walks alone
set_option linter.unusedVariables false
set_option linter.unusedSimpArgs false

/-! ### waveletref02_SameAll: function 29 -/
def waveletref02_SameAll.l0 : Nat → List (S42) → List (S42) → Int → Option (Bool)
 | 0, _, _, _ => none
 | k + 1, x0, x1, x5 => if x5 < (x0.length : Int) then (if 0 ≤ x5 then (if x5 < (x1.length : Int) then ((waveletref02_Same.f k ((rd_T42 x0 x5).f0.f0) ((rd_T42 x0 x5).f0.f1) ((rd_T42 x0 x5).f0.f2) ((rd_T42 x0 x5).f0.f3) ((rd_T42 x0 x5).f1) ((rd_T42 x1 x5).f0.f0) ((rd_T42 x1 x5).f0.f1) ((rd_T42 x1 x5).f0.f2) ((rd_T42 x1 x5).f0.f3) ((rd_T42 x1 x5).f1)).bind fun t407 => (if t407 = true then (waveletref02_SameAll.l0 k x0 x1 (wrap64 (x5 + 1))) else (some false))) else (none)) else (none)) else (some true)
def waveletref02_SameAll.f (k : Nat) (l0 : List (S42)) (l1 : List (S42)) : Option (Bool) := if (l0.length : Int) = (l1.length : Int) then (waveletref02_SameAll.l0 k l0 l1 0) else (some false)
theorem waveletref02_SameAll.mono_l : ∀ k, (∀ y0 y1 y2, LeO (waveletref02_SameAll.l0 k y0 y1 y2) (waveletref02_SameAll.l0 (k + 1) y0 y1 y2))
 | 0 => fun _ _ _ r h => by simp [waveletref02_SameAll.l0] at h
 | k + 1 => by
  have ih0 := waveletref02_SameAll.mono_l k
  ·intro y0 y1 y2
   unfold waveletref02_SameAll.l0
   repeat' first
   | (with_reducible exact ih0 _ _ _)
   | (with_reducible exact waveletref02_Same.mono _ _ _ _ _ _ _ _ _ _ _)
   | (with_reducible exact LeO.refl _)
   | (with_reducible exact LeO.none _)
   | (with_reducible refine LeO.ite ?_ ?_)
   | (with_reducible refine LeO.bind ?_ (fun _ => ?_))
   | exact ih0 _ _ _
   | exact waveletref02_Same.mono _ _ _ _ _ _ _ _ _ _ _
   | exact LeO.none _
   | refine LeO.ite ?_ ?_
   | refine LeO.bind ?_ (fun _ => ?_)
theorem waveletref02_SameAll.mono : ∀ a0 a1 k, LeO (waveletref02_SameAll.f k a0 a1) (waveletref02_SameAll.f (k + 1) a0 a1) := by
 intro a0 a1 k
 have ih0 := waveletref02_SameAll.mono_l k
 unfold waveletref02_SameAll.f
 repeat' first
   | (with_reducible exact ih0 _ _ _)
   | (with_reducible exact waveletref02_Same.mono _ _ _ _ _ _ _ _ _ _ _)
   | (with_reducible exact LeO.refl _)
   | (with_reducible exact LeO.none _)
   | (with_reducible refine LeO.ite ?_ ?_)
   | (with_reducible refine LeO.bind ?_ (fun _ => ?_))
   | exact ih0 _ _ _
   | exact waveletref02_Same.mono _ _ _ _ _ _ _ _ _ _ _
   | exact LeO.none _
   | refine LeO.ite ?_ ?_
   | refine LeO.bind ?_ (fun _ => ?_)
def waveletref02_SameAll.T6 : Bool × List (List Nat × List Nat) := (true, [([], []), ([], []), ([0, 1], [0, 1]), ([2], [2]), ([], []), ([], []), ([4, 5], [4, 5]), ([6], [6]), ([3, 7], [3, 7]), ([8], [8])])
def waveletref02_SameAll.B6 : List Nat := [0, 0, 3, 7, 0, 0, 48, 112, 255, 511]
theorem waveletref02_SameAll.tab6 : rtab .any (opsOf Try.f29 6) = waveletref02_SameAll.T6 := by kernel_rfl
theorem waveletref02_SameAll.bits6 : waitsOk waveletref02_SameAll.T6.2 waveletref02_SameAll.B6 = true := by kernel_rfl
set_option maxHeartbeats 8000000 in
set_option maxRecDepth 100000 in
theorem waveletref02_SameAll.calls (k : Nat) (A0 : Option Addr) (c0 : Nat) (l0 : List (S42)) (A1 : Option Addr) (c1 : Nat) (l1 : List (S42)) (r : Bool) (w : World) (hr0 : Kd.C k42 w A0 l0.length l0) (hc0 : l0.length ≤ c0) (hr1 : Kd.C k42 w A1 l1.length l1) (hc1 : l1.length ≤ c1) (h : waveletref02_SameAll.f k l0 l1 = some r) :
  Calls Try.prog 29 #[.slice A0 l0.length c0, .slice A1 l1.length c1] w fun e w' => e = .returned (.bool r) ∧ Below w.heap.size w w' := by
 have hu42 := Try.underlying42
 have HR0 := Aside0.mk hr0
 have HC0 := Aside0.mk hc0
 clear hr0 hc0
 have HR1 := Aside0.mk hr1
 have HC1 := Aside0.mk hc1
 clear hr1 hc1
 have HB := Aside0.mk (Below.refl w.heap.size w)
 have H : (if (l0.length : Int) = (l1.length : Int) then (waveletref02_SameAll.l0 k l0 l1 0) else (some false)) = some r := h
 clear h
 by_cases c3 : (l0.length : Int) = (l1.length : Int)
 ·rw [if_pos c3] at H
  have c3b0 : ((l0.length : Int) == (l1.length : Int)) = true := beq_iff_eq.mpr c3
  have c3b1 : ((l0.length : Int) != (l1.length : Int)) = false := bne_eq_false_iff_eq.mpr c3
  have c3b2 : (l0.length == l1.length) = true := by first | simpa using c3 | (simp at c3 ⊢; omega)
  clear c3
  have H' := Aside0.mk H
  clear H
  go_enter Try.func29, Try.ntmps29
  go_wp2
  go_loopg [5] k (fun kq v5 w' => ∃ (x5_1 : Int), v5 = .int .i64 x5_1 ∧ Aside0 (waveletref02_SameAll.l0 kq l0 l1 x5_1 = some r) ∧ Aside0 (kq ≤ k) ∧ Aside0 (Below w.heap.size w w'))
  case atStart => exact ⟨(0), (by first | rfl | (simp; done) | (simp [*]; done)), H', ⟨Nat.le_refl _⟩, ⟨HB.out⟩⟩
  case round =>
   clear H'
   try clear c1; try clear c2; try clear p2; try clear c3; try clear c3b0; try clear c3b1; try clear c3b2
   obtain ⟨x5_1, rfl, HA, HK1, HB⟩ := hrel
   cases gk with
   | zero => exact absurd HA.out (by simp [waveletref02_SameAll.l0])
   | succ k1 =>
    have H := HA.out
    clear HA
    simp only [waveletref02_SameAll.l0] at H
    by_cases c4 : x5_1 < (l0.length : Int)
    ·rw [if_pos c4] at H
     have c4b0 : decide (x5_1 < (l0.length : Int)) = true := decide_eq_true c4
     clear c4
     by_cases c5 : 0 ≤ x5_1
     ·rw [if_pos c5] at H
      have c5b0 : decide (0 ≤ x5_1) = true := decide_eq_true c5
      clear c5
      by_cases c6 : x5_1 < (l1.length : Int)
      ·rw [if_pos c6] at H
       have c6b0 : decide (x5_1 < (l1.length : Int)) = true := decide_eq_true c6
       clear c6
       replace H := Option.bind_eq_some_iff.mp H
       obtain ⟨t407, A70, H⟩ := H
       replace H : (if t407 = true then (waveletref02_SameAll.l0 k1 l0 l1 (wrap64 (x5_1 + 1))) else (some false)) = some r := H
       have A7 := Aside0.mk A70
       clear A70
       by_cases c8 : t407 = true
       ·subst c8
        rw [if_pos rfl] at H
        have H' := Aside0.mk H
        clear H
        try go_wp2
        replace HB := Aside0.mk (below_drew1 HB.out)
        have p405 : 0 ≤ (x5_1 : Int) := of_decide_eq_true (by first | (with_reducible assumption) | assumption)
        have q405 : x5_1 < (l0.length : Int) := of_decide_eq_true (by first | (with_reducible assumption) | assumption)
        obtain ⟨ad405, A405_4, c405_4, e405, hx405_0, hx405_1, hx405_2, hx405_3, hx405_4, hl405_4, hi405_4⟩ := at_T42 HR0.out x5_1 p405 q405
        have hw405_4 := hx405_4
        have hw405_3 := hx405_3
        have hw405_2 := hx405_2
        have hw405_1 := hx405_1
        have hw405_0 := hx405_0
        cases e405
        replace hx405_0 := hc HB hx405_0
        replace hx405_1 := hc HB hx405_1
        replace hx405_2 := hc HB hx405_2
        replace hx405_3 := hc HB hx405_3
        replace hx405_4 := hc HB hx405_4
        have HR405_4 := Aside0.mk hi405_4
        have HC405_4 := Aside0.mk hl405_4
        clear hi405_4 hl405_4
        replace p405 := eq_true p405
        replace q405 := eq_true q405
        have p406 : 0 ≤ (x5_1 : Int) := of_decide_eq_true (by first | (with_reducible assumption) | assumption)
        have q406 : x5_1 < (l1.length : Int) := of_decide_eq_true (by first | (with_reducible assumption) | assumption)
        obtain ⟨ad406, A406_4, c406_4, e406, hx406_0, hx406_1, hx406_2, hx406_3, hx406_4, hl406_4, hi406_4⟩ := at_T42 HR1.out x5_1 p406 q406
        have hw406_4 := hx406_4
        have hw406_3 := hx406_3
        have hw406_2 := hx406_2
        have hw406_1 := hx406_1
        have hw406_0 := hx406_0
        cases e406
        replace hx406_0 := hc HB hx406_0
        replace hx406_1 := hc HB hx406_1
        replace hx406_2 := hc HB hx406_2
        replace hx406_3 := hc HB hx406_3
        replace hx406_4 := hc HB hx406_4
        have HR406_4 := Aside0.mk hi406_4
        have HC406_4 := Aside0.mk hl406_4
        clear hi406_4 hl406_4
        replace p406 := eq_true p406
        replace q406 := eq_true q406
        refine start_ (n := 10) (S := fun w' => w'.cell? (ad405.add ((x5_1).toNat * 5)) = some (.int .i64 ((rd_T42 l0 x5_1).f0.f0)) ∧ w'.cell? ⟨(ad405.add ((x5_1).toNat * 5)).block, (ad405.add ((x5_1).toNat * 5)).off + 1, none⟩ = some (.int .i64 ((rd_T42 l0 x5_1).f0.f1)) ∧ w'.cell? ⟨(ad405.add ((x5_1).toNat * 5)).block, (ad405.add ((x5_1).toNat * 5)).off + 2, none⟩ = some (.int .i64 ((rd_T42 l0 x5_1).f0.f2)) ∧ w'.cell? ⟨(ad405.add ((x5_1).toNat * 5)).block, (ad405.add ((x5_1).toNat * 5)).off + 3, none⟩ = some (.int .i64 ((rd_T42 l0 x5_1).f0.f3)) ∧ w'.cell? ⟨(ad405.add ((x5_1).toNat * 5)).block, (ad405.add ((x5_1).toNat * 5)).off + 4, none⟩ = some (.slice A405_4 ((rd_T42 l0 x5_1).f1).length c405_4) ∧ w'.cell? (ad406.add ((x5_1).toNat * 5)) = some (.int .i64 ((rd_T42 l1 x5_1).f0.f0)) ∧ w'.cell? ⟨(ad406.add ((x5_1).toNat * 5)).block, (ad406.add ((x5_1).toNat * 5)).off + 1, none⟩ = some (.int .i64 ((rd_T42 l1 x5_1).f0.f1)) ∧ w'.cell? ⟨(ad406.add ((x5_1).toNat * 5)).block, (ad406.add ((x5_1).toNat * 5)).off + 2, none⟩ = some (.int .i64 ((rd_T42 l1 x5_1).f0.f2)) ∧ w'.cell? ⟨(ad406.add ((x5_1).toNat * 5)).block, (ad406.add ((x5_1).toNat * 5)).off + 3, none⟩ = some (.int .i64 ((rd_T42 l1 x5_1).f0.f3)) ∧ w'.cell? ⟨(ad406.add ((x5_1).toNat * 5)).block, (ad406.add ((x5_1).toNat * 5)).off + 4, none⟩ = some (.slice A406_4 ((rd_T42 l1 x5_1).f1).length c406_4)) (ds := []) #[false, false, false, false, false, false, false, false, false, false] (by kernel_rfl) rfl rfl ⟨(hc HB hw405_0), (hc HB hw405_1), (hc HB hw405_2), (hc HB hw405_3), (hc HB hw405_4), (hc HB hw406_0), (hc HB hw406_1), (hc HB hw406_2), (hc HB hw406_3), (hc HB hw406_4)⟩ (fun hHeld => ?_); refine with_tabW waveletref02_SameAll.tab6 waveletref02_SameAll.bits6 (fun HT_ HW_ => ?_)
        generalize wr.drew = w9 at HB HR405_4 HR406_4 hx405_0 hx405_1 hx405_2 hx405_3 hx405_4 hx406_0 hx406_1 hx406_2 hx406_3 hx406_4 hHeld ⊢
        refine puX 0 17 (MK [1, 9]) HT_.out ?_
        refine puX 1 18 (MK [2, 8]) HT_.out ?_
        refine puX 2 19 (MK [3, 7]) HT_.out ?_
        refine puX 4 21 (MK [3, 1, 1, 5]) HT_.out ?_
        refine puX 5 22 (MK [3, 1, 2, 4]) HT_.out ?_
        refine puX 6 23 (MK [3, 1, 3, 3]) HT_.out ?_
        refine taX 3 20 (MK [7, 3]) HT_.out HW_.out hHeld ?_
        refine taX 7 24 (MK [8, 2]) HT_.out HW_.out hHeld ?_
        refine onX 8 25 (MK [9, 1]) HT_.out (fun K hK => ?_)
        refine goes_ Try.func42 (by kernel_rfl) rfl #[.agg #[.int .i64 ((rd_T42 l0 x5_1).f0.f0), .int .i64 ((rd_T42 l0 x5_1).f0.f1), .int .i64 ((rd_T42 l0 x5_1).f0.f2), .int .i64 ((rd_T42 l0 x5_1).f0.f3), .slice A405_4 ((rd_T42 l0 x5_1).f1).length c405_4], .agg #[.int .i64 ((rd_T42 l1 x5_1).f0.f0), .int .i64 ((rd_T42 l1 x5_1).f0.f1), .int .i64 ((rd_T42 l1 x5_1).f0.f2), .int .i64 ((rd_T42 l1 x5_1).f0.f3), .slice A406_4 ((rd_T42 l1 x5_1).f1).length c406_4]] (by rfl) rfl rfl upL ?_
        with_reducible refine (waveletref02_Same.calls k1 ((rd_T42 l0 x5_1).f0.f0) ((rd_T42 l0 x5_1).f0.f1) ((rd_T42 l0 x5_1).f0.f2) ((rd_T42 l0 x5_1).f0.f3) _ _ ((rd_T42 l0 x5_1).f1) ((rd_T42 l1 x5_1).f0.f0) ((rd_T42 l1 x5_1).f0.f1) ((rd_T42 l1 x5_1).f0.f2) ((rd_T42 l1 x5_1).f0.f3) _ _ ((rd_T42 l1 x5_1).f1) true _ ?side1 ?side2 ?side3 ?side4 A7.out).mono ?_
        (case side1 => repeat (first | exact (Kd.C_below HR405_4.out HB.out) | (with_reducible refine Kd.C_alloc ?_ _) | (with_reducible refine Kd.C_drewN ?_ _) | (with_reducible refine Kd.C_drew ?_)))
        (case side2 => exact HC405_4.out)
        (case side3 => repeat (first | exact (Kd.C_below HR406_4.out HB.out) | (with_reducible refine Kd.C_alloc ?_ _) | (with_reducible refine Kd.C_drewN ?_ _) | (with_reducible refine Kd.C_drew ?_)))
        (case side4 => exact HC406_4.out)
        rintro e w10 ⟨rfl, hb⟩
        refine ⟨_, rfl, ?_⟩
        replace HB := Aside0.mk (below_step HB.out hb)
        (try clear hb); (try clear hb2); (try clear hk); (try clear hi)
        refine hK.out _ _ ⟨(hc HB hw405_0), (hc HB hw405_1), (hc HB hw405_2), (hc HB hw405_3), (hc HB hw405_4), (hc HB hw406_0), (hc HB hw406_1), (hc HB hw406_2), (hc HB hw406_3), (hc HB hw406_4)⟩ (fun hHeld => ?_)
        clear hK K
        refine noX ?_
        refine puX 9 26 (MK [10]) HT_.out ?_
        refine done_ (done_of HT_.out (by kernel_rfl)) ?_
        try go_wp2
        go_roundg k1
        case measure => have := HK1.out; omega
        case rel => exact ⟨(wrap64 (x5_1 + 1)), (by first | rfl | (simp; done) | (simp [*]; done)), H', ⟨by have := HK1.out; omega⟩, ⟨HB.out⟩⟩
       ·replace c8 := Bool.eq_false_iff.mpr c8
        subst c8
        rw [if_neg (show ¬ (false = true) by decide)] at H
        obtain rfl := Option.some.inj H
        try go_wp2
        replace HB := Aside0.mk (below_drew1 HB.out)
        have p405 : 0 ≤ (x5_1 : Int) := of_decide_eq_true (by first | (with_reducible assumption) | assumption)
        have q405 : x5_1 < (l0.length : Int) := of_decide_eq_true (by first | (with_reducible assumption) | assumption)
        obtain ⟨ad405, A405_4, c405_4, e405, hx405_0, hx405_1, hx405_2, hx405_3, hx405_4, hl405_4, hi405_4⟩ := at_T42 HR0.out x5_1 p405 q405
        have hw405_4 := hx405_4
        have hw405_3 := hx405_3
        have hw405_2 := hx405_2
        have hw405_1 := hx405_1
        have hw405_0 := hx405_0
        cases e405
        replace hx405_0 := hc HB hx405_0
        replace hx405_1 := hc HB hx405_1
        replace hx405_2 := hc HB hx405_2
        replace hx405_3 := hc HB hx405_3
        replace hx405_4 := hc HB hx405_4
        have HR405_4 := Aside0.mk hi405_4
        have HC405_4 := Aside0.mk hl405_4
        clear hi405_4 hl405_4
        replace p405 := eq_true p405
        replace q405 := eq_true q405
        have p406 : 0 ≤ (x5_1 : Int) := of_decide_eq_true (by first | (with_reducible assumption) | assumption)
        have q406 : x5_1 < (l1.length : Int) := of_decide_eq_true (by first | (with_reducible assumption) | assumption)
        obtain ⟨ad406, A406_4, c406_4, e406, hx406_0, hx406_1, hx406_2, hx406_3, hx406_4, hl406_4, hi406_4⟩ := at_T42 HR1.out x5_1 p406 q406
        have hw406_4 := hx406_4
        have hw406_3 := hx406_3
        have hw406_2 := hx406_2
        have hw406_1 := hx406_1
        have hw406_0 := hx406_0
        cases e406
        replace hx406_0 := hc HB hx406_0
        replace hx406_1 := hc HB hx406_1
        replace hx406_2 := hc HB hx406_2
        replace hx406_3 := hc HB hx406_3
        replace hx406_4 := hc HB hx406_4
        have HR406_4 := Aside0.mk hi406_4
        have HC406_4 := Aside0.mk hl406_4
        clear hi406_4 hl406_4
        replace p406 := eq_true p406
        replace q406 := eq_true q406
        refine start_ (n := 10) (S := fun w' => w'.cell? (ad405.add ((x5_1).toNat * 5)) = some (.int .i64 ((rd_T42 l0 x5_1).f0.f0)) ∧ w'.cell? ⟨(ad405.add ((x5_1).toNat * 5)).block, (ad405.add ((x5_1).toNat * 5)).off + 1, none⟩ = some (.int .i64 ((rd_T42 l0 x5_1).f0.f1)) ∧ w'.cell? ⟨(ad405.add ((x5_1).toNat * 5)).block, (ad405.add ((x5_1).toNat * 5)).off + 2, none⟩ = some (.int .i64 ((rd_T42 l0 x5_1).f0.f2)) ∧ w'.cell? ⟨(ad405.add ((x5_1).toNat * 5)).block, (ad405.add ((x5_1).toNat * 5)).off + 3, none⟩ = some (.int .i64 ((rd_T42 l0 x5_1).f0.f3)) ∧ w'.cell? ⟨(ad405.add ((x5_1).toNat * 5)).block, (ad405.add ((x5_1).toNat * 5)).off + 4, none⟩ = some (.slice A405_4 ((rd_T42 l0 x5_1).f1).length c405_4) ∧ w'.cell? (ad406.add ((x5_1).toNat * 5)) = some (.int .i64 ((rd_T42 l1 x5_1).f0.f0)) ∧ w'.cell? ⟨(ad406.add ((x5_1).toNat * 5)).block, (ad406.add ((x5_1).toNat * 5)).off + 1, none⟩ = some (.int .i64 ((rd_T42 l1 x5_1).f0.f1)) ∧ w'.cell? ⟨(ad406.add ((x5_1).toNat * 5)).block, (ad406.add ((x5_1).toNat * 5)).off + 2, none⟩ = some (.int .i64 ((rd_T42 l1 x5_1).f0.f2)) ∧ w'.cell? ⟨(ad406.add ((x5_1).toNat * 5)).block, (ad406.add ((x5_1).toNat * 5)).off + 3, none⟩ = some (.int .i64 ((rd_T42 l1 x5_1).f0.f3)) ∧ w'.cell? ⟨(ad406.add ((x5_1).toNat * 5)).block, (ad406.add ((x5_1).toNat * 5)).off + 4, none⟩ = some (.slice A406_4 ((rd_T42 l1 x5_1).f1).length c406_4)) (ds := []) #[false, false, false, false, false, false, false, false, false, false] (by kernel_rfl) rfl rfl ⟨(hc HB hw405_0), (hc HB hw405_1), (hc HB hw405_2), (hc HB hw405_3), (hc HB hw405_4), (hc HB hw406_0), (hc HB hw406_1), (hc HB hw406_2), (hc HB hw406_3), (hc HB hw406_4)⟩ (fun hHeld => ?_); refine with_tabW waveletref02_SameAll.tab6 waveletref02_SameAll.bits6 (fun HT_ HW_ => ?_)
        generalize wr.drew = w11 at HB HR405_4 HR406_4 hx405_0 hx405_1 hx405_2 hx405_3 hx405_4 hx406_0 hx406_1 hx406_2 hx406_3 hx406_4 hHeld ⊢
        refine puX 0 17 (MK [1, 9]) HT_.out ?_
        refine puX 1 18 (MK [2, 8]) HT_.out ?_
        refine puX 2 19 (MK [3, 7]) HT_.out ?_
        refine puX 4 21 (MK [3, 1, 1, 5]) HT_.out ?_
        refine puX 5 22 (MK [3, 1, 2, 4]) HT_.out ?_
        refine puX 6 23 (MK [3, 1, 3, 3]) HT_.out ?_
        refine taX 3 20 (MK [7, 3]) HT_.out HW_.out hHeld ?_
        refine taX 7 24 (MK [8, 2]) HT_.out HW_.out hHeld ?_
        refine onX 8 25 (MK [9, 1]) HT_.out (fun K hK => ?_)
        refine goes_ Try.func42 (by kernel_rfl) rfl #[.agg #[.int .i64 ((rd_T42 l0 x5_1).f0.f0), .int .i64 ((rd_T42 l0 x5_1).f0.f1), .int .i64 ((rd_T42 l0 x5_1).f0.f2), .int .i64 ((rd_T42 l0 x5_1).f0.f3), .slice A405_4 ((rd_T42 l0 x5_1).f1).length c405_4], .agg #[.int .i64 ((rd_T42 l1 x5_1).f0.f0), .int .i64 ((rd_T42 l1 x5_1).f0.f1), .int .i64 ((rd_T42 l1 x5_1).f0.f2), .int .i64 ((rd_T42 l1 x5_1).f0.f3), .slice A406_4 ((rd_T42 l1 x5_1).f1).length c406_4]] (by rfl) rfl rfl upL ?_
        with_reducible refine (waveletref02_Same.calls k1 ((rd_T42 l0 x5_1).f0.f0) ((rd_T42 l0 x5_1).f0.f1) ((rd_T42 l0 x5_1).f0.f2) ((rd_T42 l0 x5_1).f0.f3) _ _ ((rd_T42 l0 x5_1).f1) ((rd_T42 l1 x5_1).f0.f0) ((rd_T42 l1 x5_1).f0.f1) ((rd_T42 l1 x5_1).f0.f2) ((rd_T42 l1 x5_1).f0.f3) _ _ ((rd_T42 l1 x5_1).f1) false _ ?side1 ?side2 ?side3 ?side4 A7.out).mono ?_
        (case side1 => repeat (first | exact (Kd.C_below HR405_4.out HB.out) | (with_reducible refine Kd.C_alloc ?_ _) | (with_reducible refine Kd.C_drewN ?_ _) | (with_reducible refine Kd.C_drew ?_)))
        (case side2 => exact HC405_4.out)
        (case side3 => repeat (first | exact (Kd.C_below HR406_4.out HB.out) | (with_reducible refine Kd.C_alloc ?_ _) | (with_reducible refine Kd.C_drewN ?_ _) | (with_reducible refine Kd.C_drew ?_)))
        (case side4 => exact HC406_4.out)
        rintro e w12 ⟨rfl, hb⟩
        refine ⟨_, rfl, ?_⟩
        replace HB := Aside0.mk (below_step HB.out hb)
        (try clear hb); (try clear hb2); (try clear hk); (try clear hi)
        refine hK.out _ _ ⟨(hc HB hw405_0), (hc HB hw405_1), (hc HB hw405_2), (hc HB hw405_3), (hc HB hw405_4), (hc HB hw406_0), (hc HB hw406_1), (hc HB hw406_2), (hc HB hw406_3), (hc HB hw406_4)⟩ (fun hHeld => ?_)
        clear hK K
        refine noX ?_
        refine puX 9 26 (MK [10]) HT_.out ?_
        refine done_ (done_of HT_.out (by kernel_rfl)) ?_
        try go_wp2
        go_ret
        exact ⟨by first | rfl | (simp [errW_none, errW_some] <;> rfl) | (simp [*, errW_none, errW_some] <;> rfl), HB.out⟩
      ·rw [if_neg c6] at H
       exact absurd H (by simp)
     ·rw [if_neg c5] at H
      exact absurd H (by simp)
    ·rw [if_neg c4] at H
     have c4b0 : decide (x5_1 < (l0.length : Int)) = false := decide_eq_false c4
     clear c4
     obtain rfl := Option.some.inj H
     go_wp2
     go_ret
     exact ⟨by first | rfl | (simp [errW_none, errW_some] <;> rfl) | (simp [*, errW_none, errW_some] <;> rfl), HB.out⟩
 ·rw [if_neg c3] at H
  have c3b0 : ((l0.length : Int) == (l1.length : Int)) = false := beq_eq_false_iff_ne.mpr c3
  have c3b1 : ((l0.length : Int) != (l1.length : Int)) = true := bne_iff_ne.mpr c3
  have c3b2 : (l0.length == l1.length) = false := by first | simpa using c3 | (simp at c3 ⊢; omega)
  obtain rfl := Option.some.inj H
  go_enter Try.func29, Try.ntmps29
  go_wp2
  go_ret
  exact ⟨by first | rfl | (simp [errW_none, errW_some] <;> rfl) | (simp [*, errW_none, errW_some] <;> rfl), HB.out⟩

end Go.Proofs.Ytfihdlekeainpaa.Q
