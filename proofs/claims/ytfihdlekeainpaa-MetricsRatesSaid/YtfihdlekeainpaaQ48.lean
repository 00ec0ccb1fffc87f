-- By a program of this session (wip/tools/mk.py), out of the kit's print of the translation; Lean checks it.
import Derived.Test.YtfihdlekeainpaaUp2
import Derived.Test.YtfihdlekeainpaaUp
import Derived.Test.YtfihdlekeainpaaShort
import Derived.Test.YtfihdlekeainpaaQ0
import Derived.Test.YtfihdlekeainpaaQ25
import Derived.Test.YtfihdlekeainpaaQ42
import Derived.Test.YtfihdlekeainpaaQ47
namespace Go.Proofs.Ytfihdlekeainpaa.Q
open Go.RowKit Go.Proofs.YtfihdlekeainpaaW.PrintWords Go.Proofs.YtfihdlekeainpaaW.PrintLast Go.Proofs.YtfihdlekeainpaaW.PrintMore
attribute [local go_sem] max2_int min2_int max_two min_two max_three min_three max_four min_four   -- for this text's walks alone
set_option linter.unusedVariables false
set_option linter.unusedSimpArgs false

/-! ### waveletref50_Rate: function 25 -/
mutual
def waveletref50_Rate.j0 : Nat → Int → Bool → Int → Int → Int → Int → Int → Int → List (S51) → Option (Int × Int)
 | 0, _, _, _, _, _, _, _, _, _ => none
 | k + 1, x0, x19, x498000, x498001, x498002, x498003, x498004, x498005, x498006 => if x19 = true then (some (0, 2)) else (waveletref50_Rate.l0 k x0 0 0 x498000 x498001 x498002 x498003 x498004 x498005 x498006)
def waveletref50_Rate.l0 : Nat → Int → Int → Int → Int → Int → Int → Int → Int → Int → List (S51) → Option (Int × Int)
 | 0, _, _, _, _, _, _, _, _, _, _ => none
 | k + 1, x0, x7, x8, x498000, x498001, x498002, x498003, x498004, x498005, x498006 => if x8 < (x498006.length : Int) then (if 0 ≤ x8 then ((waveletref01_Reduce.f k x498000 x498001 x498002 x498003 ((rd_T51 x498006 x8).f2) ((rd_T51 x498006 x8).f3)).bind fun bt501 => ((waveletref01_Area.f bt501.1 bt501.2.1 bt501.2.2.1 bt501.2.2.2).bind fun t505 => (waveletref50_Rate.l0 k x0 (wrap64 (x7 + t505)) (wrap64 (x8 + 1)) x498000 x498001 x498002 x498003 x498004 x498005 x498006))) else (none)) else (if x7 = 0 then (none) else (some (wrap64 (Int.tdiv (wrap64 (8000 * x0)) x7), 0)))
end
def waveletref50_Rate.f (k : Nat) (a0 : Int) (a1_0 : Int) (a1_1 : Int) (a1_2 : Int) (a1_3 : Int) (a1_4 : Int) (a1_5 : Int) (l1_6 : List (S51)) : Option (Int × Int) := (waveletref23_Header.f k a1_0 a1_1 a1_2 a1_3 a1_4 a1_5 l1_6).bind fun t498 => (if t498 = 0 then (if a0 < 0 then (waveletref50_Rate.j0 k a0 true a1_0 a1_1 a1_2 a1_3 a1_4 a1_5 l1_6) else (waveletref50_Rate.j0 k a0 (decide (a0 > 67108864)) a1_0 a1_1 a1_2 a1_3 a1_4 a1_5 l1_6)) else (some (0, t498)))
theorem waveletref50_Rate.mono_l : ∀ k, (∀ y0 y1 y2 y3 y4 y5 y6 y7 y8, LeO (waveletref50_Rate.j0 k y0 y1 y2 y3 y4 y5 y6 y7 y8) (waveletref50_Rate.j0 (k + 1) y0 y1 y2 y3 y4 y5 y6 y7 y8)) ∧ (∀ y0 y1 y2 y3 y4 y5 y6 y7 y8 y9, LeO (waveletref50_Rate.l0 k y0 y1 y2 y3 y4 y5 y6 y7 y8 y9) (waveletref50_Rate.l0 (k + 1) y0 y1 y2 y3 y4 y5 y6 y7 y8 y9))
 | 0 => ⟨fun _ _ _ _ _ _ _ _ _ r h => by simp [waveletref50_Rate.j0] at h, fun _ _ _ _ _ _ _ _ _ _ r h => by simp [waveletref50_Rate.l0] at h⟩
 | k + 1 => by
  obtain ⟨ih0, ih1⟩ := waveletref50_Rate.mono_l k
  refine ⟨?_, ?_⟩
  ·intro y0 y1 y2 y3 y4 y5 y6 y7 y8
   unfold waveletref50_Rate.j0
   repeat' first
   | (with_reducible exact ih0 _ _ _ _ _ _ _ _ _)
   | (with_reducible exact ih1 _ _ _ _ _ _ _ _ _ _)
   | (with_reducible exact waveletref01_Reduce.mono _ _ _ _ _ _ _)
   | (with_reducible exact waveletref23_Header.mono _ _ _ _ _ _ _ _)
   | (with_reducible exact LeO.refl _)
   | (with_reducible exact LeO.none _)
   | (with_reducible refine LeO.ite ?_ ?_)
   | (with_reducible refine LeO.bind ?_ (fun _ => ?_))
   | exact ih0 _ _ _ _ _ _ _ _ _
   | exact ih1 _ _ _ _ _ _ _ _ _ _
   | exact waveletref01_Reduce.mono _ _ _ _ _ _ _
   | exact waveletref23_Header.mono _ _ _ _ _ _ _ _
   | exact LeO.none _
   | refine LeO.ite ?_ ?_
   | refine LeO.bind ?_ (fun _ => ?_)
  ·intro y0 y1 y2 y3 y4 y5 y6 y7 y8 y9
   unfold waveletref50_Rate.l0
   repeat' first
   | (with_reducible exact ih0 _ _ _ _ _ _ _ _ _)
   | (with_reducible exact ih1 _ _ _ _ _ _ _ _ _ _)
   | (with_reducible exact waveletref01_Reduce.mono _ _ _ _ _ _ _)
   | (with_reducible exact waveletref23_Header.mono _ _ _ _ _ _ _ _)
   | (with_reducible exact LeO.refl _)
   | (with_reducible exact LeO.none _)
   | (with_reducible refine LeO.ite ?_ ?_)
   | (with_reducible refine LeO.bind ?_ (fun _ => ?_))
   | exact ih0 _ _ _ _ _ _ _ _ _
   | exact ih1 _ _ _ _ _ _ _ _ _ _
   | exact waveletref01_Reduce.mono _ _ _ _ _ _ _
   | exact waveletref23_Header.mono _ _ _ _ _ _ _ _
   | exact LeO.none _
   | refine LeO.ite ?_ ?_
   | refine LeO.bind ?_ (fun _ => ?_)
theorem waveletref50_Rate.mono : ∀ a0 a1 a2 a3 a4 a5 a6 a7 k, LeO (waveletref50_Rate.f k a0 a1 a2 a3 a4 a5 a6 a7) (waveletref50_Rate.f (k + 1) a0 a1 a2 a3 a4 a5 a6 a7) := by
 intro a0 a1 a2 a3 a4 a5 a6 a7 k
 obtain ⟨ih0, ih1⟩ := waveletref50_Rate.mono_l k
 unfold waveletref50_Rate.f
 repeat' first
   | (with_reducible exact ih0 _ _ _ _ _ _ _ _ _)
   | (with_reducible exact ih1 _ _ _ _ _ _ _ _ _ _)
   | (with_reducible exact waveletref01_Reduce.mono _ _ _ _ _ _ _)
   | (with_reducible exact waveletref23_Header.mono _ _ _ _ _ _ _ _)
   | (with_reducible exact LeO.refl _)
   | (with_reducible exact LeO.none _)
   | (with_reducible refine LeO.ite ?_ ?_)
   | (with_reducible refine LeO.bind ?_ (fun _ => ?_))
   | exact ih0 _ _ _ _ _ _ _ _ _
   | exact ih1 _ _ _ _ _ _ _ _ _ _
   | exact waveletref01_Reduce.mono _ _ _ _ _ _ _
   | exact waveletref23_Header.mono _ _ _ _ _ _ _ _
   | exact LeO.none _
   | refine LeO.ite ?_ ?_
   | refine LeO.bind ?_ (fun _ => ?_)
def waveletref50_Rate.T10 : Bool × List (List Nat × List Nat) := (true, [([], []), ([], []), ([1], [1]), ([], []), ([3], [3]), ([], []), ([4, 5], [4, 5]), ([6], [6]), ([7], [7]), ([], []), ([9], [9]), ([], []), ([10, 11], [10, 11]), ([12], [12]), ([13], [13]), ([2, 8, 14], [2, 8, 14]), ([15, 15], [15]), ([0, 16], [0, 16]), ([17, 16, 0, 1, 2, 3, 4, 5, 6, 7, 8, 9, 10, 11, 12, 13, 14, 15, 16, 17], [0, 17])])
def waveletref50_Rate.B10 : List Nat := [0, 0, 2, 0, 8, 0, 56, 120, 248, 0, 512, 0, 3584, 7680, 15872, 32766, 65534, 131071, 262143]
theorem waveletref50_Rate.tab10 : rtab .any (opsOf Try.f25 10) = waveletref50_Rate.T10 := by kernel_rfl
theorem waveletref50_Rate.bits10 : waitsOk waveletref50_Rate.T10.2 waveletref50_Rate.B10 = true := by kernel_rfl
set_option maxHeartbeats 8000000 in
set_option maxRecDepth 100000 in
theorem waveletref50_Rate.calls (k : Nat) (a0 : Int) (a1_0 : Int) (a1_1 : Int) (a1_2 : Int) (a1_3 : Int) (a1_4 : Int) (a1_5 : Int) (A1_6 : Option Addr) (c1_6 : Nat) (l1_6 : List (S51)) (r1 : Int) (r2 : Int) (w : World) (hr1_6 : Kd.C k51 w A1_6 l1_6.length l1_6) (hc1_6 : l1_6.length ≤ c1_6) (h : waveletref50_Rate.f k a0 a1_0 a1_1 a1_2 a1_3 a1_4 a1_5 l1_6 = some (r1, r2)) :
  Calls Try.prog 25 #[.int .i64 a0, .agg #[.int .i64 a1_0, .int .i64 a1_1, .int .i64 a1_2, .int .i64 a1_3, .int .i64 a1_4, .int .i64 a1_5, .slice A1_6 l1_6.length c1_6]] w fun e w' => e = .returned (.tuple #[.int .i64 r1, .int .i64 r2]) ∧ Below w.heap.size w w' := by
 have hu26 := Try.underlying26
 have hu23 := Try.underlying23
 have HR1_6 := Aside0.mk hr1_6
 have HC1_6 := Aside0.mk hc1_6
 clear hr1_6 hc1_6
 have HB := Aside0.mk (Below.refl w.heap.size w)
 have H : ((waveletref23_Header.f k a1_0 a1_1 a1_2 a1_3 a1_4 a1_5 l1_6).bind fun t498 => (if t498 = 0 then (if a0 < 0 then (waveletref50_Rate.j0 k a0 true a1_0 a1_1 a1_2 a1_3 a1_4 a1_5 l1_6) else (waveletref50_Rate.j0 k a0 (decide (a0 > 67108864)) a1_0 a1_1 a1_2 a1_3 a1_4 a1_5 l1_6)) else (some (0, t498)))) = some (r1, r2) := h
 clear h
 replace H := Option.bind_eq_some_iff.mp H
 obtain ⟨t498, A30, H⟩ := H
 replace H : (if t498 = 0 then (if a0 < 0 then (waveletref50_Rate.j0 k a0 true a1_0 a1_1 a1_2 a1_3 a1_4 a1_5 l1_6) else (waveletref50_Rate.j0 k a0 (decide (a0 > 67108864)) a1_0 a1_1 a1_2 a1_3 a1_4 a1_5 l1_6)) else (some (0, t498))) = some (r1, r2) := H
 have A3 := Aside0.mk A30
 clear A30
 by_cases c4 : t498 = 0
 ·rw [if_pos c4] at H
  have c4b0 : (t498 == 0) = true := beq_iff_eq.mpr c4
  have c4b1 : (t498 != 0) = false := bne_eq_false_iff_eq.mpr c4
  clear c4
  have HC5 := Aside0.mk H
  clear H
  go_enter Try.func25, Try.ntmps25
  go_upto_region 4 with (first | ((with_reducible refine gate_dst (N := 3) rfl ?_); refine box_event ?hg (N := 3) ?hd (cs := #[.int .i64 a1_0, .int .i64 a1_1, .int .i64 a1_2, .int .i64 a1_3, .int .i64 a1_4, .int .i64 a1_5, .slice A1_6 l1_6.length c1_6]) (t := 26) ?hr ?_; (case hd => rfl); (case hg => rfl); (case hr => first | (go_simp; done) | (go_simp; rfl)); intro gb497 hg w6 hbox hb; have BK497 := Aside0.mk (hbox); have GW497 := Aside0.mk ((by rw [hg]; exact (below_size HB.out) : w.heap.size ≤ gb497)); have GE497 := Aside0.mk ((by rw [hg]; exact (below_size HB.out) : w.heap.size ≤ gb497)); replace HB := Aside0.mk (below_step HB.out hb); clear hb hbox hg; obtain ⟨hcz7_0, hcz7_1, hcz7_2, hcz7_3, hcz7_4, hcz7_5, hcz7_6, hfz7_0, hfz7_1, hfz7_2, hfz7_3, hfz7_4, hfz7_5, hfz7_6⟩ := blk_all7 BK497.out) | ((with_reducible refine gate_callee (f := 35) rfl ?_); refine goesL_ (some 10) rfl rfl Try.func35 (by kernel_rfl) rfl #[.agg #[.int .i64 a1_0, .int .i64 a1_1, .int .i64 a1_2, .int .i64 a1_3, .int .i64 a1_4, .int .i64 a1_5, .slice A1_6 l1_6.length c1_6]] rfl upL ?_; (with_reducible refine (waveletref23_Header.calls k a1_0 a1_1 a1_2 a1_3 a1_4 a1_5 _ _ l1_6 t498 _ ?side1 ?side2 A3.out).mono ?_); (case side1 => repeat (first | exact (Kd.C_below HR1_6.out HB.out) | (with_reducible refine Kd.C_alloc ?_ _) | (with_reducible refine Kd.C_drewN ?_ _) | (with_reducible refine Kd.C_drew ?_))); (case side2 => exact HC1_6.out); rintro e w8 ⟨rfl, hb⟩; refine ⟨_, rfl, ?_⟩; replace BK497 := Aside0.mk (blk_below BK497.out hb); replace HB := Aside0.mk (below_step HB.out hb); (try clear hb; try clear hb2; try clear hk; try clear hi)))
  (try simp only [Act.put, List.setIfInBounds_toArray, List.set_cons_zero, List.set_cons_succ])
  go_cut [19] (fun v19 wc => ∃ (kq : Nat) (x19_4 : Bool), v19 = .bool x19_4 ∧ Aside0 (waveletref50_Rate.j0 kq a0 x19_4 a1_0 a1_1 a1_2 a1_3 a1_4 a1_5 l1_6 = some (r1, r2)) ∧ Aside0 (kq ≤ k) ∧ Aside0 (wc.heap[gb497]? = some (.cells #[.int .i64 a1_0, .int .i64 a1_1, .int .i64 a1_2, .int .i64 a1_3, .int .i64 a1_4, .int .i64 a1_5, (.slice A1_6 l1_6.length c1_6)] 26 (0, 0))) ∧ Aside0 (Below w.heap.size w wc))
  case first =>
   have H := HC5.out
   clear HC5
   by_cases c9 : a0 < 0
   ·rw [if_pos c9] at H
    have c9b0 : decide (a0 < 0) = true := decide_eq_true c9
    clear c9
    (first | rw [c9b0] | (simp only [i64_w, i32_w]; rw [c9b0]) | skip)
    have H' := Aside0.mk H
    clear H
    go_wp2
    go_meet
    case rel => exact ⟨_, (true), (by first | rfl | (simp; done) | (simp [*]; done)), H', ⟨by first | omega | exact Nat.le_refl _⟩, ⟨BK497.out⟩, ⟨HB.out⟩⟩
   ·rw [if_neg c9] at H
    have c9b0 : decide (a0 < 0) = false := decide_eq_false c9
    clear c9
    (first | rw [c9b0] | (simp only [i64_w, i32_w]; rw [c9b0]) | skip)
    have H' := Aside0.mk H
    clear H
    go_wp2
    go_meet
    case rel => exact ⟨_, (decide (a0 > 67108864)), (by first | rfl | (simp; done) | (simp [*]; done)), H', ⟨by first | omega | exact Nat.le_refl _⟩, ⟨BK497.out⟩, ⟨HB.out⟩⟩
  case rest =>
   clear HC5
   try clear c1; try clear c2; try clear p2; try clear c3; try clear c4; try clear c4b0; try clear c4b1; try clear c9; try clear c9b0; try clear hcz7_0; try clear hcz7_1; try clear hcz7_2; try clear hcz7_3; try clear hcz7_4; try clear hcz7_5; try clear hcz7_6; try clear hfz7_0; try clear hfz7_1; try clear hfz7_2; try clear hfz7_3; try clear hfz7_4; try clear hfz7_5; try clear hfz7_6
   obtain ⟨kq, x19_4, rfl, HA, HJ4, BK497, HB⟩ := hcut
   cases kq with
   | zero => exact absurd HA.out (by simp [waveletref50_Rate.j0])
   | succ kj4 =>
    have H := HA.out
    clear HA
    simp only [waveletref50_Rate.j0] at H
    by_cases c10 : x19_4 = true
    ·subst c10
     have H1 : (some (0, 2)) = some (r1, r2) := by rw [if_pos rfl] at H; exact H
     clear H
     have H := H1
     clear H1
     simp only [Option.some.injEq, Prod.mk.injEq] at H
     obtain ⟨rfl, rfl⟩ := H
     go_wp2
     go_ret2
     exact ⟨by first | rfl | (simp [errW_none, errW_some] <;> rfl) | (simp [*, errW_none, errW_some] <;> rfl), HB.out⟩
    ·replace c10 := Bool.eq_false_iff.mpr c10
     subst c10
     have H1 : (waveletref50_Rate.l0 kj4 a0 0 0 a1_0 a1_1 a1_2 a1_3 a1_4 a1_5 l1_6) = some (r1, r2) := by rw [if_neg (show ¬ (false = true) by decide)] at H; exact H
     clear H
     have H := H1
     clear H1
     have H' := Aside0.mk H
     clear H
     go_wp2
     go_loopg [7, 8] kj4 (fun kq v7 v8 w' => ∃ (x7_2 : Int) (x8_2 : Int), v7 = .int .i64 x7_2 ∧ v8 = .int .i64 x8_2 ∧ Aside0 (waveletref50_Rate.l0 kq a0 x7_2 x8_2 a1_0 a1_1 a1_2 a1_3 a1_4 a1_5 l1_6 = some (r1, r2)) ∧ Aside0 (kq ≤ kj4) ∧ Aside0 (w'.heap[gb497]? = some (.cells #[.int .i64 a1_0, .int .i64 a1_1, .int .i64 a1_2, .int .i64 a1_3, .int .i64 a1_4, .int .i64 a1_5, (.slice A1_6 l1_6.length c1_6)] 26 (0, 0))) ∧ Aside0 (Below w.heap.size w w'))
     case atStart => exact ⟨(0), (0), (by first | rfl | (simp; done) | (simp [*]; done)), (by first | rfl | (simp; done) | (simp [*]; done)), H', ⟨Nat.le_refl _⟩, ⟨BK497.out⟩, ⟨HB.out⟩⟩
     case round =>
      clear H'
      try clear c1; try clear c2; try clear p2; try clear c3; try clear c4; try clear c4b0; try clear c4b1; try clear c9; try clear c9b0; try clear c10; try clear hcz7_0; try clear hcz7_1; try clear hcz7_2; try clear hcz7_3; try clear hcz7_4; try clear hcz7_5; try clear hcz7_6; try clear hfz7_0; try clear hfz7_1; try clear hfz7_2; try clear hfz7_3; try clear hfz7_4; try clear hfz7_5; try clear hfz7_6; try clear p2
      obtain ⟨x7_2, x8_2, rfl, rfl, HA, HK2, BK497, HB⟩ := hrel
      cases gk with
      | zero => exact absurd HA.out (by simp [waveletref50_Rate.l0])
      | succ k2 =>
       have H := HA.out
       clear HA
       simp only [waveletref50_Rate.l0] at H
       by_cases c11 : x8_2 < (l1_6.length : Int)
       ·rw [if_pos c11] at H
        have c11b0 : decide (x8_2 < (l1_6.length : Int)) = true := decide_eq_true c11
        clear c11
        by_cases c12 : 0 ≤ x8_2
        ·rw [if_pos c12] at H
         have c12b0 : decide (0 ≤ x8_2) = true := decide_eq_true c12
         clear c12
         replace H := Option.bind_eq_some_iff.mp H
         obtain ⟨⟨t501, t502, t503, t504⟩, A130, H⟩ := H
         replace H : ((waveletref01_Area.f t501 t502 t503 t504).bind fun t505 => (waveletref50_Rate.l0 k2 a0 (wrap64 (x7_2 + t505)) (wrap64 (x8_2 + 1)) a1_0 a1_1 a1_2 a1_3 a1_4 a1_5 l1_6)) = some (r1, r2) := H
         have A13 := Aside0.mk A130
         clear A130
         replace H := Option.bind_eq_some_iff.mp H
         obtain ⟨t505, A140, H⟩ := H
         replace H : (waveletref50_Rate.l0 k2 a0 (wrap64 (x7_2 + t505)) (wrap64 (x8_2 + 1)) a1_0 a1_1 a1_2 a1_3 a1_4 a1_5 l1_6) = some (r1, r2) := H
         have A14 := Aside0.mk A140
         clear A140
         have H' := Aside0.mk H
         clear H
         obtain ⟨hcz15_0, hcz15_1, hcz15_2, hcz15_3, hcz15_4, hcz15_5, hcz15_6, hfz15_0, hfz15_1, hfz15_2, hfz15_3, hfz15_4, hfz15_5, hfz15_6⟩ := blk_all7 BK497.out
         try go_wp2
         replace BK497 := Aside0.mk (blk_drew BK497.out)
         replace HB := Aside0.mk (below_drew1 HB.out)
         have p499 : 0 ≤ (x8_2 : Int) := of_decide_eq_true (by first | (with_reducible assumption) | assumption)
         have q499 : x8_2 < (l1_6.length : Int) := of_decide_eq_true (by first | (with_reducible assumption) | assumption)
         obtain ⟨ad499, e499, hx499_0, hx499_1, hx499_2, hx499_3⟩ := at_T51 HR1_6.out x8_2 p499 q499
         have hw499_3 := hx499_3
         have hw499_2 := hx499_2
         have hw499_1 := hx499_1
         have hw499_0 := hx499_0
         cases e499
         replace hx499_0 := hc HB hx499_0
         replace hx499_1 := hc HB hx499_1
         replace hx499_2 := hc HB hx499_2
         replace hx499_3 := hc HB hx499_3
         replace p499 := eq_true p499
         replace q499 := eq_true q499
         have p500 : 0 ≤ (x8_2 : Int) := of_decide_eq_true (by first | (with_reducible assumption) | assumption)
         have q500 : x8_2 < (l1_6.length : Int) := of_decide_eq_true (by first | (with_reducible assumption) | assumption)
         obtain ⟨ad500, e500, hx500_0, hx500_1, hx500_2, hx500_3⟩ := at_T51 HR1_6.out x8_2 p500 q500
         have hw500_3 := hx500_3
         have hw500_2 := hx500_2
         have hw500_1 := hx500_1
         have hw500_0 := hx500_0
         obtain rfl : ad499 = ad500 := (by injection e500)
         replace hx500_0 := hc HB hx500_0
         replace hx500_1 := hc HB hx500_1
         replace hx500_2 := hc HB hx500_2
         replace hx500_3 := hc HB hx500_3
         replace p500 := eq_true p500
         replace q500 := eq_true q500
         refine start_ (n := 19) (S := fun w' => ce w' gb497 0 (.int .i64 a1_0) ∧ ce w' gb497 1 (.int .i64 a1_1) ∧ ce w' gb497 2 (.int .i64 a1_2) ∧ ce w' gb497 3 (.int .i64 a1_3) ∧ ce w' gb497 4 (.int .i64 a1_4) ∧ ce w' gb497 5 (.int .i64 a1_5) ∧ ce w' gb497 6 (.slice (some ad499) l1_6.length c1_6) ∧ w'.cell? (ad499.add ((x8_2).toNat * 4)) = some (.int .i64 ((rd_T51 l1_6 x8_2).f0)) ∧ w'.cell? ⟨(ad499.add ((x8_2).toNat * 4)).block, (ad499.add ((x8_2).toNat * 4)).off + 1, none⟩ = some (.bool ((rd_T51 l1_6 x8_2).f1)) ∧ w'.cell? ⟨(ad499.add ((x8_2).toNat * 4)).block, (ad499.add ((x8_2).toNat * 4)).off + 2, none⟩ = some (.int .i64 ((rd_T51 l1_6 x8_2).f2)) ∧ w'.cell? ⟨(ad499.add ((x8_2).toNat * 4)).block, (ad499.add ((x8_2).toNat * 4)).off + 3, none⟩ = some (.int .i64 ((rd_T51 l1_6 x8_2).f3)) ∧ w'.cell? (ad499.add ((x8_2).toNat * 4)) = some (.int .i64 ((rd_T51 l1_6 x8_2).f0)) ∧ w'.cell? ⟨(ad499.add ((x8_2).toNat * 4)).block, (ad499.add ((x8_2).toNat * 4)).off + 1, none⟩ = some (.bool ((rd_T51 l1_6 x8_2).f1)) ∧ w'.cell? ⟨(ad499.add ((x8_2).toNat * 4)).block, (ad499.add ((x8_2).toNat * 4)).off + 2, none⟩ = some (.int .i64 ((rd_T51 l1_6 x8_2).f2)) ∧ w'.cell? ⟨(ad499.add ((x8_2).toNat * 4)).block, (ad499.add ((x8_2).toNat * 4)).off + 3, none⟩ = some (.int .i64 ((rd_T51 l1_6 x8_2).f3))) (ds := []) #[false, false, false, false, false, false, false, false, false, false, false, false, false, false, false, false, false, false, false] (by kernel_rfl) rfl rfl ⟨bc BK497 0, bc BK497 1, bc BK497 2, bc BK497 3, bc BK497 4, bc BK497 5, bc BK497 6, (hc HB hw499_0), (hc HB hw499_1), (hc HB hw499_2), (hc HB hw499_3), (hc HB hw500_0), (hc HB hw500_1), (hc HB hw500_2), (hc HB hw500_3)⟩ (fun hHeld => ?_); refine with_tabW waveletref50_Rate.tab10 waveletref50_Rate.bits10 (fun HT_ HW_ => ?_)
         generalize wr.drew = w16 at BK497 HB hx499_0 hx499_1 hx499_2 hx499_3 hx500_0 hx500_1 hx500_2 hx500_3 hHeld ⊢
         refine puX 0 27 (MK [1, 18]) HT_.out ?_
         refine puX 1 28 (MK [2, 17]) HT_.out ?_
         refine puX 3 30 (MK [2, 1, 1, 15]) HT_.out ?_
         refine puX 5 32 (MK [2, 1, 1, 1, 1, 13]) HT_.out ?_
         refine puX 9 36 (MK [2, 1, 1, 1, 1, 3, 1, 9]) HT_.out ?_
         refine puX 11 38 (MK [2, 1, 1, 1, 1, 3, 1, 1, 1, 7]) HT_.out ?_
         refine taX 2 29 (MK [4, 1, 1, 3, 1, 1, 1, 7]) HT_.out HW_.out hHeld ?_
         refine taX 4 31 (MK [6, 3, 1, 1, 1, 7]) HT_.out HW_.out hHeld ?_
         refine puX 6 33 (MK [7, 2, 1, 1, 1, 7]) HT_.out ?_
         refine puX 7 34 (MK [8, 1, 1, 1, 1, 7]) HT_.out ?_
         refine taX 8 35 (MK [10, 1, 1, 7]) HT_.out HW_.out hHeld ?_
         refine taX 10 37 (MK [12, 7]) HT_.out HW_.out hHeld ?_
         refine puX 12 39 (MK [13, 6]) HT_.out ?_
         refine puX 13 40 (MK [14, 5]) HT_.out ?_
         refine taX 14 41 (MK [15, 4]) HT_.out HW_.out hHeld ?_
         refine onX 15 42 (MK [16, 3]) HT_.out (fun K hK => ?_)
         refine goes_ Try.func37 (by kernel_rfl) rfl #[.agg #[.int .i64 a1_0, .int .i64 a1_1, .int .i64 a1_2, .int .i64 a1_3], .int .i64 ((rd_T51 l1_6 x8_2).f2), .int .i64 ((rd_T51 l1_6 x8_2).f3)] (by rfl) rfl rfl upL ?_
         with_reducible refine (waveletref01_Reduce.calls k2 a1_0 a1_1 a1_2 a1_3 ((rd_T51 l1_6 x8_2).f2) ((rd_T51 l1_6 x8_2).f3) t501 t502 t503 t504 _ A13.out).mono ?_
         rintro e w17 ⟨rfl, hb⟩
         refine ⟨_, rfl, ?_⟩
         replace BK497 := Aside0.mk (blk_below BK497.out hb)
         replace HB := Aside0.mk (below_step HB.out hb)
         (try clear hb); (try clear hb2); (try clear hk); (try clear hi)
         refine hK.out _ _ ⟨bc BK497 0, bc BK497 1, bc BK497 2, bc BK497 3, bc BK497 4, bc BK497 5, bc BK497 6, (hc HB hw499_0), (hc HB hw499_1), (hc HB hw499_2), (hc HB hw499_3), (hc HB hw500_0), (hc HB hw500_1), (hc HB hw500_2), (hc HB hw500_3)⟩ (fun hHeld => ?_)
         clear hK K
         refine noX ?_
         refine onX 16 43 (MK [17, 2]) HT_.out (fun K hK => ?_)
         refine goes_ Try.func36 (by kernel_rfl) rfl #[.agg #[.int .i64 t501, .int .i64 t502, .int .i64 t503, .int .i64 t504]] (by rfl) rfl rfl upL ?_
         with_reducible refine (waveletref01_Area.calls t501 t502 t503 t504 t505 _ A14.out).mono ?_
         rintro e w18 ⟨rfl, hb⟩
         refine ⟨_, rfl, ?_⟩
         replace BK497 := Aside0.mk (blk_below BK497.out hb)
         replace HB := Aside0.mk (below_step HB.out hb)
         (try clear hb); (try clear hb2); (try clear hk); (try clear hi)
         refine hK.out _ _ ⟨bc BK497 0, bc BK497 1, bc BK497 2, bc BK497 3, bc BK497 4, bc BK497 5, bc BK497 6, (hc HB hw499_0), (hc HB hw499_1), (hc HB hw499_2), (hc HB hw499_3), (hc HB hw500_0), (hc HB hw500_1), (hc HB hw500_2), (hc HB hw500_3)⟩ (fun hHeld => ?_)
         clear hK K
         refine noX ?_
         refine puX 17 44 (MK [18, 1]) HT_.out ?_
         refine puX 18 7 (MK [19]) HT_.out ?_
         refine done_ (done_of HT_.out (by kernel_rfl)) ?_
         try go_wp2
         go_roundg k2
         case measure => have := HJ4.out; have := HK2.out; omega
         case rel => exact ⟨(wrap64 (x7_2 + t505)), (wrap64 (x8_2 + 1)), (by first | rfl | (simp; done) | (simp [*]; done)), (by first | rfl | (simp; done) | (simp [*]; done)), H', ⟨by have := HJ4.out; have := HK2.out; omega⟩, ⟨BK497.out⟩, ⟨HB.out⟩⟩
        ·rw [if_neg c12] at H
         exact absurd H (by simp)
       ·rw [if_neg c11] at H
        have c11b0 : decide (x8_2 < (l1_6.length : Int)) = false := decide_eq_false c11
        clear c11
        by_cases c19 : x7_2 = 0
        ·rw [if_pos c19] at H
         exact absurd H (by simp)
        ·rw [if_neg c19] at H
         have c19b0 : (x7_2 == 0) = false := beq_eq_false_iff_ne.mpr c19
         have c19b1 : (x7_2 != 0) = true := bne_iff_ne.mpr c19
         simp only [Option.some.injEq, Prod.mk.injEq] at H
         obtain ⟨rfl, rfl⟩ := H
         obtain ⟨hcz20_0, hcz20_1, hcz20_2, hcz20_3, hcz20_4, hcz20_5, hcz20_6, hfz20_0, hfz20_1, hfz20_2, hfz20_3, hfz20_4, hfz20_5, hfz20_6⟩ := blk_all7 BK497.out
         go_wp2
         go_ret2
         exact ⟨by first | rfl | (simp [errW_none, errW_some] <;> rfl) | (simp [*, errW_none, errW_some] <;> rfl), HB.out⟩
 ·rw [if_neg c4] at H
  have c4b0 : (t498 == 0) = false := beq_eq_false_iff_ne.mpr c4
  have c4b1 : (t498 != 0) = true := bne_iff_ne.mpr c4
  simp only [Option.some.injEq, Prod.mk.injEq] at H
  obtain ⟨rfl, rfl⟩ := H
  go_enter Try.func25, Try.ntmps25
  go_wp2_with (first | ((with_reducible refine gate_dst (N := 3) rfl ?_); refine box_event ?hg (N := 3) ?hd (cs := #[.int .i64 a1_0, .int .i64 a1_1, .int .i64 a1_2, .int .i64 a1_3, .int .i64 a1_4, .int .i64 a1_5, .slice A1_6 l1_6.length c1_6]) (t := 26) ?hr ?_; (case hd => rfl); (case hg => rfl); (case hr => first | (go_simp; done) | (go_simp; rfl)); intro gb497 hg w21 hbox hb; have BK497 := Aside0.mk (hbox); have GW497 := Aside0.mk ((by rw [hg]; exact (below_size HB.out) : w.heap.size ≤ gb497)); have GE497 := Aside0.mk ((by rw [hg]; exact (below_size HB.out) : w.heap.size ≤ gb497)); replace HB := Aside0.mk (below_step HB.out hb); clear hb hbox hg; obtain ⟨hcz22_0, hcz22_1, hcz22_2, hcz22_3, hcz22_4, hcz22_5, hcz22_6, hfz22_0, hfz22_1, hfz22_2, hfz22_3, hfz22_4, hfz22_5, hfz22_6⟩ := blk_all7 BK497.out) | ((with_reducible refine gate_callee (f := 35) rfl ?_); refine goesL_ (some 10) rfl rfl Try.func35 (by kernel_rfl) rfl #[.agg #[.int .i64 a1_0, .int .i64 a1_1, .int .i64 a1_2, .int .i64 a1_3, .int .i64 a1_4, .int .i64 a1_5, .slice A1_6 l1_6.length c1_6]] rfl upL ?_; (with_reducible refine (waveletref23_Header.calls k a1_0 a1_1 a1_2 a1_3 a1_4 a1_5 _ _ l1_6 t498 _ ?side1 ?side2 A3.out).mono ?_); (case side1 => repeat (first | exact (Kd.C_below HR1_6.out HB.out) | (with_reducible refine Kd.C_alloc ?_ _) | (with_reducible refine Kd.C_drewN ?_ _) | (with_reducible refine Kd.C_drew ?_))); (case side2 => exact HC1_6.out); rintro e w23 ⟨rfl, hb⟩; refine ⟨_, rfl, ?_⟩; replace BK497 := Aside0.mk (blk_below BK497.out hb); replace HB := Aside0.mk (below_step HB.out hb); (try clear hb; try clear hb2; try clear hk; try clear hi)))
  go_ret2
  exact ⟨by first | rfl | (simp [errW_none, errW_some] <;> rfl) | (simp [*, errW_none, errW_some] <;> rfl), HB.out⟩

end Go.Proofs.Ytfihdlekeainpaa.Q
