-- By a program of this session (wip/tools/mk.py), out of the kit's print of the translation; Lean checks it.
import Derived.Test.YthemchggmlpdhaaShort
import Derived.Test.YthemchggmlpdhaaUp2
import Derived.Test.YthemchggmlpdhaaUp
import Derived.Test.YthemchggmlpdhaaQ0
import Derived.Test.YthemchggmlpdhaaQ9
import Derived.Test.YthemchggmlpdhaaQ10
import Derived.Test.YthemchggmlpdhaaQ11
namespace Go.Proofs.Ythemchggmlpdhaa.Q
open Go.RowKit Go.Proofs.YthemchggmlpdhaaW.PrintWords Go.Proofs.YthemchggmlpdhaaW.PrintLast Go.Proofs.YthemchggmlpdhaaW.PrintMore
attribute [local go_sem] max2_int min2_int max_two min_two max_three min_three max_four min_four   -- for this text's walks alone
set_option linter.unusedVariables false
set_option linter.unusedSimpArgs false

/-! ### plane_At: function 18 -/
def plane_At.f (a0_0 : Int) (a0_1 : Int) (a0_2 : Int) (a0_3 : Int) (l0_4 : List Int) (a1 : Int) (a2 : Int) : Option (Int × Bool) := (plane_Valid.f a0_0 a0_1 a0_2 a0_3 l0_4).bind fun t128 => (if t128 = true then ((rect_Has.f a0_0 a0_1 a0_2 a0_3 a1 a2).bind fun t129 => (if t129 = true then ((plane_width.f a0_0 a0_1 a0_2 a0_3 l0_4).bind fun t130 => (if 0 ≤ (wrap64 ((wrap64 ((wrap64 ((wrap64 (a2 - a0_1)) * t130)) + a1)) - a0_0)) then (if (wrap64 ((wrap64 ((wrap64 ((wrap64 (a2 - a0_1)) * t130)) + a1)) - a0_0)) < (l0_4.length : Int) then (some (rd l0_4 (wrap64 ((wrap64 ((wrap64 ((wrap64 (a2 - a0_1)) * t130)) + a1)) - a0_0)), true)) else (none)) else (none))) else (some (0, false)))) else (some (0, false)))
def plane_At.T3 : Bool × List (List Nat × List Nat) := (true, [([], []), ([0], [0]), ([], []), ([], []), ([3], [3]), ([4], [4]), ([2, 5], [2, 5]), ([], []), ([7], [7]), ([6, 8], [6, 8]), ([], []), ([9, 10], [9, 10]), ([], []), ([12], [12]), ([13], [13]), ([11, 14], [11, 14]), ([1, 15], [1, 15]), ([16], [16]), ([17, 8, 0, 1, 2, 3, 4, 5, 6, 7, 8, 9, 10, 11, 12, 13, 14, 15, 16, 17], [17]), ([18, 0, 1, 2, 3, 4, 5, 6, 7, 8, 9, 10, 11, 12, 13, 14, 15, 16, 17, 18], [])])
def plane_At.B3 : List Nat := [0, 1, 0, 0, 8, 24, 60, 0, 128, 508, 0, 2044, 0, 4096, 12288, 32764, 65535, 131071, 262143, 524287]
theorem plane_At.tab3 : rtab .any (opsOf Try.f18 3) = plane_At.T3 := by kernel_rfl
theorem plane_At.bits3 : waitsOk plane_At.T3.2 plane_At.B3 = true := by kernel_rfl
set_option maxHeartbeats 8000000 in
set_option maxRecDepth 100000 in
theorem plane_At.calls (a0_0 : Int) (a0_1 : Int) (a0_2 : Int) (a0_3 : Int) (A0_4 : Option Addr) (c0_4 : Nat) (l0_4 : List Int) (a1 : Int) (a2 : Int) (r1 : Int) (r2 : Bool) (w : World) (hr0_4 : Kd.C (Kd.int .i64) w A0_4 l0_4.length l0_4) (hc0_4 : l0_4.length ≤ c0_4) (h : plane_At.f a0_0 a0_1 a0_2 a0_3 l0_4 a1 a2 = some (r1, r2)) :
  Calls Try.prog 18 #[.agg #[.int .i64 a0_0, .int .i64 a0_1, .int .i64 a0_2, .int .i64 a0_3, .slice A0_4 l0_4.length c0_4], .int .i64 a1, .int .i64 a2] w fun e w' => e = .returned (.tuple #[.int .i64 r1, .bool r2]) ∧ Below w.heap.size w w' := by
 have hu26 := Try.underlying26
 have hu23 := Try.underlying23
 have hu53 := Try.underlying53
 have HR0_4 := AS hr0_4
 have HC0_4 := AS hc0_4
 clear hr0_4 hc0_4
 have HB := AS (Below.refl w.heap.size w)
 have H : ((plane_Valid.f a0_0 a0_1 a0_2 a0_3 l0_4).bind fun t128 => (if t128 = true then ((rect_Has.f a0_0 a0_1 a0_2 a0_3 a1 a2).bind fun t129 => (if t129 = true then ((plane_width.f a0_0 a0_1 a0_2 a0_3 l0_4).bind fun t130 => (if 0 ≤ (wrap64 ((wrap64 ((wrap64 ((wrap64 (a2 - a0_1)) * t130)) + a1)) - a0_0)) then (if (wrap64 ((wrap64 ((wrap64 ((wrap64 (a2 - a0_1)) * t130)) + a1)) - a0_0)) < (l0_4.length : Int) then (some (rd l0_4 (wrap64 ((wrap64 ((wrap64 ((wrap64 (a2 - a0_1)) * t130)) + a1)) - a0_0)), true)) else (none)) else (none))) else (some (0, false)))) else (some (0, false)))) = some (r1, r2) := h
 clear h
 replace H := Option.bind_eq_some_iff.mp H
 obtain ⟨t128, A40, H⟩ := H
 replace H : (if t128 = true then ((rect_Has.f a0_0 a0_1 a0_2 a0_3 a1 a2).bind fun t129 => (if t129 = true then ((plane_width.f a0_0 a0_1 a0_2 a0_3 l0_4).bind fun t130 => (if 0 ≤ (wrap64 ((wrap64 ((wrap64 ((wrap64 (a2 - a0_1)) * t130)) + a1)) - a0_0)) then (if (wrap64 ((wrap64 ((wrap64 ((wrap64 (a2 - a0_1)) * t130)) + a1)) - a0_0)) < (l0_4.length : Int) then (some (rd l0_4 (wrap64 ((wrap64 ((wrap64 ((wrap64 (a2 - a0_1)) * t130)) + a1)) - a0_0)), true)) else (none)) else (none))) else (some (0, false)))) else (some (0, false))) = some (r1, r2) := H
 have A4 := AS A40
 clear A40
 by_cases c5 : t128 = true
 ·subst c5
  have H1 : ((rect_Has.f a0_0 a0_1 a0_2 a0_3 a1 a2).bind fun t129 => (if t129 = true then ((plane_width.f a0_0 a0_1 a0_2 a0_3 l0_4).bind fun t130 => (if 0 ≤ (wrap64 ((wrap64 ((wrap64 ((wrap64 (a2 - a0_1)) * t130)) + a1)) - a0_0)) then (if (wrap64 ((wrap64 ((wrap64 ((wrap64 (a2 - a0_1)) * t130)) + a1)) - a0_0)) < (l0_4.length : Int) then (some (rd l0_4 (wrap64 ((wrap64 ((wrap64 ((wrap64 (a2 - a0_1)) * t130)) + a1)) - a0_0)), true)) else (none)) else (none))) else (some (0, false)))) = some (r1, r2) := by rw [if_pos rfl] at H; exact H
  clear H
  have H := H1
  clear H1
  replace H := Option.bind_eq_some_iff.mp H
  obtain ⟨t129, A60, H⟩ := H
  replace H : (if t129 = true then ((plane_width.f a0_0 a0_1 a0_2 a0_3 l0_4).bind fun t130 => (if 0 ≤ (wrap64 ((wrap64 ((wrap64 ((wrap64 (a2 - a0_1)) * t130)) + a1)) - a0_0)) then (if (wrap64 ((wrap64 ((wrap64 ((wrap64 (a2 - a0_1)) * t130)) + a1)) - a0_0)) < (l0_4.length : Int) then (some (rd l0_4 (wrap64 ((wrap64 ((wrap64 ((wrap64 (a2 - a0_1)) * t130)) + a1)) - a0_0)), true)) else (none)) else (none))) else (some (0, false))) = some (r1, r2) := H
  have A6 := AS A60
  clear A60
  by_cases c7 : t129 = true
  ·subst c7
   have H1 : ((plane_width.f a0_0 a0_1 a0_2 a0_3 l0_4).bind fun t130 => (if 0 ≤ (wrap64 ((wrap64 ((wrap64 ((wrap64 (a2 - a0_1)) * t130)) + a1)) - a0_0)) then (if (wrap64 ((wrap64 ((wrap64 ((wrap64 (a2 - a0_1)) * t130)) + a1)) - a0_0)) < (l0_4.length : Int) then (some (rd l0_4 (wrap64 ((wrap64 ((wrap64 ((wrap64 (a2 - a0_1)) * t130)) + a1)) - a0_0)), true)) else (none)) else (none))) = some (r1, r2) := by rw [if_pos rfl] at H; exact H
   clear H
   have H := H1
   clear H1
   replace H := Option.bind_eq_some_iff.mp H
   obtain ⟨t130, A80, H⟩ := H
   replace H : (if 0 ≤ (wrap64 ((wrap64 ((wrap64 ((wrap64 (a2 - a0_1)) * t130)) + a1)) - a0_0)) then (if (wrap64 ((wrap64 ((wrap64 ((wrap64 (a2 - a0_1)) * t130)) + a1)) - a0_0)) < (l0_4.length : Int) then (some (rd l0_4 (wrap64 ((wrap64 ((wrap64 ((wrap64 (a2 - a0_1)) * t130)) + a1)) - a0_0)), true)) else (none)) else (none)) = some (r1, r2) := H
   have A8 := AS A80
   clear A80
   obtain ⟨ji9, hji9⟩ : ∃ j_ : Int, (wrap64 ((wrap64 ((wrap64 ((wrap64 (a2 - a0_1)) * t130)) + a1)) - a0_0)) = j_ := ⟨_, rfl⟩
   replace H : (if 0 ≤ (ji9) then (if (ji9) < (l0_4.length : Int) then (some (rd l0_4 (ji9), true)) else (none)) else (none)) = some (r1, r2) := by first | (rw [hji9] at H; exact H) | (simp only [hji9] at H ⊢; exact H)
   (try rw [hji9] at A4)
   (try rw [hji9] at A6)
   (try rw [hji9] at A8)
   have hji9w : (IntKind.i64.wrap ((wrap64 ((wrap64 ((wrap64 (a2 - a0_1)) * t130)) + a1)) - a0_0)) = ji9 := (i64_w _).trans hji9
   by_cases c10 : 0 ≤ (ji9)
   ·rw [if_pos c10] at H
    have c10b0 : decide (0 ≤ (ji9)) = true := decide_eq_true c10
    clear c10
    by_cases c11 : (ji9) < (l0_4.length : Int)
    ·rw [if_pos c11] at H
     have c11b0 : decide ((ji9) < (l0_4.length : Int)) = true := decide_eq_true c11
     clear c11
     simp only [Option.some.injEq, Prod.mk.injEq] at H
     obtain ⟨rfl, rfl⟩ := H
     go_enter Try.func18, Try.ntmps18
     try go_wp2_with (first | ((with_reducible refine gate_dst (N := 3) rfl ?_); refine box_event ?hg (N := 3) ?hd (cs := #[.int .i64 a0_0, .int .i64 a0_1, .int .i64 a0_2, .int .i64 a0_3, .slice A0_4 l0_4.length c0_4]) (t := 26) ?hr ?_; (case hd => rfl); (case hg => rfl); (case hr => first | (go_simp; done) | (go_simp; rfl)); intro gb127 hg w12 hbox hb; have BK127 := AS (hbox); have GW127 := AS ((by rw [hg]; exact (below_size (upB HB.out)) : w.heap.size ≤ gb127)); have GE127 := AS ((by rw [hg]; exact (below_size (upB HB.out)) : w.heap.size ≤ gb127)); replace HB := AS (below_step (upB HB.out) hb); clear hb hbox hg; have hcz13_0 : w12.cell? ⟨gb127, 0, none⟩ = some (.int .i64 a0_0) := bc BK127 0; have hcz13_1 : w12.cell? ⟨gb127, 1, none⟩ = some (.int .i64 a0_1) := bc BK127 1; have hcz13_2 : w12.cell? ⟨gb127, 2, none⟩ = some (.int .i64 a0_2) := bc BK127 2; have hcz13_3 : w12.cell? ⟨gb127, 3, none⟩ = some (.int .i64 a0_3) := bc BK127 3; have hcz13_4 : w12.cell? ⟨gb127, 4, none⟩ = some (.slice A0_4 l0_4.length c0_4) := bc BK127 4; have hfz13_0 := blk_frozen BK127.out 0; have hfz13_1 := blk_frozen BK127.out 1; have hfz13_2 := blk_frozen BK127.out 2; have hfz13_3 := blk_frozen BK127.out 3; have hfz13_4 := blk_frozen BK127.out 4) | ((with_reducible refine gate_callee (f := 20) rfl ?_); refine goesL_ (some 9) rfl rfl Try.func20 (by kernel_rfl) rfl #[.agg #[.int .i64 a0_0, .int .i64 a0_1, .int .i64 a0_2, .int .i64 a0_3, .slice A0_4 l0_4.length c0_4]] rfl upL ?_; (with_reducible refine (plane_Valid.calls a0_0 a0_1 a0_2 a0_3 _ _ l0_4 true _ ?side1 ?side2 A4.out).mono ?_); (case side1 => repeat (first | exact (Kd.C_below HR0_4.out HB.out) | (with_reducible refine Kd.C_alloc ?_ _) | (with_reducible refine Kd.C_drewN ?_ _) | (with_reducible refine Kd.C_drew ?_))); (case side2 => exact HC0_4.out); rintro e w14 ⟨rfl, hb⟩; refine ⟨_, rfl, ?_⟩; replace BK127 := AS (blk_below (g := gb127) (o := .cells #[.int .i64 a0_0, .int .i64 a0_1, .int .i64 a0_2, .int .i64 a0_3, .slice A0_4 l0_4.length c0_4] 26) (upK BK127.out) hb); replace HB := AS (below_step (upB HB.out) hb); (try clear hb; try clear hb2; try clear hk; try clear hi); have hcz15_0 : w14.cell? ⟨gb127, 0, none⟩ = some (.int .i64 a0_0) := bc BK127 0; have hcz15_1 : w14.cell? ⟨gb127, 1, none⟩ = some (.int .i64 a0_1) := bc BK127 1; have hcz15_2 : w14.cell? ⟨gb127, 2, none⟩ = some (.int .i64 a0_2) := bc BK127 2; have hcz15_3 : w14.cell? ⟨gb127, 3, none⟩ = some (.int .i64 a0_3) := bc BK127 3; have hcz15_4 : w14.cell? ⟨gb127, 4, none⟩ = some (.slice A0_4 l0_4.length c0_4) := bc BK127 4; have hfz15_0 := blk_frozen BK127.out 0; have hfz15_1 := blk_frozen BK127.out 1; have hfz15_2 := blk_frozen BK127.out 2; have hfz15_3 := blk_frozen BK127.out 3; have hfz15_4 := blk_frozen BK127.out 4) | (go_at_call 42; (with_reducible refine (rect_Has.calls a0_0 a0_1 a0_2 a0_3 a1 a2 true _ A6.out).mono ?_); rintro e w16 ⟨rfl, hb⟩; replace BK127 := AS (blk_below (g := gb127) (o := .cells #[.int .i64 a0_0, .int .i64 a0_1, .int .i64 a0_2, .int .i64 a0_3, .slice A0_4 l0_4.length c0_4] 26) (upK BK127.out) hb); replace HB := AS (below_step (upB HB.out) hb); (try clear hb; try clear hb2; try clear hk; try clear hi)))
     replace BK127 := AS (blk_drew BK127.out)
     replace HB := AS (below_drew1 HB.out)
     have p131 : 0 ≤ ((ji9) : Int) := of_decide_eq_true (by first | (with_reducible assumption) | assumption)
     have q131 : (ji9) < (l0_4.length : Int) := of_decide_eq_true (by first | (with_reducible assumption) | assumption)
     obtain ⟨ad131, e131, hx131_0⟩ := Kd.at_int HR0_4.out (ji9) p131 q131
     have hw131_0 := hx131_0
     cases e131
     replace hx131_0 := hc HB hx131_0
     replace p131 := eq_true p131
     replace q131 := eq_true q131
     refine start_ (n := 20) (S := fun w' => ce w' gb127 0 (.int .i64 a0_0) ∧ ce w' gb127 1 (.int .i64 a0_1) ∧ ce w' gb127 2 (.int .i64 a0_2) ∧ ce w' gb127 3 (.int .i64 a0_3) ∧ ce w' gb127 4 (.slice (some ad131) l0_4.length c0_4) ∧ w'.cell? (ad131.add ((ji9)).toNat) = some (.int .i64 (rd l0_4 (ji9)))) (ds := []) #[false, false, false, false, false, false, false, false, false, false, false, false, false, false, false, false, false, false, false, false] (by kernel_rfl) rfl rfl ⟨bc BK127 0, bc BK127 1, bc BK127 2, bc BK127 3, bc BK127 4, (hc HB hw131_0)⟩ (fun hHeld => ?_); refine with_tabW plane_At.tab3 plane_At.bits3 (fun HT_ HW_ => ?_)
     generalize w16.drew = w17 at BK127 HB hx131_0 hHeld ⊢
     refine puX 0 20 (MK [1, 19]) HT_.out ?_
     refine puX 2 22 (MK [1, 1, 1, 17]) HT_.out ?_
     refine puX 3 23 (MK [1, 1, 2, 16]) HT_.out ?_
     refine puX 4 24 (MK [1, 1, 3, 15]) HT_.out ?_
     refine puX 10 30 (MK [1, 1, 3, 5, 1, 9]) HT_.out ?_
     refine puX 12 32 (MK [1, 1, 3, 5, 1, 1, 1, 7]) HT_.out ?_
     refine puX 13 33 (MK [1, 1, 3, 5, 1, 1, 2, 6]) HT_.out ?_
     refine taX 1 21 (MK [5, 5, 1, 1, 2, 6]) HT_.out HW_.out hHeld ?_
     refine taX 5 25 (MK [6, 4, 1, 1, 2, 6]) HT_.out HW_.out hHeld ?_
     refine puX 6 26 (MK [7, 3, 1, 1, 2, 6]) HT_.out ?_
     refine taX 7 27 (MK [8, 2, 1, 1, 2, 6]) HT_.out HW_.out hHeld ?_
     refine taX 14 34 (MK [8, 2, 1, 1, 3, 5]) HT_.out HW_.out hHeld ?_
     refine onX 8 28 (MK [9, 1, 1, 1, 3, 5]) HT_.out (fun K hK => ?_)
     refine goes_ Try.func43 (by kernel_rfl) rfl #[.agg #[.int .i64 a0_0, .int .i64 a0_1, .int .i64 a0_2, .int .i64 a0_3, .slice (some ad131) l0_4.length c0_4]] (by rfl) rfl rfl upL ?_
     with_reducible refine (plane_width.calls a0_0 a0_1 a0_2 a0_3 _ _ l0_4 t130 _ ?side1 ?side2 A8.out).mono ?_
     (case side1 => repeat (first | exact (Kd.C_below HR0_4.out HB.out) | (with_reducible refine Kd.C_alloc ?_ _) | (with_reducible refine Kd.C_drewN ?_ _) | (with_reducible refine Kd.C_drew ?_)))
     (case side2 => exact HC0_4.out)
     rintro e w18 ⟨rfl, hb⟩
     refine ⟨_, rfl, ?_⟩
     replace BK127 := AS (blk_below (g := gb127) (o := .cells #[.int .i64 a0_0, .int .i64 a0_1, .int .i64 a0_2, .int .i64 a0_3, .slice (some ad131) l0_4.length c0_4] 26) (upK BK127.out) hb)
     replace HB := AS (below_step (upB HB.out) hb)
     (try clear hb; try clear hb2; try clear hk; try clear hi)
     refine hK.out _ _ ⟨bc BK127 0, bc BK127 1, bc BK127 2, bc BK127 3, bc BK127 4, (hc HB hw131_0)⟩ (fun hHeld => ?_)
     clear hK K
     refine noX ?_
     refine puX 9 29 (MK [11, 1, 3, 5]) HT_.out ?_
     refine puX 11 31 (MK [15, 5]) HT_.out ?_
     refine puX 15 35 (MK [16, 4]) HT_.out ?_
     refine puX 16 36 (MK [17, 3]) HT_.out ?_
     refine taX 17 37 (MK [18, 2]) HT_.out HW_.out hHeld ?_
     refine puX 18 6 (MK [19, 1]) HT_.out ?_
     refine puX 19 7 (MK [20]) HT_.out ?_
     refine done_ (done_of HT_.out (by kernel_rfl)) ?_
     try go_wp2
     go_ret2
     exact ⟨by first | rfl | (simp [errW_none, errW_some] <;> rfl) | (simp only [← hji9]; first | rfl | (simp [errW_none, errW_some] <;> rfl)) | (simp [*, errW_none, errW_some] <;> rfl), by repeat (first | (with_reducible first | exact HB.out | apply below_alloc | apply pw_below_drewN | apply below_drew1 | refine below_set ?_ GE127.out) | exact HB.out)⟩
    ·rw [if_neg c11] at H
     exact absurd H (by simp)
   ·rw [if_neg c10] at H
    exact absurd H (by simp)
  ·replace c7 := Bool.eq_false_iff.mpr c7
   subst c7
   have H1 : (some (0, false)) = some (r1, r2) := by rw [if_neg (show ¬ (false = true) by decide)] at H; exact H
   clear H
   have H := H1
   clear H1
   simp only [Option.some.injEq, Prod.mk.injEq] at H
   obtain ⟨rfl, rfl⟩ := H
   go_enter Try.func18, Try.ntmps18
   go_wp2_with (first | ((with_reducible refine gate_dst (N := 3) rfl ?_); refine box_event ?hg (N := 3) ?hd (cs := #[.int .i64 a0_0, .int .i64 a0_1, .int .i64 a0_2, .int .i64 a0_3, .slice A0_4 l0_4.length c0_4]) (t := 26) ?hr ?_; (case hd => rfl); (case hg => rfl); (case hr => first | (go_simp; done) | (go_simp; rfl)); intro gb127 hg w19 hbox hb; have BK127 := AS (hbox); have GW127 := AS ((by rw [hg]; exact (below_size (upB HB.out)) : w.heap.size ≤ gb127)); have GE127 := AS ((by rw [hg]; exact (below_size (upB HB.out)) : w.heap.size ≤ gb127)); replace HB := AS (below_step (upB HB.out) hb); clear hb hbox hg; have hcz20_0 : w19.cell? ⟨gb127, 0, none⟩ = some (.int .i64 a0_0) := bc BK127 0; have hcz20_1 : w19.cell? ⟨gb127, 1, none⟩ = some (.int .i64 a0_1) := bc BK127 1; have hcz20_2 : w19.cell? ⟨gb127, 2, none⟩ = some (.int .i64 a0_2) := bc BK127 2; have hcz20_3 : w19.cell? ⟨gb127, 3, none⟩ = some (.int .i64 a0_3) := bc BK127 3; have hcz20_4 : w19.cell? ⟨gb127, 4, none⟩ = some (.slice A0_4 l0_4.length c0_4) := bc BK127 4; have hfz20_0 := blk_frozen BK127.out 0; have hfz20_1 := blk_frozen BK127.out 1; have hfz20_2 := blk_frozen BK127.out 2; have hfz20_3 := blk_frozen BK127.out 3; have hfz20_4 := blk_frozen BK127.out 4) | ((with_reducible refine gate_callee (f := 20) rfl ?_); refine goesL_ (some 9) rfl rfl Try.func20 (by kernel_rfl) rfl #[.agg #[.int .i64 a0_0, .int .i64 a0_1, .int .i64 a0_2, .int .i64 a0_3, .slice A0_4 l0_4.length c0_4]] rfl upL ?_; (with_reducible refine (plane_Valid.calls a0_0 a0_1 a0_2 a0_3 _ _ l0_4 true _ ?side1 ?side2 A4.out).mono ?_); (case side1 => repeat (first | exact (Kd.C_below HR0_4.out HB.out) | (with_reducible refine Kd.C_alloc ?_ _) | (with_reducible refine Kd.C_drewN ?_ _) | (with_reducible refine Kd.C_drew ?_))); (case side2 => exact HC0_4.out); rintro e w21 ⟨rfl, hb⟩; refine ⟨_, rfl, ?_⟩; replace BK127 := AS (blk_below (g := gb127) (o := .cells #[.int .i64 a0_0, .int .i64 a0_1, .int .i64 a0_2, .int .i64 a0_3, .slice A0_4 l0_4.length c0_4] 26) (upK BK127.out) hb); replace HB := AS (below_step (upB HB.out) hb); (try clear hb; try clear hb2; try clear hk; try clear hi); have hcz22_0 : w21.cell? ⟨gb127, 0, none⟩ = some (.int .i64 a0_0) := bc BK127 0; have hcz22_1 : w21.cell? ⟨gb127, 1, none⟩ = some (.int .i64 a0_1) := bc BK127 1; have hcz22_2 : w21.cell? ⟨gb127, 2, none⟩ = some (.int .i64 a0_2) := bc BK127 2; have hcz22_3 : w21.cell? ⟨gb127, 3, none⟩ = some (.int .i64 a0_3) := bc BK127 3; have hcz22_4 : w21.cell? ⟨gb127, 4, none⟩ = some (.slice A0_4 l0_4.length c0_4) := bc BK127 4; have hfz22_0 := blk_frozen BK127.out 0; have hfz22_1 := blk_frozen BK127.out 1; have hfz22_2 := blk_frozen BK127.out 2; have hfz22_3 := blk_frozen BK127.out 3; have hfz22_4 := blk_frozen BK127.out 4) | (go_at_call 42; (with_reducible refine (rect_Has.calls a0_0 a0_1 a0_2 a0_3 a1 a2 false _ A6.out).mono ?_); rintro e w23 ⟨rfl, hb⟩; replace BK127 := AS (blk_below (g := gb127) (o := .cells #[.int .i64 a0_0, .int .i64 a0_1, .int .i64 a0_2, .int .i64 a0_3, .slice A0_4 l0_4.length c0_4] 26) (upK BK127.out) hb); replace HB := AS (below_step (upB HB.out) hb); (try clear hb; try clear hb2; try clear hk; try clear hi)))
   go_ret2
   exact ⟨by first | rfl | (simp [errW_none, errW_some] <;> rfl) | (simp [*, errW_none, errW_some] <;> rfl), by repeat (first | (with_reducible first | exact HB.out | apply below_alloc | apply pw_below_drewN | apply below_drew1 | refine below_set ?_ GE127.out) | exact HB.out)⟩
 ·replace c5 := Bool.eq_false_iff.mpr c5
  subst c5
  have H1 : (some (0, false)) = some (r1, r2) := by rw [if_neg (show ¬ (false = true) by decide)] at H; exact H
  clear H
  have H := H1
  clear H1
  simp only [Option.some.injEq, Prod.mk.injEq] at H
  obtain ⟨rfl, rfl⟩ := H
  go_enter Try.func18, Try.ntmps18
  go_wp2_with (first | ((with_reducible refine gate_dst (N := 3) rfl ?_); refine box_event ?hg (N := 3) ?hd (cs := #[.int .i64 a0_0, .int .i64 a0_1, .int .i64 a0_2, .int .i64 a0_3, .slice A0_4 l0_4.length c0_4]) (t := 26) ?hr ?_; (case hd => rfl); (case hg => rfl); (case hr => first | (go_simp; done) | (go_simp; rfl)); intro gb127 hg w24 hbox hb; have BK127 := AS (hbox); have GW127 := AS ((by rw [hg]; exact (below_size (upB HB.out)) : w.heap.size ≤ gb127)); have GE127 := AS ((by rw [hg]; exact (below_size (upB HB.out)) : w.heap.size ≤ gb127)); replace HB := AS (below_step (upB HB.out) hb); clear hb hbox hg; have hcz25_0 : w24.cell? ⟨gb127, 0, none⟩ = some (.int .i64 a0_0) := bc BK127 0; have hcz25_1 : w24.cell? ⟨gb127, 1, none⟩ = some (.int .i64 a0_1) := bc BK127 1; have hcz25_2 : w24.cell? ⟨gb127, 2, none⟩ = some (.int .i64 a0_2) := bc BK127 2; have hcz25_3 : w24.cell? ⟨gb127, 3, none⟩ = some (.int .i64 a0_3) := bc BK127 3; have hcz25_4 : w24.cell? ⟨gb127, 4, none⟩ = some (.slice A0_4 l0_4.length c0_4) := bc BK127 4; have hfz25_0 := blk_frozen BK127.out 0; have hfz25_1 := blk_frozen BK127.out 1; have hfz25_2 := blk_frozen BK127.out 2; have hfz25_3 := blk_frozen BK127.out 3; have hfz25_4 := blk_frozen BK127.out 4) | ((with_reducible refine gate_callee (f := 20) rfl ?_); refine goesL_ (some 9) rfl rfl Try.func20 (by kernel_rfl) rfl #[.agg #[.int .i64 a0_0, .int .i64 a0_1, .int .i64 a0_2, .int .i64 a0_3, .slice A0_4 l0_4.length c0_4]] rfl upL ?_; (with_reducible refine (plane_Valid.calls a0_0 a0_1 a0_2 a0_3 _ _ l0_4 false _ ?side1 ?side2 A4.out).mono ?_); (case side1 => repeat (first | exact (Kd.C_below HR0_4.out HB.out) | (with_reducible refine Kd.C_alloc ?_ _) | (with_reducible refine Kd.C_drewN ?_ _) | (with_reducible refine Kd.C_drew ?_))); (case side2 => exact HC0_4.out); rintro e w26 ⟨rfl, hb⟩; refine ⟨_, rfl, ?_⟩; replace BK127 := AS (blk_below (g := gb127) (o := .cells #[.int .i64 a0_0, .int .i64 a0_1, .int .i64 a0_2, .int .i64 a0_3, .slice A0_4 l0_4.length c0_4] 26) (upK BK127.out) hb); replace HB := AS (below_step (upB HB.out) hb); (try clear hb; try clear hb2; try clear hk; try clear hi)))
  go_ret2
  exact ⟨by first | rfl | (simp [errW_none, errW_some] <;> rfl) | (simp [*, errW_none, errW_some] <;> rfl), by repeat (first | (with_reducible first | exact HB.out | apply below_alloc | apply pw_below_drewN | apply below_drew1 | refine below_set ?_ GE127.out) | exact HB.out)⟩

end Go.Proofs.Ythemchggmlpdhaa.Q
