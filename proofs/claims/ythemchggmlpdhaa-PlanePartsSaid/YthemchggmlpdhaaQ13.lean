-- By a program of this session (wip/tools/mk.py), out of the kit's print of the translation; Lean checks it.
import Derived.Test.YthemchggmlpdhaaUp2
import Derived.Test.YthemchggmlpdhaaUp
import Derived.Test.YthemchggmlpdhaaCopy
import Derived.Test.YthemchggmlpdhaaQ0
import Derived.Test.YthemchggmlpdhaaQ9
import Derived.Test.YthemchggmlpdhaaQ11
namespace Go.Proofs.Ythemchggmlpdhaa.Q
open Go.RowKit Go.Proofs.YthemchggmlpdhaaW.PrintWords Go.Proofs.YthemchggmlpdhaaW.PrintLast Go.Proofs.YthemchggmlpdhaaW.PrintMore
attribute [local go_sem] max2_int min2_int max_two min_two max_three min_three max_four min_four   -- for this text's walks alone
set_option linter.unusedVariables false
set_option linter.unusedSimpArgs false

/-! ### plane_Row: function 22 -/
def plane_Row.j0 : Nat → Int → Bool → Int → Int → Int → Int → List Int → Option (List Int × Bool)
 | 0, _, _, _, _, _, _, _ => none
 | k + 1, x1, x23, x133000, x133001, x133002, x133003, x133004 => if x23 = true then (some (([] : List Int), false)) else ((plane_width.f x133000 x133001 x133002 x133003 x133004).bind fun t134 => (if 0 ≤ t134 then (if (t134 : Int).toNat ≤ 35184372088832 then ((plane_width.f x133000 x133001 x133002 x133003 x133004).bind fun t138 => (if 0 ≤ (wrap64 ((wrap64 (x1 - x133001)) * t138)) then (if (wrap64 ((wrap64 (x1 - x133001)) * t138)) ≤ (x133004.length : Int) then (some (splice (List.replicate (t134 : Int).toNat 0) 0 (List.take (t134 : Int).toNat (List.drop ((wrap64 ((wrap64 (x1 - x133001)) * t138)) : Int).toNat x133004)), true)) else (none)) else (none))) else (none)) else (none)))
def plane_Row.f (k : Nat) (a0_0 : Int) (a0_1 : Int) (a0_2 : Int) (a0_3 : Int) (l0_4 : List Int) (a1 : Int) : Option (List Int × Bool) := (plane_Valid.f a0_0 a0_1 a0_2 a0_3 l0_4).bind fun t133 => (if t133 = true then (if a1 < a0_1 then (plane_Row.j0 k a1 true a0_0 a0_1 a0_2 a0_3 l0_4) else (plane_Row.j0 k a1 (decide (a1 ≥ a0_3)) a0_0 a0_1 a0_2 a0_3 l0_4)) else (plane_Row.j0 k a1 true a0_0 a0_1 a0_2 a0_3 l0_4))
theorem plane_Row.mono_l : ∀ k, (∀ y0 y1 y2 y3 y4 y5 y6, LeO (plane_Row.j0 k y0 y1 y2 y3 y4 y5 y6) (plane_Row.j0 (k + 1) y0 y1 y2 y3 y4 y5 y6))
 | 0 => fun _ _ _ _ _ _ _ r h => by simp [plane_Row.j0] at h
 | k + 1 => by
  have ih0 := plane_Row.mono_l k
  ·intro y0 y1 y2 y3 y4 y5 y6
   unfold plane_Row.j0
   repeat' first
   | (with_reducible exact ih0 _ _ _ _ _ _ _)
   | (with_reducible exact LeO.refl _)
   | (with_reducible exact LeO.none _)
   | (with_reducible refine LeO.ite ?_ ?_)
   | (with_reducible refine LeO.bind ?_ (fun _ => ?_))
   | exact ih0 _ _ _ _ _ _ _
   | exact LeO.none _
   | refine LeO.ite ?_ ?_
   | refine LeO.bind ?_ (fun _ => ?_)
theorem plane_Row.mono : ∀ a0 a1 a2 a3 a4 a5 k, LeO (plane_Row.f k a0 a1 a2 a3 a4 a5) (plane_Row.f (k + 1) a0 a1 a2 a3 a4 a5) := by
 intro a0 a1 a2 a3 a4 a5 k
 have ih0 := plane_Row.mono_l k
 unfold plane_Row.f
 repeat' first
   | (with_reducible exact ih0 _ _ _ _ _ _ _)
   | (with_reducible exact LeO.refl _)
   | (with_reducible exact LeO.none _)
   | (with_reducible refine LeO.ite ?_ ?_)
   | (with_reducible refine LeO.bind ?_ (fun _ => ?_))
   | exact ih0 _ _ _ _ _ _ _
   | exact LeO.none _
   | refine LeO.ite ?_ ?_
   | refine LeO.bind ?_ (fun _ => ?_)
def plane_Row.T4 : Bool × List (List Nat × List Nat) := (true, [([], []), ([], []), ([1], [1]), ([], []), ([], []), ([4], [4]), ([5], [5]), ([3, 6], [3, 6]), ([], []), ([8], [8]), ([7, 9], [7, 9]), ([2, 10], [2, 10]), ([0, 11, 9], [0, 11])])
def plane_Row.B4 : List Nat := [0, 0, 2, 0, 0, 16, 48, 120, 0, 256, 1016, 2046, 4095]
theorem plane_Row.tab4 : rtab .any (opsOf Try.f22 4) = plane_Row.T4 := by kernel_rfl
theorem plane_Row.bits4 : waitsOk plane_Row.T4.2 plane_Row.B4 = true := by kernel_rfl
set_option maxHeartbeats 8000000 in
set_option maxRecDepth 100000 in
theorem plane_Row.calls (k : Nat) (a0_0 : Int) (a0_1 : Int) (a0_2 : Int) (a0_3 : Int) (A0_4 : Option Addr) (c0_4 : Nat) (l0_4 : List Int) (a1 : Int) (r1 : List Int) (r2 : Bool) (w : World) (hr0_4 : Kd.C (Kd.int .i64) w A0_4 l0_4.length l0_4) (hc0_4 : l0_4.length ≤ c0_4) (h : plane_Row.f k a0_0 a0_1 a0_2 a0_3 l0_4 a1 = some (r1, r2)) :
  Calls Try.prog 22 #[.agg #[.int .i64 a0_0, .int .i64 a0_1, .int .i64 a0_2, .int .i64 a0_3, .slice A0_4 l0_4.length c0_4], .int .i64 a1] w fun e w' => ∃ v0_ : Value, e = .returned (.tuple #[v0_, .bool r2]) ∧ Kd.R (Kd.int .i64) 3 w' w.heap.size (fun _ => True) v0_ r1 ∧ Below w.heap.size w w' := by
 have hu26 := Try.underlying26
 have HR0_4 := Aside0.mk hr0_4
 have HC0_4 := Aside0.mk hc0_4
 clear hr0_4 hc0_4
 have HB := Aside0.mk (Below.refl w.heap.size w)
 have H : ((plane_Valid.f a0_0 a0_1 a0_2 a0_3 l0_4).bind fun t133 => (if t133 = true then (if a1 < a0_1 then (plane_Row.j0 k a1 true a0_0 a0_1 a0_2 a0_3 l0_4) else (plane_Row.j0 k a1 (decide (a1 ≥ a0_3)) a0_0 a0_1 a0_2 a0_3 l0_4)) else (plane_Row.j0 k a1 true a0_0 a0_1 a0_2 a0_3 l0_4))) = some (r1, r2) := h
 clear h
 have HC3 := Aside0.mk H
 clear H
 go_enter Try.func22, Try.ntmps22
 go_upto_region 1 with (first | ((with_reducible refine gate_dst (N := 2) rfl ?_); refine box_event ?hg (N := 2) ?hd (cs := #[.int .i64 a0_0, .int .i64 a0_1, .int .i64 a0_2, .int .i64 a0_3, .slice A0_4 l0_4.length c0_4]) (t := 26) ?hr ?_; (case hd => rfl); (case hg => rfl); (case hr => first | (go_simp; done) | (go_simp; rfl)); intro gb132 hg w4 hbox hb; have BK132 := Aside0.mk (hbox); have GW132 := Aside0.mk ((by rw [hg]; exact (below_size (upB HB.out)) : w.heap.size ≤ gb132)); have GE132 := Aside0.mk ((by rw [hg]; exact (below_size (upB HB.out)) : w.heap.size ≤ gb132)); replace HB := Aside0.mk (below_step (upB HB.out) hb); clear hb hbox hg))
 (try simp only [Act.put, List.setIfInBounds_toArray, List.set_cons_zero, List.set_cons_succ])
 go_cut [23] (fun v23 wc => ∃ (kq : Nat) (x23_2 : Bool), v23 = .bool x23_2 ∧ Aside0 (plane_Row.j0 kq a1 x23_2 a0_0 a0_1 a0_2 a0_3 l0_4 = some (r1, r2)) ∧ Aside0 (kq ≤ k) ∧ Aside0 (wc.heap[gb132]? = some (.cells #[.int .i64 a0_0, .int .i64 a0_1, .int .i64 a0_2, .int .i64 a0_3, (.slice A0_4 l0_4.length c0_4)] 26 (0, 0))) ∧ Aside0 (Below w.heap.size w wc))
 case first =>
  have H := HC3.out
  clear HC3
  replace H := Option.bind_eq_some_iff.mp H
  obtain ⟨t133, A50, H⟩ := H
  replace H : (if t133 = true then (if a1 < a0_1 then (plane_Row.j0 k a1 true a0_0 a0_1 a0_2 a0_3 l0_4) else (plane_Row.j0 k a1 (decide (a1 ≥ a0_3)) a0_0 a0_1 a0_2 a0_3 l0_4)) else (plane_Row.j0 k a1 true a0_0 a0_1 a0_2 a0_3 l0_4)) = some (r1, r2) := H
  have A5 := Aside0.mk A50
  clear A50
  by_cases c6 : t133 = true
  ·subst c6
   have H1 : (if a1 < a0_1 then (plane_Row.j0 k a1 true a0_0 a0_1 a0_2 a0_3 l0_4) else (plane_Row.j0 k a1 (decide (a1 ≥ a0_3)) a0_0 a0_1 a0_2 a0_3 l0_4)) = some (r1, r2) := by rw [if_pos rfl] at H; exact H
   clear H
   have H := H1
   clear H1
   by_cases c7 : a1 < a0_1
   ·rw [if_pos c7] at H
    have c7b0 : decide (a1 < a0_1) = true := decide_eq_true c7
    clear c7
    (first | rw [c7b0] | (simp only [i64_w, i32_w]; rw [c7b0]) | skip)
    have H' := Aside0.mk H
    clear H
    have hcz8_0 : w4.cell? ⟨gb132, 0, none⟩ = some (.int .i64 a0_0) := bc BK132 0
    have hcz8_1 : w4.cell? ⟨gb132, 1, none⟩ = some (.int .i64 a0_1) := bc BK132 1
    have hcz8_2 : w4.cell? ⟨gb132, 2, none⟩ = some (.int .i64 a0_2) := bc BK132 2
    have hcz8_3 : w4.cell? ⟨gb132, 3, none⟩ = some (.int .i64 a0_3) := bc BK132 3
    have hcz8_4 : w4.cell? ⟨gb132, 4, none⟩ = some (.slice A0_4 l0_4.length c0_4) := bc BK132 4
    have hfz8_0 := blk_frozen BK132.out 0
    have hfz8_1 := blk_frozen BK132.out 1
    have hfz8_2 := blk_frozen BK132.out 2
    have hfz8_3 := blk_frozen BK132.out 3
    have hfz8_4 := blk_frozen BK132.out 4
    go_wp2_with (first | ((with_reducible refine gate_callee (f := 20) rfl ?_); refine goesL_ (some 8) rfl rfl Try.func20 (by kernel_rfl) rfl #[.agg #[.int .i64 a0_0, .int .i64 a0_1, .int .i64 a0_2, .int .i64 a0_3, .slice A0_4 l0_4.length c0_4]] rfl upL ?_; (with_reducible refine (plane_Valid.calls a0_0 a0_1 a0_2 a0_3 _ _ l0_4 true _ ?side1 ?side2 A5.out).mono ?_); (case side1 => repeat (first | exact (Kd.C_below HR0_4.out HB.out) | (with_reducible refine Kd.C_alloc ?_ _) | (with_reducible refine Kd.C_drewN ?_ _) | (with_reducible refine Kd.C_drew ?_))); (case side2 => exact HC0_4.out); rintro e w9 ⟨rfl, hb⟩; refine ⟨_, rfl, ?_⟩; replace BK132 := Aside0.mk (blk_below (g := gb132) (o := .cells #[.int .i64 a0_0, .int .i64 a0_1, .int .i64 a0_2, .int .i64 a0_3, .slice A0_4 l0_4.length c0_4] 26 (0, 0)) (upK BK132.out) hb); replace HB := Aside0.mk (below_step (upB HB.out) hb); (try clear hb; try clear hb2; try clear hk; try clear hi); have hcz10_0 : w9.cell? ⟨gb132, 0, none⟩ = some (.int .i64 a0_0) := bc BK132 0; have hcz10_1 : w9.cell? ⟨gb132, 1, none⟩ = some (.int .i64 a0_1) := bc BK132 1; have hcz10_2 : w9.cell? ⟨gb132, 2, none⟩ = some (.int .i64 a0_2) := bc BK132 2; have hcz10_3 : w9.cell? ⟨gb132, 3, none⟩ = some (.int .i64 a0_3) := bc BK132 3; have hcz10_4 : w9.cell? ⟨gb132, 4, none⟩ = some (.slice A0_4 l0_4.length c0_4) := bc BK132 4; have hfz10_0 := blk_frozen BK132.out 0; have hfz10_1 := blk_frozen BK132.out 1; have hfz10_2 := blk_frozen BK132.out 2; have hfz10_3 := blk_frozen BK132.out 3; have hfz10_4 := blk_frozen BK132.out 4))
    go_meet
    case rel => exact ⟨_, (true), (by first | rfl | (simp; done) | (simp [*]; done)), H', ⟨by first | omega | exact Nat.le_refl _⟩, ⟨by (with_reducible repeat (first | refine blk_drewN ?_ _ | refine blk_drew ?_ | refine blk_alloc ?_ _)); exact BK132.out⟩, ⟨by repeat (first | (with_reducible first | exact HB.out | apply below_alloc | apply pw_below_drewN | apply below_drew1 | refine below_set ?_ GE132.out) | exact HB.out)⟩⟩
   ·rw [if_neg c7] at H
    have c7b0 : decide (a1 < a0_1) = false := decide_eq_false c7
    clear c7
    (first | rw [c7b0] | (simp only [i64_w, i32_w]; rw [c7b0]) | skip)
    have H' := Aside0.mk H
    clear H
    have hcz11_0 : w4.cell? ⟨gb132, 0, none⟩ = some (.int .i64 a0_0) := bc BK132 0
    have hcz11_1 : w4.cell? ⟨gb132, 1, none⟩ = some (.int .i64 a0_1) := bc BK132 1
    have hcz11_2 : w4.cell? ⟨gb132, 2, none⟩ = some (.int .i64 a0_2) := bc BK132 2
    have hcz11_3 : w4.cell? ⟨gb132, 3, none⟩ = some (.int .i64 a0_3) := bc BK132 3
    have hcz11_4 : w4.cell? ⟨gb132, 4, none⟩ = some (.slice A0_4 l0_4.length c0_4) := bc BK132 4
    have hfz11_0 := blk_frozen BK132.out 0
    have hfz11_1 := blk_frozen BK132.out 1
    have hfz11_2 := blk_frozen BK132.out 2
    have hfz11_3 := blk_frozen BK132.out 3
    have hfz11_4 := blk_frozen BK132.out 4
    go_wp2_with (first | ((with_reducible refine gate_callee (f := 20) rfl ?_); refine goesL_ (some 8) rfl rfl Try.func20 (by kernel_rfl) rfl #[.agg #[.int .i64 a0_0, .int .i64 a0_1, .int .i64 a0_2, .int .i64 a0_3, .slice A0_4 l0_4.length c0_4]] rfl upL ?_; (with_reducible refine (plane_Valid.calls a0_0 a0_1 a0_2 a0_3 _ _ l0_4 true _ ?side1 ?side2 A5.out).mono ?_); (case side1 => repeat (first | exact (Kd.C_below HR0_4.out HB.out) | (with_reducible refine Kd.C_alloc ?_ _) | (with_reducible refine Kd.C_drewN ?_ _) | (with_reducible refine Kd.C_drew ?_))); (case side2 => exact HC0_4.out); rintro e w12 ⟨rfl, hb⟩; refine ⟨_, rfl, ?_⟩; replace BK132 := Aside0.mk (blk_below (g := gb132) (o := .cells #[.int .i64 a0_0, .int .i64 a0_1, .int .i64 a0_2, .int .i64 a0_3, .slice A0_4 l0_4.length c0_4] 26 (0, 0)) (upK BK132.out) hb); replace HB := Aside0.mk (below_step (upB HB.out) hb); (try clear hb; try clear hb2; try clear hk; try clear hi); have hcz13_0 : w12.cell? ⟨gb132, 0, none⟩ = some (.int .i64 a0_0) := bc BK132 0; have hcz13_1 : w12.cell? ⟨gb132, 1, none⟩ = some (.int .i64 a0_1) := bc BK132 1; have hcz13_2 : w12.cell? ⟨gb132, 2, none⟩ = some (.int .i64 a0_2) := bc BK132 2; have hcz13_3 : w12.cell? ⟨gb132, 3, none⟩ = some (.int .i64 a0_3) := bc BK132 3; have hcz13_4 : w12.cell? ⟨gb132, 4, none⟩ = some (.slice A0_4 l0_4.length c0_4) := bc BK132 4; have hfz13_0 := blk_frozen BK132.out 0; have hfz13_1 := blk_frozen BK132.out 1; have hfz13_2 := blk_frozen BK132.out 2; have hfz13_3 := blk_frozen BK132.out 3; have hfz13_4 := blk_frozen BK132.out 4))
    go_meet
    case rel => exact ⟨_, (decide (a1 ≥ a0_3)), (by first | rfl | (simp; done) | (simp [*]; done)), H', ⟨by first | omega | exact Nat.le_refl _⟩, ⟨by (with_reducible repeat (first | refine blk_drewN ?_ _ | refine blk_drew ?_ | refine blk_alloc ?_ _)); exact BK132.out⟩, ⟨by repeat (first | (with_reducible first | exact HB.out | apply below_alloc | apply pw_below_drewN | apply below_drew1 | refine below_set ?_ GE132.out) | exact HB.out)⟩⟩
  ·replace c6 := Bool.eq_false_iff.mpr c6
   subst c6
   have H1 : (plane_Row.j0 k a1 true a0_0 a0_1 a0_2 a0_3 l0_4) = some (r1, r2) := by rw [if_neg (show ¬ (false = true) by decide)] at H; exact H
   clear H
   have H := H1
   clear H1
   have H' := Aside0.mk H
   clear H
   have hcz14_0 : w4.cell? ⟨gb132, 0, none⟩ = some (.int .i64 a0_0) := bc BK132 0
   have hcz14_1 : w4.cell? ⟨gb132, 1, none⟩ = some (.int .i64 a0_1) := bc BK132 1
   have hcz14_2 : w4.cell? ⟨gb132, 2, none⟩ = some (.int .i64 a0_2) := bc BK132 2
   have hcz14_3 : w4.cell? ⟨gb132, 3, none⟩ = some (.int .i64 a0_3) := bc BK132 3
   have hcz14_4 : w4.cell? ⟨gb132, 4, none⟩ = some (.slice A0_4 l0_4.length c0_4) := bc BK132 4
   have hfz14_0 := blk_frozen BK132.out 0
   have hfz14_1 := blk_frozen BK132.out 1
   have hfz14_2 := blk_frozen BK132.out 2
   have hfz14_3 := blk_frozen BK132.out 3
   have hfz14_4 := blk_frozen BK132.out 4
   go_wp2_with (first | ((with_reducible refine gate_callee (f := 20) rfl ?_); refine goesL_ (some 8) rfl rfl Try.func20 (by kernel_rfl) rfl #[.agg #[.int .i64 a0_0, .int .i64 a0_1, .int .i64 a0_2, .int .i64 a0_3, .slice A0_4 l0_4.length c0_4]] rfl upL ?_; (with_reducible refine (plane_Valid.calls a0_0 a0_1 a0_2 a0_3 _ _ l0_4 false _ ?side1 ?side2 A5.out).mono ?_); (case side1 => repeat (first | exact (Kd.C_below HR0_4.out HB.out) | (with_reducible refine Kd.C_alloc ?_ _) | (with_reducible refine Kd.C_drewN ?_ _) | (with_reducible refine Kd.C_drew ?_))); (case side2 => exact HC0_4.out); rintro e w15 ⟨rfl, hb⟩; refine ⟨_, rfl, ?_⟩; replace BK132 := Aside0.mk (blk_below (g := gb132) (o := .cells #[.int .i64 a0_0, .int .i64 a0_1, .int .i64 a0_2, .int .i64 a0_3, .slice A0_4 l0_4.length c0_4] 26 (0, 0)) (upK BK132.out) hb); replace HB := Aside0.mk (below_step (upB HB.out) hb); (try clear hb; try clear hb2; try clear hk; try clear hi)))
   go_meet
   case rel => exact ⟨_, (true), (by first | rfl | (simp; done) | (simp [*]; done)), H', ⟨by first | omega | exact Nat.le_refl _⟩, ⟨by (with_reducible repeat (first | refine blk_drewN ?_ _ | refine blk_drew ?_ | refine blk_alloc ?_ _)); exact BK132.out⟩, ⟨by repeat (first | (with_reducible first | exact HB.out | apply below_alloc | apply pw_below_drewN | apply below_drew1 | refine below_set ?_ GE132.out) | exact HB.out)⟩⟩
 case rest =>
  clear HC3
  try clear c2; try clear p2; try clear c6; try clear c7; try clear c7b0; try clear hcz10_0; try clear hcz10_1; try clear hcz10_2; try clear hcz10_3; try clear hcz10_4; try clear hcz11_0; try clear hcz11_1; try clear hcz11_2; try clear hcz11_3; try clear hcz11_4; try clear hcz13_0; try clear hcz13_1; try clear hcz13_2; try clear hcz13_3; try clear hcz13_4; try clear hcz14_0; try clear hcz14_1; try clear hcz14_2; try clear hcz14_3; try clear hcz14_4; try clear hcz8_0; try clear hcz8_1; try clear hcz8_2; try clear hcz8_3; try clear hcz8_4; try clear hfz10_0; try clear hfz10_1; try clear hfz10_2; try clear hfz10_3; try clear hfz10_4; try clear hfz11_0; try clear hfz11_1; try clear hfz11_2; try clear hfz11_3; try clear hfz11_4; try clear hfz13_0; try clear hfz13_1; try clear hfz13_2; try clear hfz13_3; try clear hfz13_4; try clear hfz14_0; try clear hfz14_1; try clear hfz14_2; try clear hfz14_3; try clear hfz14_4; try clear hfz8_0; try clear hfz8_1; try clear hfz8_2; try clear hfz8_3; try clear hfz8_4
  obtain ⟨kq, x23_2, rfl, HA, HJ2, BK132, HB⟩ := hcut
  cases kq with
  | zero => exact absurd HA.out (by simp [plane_Row.j0])
  | succ kj2 =>
   have H := HA.out
   clear HA
   simp only [plane_Row.j0] at H
   by_cases c16 : x23_2 = true
   ·subst c16
    have H1 : (some (([] : List Int), false)) = some (r1, r2) := by rw [if_pos rfl] at H; exact H
    clear H
    have H := H1
    clear H1
    simp only [Option.some.injEq, Prod.mk.injEq] at H
    obtain ⟨rfl, rfl⟩ := H
    go_wp2
    go_ret2
    exact ⟨_, by first | rfl | (simp [errW_none, errW_some] <;> rfl) | (simp [*, errW_none, errW_some] <;> rfl), by first | exact Kd.R_nil _ _ _ _ _ | exact Kd.N_nil _ _ _ _ _ | exact Kd.V_nil _ _ _ _ _ | exact Kd.Q_nil _ _ _ _ _ | exact Kd.S_nil _ _ _ _ _, by repeat (first | (with_reducible first | exact HB.out | apply below_alloc | apply pw_below_drewN | apply below_drew1 | refine below_set ?_ GE132.out) | exact HB.out)⟩
   ·replace c16 := Bool.eq_false_iff.mpr c16
    subst c16
    have H1 : ((plane_width.f a0_0 a0_1 a0_2 a0_3 l0_4).bind fun t134 => (if 0 ≤ t134 then (if (t134 : Int).toNat ≤ 35184372088832 then ((plane_width.f a0_0 a0_1 a0_2 a0_3 l0_4).bind fun t138 => (if 0 ≤ (wrap64 ((wrap64 (a1 - a0_1)) * t138)) then (if (wrap64 ((wrap64 (a1 - a0_1)) * t138)) ≤ (l0_4.length : Int) then (some (splice (List.replicate (t134 : Int).toNat 0) 0 (List.take (t134 : Int).toNat (List.drop ((wrap64 ((wrap64 (a1 - a0_1)) * t138)) : Int).toNat l0_4)), true)) else (none)) else (none))) else (none)) else (none))) = some (r1, r2) := by rw [if_neg (show ¬ (false = true) by decide)] at H; exact H
    clear H
    have H := H1
    clear H1
    replace H := Option.bind_eq_some_iff.mp H
    obtain ⟨t134, A170, H⟩ := H
    replace H : (if 0 ≤ t134 then (if (t134 : Int).toNat ≤ 35184372088832 then ((plane_width.f a0_0 a0_1 a0_2 a0_3 l0_4).bind fun t138 => (if 0 ≤ (wrap64 ((wrap64 (a1 - a0_1)) * t138)) then (if (wrap64 ((wrap64 (a1 - a0_1)) * t138)) ≤ (l0_4.length : Int) then (some (splice (List.replicate (t134 : Int).toNat 0) 0 (List.take (t134 : Int).toNat (List.drop ((wrap64 ((wrap64 (a1 - a0_1)) * t138)) : Int).toNat l0_4)), true)) else (none)) else (none))) else (none)) else (none)) = some (r1, r2) := H
    have A17 := Aside0.mk A170
    clear A170
    by_cases c18 : 0 ≤ t134
    ·rw [if_pos c18] at H
     have c18b0 := eq_true c18
     have c18b1 : decide (0 ≤ t134) = true := decide_eq_true c18
     clear c18
     by_cases c19 : (t134 : Int).toNat ≤ 35184372088832
     ·rw [if_pos c19] at H
      have c19b0 := eq_true c19
      have c19b1 : decide ((t134 : Int).toNat ≤ 35184372088832) = true := decide_eq_true c19
      clear c19
      obtain ⟨y135, hy135⟩ : ∃ y_ : List Int, y_ = (List.replicate (t134 : Int).toNat 0) := ⟨_, rfl⟩
      replace H : ((plane_width.f a0_0 a0_1 a0_2 a0_3 l0_4).bind fun t138 => (if 0 ≤ (wrap64 ((wrap64 (a1 - a0_1)) * t138)) then (if (wrap64 ((wrap64 (a1 - a0_1)) * t138)) ≤ (l0_4.length : Int) then (some (splice y135 0 (List.take (t134 : Int).toNat (List.drop ((wrap64 ((wrap64 (a1 - a0_1)) * t138)) : Int).toNat l0_4)), true)) else (none)) else (none))) = some (r1, r2) := by first | (rw [hy135]; with_reducible exact H) | (have H2_ := (Option.bind_some _ _).symm.trans H; rw [hy135]; with_reducible exact H2_) | (have H2_ := (Option.bind_some _ _).symm.trans H; with_reducible exact H2_) | with_reducible exact H | (rw [hy135]; exact H) | exact H
      have Ny135 := Aside0.mk hy135
      clear hy135
      replace H := Option.bind_eq_some_iff.mp H
      obtain ⟨t138, A200, H⟩ := H
      replace H : (if 0 ≤ (wrap64 ((wrap64 (a1 - a0_1)) * t138)) then (if (wrap64 ((wrap64 (a1 - a0_1)) * t138)) ≤ (l0_4.length : Int) then (some (splice y135 0 (List.take (t134 : Int).toNat (List.drop ((wrap64 ((wrap64 (a1 - a0_1)) * t138)) : Int).toNat l0_4)), true)) else (none)) else (none)) = some (r1, r2) := H
      have A20 := Aside0.mk A200
      clear A200
      obtain ⟨ji21, hji21⟩ : ∃ j_ : Int, (wrap64 ((wrap64 (a1 - a0_1)) * t138)) = j_ := ⟨_, rfl⟩
      replace H : (if 0 ≤ (ji21) then (if (ji21) ≤ (l0_4.length : Int) then (some (splice y135 0 (List.take (t134 : Int).toNat (List.drop ((ji21) : Int).toNat l0_4)), true)) else (none)) else (none)) = some (r1, r2) := by first | (rw [hji21] at H; exact H) | (simp only [hji21] at H ⊢; exact H)
      (try rw [hji21] at A17)
      (try rw [hji21] at A20)
      have hji21w : (IntKind.i64.wrap ((wrap64 (a1 - a0_1)) * t138)) = ji21 := (i64_w _).trans hji21
      by_cases c22 : 0 ≤ (ji21)
      ·rw [if_pos c22] at H
       have c22b0 := eq_true c22
       have c22b1 : decide (0 ≤ (ji21)) = true := decide_eq_true c22
       clear c22
       by_cases c23 : (ji21) ≤ (l0_4.length : Int)
       ·rw [if_pos c23] at H
        have c23b0 := eq_true c23
        have c23b1 : decide ((ji21) ≤ (l0_4.length : Int)) = true := decide_eq_true c23
        clear c23
        simp only [Option.some.injEq, Prod.mk.injEq] at H
        obtain ⟨rfl, rfl⟩ := H
        have hcz24_0 : wc.cell? ⟨gb132, 0, none⟩ = some (.int .i64 a0_0) := bc BK132 0
        have hcz24_1 : wc.cell? ⟨gb132, 1, none⟩ = some (.int .i64 a0_1) := bc BK132 1
        have hcz24_2 : wc.cell? ⟨gb132, 2, none⟩ = some (.int .i64 a0_2) := bc BK132 2
        have hcz24_3 : wc.cell? ⟨gb132, 3, none⟩ = some (.int .i64 a0_3) := bc BK132 3
        have hcz24_4 : wc.cell? ⟨gb132, 4, none⟩ = some (.slice A0_4 l0_4.length c0_4) := bc BK132 4
        have hfz24_0 := blk_frozen BK132.out 0
        have hfz24_1 := blk_frozen BK132.out 1
        have hfz24_2 := blk_frozen BK132.out 2
        have hfz24_3 := blk_frozen BK132.out 3
        have hfz24_4 := blk_frozen BK132.out 4
        try go_wp2_with (first | ((with_reducible refine gate_callee (f := 43) rfl ?_); refine goesL_ (some 25) rfl rfl Try.func43 (by kernel_rfl) rfl #[.agg #[.int .i64 a0_0, .int .i64 a0_1, .int .i64 a0_2, .int .i64 a0_3, .slice A0_4 l0_4.length c0_4]] rfl upL ?_; (with_reducible refine (plane_width.calls a0_0 a0_1 a0_2 a0_3 _ _ l0_4 t134 _ ?side1 ?side2 A17.out).mono ?_); (case side1 => repeat (first | exact (Kd.C_below HR0_4.out HB.out) | (with_reducible refine Kd.C_alloc ?_ _) | (with_reducible refine Kd.C_drewN ?_ _) | (with_reducible refine Kd.C_drew ?_))); (case side2 => exact HC0_4.out); rintro e w25 ⟨rfl, hb⟩; refine ⟨_, rfl, ?_⟩; replace BK132 := Aside0.mk (blk_below (g := gb132) (o := .cells #[.int .i64 a0_0, .int .i64 a0_1, .int .i64 a0_2, .int .i64 a0_3, .slice A0_4 l0_4.length c0_4] 26 (0, 0)) (upK BK132.out) hb); replace HB := Aside0.mk (below_step (upB HB.out) hb); (try clear hb; try clear hb2; try clear hk; try clear hi)) | ((with_reducible refine gate_dst (N := 26) rfl ?_); refine Kd.R_make (Kd.int .i64) _ 3 rfl (N := 26) rfl 24 _ _ rfl t134 rfl rfl Try.underlying24 (.int .i64 0) 8 info3 rfl (by decide) (by omega) 0 (ok := fun _ => True) (okp := fun _ => True) rfl (fun _ hk => hk) trivial (of_decide_eq_true (by first | (with_reducible assumption) | assumption)) (Nat.le_trans (Nat.mul_le_mul_right _ (of_decide_eq_true (by first | (with_reducible assumption) | assumption) : t134.toNat ≤ 35184372088832)) (by omega)) (Below.refl _ _) (Nat.le_refl _) ?_; intro v136 w26 ho27 hb hg_ hnew_; clear hg_ hnew_; (first | rw [← Ny135.out] at ho27 | (simp only [Int.reduceToNat] at ho27; rw [← Ny135.out] at ho27)); have HO137 := Aside0.mk (Kd.R_lower ho27 (below_size (upB HB.out))); replace BK132 := Aside0.mk (blk_below (g := gb132) (o := .cells #[.int .i64 a0_0, .int .i64 a0_1, .int .i64 a0_2, .int .i64 a0_3, .slice A0_4 l0_4.length c0_4] 26 (0, 0)) (upK BK132.out) hb); replace HB := Aside0.mk (below_step (upB HB.out) hb); clear hb ho27))
        replace HO137 := Aside0.mk (Kd.R_drew HO137.out)
        replace BK132 := Aside0.mk (blk_drew BK132.out)
        replace HB := Aside0.mk (below_drew1 HB.out)
        refine start_ (n := 13) (S := fun w' => ce w' gb132 0 (.int .i64 a0_0) ∧ ce w' gb132 1 (.int .i64 a0_1) ∧ ce w' gb132 2 (.int .i64 a0_2) ∧ ce w' gb132 3 (.int .i64 a0_3) ∧ ce w' gb132 4 (.slice A0_4 l0_4.length c0_4)) (ds := []) #[false, false, false, false, false, false, false, false, false, false, false, false, false] (by kernel_rfl) rfl rfl ⟨bc BK132 0, bc BK132 1, bc BK132 2, bc BK132 3, bc BK132 4⟩ (fun hHeld => ?_); refine with_tabW plane_Row.tab4 plane_Row.bits4 (fun HT_ HW_ => ?_)
        generalize w26.drew = w28 at HO137 BK132 HB hHeld ⊢
        refine puX 0 27 (MK [1, 12]) HT_.out ?_
        refine puX 1 28 (MK [2, 11]) HT_.out ?_
        refine puX 3 30 (MK [2, 1, 1, 9]) HT_.out ?_
        refine puX 4 31 (MK [2, 1, 2, 8]) HT_.out ?_
        refine puX 5 32 (MK [2, 1, 3, 7]) HT_.out ?_
        refine taX 2 29 (MK [6, 7]) HT_.out HW_.out hHeld ?_
        refine taX 6 33 (MK [7, 6]) HT_.out HW_.out hHeld ?_
        refine puX 7 34 (MK [8, 5]) HT_.out ?_
        refine taX 8 35 (MK [9, 4]) HT_.out HW_.out hHeld ?_
        refine onX 9 36 (MK [10, 3]) HT_.out (fun K hK => ?_)
        refine goes_ Try.func43 (by kernel_rfl) rfl #[.agg #[.int .i64 a0_0, .int .i64 a0_1, .int .i64 a0_2, .int .i64 a0_3, .slice A0_4 l0_4.length c0_4]] (by rfl) rfl rfl upL ?_
        with_reducible refine (plane_width.calls a0_0 a0_1 a0_2 a0_3 _ _ l0_4 t138 _ ?side1 ?side2 A20.out).mono ?_
        (case side1 => repeat (first | exact (Kd.C_below HR0_4.out HB.out) | (with_reducible refine Kd.C_alloc ?_ _) | (with_reducible refine Kd.C_drewN ?_ _) | (with_reducible refine Kd.C_drew ?_)))
        (case side2 => exact HC0_4.out)
        rintro e w29 ⟨rfl, hb⟩
        refine ⟨_, rfl, ?_⟩
        replace HO137 := Aside0.mk (Kd.R_below (upR HO137.out) hb)
        replace BK132 := Aside0.mk (blk_below (g := gb132) (o := .cells #[.int .i64 a0_0, .int .i64 a0_1, .int .i64 a0_2, .int .i64 a0_3, .slice A0_4 l0_4.length c0_4] 26 (0, 0)) (upK BK132.out) hb)
        replace HB := Aside0.mk (below_step (upB HB.out) hb)
        (try clear hb); (try clear hb2); (try clear hk); (try clear hi)
        obtain ⟨i030, hi030, _, hsz30, _⟩ := info_parts info3
        obtain ⟨A30, hcut30, hA30, hC30⟩ := print_drop_of (P := Try.prog) (Value.int .i64) 0 24 3 .i64 Try.underlying24 hi030 hsz30 A0_4 c0_4 l0_4 (ji21) (of_decide_eq_true (by first | (with_reducible assumption) | assumption)) (of_decide_eq_true (by first | (with_reducible assumption) | assumption)) HC0_4.out
        have HR139 := Aside0.mk (Kd.C_of_reads (h1 := fun _ => rfl) (hA30 _ (Kd.reads_of_C HR0_4.out)))
        have HC139 := Aside0.mk hC30
        clear hA30 hC30 hi030 hsz30
        refine hK.out _ _ ⟨bc BK132 0, bc BK132 1, bc BK132 2, bc BK132 3, bc BK132 4⟩ (fun hHeld => ?_)
        clear hK K
        refine noX ?_
        refine puX 10 37 (MK [11, 2]) HT_.out ?_
        refine puX 11 38 (MK [12, 1]) HT_.out ?_
        refine onX 12 39 (MK [13]) HT_.out (fun K hK => ?_)
        have hyl_ : (y135.length : Int) = t134 := by rw [Ny135.out, List.length_replicate]; exact Int.toNat_of_nonneg (of_eq_true c18b0)
        obtain ⟨Ao_, co_, eo_⟩ := Kd.R_slice HO137.out
        subst eo_
        have hye_ : y135.length = (t134 : Int).toNat := by rw [Ny135.out, List.length_replicate]
        refine step_copyR (P := Try.prog) (n := y135.length) (ys := List.drop ji21.toNat l0_4) rfl (.tmp 27) (.tmp 38) 24 24 rfl Try.underlying24 (by kernel_rfl) HO137.out 0 y135.length _ (fun _ => map_add0 _) (by omega) (Kd.C_below HR139.out HB.out) rfl (by rw [List.length_drop]; rfl) ?_
        intro w31 hr hg
        rw [hye_] at hr
        have n0_ := Aside0.mk hr
        have n1_ := Aside0.mk (blk_grown BK132.out hg (Kd.R_ne HO137.out BK132.out (by decide)))
        have n2_ := Aside0.mk (HB.out.grown hg HB.out.size (own_base (Kd.own_of_R HO137.out)))
        clear HO137 BK132 HB
        have HO137 := n0_
        have BK132 := n1_
        have HB := n2_
        clear n0_ n1_ n2_ hr hg
        refine hK.out _ _ ⟨bc BK132 0, bc BK132 1, bc BK132 2, bc BK132 3, bc BK132 4⟩ (fun hHeld => ?_)
        clear hK K
        refine done_ (done_of HT_.out (by kernel_rfl)) ?_
        try go_wp2
        go_ret2
        exact ⟨_, by first | rfl | (simp [errW_none, errW_some] <;> rfl) | (simp only [← hji21]; first | rfl | (simp [errW_none, errW_some] <;> rfl)) | (simp [*, errW_none, errW_some] <;> rfl), by (with_reducible repeat (first | apply Kd.R_alloc | apply Kd.R_drewN | apply Kd.R_drew)); exact HO137.out, by repeat (first | (with_reducible first | exact HB.out | apply below_alloc | apply pw_below_drewN | apply below_drew1 | refine below_set ?_ GE132.out) | exact HB.out)⟩
       ·rw [if_neg c23] at H
        exact absurd H (by simp)
      ·rw [if_neg c22] at H
       exact absurd H (by simp)
     ·rw [if_neg c19] at H
      exact absurd H (by simp)
    ·rw [if_neg c18] at H
     exact absurd H (by simp)

end Go.Proofs.Ythemchggmlpdhaa.Q
