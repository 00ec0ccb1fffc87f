-- By a program of this session (wip/tools/mk.py), out of the kit's print of the translation; Lean checks it.
import Derived.Test.YthemchggmlpdhaaUp2
import Derived.Test.YthemchggmlpdhaaUp
import Derived.Test.YthemchggmlpdhaaQ0
import Derived.Test.YthemchggmlpdhaaQ8
import Derived.Test.YthemchggmlpdhaaQ23
import Derived.Test.YthemchggmlpdhaaQ25
import Derived.Test.YthemchggmlpdhaaQ28
namespace Go.Proofs.Ythemchggmlpdhaa.Q
open Go.RowKit Go.Proofs.YthemchggmlpdhaaW.PrintWords Go.Proofs.YthemchggmlpdhaaW.PrintLast Go.Proofs.YthemchggmlpdhaaW.PrintMore
attribute [local go_sem] max2_int min2_int max_two min_two max_three min_three max_four min_four   -- for this text's walks alone
set_option linter.unusedVariables false
set_option linter.unusedSimpArgs false

/-! ### waveletlaw02_PlaneSames: function 8 -/
def waveletlaw02_PlaneSames.j0 : Nat → Bool → Int → Int → Int → Int → List Int → Int → Int → Int → Int → List Int → Option (Bool)
 | 0, _, _, _, _, _, _, _, _, _, _, _ => none
 | k + 1, x12, x570000, x570001, x570002, x570003, x570004, x571000, x571001, x571002, x571003, x571004 => if x12 = true then ((waveletlaw02_exampleHolds.f k).bind fun t573 => (some t573)) else ((plane_Same.f k x570000 x570001 x570002 x570003 x570004 x571000 x571001 x571002 x571003 x571004).bind fun t574 => ((waveletref02_Same.f k x570000 x570001 x570002 x570003 x570004 x571000 x571001 x571002 x571003 x571004).bind fun t575 => (if (t574 == t575) = true then ((plane_Same.f k x571000 x571001 x571002 x571003 x571004 x570000 x570001 x570002 x570003 x570004).bind fun t576 => ((waveletref02_Same.f k x570000 x570001 x570002 x570003 x570004 x571000 x571001 x571002 x571003 x571004).bind fun t577 => (if (t576 == t577) = true then ((plane_Same.f k x570000 x570001 x570002 x570003 x570004 x570000 x570001 x570002 x570003 x570004).bind fun t578 => (if t578 = true then ((waveletlaw02_exampleHolds.f k).bind fun t579 => (some t579)) else (some false))) else (some false)))) else (some false))))
def waveletlaw02_PlaneSames.f (k : Nat) (a0_0 : Int) (a0_1 : Int) (a0_2 : Int) (a0_3 : Int) (l0_4 : List Int) (a1_0 : Int) (a1_1 : Int) (a1_2 : Int) (a1_3 : Int) (l1_4 : List Int) : Option (Bool) := (waveletref02_Few.f a0_0 a0_1 a0_2 a0_3 l0_4).bind fun t571 => (if t571 = true then ((waveletref02_Few.f a1_0 a1_1 a1_2 a1_3 l1_4).bind fun t572 => (waveletlaw02_PlaneSames.j0 k (!t572) a0_0 a0_1 a0_2 a0_3 l0_4 a1_0 a1_1 a1_2 a1_3 l1_4)) else (waveletlaw02_PlaneSames.j0 k true a0_0 a0_1 a0_2 a0_3 l0_4 a1_0 a1_1 a1_2 a1_3 l1_4))
theorem waveletlaw02_PlaneSames.mono_l : ∀ k, (∀ y0 y1 y2 y3 y4 y5 y6 y7 y8 y9 y10, LeO (waveletlaw02_PlaneSames.j0 k y0 y1 y2 y3 y4 y5 y6 y7 y8 y9 y10) (waveletlaw02_PlaneSames.j0 (k + 1) y0 y1 y2 y3 y4 y5 y6 y7 y8 y9 y10))
 | 0 => fun _ _ _ _ _ _ _ _ _ _ _ r h => by simp [waveletlaw02_PlaneSames.j0] at h
 | k + 1 => by
  have ih0 := waveletlaw02_PlaneSames.mono_l k
  ·intro y0 y1 y2 y3 y4 y5 y6 y7 y8 y9 y10
   unfold waveletlaw02_PlaneSames.j0
   repeat' first
   | (with_reducible exact ih0 _ _ _ _ _ _ _ _ _ _ _)
   | (with_reducible exact plane_Same.mono _ _ _ _ _ _ _ _ _ _ _)
   | (with_reducible exact waveletlaw02_exampleHolds.mono _)
   | (with_reducible exact waveletref02_Same.mono _ _ _ _ _ _ _ _ _ _ _)
   | (with_reducible exact LeO.refl _)
   | (with_reducible exact LeO.none _)
   | (with_reducible refine LeO.ite ?_ ?_)
   | (with_reducible refine LeO.bind ?_ (fun _ => ?_))
   | exact ih0 _ _ _ _ _ _ _ _ _ _ _
   | exact plane_Same.mono _ _ _ _ _ _ _ _ _ _ _
   | exact waveletlaw02_exampleHolds.mono _
   | exact waveletref02_Same.mono _ _ _ _ _ _ _ _ _ _ _
   | exact LeO.none _
   | refine LeO.ite ?_ ?_
   | refine LeO.bind ?_ (fun _ => ?_)
theorem waveletlaw02_PlaneSames.mono : ∀ a0 a1 a2 a3 a4 a5 a6 a7 a8 a9 k, LeO (waveletlaw02_PlaneSames.f k a0 a1 a2 a3 a4 a5 a6 a7 a8 a9) (waveletlaw02_PlaneSames.f (k + 1) a0 a1 a2 a3 a4 a5 a6 a7 a8 a9) := by
 intro a0 a1 a2 a3 a4 a5 a6 a7 a8 a9 k
 have ih0 := waveletlaw02_PlaneSames.mono_l k
 unfold waveletlaw02_PlaneSames.f
 repeat' first
   | (with_reducible exact ih0 _ _ _ _ _ _ _ _ _ _ _)
   | (with_reducible exact plane_Same.mono _ _ _ _ _ _ _ _ _ _ _)
   | (with_reducible exact waveletlaw02_exampleHolds.mono _)
   | (with_reducible exact waveletref02_Same.mono _ _ _ _ _ _ _ _ _ _ _)
   | (with_reducible exact LeO.refl _)
   | (with_reducible exact LeO.none _)
   | (with_reducible refine LeO.ite ?_ ?_)
   | (with_reducible refine LeO.bind ?_ (fun _ => ?_))
   | exact ih0 _ _ _ _ _ _ _ _ _ _ _
   | exact plane_Same.mono _ _ _ _ _ _ _ _ _ _ _
   | exact waveletlaw02_exampleHolds.mono _
   | exact waveletref02_Same.mono _ _ _ _ _ _ _ _ _ _ _
   | exact LeO.none _
   | refine LeO.ite ?_ ?_
   | refine LeO.bind ?_ (fun _ => ?_)
def waveletlaw02_PlaneSames.T3 : Bool × List (List Nat × List Nat) := (true, [([], []), ([], []), ([0, 1], [0, 1]), ([], []), ([], []), ([3, 4, 2], [3, 4]), ([2, 5], [2, 5]), ([6, 5], [6]), ([7], [7]), ([7], [7]), ([8, 9, 7, 7], [7, 8, 9]), ([7], [7]), ([7], [7]), ([11, 12, 10, 7], [7, 11, 12]), ([10, 13, 7], [7, 10, 13]), ([7, 14], [7, 14]), ([15, 13], [15]), ([16], [16]), ([16], [16]), ([17, 18, 16, 16], [16, 17, 18]), ([16, 19], [16, 19]), ([20, 19], [20]), ([21, 21], [21]), ([21, 22], [21, 22]), ([23, 22, 0, 1, 2, 3, 4, 5, 6, 7, 8, 9, 10, 11, 12, 13, 14, 15, 16, 17, 18, 19, 20, 21, 22, 23], [23])])
def waveletlaw02_PlaneSames.B3 : List Nat := [0, 0, 3, 0, 0, 31, 63, 127, 255, 255, 1023, 255, 255, 8191, 16383, 32767, 65535, 131071, 131071, 524287, 1048575, 2097151, 4194303, 8388607, 16777215]
theorem waveletlaw02_PlaneSames.tab3 : rtab .any (opsOf Try.f8 3) = waveletlaw02_PlaneSames.T3 := by kernel_rfl
theorem waveletlaw02_PlaneSames.bits3 : waitsOk waveletlaw02_PlaneSames.T3.2 waveletlaw02_PlaneSames.B3 = true := by kernel_rfl
set_option maxHeartbeats 8000000 in
set_option maxRecDepth 100000 in
theorem waveletlaw02_PlaneSames.calls (k : Nat) (a0_0 : Int) (a0_1 : Int) (a0_2 : Int) (a0_3 : Int) (A0_4 : Option Addr) (c0_4 : Nat) (l0_4 : List Int) (a1_0 : Int) (a1_1 : Int) (a1_2 : Int) (a1_3 : Int) (A1_4 : Option Addr) (c1_4 : Nat) (l1_4 : List Int) (r : Bool) (hr_ : r = true) (w : World) (hr0_4 : Kd.C (Kd.int .i64) w A0_4 l0_4.length l0_4) (hc0_4 : l0_4.length ≤ c0_4) (hr1_4 : Kd.C (Kd.int .i64) w A1_4 l1_4.length l1_4) (hc1_4 : l1_4.length ≤ c1_4) (h : waveletlaw02_PlaneSames.f k a0_0 a0_1 a0_2 a0_3 l0_4 a1_0 a1_1 a1_2 a1_3 l1_4 = some r) :
  Calls Try.prog 8 #[.agg #[.int .i64 a0_0, .int .i64 a0_1, .int .i64 a0_2, .int .i64 a0_3, .slice A0_4 l0_4.length c0_4], .agg #[.int .i64 a1_0, .int .i64 a1_1, .int .i64 a1_2, .int .i64 a1_3, .slice A1_4 l1_4.length c1_4]] w fun e w' => e = .returned (.bool r) ∧ Below w.heap.size w w' := by
 have hu26 := Try.underlying26
 have HR0_4 := Aside0.mk hr0_4
 have HC0_4 := Aside0.mk hc0_4
 clear hr0_4 hc0_4
 have HR1_4 := Aside0.mk hr1_4
 have HC1_4 := Aside0.mk hc1_4
 clear hr1_4 hc1_4
 have HB := Aside0.mk (Below.refl w.heap.size w)
 have H : ((waveletref02_Few.f a0_0 a0_1 a0_2 a0_3 l0_4).bind fun t571 => (if t571 = true then ((waveletref02_Few.f a1_0 a1_1 a1_2 a1_3 l1_4).bind fun t572 => (waveletlaw02_PlaneSames.j0 k (!t572) a0_0 a0_1 a0_2 a0_3 l0_4 a1_0 a1_1 a1_2 a1_3 l1_4)) else (waveletlaw02_PlaneSames.j0 k true a0_0 a0_1 a0_2 a0_3 l0_4 a1_0 a1_1 a1_2 a1_3 l1_4))) = some r := h
 clear h
 have HC3 := Aside0.mk H
 clear H
 go_enter Try.func8, Try.ntmps8
 go_upto_region 1 with (first | ((with_reducible refine gate_dst (N := 2) rfl ?_); refine box_event ?hg (N := 2) ?hd (cs := #[.int .i64 a0_0, .int .i64 a0_1, .int .i64 a0_2, .int .i64 a0_3, .slice A0_4 l0_4.length c0_4]) (t := 26) ?hr ?_; (case hd => rfl); (case hg => rfl); (case hr => first | (go_simp; done) | (go_simp; rfl)); intro gb569 hg w4 hbox hb; have BK569 := Aside0.mk (hbox); have GW569 := Aside0.mk ((by rw [hg]; exact (below_size (upB HB.out)) : w.heap.size ≤ gb569)); have GE569 := Aside0.mk ((by rw [hg]; exact (below_size (upB HB.out)) : w.heap.size ≤ gb569)); replace HB := Aside0.mk (below_step (upB HB.out) hb); clear hb hbox hg) | ((with_reducible refine gate_dst (N := 3) rfl ?_); refine box_event ?hg (N := 3) ?hd (cs := #[.int .i64 a1_0, .int .i64 a1_1, .int .i64 a1_2, .int .i64 a1_3, .slice A1_4 l1_4.length c1_4]) (t := 26) ?hr ?_; (case hd => rfl); (case hg => rfl); (case hr => first | (go_simp; done) | (go_simp; rfl)); intro gb570 hg w5 hbox hb; have BK570 := Aside0.mk (hbox); have GW570 := Aside0.mk ((by rw [hg]; exact (below_size (upB HB.out)) : w.heap.size ≤ gb570)); have GE570 := Aside0.mk ((by rw [hg]; exact (below_size (upB HB.out)) : w.heap.size ≤ gb570)); replace HB := Aside0.mk (below_step (upB HB.out) hb); have NB569_570 := Aside0.mk ((by rw [hg]; exact Nat.ne_of_lt (blk_lt (g := gb569) (o := .cells #[.int .i64 a0_0, .int .i64 a0_1, .int .i64 a0_2, .int .i64 a0_3, .slice A0_4 l0_4.length c0_4] 26 (0, 0)) (upK BK569.out)) : gb569 ≠ gb570)); have NB570_569 := Aside0.mk ((by rw [hg]; exact Nat.ne_of_gt (blk_lt (g := gb569) (o := .cells #[.int .i64 a0_0, .int .i64 a0_1, .int .i64 a0_2, .int .i64 a0_3, .slice A0_4 l0_4.length c0_4] 26 (0, 0)) (upK BK569.out)) : gb570 ≠ gb569)); replace BK569 := Aside0.mk (blk_below (g := gb569) (o := .cells #[.int .i64 a0_0, .int .i64 a0_1, .int .i64 a0_2, .int .i64 a0_3, .slice A0_4 l0_4.length c0_4] 26 (0, 0)) (upK BK569.out) hb); clear hb hbox hg))
 (try simp only [Act.put, List.setIfInBounds_toArray, List.set_cons_zero, List.set_cons_succ])
 go_cut [12] (fun v12 wc => ∃ (kq : Nat) (x12_2 : Bool), v12 = .bool x12_2 ∧ Aside0 (waveletlaw02_PlaneSames.j0 kq x12_2 a0_0 a0_1 a0_2 a0_3 l0_4 a1_0 a1_1 a1_2 a1_3 l1_4 = some r) ∧ Aside0 (kq ≤ k) ∧ Aside0 (wc.heap[gb569]? = some (.cells #[.int .i64 a0_0, .int .i64 a0_1, .int .i64 a0_2, .int .i64 a0_3, (.slice A0_4 l0_4.length c0_4)] 26 (0, 0))) ∧ Aside0 (wc.heap[gb570]? = some (.cells #[.int .i64 a1_0, .int .i64 a1_1, .int .i64 a1_2, .int .i64 a1_3, (.slice A1_4 l1_4.length c1_4)] 26 (0, 0))) ∧ Aside0 (Below w.heap.size w wc))
 case first =>
  have H := HC3.out
  clear HC3
  replace H := Option.bind_eq_some_iff.mp H
  obtain ⟨t571, A60, H⟩ := H
  replace H : (if t571 = true then ((waveletref02_Few.f a1_0 a1_1 a1_2 a1_3 l1_4).bind fun t572 => (waveletlaw02_PlaneSames.j0 k (!t572) a0_0 a0_1 a0_2 a0_3 l0_4 a1_0 a1_1 a1_2 a1_3 l1_4)) else (waveletlaw02_PlaneSames.j0 k true a0_0 a0_1 a0_2 a0_3 l0_4 a1_0 a1_1 a1_2 a1_3 l1_4)) = some r := H
  have A6 := Aside0.mk A60
  clear A60
  by_cases c7 : t571 = true
  ·subst c7
   rw [if_pos rfl] at H
   replace H := Option.bind_eq_some_iff.mp H
   obtain ⟨t572, A80, H⟩ := H
   replace H : (waveletlaw02_PlaneSames.j0 k (!t572) a0_0 a0_1 a0_2 a0_3 l0_4 a1_0 a1_1 a1_2 a1_3 l1_4) = some r := H
   have A8 := Aside0.mk A80
   clear A80
   have H' := Aside0.mk H
   clear H
   have hnb9 := NB569_570.out
   have hnc9 := NB570_569.out
   have hcz10_0 : w5.cell? ⟨gb569, 0, none⟩ = some (.int .i64 a0_0) := bc BK569 0
   have hcz10_1 : w5.cell? ⟨gb569, 1, none⟩ = some (.int .i64 a0_1) := bc BK569 1
   have hcz10_2 : w5.cell? ⟨gb569, 2, none⟩ = some (.int .i64 a0_2) := bc BK569 2
   have hcz10_3 : w5.cell? ⟨gb569, 3, none⟩ = some (.int .i64 a0_3) := bc BK569 3
   have hcz10_4 : w5.cell? ⟨gb569, 4, none⟩ = some (.slice A0_4 l0_4.length c0_4) := bc BK569 4
   have hfz10_0 := blk_frozen BK569.out 0
   have hfz10_1 := blk_frozen BK569.out 1
   have hfz10_2 := blk_frozen BK569.out 2
   have hfz10_3 := blk_frozen BK569.out 3
   have hfz10_4 := blk_frozen BK569.out 4
   go_wp2_with (first | ((with_reducible refine gate_callee (f := 17) rfl ?_); refine goesL_ (some 6) rfl rfl Try.func17 (by kernel_rfl) rfl #[.agg #[.int .i64 a0_0, .int .i64 a0_1, .int .i64 a0_2, .int .i64 a0_3, .slice A0_4 l0_4.length c0_4]] rfl upL ?_; (with_reducible refine (waveletref02_Few.calls a0_0 a0_1 a0_2 a0_3 _ _ l0_4 true _ ?side1 ?side2 A6.out).mono ?_); (case side1 => repeat (first | exact (Kd.C_below HR0_4.out HB.out) | (with_reducible refine Kd.C_alloc ?_ _) | (with_reducible refine Kd.C_drewN ?_ _) | (with_reducible refine Kd.C_drew ?_))); (case side2 => exact HC0_4.out); rintro e w11 ⟨rfl, hb⟩; refine ⟨_, rfl, ?_⟩; replace BK569 := Aside0.mk (blk_below (g := gb569) (o := .cells #[.int .i64 a0_0, .int .i64 a0_1, .int .i64 a0_2, .int .i64 a0_3, .slice A0_4 l0_4.length c0_4] 26 (0, 0)) (upK BK569.out) hb); replace BK570 := Aside0.mk (blk_below (g := gb570) (o := .cells #[.int .i64 a1_0, .int .i64 a1_1, .int .i64 a1_2, .int .i64 a1_3, .slice A1_4 l1_4.length c1_4] 26 (0, 0)) (upK BK570.out) hb); replace HB := Aside0.mk (below_step (upB HB.out) hb); (try clear hb; try clear hb2; try clear hk; try clear hi); have hcz12_0 : w11.cell? ⟨gb570, 0, none⟩ = some (.int .i64 a1_0) := bc BK570 0; have hcz12_1 : w11.cell? ⟨gb570, 1, none⟩ = some (.int .i64 a1_1) := bc BK570 1; have hcz12_2 : w11.cell? ⟨gb570, 2, none⟩ = some (.int .i64 a1_2) := bc BK570 2; have hcz12_3 : w11.cell? ⟨gb570, 3, none⟩ = some (.int .i64 a1_3) := bc BK570 3; have hcz12_4 : w11.cell? ⟨gb570, 4, none⟩ = some (.slice A1_4 l1_4.length c1_4) := bc BK570 4; have hfz12_0 := blk_frozen BK570.out 0; have hfz12_1 := blk_frozen BK570.out 1; have hfz12_2 := blk_frozen BK570.out 2; have hfz12_3 := blk_frozen BK570.out 3; have hfz12_4 := blk_frozen BK570.out 4) | (go_at_call 17; (with_reducible refine (waveletref02_Few.calls a1_0 a1_1 a1_2 a1_3 _ _ l1_4 t572 _ ?side1 ?side2 A8.out).mono ?_); (case side1 => repeat (first | exact (Kd.C_below HR1_4.out HB.out) | (with_reducible refine Kd.C_alloc ?_ _) | (with_reducible refine Kd.C_drewN ?_ _) | (with_reducible refine Kd.C_drew ?_))); (case side2 => exact HC1_4.out); rintro e w13 ⟨rfl, hb⟩; replace BK569 := Aside0.mk (blk_below (g := gb569) (o := .cells #[.int .i64 a0_0, .int .i64 a0_1, .int .i64 a0_2, .int .i64 a0_3, .slice A0_4 l0_4.length c0_4] 26 (0, 0)) (upK BK569.out) hb); replace BK570 := Aside0.mk (blk_below (g := gb570) (o := .cells #[.int .i64 a1_0, .int .i64 a1_1, .int .i64 a1_2, .int .i64 a1_3, .slice A1_4 l1_4.length c1_4] 26 (0, 0)) (upK BK570.out) hb); replace HB := Aside0.mk (below_step (upB HB.out) hb); (try clear hb; try clear hb2; try clear hk; try clear hi)))
   go_meet
   case rel => exact ⟨_, (!t572), (by first | rfl | (simp; done) | (simp [*]; done)), H', ⟨by first | omega | exact Nat.le_refl _⟩, ⟨by (with_reducible repeat (first | refine blk_drewN ?_ _ | refine blk_drew ?_ | refine blk_alloc ?_ _)); exact BK569.out⟩, ⟨by (with_reducible repeat (first | refine blk_drewN ?_ _ | refine blk_drew ?_ | refine blk_alloc ?_ _)); exact BK570.out⟩, ⟨by repeat (first | (with_reducible first | exact HB.out | apply below_alloc | apply pw_below_drewN | apply below_drew1 | refine below_set ?_ GE569.out | refine below_set ?_ GE570.out) | exact HB.out)⟩⟩
  ·replace c7 := Bool.eq_false_iff.mpr c7
   subst c7
   rw [if_neg (show ¬ (false = true) by decide)] at H
   have H' := Aside0.mk H
   clear H
   have hnb14 := NB569_570.out
   have hnc14 := NB570_569.out
   have hcz15_0 : w5.cell? ⟨gb569, 0, none⟩ = some (.int .i64 a0_0) := bc BK569 0
   have hcz15_1 : w5.cell? ⟨gb569, 1, none⟩ = some (.int .i64 a0_1) := bc BK569 1
   have hcz15_2 : w5.cell? ⟨gb569, 2, none⟩ = some (.int .i64 a0_2) := bc BK569 2
   have hcz15_3 : w5.cell? ⟨gb569, 3, none⟩ = some (.int .i64 a0_3) := bc BK569 3
   have hcz15_4 : w5.cell? ⟨gb569, 4, none⟩ = some (.slice A0_4 l0_4.length c0_4) := bc BK569 4
   have hfz15_0 := blk_frozen BK569.out 0
   have hfz15_1 := blk_frozen BK569.out 1
   have hfz15_2 := blk_frozen BK569.out 2
   have hfz15_3 := blk_frozen BK569.out 3
   have hfz15_4 := blk_frozen BK569.out 4
   go_wp2_with (first | ((with_reducible refine gate_callee (f := 17) rfl ?_); refine goesL_ (some 6) rfl rfl Try.func17 (by kernel_rfl) rfl #[.agg #[.int .i64 a0_0, .int .i64 a0_1, .int .i64 a0_2, .int .i64 a0_3, .slice A0_4 l0_4.length c0_4]] rfl upL ?_; (with_reducible refine (waveletref02_Few.calls a0_0 a0_1 a0_2 a0_3 _ _ l0_4 false _ ?side1 ?side2 A6.out).mono ?_); (case side1 => repeat (first | exact (Kd.C_below HR0_4.out HB.out) | (with_reducible refine Kd.C_alloc ?_ _) | (with_reducible refine Kd.C_drewN ?_ _) | (with_reducible refine Kd.C_drew ?_))); (case side2 => exact HC0_4.out); rintro e w16 ⟨rfl, hb⟩; refine ⟨_, rfl, ?_⟩; replace BK569 := Aside0.mk (blk_below (g := gb569) (o := .cells #[.int .i64 a0_0, .int .i64 a0_1, .int .i64 a0_2, .int .i64 a0_3, .slice A0_4 l0_4.length c0_4] 26 (0, 0)) (upK BK569.out) hb); replace BK570 := Aside0.mk (blk_below (g := gb570) (o := .cells #[.int .i64 a1_0, .int .i64 a1_1, .int .i64 a1_2, .int .i64 a1_3, .slice A1_4 l1_4.length c1_4] 26 (0, 0)) (upK BK570.out) hb); replace HB := Aside0.mk (below_step (upB HB.out) hb); (try clear hb; try clear hb2; try clear hk; try clear hi)))
   go_meet
   case rel => exact ⟨_, (true), (by first | rfl | (simp; done) | (simp [*]; done)), H', ⟨by first | omega | exact Nat.le_refl _⟩, ⟨by (with_reducible repeat (first | refine blk_drewN ?_ _ | refine blk_drew ?_ | refine blk_alloc ?_ _)); exact BK569.out⟩, ⟨by (with_reducible repeat (first | refine blk_drewN ?_ _ | refine blk_drew ?_ | refine blk_alloc ?_ _)); exact BK570.out⟩, ⟨by repeat (first | (with_reducible first | exact HB.out | apply below_alloc | apply pw_below_drewN | apply below_drew1 | refine below_set ?_ GE569.out | refine below_set ?_ GE570.out) | exact HB.out)⟩⟩
 case rest =>
  clear HC3
  try clear c1; try clear p2; try clear c7; try clear c8; try clear c9; try clear c14; try clear hcz10_0; try clear hcz10_1; try clear hcz10_2; try clear hcz10_3; try clear hcz10_4; try clear hcz12_0; try clear hcz12_1; try clear hcz12_2; try clear hcz12_3; try clear hcz12_4; try clear hcz15_0; try clear hcz15_1; try clear hcz15_2; try clear hcz15_3; try clear hcz15_4; try clear hfz10_0; try clear hfz10_1; try clear hfz10_2; try clear hfz10_3; try clear hfz10_4; try clear hfz12_0; try clear hfz12_1; try clear hfz12_2; try clear hfz12_3; try clear hfz12_4; try clear hfz15_0; try clear hfz15_1; try clear hfz15_2; try clear hfz15_3; try clear hfz15_4
  obtain ⟨kq, x12_2, rfl, HA, HJ2, BK569, BK570, HB⟩ := hcut
  cases kq with
  | zero => exact absurd HA.out (by simp [waveletlaw02_PlaneSames.j0])
  | succ kj2 =>
   have H := HA.out
   clear HA
   simp only [waveletlaw02_PlaneSames.j0] at H
   by_cases c17 : x12_2 = true
   ·subst c17
    rw [if_pos rfl] at H
    replace H := Option.bind_eq_some_iff.mp H
    obtain ⟨t573, A180, H⟩ := H
    replace H : (some t573) = some r := H
    have A18 := Aside0.mk A180
    clear A180
    obtain rfl := Option.some.inj H
    go_wp2_with (first | ((with_reducible refine gate_callee (f := 14) rfl ?_); refine goesL_ (some 13) rfl rfl Try.func14 (by kernel_rfl) rfl #[] rfl upL ?_; (with_reducible refine (waveletlaw02_exampleHolds.calls kj2  t573 _ A18.out).mono ?_); rintro e w19 ⟨rfl, hb⟩; refine ⟨_, rfl, ?_⟩; replace BK569 := Aside0.mk (blk_below (g := gb569) (o := .cells #[.int .i64 a0_0, .int .i64 a0_1, .int .i64 a0_2, .int .i64 a0_3, .slice A0_4 l0_4.length c0_4] 26 (0, 0)) (upK BK569.out) hb); replace BK570 := Aside0.mk (blk_below (g := gb570) (o := .cells #[.int .i64 a1_0, .int .i64 a1_1, .int .i64 a1_2, .int .i64 a1_3, .slice A1_4 l1_4.length c1_4] 26 (0, 0)) (upK BK570.out) hb); replace HB := Aside0.mk (below_step (upB HB.out) hb); (try clear hb; try clear hb2; try clear hk; try clear hi)))
    go_ret
    exact ⟨by first | rfl | (simp [errW_none, errW_some] <;> rfl) | (simp [*, errW_none, errW_some] <;> rfl), by repeat (first | (with_reducible first | exact HB.out | apply below_alloc | apply pw_below_drewN | apply below_drew1 | refine below_set ?_ GE569.out | refine below_set ?_ GE570.out) | exact HB.out)⟩
   ·replace c17 := Bool.eq_false_iff.mpr c17
    subst c17
    rw [if_neg (show ¬ (false = true) by decide)] at H
    replace H := Option.bind_eq_some_iff.mp H
    obtain ⟨t574, A200, H⟩ := H
    replace H : ((waveletref02_Same.f kj2 a0_0 a0_1 a0_2 a0_3 l0_4 a1_0 a1_1 a1_2 a1_3 l1_4).bind fun t575 => (if (t574 == t575) = true then ((plane_Same.f kj2 a1_0 a1_1 a1_2 a1_3 l1_4 a0_0 a0_1 a0_2 a0_3 l0_4).bind fun t576 => ((waveletref02_Same.f kj2 a0_0 a0_1 a0_2 a0_3 l0_4 a1_0 a1_1 a1_2 a1_3 l1_4).bind fun t577 => (if (t576 == t577) = true then ((plane_Same.f kj2 a0_0 a0_1 a0_2 a0_3 l0_4 a0_0 a0_1 a0_2 a0_3 l0_4).bind fun t578 => (if t578 = true then ((waveletlaw02_exampleHolds.f kj2).bind fun t579 => (some t579)) else (some false))) else (some false)))) else (some false))) = some r := H
    have A20 := Aside0.mk A200
    clear A200
    replace H := Option.bind_eq_some_iff.mp H
    obtain ⟨t575, A210, H⟩ := H
    replace H : (if (t574 == t575) = true then ((plane_Same.f kj2 a1_0 a1_1 a1_2 a1_3 l1_4 a0_0 a0_1 a0_2 a0_3 l0_4).bind fun t576 => ((waveletref02_Same.f kj2 a0_0 a0_1 a0_2 a0_3 l0_4 a1_0 a1_1 a1_2 a1_3 l1_4).bind fun t577 => (if (t576 == t577) = true then ((plane_Same.f kj2 a0_0 a0_1 a0_2 a0_3 l0_4 a0_0 a0_1 a0_2 a0_3 l0_4).bind fun t578 => (if t578 = true then ((waveletlaw02_exampleHolds.f kj2).bind fun t579 => (some t579)) else (some false))) else (some false)))) else (some false)) = some r := H
    have A21 := Aside0.mk A210
    clear A210
    by_cases c22 : (t574 == t575) = true
    ·rw [if_pos c22] at H
     have c22b0 : (t574 == t575) = true := c22
     (try (have c22b1 : decide (t574 = t575) = true := by simpa using c22))
     (try (have c22b2 : (t574 == t575) = true := by simpa using c22))
     clear c22
     replace H := Option.bind_eq_some_iff.mp H
     obtain ⟨t576, A230, H⟩ := H
     replace H : ((waveletref02_Same.f kj2 a0_0 a0_1 a0_2 a0_3 l0_4 a1_0 a1_1 a1_2 a1_3 l1_4).bind fun t577 => (if (t576 == t577) = true then ((plane_Same.f kj2 a0_0 a0_1 a0_2 a0_3 l0_4 a0_0 a0_1 a0_2 a0_3 l0_4).bind fun t578 => (if t578 = true then ((waveletlaw02_exampleHolds.f kj2).bind fun t579 => (some t579)) else (some false))) else (some false))) = some r := H
     have A23 := Aside0.mk A230
     clear A230
     replace H := Option.bind_eq_some_iff.mp H
     obtain ⟨t577, A240, H⟩ := H
     replace H : (if (t576 == t577) = true then ((plane_Same.f kj2 a0_0 a0_1 a0_2 a0_3 l0_4 a0_0 a0_1 a0_2 a0_3 l0_4).bind fun t578 => (if t578 = true then ((waveletlaw02_exampleHolds.f kj2).bind fun t579 => (some t579)) else (some false))) else (some false)) = some r := H
     have A24 := Aside0.mk A240
     clear A240
     by_cases c25 : (t576 == t577) = true
     ·rw [if_pos c25] at H
      have c25b0 : (t576 == t577) = true := c25
      (try (have c25b1 : decide (t576 = t577) = true := by simpa using c25))
      (try (have c25b2 : (t576 == t577) = true := by simpa using c25))
      clear c25
      replace H := Option.bind_eq_some_iff.mp H
      obtain ⟨t578, A260, H⟩ := H
      replace H : (if t578 = true then ((waveletlaw02_exampleHolds.f kj2).bind fun t579 => (some t579)) else (some false)) = some r := H
      have A26 := Aside0.mk A260
      clear A260
      by_cases c27 : t578 = true
      ·subst c27
       rw [if_pos rfl] at H
       replace H := Option.bind_eq_some_iff.mp H
       obtain ⟨t579, A280, H⟩ := H
       replace H : (some t579) = some r := H
       have A28 := Aside0.mk A280
       clear A280
       obtain rfl := Option.some.inj H
       try go_wp2
       replace BK569 := Aside0.mk (blk_drew BK569.out)
       replace BK570 := Aside0.mk (blk_drew BK570.out)
       replace HB := Aside0.mk (below_drew1 HB.out)
       refine start_ (n := 25) (S := fun w' => ce w' gb569 0 (.int .i64 a0_0) ∧ ce w' gb569 1 (.int .i64 a0_1) ∧ ce w' gb569 2 (.int .i64 a0_2) ∧ ce w' gb569 3 (.int .i64 a0_3) ∧ ce w' gb569 4 (.slice A0_4 l0_4.length c0_4) ∧ ce w' gb570 0 (.int .i64 a1_0) ∧ ce w' gb570 1 (.int .i64 a1_1) ∧ ce w' gb570 2 (.int .i64 a1_2) ∧ ce w' gb570 3 (.int .i64 a1_3) ∧ ce w' gb570 4 (.slice A1_4 l1_4.length c1_4)) (ds := []) #[false, false, false, false, false, false, false, false, false, false, false, false, false, false, false, false, false, false, false, false, false, false, false, false, false] (by kernel_rfl) rfl rfl ⟨bc BK569 0, bc BK569 1, bc BK569 2, bc BK569 3, bc BK569 4, bc BK570 0, bc BK570 1, bc BK570 2, bc BK570 3, bc BK570 4⟩ (fun hHeld => ?_); refine with_tabW waveletlaw02_PlaneSames.tab3 waveletlaw02_PlaneSames.bits3 (fun HT_ HW_ => ?_)
       generalize wc.drew = w29 at BK569 BK570 HB hHeld ⊢
       refine taX 0 14 (MK [1, 24]) HT_.out HW_.out hHeld ?_
       refine taX 1 15 (MK [2, 23]) HT_.out HW_.out hHeld ?_
       refine taX 3 17 (MK [2, 1, 1, 21]) HT_.out HW_.out hHeld ?_
       refine taX 4 18 (MK [2, 1, 2, 20]) HT_.out HW_.out hHeld ?_
       refine onX 2 16 (MK [5, 20]) HT_.out (fun K hK => ?_)
       refine goes_ Try.func35 (by kernel_rfl) rfl #[.agg #[.int .i64 a0_0, .int .i64 a0_1, .int .i64 a0_2, .int .i64 a0_3, .slice A0_4 l0_4.length c0_4], .agg #[.int .i64 a1_0, .int .i64 a1_1, .int .i64 a1_2, .int .i64 a1_3, .slice A1_4 l1_4.length c1_4]] (by rfl) rfl rfl upL ?_
       with_reducible refine (plane_Same.calls kj2 a0_0 a0_1 a0_2 a0_3 _ _ l0_4 a1_0 a1_1 a1_2 a1_3 _ _ l1_4 t574 _ ?side1 ?side2 ?side3 ?side4 A20.out).mono ?_
       (case side1 => repeat (first | exact (Kd.C_below HR0_4.out HB.out) | (with_reducible refine Kd.C_alloc ?_ _) | (with_reducible refine Kd.C_drewN ?_ _) | (with_reducible refine Kd.C_drew ?_)))
       (case side2 => exact HC0_4.out)
       (case side3 => repeat (first | exact (Kd.C_below HR1_4.out HB.out) | (with_reducible refine Kd.C_alloc ?_ _) | (with_reducible refine Kd.C_drewN ?_ _) | (with_reducible refine Kd.C_drew ?_)))
       (case side4 => exact HC1_4.out)
       rintro e w30 ⟨rfl, hb⟩
       refine ⟨_, rfl, ?_⟩
       replace BK569 := Aside0.mk (blk_below (g := gb569) (o := .cells #[.int .i64 a0_0, .int .i64 a0_1, .int .i64 a0_2, .int .i64 a0_3, .slice A0_4 l0_4.length c0_4] 26 (0, 0)) (upK BK569.out) hb)
       replace BK570 := Aside0.mk (blk_below (g := gb570) (o := .cells #[.int .i64 a1_0, .int .i64 a1_1, .int .i64 a1_2, .int .i64 a1_3, .slice A1_4 l1_4.length c1_4] 26 (0, 0)) (upK BK570.out) hb)
       replace HB := Aside0.mk (below_step (upB HB.out) hb)
       (try clear hb); (try clear hb2); (try clear hk); (try clear hi)
       refine hK.out _ _ ⟨bc BK569 0, bc BK569 1, bc BK569 2, bc BK569 3, bc BK569 4, bc BK570 0, bc BK570 1, bc BK570 2, bc BK570 3, bc BK570 4⟩ (fun hHeld => ?_)
       clear hK K
       refine noX ?_
       refine onX 5 19 (MK [6, 19]) HT_.out (fun K hK => ?_)
       refine goes_ Try.func16 (by kernel_rfl) rfl #[.agg #[.int .i64 a0_0, .int .i64 a0_1, .int .i64 a0_2, .int .i64 a0_3, .slice A0_4 l0_4.length c0_4], .agg #[.int .i64 a1_0, .int .i64 a1_1, .int .i64 a1_2, .int .i64 a1_3, .slice A1_4 l1_4.length c1_4]] (by rfl) rfl rfl upL ?_
       with_reducible refine (waveletref02_Same.calls kj2 a0_0 a0_1 a0_2 a0_3 _ _ l0_4 a1_0 a1_1 a1_2 a1_3 _ _ l1_4 t575 _ ?side1 ?side2 ?side3 ?side4 A21.out).mono ?_
       (case side1 => repeat (first | exact (Kd.C_below HR0_4.out HB.out) | (with_reducible refine Kd.C_alloc ?_ _) | (with_reducible refine Kd.C_drewN ?_ _) | (with_reducible refine Kd.C_drew ?_)))
       (case side2 => exact HC0_4.out)
       (case side3 => repeat (first | exact (Kd.C_below HR1_4.out HB.out) | (with_reducible refine Kd.C_alloc ?_ _) | (with_reducible refine Kd.C_drewN ?_ _) | (with_reducible refine Kd.C_drew ?_)))
       (case side4 => exact HC1_4.out)
       rintro e w31 ⟨rfl, hb⟩
       refine ⟨_, rfl, ?_⟩
       replace BK569 := Aside0.mk (blk_below (g := gb569) (o := .cells #[.int .i64 a0_0, .int .i64 a0_1, .int .i64 a0_2, .int .i64 a0_3, .slice A0_4 l0_4.length c0_4] 26 (0, 0)) (upK BK569.out) hb)
       replace BK570 := Aside0.mk (blk_below (g := gb570) (o := .cells #[.int .i64 a1_0, .int .i64 a1_1, .int .i64 a1_2, .int .i64 a1_3, .slice A1_4 l1_4.length c1_4] 26 (0, 0)) (upK BK570.out) hb)
       replace HB := Aside0.mk (below_step (upB HB.out) hb)
       (try clear hb); (try clear hb2); (try clear hk); (try clear hi)
       refine hK.out _ _ ⟨bc BK569 0, bc BK569 1, bc BK569 2, bc BK569 3, bc BK569 4, bc BK570 0, bc BK570 1, bc BK570 2, bc BK570 3, bc BK570 4⟩ (fun hHeld => ?_)
       clear hK K
       refine noX ?_
       refine puX 6 20 (MK [7, 18]) HT_.out ?_
       refine puX 7 21 (MK [8, 17]) HT_.out ?_
       refine taX 8 22 (MK [9, 16]) HT_.out HW_.out hHeld ?_
       refine taX 9 23 (MK [10, 15]) HT_.out HW_.out hHeld ?_
       refine taX 11 25 (MK [10, 1, 1, 13]) HT_.out HW_.out hHeld ?_
       refine taX 12 26 (MK [10, 1, 2, 12]) HT_.out HW_.out hHeld ?_
       refine onX 10 24 (MK [13, 12]) HT_.out (fun K hK => ?_)
       refine goes_ Try.func35 (by kernel_rfl) rfl #[.agg #[.int .i64 a1_0, .int .i64 a1_1, .int .i64 a1_2, .int .i64 a1_3, .slice A1_4 l1_4.length c1_4], .agg #[.int .i64 a0_0, .int .i64 a0_1, .int .i64 a0_2, .int .i64 a0_3, .slice A0_4 l0_4.length c0_4]] (by rfl) rfl rfl upL ?_
       with_reducible refine (plane_Same.calls kj2 a1_0 a1_1 a1_2 a1_3 _ _ l1_4 a0_0 a0_1 a0_2 a0_3 _ _ l0_4 t576 _ ?side1 ?side2 ?side3 ?side4 A23.out).mono ?_
       (case side1 => repeat (first | exact (Kd.C_below HR1_4.out HB.out) | (with_reducible refine Kd.C_alloc ?_ _) | (with_reducible refine Kd.C_drewN ?_ _) | (with_reducible refine Kd.C_drew ?_)))
       (case side2 => exact HC1_4.out)
       (case side3 => repeat (first | exact (Kd.C_below HR0_4.out HB.out) | (with_reducible refine Kd.C_alloc ?_ _) | (with_reducible refine Kd.C_drewN ?_ _) | (with_reducible refine Kd.C_drew ?_)))
       (case side4 => exact HC0_4.out)
       rintro e w32 ⟨rfl, hb⟩
       refine ⟨_, rfl, ?_⟩
       replace BK569 := Aside0.mk (blk_below (g := gb569) (o := .cells #[.int .i64 a0_0, .int .i64 a0_1, .int .i64 a0_2, .int .i64 a0_3, .slice A0_4 l0_4.length c0_4] 26 (0, 0)) (upK BK569.out) hb)
       replace BK570 := Aside0.mk (blk_below (g := gb570) (o := .cells #[.int .i64 a1_0, .int .i64 a1_1, .int .i64 a1_2, .int .i64 a1_3, .slice A1_4 l1_4.length c1_4] 26 (0, 0)) (upK BK570.out) hb)
       replace HB := Aside0.mk (below_step (upB HB.out) hb)
       (try clear hb); (try clear hb2); (try clear hk); (try clear hi)
       refine hK.out _ _ ⟨bc BK569 0, bc BK569 1, bc BK569 2, bc BK569 3, bc BK569 4, bc BK570 0, bc BK570 1, bc BK570 2, bc BK570 3, bc BK570 4⟩ (fun hHeld => ?_)
       clear hK K
       refine noX ?_
       refine onX 13 27 (MK [14, 11]) HT_.out (fun K hK => ?_)
       refine goes_ Try.func16 (by kernel_rfl) rfl #[.agg #[.int .i64 a0_0, .int .i64 a0_1, .int .i64 a0_2, .int .i64 a0_3, .slice A0_4 l0_4.length c0_4], .agg #[.int .i64 a1_0, .int .i64 a1_1, .int .i64 a1_2, .int .i64 a1_3, .slice A1_4 l1_4.length c1_4]] (by rfl) rfl rfl upL ?_
       with_reducible refine (waveletref02_Same.calls kj2 a0_0 a0_1 a0_2 a0_3 _ _ l0_4 a1_0 a1_1 a1_2 a1_3 _ _ l1_4 t577 _ ?side1 ?side2 ?side3 ?side4 A24.out).mono ?_
       (case side1 => repeat (first | exact (Kd.C_below HR0_4.out HB.out) | (with_reducible refine Kd.C_alloc ?_ _) | (with_reducible refine Kd.C_drewN ?_ _) | (with_reducible refine Kd.C_drew ?_)))
       (case side2 => exact HC0_4.out)
       (case side3 => repeat (first | exact (Kd.C_below HR1_4.out HB.out) | (with_reducible refine Kd.C_alloc ?_ _) | (with_reducible refine Kd.C_drewN ?_ _) | (with_reducible refine Kd.C_drew ?_)))
       (case side4 => exact HC1_4.out)
       rintro e w33 ⟨rfl, hb⟩
       refine ⟨_, rfl, ?_⟩
       replace BK569 := Aside0.mk (blk_below (g := gb569) (o := .cells #[.int .i64 a0_0, .int .i64 a0_1, .int .i64 a0_2, .int .i64 a0_3, .slice A0_4 l0_4.length c0_4] 26 (0, 0)) (upK BK569.out) hb)
       replace BK570 := Aside0.mk (blk_below (g := gb570) (o := .cells #[.int .i64 a1_0, .int .i64 a1_1, .int .i64 a1_2, .int .i64 a1_3, .slice A1_4 l1_4.length c1_4] 26 (0, 0)) (upK BK570.out) hb)
       replace HB := Aside0.mk (below_step (upB HB.out) hb)
       (try clear hb); (try clear hb2); (try clear hk); (try clear hi)
       refine hK.out _ _ ⟨bc BK569 0, bc BK569 1, bc BK569 2, bc BK569 3, bc BK569 4, bc BK570 0, bc BK570 1, bc BK570 2, bc BK570 3, bc BK570 4⟩ (fun hHeld => ?_)
       clear hK K
       refine noX ?_
       refine puX 14 28 (MK [15, 10]) HT_.out ?_
       refine puX 15 29 (MK [16, 9]) HT_.out ?_
       refine puX 16 30 (MK [17, 8]) HT_.out ?_
       refine taX 17 31 (MK [18, 7]) HT_.out HW_.out hHeld ?_
       refine taX 18 32 (MK [19, 6]) HT_.out HW_.out hHeld ?_
       refine onX 19 33 (MK [20, 5]) HT_.out (fun K hK => ?_)
       refine goes_ Try.func35 (by kernel_rfl) rfl #[.agg #[.int .i64 a0_0, .int .i64 a0_1, .int .i64 a0_2, .int .i64 a0_3, .slice A0_4 l0_4.length c0_4], .agg #[.int .i64 a0_0, .int .i64 a0_1, .int .i64 a0_2, .int .i64 a0_3, .slice A0_4 l0_4.length c0_4]] (by rfl) rfl rfl upL ?_
       with_reducible refine (plane_Same.calls kj2 a0_0 a0_1 a0_2 a0_3 _ _ l0_4 a0_0 a0_1 a0_2 a0_3 _ _ l0_4 true _ ?side1 ?side2 ?side3 ?side4 A26.out).mono ?_
       (case side1 => repeat (first | exact (Kd.C_below HR0_4.out HB.out) | (with_reducible refine Kd.C_alloc ?_ _) | (with_reducible refine Kd.C_drewN ?_ _) | (with_reducible refine Kd.C_drew ?_)))
       (case side2 => exact HC0_4.out)
       (case side3 => repeat (first | exact (Kd.C_below HR0_4.out HB.out) | (with_reducible refine Kd.C_alloc ?_ _) | (with_reducible refine Kd.C_drewN ?_ _) | (with_reducible refine Kd.C_drew ?_)))
       (case side4 => exact HC0_4.out)
       rintro e w34 ⟨rfl, hb⟩
       refine ⟨_, rfl, ?_⟩
       replace BK569 := Aside0.mk (blk_below (g := gb569) (o := .cells #[.int .i64 a0_0, .int .i64 a0_1, .int .i64 a0_2, .int .i64 a0_3, .slice A0_4 l0_4.length c0_4] 26 (0, 0)) (upK BK569.out) hb)
       replace BK570 := Aside0.mk (blk_below (g := gb570) (o := .cells #[.int .i64 a1_0, .int .i64 a1_1, .int .i64 a1_2, .int .i64 a1_3, .slice A1_4 l1_4.length c1_4] 26 (0, 0)) (upK BK570.out) hb)
       replace HB := Aside0.mk (below_step (upB HB.out) hb)
       (try clear hb); (try clear hb2); (try clear hk); (try clear hi)
       refine hK.out _ _ ⟨bc BK569 0, bc BK569 1, bc BK569 2, bc BK569 3, bc BK569 4, bc BK570 0, bc BK570 1, bc BK570 2, bc BK570 3, bc BK570 4⟩ (fun hHeld => ?_)
       clear hK K
       refine noX ?_
       refine puX 20 34 (MK [21, 4]) HT_.out ?_
       refine puX 21 35 (MK [22, 3]) HT_.out ?_
       refine onX 22 36 (MK [23, 2]) HT_.out (fun K hK => ?_)
       refine goes_ Try.func14 (by kernel_rfl) rfl #[] (by rfl) rfl rfl upL ?_
       with_reducible refine (waveletlaw02_exampleHolds.calls kj2  t579 _ A28.out).mono ?_
       rintro e w35 ⟨rfl, hb⟩
       refine ⟨_, rfl, ?_⟩
       replace BK569 := Aside0.mk (blk_below (g := gb569) (o := .cells #[.int .i64 a0_0, .int .i64 a0_1, .int .i64 a0_2, .int .i64 a0_3, .slice A0_4 l0_4.length c0_4] 26 (0, 0)) (upK BK569.out) hb)
       replace BK570 := Aside0.mk (blk_below (g := gb570) (o := .cells #[.int .i64 a1_0, .int .i64 a1_1, .int .i64 a1_2, .int .i64 a1_3, .slice A1_4 l1_4.length c1_4] 26 (0, 0)) (upK BK570.out) hb)
       replace HB := Aside0.mk (below_step (upB HB.out) hb)
       (try clear hb); (try clear hb2); (try clear hk); (try clear hi)
       refine hK.out _ _ ⟨bc BK569 0, bc BK569 1, bc BK569 2, bc BK569 3, bc BK569 4, bc BK570 0, bc BK570 1, bc BK570 2, bc BK570 3, bc BK570 4⟩ (fun hHeld => ?_)
       clear hK K
       refine noX ?_
       refine puX 23 37 (MK [24, 1]) HT_.out ?_
       refine puX 24 4 (MK [25]) HT_.out ?_
       refine done_ (done_of HT_.out (by kernel_rfl)) ?_
       try go_wp2
       go_ret
       exact ⟨by first | rfl | (simp [errW_none, errW_some] <;> rfl) | (simp [*, errW_none, errW_some] <;> rfl), by repeat (first | (with_reducible first | exact HB.out | apply below_alloc | apply pw_below_drewN | apply below_drew1 | refine below_set ?_ GE569.out | refine below_set ?_ GE570.out) | exact HB.out)⟩
      ·replace c27 := Bool.eq_false_iff.mpr c27
       subst c27
       have H1 : (some false) = some r := by rw [if_neg (show ¬ (false = true) by decide)] at H; exact H
       exact absurd (Option.some.inj H1) (by rw [hr_]; decide)
     ·rw [if_neg c25] at H
      exact absurd (Option.some.inj H) (by rw [hr_]; decide)
    ·rw [if_neg c22] at H
     exact absurd (Option.some.inj H) (by rw [hr_]; decide)
end Go.Proofs.Ythemchggmlpdhaa.Q
