-- By a program of this session (wip/tools/mk.py), out of the kit's print of the translation; Lean checks it.
import Derived.Test.YthemchggmlpdhaaUp2
import Derived.Test.YthemchggmlpdhaaUp
import Derived.Test.YthemchggmlpdhaaQ0
import Derived.Test.YthemchggmlpdhaaQ7
import Derived.Test.YthemchggmlpdhaaQ12
import Derived.Test.YthemchggmlpdhaaQ13
import Derived.Test.YthemchggmlpdhaaQ14
import Derived.Test.YthemchggmlpdhaaQ25
import Derived.Test.YthemchggmlpdhaaQ47
namespace Go.Proofs.Ythemchggmlpdhaa.Q
open Go.RowKit Go.Proofs.YthemchggmlpdhaaW.PrintWords Go.Proofs.YthemchggmlpdhaaW.PrintLast Go.Proofs.YthemchggmlpdhaaW.PrintMore
attribute [local go_sem] max2_int min2_int max_two min_two max_three min_three max_four min_four   -- for this text's walks alone
set_option linter.unusedVariables false
set_option linter.unusedSimpArgs false

/-! ### waveletlaw02_PlanePieces: function 10 -/
mutual
def waveletlaw02_PlanePieces.l0 : Nat → List Int → Int → Int → Int → Int → Int → List Int → Option (Bool)
 | 0, _, _, _, _, _, _, _ => none
 | k + 1, x3, x4, x586000, x586001, x586002, x586003, x586004 => if x4 < x586003 then ((plane_Row.f k x586000 x586001 x586002 x586003 x586004 x4).bind fun bt590 => (if bt590.2 = true then (waveletlaw02_PlanePieces.j1 k x3 x4 bt590.1 ((bt590.1.length : Int) != (wrap64 (x586002 - x586000))) x586000 x586001 x586002 x586003 x586004) else (waveletlaw02_PlanePieces.j1 k x3 x4 bt590.1 true x586000 x586001 x586002 x586003 x586004))) else ((waveletref02_SameInts.f k x3 x586004).bind fun t588 => (if t588 = true then ((waveletlaw02_exampleHolds.f k).bind fun t589 => (some t589)) else (some false)))
def waveletlaw02_PlanePieces.j1 : Nat → List Int → Int → List Int → Bool → Int → Int → Int → Int → List Int → Option (Bool)
 | 0, _, _, _, _, _, _, _, _, _ => none
 | k + 1, x3, x4, x5, x45, x586000, x586001, x586002, x586003, x586004 => if x45 = true then (some false) else (if x3.length + x5.length < 17592186044416 then (waveletlaw02_PlanePieces.l1 k (x3 ++ x5) x4 x5 x586000 x586000 x586001 x586002 x586003 x586004) else (none))
def waveletlaw02_PlanePieces.l1 : Nat → List Int → Int → List Int → Int → Int → Int → Int → Int → List Int → Option (Bool)
 | 0, _, _, _, _, _, _, _, _, _ => none
 | k + 1, x3, x4, x5, x7, x586000, x586001, x586002, x586003, x586004 => if x7 < x586002 then ((plane_At.f x586000 x586001 x586002 x586003 x586004 x7 x4).bind fun bt597 => ((plane_Column.f k x586000 x586001 x586002 x586003 x586004 x7).bind fun bt599 => (if bt597.2 = true then (if bt599.2 = true then (if (bt599.1.length : Int) = (wrap64 (x586003 - x586001)) then (if 0 ≤ (wrap64 (x7 - x586000)) then (if (wrap64 (x7 - x586000)) < (x5.length : Int) then (if bt597.1 = (rd x5 (wrap64 (x7 - x586000))) then (if 0 ≤ (wrap64 (x4 - x586001)) then (if (wrap64 (x4 - x586001)) < (bt599.1.length : Int) then (if bt597.1 = (rd bt599.1 (wrap64 (x4 - x586001))) then (waveletlaw02_PlanePieces.l1 k x3 x4 x5 (wrap64 (x7 + 1)) x586000 x586001 x586002 x586003 x586004) else (some false)) else (none)) else (none)) else (some false)) else (none)) else (none)) else (some false)) else (some false)) else (some false)))) else (waveletlaw02_PlanePieces.l0 k x3 (wrap64 (x4 + 1)) x586000 x586001 x586002 x586003 x586004)
end
def waveletlaw02_PlanePieces.f (k : Nat) (a0_0 : Int) (a0_1 : Int) (a0_2 : Int) (a0_3 : Int) (l0_4 : List Int) : Option (Bool) := (waveletref02_ValidSmall.f a0_0 a0_1 a0_2 a0_3 l0_4).bind fun t586 => (if t586 = true then (waveletlaw02_PlanePieces.l0 k ([] : List Int) a0_1 a0_0 a0_1 a0_2 a0_3 l0_4) else ((waveletlaw02_exampleHolds.f k).bind fun t587 => (some t587)))
theorem waveletlaw02_PlanePieces.mono_l : ∀ k, (∀ y0 y1 y2 y3 y4 y5 y6, LeO (waveletlaw02_PlanePieces.l0 k y0 y1 y2 y3 y4 y5 y6) (waveletlaw02_PlanePieces.l0 (k + 1) y0 y1 y2 y3 y4 y5 y6)) ∧ (∀ y0 y1 y2 y3 y4 y5 y6 y7 y8, LeO (waveletlaw02_PlanePieces.j1 k y0 y1 y2 y3 y4 y5 y6 y7 y8) (waveletlaw02_PlanePieces.j1 (k + 1) y0 y1 y2 y3 y4 y5 y6 y7 y8)) ∧ (∀ y0 y1 y2 y3 y4 y5 y6 y7 y8, LeO (waveletlaw02_PlanePieces.l1 k y0 y1 y2 y3 y4 y5 y6 y7 y8) (waveletlaw02_PlanePieces.l1 (k + 1) y0 y1 y2 y3 y4 y5 y6 y7 y8))
 | 0 => ⟨fun _ _ _ _ _ _ _ r h => by simp [waveletlaw02_PlanePieces.l0] at h, fun _ _ _ _ _ _ _ _ _ r h => by simp [waveletlaw02_PlanePieces.j1] at h, fun _ _ _ _ _ _ _ _ _ r h => by simp [waveletlaw02_PlanePieces.l1] at h⟩
 | k + 1 => by
  obtain ⟨ih0, ih1, ih2⟩ := waveletlaw02_PlanePieces.mono_l k
  refine ⟨?_, ?_, ?_⟩
  ·intro y0 y1 y2 y3 y4 y5 y6
   unfold waveletlaw02_PlanePieces.l0
   repeat' first
   | (with_reducible exact ih0 _ _ _ _ _ _ _)
   | (with_reducible exact ih1 _ _ _ _ _ _ _ _ _)
   | (with_reducible exact ih2 _ _ _ _ _ _ _ _ _)
   | (with_reducible exact plane_Column.mono _ _ _ _ _ _ _)
   | (with_reducible exact plane_Row.mono _ _ _ _ _ _ _)
   | (with_reducible exact waveletlaw02_exampleHolds.mono _)
   | (with_reducible exact waveletref02_SameInts.mono _ _ _)
   | (with_reducible exact LeO.refl _)
   | (with_reducible exact LeO.none _)
   | (with_reducible refine LeO.ite ?_ ?_)
   | (with_reducible refine LeO.bind ?_ (fun _ => ?_))
   | exact ih0 _ _ _ _ _ _ _
   | exact ih1 _ _ _ _ _ _ _ _ _
   | exact ih2 _ _ _ _ _ _ _ _ _
   | exact plane_Column.mono _ _ _ _ _ _ _
   | exact plane_Row.mono _ _ _ _ _ _ _
   | exact waveletlaw02_exampleHolds.mono _
   | exact waveletref02_SameInts.mono _ _ _
   | exact LeO.none _
   | refine LeO.ite ?_ ?_
   | refine LeO.bind ?_ (fun _ => ?_)
  ·intro y0 y1 y2 y3 y4 y5 y6 y7 y8
   unfold waveletlaw02_PlanePieces.j1
   repeat' first
   | (with_reducible exact ih0 _ _ _ _ _ _ _)
   | (with_reducible exact ih1 _ _ _ _ _ _ _ _ _)
   | (with_reducible exact ih2 _ _ _ _ _ _ _ _ _)
   | (with_reducible exact plane_Column.mono _ _ _ _ _ _ _)
   | (with_reducible exact plane_Row.mono _ _ _ _ _ _ _)
   | (with_reducible exact waveletlaw02_exampleHolds.mono _)
   | (with_reducible exact waveletref02_SameInts.mono _ _ _)
   | (with_reducible exact LeO.refl _)
   | (with_reducible exact LeO.none _)
   | (with_reducible refine LeO.ite ?_ ?_)
   | (with_reducible refine LeO.bind ?_ (fun _ => ?_))
   | exact ih0 _ _ _ _ _ _ _
   | exact ih1 _ _ _ _ _ _ _ _ _
   | exact ih2 _ _ _ _ _ _ _ _ _
   | exact plane_Column.mono _ _ _ _ _ _ _
   | exact plane_Row.mono _ _ _ _ _ _ _
   | exact waveletlaw02_exampleHolds.mono _
   | exact waveletref02_SameInts.mono _ _ _
   | exact LeO.none _
   | refine LeO.ite ?_ ?_
   | refine LeO.bind ?_ (fun _ => ?_)
  ·intro y0 y1 y2 y3 y4 y5 y6 y7 y8
   unfold waveletlaw02_PlanePieces.l1
   repeat' first
   | (with_reducible exact ih0 _ _ _ _ _ _ _)
   | (with_reducible exact ih1 _ _ _ _ _ _ _ _ _)
   | (with_reducible exact ih2 _ _ _ _ _ _ _ _ _)
   | (with_reducible exact plane_Column.mono _ _ _ _ _ _ _)
   | (with_reducible exact plane_Row.mono _ _ _ _ _ _ _)
   | (with_reducible exact waveletlaw02_exampleHolds.mono _)
   | (with_reducible exact waveletref02_SameInts.mono _ _ _)
   | (with_reducible exact LeO.refl _)
   | (with_reducible exact LeO.none _)
   | (with_reducible refine LeO.ite ?_ ?_)
   | (with_reducible refine LeO.bind ?_ (fun _ => ?_))
   | exact ih0 _ _ _ _ _ _ _
   | exact ih1 _ _ _ _ _ _ _ _ _
   | exact ih2 _ _ _ _ _ _ _ _ _
   | exact plane_Column.mono _ _ _ _ _ _ _
   | exact plane_Row.mono _ _ _ _ _ _ _
   | exact waveletlaw02_exampleHolds.mono _
   | exact waveletref02_SameInts.mono _ _ _
   | exact LeO.none _
   | refine LeO.ite ?_ ?_
   | refine LeO.bind ?_ (fun _ => ?_)
theorem waveletlaw02_PlanePieces.mono : ∀ a0 a1 a2 a3 a4 k, LeO (waveletlaw02_PlanePieces.f k a0 a1 a2 a3 a4) (waveletlaw02_PlanePieces.f (k + 1) a0 a1 a2 a3 a4) := by
 intro a0 a1 a2 a3 a4 k
 obtain ⟨ih0, ih1, ih2⟩ := waveletlaw02_PlanePieces.mono_l k
 unfold waveletlaw02_PlanePieces.f
 repeat' first
   | (with_reducible exact ih0 _ _ _ _ _ _ _)
   | (with_reducible exact ih1 _ _ _ _ _ _ _ _ _)
   | (with_reducible exact ih2 _ _ _ _ _ _ _ _ _)
   | (with_reducible exact plane_Column.mono _ _ _ _ _ _ _)
   | (with_reducible exact plane_Row.mono _ _ _ _ _ _ _)
   | (with_reducible exact waveletlaw02_exampleHolds.mono _)
   | (with_reducible exact waveletref02_SameInts.mono _ _ _)
   | (with_reducible exact LeO.refl _)
   | (with_reducible exact LeO.none _)
   | (with_reducible refine LeO.ite ?_ ?_)
   | (with_reducible refine LeO.bind ?_ (fun _ => ?_))
   | exact ih0 _ _ _ _ _ _ _
   | exact ih1 _ _ _ _ _ _ _ _ _
   | exact ih2 _ _ _ _ _ _ _ _ _
   | exact plane_Column.mono _ _ _ _ _ _ _
   | exact plane_Row.mono _ _ _ _ _ _ _
   | exact waveletlaw02_exampleHolds.mono _
   | exact waveletref02_SameInts.mono _ _ _
   | exact LeO.none _
   | refine LeO.ite ?_ ?_
   | refine LeO.bind ?_ (fun _ => ?_)
set_option maxHeartbeats 8000000 in
set_option maxRecDepth 100000 in
theorem waveletlaw02_PlanePieces.calls (k : Nat) (a0_0 : Int) (a0_1 : Int) (a0_2 : Int) (a0_3 : Int) (A0_4 : Option Addr) (c0_4 : Nat) (l0_4 : List Int) (r : Bool) (hr_ : r = true) (w : World) (hr0_4 : Kd.C (Kd.int .i64) w A0_4 l0_4.length l0_4) (hc0_4 : l0_4.length ≤ c0_4) (h : waveletlaw02_PlanePieces.f k a0_0 a0_1 a0_2 a0_3 l0_4 = some r) :
  Calls Try.prog 10 #[.agg #[.int .i64 a0_0, .int .i64 a0_1, .int .i64 a0_2, .int .i64 a0_3, .slice A0_4 l0_4.length c0_4]] w fun e w' => e = .returned (.bool r) ∧ Below w.heap.size w w' := by
 have hu26 := Try.underlying26
 have HR0_4 := Aside0.mk hr0_4
 have HC0_4 := Aside0.mk hc0_4
 clear hr0_4 hc0_4
 have HB := Aside0.mk (Below.refl w.heap.size w)
 have H : ((waveletref02_ValidSmall.f a0_0 a0_1 a0_2 a0_3 l0_4).bind fun t586 => (if t586 = true then (waveletlaw02_PlanePieces.l0 k ([] : List Int) a0_1 a0_0 a0_1 a0_2 a0_3 l0_4) else ((waveletlaw02_exampleHolds.f k).bind fun t587 => (some t587)))) = some r := h
 clear h
 replace H := Option.bind_eq_some_iff.mp H
 obtain ⟨t586, A20, H⟩ := H
 replace H : (if t586 = true then (waveletlaw02_PlanePieces.l0 k ([] : List Int) a0_1 a0_0 a0_1 a0_2 a0_3 l0_4) else ((waveletlaw02_exampleHolds.f k).bind fun t587 => (some t587))) = some r := H
 have A2 := Aside0.mk A20
 clear A20
 by_cases c3 : t586 = true
 ·subst c3
  rw [if_pos rfl] at H
  have H' := Aside0.mk H
  clear H
  go_enter Try.func10, Try.ntmps10
  go_wp2_with (first | ((with_reducible refine gate_dst (N := 1) rfl ?_); (try (refine gate_guard (by rfl) ?_; dsimp only)); refine box_event ?hg (N := 1) ?hd (cs := #[.int .i64 a0_0, .int .i64 a0_1, .int .i64 a0_2, .int .i64 a0_3, .slice A0_4 l0_4.length c0_4]) (t := 26) ?hr ?_; (case hd => rfl); (case hg => rfl); (case hr => first | (go_simp; done) | (go_simp; rfl)); intro gb585 hg w4 hbox hb; have BK585 := Aside0.mk (hbox); have GW585 := Aside0.mk ((by rw [hg]; exact (below_size (upB HB.out)) : w.heap.size ≤ gb585)); have GE585 := Aside0.mk ((by rw [hg]; exact (below_size (upB HB.out)) : w.heap.size ≤ gb585)); replace HB := Aside0.mk (below_step (upB HB.out) hb); clear hb hbox hg; have hcz5_0 : w4.cell? ⟨gb585, 0, none⟩ = some (.int .i64 a0_0) := bc BK585 0; have hcz5_1 : w4.cell? ⟨gb585, 1, none⟩ = some (.int .i64 a0_1) := bc BK585 1; have hcz5_2 : w4.cell? ⟨gb585, 2, none⟩ = some (.int .i64 a0_2) := bc BK585 2; have hcz5_3 : w4.cell? ⟨gb585, 3, none⟩ = some (.int .i64 a0_3) := bc BK585 3; have hcz5_4 : w4.cell? ⟨gb585, 4, none⟩ = some (.slice A0_4 l0_4.length c0_4) := bc BK585 4; have hfz5_0 := blk_frozen BK585.out 0; have hfz5_1 := blk_frozen BK585.out 1; have hfz5_2 := blk_frozen BK585.out 2; have hfz5_3 := blk_frozen BK585.out 3; have hfz5_4 := blk_frozen BK585.out 4) | ((with_reducible refine gate_callee (f := 36) rfl ?_); refine goesL_ (some 13) rfl rfl Try.func36 (by kernel_rfl) rfl #[.agg #[.int .i64 a0_0, .int .i64 a0_1, .int .i64 a0_2, .int .i64 a0_3, .slice A0_4 l0_4.length c0_4]] rfl upL ?_; (with_reducible refine (waveletref02_ValidSmall.calls a0_0 a0_1 a0_2 a0_3 _ _ l0_4 true _ ?side1 ?side2 A2.out).mono ?_); (case side1 => repeat (first | exact (Kd.C_below HR0_4.out HB.out) | (with_reducible refine Kd.C_alloc ?_ _) | (with_reducible refine Kd.C_drewN ?_ _) | (with_reducible refine Kd.C_drew ?_))); (case side2 => exact HC0_4.out); rintro e w6 ⟨rfl, hb⟩; refine ⟨_, rfl, ?_⟩; replace BK585 := Aside0.mk (blk_below (g := gb585) (o := .cells #[.int .i64 a0_0, .int .i64 a0_1, .int .i64 a0_2, .int .i64 a0_3, .slice A0_4 l0_4.length c0_4] 26 (0, 0)) (upK BK585.out) hb); replace HB := Aside0.mk (below_step (upB HB.out) hb); (try clear hb; try clear hb2; try clear hk; try clear hi); have hcz7_0 : w6.cell? ⟨gb585, 0, none⟩ = some (.int .i64 a0_0) := bc BK585 0; have hcz7_1 : w6.cell? ⟨gb585, 1, none⟩ = some (.int .i64 a0_1) := bc BK585 1; have hcz7_2 : w6.cell? ⟨gb585, 2, none⟩ = some (.int .i64 a0_2) := bc BK585 2; have hcz7_3 : w6.cell? ⟨gb585, 3, none⟩ = some (.int .i64 a0_3) := bc BK585 3; have hcz7_4 : w6.cell? ⟨gb585, 4, none⟩ = some (.slice A0_4 l0_4.length c0_4) := bc BK585 4; have hfz7_0 := blk_frozen BK585.out 0; have hfz7_1 := blk_frozen BK585.out 1; have hfz7_2 := blk_frozen BK585.out 2; have hfz7_3 := blk_frozen BK585.out 3; have hfz7_4 := blk_frozen BK585.out 4))
  go_loopg [3, 4] k (fun kq v3 v4 w' => ∃ (x3_1 : List Int) (x4_1 : Int), v4 = .int .i64 x4_1 ∧ Aside0 (waveletlaw02_PlanePieces.l0 kq x3_1 x4_1 a0_0 a0_1 a0_2 a0_3 l0_4 = some r) ∧ Aside0 (kq ≤ k) ∧ Aside0 (Kd.R (Kd.int .i64) 3 w' w.heap.size (fun _ => True) v3 x3_1) ∧ Aside0 (w'.heap[gb585]? = some (.cells #[.int .i64 a0_0, .int .i64 a0_1, .int .i64 a0_2, .int .i64 a0_3, (.slice A0_4 l0_4.length c0_4)] 26 (0, 0))) ∧ Aside0 (Below w.heap.size w w'))
  case atStart => exact ⟨(([] : List Int)), (a0_1), (by first | rfl | (simp; done) | (simp [*]; done)), H', ⟨Nat.le_refl _⟩, ⟨by first | exact Kd.R_nil _ _ _ _ _ | exact Kd.N_nil _ _ _ _ _ | exact Kd.V_nil _ _ _ _ _ | exact Kd.Q_nil _ _ _ _ _ | exact Kd.S_nil _ _ _ _ _⟩, ⟨by (with_reducible repeat (first | refine blk_drewN ?_ _ | refine blk_drew ?_ | refine blk_alloc ?_ _)); exact BK585.out⟩, ⟨by repeat (first | (with_reducible first | exact HB.out | apply below_alloc | apply pw_below_drewN | apply below_drew1 | refine below_set ?_ GE585.out) | exact HB.out)⟩⟩
  case round =>
   clear H'
   try clear c1; try clear p2; try clear c3; try clear hcz5_0; try clear hcz5_1; try clear hcz5_2; try clear hcz5_3; try clear hcz5_4; try clear hcz7_0; try clear hcz7_1; try clear hcz7_2; try clear hcz7_3; try clear hcz7_4; try clear hfz5_0; try clear hfz5_1; try clear hfz5_2; try clear hfz5_3; try clear hfz5_4; try clear hfz7_0; try clear hfz7_1; try clear hfz7_2; try clear hfz7_3; try clear hfz7_4
   obtain ⟨x3_1, x4_1, rfl, HA, HK1, HO_3, BK585, HB⟩ := hrel
   cases gk with
   | zero => exact absurd HA.out (by simp [waveletlaw02_PlanePieces.l0])
   | succ k1 =>
    have H := HA.out
    clear HA
    simp only [waveletlaw02_PlanePieces.l0] at H
    by_cases c8 : x4_1 < a0_3
    ·rw [if_pos c8] at H
     have c8b0 : decide (x4_1 < a0_3) = true := decide_eq_true c8
     clear c8
     replace H := Option.bind_eq_some_iff.mp H
     obtain ⟨⟨t590, t593⟩, A90, H⟩ := H
     replace H : (if t593 = true then (waveletlaw02_PlanePieces.j1 k1 x3_1 x4_1 t590 ((t590.length : Int) != (wrap64 (a0_2 - a0_0))) a0_0 a0_1 a0_2 a0_3 l0_4) else (waveletlaw02_PlanePieces.j1 k1 x3_1 x4_1 t590 true a0_0 a0_1 a0_2 a0_3 l0_4)) = some r := H
     have A9 := Aside0.mk A90
     clear A90
     have HC10 := Aside0.mk H
     clear H
     have hcz11_0 : wr.cell? ⟨gb585, 0, none⟩ = some (.int .i64 a0_0) := bc BK585 0
     have hcz11_1 : wr.cell? ⟨gb585, 1, none⟩ = some (.int .i64 a0_1) := bc BK585 1
     have hcz11_2 : wr.cell? ⟨gb585, 2, none⟩ = some (.int .i64 a0_2) := bc BK585 2
     have hcz11_3 : wr.cell? ⟨gb585, 3, none⟩ = some (.int .i64 a0_3) := bc BK585 3
     have hcz11_4 : wr.cell? ⟨gb585, 4, none⟩ = some (.slice A0_4 l0_4.length c0_4) := bc BK585 4
     have hfz11_0 := blk_frozen BK585.out 0
     have hfz11_1 := blk_frozen BK585.out 1
     have hfz11_2 := blk_frozen BK585.out 2
     have hfz11_3 := blk_frozen BK585.out 3
     have hfz11_4 := blk_frozen BK585.out 4
     go_upto_region 8 with (first | ((with_reducible refine gate_callee (f := 22) rfl ?_); refine goesL_ (some 29) rfl rfl Try.func22 (by kernel_rfl) rfl #[.agg #[.int .i64 a0_0, .int .i64 a0_1, .int .i64 a0_2, .int .i64 a0_3, .slice A0_4 l0_4.length c0_4], .int .i64 x4_1] rfl upL ?_; (with_reducible refine (plane_Row.calls k1 a0_0 a0_1 a0_2 a0_3 _ _ l0_4 x4_1 t590 t593 _ ?side1 ?side2 A9.out).mono ?_); (case side1 => repeat (first | exact (Kd.C_below HR0_4.out HB.out) | (with_reducible refine Kd.C_alloc ?_ _) | (with_reducible refine Kd.C_drewN ?_ _) | (with_reducible refine Kd.C_drew ?_))); (case side2 => exact HC0_4.out); rintro e w12 ⟨v591, rfl, ho0, hb⟩; refine ⟨_, rfl, ?_⟩; have HO592 := Aside0.mk (Kd.R_lower (Kd.R_new' ho0 (Kd.R_lt (upR HO_3.out))) (below_size (upB HB.out))); replace HO_3 := Aside0.mk (Kd.R_elder' (upR HO_3.out) (Kd.R_base ho0) hb); replace BK585 := Aside0.mk (blk_below (g := gb585) (o := .cells #[.int .i64 a0_0, .int .i64 a0_1, .int .i64 a0_2, .int .i64 a0_3, .slice A0_4 l0_4.length c0_4] 26 (0, 0)) (upK BK585.out) hb); replace HB := Aside0.mk (below_step (upB HB.out) hb); (try clear hb; try clear hb2; try clear hk; try clear hi; try clear ho0)))
     (try simp only [Act.put, List.setIfInBounds_toArray, List.set_cons_zero, List.set_cons_succ])
     go_cut [45] (fun v45 wc => ∃ (kq : Nat) (x45_9 : Bool), v45 = .bool x45_9 ∧ Aside0 (waveletlaw02_PlanePieces.j1 kq x3_1 x4_1 t590 x45_9 a0_0 a0_1 a0_2 a0_3 l0_4 = some r) ∧ Aside0 (kq ≤ k1) ∧ Aside0 (Kd.R (Kd.int .i64) 3 wc w.heap.size (fun k_ => some k_ ≠ (v591 : Value).ownBlock) u3 x3_1) ∧ Aside0 (Kd.R (Kd.int .i64) 3 wc w.heap.size (fun k_ => some k_ ≠ (u3 : Value).ownBlock) v591 t590) ∧ Aside0 (wc.heap[gb585]? = some (.cells #[.int .i64 a0_0, .int .i64 a0_1, .int .i64 a0_2, .int .i64 a0_3, (.slice A0_4 l0_4.length c0_4)] 26 (0, 0))) ∧ Aside0 (Below w.heap.size w wc))
     case first =>
      have H := HC10.out
      clear HC10
      by_cases c13 : t593 = true
      ·subst c13
       rw [if_pos rfl] at H
       have H' := Aside0.mk H
       clear H
       obtain ⟨Ao14, co14, eo14⟩ := Kd.R_slice HO592.out
       subst eo14
       have hcz15_0 : w12.cell? ⟨gb585, 0, none⟩ = some (.int .i64 a0_0) := bc BK585 0
       have hcz15_1 : w12.cell? ⟨gb585, 1, none⟩ = some (.int .i64 a0_1) := bc BK585 1
       have hcz15_2 : w12.cell? ⟨gb585, 2, none⟩ = some (.int .i64 a0_2) := bc BK585 2
       have hcz15_3 : w12.cell? ⟨gb585, 3, none⟩ = some (.int .i64 a0_3) := bc BK585 3
       have hcz15_4 : w12.cell? ⟨gb585, 4, none⟩ = some (.slice A0_4 l0_4.length c0_4) := bc BK585 4
       have hfz15_0 := blk_frozen BK585.out 0
       have hfz15_1 := blk_frozen BK585.out 1
       have hfz15_2 := blk_frozen BK585.out 2
       have hfz15_3 := blk_frozen BK585.out 3
       have hfz15_4 := blk_frozen BK585.out 4
       go_wp2
       go_meet
       case rel => exact ⟨_, (((t590.length : Int) != (wrap64 (a0_2 - a0_0)))), (by first | rfl | (simp; done) | (simp [*]; done)), H', ⟨by have := HK1.out; first | omega | exact Nat.le_refl _⟩, ⟨by (with_reducible repeat (first | apply Kd.R_alloc | apply Kd.R_drewN | apply Kd.R_drew)); exact Kd.R_mono HO_3.out (fun _ hk => hk.2)⟩, ⟨by (with_reducible repeat (first | apply Kd.R_alloc | apply Kd.R_drewN | apply Kd.R_drew)); exact Kd.R_mono HO592.out (fun _ hk => hk.2)⟩, ⟨by (with_reducible repeat (first | refine blk_drewN ?_ _ | refine blk_drew ?_ | refine blk_alloc ?_ _)); exact BK585.out⟩, ⟨by repeat (first | (with_reducible first | exact HB.out | apply below_alloc | apply pw_below_drewN | apply below_drew1 | refine below_set ?_ GE585.out) | exact HB.out)⟩⟩
      ·replace c13 := Bool.eq_false_iff.mpr c13
       subst c13
       have H1 : (waveletlaw02_PlanePieces.j1 k1 x3_1 x4_1 t590 true a0_0 a0_1 a0_2 a0_3 l0_4) = some r := by rw [if_neg (show ¬ (false = true) by decide)] at H; exact H
       exact absurd H1 (by rw [hr_]; cases k1 <;> simp [waveletlaw02_PlanePieces.j1])
     case rest =>
      clear HC10
      try clear c1; try clear c2; try clear p2; try clear c3; try clear p6; try clear c8; try clear c8b0; try clear c10; try clear c13; try clear hcz11_0; try clear hcz11_1; try clear hcz11_2; try clear hcz11_3; try clear hcz11_4; try clear hcz15_0; try clear hcz15_1; try clear hcz15_2; try clear hcz15_3; try clear hcz15_4; try clear hcz5_0; try clear hcz5_1; try clear hcz5_2; try clear hcz5_3; try clear hcz5_4; try clear hcz7_0; try clear hcz7_1; try clear hcz7_2; try clear hcz7_3; try clear hcz7_4; try clear hfz11_0; try clear hfz11_1; try clear hfz11_2; try clear hfz11_3; try clear hfz11_4; try clear hfz15_0; try clear hfz15_1; try clear hfz15_2; try clear hfz15_3; try clear hfz15_4; try clear hfz5_0; try clear hfz5_1; try clear hfz5_2; try clear hfz5_3; try clear hfz5_4; try clear hfz7_0; try clear hfz7_1; try clear hfz7_2; try clear hfz7_3; try clear hfz7_4; try clear p2
      obtain ⟨kq, x45_9, rfl, HA, HJ9, HO_3, HO_5, BK585, HB⟩ := hcut
      cases kq with
      | zero => exact absurd HA.out (by simp [waveletlaw02_PlanePieces.j1])
      | succ kj9 =>
       have H := HA.out
       clear HA
       simp only [waveletlaw02_PlanePieces.j1] at H
       by_cases c16 : x45_9 = true
       ·subst c16
        have H1 : (some false) = some r := by rw [if_pos rfl] at H; exact H
        exact absurd (Option.some.inj H1) (by rw [hr_]; decide)
       ·replace c16 := Bool.eq_false_iff.mpr c16
        subst c16
        rw [if_neg (show ¬ (false = true) by decide)] at H
        by_cases c17 : x3_1.length + t590.length < 17592186044416
        ·rw [if_pos c17] at H
         have LMc17 := Aside0.mk c17
         clear c17
         obtain ⟨y594, hy594⟩ : ∃ y_ : List Int, y_ = (x3_1 ++ t590) := ⟨_, rfl⟩
         replace H : (waveletlaw02_PlanePieces.l1 kj9 y594 x4_1 t590 a0_0 a0_0 a0_1 a0_2 a0_3 l0_4) = some r := by first | (rw [hy594]; with_reducible exact H) | (have H2_ := (Option.bind_some _ _).symm.trans H; rw [hy594]; with_reducible exact H2_) | (have H2_ := (Option.bind_some _ _).symm.trans H; with_reducible exact H2_) | with_reducible exact H | (rw [hy594]; exact H) | exact H
         have Ny594 := Aside0.mk hy594
         clear hy594
         have H' := Aside0.mk H
         clear H
         obtain ⟨Ao19, co19, eo19⟩ := Kd.R_slice HO_5.out
         subst eo19
         go_wp2_with (first | ((with_reducible refine gate_builtin (b := .append) (xs := #[.tmp 46, .tmp 47]) rfl ?_); (try (refine gate_guard (by rfl) ?_; dsimp only)); at_builtin; refine Kd.R_append_rows (Kd.int .i64) (w0 := w) w.heap.size rfl (.tmp 46) (.tmp 47) 24 3 (.int .i64 0) 8 rfl Try.underlying24 info3 rfl (by decide) (by omega) u3 x3_1 t590 _ _ _ (fun k_ => some k_ ≠ (.slice Ao19 t590.length co19 : Value).ownBlock) (fun _ => False) rfl rfl ?aO ?aR (fun _ _ h => h) (fun _ h => h.elim) ?aF ?aB ?aS ?aL ?_; (case aR => repeat (first | exact (Kd.R_reads' HO_5.out).2.2 | (with_reducible refine Kd.C_alloc ?_ _) | (with_reducible refine Kd.C_drewN ?_ _) | (with_reducible refine Kd.C_drew ?_))); (case aB => exact (upB HB.out)); (case aF => exact (fun k_ hk => Kd.fresh' (Kd.R_lt (upR HO_5.out)) k_ hk)); (case aO => exact (upR HO_3.out)); (case aS => exact (below_size (upB HB.out))); (case aL => have := LMc17.out; omega); intro v595 w18 ho hb hg hat; rw [← Ny594.out] at ho; have n0_ := Aside0.mk (Kd.R_after (ok := (fun _ => True)) (by (with_reducible repeat (first | apply Kd.R_alloc | apply Kd.R_drewN | apply Kd.R_drew)); exact Kd.R_mono HO_5.out (fun _ hk => ⟨trivial, hk⟩)) hg hat); have n1_ := Aside0.mk (blk_grown (g := gb585) (o := .cells #[.int .i64 a0_0, .int .i64 a0_1, .int .i64 a0_2, .int .i64 a0_3, .slice A0_4 l0_4.length c0_4] 26 (0, 0)) (upK BK585.out) hg (Kd.R_ne HO_3.out BK585.out (by decide))); have n2_ := Aside0.mk (hb); have n3_ := Aside0.mk (ho); clear HO_5 BK585 HB HO_3; have HO_5 := n0_; have BK585 := n1_; have HB := n2_; have HO596 := n3_; clear n0_ n1_ n2_ n3_; clear ho hb hg hat; have hcz20_0 : w18.cell? ⟨gb585, 0, none⟩ = some (.int .i64 a0_0) := bc BK585 0; have hcz20_1 : w18.cell? ⟨gb585, 1, none⟩ = some (.int .i64 a0_1) := bc BK585 1; have hcz20_2 : w18.cell? ⟨gb585, 2, none⟩ = some (.int .i64 a0_2) := bc BK585 2; have hcz20_3 : w18.cell? ⟨gb585, 3, none⟩ = some (.int .i64 a0_3) := bc BK585 3; have hcz20_4 : w18.cell? ⟨gb585, 4, none⟩ = some (.slice A0_4 l0_4.length c0_4) := bc BK585 4; have hfz20_0 := blk_frozen BK585.out 0; have hfz20_1 := blk_frozen BK585.out 1; have hfz20_2 := blk_frozen BK585.out 2; have hfz20_3 := blk_frozen BK585.out 3; have hfz20_4 := blk_frozen BK585.out 4))
         go_loopg [7] kj9 (fun kq v7 w' => ∃ (x7_3 : Int), v7 = .int .i64 x7_3 ∧ Aside0 (waveletlaw02_PlanePieces.l1 kq y594 x4_1 t590 x7_3 a0_0 a0_1 a0_2 a0_3 l0_4 = some r) ∧ Aside0 (kq ≤ kj9) ∧ Aside0 (Kd.R (Kd.int .i64) 3 w' w.heap.size (fun k_ => some k_ ≠ ((.slice Ao19 t590.length co19) : Value).ownBlock) v595 y594) ∧ Aside0 (Kd.R (Kd.int .i64) 3 w' w.heap.size (fun k_ => some k_ ≠ (v595 : Value).ownBlock) (.slice Ao19 t590.length co19) t590) ∧ Aside0 (w'.heap[gb585]? = some (.cells #[.int .i64 a0_0, .int .i64 a0_1, .int .i64 a0_2, .int .i64 a0_3, (.slice A0_4 l0_4.length c0_4)] 26 (0, 0))) ∧ Aside0 (Below w.heap.size w w'))
         case atStart => exact ⟨(a0_0), (by first | rfl | (simp; done) | (simp [*]; done)), H', ⟨Nat.le_refl _⟩, ⟨by (with_reducible repeat (first | apply Kd.R_alloc | apply Kd.R_drewN | apply Kd.R_drew)); exact HO596.out⟩, ⟨by (with_reducible repeat (first | apply Kd.R_alloc | apply Kd.R_drewN | apply Kd.R_drew)); exact Kd.R_mono HO_5.out (fun _ hk => hk.2)⟩, ⟨by (with_reducible repeat (first | refine blk_drewN ?_ _ | refine blk_drew ?_ | refine blk_alloc ?_ _)); exact BK585.out⟩, ⟨by repeat (first | (with_reducible first | exact HB.out | apply below_alloc | apply pw_below_drewN | apply below_drew1 | refine below_set ?_ GE585.out) | exact HB.out)⟩⟩
         case round =>
          clear H'
          try clear c1; try clear c2; try clear p2; try clear c3; try clear p6; try clear c8; try clear c8b0; try clear c10; try clear c13; try clear c16; try clear c17; try clear hcz11_0; try clear hcz11_1; try clear hcz11_2; try clear hcz11_3; try clear hcz11_4; try clear hcz15_0; try clear hcz15_1; try clear hcz15_2; try clear hcz15_3; try clear hcz15_4; try clear hcz20_0; try clear hcz20_1; try clear hcz20_2; try clear hcz20_3; try clear hcz20_4; try clear hcz5_0; try clear hcz5_1; try clear hcz5_2; try clear hcz5_3; try clear hcz5_4; try clear hcz7_0; try clear hcz7_1; try clear hcz7_2; try clear hcz7_3; try clear hcz7_4; try clear hfz11_0; try clear hfz11_1; try clear hfz11_2; try clear hfz11_3; try clear hfz11_4; try clear hfz15_0; try clear hfz15_1; try clear hfz15_2; try clear hfz15_3; try clear hfz15_4; try clear hfz20_0; try clear hfz20_1; try clear hfz20_2; try clear hfz20_3; try clear hfz20_4; try clear hfz5_0; try clear hfz5_1; try clear hfz5_2; try clear hfz5_3; try clear hfz5_4; try clear hfz7_0; try clear hfz7_1; try clear hfz7_2; try clear hfz7_3; try clear hfz7_4; try clear p2; try clear p6
          obtain ⟨x7_3, rfl, HA, HK3, HO_3, HO_5, BK585, HB⟩ := hrel
          cases gk with
          | zero => exact absurd HA.out (by simp [waveletlaw02_PlanePieces.l1])
          | succ k3 =>
           have H := HA.out
           clear HA
           simp only [waveletlaw02_PlanePieces.l1] at H
           by_cases c21 : x7_3 < a0_2
           ·rw [if_pos c21] at H
            have c21b0 : decide (x7_3 < a0_2) = true := decide_eq_true c21
            clear c21
            replace H := Option.bind_eq_some_iff.mp H
            obtain ⟨⟨t597, t598⟩, A220, H⟩ := H
            replace H : ((plane_Column.f k3 a0_0 a0_1 a0_2 a0_3 l0_4 x7_3).bind fun bt599 => (if t598 = true then (if bt599.2 = true then (if (bt599.1.length : Int) = (wrap64 (a0_3 - a0_1)) then (if 0 ≤ (wrap64 (x7_3 - a0_0)) then (if (wrap64 (x7_3 - a0_0)) < (t590.length : Int) then (if t597 = (rd t590 (wrap64 (x7_3 - a0_0))) then (if 0 ≤ (wrap64 (x4_1 - a0_1)) then (if (wrap64 (x4_1 - a0_1)) < (bt599.1.length : Int) then (if t597 = (rd bt599.1 (wrap64 (x4_1 - a0_1))) then (waveletlaw02_PlanePieces.l1 k3 y594 x4_1 t590 (wrap64 (x7_3 + 1)) a0_0 a0_1 a0_2 a0_3 l0_4) else (some false)) else (none)) else (none)) else (some false)) else (none)) else (none)) else (some false)) else (some false)) else (some false))) = some r := H
            have A22 := Aside0.mk A220
            clear A220
            replace H := Option.bind_eq_some_iff.mp H
            obtain ⟨⟨t599, t602⟩, A230, H⟩ := H
            replace H : (if t598 = true then (if t602 = true then (if (t599.length : Int) = (wrap64 (a0_3 - a0_1)) then (if 0 ≤ (wrap64 (x7_3 - a0_0)) then (if (wrap64 (x7_3 - a0_0)) < (t590.length : Int) then (if t597 = (rd t590 (wrap64 (x7_3 - a0_0))) then (if 0 ≤ (wrap64 (x4_1 - a0_1)) then (if (wrap64 (x4_1 - a0_1)) < (t599.length : Int) then (if t597 = (rd t599 (wrap64 (x4_1 - a0_1))) then (waveletlaw02_PlanePieces.l1 k3 y594 x4_1 t590 (wrap64 (x7_3 + 1)) a0_0 a0_1 a0_2 a0_3 l0_4) else (some false)) else (none)) else (none)) else (some false)) else (none)) else (none)) else (some false)) else (some false)) else (some false)) = some r := H
            have A23 := Aside0.mk A230
            clear A230
            by_cases c24 : t598 = true
            ·subst c24
             rw [if_pos rfl] at H
             by_cases c25 : t602 = true
             ·subst c25
              rw [if_pos rfl] at H
              by_cases c26 : (t599.length : Int) = (wrap64 (a0_3 - a0_1))
              ·rw [if_pos c26] at H
               have c26b0 : ((t599.length : Int) == (wrap64 (a0_3 - a0_1))) = true := beq_iff_eq.mpr c26
               have c26b1 : ((t599.length : Int) != (wrap64 (a0_3 - a0_1))) = false := bne_eq_false_iff_eq.mpr c26
               clear c26
               obtain ⟨ji27, hji27⟩ : ∃ j_ : Int, (wrap64 (x7_3 - a0_0)) = j_ := ⟨_, rfl⟩
               replace H : (if 0 ≤ (ji27) then (if (ji27) < (t590.length : Int) then (if t597 = (rd t590 (ji27)) then (if 0 ≤ (wrap64 (x4_1 - a0_1)) then (if (wrap64 (x4_1 - a0_1)) < (t599.length : Int) then (if t597 = (rd t599 (wrap64 (x4_1 - a0_1))) then (waveletlaw02_PlanePieces.l1 k3 y594 x4_1 t590 (wrap64 (x7_3 + 1)) a0_0 a0_1 a0_2 a0_3 l0_4) else (some false)) else (none)) else (none)) else (some false)) else (none)) else (none)) = some r := by first | (rw [hji27] at H; exact H) | (simp only [hji27] at H ⊢; exact H)
               (try rw [hji27] at A22)
               (try rw [hji27] at A23)
               have hji27w : (IntKind.i64.wrap (x7_3 - a0_0)) = ji27 := (i64_w _).trans hji27
               by_cases c28 : 0 ≤ (ji27)
               ·rw [if_pos c28] at H
                have c28b0 : decide (0 ≤ (ji27)) = true := decide_eq_true c28
                clear c28
                by_cases c29 : (ji27) < (t590.length : Int)
                ·rw [if_pos c29] at H
                 have c29b0 : decide ((ji27) < (t590.length : Int)) = true := decide_eq_true c29
                 clear c29
                 by_cases c30 : t597 = (rd t590 (ji27))
                 ·rw [if_pos c30] at H
                  have c30b0 : (t597 == (rd t590 (ji27))) = true := beq_iff_eq.mpr c30
                  have c30b1 : (t597 != (rd t590 (ji27))) = false := bne_eq_false_iff_eq.mpr c30
                  clear c30
                  obtain ⟨ji31, hji31⟩ : ∃ j_ : Int, (wrap64 (x4_1 - a0_1)) = j_ := ⟨_, rfl⟩
                  replace H : (if 0 ≤ (ji31) then (if (ji31) < (t599.length : Int) then (if t597 = (rd t599 (ji31)) then (waveletlaw02_PlanePieces.l1 k3 y594 x4_1 t590 (wrap64 (x7_3 + 1)) a0_0 a0_1 a0_2 a0_3 l0_4) else (some false)) else (none)) else (none)) = some r := by first | (rw [hji31] at H; exact H) | (simp only [hji31] at H ⊢; exact H)
                  (try rw [hji31] at A22)
                  (try rw [hji31] at A23)
                  have hji31w : (IntKind.i64.wrap (x4_1 - a0_1)) = ji31 := (i64_w _).trans hji31
                  by_cases c32 : 0 ≤ (ji31)
                  ·rw [if_pos c32] at H
                   have c32b0 : decide (0 ≤ (ji31)) = true := decide_eq_true c32
                   clear c32
                   by_cases c33 : (ji31) < (t599.length : Int)
                   ·rw [if_pos c33] at H
                    have c33b0 : decide ((ji31) < (t599.length : Int)) = true := decide_eq_true c33
                    clear c33
                    by_cases c34 : t597 = (rd t599 (ji31))
                    ·rw [if_pos c34] at H
                     have c34b0 : (t597 == (rd t599 (ji31))) = true := beq_iff_eq.mpr c34
                     have c34b1 : (t597 != (rd t599 (ji31))) = false := bne_eq_false_iff_eq.mpr c34
                     clear c34
                     have H' := Aside0.mk H
                     clear H
                     have hcz35_0 : wr.cell? ⟨gb585, 0, none⟩ = some (.int .i64 a0_0) := bc BK585 0
                     have hcz35_1 : wr.cell? ⟨gb585, 1, none⟩ = some (.int .i64 a0_1) := bc BK585 1
                     have hcz35_2 : wr.cell? ⟨gb585, 2, none⟩ = some (.int .i64 a0_2) := bc BK585 2
                     have hcz35_3 : wr.cell? ⟨gb585, 3, none⟩ = some (.int .i64 a0_3) := bc BK585 3
                     have hcz35_4 : wr.cell? ⟨gb585, 4, none⟩ = some (.slice A0_4 l0_4.length c0_4) := bc BK585 4
                     have hfz35_0 := blk_frozen BK585.out 0
                     have hfz35_1 := blk_frozen BK585.out 1
                     have hfz35_2 := blk_frozen BK585.out 2
                     have hfz35_3 := blk_frozen BK585.out 3
                     have hfz35_4 := blk_frozen BK585.out 4
                     go_wp2_with (first | ((with_reducible refine gate_callee (f := 18) rfl ?_); refine goesL_ (some 63) rfl rfl Try.func18 (by kernel_rfl) rfl #[.agg #[.int .i64 a0_0, .int .i64 a0_1, .int .i64 a0_2, .int .i64 a0_3, .slice A0_4 l0_4.length c0_4], .int .i64 x7_3, .int .i64 x4_1] rfl upL ?_; (with_reducible refine (plane_At.calls a0_0 a0_1 a0_2 a0_3 _ _ l0_4 x7_3 x4_1 t597 true _ ?side1 ?side2 A22.out).mono ?_); (case side1 => repeat (first | exact (Kd.C_below HR0_4.out HB.out) | (with_reducible refine Kd.C_alloc ?_ _) | (with_reducible refine Kd.C_drewN ?_ _) | (with_reducible refine Kd.C_drew ?_))); (case side2 => exact HC0_4.out); rintro e w36 ⟨rfl, hb⟩; refine ⟨_, rfl, ?_⟩; replace HO_3 := Aside0.mk (Kd.R_below (upR HO_3.out) hb); replace HO_5 := Aside0.mk (Kd.R_below (upR HO_5.out) hb); replace BK585 := Aside0.mk (blk_below (g := gb585) (o := .cells #[.int .i64 a0_0, .int .i64 a0_1, .int .i64 a0_2, .int .i64 a0_3, .slice A0_4 l0_4.length c0_4] 26 (0, 0)) (upK BK585.out) hb); replace HB := Aside0.mk (below_step (upB HB.out) hb); (try clear hb; try clear hb2; try clear hk; try clear hi); have hcz37_0 : w36.cell? ⟨gb585, 0, none⟩ = some (.int .i64 a0_0) := bc BK585 0; have hcz37_1 : w36.cell? ⟨gb585, 1, none⟩ = some (.int .i64 a0_1) := bc BK585 1; have hcz37_2 : w36.cell? ⟨gb585, 2, none⟩ = some (.int .i64 a0_2) := bc BK585 2; have hcz37_3 : w36.cell? ⟨gb585, 3, none⟩ = some (.int .i64 a0_3) := bc BK585 3; have hcz37_4 : w36.cell? ⟨gb585, 4, none⟩ = some (.slice A0_4 l0_4.length c0_4) := bc BK585 4; have hfz37_0 := blk_frozen BK585.out 0; have hfz37_1 := blk_frozen BK585.out 1; have hfz37_2 := blk_frozen BK585.out 2; have hfz37_3 := blk_frozen BK585.out 3; have hfz37_4 := blk_frozen BK585.out 4) | ((with_reducible refine gate_callee (f := 25) rfl ?_); refine goesL_ (some 69) rfl rfl Try.func25 (by kernel_rfl) rfl #[.agg #[.int .i64 a0_0, .int .i64 a0_1, .int .i64 a0_2, .int .i64 a0_3, .slice A0_4 l0_4.length c0_4], .int .i64 x7_3] rfl upL ?_; (with_reducible refine (plane_Column.calls k3 a0_0 a0_1 a0_2 a0_3 _ _ l0_4 x7_3 t599 true _ ?side1 ?side2 A23.out).mono ?_); (case side1 => repeat (first | exact (Kd.C_below HR0_4.out HB.out) | (with_reducible refine Kd.C_alloc ?_ _) | (with_reducible refine Kd.C_drewN ?_ _) | (with_reducible refine Kd.C_drew ?_))); (case side2 => exact HC0_4.out); rintro e w38 ⟨v600, rfl, ho0, hb⟩; refine ⟨_, rfl, ?_⟩; have HO601 := Aside0.mk (Kd.R_lower (Kd.R_new' (Kd.R_new' ho0 (Kd.R_lt (upR HO_3.out))) (Kd.R_lt (upR HO_5.out))) (below_size (upB HB.out))); replace HO_3 := Aside0.mk (Kd.R_elder' (upR HO_3.out) (Kd.R_base ho0) hb); replace HO_5 := Aside0.mk (Kd.R_elder' (upR HO_5.out) (Kd.R_base ho0) hb); replace BK585 := Aside0.mk (blk_below (g := gb585) (o := .cells #[.int .i64 a0_0, .int .i64 a0_1, .int .i64 a0_2, .int .i64 a0_3, .slice A0_4 l0_4.length c0_4] 26 (0, 0)) (upK BK585.out) hb); replace HB := Aside0.mk (below_step (upB HB.out) hb); (try clear hb; try clear hb2; try clear hk; try clear hi; try clear ho0); obtain ⟨Ao39, co39, eo39⟩ := Kd.R_slice HO601.out; subst eo39; have hcz40_0 : w38.cell? ⟨gb585, 0, none⟩ = some (.int .i64 a0_0) := bc BK585 0; have hcz40_1 : w38.cell? ⟨gb585, 1, none⟩ = some (.int .i64 a0_1) := bc BK585 1; have hcz40_2 : w38.cell? ⟨gb585, 2, none⟩ = some (.int .i64 a0_2) := bc BK585 2; have hcz40_3 : w38.cell? ⟨gb585, 3, none⟩ = some (.int .i64 a0_3) := bc BK585 3; have hcz40_4 : w38.cell? ⟨gb585, 4, none⟩ = some (.slice A0_4 l0_4.length c0_4) := bc BK585 4; have hfz40_0 := blk_frozen BK585.out 0; have hfz40_1 := blk_frozen BK585.out 1; have hfz40_2 := blk_frozen BK585.out 2; have hfz40_3 := blk_frozen BK585.out 3; have hfz40_4 := blk_frozen BK585.out 4; have p603 : 0 ≤ ((ji27) : Int) := of_decide_eq_true (by first | (with_reducible assumption) | assumption); have q603 : (ji27) < (t590.length : Int) := of_decide_eq_true (by first | (with_reducible assumption) | assumption); obtain ⟨ad603, e603, hx603_0⟩ := Kd.at_int (Kd.R_reads' HO_5.out).2.2 (ji27) p603 q603; cases e603; replace p603 := eq_true p603; replace q603 := eq_true q603; have p604 : 0 ≤ ((ji31) : Int) := of_decide_eq_true (by first | (with_reducible assumption) | assumption); have q604 : (ji31) < (t599.length : Int) := of_decide_eq_true (by first | (with_reducible assumption) | assumption); obtain ⟨ad604, e604, hx604_0⟩ := Kd.at_int (Kd.R_reads' HO601.out).2.2 (ji31) p604 q604; cases e604; replace p604 := eq_true p604; replace q604 := eq_true q604))
                     go_roundg k3
                     case measure => have := HK1.out; have := HJ9.out; have := HK3.out; omega
                     case rel => exact ⟨(wrap64 (x7_3 + 1)), (by first | rfl | (simp; done) | (simp [*]; done)), H', ⟨by have := HK1.out; have := HJ9.out; have := HK3.out; omega⟩, ⟨by (with_reducible repeat (first | apply Kd.R_alloc | apply Kd.R_drewN | apply Kd.R_drew)); exact Kd.R_mono HO_3.out (fun _ hk => hk.1)⟩, ⟨by (with_reducible repeat (first | apply Kd.R_alloc | apply Kd.R_drewN | apply Kd.R_drew)); exact Kd.R_mono HO_5.out (fun _ hk => hk.1)⟩, ⟨by (with_reducible repeat (first | refine blk_drewN ?_ _ | refine blk_drew ?_ | refine blk_alloc ?_ _)); exact BK585.out⟩, ⟨by repeat (first | (with_reducible first | exact HB.out | apply below_alloc | apply pw_below_drewN | apply below_drew1 | refine below_set ?_ GE585.out) | exact HB.out)⟩⟩
                    ·rw [if_neg c34] at H
                     exact absurd (Option.some.inj H) (by rw [hr_]; decide)
                   ·rw [if_neg c33] at H
                    exact absurd H (by simp)
                  ·rw [if_neg c32] at H
                   exact absurd H (by simp)
                 ·rw [if_neg c30] at H
                  exact absurd (Option.some.inj H) (by rw [hr_]; decide)
                ·rw [if_neg c29] at H
                 exact absurd H (by simp)
               ·rw [if_neg c28] at H
                exact absurd H (by simp)
              ·rw [if_neg c26] at H
               exact absurd (Option.some.inj H) (by rw [hr_]; decide)
             ·replace c25 := Bool.eq_false_iff.mpr c25
              subst c25
              have H1 : (some false) = some r := by rw [if_neg (show ¬ (false = true) by decide)] at H; exact H
              exact absurd (Option.some.inj H1) (by rw [hr_]; decide)
            ·replace c24 := Bool.eq_false_iff.mpr c24
             subst c24
             have H1 : (some false) = some r := by rw [if_neg (show ¬ (false = true) by decide)] at H; exact H
             exact absurd (Option.some.inj H1) (by rw [hr_]; decide)
           ·rw [if_neg c21] at H
            have c21b0 : decide (x7_3 < a0_2) = false := decide_eq_false c21
            clear c21
            have H' := Aside0.mk H
            clear H
            have hcz67_0 : wr.cell? ⟨gb585, 0, none⟩ = some (.int .i64 a0_0) := bc BK585 0
            have hcz67_1 : wr.cell? ⟨gb585, 1, none⟩ = some (.int .i64 a0_1) := bc BK585 1
            have hcz67_2 : wr.cell? ⟨gb585, 2, none⟩ = some (.int .i64 a0_2) := bc BK585 2
            have hcz67_3 : wr.cell? ⟨gb585, 3, none⟩ = some (.int .i64 a0_3) := bc BK585 3
            have hcz67_4 : wr.cell? ⟨gb585, 4, none⟩ = some (.slice A0_4 l0_4.length c0_4) := bc BK585 4
            have hfz67_0 := blk_frozen BK585.out 0
            have hfz67_1 := blk_frozen BK585.out 1
            have hfz67_2 := blk_frozen BK585.out 2
            have hfz67_3 := blk_frozen BK585.out 3
            have hfz67_4 := blk_frozen BK585.out 4
            go_wp2
            go_roundg k3
            case measure => have := HK1.out; have := HJ9.out; have := HK3.out; omega
            case rel => exact ⟨(y594), (wrap64 (x4_1 + 1)), (by first | rfl | (simp; done) | (simp [*]; done)), H', ⟨by have := HK1.out; have := HJ9.out; have := HK3.out; omega⟩, ⟨by (with_reducible repeat (first | apply Kd.R_alloc | apply Kd.R_drewN | apply Kd.R_drew)); exact Kd.R_mono HO_3.out (fun _ hk => trivial)⟩, ⟨by (with_reducible repeat (first | refine blk_drewN ?_ _ | refine blk_drew ?_ | refine blk_alloc ?_ _)); exact BK585.out⟩, ⟨by repeat (first | (with_reducible first | exact HB.out | apply below_alloc | apply pw_below_drewN | apply below_drew1 | refine below_set ?_ GE585.out) | exact HB.out)⟩⟩
        ·rw [if_neg c17] at H
         exact absurd H (by simp)
    ·rw [if_neg c8] at H
     have c8b0 : decide (x4_1 < a0_3) = false := decide_eq_false c8
     clear c8
     replace H := Option.bind_eq_some_iff.mp H
     obtain ⟨t588, A680, H⟩ := H
     replace H : (if t588 = true then ((waveletlaw02_exampleHolds.f k1).bind fun t589 => (some t589)) else (some false)) = some r := H
     have A68 := Aside0.mk A680
     clear A680
     by_cases c69 : t588 = true
     ·subst c69
      rw [if_pos rfl] at H
      replace H := Option.bind_eq_some_iff.mp H
      obtain ⟨t589, A700, H⟩ := H
      replace H : (some t589) = some r := H
      have A70 := Aside0.mk A700
      clear A700
      obtain rfl := Option.some.inj H
      have hcz71_0 : wr.cell? ⟨gb585, 0, none⟩ = some (.int .i64 a0_0) := bc BK585 0
      have hcz71_1 : wr.cell? ⟨gb585, 1, none⟩ = some (.int .i64 a0_1) := bc BK585 1
      have hcz71_2 : wr.cell? ⟨gb585, 2, none⟩ = some (.int .i64 a0_2) := bc BK585 2
      have hcz71_3 : wr.cell? ⟨gb585, 3, none⟩ = some (.int .i64 a0_3) := bc BK585 3
      have hcz71_4 : wr.cell? ⟨gb585, 4, none⟩ = some (.slice A0_4 l0_4.length c0_4) := bc BK585 4
      have hfz71_0 := blk_frozen BK585.out 0
      have hfz71_1 := blk_frozen BK585.out 1
      have hfz71_2 := blk_frozen BK585.out 2
      have hfz71_3 := blk_frozen BK585.out 3
      have hfz71_4 := blk_frozen BK585.out 4
      obtain ⟨Ao72, co72, eo72⟩ := Kd.R_slice HO_3.out
      subst eo72
      go_wp2_with (first | ((with_reducible refine gate_callee (f := 24) rfl ?_); refine goesL_ (some 117) rfl rfl Try.func24 (by kernel_rfl) rfl #[.slice Ao72 x3_1.length co72, .slice A0_4 l0_4.length c0_4] rfl upL ?_; (with_reducible refine (waveletref02_SameInts.calls k1 _ _ x3_1 _ _ l0_4 true _ ?side1 ?side2 ?side3 ?side4 A68.out).mono ?_); (case side1 => repeat (first | exact (Kd.R_reads' HO_3.out).2.2 | (with_reducible refine Kd.C_alloc ?_ _) | (with_reducible refine Kd.C_drewN ?_ _) | (with_reducible refine Kd.C_drew ?_))); (case side2 => exact (Kd.R_reads' HO_3.out).2.1); (case side3 => repeat (first | exact (Kd.C_below HR0_4.out HB.out) | (with_reducible refine Kd.C_alloc ?_ _) | (with_reducible refine Kd.C_drewN ?_ _) | (with_reducible refine Kd.C_drew ?_))); (case side4 => exact HC0_4.out); rintro e w' ⟨rfl, ⟨nd, rfl⟩⟩; refine ⟨_, rfl, ?_⟩) | (go_at_call 14; (with_reducible refine (waveletlaw02_exampleHolds.calls k1  t589 _ A70.out).mono ?_); rintro e w73 ⟨rfl, hb⟩; replace HO_3 := Aside0.mk (Kd.R_below (upR HO_3.out) hb); replace BK585 := Aside0.mk (blk_below (g := gb585) (o := .cells #[.int .i64 a0_0, .int .i64 a0_1, .int .i64 a0_2, .int .i64 a0_3, .slice A0_4 l0_4.length c0_4] 26 (0, 0)) (upK BK585.out) hb); replace HB := Aside0.mk (below_step (upB HB.out) hb); (try clear hb; try clear hb2; try clear hk; try clear hi)))
      go_ret
      exact ⟨by first | rfl | (simp [errW_none, errW_some] <;> rfl) | (simp [*, errW_none, errW_some] <;> rfl), by repeat (first | (with_reducible first | exact HB.out | apply below_alloc | apply pw_below_drewN | apply below_drew1 | refine below_set ?_ GE585.out) | exact HB.out)⟩
     ·replace c69 := Bool.eq_false_iff.mpr c69
      subst c69
      have H1 : (some false) = some r := by rw [if_neg (show ¬ (false = true) by decide)] at H; exact H
      exact absurd (Option.some.inj H1) (by rw [hr_]; decide)
 ·replace c3 := Bool.eq_false_iff.mpr c3
  subst c3
  rw [if_neg (show ¬ (false = true) by decide)] at H
  replace H := Option.bind_eq_some_iff.mp H
  obtain ⟨t587, A760, H⟩ := H
  replace H : (some t587) = some r := H
  have A76 := Aside0.mk A760
  clear A760
  obtain rfl := Option.some.inj H
  go_enter Try.func10, Try.ntmps10
  go_wp2_with (first | ((with_reducible refine gate_dst (N := 1) rfl ?_); (try (refine gate_guard (by rfl) ?_; dsimp only)); refine box_event ?hg (N := 1) ?hd (cs := #[.int .i64 a0_0, .int .i64 a0_1, .int .i64 a0_2, .int .i64 a0_3, .slice A0_4 l0_4.length c0_4]) (t := 26) ?hr ?_; (case hd => rfl); (case hg => rfl); (case hr => first | (go_simp; done) | (go_simp; rfl)); intro gb585 hg w77 hbox hb; have BK585 := Aside0.mk (hbox); have GW585 := Aside0.mk ((by rw [hg]; exact (below_size (upB HB.out)) : w.heap.size ≤ gb585)); have GE585 := Aside0.mk ((by rw [hg]; exact (below_size (upB HB.out)) : w.heap.size ≤ gb585)); replace HB := Aside0.mk (below_step (upB HB.out) hb); clear hb hbox hg; have hcz78_0 : w77.cell? ⟨gb585, 0, none⟩ = some (.int .i64 a0_0) := bc BK585 0; have hcz78_1 : w77.cell? ⟨gb585, 1, none⟩ = some (.int .i64 a0_1) := bc BK585 1; have hcz78_2 : w77.cell? ⟨gb585, 2, none⟩ = some (.int .i64 a0_2) := bc BK585 2; have hcz78_3 : w77.cell? ⟨gb585, 3, none⟩ = some (.int .i64 a0_3) := bc BK585 3; have hcz78_4 : w77.cell? ⟨gb585, 4, none⟩ = some (.slice A0_4 l0_4.length c0_4) := bc BK585 4; have hfz78_0 := blk_frozen BK585.out 0; have hfz78_1 := blk_frozen BK585.out 1; have hfz78_2 := blk_frozen BK585.out 2; have hfz78_3 := blk_frozen BK585.out 3; have hfz78_4 := blk_frozen BK585.out 4) | ((with_reducible refine gate_callee (f := 36) rfl ?_); refine goesL_ (some 13) rfl rfl Try.func36 (by kernel_rfl) rfl #[.agg #[.int .i64 a0_0, .int .i64 a0_1, .int .i64 a0_2, .int .i64 a0_3, .slice A0_4 l0_4.length c0_4]] rfl upL ?_; (with_reducible refine (waveletref02_ValidSmall.calls a0_0 a0_1 a0_2 a0_3 _ _ l0_4 false _ ?side1 ?side2 A2.out).mono ?_); (case side1 => repeat (first | exact (Kd.C_below HR0_4.out HB.out) | (with_reducible refine Kd.C_alloc ?_ _) | (with_reducible refine Kd.C_drewN ?_ _) | (with_reducible refine Kd.C_drew ?_))); (case side2 => exact HC0_4.out); rintro e w79 ⟨rfl, hb⟩; refine ⟨_, rfl, ?_⟩; replace BK585 := Aside0.mk (blk_below (g := gb585) (o := .cells #[.int .i64 a0_0, .int .i64 a0_1, .int .i64 a0_2, .int .i64 a0_3, .slice A0_4 l0_4.length c0_4] 26 (0, 0)) (upK BK585.out) hb); replace HB := Aside0.mk (below_step (upB HB.out) hb); (try clear hb; try clear hb2; try clear hk; try clear hi)) | ((with_reducible refine gate_callee (f := 14) rfl ?_); refine goesL_ (some 15) rfl rfl Try.func14 (by kernel_rfl) rfl #[] rfl upL ?_; (with_reducible refine (waveletlaw02_exampleHolds.calls k  t587 _ A76.out).mono ?_); rintro e w80 ⟨rfl, hb⟩; refine ⟨_, rfl, ?_⟩; replace BK585 := Aside0.mk (blk_below (g := gb585) (o := .cells #[.int .i64 a0_0, .int .i64 a0_1, .int .i64 a0_2, .int .i64 a0_3, .slice A0_4 l0_4.length c0_4] 26 (0, 0)) (upK BK585.out) hb); replace HB := Aside0.mk (below_step (upB HB.out) hb); (try clear hb; try clear hb2; try clear hk; try clear hi)))
  go_ret
  exact ⟨by first | rfl | (simp [errW_none, errW_some] <;> rfl) | (simp [*, errW_none, errW_some] <;> rfl), by repeat (first | (with_reducible first | exact HB.out | apply below_alloc | apply pw_below_drewN | apply below_drew1 | refine below_set ?_ GE585.out) | exact HB.out)⟩

end Go.Proofs.Ythemchggmlpdhaa.Q
