-- By a program of this session (wip/tools/mk.py), out of the kit's print of the translation; Lean checks it.
import Derived.Test.YthemchggmlpdhaaUp2
import Derived.Test.YthemchggmlpdhaaUp
import Derived.Test.YthemchggmlpdhaaQ0
import Derived.Test.YthemchggmlpdhaaQ7
import Derived.Test.YthemchggmlpdhaaQ9
import Derived.Test.YthemchggmlpdhaaQ12
import Derived.Test.YthemchggmlpdhaaQ13
import Derived.Test.YthemchggmlpdhaaQ14
import Derived.Test.YthemchggmlpdhaaQ25
import Derived.Test.YthemchggmlpdhaaQ28
import Derived.Test.YthemchggmlpdhaaQ29
import Derived.Test.YthemchggmlpdhaaQ32
import Derived.Test.YthemchggmlpdhaaQ33
import Derived.Test.YthemchggmlpdhaaQ34
namespace Go.Proofs.Ythemchggmlpdhaa.Q
open Go.RowKit Go.Proofs.YthemchggmlpdhaaW.PrintWords Go.Proofs.YthemchggmlpdhaaW.PrintLast Go.Proofs.YthemchggmlpdhaaW.PrintMore
attribute [local go_sem] max2_int min2_int max_two min_two max_three min_three max_four min_four   -- for this text's walks alone
set_option linter.unusedVariables false
set_option linter.unusedSimpArgs false

/-! ### waveletlaw02_PlaneReads: function 4 -/
mutual
def waveletlaw02_PlaneReads.j0 : Nat → Int → Int → Bool → Int → Int → Int → Int → List Int → Option (Bool)
 | 0, _, _, _, _, _, _, _, _ => none
 | k + 1, x1, x2, x51, x420000, x420001, x420002, x420003, x420004 => if x51 = true then (some false) else ((plane_Row.f k x420000 x420001 x420002 x420003 x420004 x2).bind fun bt428 => ((waveletref02_Row.f k x420000 x420001 x420002 x420003 x420004 x2).bind fun bt432 => (if (bt428.2 != bt432.2) = true then (waveletlaw02_PlaneReads.j1 k x1 true x420000 x420001 x420002 x420003 x420004) else ((waveletref02_SameInts.f k bt428.1 bt432.1).bind fun t436 => (waveletlaw02_PlaneReads.j1 k x1 (!t436) x420000 x420001 x420002 x420003 x420004)))))
def waveletlaw02_PlaneReads.j1 : Nat → Int → Bool → Int → Int → Int → Int → List Int → Option (Bool)
 | 0, _, _, _, _, _, _, _ => none
 | k + 1, x1, x72, x420000, x420001, x420002, x420003, x420004 => if x72 = true then (some false) else ((plane_Column.f k x420000 x420001 x420002 x420003 x420004 x1).bind fun bt437 => ((waveletref02_Column.f k x420000 x420001 x420002 x420003 x420004 x1).bind fun bt441 => (if (bt437.2 == bt441.2) = true then ((waveletref02_SameInts.f k bt437.1 bt441.1).bind fun t445 => (if t445 = true then ((waveletlaw02_exampleHolds.f k).bind fun t446 => (some t446)) else (some false))) else (some false))))
end
def waveletlaw02_PlaneReads.f (k : Nat) (a0_0 : Int) (a0_1 : Int) (a0_2 : Int) (a0_3 : Int) (l0_4 : List Int) (a1 : Int) (a2 : Int) : Option (Bool) := (waveletref02_Few.f a0_0 a0_1 a0_2 a0_3 l0_4).bind fun t420 => (if t420 = true then ((plane_At.f a0_0 a0_1 a0_2 a0_3 l0_4 a1 a2).bind fun bt422 => ((waveletref02_At.f a0_0 a0_1 a0_2 a0_3 l0_4 a1 a2).bind fun bt424 => ((plane_Valid.f a0_0 a0_1 a0_2 a0_3 l0_4).bind fun t426 => ((waveletref02_Valid.f a0_0 a0_1 a0_2 a0_3 l0_4).bind fun t427 => (if (t426 != t427) = true then (waveletlaw02_PlaneReads.j0 k a1 a2 true a0_0 a0_1 a0_2 a0_3 l0_4) else (if bt422.1 = bt424.1 then (waveletlaw02_PlaneReads.j0 k a1 a2 (bt422.2 != bt424.2) a0_0 a0_1 a0_2 a0_3 l0_4) else (waveletlaw02_PlaneReads.j0 k a1 a2 true a0_0 a0_1 a0_2 a0_3 l0_4))))))) else ((waveletlaw02_exampleHolds.f k).bind fun t421 => (some t421)))
theorem waveletlaw02_PlaneReads.mono_l : ∀ k, (∀ y0 y1 y2 y3 y4 y5 y6 y7, LeO (waveletlaw02_PlaneReads.j0 k y0 y1 y2 y3 y4 y5 y6 y7) (waveletlaw02_PlaneReads.j0 (k + 1) y0 y1 y2 y3 y4 y5 y6 y7)) ∧ (∀ y0 y1 y2 y3 y4 y5 y6, LeO (waveletlaw02_PlaneReads.j1 k y0 y1 y2 y3 y4 y5 y6) (waveletlaw02_PlaneReads.j1 (k + 1) y0 y1 y2 y3 y4 y5 y6))
 | 0 => ⟨fun _ _ _ _ _ _ _ _ r h => by simp [waveletlaw02_PlaneReads.j0] at h, fun _ _ _ _ _ _ _ r h => by simp [waveletlaw02_PlaneReads.j1] at h⟩
 | k + 1 => by
  obtain ⟨ih0, ih1⟩ := waveletlaw02_PlaneReads.mono_l k
  refine ⟨?_, ?_⟩
  ·intro y0 y1 y2 y3 y4 y5 y6 y7
   unfold waveletlaw02_PlaneReads.j0
   repeat' first
   | (with_reducible exact ih0 _ _ _ _ _ _ _ _)
   | (with_reducible exact ih1 _ _ _ _ _ _ _)
   | (with_reducible exact plane_Column.mono _ _ _ _ _ _ _)
   | (with_reducible exact plane_Row.mono _ _ _ _ _ _ _)
   | (with_reducible exact waveletlaw02_exampleHolds.mono _)
   | (with_reducible exact waveletref02_Column.mono _ _ _ _ _ _ _)
   | (with_reducible exact waveletref02_Row.mono _ _ _ _ _ _ _)
   | (with_reducible exact waveletref02_SameInts.mono _ _ _)
   | (with_reducible exact LeO.refl _)
   | (with_reducible exact LeO.none _)
   | (with_reducible refine LeO.ite ?_ ?_)
   | (with_reducible refine LeO.bind ?_ (fun _ => ?_))
   | exact ih0 _ _ _ _ _ _ _ _
   | exact ih1 _ _ _ _ _ _ _
   | exact plane_Column.mono _ _ _ _ _ _ _
   | exact plane_Row.mono _ _ _ _ _ _ _
   | exact waveletlaw02_exampleHolds.mono _
   | exact waveletref02_Column.mono _ _ _ _ _ _ _
   | exact waveletref02_Row.mono _ _ _ _ _ _ _
   | exact waveletref02_SameInts.mono _ _ _
   | exact LeO.none _
   | refine LeO.ite ?_ ?_
   | refine LeO.bind ?_ (fun _ => ?_)
  ·intro y0 y1 y2 y3 y4 y5 y6
   unfold waveletlaw02_PlaneReads.j1
   repeat' first
   | (with_reducible exact ih0 _ _ _ _ _ _ _ _)
   | (with_reducible exact ih1 _ _ _ _ _ _ _)
   | (with_reducible exact plane_Column.mono _ _ _ _ _ _ _)
   | (with_reducible exact plane_Row.mono _ _ _ _ _ _ _)
   | (with_reducible exact waveletlaw02_exampleHolds.mono _)
   | (with_reducible exact waveletref02_Column.mono _ _ _ _ _ _ _)
   | (with_reducible exact waveletref02_Row.mono _ _ _ _ _ _ _)
   | (with_reducible exact waveletref02_SameInts.mono _ _ _)
   | (with_reducible exact LeO.refl _)
   | (with_reducible exact LeO.none _)
   | (with_reducible refine LeO.ite ?_ ?_)
   | (with_reducible refine LeO.bind ?_ (fun _ => ?_))
   | exact ih0 _ _ _ _ _ _ _ _
   | exact ih1 _ _ _ _ _ _ _
   | exact plane_Column.mono _ _ _ _ _ _ _
   | exact plane_Row.mono _ _ _ _ _ _ _
   | exact waveletlaw02_exampleHolds.mono _
   | exact waveletref02_Column.mono _ _ _ _ _ _ _
   | exact waveletref02_Row.mono _ _ _ _ _ _ _
   | exact waveletref02_SameInts.mono _ _ _
   | exact LeO.none _
   | refine LeO.ite ?_ ?_
   | refine LeO.bind ?_ (fun _ => ?_)
theorem waveletlaw02_PlaneReads.mono : ∀ a0 a1 a2 a3 a4 a5 a6 k, LeO (waveletlaw02_PlaneReads.f k a0 a1 a2 a3 a4 a5 a6) (waveletlaw02_PlaneReads.f (k + 1) a0 a1 a2 a3 a4 a5 a6) := by
 intro a0 a1 a2 a3 a4 a5 a6 k
 obtain ⟨ih0, ih1⟩ := waveletlaw02_PlaneReads.mono_l k
 unfold waveletlaw02_PlaneReads.f
 repeat' first
   | (with_reducible exact ih0 _ _ _ _ _ _ _ _)
   | (with_reducible exact ih1 _ _ _ _ _ _ _)
   | (with_reducible exact plane_Column.mono _ _ _ _ _ _ _)
   | (with_reducible exact plane_Row.mono _ _ _ _ _ _ _)
   | (with_reducible exact waveletlaw02_exampleHolds.mono _)
   | (with_reducible exact waveletref02_Column.mono _ _ _ _ _ _ _)
   | (with_reducible exact waveletref02_Row.mono _ _ _ _ _ _ _)
   | (with_reducible exact waveletref02_SameInts.mono _ _ _)
   | (with_reducible exact LeO.refl _)
   | (with_reducible exact LeO.none _)
   | (with_reducible refine LeO.ite ?_ ?_)
   | (with_reducible refine LeO.bind ?_ (fun _ => ?_))
   | exact ih0 _ _ _ _ _ _ _ _
   | exact ih1 _ _ _ _ _ _ _
   | exact plane_Column.mono _ _ _ _ _ _ _
   | exact plane_Row.mono _ _ _ _ _ _ _
   | exact waveletlaw02_exampleHolds.mono _
   | exact waveletref02_Column.mono _ _ _ _ _ _ _
   | exact waveletref02_Row.mono _ _ _ _ _ _ _
   | exact waveletref02_SameInts.mono _ _ _
   | exact LeO.none _
   | refine LeO.ite ?_ ?_
   | refine LeO.bind ?_ (fun _ => ?_)
def waveletlaw02_PlaneReads.T5 : Bool × List (List Nat × List Nat) := (true, [([], []), ([0], [0]), ([], []), ([2, 1], [2]), ([1, 3], [1, 3]), ([4, 3], [4]), ([5], [5]), ([5], [5]), ([6, 7, 5], [5, 6, 7]), ([5, 8], [5, 8]), ([9, 5], [9]), ([10], [10]), ([10], [10]), ([11, 12, 10], [10, 11, 12]), ([10, 13], [10, 13])])
def waveletlaw02_PlaneReads.B5 : List Nat := [0, 1, 0, 7, 15, 31, 63, 63, 255, 511, 1023, 2047, 2047, 8191, 16383]
theorem waveletlaw02_PlaneReads.tab5 : rtab .any (opsOf Try.f4 5) = waveletlaw02_PlaneReads.T5 := by kernel_rfl
theorem waveletlaw02_PlaneReads.bits5 : waitsOk waveletlaw02_PlaneReads.T5.2 waveletlaw02_PlaneReads.B5 = true := by kernel_rfl
set_option maxHeartbeats 8000000 in
set_option maxRecDepth 100000 in
theorem waveletlaw02_PlaneReads.calls (k : Nat) (a0_0 : Int) (a0_1 : Int) (a0_2 : Int) (a0_3 : Int) (A0_4 : Option Addr) (c0_4 : Nat) (l0_4 : List Int) (a1 : Int) (a2 : Int) (r : Bool) (hr_ : r = true) (w : World) (hr0_4 : Kd.C (Kd.int .i64) w A0_4 l0_4.length l0_4) (hc0_4 : l0_4.length ≤ c0_4) (h : waveletlaw02_PlaneReads.f k a0_0 a0_1 a0_2 a0_3 l0_4 a1 a2 = some r) :
  Calls Try.prog 4 #[.agg #[.int .i64 a0_0, .int .i64 a0_1, .int .i64 a0_2, .int .i64 a0_3, .slice A0_4 l0_4.length c0_4], .int .i64 a1, .int .i64 a2] w fun e w' => e = .returned (.bool r) ∧ Below w.heap.size w w' := by
 have hu26 := Try.underlying26
 have HR0_4 := Aside0.mk hr0_4
 have HC0_4 := Aside0.mk hc0_4
 clear hr0_4 hc0_4
 have HB := Aside0.mk (Below.refl w.heap.size w)
 have H : ((waveletref02_Few.f a0_0 a0_1 a0_2 a0_3 l0_4).bind fun t420 => (if t420 = true then ((plane_At.f a0_0 a0_1 a0_2 a0_3 l0_4 a1 a2).bind fun bt422 => ((waveletref02_At.f a0_0 a0_1 a0_2 a0_3 l0_4 a1 a2).bind fun bt424 => ((plane_Valid.f a0_0 a0_1 a0_2 a0_3 l0_4).bind fun t426 => ((waveletref02_Valid.f a0_0 a0_1 a0_2 a0_3 l0_4).bind fun t427 => (if (t426 != t427) = true then (waveletlaw02_PlaneReads.j0 k a1 a2 true a0_0 a0_1 a0_2 a0_3 l0_4) else (if bt422.1 = bt424.1 then (waveletlaw02_PlaneReads.j0 k a1 a2 (bt422.2 != bt424.2) a0_0 a0_1 a0_2 a0_3 l0_4) else (waveletlaw02_PlaneReads.j0 k a1 a2 true a0_0 a0_1 a0_2 a0_3 l0_4))))))) else ((waveletlaw02_exampleHolds.f k).bind fun t421 => (some t421)))) = some r := h
 clear h
 replace H := Option.bind_eq_some_iff.mp H
 obtain ⟨t420, A40, H⟩ := H
 replace H : (if t420 = true then ((plane_At.f a0_0 a0_1 a0_2 a0_3 l0_4 a1 a2).bind fun bt422 => ((waveletref02_At.f a0_0 a0_1 a0_2 a0_3 l0_4 a1 a2).bind fun bt424 => ((plane_Valid.f a0_0 a0_1 a0_2 a0_3 l0_4).bind fun t426 => ((waveletref02_Valid.f a0_0 a0_1 a0_2 a0_3 l0_4).bind fun t427 => (if (t426 != t427) = true then (waveletlaw02_PlaneReads.j0 k a1 a2 true a0_0 a0_1 a0_2 a0_3 l0_4) else (if bt422.1 = bt424.1 then (waveletlaw02_PlaneReads.j0 k a1 a2 (bt422.2 != bt424.2) a0_0 a0_1 a0_2 a0_3 l0_4) else (waveletlaw02_PlaneReads.j0 k a1 a2 true a0_0 a0_1 a0_2 a0_3 l0_4))))))) else ((waveletlaw02_exampleHolds.f k).bind fun t421 => (some t421))) = some r := H
 have A4 := Aside0.mk A40
 clear A40
 by_cases c5 : t420 = true
 ·subst c5
  rw [if_pos rfl] at H
  replace H := Option.bind_eq_some_iff.mp H
  obtain ⟨⟨t422, t423⟩, A60, H⟩ := H
  replace H : ((waveletref02_At.f a0_0 a0_1 a0_2 a0_3 l0_4 a1 a2).bind fun bt424 => ((plane_Valid.f a0_0 a0_1 a0_2 a0_3 l0_4).bind fun t426 => ((waveletref02_Valid.f a0_0 a0_1 a0_2 a0_3 l0_4).bind fun t427 => (if (t426 != t427) = true then (waveletlaw02_PlaneReads.j0 k a1 a2 true a0_0 a0_1 a0_2 a0_3 l0_4) else (if t422 = bt424.1 then (waveletlaw02_PlaneReads.j0 k a1 a2 (t423 != bt424.2) a0_0 a0_1 a0_2 a0_3 l0_4) else (waveletlaw02_PlaneReads.j0 k a1 a2 true a0_0 a0_1 a0_2 a0_3 l0_4)))))) = some r := H
  have A6 := Aside0.mk A60
  clear A60
  replace H := Option.bind_eq_some_iff.mp H
  obtain ⟨⟨t424, t425⟩, A70, H⟩ := H
  replace H : ((plane_Valid.f a0_0 a0_1 a0_2 a0_3 l0_4).bind fun t426 => ((waveletref02_Valid.f a0_0 a0_1 a0_2 a0_3 l0_4).bind fun t427 => (if (t426 != t427) = true then (waveletlaw02_PlaneReads.j0 k a1 a2 true a0_0 a0_1 a0_2 a0_3 l0_4) else (if t422 = t424 then (waveletlaw02_PlaneReads.j0 k a1 a2 (t423 != t425) a0_0 a0_1 a0_2 a0_3 l0_4) else (waveletlaw02_PlaneReads.j0 k a1 a2 true a0_0 a0_1 a0_2 a0_3 l0_4))))) = some r := H
  have A7 := Aside0.mk A70
  clear A70
  have HC8 := Aside0.mk H
  clear H
  go_enter Try.func4, Try.ntmps4
  go_upto_region 5 with (first | ((with_reducible refine gate_dst (N := 3) rfl ?_); refine box_event ?hg (N := 3) ?hd (cs := #[.int .i64 a0_0, .int .i64 a0_1, .int .i64 a0_2, .int .i64 a0_3, .slice A0_4 l0_4.length c0_4]) (t := 26) ?hr ?_; (case hd => rfl); (case hg => rfl); (case hr => first | (go_simp; done) | (go_simp; rfl)); intro gb419 hg w9 hbox hb; have BK419 := Aside0.mk (hbox); have GW419 := Aside0.mk ((by rw [hg]; exact (below_size (upB HB.out)) : w.heap.size ≤ gb419)); have GE419 := Aside0.mk ((by rw [hg]; exact (below_size (upB HB.out)) : w.heap.size ≤ gb419)); replace HB := Aside0.mk (below_step (upB HB.out) hb); clear hb hbox hg; have hcz10_0 : w9.cell? ⟨gb419, 0, none⟩ = some (.int .i64 a0_0) := bc BK419 0; have hcz10_1 : w9.cell? ⟨gb419, 1, none⟩ = some (.int .i64 a0_1) := bc BK419 1; have hcz10_2 : w9.cell? ⟨gb419, 2, none⟩ = some (.int .i64 a0_2) := bc BK419 2; have hcz10_3 : w9.cell? ⟨gb419, 3, none⟩ = some (.int .i64 a0_3) := bc BK419 3; have hcz10_4 : w9.cell? ⟨gb419, 4, none⟩ = some (.slice A0_4 l0_4.length c0_4) := bc BK419 4; have hfz10_0 := blk_frozen BK419.out 0; have hfz10_1 := blk_frozen BK419.out 1; have hfz10_2 := blk_frozen BK419.out 2; have hfz10_3 := blk_frozen BK419.out 3; have hfz10_4 := blk_frozen BK419.out 4) | ((with_reducible refine gate_callee (f := 17) rfl ?_); refine goesL_ (some 20) rfl rfl Try.func17 (by kernel_rfl) rfl #[.agg #[.int .i64 a0_0, .int .i64 a0_1, .int .i64 a0_2, .int .i64 a0_3, .slice A0_4 l0_4.length c0_4]] rfl upL ?_; (with_reducible refine (waveletref02_Few.calls a0_0 a0_1 a0_2 a0_3 _ _ l0_4 true _ ?side1 ?side2 A4.out).mono ?_); (case side1 => repeat (first | exact (Kd.C_below HR0_4.out HB.out) | (with_reducible refine Kd.C_alloc ?_ _) | (with_reducible refine Kd.C_drewN ?_ _) | (with_reducible refine Kd.C_drew ?_))); (case side2 => exact HC0_4.out); rintro e w11 ⟨rfl, hb⟩; refine ⟨_, rfl, ?_⟩; replace BK419 := Aside0.mk (blk_below (g := gb419) (o := .cells #[.int .i64 a0_0, .int .i64 a0_1, .int .i64 a0_2, .int .i64 a0_3, .slice A0_4 l0_4.length c0_4] 26 (0, 0)) (upK BK419.out) hb); replace HB := Aside0.mk (below_step (upB HB.out) hb); (try clear hb; try clear hb2; try clear hk; try clear hi); have hcz12_0 : w11.cell? ⟨gb419, 0, none⟩ = some (.int .i64 a0_0) := bc BK419 0; have hcz12_1 : w11.cell? ⟨gb419, 1, none⟩ = some (.int .i64 a0_1) := bc BK419 1; have hcz12_2 : w11.cell? ⟨gb419, 2, none⟩ = some (.int .i64 a0_2) := bc BK419 2; have hcz12_3 : w11.cell? ⟨gb419, 3, none⟩ = some (.int .i64 a0_3) := bc BK419 3; have hcz12_4 : w11.cell? ⟨gb419, 4, none⟩ = some (.slice A0_4 l0_4.length c0_4) := bc BK419 4; have hfz12_0 := blk_frozen BK419.out 0; have hfz12_1 := blk_frozen BK419.out 1; have hfz12_2 := blk_frozen BK419.out 2; have hfz12_3 := blk_frozen BK419.out 3; have hfz12_4 := blk_frozen BK419.out 4) | ((with_reducible refine gate_callee (f := 18) rfl ?_); refine goesL_ (some 27) rfl rfl Try.func18 (by kernel_rfl) rfl #[.agg #[.int .i64 a0_0, .int .i64 a0_1, .int .i64 a0_2, .int .i64 a0_3, .slice A0_4 l0_4.length c0_4], .int .i64 a1, .int .i64 a2] rfl upL ?_; (with_reducible refine (plane_At.calls a0_0 a0_1 a0_2 a0_3 _ _ l0_4 a1 a2 t422 t423 _ ?side1 ?side2 A6.out).mono ?_); (case side1 => repeat (first | exact (Kd.C_below HR0_4.out HB.out) | (with_reducible refine Kd.C_alloc ?_ _) | (with_reducible refine Kd.C_drewN ?_ _) | (with_reducible refine Kd.C_drew ?_))); (case side2 => exact HC0_4.out); rintro e w13 ⟨rfl, hb⟩; refine ⟨_, rfl, ?_⟩; replace BK419 := Aside0.mk (blk_below (g := gb419) (o := .cells #[.int .i64 a0_0, .int .i64 a0_1, .int .i64 a0_2, .int .i64 a0_3, .slice A0_4 l0_4.length c0_4] 26 (0, 0)) (upK BK419.out) hb); replace HB := Aside0.mk (below_step (upB HB.out) hb); (try clear hb; try clear hb2; try clear hk; try clear hi); have hcz14_0 : w13.cell? ⟨gb419, 0, none⟩ = some (.int .i64 a0_0) := bc BK419 0; have hcz14_1 : w13.cell? ⟨gb419, 1, none⟩ = some (.int .i64 a0_1) := bc BK419 1; have hcz14_2 : w13.cell? ⟨gb419, 2, none⟩ = some (.int .i64 a0_2) := bc BK419 2; have hcz14_3 : w13.cell? ⟨gb419, 3, none⟩ = some (.int .i64 a0_3) := bc BK419 3; have hcz14_4 : w13.cell? ⟨gb419, 4, none⟩ = some (.slice A0_4 l0_4.length c0_4) := bc BK419 4; have hfz14_0 := blk_frozen BK419.out 0; have hfz14_1 := blk_frozen BK419.out 1; have hfz14_2 := blk_frozen BK419.out 2; have hfz14_3 := blk_frozen BK419.out 3; have hfz14_4 := blk_frozen BK419.out 4) | ((with_reducible refine gate_callee (f := 19) rfl ?_); refine goesL_ (some 34) rfl rfl Try.func19 (by kernel_rfl) rfl #[.agg #[.int .i64 a0_0, .int .i64 a0_1, .int .i64 a0_2, .int .i64 a0_3, .slice A0_4 l0_4.length c0_4], .int .i64 a1, .int .i64 a2] rfl upL ?_; (with_reducible refine (waveletref02_At.calls a0_0 a0_1 a0_2 a0_3 _ _ l0_4 a1 a2 t424 t425 _ ?side1 ?side2 A7.out).mono ?_); (case side1 => repeat (first | exact (Kd.C_below HR0_4.out HB.out) | (with_reducible refine Kd.C_alloc ?_ _) | (with_reducible refine Kd.C_drewN ?_ _) | (with_reducible refine Kd.C_drew ?_))); (case side2 => exact HC0_4.out); rintro e w15 ⟨rfl, hb⟩; refine ⟨_, rfl, ?_⟩; replace BK419 := Aside0.mk (blk_below (g := gb419) (o := .cells #[.int .i64 a0_0, .int .i64 a0_1, .int .i64 a0_2, .int .i64 a0_3, .slice A0_4 l0_4.length c0_4] 26 (0, 0)) (upK BK419.out) hb); replace HB := Aside0.mk (below_step (upB HB.out) hb); (try clear hb; try clear hb2; try clear hk; try clear hi)))
  (try simp only [Act.put, List.setIfInBounds_toArray, List.set_cons_zero, List.set_cons_succ])
  go_cut [51] (fun v51 wc => ∃ (kq : Nat) (x51_7 : Bool), v51 = .bool x51_7 ∧ Aside0 (waveletlaw02_PlaneReads.j0 kq a1 a2 x51_7 a0_0 a0_1 a0_2 a0_3 l0_4 = some r) ∧ Aside0 (kq ≤ k) ∧ Aside0 (wc.heap[gb419]? = some (.cells #[.int .i64 a0_0, .int .i64 a0_1, .int .i64 a0_2, .int .i64 a0_3, (.slice A0_4 l0_4.length c0_4)] 26 (0, 0))) ∧ Aside0 (Below w.heap.size w wc))
  case first =>
   have H := HC8.out
   clear HC8
   replace H := Option.bind_eq_some_iff.mp H
   obtain ⟨t426, A160, H⟩ := H
   replace H : ((waveletref02_Valid.f a0_0 a0_1 a0_2 a0_3 l0_4).bind fun t427 => (if (t426 != t427) = true then (waveletlaw02_PlaneReads.j0 k a1 a2 true a0_0 a0_1 a0_2 a0_3 l0_4) else (if t422 = t424 then (waveletlaw02_PlaneReads.j0 k a1 a2 (t423 != t425) a0_0 a0_1 a0_2 a0_3 l0_4) else (waveletlaw02_PlaneReads.j0 k a1 a2 true a0_0 a0_1 a0_2 a0_3 l0_4)))) = some r := H
   have A16 := Aside0.mk A160
   clear A160
   replace H := Option.bind_eq_some_iff.mp H
   obtain ⟨t427, A170, H⟩ := H
   replace H : (if (t426 != t427) = true then (waveletlaw02_PlaneReads.j0 k a1 a2 true a0_0 a0_1 a0_2 a0_3 l0_4) else (if t422 = t424 then (waveletlaw02_PlaneReads.j0 k a1 a2 (t423 != t425) a0_0 a0_1 a0_2 a0_3 l0_4) else (waveletlaw02_PlaneReads.j0 k a1 a2 true a0_0 a0_1 a0_2 a0_3 l0_4))) = some r := H
   have A17 := Aside0.mk A170
   clear A170
   by_cases c18 : (t426 != t427) = true
   ·rw [if_pos c18] at H
    exact absurd H (by rw [hr_]; cases k <;> simp [waveletlaw02_PlaneReads.j0])
   ·rw [if_neg c18] at H
    have c18b0 : (t426 != t427) = false := by simpa using c18
    (try (have c18b1 : decide (t426 = t427) = true := by simpa using c18))
    (try (have c18b2 : (t426 == t427) = true := by simpa using c18))
    clear c18
    (first | rw [c18b0] | (simp only [i64_w, i32_w]; rw [c18b0]) | skip)
    by_cases c22 : t422 = t424
    ·rw [if_pos c22] at H
     have c22b0 : (t422 == t424) = true := beq_iff_eq.mpr c22
     have c22b1 : (t422 != t424) = false := bne_eq_false_iff_eq.mpr c22
     clear c22
     have H' := Aside0.mk H
     clear H
     try go_wp2
     replace BK419 := Aside0.mk (blk_drew BK419.out)
     replace HB := Aside0.mk (below_drew1 HB.out)
     refine start_ (n := 15) (S := fun w' => ce w' gb419 0 (.int .i64 a0_0) ∧ ce w' gb419 1 (.int .i64 a0_1) ∧ ce w' gb419 2 (.int .i64 a0_2) ∧ ce w' gb419 3 (.int .i64 a0_3) ∧ ce w' gb419 4 (.slice A0_4 l0_4.length c0_4)) (ds := []) #[false, false, false, false, false, false, false, false, false, false, false, false, false, false, false] (by kernel_rfl) rfl rfl ⟨bc BK419 0, bc BK419 1, bc BK419 2, bc BK419 3, bc BK419 4⟩ (fun hHeld => ?_); refine with_tabW waveletlaw02_PlaneReads.tab5 waveletlaw02_PlaneReads.bits5 (fun HT_ HW_ => ?_)
     generalize w15.drew = w23 at BK419 HB hHeld ⊢
     refine taX 0 37 (MK [1, 14]) HT_.out HW_.out hHeld ?_
     refine taX 2 39 (MK [1, 1, 1, 12]) HT_.out HW_.out hHeld ?_
     refine onX 1 38 (MK [3, 12]) HT_.out (fun K hK => ?_)
     refine goes_ Try.func20 (by kernel_rfl) rfl #[.agg #[.int .i64 a0_0, .int .i64 a0_1, .int .i64 a0_2, .int .i64 a0_3, .slice A0_4 l0_4.length c0_4]] (by rfl) rfl rfl upL ?_
     with_reducible refine (plane_Valid.calls a0_0 a0_1 a0_2 a0_3 _ _ l0_4 t426 _ ?side1 ?side2 A16.out).mono ?_
     (case side1 => repeat (first | exact (Kd.C_below HR0_4.out HB.out) | (with_reducible refine Kd.C_alloc ?_ _) | (with_reducible refine Kd.C_drewN ?_ _) | (with_reducible refine Kd.C_drew ?_)))
     (case side2 => exact HC0_4.out)
     rintro e w24 ⟨rfl, hb⟩
     refine ⟨_, rfl, ?_⟩
     replace BK419 := Aside0.mk (blk_below (g := gb419) (o := .cells #[.int .i64 a0_0, .int .i64 a0_1, .int .i64 a0_2, .int .i64 a0_3, .slice A0_4 l0_4.length c0_4] 26 (0, 0)) (upK BK419.out) hb)
     replace HB := Aside0.mk (below_step (upB HB.out) hb)
     (try clear hb); (try clear hb2); (try clear hk); (try clear hi)
     refine hK.out _ _ ⟨bc BK419 0, bc BK419 1, bc BK419 2, bc BK419 3, bc BK419 4⟩ (fun hHeld => ?_)
     clear hK K
     refine noX ?_
     refine onX 3 40 (MK [4, 11]) HT_.out (fun K hK => ?_)
     refine goes_ Try.func21 (by kernel_rfl) rfl #[.agg #[.int .i64 a0_0, .int .i64 a0_1, .int .i64 a0_2, .int .i64 a0_3, .slice A0_4 l0_4.length c0_4]] (by rfl) rfl rfl upL ?_
     with_reducible refine (waveletref02_Valid.calls a0_0 a0_1 a0_2 a0_3 _ _ l0_4 t427 _ ?side1 ?side2 A17.out).mono ?_
     (case side1 => repeat (first | exact (Kd.C_below HR0_4.out HB.out) | (with_reducible refine Kd.C_alloc ?_ _) | (with_reducible refine Kd.C_drewN ?_ _) | (with_reducible refine Kd.C_drew ?_)))
     (case side2 => exact HC0_4.out)
     rintro e w25 ⟨rfl, hb⟩
     refine ⟨_, rfl, ?_⟩
     replace BK419 := Aside0.mk (blk_below (g := gb419) (o := .cells #[.int .i64 a0_0, .int .i64 a0_1, .int .i64 a0_2, .int .i64 a0_3, .slice A0_4 l0_4.length c0_4] 26 (0, 0)) (upK BK419.out) hb)
     replace HB := Aside0.mk (below_step (upB HB.out) hb)
     (try clear hb); (try clear hb2); (try clear hk); (try clear hi)
     refine hK.out _ _ ⟨bc BK419 0, bc BK419 1, bc BK419 2, bc BK419 3, bc BK419 4⟩ (fun hHeld => ?_)
     clear hK K
     refine noX ?_
     refine puX 4 41 (MK [5, 10]) HT_.out ?_
     refine puX 5 42 (MK [6, 9]) HT_.out ?_
     refine puX 6 43 (MK [7, 8]) HT_.out ?_
     refine puX 7 44 (MK [8, 7]) HT_.out ?_
     refine puX 8 45 (MK [9, 6]) HT_.out ?_
     refine puX 9 46 (MK [10, 5]) HT_.out ?_
     refine puX 10 47 (MK [11, 4]) HT_.out ?_
     refine puX 11 48 (MK [12, 3]) HT_.out ?_
     refine puX 12 49 (MK [13, 2]) HT_.out ?_
     refine puX 13 50 (MK [14, 1]) HT_.out ?_
     refine puX 14 51 (MK [15]) HT_.out ?_
     refine done_ (done_of HT_.out (by kernel_rfl)) ?_
     try go_wp2
     go_meet
     case rel => exact ⟨_, ((t423 != t425)), (by first | rfl | (simp; done) | (simp [*]; done)), H', ⟨by first | omega | exact Nat.le_refl _⟩, ⟨by (with_reducible repeat (first | refine blk_drewN ?_ _ | refine blk_drew ?_ | refine blk_alloc ?_ _)); exact BK419.out⟩, ⟨by repeat (first | (with_reducible first | exact HB.out | apply below_alloc | apply pw_below_drewN | apply below_drew1 | refine below_set ?_ GE419.out) | exact HB.out)⟩⟩
    ·rw [if_neg c22] at H
     exact absurd H (by rw [hr_]; cases k <;> simp [waveletlaw02_PlaneReads.j0])
  case rest =>
   clear HC8
   try clear c1; try clear c2; try clear p2; try clear c4; try clear c5; try clear c17; try clear c18; try clear c18b0; try clear c18b1; try clear c18b2; try clear c19; try clear c20; try clear c21; try clear c22; try clear c22b0; try clear c22b1; try clear hcz10_0; try clear hcz10_1; try clear hcz10_2; try clear hcz10_3; try clear hcz10_4; try clear hcz12_0; try clear hcz12_1; try clear hcz12_2; try clear hcz12_3; try clear hcz12_4; try clear hcz14_0; try clear hcz14_1; try clear hcz14_2; try clear hcz14_3; try clear hcz14_4; try clear hfz10_0; try clear hfz10_1; try clear hfz10_2; try clear hfz10_3; try clear hfz10_4; try clear hfz12_0; try clear hfz12_1; try clear hfz12_2; try clear hfz12_3; try clear hfz12_4; try clear hfz14_0; try clear hfz14_1; try clear hfz14_2; try clear hfz14_3; try clear hfz14_4
   obtain ⟨kq, x51_7, rfl, HA, HJ7, BK419, HB⟩ := hcut
   cases kq with
   | zero => exact absurd HA.out (by simp [waveletlaw02_PlaneReads.j0])
   | succ kj7 =>
    have H := HA.out
    clear HA
    simp only [waveletlaw02_PlaneReads.j0] at H
    by_cases c29 : x51_7 = true
    ·subst c29
     have H1 : (some false) = some r := by rw [if_pos rfl] at H; exact H
     exact absurd (Option.some.inj H1) (by rw [hr_]; decide)
    ·replace c29 := Bool.eq_false_iff.mpr c29
     subst c29
     rw [if_neg (show ¬ (false = true) by decide)] at H
     replace H := Option.bind_eq_some_iff.mp H
     obtain ⟨⟨t428, t431⟩, A300, H⟩ := H
     replace H : ((waveletref02_Row.f kj7 a0_0 a0_1 a0_2 a0_3 l0_4 a2).bind fun bt432 => (if (t431 != bt432.2) = true then (waveletlaw02_PlaneReads.j1 kj7 a1 true a0_0 a0_1 a0_2 a0_3 l0_4) else ((waveletref02_SameInts.f kj7 t428 bt432.1).bind fun t436 => (waveletlaw02_PlaneReads.j1 kj7 a1 (!t436) a0_0 a0_1 a0_2 a0_3 l0_4)))) = some r := H
     have A30 := Aside0.mk A300
     clear A300
     replace H := Option.bind_eq_some_iff.mp H
     obtain ⟨⟨t432, t435⟩, A310, H⟩ := H
     replace H : (if (t431 != t435) = true then (waveletlaw02_PlaneReads.j1 kj7 a1 true a0_0 a0_1 a0_2 a0_3 l0_4) else ((waveletref02_SameInts.f kj7 t428 t432).bind fun t436 => (waveletlaw02_PlaneReads.j1 kj7 a1 (!t436) a0_0 a0_1 a0_2 a0_3 l0_4))) = some r := H
     have A31 := Aside0.mk A310
     clear A310
     have HC32 := Aside0.mk H
     clear H
     have hcz33_0 : wc.cell? ⟨gb419, 0, none⟩ = some (.int .i64 a0_0) := bc BK419 0
     have hcz33_1 : wc.cell? ⟨gb419, 1, none⟩ = some (.int .i64 a0_1) := bc BK419 1
     have hcz33_2 : wc.cell? ⟨gb419, 2, none⟩ = some (.int .i64 a0_2) := bc BK419 2
     have hcz33_3 : wc.cell? ⟨gb419, 3, none⟩ = some (.int .i64 a0_3) := bc BK419 3
     have hcz33_4 : wc.cell? ⟨gb419, 4, none⟩ = some (.slice A0_4 l0_4.length c0_4) := bc BK419 4
     have hfz33_0 := blk_frozen BK419.out 0
     have hfz33_1 := blk_frozen BK419.out 1
     have hfz33_2 := blk_frozen BK419.out 2
     have hfz33_3 := blk_frozen BK419.out 3
     have hfz33_4 := blk_frozen BK419.out 4
     go_upto_region 9 with (first | ((with_reducible refine gate_callee (f := 22) rfl ?_); refine goesL_ (some 55) rfl rfl Try.func22 (by kernel_rfl) rfl #[.agg #[.int .i64 a0_0, .int .i64 a0_1, .int .i64 a0_2, .int .i64 a0_3, .slice A0_4 l0_4.length c0_4], .int .i64 a2] rfl upL ?_; (with_reducible refine (plane_Row.calls kj7 a0_0 a0_1 a0_2 a0_3 _ _ l0_4 a2 t428 t431 _ ?side1 ?side2 A30.out).mono ?_); (case side1 => repeat (first | exact (Kd.C_below HR0_4.out HB.out) | (with_reducible refine Kd.C_alloc ?_ _) | (with_reducible refine Kd.C_drewN ?_ _) | (with_reducible refine Kd.C_drew ?_))); (case side2 => exact HC0_4.out); rintro e w34 ⟨v429, rfl, ho0, hb⟩; refine ⟨_, rfl, ?_⟩; have HO430 := Aside0.mk (Kd.R_lower ho0 (below_size (upB HB.out))); replace BK419 := Aside0.mk (blk_below (g := gb419) (o := .cells #[.int .i64 a0_0, .int .i64 a0_1, .int .i64 a0_2, .int .i64 a0_3, .slice A0_4 l0_4.length c0_4] 26 (0, 0)) (upK BK419.out) hb); replace HB := Aside0.mk (below_step (upB HB.out) hb); (try clear hb; try clear hb2; try clear hk; try clear hi; try clear ho0); have hcz35_0 : w34.cell? ⟨gb419, 0, none⟩ = some (.int .i64 a0_0) := bc BK419 0; have hcz35_1 : w34.cell? ⟨gb419, 1, none⟩ = some (.int .i64 a0_1) := bc BK419 1; have hcz35_2 : w34.cell? ⟨gb419, 2, none⟩ = some (.int .i64 a0_2) := bc BK419 2; have hcz35_3 : w34.cell? ⟨gb419, 3, none⟩ = some (.int .i64 a0_3) := bc BK419 3; have hcz35_4 : w34.cell? ⟨gb419, 4, none⟩ = some (.slice A0_4 l0_4.length c0_4) := bc BK419 4; have hfz35_0 := blk_frozen BK419.out 0; have hfz35_1 := blk_frozen BK419.out 1; have hfz35_2 := blk_frozen BK419.out 2; have hfz35_3 := blk_frozen BK419.out 3; have hfz35_4 := blk_frozen BK419.out 4) | ((with_reducible refine gate_callee (f := 23) rfl ?_); refine goesL_ (some 61) rfl rfl Try.func23 (by kernel_rfl) rfl #[.agg #[.int .i64 a0_0, .int .i64 a0_1, .int .i64 a0_2, .int .i64 a0_3, .slice A0_4 l0_4.length c0_4], .int .i64 a2] rfl upL ?_; (with_reducible refine (waveletref02_Row.calls kj7 a0_0 a0_1 a0_2 a0_3 _ _ l0_4 a2 t432 t435 _ ?side1 ?side2 A31.out).mono ?_); (case side1 => repeat (first | exact (Kd.C_below HR0_4.out HB.out) | (with_reducible refine Kd.C_alloc ?_ _) | (with_reducible refine Kd.C_drewN ?_ _) | (with_reducible refine Kd.C_drew ?_))); (case side2 => exact HC0_4.out); rintro e w36 ⟨v433, rfl, ho0, hb⟩; refine ⟨_, rfl, ?_⟩; have HO434 := Aside0.mk (Kd.R_lower (Kd.R_new' ho0 (Kd.R_lt (upR HO430.out))) (below_size (upB HB.out))); replace HO430 := Aside0.mk (Kd.R_elder' (upR HO430.out) (Kd.R_base ho0) hb); replace BK419 := Aside0.mk (blk_below (g := gb419) (o := .cells #[.int .i64 a0_0, .int .i64 a0_1, .int .i64 a0_2, .int .i64 a0_3, .slice A0_4 l0_4.length c0_4] 26 (0, 0)) (upK BK419.out) hb); replace HB := Aside0.mk (below_step (upB HB.out) hb); (try clear hb; try clear hb2; try clear hk; try clear hi; try clear ho0)))
     (try simp only [Act.put, List.setIfInBounds_toArray, List.set_cons_zero, List.set_cons_succ])
     go_cut [72] (fun v72 wc => ∃ (kq : Nat) (x72_31 : Bool), v72 = .bool x72_31 ∧ Aside0 (waveletlaw02_PlaneReads.j1 kq a1 x72_31 a0_0 a0_1 a0_2 a0_3 l0_4 = some r) ∧ Aside0 (kq ≤ kj7) ∧ Aside0 (wc.heap[gb419]? = some (.cells #[.int .i64 a0_0, .int .i64 a0_1, .int .i64 a0_2, .int .i64 a0_3, (.slice A0_4 l0_4.length c0_4)] 26 (0, 0))) ∧ Aside0 (Below w.heap.size w wc))
     case first =>
      have H := HC32.out
      clear HC32
      by_cases c37 : (t431 != t435) = true
      ·rw [if_pos c37] at H
       exact absurd H (by rw [hr_]; cases kj7 <;> simp [waveletlaw02_PlaneReads.j1])
      ·rw [if_neg c37] at H
       have c37b0 : (t431 != t435) = false := by simpa using c37
       (try (have c37b1 : decide (t431 = t435) = true := by simpa using c37))
       (try (have c37b2 : (t431 == t435) = true := by simpa using c37))
       clear c37
       (first | rw [c37b0] | (simp only [i64_w, i32_w]; rw [c37b0]) | skip)
       replace H := Option.bind_eq_some_iff.mp H
       obtain ⟨t436, A380, H⟩ := H
       replace H : (waveletlaw02_PlaneReads.j1 kj7 a1 (!t436) a0_0 a0_1 a0_2 a0_3 l0_4) = some r := H
       have A38 := Aside0.mk A380
       clear A380
       have H' := Aside0.mk H
       clear H
       obtain ⟨Ao39, co39, eo39⟩ := Kd.R_slice HO430.out
       subst eo39
       obtain ⟨Ao40, co40, eo40⟩ := Kd.R_slice HO434.out
       subst eo40
       go_wp2_with (first | (go_at_call 24; (with_reducible refine (waveletref02_SameInts.calls kj7 _ _ t428 _ _ t432 t436 _ ?side1 ?side2 ?side3 ?side4 A38.out).mono ?_); (case side1 => repeat (first | exact (Kd.R_reads' HO430.out).2.2 | (with_reducible refine Kd.C_alloc ?_ _) | (with_reducible refine Kd.C_drewN ?_ _) | (with_reducible refine Kd.C_drew ?_))); (case side2 => exact (Kd.R_reads' HO430.out).2.1); (case side3 => repeat (first | exact (Kd.R_reads' HO434.out).2.2 | (with_reducible refine Kd.C_alloc ?_ _) | (with_reducible refine Kd.C_drewN ?_ _) | (with_reducible refine Kd.C_drew ?_))); (case side4 => exact (Kd.R_reads' HO434.out).2.1); rintro e w' ⟨rfl, ⟨nd, rfl⟩⟩))
       go_meet
       case rel => exact ⟨_, (!t436), (by first | rfl | (simp; done) | (simp [*]; done)), H', ⟨by have := HJ7.out; first | omega | exact Nat.le_refl _⟩, ⟨by (with_reducible repeat (first | refine blk_drewN ?_ _ | refine blk_drew ?_ | refine blk_alloc ?_ _)); exact BK419.out⟩, ⟨by repeat (first | (with_reducible first | exact HB.out | apply below_alloc | apply pw_below_drewN | apply below_drew1 | refine below_set ?_ GE419.out) | exact HB.out)⟩⟩
     case rest =>
      clear HC32
      try clear c1; try clear c2; try clear p2; try clear c3; try clear c4; try clear c5; try clear c17; try clear c18; try clear c18b0; try clear c18b1; try clear c18b2; try clear c19; try clear c20; try clear c21; try clear c22; try clear c22b0; try clear c22b1; try clear c23; try clear c29; try clear c37; try clear c37b0; try clear c37b1; try clear c37b2; try clear hcz10_0; try clear hcz10_1; try clear hcz10_2; try clear hcz10_3; try clear hcz10_4; try clear hcz12_0; try clear hcz12_1; try clear hcz12_2; try clear hcz12_3; try clear hcz12_4; try clear hcz14_0; try clear hcz14_1; try clear hcz14_2; try clear hcz14_3; try clear hcz14_4; try clear hcz33_0; try clear hcz33_1; try clear hcz33_2; try clear hcz33_3; try clear hcz33_4; try clear hcz35_0; try clear hcz35_1; try clear hcz35_2; try clear hcz35_3; try clear hcz35_4; try clear hfz10_0; try clear hfz10_1; try clear hfz10_2; try clear hfz10_3; try clear hfz10_4; try clear hfz12_0; try clear hfz12_1; try clear hfz12_2; try clear hfz12_3; try clear hfz12_4; try clear hfz14_0; try clear hfz14_1; try clear hfz14_2; try clear hfz14_3; try clear hfz14_4; try clear hfz33_0; try clear hfz33_1; try clear hfz33_2; try clear hfz33_3; try clear hfz33_4; try clear hfz35_0; try clear hfz35_1; try clear hfz35_2; try clear hfz35_3; try clear hfz35_4; try clear p2
      obtain ⟨kq, x72_31, rfl, HA, HJ31, BK419, HB⟩ := hcut
      cases kq with
      | zero => exact absurd HA.out (by simp [waveletlaw02_PlaneReads.j1])
      | succ kj31 =>
       have H := HA.out
       clear HA
       simp only [waveletlaw02_PlaneReads.j1] at H
       by_cases c41 : x72_31 = true
       ·subst c41
        have H1 : (some false) = some r := by rw [if_pos rfl] at H; exact H
        exact absurd (Option.some.inj H1) (by rw [hr_]; decide)
       ·replace c41 := Bool.eq_false_iff.mpr c41
        subst c41
        rw [if_neg (show ¬ (false = true) by decide)] at H
        replace H := Option.bind_eq_some_iff.mp H
        obtain ⟨⟨t437, t440⟩, A420, H⟩ := H
        replace H : ((waveletref02_Column.f kj31 a0_0 a0_1 a0_2 a0_3 l0_4 a1).bind fun bt441 => (if (t440 == bt441.2) = true then ((waveletref02_SameInts.f kj31 t437 bt441.1).bind fun t445 => (if t445 = true then ((waveletlaw02_exampleHolds.f kj31).bind fun t446 => (some t446)) else (some false))) else (some false))) = some r := H
        have A42 := Aside0.mk A420
        clear A420
        replace H := Option.bind_eq_some_iff.mp H
        obtain ⟨⟨t441, t444⟩, A430, H⟩ := H
        replace H : (if (t440 == t444) = true then ((waveletref02_SameInts.f kj31 t437 t441).bind fun t445 => (if t445 = true then ((waveletlaw02_exampleHolds.f kj31).bind fun t446 => (some t446)) else (some false))) else (some false)) = some r := H
        have A43 := Aside0.mk A430
        clear A430
        by_cases c44 : (t440 == t444) = true
        ·rw [if_pos c44] at H
         have c44b0 : (t440 == t444) = true := c44
         (try (have c44b1 : decide (t440 = t444) = true := by simpa using c44))
         (try (have c44b2 : (t440 == t444) = true := by simpa using c44))
         clear c44
         replace H := Option.bind_eq_some_iff.mp H
         obtain ⟨t445, A450, H⟩ := H
         replace H : (if t445 = true then ((waveletlaw02_exampleHolds.f kj31).bind fun t446 => (some t446)) else (some false)) = some r := H
         have A45 := Aside0.mk A450
         clear A450
         by_cases c46 : t445 = true
         ·subst c46
          rw [if_pos rfl] at H
          replace H := Option.bind_eq_some_iff.mp H
          obtain ⟨t446, A470, H⟩ := H
          replace H : (some t446) = some r := H
          have A47 := Aside0.mk A470
          clear A470
          obtain rfl := Option.some.inj H
          have hcz48_0 : wc.cell? ⟨gb419, 0, none⟩ = some (.int .i64 a0_0) := bc BK419 0
          have hcz48_1 : wc.cell? ⟨gb419, 1, none⟩ = some (.int .i64 a0_1) := bc BK419 1
          have hcz48_2 : wc.cell? ⟨gb419, 2, none⟩ = some (.int .i64 a0_2) := bc BK419 2
          have hcz48_3 : wc.cell? ⟨gb419, 3, none⟩ = some (.int .i64 a0_3) := bc BK419 3
          have hcz48_4 : wc.cell? ⟨gb419, 4, none⟩ = some (.slice A0_4 l0_4.length c0_4) := bc BK419 4
          have hfz48_0 := blk_frozen BK419.out 0
          have hfz48_1 := blk_frozen BK419.out 1
          have hfz48_2 := blk_frozen BK419.out 2
          have hfz48_3 := blk_frozen BK419.out 3
          have hfz48_4 := blk_frozen BK419.out 4
          go_wp2_with (first | ((with_reducible refine gate_callee (f := 25) rfl ?_); refine goesL_ (some 76) rfl rfl Try.func25 (by kernel_rfl) rfl #[.agg #[.int .i64 a0_0, .int .i64 a0_1, .int .i64 a0_2, .int .i64 a0_3, .slice A0_4 l0_4.length c0_4], .int .i64 a1] rfl upL ?_; (with_reducible refine (plane_Column.calls kj31 a0_0 a0_1 a0_2 a0_3 _ _ l0_4 a1 t437 t440 _ ?side1 ?side2 A42.out).mono ?_); (case side1 => repeat (first | exact (Kd.C_below HR0_4.out HB.out) | (with_reducible refine Kd.C_alloc ?_ _) | (with_reducible refine Kd.C_drewN ?_ _) | (with_reducible refine Kd.C_drew ?_))); (case side2 => exact HC0_4.out); rintro e w49 ⟨v438, rfl, ho0, hb⟩; refine ⟨_, rfl, ?_⟩; have HO439 := Aside0.mk (Kd.R_lower ho0 (below_size (upB HB.out))); replace BK419 := Aside0.mk (blk_below (g := gb419) (o := .cells #[.int .i64 a0_0, .int .i64 a0_1, .int .i64 a0_2, .int .i64 a0_3, .slice A0_4 l0_4.length c0_4] 26 (0, 0)) (upK BK419.out) hb); replace HB := Aside0.mk (below_step (upB HB.out) hb); (try clear hb; try clear hb2; try clear hk; try clear hi; try clear ho0); have hcz50_0 : w49.cell? ⟨gb419, 0, none⟩ = some (.int .i64 a0_0) := bc BK419 0; have hcz50_1 : w49.cell? ⟨gb419, 1, none⟩ = some (.int .i64 a0_1) := bc BK419 1; have hcz50_2 : w49.cell? ⟨gb419, 2, none⟩ = some (.int .i64 a0_2) := bc BK419 2; have hcz50_3 : w49.cell? ⟨gb419, 3, none⟩ = some (.int .i64 a0_3) := bc BK419 3; have hcz50_4 : w49.cell? ⟨gb419, 4, none⟩ = some (.slice A0_4 l0_4.length c0_4) := bc BK419 4; have hfz50_0 := blk_frozen BK419.out 0; have hfz50_1 := blk_frozen BK419.out 1; have hfz50_2 := blk_frozen BK419.out 2; have hfz50_3 := blk_frozen BK419.out 3; have hfz50_4 := blk_frozen BK419.out 4) | ((with_reducible refine gate_callee (f := 26) rfl ?_); refine goesL_ (some 82) rfl rfl Try.func26 (by kernel_rfl) rfl #[.agg #[.int .i64 a0_0, .int .i64 a0_1, .int .i64 a0_2, .int .i64 a0_3, .slice A0_4 l0_4.length c0_4], .int .i64 a1] rfl upL ?_; (with_reducible refine (waveletref02_Column.calls kj31 a0_0 a0_1 a0_2 a0_3 _ _ l0_4 a1 t441 t444 _ ?side1 ?side2 A43.out).mono ?_); (case side1 => repeat (first | exact (Kd.C_below HR0_4.out HB.out) | (with_reducible refine Kd.C_alloc ?_ _) | (with_reducible refine Kd.C_drewN ?_ _) | (with_reducible refine Kd.C_drew ?_))); (case side2 => exact HC0_4.out); rintro e w51 ⟨v442, rfl, ho0, hb⟩; refine ⟨_, rfl, ?_⟩; have HO443 := Aside0.mk (Kd.R_lower (Kd.R_new' ho0 (Kd.R_lt (upR HO439.out))) (below_size (upB HB.out))); replace HO439 := Aside0.mk (Kd.R_elder' (upR HO439.out) (Kd.R_base ho0) hb); replace BK419 := Aside0.mk (blk_below (g := gb419) (o := .cells #[.int .i64 a0_0, .int .i64 a0_1, .int .i64 a0_2, .int .i64 a0_3, .slice A0_4 l0_4.length c0_4] 26 (0, 0)) (upK BK419.out) hb); replace HB := Aside0.mk (below_step (upB HB.out) hb); (try clear hb; try clear hb2; try clear hk; try clear hi; try clear ho0); obtain ⟨Ao52, co52, eo52⟩ := Kd.R_slice HO439.out; subst eo52; obtain ⟨Ao53, co53, eo53⟩ := Kd.R_slice HO443.out; subst eo53) | (go_at_call 24; (with_reducible refine (waveletref02_SameInts.calls kj31 _ _ t437 _ _ t441 true _ ?side1 ?side2 ?side3 ?side4 A45.out).mono ?_); (case side1 => repeat (first | exact (Kd.R_reads' HO439.out).2.2 | (with_reducible refine Kd.C_alloc ?_ _) | (with_reducible refine Kd.C_drewN ?_ _) | (with_reducible refine Kd.C_drew ?_))); (case side2 => exact (Kd.R_reads' HO439.out).2.1); (case side3 => repeat (first | exact (Kd.R_reads' HO443.out).2.2 | (with_reducible refine Kd.C_alloc ?_ _) | (with_reducible refine Kd.C_drewN ?_ _) | (with_reducible refine Kd.C_drew ?_))); (case side4 => exact (Kd.R_reads' HO443.out).2.1); rintro e w' ⟨rfl, ⟨nd, rfl⟩⟩) | (go_at_call 14; (with_reducible refine (waveletlaw02_exampleHolds.calls kj31  t446 _ A47.out).mono ?_); rintro e w54 ⟨rfl, hb⟩; replace HO439 := Aside0.mk (Kd.R_below (upR HO439.out) hb); replace HO443 := Aside0.mk (Kd.R_below (upR HO443.out) hb); replace BK419 := Aside0.mk (blk_below (g := gb419) (o := .cells #[.int .i64 a0_0, .int .i64 a0_1, .int .i64 a0_2, .int .i64 a0_3, .slice A0_4 l0_4.length c0_4] 26 (0, 0)) (upK BK419.out) hb); replace HB := Aside0.mk (below_step (upB HB.out) hb); (try clear hb; try clear hb2; try clear hk; try clear hi)))
          go_ret
          exact ⟨by first | rfl | (simp [errW_none, errW_some] <;> rfl) | (simp [*, errW_none, errW_some] <;> rfl), by repeat (first | (with_reducible first | exact HB.out | apply below_alloc | apply pw_below_drewN | apply below_drew1 | refine below_set ?_ GE419.out) | exact HB.out)⟩
         ·replace c46 := Bool.eq_false_iff.mpr c46
          subst c46
          have H1 : (some false) = some r := by rw [if_neg (show ¬ (false = true) by decide)] at H; exact H
          exact absurd (Option.some.inj H1) (by rw [hr_]; decide)
        ·rw [if_neg c44] at H
         exact absurd (Option.some.inj H) (by rw [hr_]; decide)
 ·replace c5 := Bool.eq_false_iff.mpr c5
  subst c5
  rw [if_neg (show ¬ (false = true) by decide)] at H
  replace H := Option.bind_eq_some_iff.mp H
  obtain ⟨t421, A650, H⟩ := H
  replace H : (some t421) = some r := H
  have A65 := Aside0.mk A650
  clear A650
  obtain rfl := Option.some.inj H
  go_enter Try.func4, Try.ntmps4
  go_wp2_with (first | ((with_reducible refine gate_dst (N := 3) rfl ?_); refine box_event ?hg (N := 3) ?hd (cs := #[.int .i64 a0_0, .int .i64 a0_1, .int .i64 a0_2, .int .i64 a0_3, .slice A0_4 l0_4.length c0_4]) (t := 26) ?hr ?_; (case hd => rfl); (case hg => rfl); (case hr => first | (go_simp; done) | (go_simp; rfl)); intro gb419 hg w66 hbox hb; have BK419 := Aside0.mk (hbox); have GW419 := Aside0.mk ((by rw [hg]; exact (below_size (upB HB.out)) : w.heap.size ≤ gb419)); have GE419 := Aside0.mk ((by rw [hg]; exact (below_size (upB HB.out)) : w.heap.size ≤ gb419)); replace HB := Aside0.mk (below_step (upB HB.out) hb); clear hb hbox hg; have hcz67_0 : w66.cell? ⟨gb419, 0, none⟩ = some (.int .i64 a0_0) := bc BK419 0; have hcz67_1 : w66.cell? ⟨gb419, 1, none⟩ = some (.int .i64 a0_1) := bc BK419 1; have hcz67_2 : w66.cell? ⟨gb419, 2, none⟩ = some (.int .i64 a0_2) := bc BK419 2; have hcz67_3 : w66.cell? ⟨gb419, 3, none⟩ = some (.int .i64 a0_3) := bc BK419 3; have hcz67_4 : w66.cell? ⟨gb419, 4, none⟩ = some (.slice A0_4 l0_4.length c0_4) := bc BK419 4; have hfz67_0 := blk_frozen BK419.out 0; have hfz67_1 := blk_frozen BK419.out 1; have hfz67_2 := blk_frozen BK419.out 2; have hfz67_3 := blk_frozen BK419.out 3; have hfz67_4 := blk_frozen BK419.out 4) | ((with_reducible refine gate_callee (f := 17) rfl ?_); refine goesL_ (some 20) rfl rfl Try.func17 (by kernel_rfl) rfl #[.agg #[.int .i64 a0_0, .int .i64 a0_1, .int .i64 a0_2, .int .i64 a0_3, .slice A0_4 l0_4.length c0_4]] rfl upL ?_; (with_reducible refine (waveletref02_Few.calls a0_0 a0_1 a0_2 a0_3 _ _ l0_4 false _ ?side1 ?side2 A4.out).mono ?_); (case side1 => repeat (first | exact (Kd.C_below HR0_4.out HB.out) | (with_reducible refine Kd.C_alloc ?_ _) | (with_reducible refine Kd.C_drewN ?_ _) | (with_reducible refine Kd.C_drew ?_))); (case side2 => exact HC0_4.out); rintro e w68 ⟨rfl, hb⟩; refine ⟨_, rfl, ?_⟩; replace BK419 := Aside0.mk (blk_below (g := gb419) (o := .cells #[.int .i64 a0_0, .int .i64 a0_1, .int .i64 a0_2, .int .i64 a0_3, .slice A0_4 l0_4.length c0_4] 26 (0, 0)) (upK BK419.out) hb); replace HB := Aside0.mk (below_step (upB HB.out) hb); (try clear hb; try clear hb2; try clear hk; try clear hi)) | ((with_reducible refine gate_callee (f := 14) rfl ?_); refine goesL_ (some 22) rfl rfl Try.func14 (by kernel_rfl) rfl #[] rfl upL ?_; (with_reducible refine (waveletlaw02_exampleHolds.calls k  t421 _ A65.out).mono ?_); rintro e w69 ⟨rfl, hb⟩; refine ⟨_, rfl, ?_⟩; replace BK419 := Aside0.mk (blk_below (g := gb419) (o := .cells #[.int .i64 a0_0, .int .i64 a0_1, .int .i64 a0_2, .int .i64 a0_3, .slice A0_4 l0_4.length c0_4] 26 (0, 0)) (upK BK419.out) hb); replace HB := Aside0.mk (below_step (upB HB.out) hb); (try clear hb; try clear hb2; try clear hk; try clear hi)))
  go_ret
  exact ⟨by first | rfl | (simp [errW_none, errW_some] <;> rfl) | (simp [*, errW_none, errW_some] <;> rfl), by repeat (first | (with_reducible first | exact HB.out | apply below_alloc | apply pw_below_drewN | apply below_drew1 | refine below_set ?_ GE419.out) | exact HB.out)⟩

end Go.Proofs.Ythemchggmlpdhaa.Q
