-- By a program of this session (wip/tools/mk.py), out of the kit's print of the translation; Lean checks it.
import Derived.Test.YthemchggmlpdhaaUp2
import Derived.Test.YthemchggmlpdhaaUp
import Derived.Test.YthemchggmlpdhaaQ0
import Derived.Test.YthemchggmlpdhaaQ5
import Derived.Test.YthemchggmlpdhaaQ29
import Derived.Test.YthemchggmlpdhaaQ31
import Derived.Test.YthemchggmlpdhaaQ37
namespace Go.Proofs.Ythemchggmlpdhaa.Q
open Go.RowKit Go.Proofs.YthemchggmlpdhaaW.PrintWords Go.Proofs.YthemchggmlpdhaaW.PrintLast Go.Proofs.YthemchggmlpdhaaW.PrintMore
attribute [local go_sem] max2_int min2_int max_two min_two max_three min_three max_four min_four   -- for this text's walks alone
set_option linter.unusedVariables false
set_option linter.unusedSimpArgs false

/-! ### waveletref02_Crop: function 28 -/
mutual
def waveletref02_Crop.j0 : Nat → Bool → Int → Int → Int → Int → List Int → Int → Int → Int → Int → Option (Int × Int × Int × Int × List Int × Int)
 | 0, _, _, _, _, _, _, _, _, _, _ => none
 | k + 1, x22, x452000, x452001, x452002, x452003, x452004, x453000, x453001, x453002, x453003 => if x22 = true then (some (0, 0, 0, 0, ([] : List Int), 2)) else (waveletref02_Crop.l0 k x453001 x452000 x452001 x452002 x452003 x452004 x453000 x453001 x453002 x453003 x453000 x453001 x453002 x453003 ([] : List Int))
def waveletref02_Crop.l0 : Nat → Int → Int → Int → Int → Int → List Int → Int → Int → Int → Int → Int → Int → Int → Int → List Int → Option (Int × Int × Int × Int × List Int × Int)
 | 0, _, _, _, _, _, _, _, _, _, _, _, _, _, _, _ => none
 | k + 1, x7, x452000, x452001, x452002, x452003, x452004, x453000, x453001, x453002, x453003, x458000, x458001, x458002, x458003, x458004 => if x7 < x453003 then (waveletref02_Crop.l1 k x7 x453000 x452000 x452001 x452002 x452003 x452004 x453000 x453001 x453002 x453003 x458000 x458001 x458002 x458003 x458004) else (some (x458000, x458001, x458002, x458003, x458004, 0))
def waveletref02_Crop.l1 : Nat → Int → Int → Int → Int → Int → Int → List Int → Int → Int → Int → Int → Int → Int → Int → Int → List Int → Option (Int × Int × Int × Int × List Int × Int)
 | 0, _, _, _, _, _, _, _, _, _, _, _, _, _, _, _, _ => none
 | k + 1, x7, x8, x452000, x452001, x452002, x452003, x452004, x453000, x453001, x453002, x453003, x458000, x458001, x458002, x458003, x458004 => if x8 < x453002 then ((waveletref02_Get.f x452000 x452001 x452002 x452003 x452004 x8 x7).bind fun t458 => (if x458004.length < 17592186044416 then (waveletref02_Crop.l1 k x7 (wrap64 (x8 + 1)) x452000 x452001 x452002 x452003 x452004 x453000 x453001 x453002 x453003 x458000 x458001 x458002 x458003 (x458004 ++ [t458])) else (none))) else (waveletref02_Crop.l0 k (wrap64 (x7 + 1)) x452000 x452001 x452002 x452003 x452004 x453000 x453001 x453002 x453003 x458000 x458001 x458002 x458003 x458004)
end
def waveletref02_Crop.f (k : Nat) (a0_0 : Int) (a0_1 : Int) (a0_2 : Int) (a0_3 : Int) (l0_4 : List Int) (a1_0 : Int) (a1_1 : Int) (a1_2 : Int) (a1_3 : Int) : Option (Int × Int × Int × Int × List Int × Int) := (waveletref02_Valid.f a0_0 a0_1 a0_2 a0_3 l0_4).bind fun t454 => (if t454 = true then ((waveletref01_Valid.f a1_0 a1_1 a1_2 a1_3).bind fun t455 => (if t455 = true then ((waveletref01_Contains.f a0_0 a0_1 a0_2 a0_3 a1_0 a1_1 a1_2 a1_3).bind fun t456 => (waveletref02_Crop.j0 k (!t456) a0_0 a0_1 a0_2 a0_3 l0_4 a1_0 a1_1 a1_2 a1_3)) else (waveletref02_Crop.j0 k true a0_0 a0_1 a0_2 a0_3 l0_4 a1_0 a1_1 a1_2 a1_3))) else (some (0, 0, 0, 0, ([] : List Int), 1)))
theorem waveletref02_Crop.mono_l : ∀ k, (∀ y0 y1 y2 y3 y4 y5 y6 y7 y8 y9, LeO (waveletref02_Crop.j0 k y0 y1 y2 y3 y4 y5 y6 y7 y8 y9) (waveletref02_Crop.j0 (k + 1) y0 y1 y2 y3 y4 y5 y6 y7 y8 y9)) ∧ (∀ y0 y1 y2 y3 y4 y5 y6 y7 y8 y9 y10 y11 y12 y13 y14, LeO (waveletref02_Crop.l0 k y0 y1 y2 y3 y4 y5 y6 y7 y8 y9 y10 y11 y12 y13 y14) (waveletref02_Crop.l0 (k + 1) y0 y1 y2 y3 y4 y5 y6 y7 y8 y9 y10 y11 y12 y13 y14)) ∧ (∀ y0 y1 y2 y3 y4 y5 y6 y7 y8 y9 y10 y11 y12 y13 y14 y15, LeO (waveletref02_Crop.l1 k y0 y1 y2 y3 y4 y5 y6 y7 y8 y9 y10 y11 y12 y13 y14 y15) (waveletref02_Crop.l1 (k + 1) y0 y1 y2 y3 y4 y5 y6 y7 y8 y9 y10 y11 y12 y13 y14 y15))
 | 0 => ⟨fun _ _ _ _ _ _ _ _ _ _ r h => by simp [waveletref02_Crop.j0] at h, fun _ _ _ _ _ _ _ _ _ _ _ _ _ _ _ r h => by simp [waveletref02_Crop.l0] at h, fun _ _ _ _ _ _ _ _ _ _ _ _ _ _ _ _ r h => by simp [waveletref02_Crop.l1] at h⟩
 | k + 1 => by
  obtain ⟨ih0, ih1, ih2⟩ := waveletref02_Crop.mono_l k
  refine ⟨?_, ?_, ?_⟩
  ·intro y0 y1 y2 y3 y4 y5 y6 y7 y8 y9
   unfold waveletref02_Crop.j0
   repeat' first
   | (with_reducible exact ih0 _ _ _ _ _ _ _ _ _ _)
   | (with_reducible exact ih1 _ _ _ _ _ _ _ _ _ _ _ _ _ _ _)
   | (with_reducible exact ih2 _ _ _ _ _ _ _ _ _ _ _ _ _ _ _ _)
   | (with_reducible exact LeO.refl _)
   | (with_reducible exact LeO.none _)
   | (with_reducible refine LeO.ite ?_ ?_)
   | (with_reducible refine LeO.bind ?_ (fun _ => ?_))
   | exact ih0 _ _ _ _ _ _ _ _ _ _
   | exact ih1 _ _ _ _ _ _ _ _ _ _ _ _ _ _ _
   | exact ih2 _ _ _ _ _ _ _ _ _ _ _ _ _ _ _ _
   | exact LeO.none _
   | refine LeO.ite ?_ ?_
   | refine LeO.bind ?_ (fun _ => ?_)
  ·intro y0 y1 y2 y3 y4 y5 y6 y7 y8 y9 y10 y11 y12 y13 y14
   unfold waveletref02_Crop.l0
   repeat' first
   | (with_reducible exact ih0 _ _ _ _ _ _ _ _ _ _)
   | (with_reducible exact ih1 _ _ _ _ _ _ _ _ _ _ _ _ _ _ _)
   | (with_reducible exact ih2 _ _ _ _ _ _ _ _ _ _ _ _ _ _ _ _)
   | (with_reducible exact LeO.refl _)
   | (with_reducible exact LeO.none _)
   | (with_reducible refine LeO.ite ?_ ?_)
   | (with_reducible refine LeO.bind ?_ (fun _ => ?_))
   | exact ih0 _ _ _ _ _ _ _ _ _ _
   | exact ih1 _ _ _ _ _ _ _ _ _ _ _ _ _ _ _
   | exact ih2 _ _ _ _ _ _ _ _ _ _ _ _ _ _ _ _
   | exact LeO.none _
   | refine LeO.ite ?_ ?_
   | refine LeO.bind ?_ (fun _ => ?_)
  ·intro y0 y1 y2 y3 y4 y5 y6 y7 y8 y9 y10 y11 y12 y13 y14 y15
   unfold waveletref02_Crop.l1
   repeat' first
   | (with_reducible exact ih0 _ _ _ _ _ _ _ _ _ _)
   | (with_reducible exact ih1 _ _ _ _ _ _ _ _ _ _ _ _ _ _ _)
   | (with_reducible exact ih2 _ _ _ _ _ _ _ _ _ _ _ _ _ _ _ _)
   | (with_reducible exact LeO.refl _)
   | (with_reducible exact LeO.none _)
   | (with_reducible refine LeO.ite ?_ ?_)
   | (with_reducible refine LeO.bind ?_ (fun _ => ?_))
   | exact ih0 _ _ _ _ _ _ _ _ _ _
   | exact ih1 _ _ _ _ _ _ _ _ _ _ _ _ _ _ _
   | exact ih2 _ _ _ _ _ _ _ _ _ _ _ _ _ _ _ _
   | exact LeO.none _
   | refine LeO.ite ?_ ?_
   | refine LeO.bind ?_ (fun _ => ?_)
theorem waveletref02_Crop.mono : ∀ a0 a1 a2 a3 a4 a5 a6 a7 a8 k, LeO (waveletref02_Crop.f k a0 a1 a2 a3 a4 a5 a6 a7 a8) (waveletref02_Crop.f (k + 1) a0 a1 a2 a3 a4 a5 a6 a7 a8) := by
 intro a0 a1 a2 a3 a4 a5 a6 a7 a8 k
 obtain ⟨ih0, ih1, ih2⟩ := waveletref02_Crop.mono_l k
 unfold waveletref02_Crop.f
 repeat' first
   | (with_reducible exact ih0 _ _ _ _ _ _ _ _ _ _)
   | (with_reducible exact ih1 _ _ _ _ _ _ _ _ _ _ _ _ _ _ _)
   | (with_reducible exact ih2 _ _ _ _ _ _ _ _ _ _ _ _ _ _ _ _)
   | (with_reducible exact LeO.refl _)
   | (with_reducible exact LeO.none _)
   | (with_reducible refine LeO.ite ?_ ?_)
   | (with_reducible refine LeO.bind ?_ (fun _ => ?_))
   | exact ih0 _ _ _ _ _ _ _ _ _ _
   | exact ih1 _ _ _ _ _ _ _ _ _ _ _ _ _ _ _
   | exact ih2 _ _ _ _ _ _ _ _ _ _ _ _ _ _ _ _
   | exact LeO.none _
   | refine LeO.ite ?_ ?_
   | refine LeO.bind ?_ (fun _ => ?_)
def waveletref02_Crop.T12 : Bool × List (List Nat × List Nat) := (true, [([], []), ([0], [0]), ([], []), ([], []), ([], []), ([2, 3, 4], [2, 3, 4]), ([5], [5]), ([1, 6, 5], [1, 6]), ([0, 1, 2, 3, 4, 5, 6, 7], []), ([8, 7, 7, 0, 1, 2, 3, 4, 5, 6, 7], [7, 8])])
def waveletref02_Crop.B12 : List Nat := [0, 1, 0, 0, 0, 28, 60, 127, 255, 511]
theorem waveletref02_Crop.tab12 : rtab .any (opsOf Try.f28 12) = waveletref02_Crop.T12 := by kernel_rfl
theorem waveletref02_Crop.bits12 : waitsOk waveletref02_Crop.T12.2 waveletref02_Crop.B12 = true := by kernel_rfl
set_option maxHeartbeats 8000000 in
set_option maxRecDepth 100000 in
theorem waveletref02_Crop.calls (k : Nat) (a0_0 : Int) (a0_1 : Int) (a0_2 : Int) (a0_3 : Int) (A0_4 : Option Addr) (c0_4 : Nat) (l0_4 : List Int) (a1_0 : Int) (a1_1 : Int) (a1_2 : Int) (a1_3 : Int) (r1 : Int) (r2 : Int) (r3 : Int) (r4 : Int) (r5 : List Int) (r6 : Int) (w : World) (hr0_4 : Kd.C (Kd.int .i64) w A0_4 l0_4.length l0_4) (hc0_4 : l0_4.length ≤ c0_4) (h : waveletref02_Crop.f k a0_0 a0_1 a0_2 a0_3 l0_4 a1_0 a1_1 a1_2 a1_3 = some (r1, r2, r3, r4, r5, r6)) :
  Calls Try.prog 28 #[.agg #[.int .i64 a0_0, .int .i64 a0_1, .int .i64 a0_2, .int .i64 a0_3, .slice A0_4 l0_4.length c0_4], .agg #[.int .i64 a1_0, .int .i64 a1_1, .int .i64 a1_2, .int .i64 a1_3]] w fun e w' => ∃ v4_ : Value, e = .returned (.tuple #[.agg #[.int .i64 r1, .int .i64 r2, .int .i64 r3, .int .i64 r4, v4_], .int .i64 r6]) ∧ Kd.R (Kd.int .i64) 3 w' w.heap.size (fun _ => True) v4_ r5 ∧ Below w.heap.size w w' := by
 have hu26 := Try.underlying26
 have hu23 := Try.underlying23
 have HR0_4 := Aside0.mk hr0_4
 have HC0_4 := Aside0.mk hc0_4
 clear hr0_4 hc0_4
 have HB := Aside0.mk (Below.refl w.heap.size w)
 have H : ((waveletref02_Valid.f a0_0 a0_1 a0_2 a0_3 l0_4).bind fun t454 => (if t454 = true then ((waveletref01_Valid.f a1_0 a1_1 a1_2 a1_3).bind fun t455 => (if t455 = true then ((waveletref01_Contains.f a0_0 a0_1 a0_2 a0_3 a1_0 a1_1 a1_2 a1_3).bind fun t456 => (waveletref02_Crop.j0 k (!t456) a0_0 a0_1 a0_2 a0_3 l0_4 a1_0 a1_1 a1_2 a1_3)) else (waveletref02_Crop.j0 k true a0_0 a0_1 a0_2 a0_3 l0_4 a1_0 a1_1 a1_2 a1_3))) else (some (0, 0, 0, 0, ([] : List Int), 1)))) = some (r1, r2, r3, r4, r5, r6) := h
 clear h
 replace H := Option.bind_eq_some_iff.mp H
 obtain ⟨t454, A30, H⟩ := H
 replace H : (if t454 = true then ((waveletref01_Valid.f a1_0 a1_1 a1_2 a1_3).bind fun t455 => (if t455 = true then ((waveletref01_Contains.f a0_0 a0_1 a0_2 a0_3 a1_0 a1_1 a1_2 a1_3).bind fun t456 => (waveletref02_Crop.j0 k (!t456) a0_0 a0_1 a0_2 a0_3 l0_4 a1_0 a1_1 a1_2 a1_3)) else (waveletref02_Crop.j0 k true a0_0 a0_1 a0_2 a0_3 l0_4 a1_0 a1_1 a1_2 a1_3))) else (some (0, 0, 0, 0, ([] : List Int), 1))) = some (r1, r2, r3, r4, r5, r6) := H
 have A3 := Aside0.mk A30
 clear A30
 by_cases c4 : t454 = true
 ·subst c4
  have H1 : ((waveletref01_Valid.f a1_0 a1_1 a1_2 a1_3).bind fun t455 => (if t455 = true then ((waveletref01_Contains.f a0_0 a0_1 a0_2 a0_3 a1_0 a1_1 a1_2 a1_3).bind fun t456 => (waveletref02_Crop.j0 k (!t456) a0_0 a0_1 a0_2 a0_3 l0_4 a1_0 a1_1 a1_2 a1_3)) else (waveletref02_Crop.j0 k true a0_0 a0_1 a0_2 a0_3 l0_4 a1_0 a1_1 a1_2 a1_3))) = some (r1, r2, r3, r4, r5, r6) := by rw [if_pos rfl] at H; exact H
  clear H
  have H := H1
  clear H1
  have HC5 := Aside0.mk H
  clear H
  go_enter Try.func28, Try.ntmps28
  go_upto_region 3 with (first | ((with_reducible refine gate_dst (N := 2) rfl ?_); refine box_event ?hg (N := 2) ?hd (cs := #[.int .i64 a0_0, .int .i64 a0_1, .int .i64 a0_2, .int .i64 a0_3, .slice A0_4 l0_4.length c0_4]) (t := 26) ?hr ?_; (case hd => rfl); (case hg => rfl); (case hr => first | (go_simp; done) | (go_simp; rfl)); intro gb451 hg w6 hbox hb; have BK451 := Aside0.mk (hbox); have GW451 := Aside0.mk ((by rw [hg]; exact (below_size (upB HB.out)) : w.heap.size ≤ gb451)); have GE451 := Aside0.mk ((by rw [hg]; exact (below_size (upB HB.out)) : w.heap.size ≤ gb451)); replace HB := Aside0.mk (below_step (upB HB.out) hb); clear hb hbox hg) | ((with_reducible refine gate_dst (N := 3) rfl ?_); refine box_event ?hg (N := 3) ?hd (cs := #[.int .i64 a1_0, .int .i64 a1_1, .int .i64 a1_2, .int .i64 a1_3]) (t := 23) ?hr ?_; (case hd => rfl); (case hg => rfl); (case hr => first | (go_simp; done) | (go_simp; rfl)); intro gb452 hg w7 hbox hb; have BK452 := Aside0.mk (hbox); have GW452 := Aside0.mk ((by rw [hg]; exact (below_size (upB HB.out)) : w.heap.size ≤ gb452)); have GE452 := Aside0.mk ((by rw [hg]; exact (below_size (upB HB.out)) : w.heap.size ≤ gb452)); replace HB := Aside0.mk (below_step (upB HB.out) hb); have NB451_452 := Aside0.mk ((by rw [hg]; exact Nat.ne_of_lt (blk_lt (g := gb451) (o := .cells #[.int .i64 a0_0, .int .i64 a0_1, .int .i64 a0_2, .int .i64 a0_3, .slice A0_4 l0_4.length c0_4] 26 (0, 0)) (upK BK451.out)) : gb451 ≠ gb452)); have NB452_451 := Aside0.mk ((by rw [hg]; exact Nat.ne_of_gt (blk_lt (g := gb451) (o := .cells #[.int .i64 a0_0, .int .i64 a0_1, .int .i64 a0_2, .int .i64 a0_3, .slice A0_4 l0_4.length c0_4] 26 (0, 0)) (upK BK451.out)) : gb452 ≠ gb451)); replace BK451 := Aside0.mk (blk_below (g := gb451) (o := .cells #[.int .i64 a0_0, .int .i64 a0_1, .int .i64 a0_2, .int .i64 a0_3, .slice A0_4 l0_4.length c0_4] 26 (0, 0)) (upK BK451.out) hb); clear hb hbox hg) | ((with_reducible refine gate_dst (N := 4) rfl ?_); refine box_event ?hg (N := 4) ?hd (cs := #[.int .i64 0, .int .i64 0, .int .i64 0, .int .i64 0, .slice none 0 0]) (t := 26) ?hr ?_; (case hd => rfl); (case hg => rfl); (case hr => first | (go_simp; done) | (go_simp; rfl)); intro gb453 hg w8 hbox hb; have BK453 := Aside0.mk (hbox); have GW453 := Aside0.mk ((by rw [hg]; exact (below_size (upB HB.out)) : w.heap.size ≤ gb453)); have GE453 := Aside0.mk ((by rw [hg]; exact (below_size (upB HB.out)) : w.heap.size ≤ gb453)); replace HB := Aside0.mk (below_step (upB HB.out) hb); have NB451_453 := Aside0.mk ((by rw [hg]; exact Nat.ne_of_lt (blk_lt (g := gb451) (o := .cells #[.int .i64 a0_0, .int .i64 a0_1, .int .i64 a0_2, .int .i64 a0_3, .slice A0_4 l0_4.length c0_4] 26 (0, 0)) (upK BK451.out)) : gb451 ≠ gb453)); have NB453_451 := Aside0.mk ((by rw [hg]; exact Nat.ne_of_gt (blk_lt (g := gb451) (o := .cells #[.int .i64 a0_0, .int .i64 a0_1, .int .i64 a0_2, .int .i64 a0_3, .slice A0_4 l0_4.length c0_4] 26 (0, 0)) (upK BK451.out)) : gb453 ≠ gb451)); replace BK451 := Aside0.mk (blk_below (g := gb451) (o := .cells #[.int .i64 a0_0, .int .i64 a0_1, .int .i64 a0_2, .int .i64 a0_3, .slice A0_4 l0_4.length c0_4] 26 (0, 0)) (upK BK451.out) hb); have NB452_453 := Aside0.mk ((by rw [hg]; exact Nat.ne_of_lt (blk_lt (g := gb452) (o := .cells #[.int .i64 a1_0, .int .i64 a1_1, .int .i64 a1_2, .int .i64 a1_3] 23 (0, 0)) (upK BK452.out)) : gb452 ≠ gb453)); have NB453_452 := Aside0.mk ((by rw [hg]; exact Nat.ne_of_gt (blk_lt (g := gb452) (o := .cells #[.int .i64 a1_0, .int .i64 a1_1, .int .i64 a1_2, .int .i64 a1_3] 23 (0, 0)) (upK BK452.out)) : gb453 ≠ gb452)); replace BK452 := Aside0.mk (blk_below (g := gb452) (o := .cells #[.int .i64 a1_0, .int .i64 a1_1, .int .i64 a1_2, .int .i64 a1_3] 23 (0, 0)) (upK BK452.out) hb); clear hb hbox hg; have hnb9 := NB451_452.out; have hnc9 := NB452_451.out; have hnb10 := NB451_453.out; have hnc10 := NB453_451.out; have hcz11_0 : w8.cell? ⟨gb451, 0, none⟩ = some (.int .i64 a0_0) := bc BK451 0; have hcz11_1 : w8.cell? ⟨gb451, 1, none⟩ = some (.int .i64 a0_1) := bc BK451 1; have hcz11_2 : w8.cell? ⟨gb451, 2, none⟩ = some (.int .i64 a0_2) := bc BK451 2; have hcz11_3 : w8.cell? ⟨gb451, 3, none⟩ = some (.int .i64 a0_3) := bc BK451 3; have hcz11_4 : w8.cell? ⟨gb451, 4, none⟩ = some (.slice A0_4 l0_4.length c0_4) := bc BK451 4; have hfz11_0 := blk_frozen BK451.out 0; have hfz11_1 := blk_frozen BK451.out 1; have hfz11_2 := blk_frozen BK451.out 2; have hfz11_3 := blk_frozen BK451.out 3; have hfz11_4 := blk_frozen BK451.out 4) | ((with_reducible refine gate_callee (f := 21) rfl ?_); refine goesL_ (some 10) rfl rfl Try.func21 (by kernel_rfl) rfl #[.agg #[.int .i64 a0_0, .int .i64 a0_1, .int .i64 a0_2, .int .i64 a0_3, .slice A0_4 l0_4.length c0_4]] rfl upL ?_; (with_reducible refine (waveletref02_Valid.calls a0_0 a0_1 a0_2 a0_3 _ _ l0_4 true _ ?side1 ?side2 A3.out).mono ?_); (case side1 => repeat (first | exact (Kd.C_below HR0_4.out HB.out) | (with_reducible refine Kd.C_alloc ?_ _) | (with_reducible refine Kd.C_drewN ?_ _) | (with_reducible refine Kd.C_drew ?_))); (case side2 => exact HC0_4.out); rintro e w12 ⟨rfl, hb⟩; refine ⟨_, rfl, ?_⟩; replace BK451 := Aside0.mk (blk_below (g := gb451) (o := .cells #[.int .i64 a0_0, .int .i64 a0_1, .int .i64 a0_2, .int .i64 a0_3, .slice A0_4 l0_4.length c0_4] 26 (0, 0)) (upK BK451.out) hb); replace BK452 := Aside0.mk (blk_below (g := gb452) (o := .cells #[.int .i64 a1_0, .int .i64 a1_1, .int .i64 a1_2, .int .i64 a1_3] 23 (0, 0)) (upK BK452.out) hb); replace BK453 := Aside0.mk (blk_below (g := gb453) (o := .cells #[.int .i64 0, .int .i64 0, .int .i64 0, .int .i64 0, .slice none 0 0] 26 (0, 0)) (upK BK453.out) hb); replace HB := Aside0.mk (below_step (upB HB.out) hb); (try clear hb; try clear hb2; try clear hk; try clear hi)))
  (try simp only [Act.put, List.setIfInBounds_toArray, List.set_cons_zero, List.set_cons_succ])
  go_cut [22] (fun v22 wc => ∃ (kq : Nat) (x22_4 : Bool), v22 = .bool x22_4 ∧ Aside0 (waveletref02_Crop.j0 kq x22_4 a0_0 a0_1 a0_2 a0_3 l0_4 a1_0 a1_1 a1_2 a1_3 = some (r1, r2, r3, r4, r5, r6)) ∧ Aside0 (kq ≤ k) ∧ Aside0 (wc.heap[gb451]? = some (.cells #[.int .i64 a0_0, .int .i64 a0_1, .int .i64 a0_2, .int .i64 a0_3, (.slice A0_4 l0_4.length c0_4)] 26 (0, 0))) ∧ Aside0 (wc.heap[gb452]? = some (.cells #[.int .i64 a1_0, .int .i64 a1_1, .int .i64 a1_2, .int .i64 a1_3] 23 (0, 0))) ∧ Aside0 (wc.heap[gb453]? = some (.cells #[.int .i64 0, .int .i64 0, .int .i64 0, .int .i64 0, (.slice none 0 0)] 26 (0, 0))) ∧ Aside0 (Below w.heap.size w wc))
  case first =>
   have H := HC5.out
   clear HC5
   replace H := Option.bind_eq_some_iff.mp H
   obtain ⟨t455, A130, H⟩ := H
   replace H : (if t455 = true then ((waveletref01_Contains.f a0_0 a0_1 a0_2 a0_3 a1_0 a1_1 a1_2 a1_3).bind fun t456 => (waveletref02_Crop.j0 k (!t456) a0_0 a0_1 a0_2 a0_3 l0_4 a1_0 a1_1 a1_2 a1_3)) else (waveletref02_Crop.j0 k true a0_0 a0_1 a0_2 a0_3 l0_4 a1_0 a1_1 a1_2 a1_3)) = some (r1, r2, r3, r4, r5, r6) := H
   have A13 := Aside0.mk A130
   clear A130
   by_cases c14 : t455 = true
   ·subst c14
    have H1 : ((waveletref01_Contains.f a0_0 a0_1 a0_2 a0_3 a1_0 a1_1 a1_2 a1_3).bind fun t456 => (waveletref02_Crop.j0 k (!t456) a0_0 a0_1 a0_2 a0_3 l0_4 a1_0 a1_1 a1_2 a1_3)) = some (r1, r2, r3, r4, r5, r6) := by rw [if_pos rfl] at H; exact H
    clear H
    have H := H1
    clear H1
    replace H := Option.bind_eq_some_iff.mp H
    obtain ⟨t456, A150, H⟩ := H
    replace H : (waveletref02_Crop.j0 k (!t456) a0_0 a0_1 a0_2 a0_3 l0_4 a1_0 a1_1 a1_2 a1_3) = some (r1, r2, r3, r4, r5, r6) := H
    have A15 := Aside0.mk A150
    clear A150
    have H' := Aside0.mk H
    clear H
    have hnb16 := NB452_451.out
    have hnc16 := NB451_452.out
    have hnb17 := NB452_453.out
    have hnc17 := NB453_452.out
    have hcz18_0 : w12.cell? ⟨gb452, 0, none⟩ = some (.int .i64 a1_0) := bc BK452 0
    have hcz18_1 : w12.cell? ⟨gb452, 1, none⟩ = some (.int .i64 a1_1) := bc BK452 1
    have hcz18_2 : w12.cell? ⟨gb452, 2, none⟩ = some (.int .i64 a1_2) := bc BK452 2
    have hcz18_3 : w12.cell? ⟨gb452, 3, none⟩ = some (.int .i64 a1_3) := bc BK452 3
    have hfz18_0 := blk_frozen BK452.out 0
    have hfz18_1 := blk_frozen BK452.out 1
    have hfz18_2 := blk_frozen BK452.out 2
    have hfz18_3 := blk_frozen BK452.out 3
    go_wp2_with (first | ((with_reducible refine gate_callee (f := 40) rfl ?_); refine goesL_ (some 14) rfl rfl Try.func40 (by kernel_rfl) rfl #[.agg #[.int .i64 a1_0, .int .i64 a1_1, .int .i64 a1_2, .int .i64 a1_3]] rfl upL ?_; (with_reducible refine (waveletref01_Valid.calls a1_0 a1_1 a1_2 a1_3 true _ A13.out).mono ?_); rintro e w19 ⟨rfl, hb⟩; refine ⟨_, rfl, ?_⟩; replace BK451 := Aside0.mk (blk_below (g := gb451) (o := .cells #[.int .i64 a0_0, .int .i64 a0_1, .int .i64 a0_2, .int .i64 a0_3, .slice A0_4 l0_4.length c0_4] 26 (0, 0)) (upK BK451.out) hb); replace BK452 := Aside0.mk (blk_below (g := gb452) (o := .cells #[.int .i64 a1_0, .int .i64 a1_1, .int .i64 a1_2, .int .i64 a1_3] 23 (0, 0)) (upK BK452.out) hb); replace BK453 := Aside0.mk (blk_below (g := gb453) (o := .cells #[.int .i64 0, .int .i64 0, .int .i64 0, .int .i64 0, .slice none 0 0] 26 (0, 0)) (upK BK453.out) hb); replace HB := Aside0.mk (below_step (upB HB.out) hb); (try clear hb; try clear hb2; try clear hk; try clear hi); have hnb20 := NB451_453.out; have hnc20 := NB453_451.out; have hcz21_0 : w19.cell? ⟨gb451, 0, none⟩ = some (.int .i64 a0_0) := bc BK451 0; have hcz21_1 : w19.cell? ⟨gb451, 1, none⟩ = some (.int .i64 a0_1) := bc BK451 1; have hcz21_2 : w19.cell? ⟨gb451, 2, none⟩ = some (.int .i64 a0_2) := bc BK451 2; have hcz21_3 : w19.cell? ⟨gb451, 3, none⟩ = some (.int .i64 a0_3) := bc BK451 3; have hcz21_4 : w19.cell? ⟨gb451, 4, none⟩ = some (.slice A0_4 l0_4.length c0_4) := bc BK451 4; have hfz21_0 := blk_frozen BK451.out 0; have hfz21_1 := blk_frozen BK451.out 1; have hfz21_2 := blk_frozen BK451.out 2; have hfz21_3 := blk_frozen BK451.out 3; have hfz21_4 := blk_frozen BK451.out 4; have hcz22_0 : w19.cell? ⟨gb452, 0, none⟩ = some (.int .i64 a1_0) := bc BK452 0; have hcz22_1 : w19.cell? ⟨gb452, 1, none⟩ = some (.int .i64 a1_1) := bc BK452 1; have hcz22_2 : w19.cell? ⟨gb452, 2, none⟩ = some (.int .i64 a1_2) := bc BK452 2; have hcz22_3 : w19.cell? ⟨gb452, 3, none⟩ = some (.int .i64 a1_3) := bc BK452 3; have hfz22_0 := blk_frozen BK452.out 0; have hfz22_1 := blk_frozen BK452.out 1; have hfz22_2 := blk_frozen BK452.out 2; have hfz22_3 := blk_frozen BK452.out 3) | (go_at_call 37; (with_reducible refine (waveletref01_Contains.calls a0_0 a0_1 a0_2 a0_3 a1_0 a1_1 a1_2 a1_3 t456 _ A15.out).mono ?_); rintro e w23 ⟨rfl, hb⟩; replace BK451 := Aside0.mk (blk_below (g := gb451) (o := .cells #[.int .i64 a0_0, .int .i64 a0_1, .int .i64 a0_2, .int .i64 a0_3, .slice A0_4 l0_4.length c0_4] 26 (0, 0)) (upK BK451.out) hb); replace BK452 := Aside0.mk (blk_below (g := gb452) (o := .cells #[.int .i64 a1_0, .int .i64 a1_1, .int .i64 a1_2, .int .i64 a1_3] 23 (0, 0)) (upK BK452.out) hb); replace BK453 := Aside0.mk (blk_below (g := gb453) (o := .cells #[.int .i64 0, .int .i64 0, .int .i64 0, .int .i64 0, .slice none 0 0] 26 (0, 0)) (upK BK453.out) hb); replace HB := Aside0.mk (below_step (upB HB.out) hb); (try clear hb; try clear hb2; try clear hk; try clear hi)))
    go_meet
    case rel => exact ⟨_, (!t456), (by first | rfl | (simp; done) | (simp [*]; done)), H', ⟨by first | omega | exact Nat.le_refl _⟩, ⟨by (with_reducible repeat (first | refine blk_drewN ?_ _ | refine blk_drew ?_ | refine blk_alloc ?_ _)); exact BK451.out⟩, ⟨by (with_reducible repeat (first | refine blk_drewN ?_ _ | refine blk_drew ?_ | refine blk_alloc ?_ _)); exact BK452.out⟩, ⟨by (with_reducible repeat (first | refine blk_drewN ?_ _ | refine blk_drew ?_ | refine blk_alloc ?_ _)); exact BK453.out⟩, ⟨by repeat (first | (with_reducible first | exact HB.out | apply below_alloc | apply pw_below_drewN | apply below_drew1 | refine below_set ?_ GE451.out | refine below_set ?_ GE452.out | refine below_set ?_ GE453.out) | exact HB.out)⟩⟩
   ·replace c14 := Bool.eq_false_iff.mpr c14
    subst c14
    have H1 : (waveletref02_Crop.j0 k true a0_0 a0_1 a0_2 a0_3 l0_4 a1_0 a1_1 a1_2 a1_3) = some (r1, r2, r3, r4, r5, r6) := by rw [if_neg (show ¬ (false = true) by decide)] at H; exact H
    clear H
    have H := H1
    clear H1
    have H' := Aside0.mk H
    clear H
    have hnb24 := NB452_451.out
    have hnc24 := NB451_452.out
    have hnb25 := NB452_453.out
    have hnc25 := NB453_452.out
    have hcz26_0 : w12.cell? ⟨gb452, 0, none⟩ = some (.int .i64 a1_0) := bc BK452 0
    have hcz26_1 : w12.cell? ⟨gb452, 1, none⟩ = some (.int .i64 a1_1) := bc BK452 1
    have hcz26_2 : w12.cell? ⟨gb452, 2, none⟩ = some (.int .i64 a1_2) := bc BK452 2
    have hcz26_3 : w12.cell? ⟨gb452, 3, none⟩ = some (.int .i64 a1_3) := bc BK452 3
    have hfz26_0 := blk_frozen BK452.out 0
    have hfz26_1 := blk_frozen BK452.out 1
    have hfz26_2 := blk_frozen BK452.out 2
    have hfz26_3 := blk_frozen BK452.out 3
    go_wp2_with (first | ((with_reducible refine gate_callee (f := 40) rfl ?_); refine goesL_ (some 14) rfl rfl Try.func40 (by kernel_rfl) rfl #[.agg #[.int .i64 a1_0, .int .i64 a1_1, .int .i64 a1_2, .int .i64 a1_3]] rfl upL ?_; (with_reducible refine (waveletref01_Valid.calls a1_0 a1_1 a1_2 a1_3 false _ A13.out).mono ?_); rintro e w27 ⟨rfl, hb⟩; refine ⟨_, rfl, ?_⟩; replace BK451 := Aside0.mk (blk_below (g := gb451) (o := .cells #[.int .i64 a0_0, .int .i64 a0_1, .int .i64 a0_2, .int .i64 a0_3, .slice A0_4 l0_4.length c0_4] 26 (0, 0)) (upK BK451.out) hb); replace BK452 := Aside0.mk (blk_below (g := gb452) (o := .cells #[.int .i64 a1_0, .int .i64 a1_1, .int .i64 a1_2, .int .i64 a1_3] 23 (0, 0)) (upK BK452.out) hb); replace BK453 := Aside0.mk (blk_below (g := gb453) (o := .cells #[.int .i64 0, .int .i64 0, .int .i64 0, .int .i64 0, .slice none 0 0] 26 (0, 0)) (upK BK453.out) hb); replace HB := Aside0.mk (below_step (upB HB.out) hb); (try clear hb; try clear hb2; try clear hk; try clear hi)))
    go_meet
    case rel => exact ⟨_, (true), (by first | rfl | (simp; done) | (simp [*]; done)), H', ⟨by first | omega | exact Nat.le_refl _⟩, ⟨by (with_reducible repeat (first | refine blk_drewN ?_ _ | refine blk_drew ?_ | refine blk_alloc ?_ _)); exact BK451.out⟩, ⟨by (with_reducible repeat (first | refine blk_drewN ?_ _ | refine blk_drew ?_ | refine blk_alloc ?_ _)); exact BK452.out⟩, ⟨by (with_reducible repeat (first | refine blk_drewN ?_ _ | refine blk_drew ?_ | refine blk_alloc ?_ _)); exact BK453.out⟩, ⟨by repeat (first | (with_reducible first | exact HB.out | apply below_alloc | apply pw_below_drewN | apply below_drew1 | refine below_set ?_ GE451.out | refine below_set ?_ GE452.out | refine below_set ?_ GE453.out) | exact HB.out)⟩⟩
  case rest =>
   clear HC5
   try clear c1; try clear c2; try clear p2; try clear c4; try clear c9; try clear c10; try clear c14; try clear c16; try clear c17; try clear c20; try clear c21; try clear c24; try clear c25; try clear hcz11_0; try clear hcz11_1; try clear hcz11_2; try clear hcz11_3; try clear hcz11_4; try clear hcz18_0; try clear hcz18_1; try clear hcz18_2; try clear hcz18_3; try clear hcz21_0; try clear hcz21_1; try clear hcz21_2; try clear hcz21_3; try clear hcz21_4; try clear hcz22_0; try clear hcz22_1; try clear hcz22_2; try clear hcz22_3; try clear hcz26_0; try clear hcz26_1; try clear hcz26_2; try clear hcz26_3; try clear hfz11_0; try clear hfz11_1; try clear hfz11_2; try clear hfz11_3; try clear hfz11_4; try clear hfz18_0; try clear hfz18_1; try clear hfz18_2; try clear hfz18_3; try clear hfz21_0; try clear hfz21_1; try clear hfz21_2; try clear hfz21_3; try clear hfz21_4; try clear hfz22_0; try clear hfz22_1; try clear hfz22_2; try clear hfz22_3; try clear hfz26_0; try clear hfz26_1; try clear hfz26_2; try clear hfz26_3
   obtain ⟨kq, x22_4, rfl, HA, HJ4, BK451, BK452, BK453, HB⟩ := hcut
   cases kq with
   | zero => exact absurd HA.out (by simp [waveletref02_Crop.j0])
   | succ kj4 =>
    have H := HA.out
    clear HA
    simp only [waveletref02_Crop.j0] at H
    by_cases c28 : x22_4 = true
    ·subst c28
     have H1 : (some (0, 0, 0, 0, ([] : List Int), 2)) = some (r1, r2, r3, r4, r5, r6) := by rw [if_pos rfl] at H; exact H
     clear H
     have H := H1
     clear H1
     simp only [Option.some.injEq, Prod.mk.injEq] at H
     obtain ⟨rfl, rfl, rfl, rfl, rfl, rfl⟩ := H
     have hnb29 := NB453_451.out
     have hnc29 := NB451_453.out
     have hnb30 := NB453_452.out
     have hnc30 := NB452_453.out
     have hcz31_0 : wc.cell? ⟨gb453, 0, none⟩ = some (.int .i64 0) := bc BK453 0
     have hcz31_1 : wc.cell? ⟨gb453, 1, none⟩ = some (.int .i64 0) := bc BK453 1
     have hcz31_2 : wc.cell? ⟨gb453, 2, none⟩ = some (.int .i64 0) := bc BK453 2
     have hcz31_3 : wc.cell? ⟨gb453, 3, none⟩ = some (.int .i64 0) := bc BK453 3
     have hcz31_4 : wc.cell? ⟨gb453, 4, none⟩ = some (.slice none 0 0) := bc BK453 4
     have hfz31_0 := blk_frozen BK453.out 0
     have hfz31_1 := blk_frozen BK453.out 1
     have hfz31_2 := blk_frozen BK453.out 2
     have hfz31_3 := blk_frozen BK453.out 3
     have hfz31_4 := blk_frozen BK453.out 4
     go_wp2
     refine bodyPost_ret (results_ct rfl _ _ gb453 26 #[.int .i64 0, .int .i64 0, .int .i64 0, .int .i64 0, .slice none 0 0] (0, 0) _ rfl (by (with_reducible repeat (first | refine blk_drewN ?_ _ | refine blk_drew ?_ | refine blk_alloc ?_ _)); refine blk_put (cs := #[.int .i64 0, .int .i64 0, .int .i64 0, .int .i64 0, .slice none 0 0]) ?_ 4 _ rfl; (with_reducible repeat (first | refine blk_drewN ?_ _ | refine blk_drew ?_ | refine blk_alloc ?_ _)); refine blk_put (cs := #[.int .i64 0, .int .i64 0, .int .i64 0, .int .i64 0, .slice none 0 0]) ?_ 3 _ rfl; (with_reducible repeat (first | refine blk_drewN ?_ _ | refine blk_drew ?_ | refine blk_alloc ?_ _)); refine blk_put (cs := #[.int .i64 0, .int .i64 0, .int .i64 0, .int .i64 0, .slice none 0 0]) ?_ 2 _ rfl; (with_reducible repeat (first | refine blk_drewN ?_ _ | refine blk_drew ?_ | refine blk_alloc ?_ _)); refine blk_put (cs := #[.int .i64 0, .int .i64 0, .int .i64 0, .int .i64 0, .slice none 0 0]) ?_ 1 _ rfl; (with_reducible repeat (first | refine blk_drewN ?_ _ | refine blk_drew ?_ | refine blk_alloc ?_ _)); refine blk_put (cs := #[.int .i64 0, .int .i64 0, .int .i64 0, .int .i64 0, .slice none 0 0]) ?_ 0 _ rfl; (with_reducible repeat (first | refine blk_drewN ?_ _ | refine blk_drew ?_ | refine blk_alloc ?_ _)); exact BK453.out) Try.underlying26 rfl (by kernel_rfl)) rfl ?_
     exact ⟨_, by first | rfl | (simp [errW_none, errW_some] <;> rfl) | (simp [*, errW_none, errW_some] <;> rfl), by first | exact Kd.R_nil _ _ _ _ _ | exact Kd.N_nil _ _ _ _ _ | exact Kd.V_nil _ _ _ _ _ | exact Kd.Q_nil _ _ _ _ _ | exact Kd.S_nil _ _ _ _ _, by repeat (first | (with_reducible first | exact HB.out | apply below_alloc | apply pw_below_drewN | apply below_drew1 | refine below_set ?_ GE451.out | refine below_set ?_ GE452.out | refine below_set ?_ GE453.out) | exact HB.out)⟩
    ·replace c28 := Bool.eq_false_iff.mpr c28
     subst c28
     have H1 : (waveletref02_Crop.l0 kj4 a1_1 a0_0 a0_1 a0_2 a0_3 l0_4 a1_0 a1_1 a1_2 a1_3 a1_0 a1_1 a1_2 a1_3 ([] : List Int)) = some (r1, r2, r3, r4, r5, r6) := by rw [if_neg (show ¬ (false = true) by decide)] at H; exact H
     clear H
     have H := H1
     clear H1
     have H' := Aside0.mk H
     clear H
     have hnb32 := NB452_451.out
     have hnc32 := NB451_452.out
     have hnb33 := NB452_453.out
     have hnc33 := NB453_452.out
     have hcz34_0 : wc.cell? ⟨gb452, 0, none⟩ = some (.int .i64 a1_0) := bc BK452 0
     have hcz34_1 : wc.cell? ⟨gb452, 1, none⟩ = some (.int .i64 a1_1) := bc BK452 1
     have hcz34_2 : wc.cell? ⟨gb452, 2, none⟩ = some (.int .i64 a1_2) := bc BK452 2
     have hcz34_3 : wc.cell? ⟨gb452, 3, none⟩ = some (.int .i64 a1_3) := bc BK452 3
     have hfz34_0 := blk_frozen BK452.out 0
     have hfz34_1 := blk_frozen BK452.out 1
     have hfz34_2 := blk_frozen BK452.out 2
     have hfz34_3 := blk_frozen BK452.out 3
     go_wp2_with (first | ((with_reducible refine gate_dst (N := 6) rfl ?_); refine box_event ?hg (N := 6) ?hd (cs := #[.int .i64 0, .int .i64 0, .int .i64 0, .int .i64 0, .slice none 0 0]) (t := 26) ?hr ?_; (case hd => rfl); (case hg => rfl); (case hr => first | (go_simp; done) | (go_simp; rfl)); intro gb457 hg w35 hbox hb; have BK457 := Aside0.mk (hbox); have GW457 := Aside0.mk ((by rw [hg]; exact (below_size (upB HB.out)) : w.heap.size ≤ gb457)); have GE457 := Aside0.mk ((by rw [hg]; exact (below_size (upB HB.out)) : w.heap.size ≤ gb457)); replace HB := Aside0.mk (below_step (upB HB.out) hb); have NB451_457 := Aside0.mk ((by rw [hg]; exact Nat.ne_of_lt (blk_lt (g := gb451) (o := .cells #[.int .i64 a0_0, .int .i64 a0_1, .int .i64 a0_2, .int .i64 a0_3, .slice A0_4 l0_4.length c0_4] 26 (0, 0)) (upK BK451.out)) : gb451 ≠ gb457)); have NB457_451 := Aside0.mk ((by rw [hg]; exact Nat.ne_of_gt (blk_lt (g := gb451) (o := .cells #[.int .i64 a0_0, .int .i64 a0_1, .int .i64 a0_2, .int .i64 a0_3, .slice A0_4 l0_4.length c0_4] 26 (0, 0)) (upK BK451.out)) : gb457 ≠ gb451)); replace BK451 := Aside0.mk (blk_below (g := gb451) (o := .cells #[.int .i64 a0_0, .int .i64 a0_1, .int .i64 a0_2, .int .i64 a0_3, .slice A0_4 l0_4.length c0_4] 26 (0, 0)) (upK BK451.out) hb); have NB452_457 := Aside0.mk ((by rw [hg]; exact Nat.ne_of_lt (blk_lt (g := gb452) (o := .cells #[.int .i64 a1_0, .int .i64 a1_1, .int .i64 a1_2, .int .i64 a1_3] 23 (0, 0)) (upK BK452.out)) : gb452 ≠ gb457)); have NB457_452 := Aside0.mk ((by rw [hg]; exact Nat.ne_of_gt (blk_lt (g := gb452) (o := .cells #[.int .i64 a1_0, .int .i64 a1_1, .int .i64 a1_2, .int .i64 a1_3] 23 (0, 0)) (upK BK452.out)) : gb457 ≠ gb452)); replace BK452 := Aside0.mk (blk_below (g := gb452) (o := .cells #[.int .i64 a1_0, .int .i64 a1_1, .int .i64 a1_2, .int .i64 a1_3] 23 (0, 0)) (upK BK452.out) hb); have NB453_457 := Aside0.mk ((by rw [hg]; exact Nat.ne_of_lt (blk_lt (g := gb453) (o := .cells #[.int .i64 0, .int .i64 0, .int .i64 0, .int .i64 0, .slice none 0 0] 26 (0, 0)) (upK BK453.out)) : gb453 ≠ gb457)); have NB457_453 := Aside0.mk ((by rw [hg]; exact Nat.ne_of_gt (blk_lt (g := gb453) (o := .cells #[.int .i64 0, .int .i64 0, .int .i64 0, .int .i64 0, .slice none 0 0] 26 (0, 0)) (upK BK453.out)) : gb457 ≠ gb453)); replace BK453 := Aside0.mk (blk_below (g := gb453) (o := .cells #[.int .i64 0, .int .i64 0, .int .i64 0, .int .i64 0, .slice none 0 0] 26 (0, 0)) (upK BK453.out) hb); clear hb hbox hg; have hnb36 := NB457_451.out; have hnc36 := NB451_457.out; have hnb37 := NB457_452.out; have hnc37 := NB452_457.out; have hnb38 := NB457_453.out; have hnc38 := NB453_457.out; have hcz39_0 : w35.cell? ⟨gb457, 0, none⟩ = some (.int .i64 0) := bc BK457 0; have hcz39_1 : w35.cell? ⟨gb457, 1, none⟩ = some (.int .i64 0) := bc BK457 1; have hcz39_2 : w35.cell? ⟨gb457, 2, none⟩ = some (.int .i64 0) := bc BK457 2; have hcz39_3 : w35.cell? ⟨gb457, 3, none⟩ = some (.int .i64 0) := bc BK457 3; have hcz39_4 : w35.cell? ⟨gb457, 4, none⟩ = some (.slice none 0 0) := bc BK457 4; have hfz39_0 := blk_frozen BK457.out 0; have hfz39_1 := blk_frozen BK457.out 1; have hfz39_2 := blk_frozen BK457.out 2; have hfz39_3 := blk_frozen BK457.out 3; have hfz39_4 := blk_frozen BK457.out 4; have hcz40_0 : w35.cell? ⟨gb452, 0, none⟩ = some (.int .i64 a1_0) := bc BK452 0; have hcz40_1 : w35.cell? ⟨gb452, 1, none⟩ = some (.int .i64 a1_1) := bc BK452 1; have hcz40_2 : w35.cell? ⟨gb452, 2, none⟩ = some (.int .i64 a1_2) := bc BK452 2; have hcz40_3 : w35.cell? ⟨gb452, 3, none⟩ = some (.int .i64 a1_3) := bc BK452 3; have hfz40_0 := blk_frozen BK452.out 0; have hfz40_1 := blk_frozen BK452.out 1; have hfz40_2 := blk_frozen BK452.out 2; have hfz40_3 := blk_frozen BK452.out 3))
     go_loopg [7] kj4 (fun kq v7 w' => ∃ (x7_2 : Int) (x458004_2 : List Int) (u458004 : Value), v7 = .int .i64 x7_2 ∧ Aside0 (waveletref02_Crop.l0 kq x7_2 a0_0 a0_1 a0_2 a0_3 l0_4 a1_0 a1_1 a1_2 a1_3 a1_0 a1_1 a1_2 a1_3 x458004_2 = some (r1, r2, r3, r4, r5, r6)) ∧ Aside0 (kq ≤ kj4) ∧ Aside0 (Kd.R (Kd.int .i64) 3 w' w.heap.size (fun _ => True) u458004 x458004_2) ∧ Aside0 (w'.heap[gb451]? = some (.cells #[.int .i64 a0_0, .int .i64 a0_1, .int .i64 a0_2, .int .i64 a0_3, (.slice A0_4 l0_4.length c0_4)] 26 (0, 0))) ∧ Aside0 (w'.heap[gb452]? = some (.cells #[.int .i64 a1_0, .int .i64 a1_1, .int .i64 a1_2, .int .i64 a1_3] 23 (0, 0))) ∧ Aside0 (w'.heap[gb453]? = some (.cells #[.int .i64 0, .int .i64 0, .int .i64 0, .int .i64 0, (.slice none 0 0)] 26 (0, 0))) ∧ Aside0 (w'.heap[gb457]? = some (.cells #[.int .i64 a1_0, .int .i64 a1_1, .int .i64 a1_2, .int .i64 a1_3, u458004] 26 (0, 0))) ∧ Aside0 (Below w.heap.size w w'))
     case atStart => exact ⟨(a1_1), (([] : List Int)), (.slice none 0 0), (by first | rfl | (simp; done) | (simp [*]; done)), H', ⟨Nat.le_refl _⟩, ⟨by first | exact Kd.R_nil _ _ _ _ _ | exact Kd.N_nil _ _ _ _ _ | exact Kd.V_nil _ _ _ _ _ | exact Kd.Q_nil _ _ _ _ _ | exact Kd.S_nil _ _ _ _ _⟩, ⟨by (with_reducible repeat (first | refine blk_drewN ?_ _ | refine blk_drew ?_ | refine blk_alloc ?_ _)); refine blk_far ?_ NB451_457.out _; (with_reducible repeat (first | refine blk_drewN ?_ _ | refine blk_drew ?_ | refine blk_alloc ?_ _)); refine blk_far ?_ NB451_457.out _; (with_reducible repeat (first | refine blk_drewN ?_ _ | refine blk_drew ?_ | refine blk_alloc ?_ _)); refine blk_far ?_ NB451_457.out _; (with_reducible repeat (first | refine blk_drewN ?_ _ | refine blk_drew ?_ | refine blk_alloc ?_ _)); refine blk_far ?_ NB451_457.out _; (with_reducible repeat (first | refine blk_drewN ?_ _ | refine blk_drew ?_ | refine blk_alloc ?_ _)); refine blk_far ?_ NB451_457.out _; (with_reducible repeat (first | refine blk_drewN ?_ _ | refine blk_drew ?_ | refine blk_alloc ?_ _)); exact BK451.out⟩, ⟨by (with_reducible repeat (first | refine blk_drewN ?_ _ | refine blk_drew ?_ | refine blk_alloc ?_ _)); refine blk_far ?_ NB452_457.out _; (with_reducible repeat (first | refine blk_drewN ?_ _ | refine blk_drew ?_ | refine blk_alloc ?_ _)); refine blk_far ?_ NB452_457.out _; (with_reducible repeat (first | refine blk_drewN ?_ _ | refine blk_drew ?_ | refine blk_alloc ?_ _)); refine blk_far ?_ NB452_457.out _; (with_reducible repeat (first | refine blk_drewN ?_ _ | refine blk_drew ?_ | refine blk_alloc ?_ _)); refine blk_far ?_ NB452_457.out _; (with_reducible repeat (first | refine blk_drewN ?_ _ | refine blk_drew ?_ | refine blk_alloc ?_ _)); refine blk_far ?_ NB452_457.out _; (with_reducible repeat (first | refine blk_drewN ?_ _ | refine blk_drew ?_ | refine blk_alloc ?_ _)); exact BK452.out⟩, ⟨by (with_reducible repeat (first | refine blk_drewN ?_ _ | refine blk_drew ?_ | refine blk_alloc ?_ _)); refine blk_far ?_ NB453_457.out _; (with_reducible repeat (first | refine blk_drewN ?_ _ | refine blk_drew ?_ | refine blk_alloc ?_ _)); refine blk_far ?_ NB453_457.out _; (with_reducible repeat (first | refine blk_drewN ?_ _ | refine blk_drew ?_ | refine blk_alloc ?_ _)); refine blk_far ?_ NB453_457.out _; (with_reducible repeat (first | refine blk_drewN ?_ _ | refine blk_drew ?_ | refine blk_alloc ?_ _)); refine blk_far ?_ NB453_457.out _; (with_reducible repeat (first | refine blk_drewN ?_ _ | refine blk_drew ?_ | refine blk_alloc ?_ _)); refine blk_far ?_ NB453_457.out _; (with_reducible repeat (first | refine blk_drewN ?_ _ | refine blk_drew ?_ | refine blk_alloc ?_ _)); exact BK453.out⟩, ⟨by (with_reducible repeat (first | refine blk_drewN ?_ _ | refine blk_drew ?_ | refine blk_alloc ?_ _)); refine blk_put (cs := #[.int .i64 a1_0, .int .i64 a1_1, .int .i64 a1_2, .int .i64 a1_3, .slice none 0 0]) ?_ 4 _ rfl; (with_reducible repeat (first | refine blk_drewN ?_ _ | refine blk_drew ?_ | refine blk_alloc ?_ _)); refine blk_put (cs := #[.int .i64 a1_0, .int .i64 a1_1, .int .i64 a1_2, .int .i64 0, .slice none 0 0]) ?_ 3 _ rfl; (with_reducible repeat (first | refine blk_drewN ?_ _ | refine blk_drew ?_ | refine blk_alloc ?_ _)); refine blk_put (cs := #[.int .i64 a1_0, .int .i64 a1_1, .int .i64 0, .int .i64 0, .slice none 0 0]) ?_ 2 _ rfl; (with_reducible repeat (first | refine blk_drewN ?_ _ | refine blk_drew ?_ | refine blk_alloc ?_ _)); refine blk_put (cs := #[.int .i64 a1_0, .int .i64 0, .int .i64 0, .int .i64 0, .slice none 0 0]) ?_ 1 _ rfl; (with_reducible repeat (first | refine blk_drewN ?_ _ | refine blk_drew ?_ | refine blk_alloc ?_ _)); refine blk_put (cs := #[.int .i64 0, .int .i64 0, .int .i64 0, .int .i64 0, .slice none 0 0]) ?_ 0 _ rfl; (with_reducible repeat (first | refine blk_drewN ?_ _ | refine blk_drew ?_ | refine blk_alloc ?_ _)); exact BK457.out⟩, ⟨by repeat (first | (with_reducible first | exact HB.out | apply below_alloc | apply pw_below_drewN | apply below_drew1 | refine below_set ?_ GE451.out | refine below_set ?_ GE452.out | refine below_set ?_ GE453.out | refine below_set ?_ GE457.out) | exact HB.out)⟩⟩
     case round =>
      clear H'
      try clear c1; try clear c2; try clear p2; try clear c3; try clear c4; try clear c9; try clear c10; try clear c14; try clear c16; try clear c17; try clear c20; try clear c21; try clear c24; try clear c25; try clear c28; try clear c29; try clear c30; try clear c32; try clear c33; try clear c36; try clear c37; try clear c38; try clear c40; try clear hcz11_0; try clear hcz11_1; try clear hcz11_2; try clear hcz11_3; try clear hcz11_4; try clear hcz18_0; try clear hcz18_1; try clear hcz18_2; try clear hcz18_3; try clear hcz21_0; try clear hcz21_1; try clear hcz21_2; try clear hcz21_3; try clear hcz21_4; try clear hcz22_0; try clear hcz22_1; try clear hcz22_2; try clear hcz22_3; try clear hcz26_0; try clear hcz26_1; try clear hcz26_2; try clear hcz26_3; try clear hcz31_0; try clear hcz31_1; try clear hcz31_2; try clear hcz31_3; try clear hcz31_4; try clear hcz34_0; try clear hcz34_1; try clear hcz34_2; try clear hcz34_3; try clear hcz39_0; try clear hcz39_1; try clear hcz39_2; try clear hcz39_3; try clear hcz39_4; try clear hcz40_0; try clear hcz40_1; try clear hcz40_2; try clear hcz40_3; try clear hfz11_0; try clear hfz11_1; try clear hfz11_2; try clear hfz11_3; try clear hfz11_4; try clear hfz18_0; try clear hfz18_1; try clear hfz18_2; try clear hfz18_3; try clear hfz21_0; try clear hfz21_1; try clear hfz21_2; try clear hfz21_3; try clear hfz21_4; try clear hfz22_0; try clear hfz22_1; try clear hfz22_2; try clear hfz22_3; try clear hfz26_0; try clear hfz26_1; try clear hfz26_2; try clear hfz26_3; try clear hfz31_0; try clear hfz31_1; try clear hfz31_2; try clear hfz31_3; try clear hfz31_4; try clear hfz34_0; try clear hfz34_1; try clear hfz34_2; try clear hfz34_3; try clear hfz39_0; try clear hfz39_1; try clear hfz39_2; try clear hfz39_3; try clear hfz39_4; try clear hfz40_0; try clear hfz40_1; try clear hfz40_2; try clear hfz40_3; try clear p2
      obtain ⟨x7_2, x458004_2, u458004, rfl, HA, HK2, HO_458004, BK451, BK452, BK453, BK457, HB⟩ := hrel
      cases gk with
      | zero => exact absurd HA.out (by simp [waveletref02_Crop.l0])
      | succ k2 =>
       have H := HA.out
       clear HA
       simp only [waveletref02_Crop.l0] at H
       by_cases c41 : x7_2 < a1_3
       ·rw [if_pos c41] at H
        have c41b0 : decide (x7_2 < a1_3) = true := decide_eq_true c41
        clear c41
        have H' := Aside0.mk H
        clear H
        have hnb42 := NB452_451.out
        have hnc42 := NB451_452.out
        have hnb43 := NB452_453.out
        have hnc43 := NB453_452.out
        have hnb44 := NB452_457.out
        have hnc44 := NB457_452.out
        have hcz45_0 : wr.cell? ⟨gb452, 0, none⟩ = some (.int .i64 a1_0) := bc BK452 0
        have hcz45_1 : wr.cell? ⟨gb452, 1, none⟩ = some (.int .i64 a1_1) := bc BK452 1
        have hcz45_2 : wr.cell? ⟨gb452, 2, none⟩ = some (.int .i64 a1_2) := bc BK452 2
        have hcz45_3 : wr.cell? ⟨gb452, 3, none⟩ = some (.int .i64 a1_3) := bc BK452 3
        have hfz45_0 := blk_frozen BK452.out 0
        have hfz45_1 := blk_frozen BK452.out 1
        have hfz45_2 := blk_frozen BK452.out 2
        have hfz45_3 := blk_frozen BK452.out 3
        go_wp2
        go_loopg [8] k2 (fun kq v8 w' => ∃ (x8_3 : Int) (x458004_3 : List Int) (u458004 : Value), v8 = .int .i64 x8_3 ∧ Aside0 (waveletref02_Crop.l1 kq x7_2 x8_3 a0_0 a0_1 a0_2 a0_3 l0_4 a1_0 a1_1 a1_2 a1_3 a1_0 a1_1 a1_2 a1_3 x458004_3 = some (r1, r2, r3, r4, r5, r6)) ∧ Aside0 (kq ≤ k2) ∧ Aside0 (Kd.R (Kd.int .i64) 3 w' w.heap.size (fun _ => True) u458004 x458004_3) ∧ Aside0 (w'.heap[gb451]? = some (.cells #[.int .i64 a0_0, .int .i64 a0_1, .int .i64 a0_2, .int .i64 a0_3, (.slice A0_4 l0_4.length c0_4)] 26 (0, 0))) ∧ Aside0 (w'.heap[gb452]? = some (.cells #[.int .i64 a1_0, .int .i64 a1_1, .int .i64 a1_2, .int .i64 a1_3] 23 (0, 0))) ∧ Aside0 (w'.heap[gb453]? = some (.cells #[.int .i64 0, .int .i64 0, .int .i64 0, .int .i64 0, (.slice none 0 0)] 26 (0, 0))) ∧ Aside0 (w'.heap[gb457]? = some (.cells #[.int .i64 a1_0, .int .i64 a1_1, .int .i64 a1_2, .int .i64 a1_3, u458004] 26 (0, 0))) ∧ Aside0 (Below w.heap.size w w'))
        case atStart => exact ⟨(a1_0), (x458004_2), (u458004), (by first | rfl | (simp; done) | (simp [*]; done)), H', ⟨Nat.le_refl _⟩, ⟨by (with_reducible repeat (first | apply Kd.R_alloc | apply Kd.R_drewN | apply Kd.R_drew)); exact HO_458004.out⟩, ⟨by (with_reducible repeat (first | refine blk_drewN ?_ _ | refine blk_drew ?_ | refine blk_alloc ?_ _)); exact BK451.out⟩, ⟨by (with_reducible repeat (first | refine blk_drewN ?_ _ | refine blk_drew ?_ | refine blk_alloc ?_ _)); exact BK452.out⟩, ⟨by (with_reducible repeat (first | refine blk_drewN ?_ _ | refine blk_drew ?_ | refine blk_alloc ?_ _)); exact BK453.out⟩, ⟨by (with_reducible repeat (first | refine blk_drewN ?_ _ | refine blk_drew ?_ | refine blk_alloc ?_ _)); exact BK457.out⟩, ⟨by repeat (first | (with_reducible first | exact HB.out | apply below_alloc | apply pw_below_drewN | apply below_drew1 | refine below_set ?_ GE451.out | refine below_set ?_ GE452.out | refine below_set ?_ GE453.out | refine below_set ?_ GE457.out) | exact HB.out)⟩⟩
        case round =>
         clear H'
         try clear c1; try clear c2; try clear p2; try clear c3; try clear c4; try clear c9; try clear c10; try clear c14; try clear c16; try clear c17; try clear c20; try clear c21; try clear c24; try clear c25; try clear c28; try clear c29; try clear c30; try clear c32; try clear c33; try clear c36; try clear c37; try clear c38; try clear c40; try clear c41; try clear c41b0; try clear c42; try clear c43; try clear c44; try clear hcz11_0; try clear hcz11_1; try clear hcz11_2; try clear hcz11_3; try clear hcz11_4; try clear hcz18_0; try clear hcz18_1; try clear hcz18_2; try clear hcz18_3; try clear hcz21_0; try clear hcz21_1; try clear hcz21_2; try clear hcz21_3; try clear hcz21_4; try clear hcz22_0; try clear hcz22_1; try clear hcz22_2; try clear hcz22_3; try clear hcz26_0; try clear hcz26_1; try clear hcz26_2; try clear hcz26_3; try clear hcz31_0; try clear hcz31_1; try clear hcz31_2; try clear hcz31_3; try clear hcz31_4; try clear hcz34_0; try clear hcz34_1; try clear hcz34_2; try clear hcz34_3; try clear hcz39_0; try clear hcz39_1; try clear hcz39_2; try clear hcz39_3; try clear hcz39_4; try clear hcz40_0; try clear hcz40_1; try clear hcz40_2; try clear hcz40_3; try clear hcz45_0; try clear hcz45_1; try clear hcz45_2; try clear hcz45_3; try clear hfz11_0; try clear hfz11_1; try clear hfz11_2; try clear hfz11_3; try clear hfz11_4; try clear hfz18_0; try clear hfz18_1; try clear hfz18_2; try clear hfz18_3; try clear hfz21_0; try clear hfz21_1; try clear hfz21_2; try clear hfz21_3; try clear hfz21_4; try clear hfz22_0; try clear hfz22_1; try clear hfz22_2; try clear hfz22_3; try clear hfz26_0; try clear hfz26_1; try clear hfz26_2; try clear hfz26_3; try clear hfz31_0; try clear hfz31_1; try clear hfz31_2; try clear hfz31_3; try clear hfz31_4; try clear hfz34_0; try clear hfz34_1; try clear hfz34_2; try clear hfz34_3; try clear hfz39_0; try clear hfz39_1; try clear hfz39_2; try clear hfz39_3; try clear hfz39_4; try clear hfz40_0; try clear hfz40_1; try clear hfz40_2; try clear hfz40_3; try clear hfz45_0; try clear hfz45_1; try clear hfz45_2; try clear hfz45_3; try clear p2
         obtain ⟨x8_3, x458004_3, u458004, rfl, HA, HK3, HO_458004, BK451, BK452, BK453, BK457, HB⟩ := hrel
         cases gk with
         | zero => exact absurd HA.out (by simp [waveletref02_Crop.l1])
         | succ k3 =>
          have H := HA.out
          clear HA
          simp only [waveletref02_Crop.l1] at H
          by_cases c46 : x8_3 < a1_2
          ·rw [if_pos c46] at H
           have c46b0 : decide (x8_3 < a1_2) = true := decide_eq_true c46
           clear c46
           replace H := Option.bind_eq_some_iff.mp H
           obtain ⟨t458, A470, H⟩ := H
           replace H : (if x458004_3.length < 17592186044416 then (waveletref02_Crop.l1 k3 x7_2 (wrap64 (x8_3 + 1)) a0_0 a0_1 a0_2 a0_3 l0_4 a1_0 a1_1 a1_2 a1_3 a1_0 a1_1 a1_2 a1_3 (x458004_3 ++ [t458])) else (none)) = some (r1, r2, r3, r4, r5, r6) := H
           have A47 := Aside0.mk A470
           clear A470
           by_cases c48 : x458004_3.length < 17592186044416
           ·rw [if_pos c48] at H
            have LMc48 := Aside0.mk c48
            clear c48
            obtain ⟨y459, hy459⟩ : ∃ y_ : List Int, y_ = (x458004_3 ++ [t458]) := ⟨_, rfl⟩
            replace H : (waveletref02_Crop.l1 k3 x7_2 (wrap64 (x8_3 + 1)) a0_0 a0_1 a0_2 a0_3 l0_4 a1_0 a1_1 a1_2 a1_3 a1_0 a1_1 a1_2 a1_3 y459) = some (r1, r2, r3, r4, r5, r6) := by first | (rw [hy459]; with_reducible exact H) | (have H2_ := (Option.bind_some _ _).symm.trans H; rw [hy459]; with_reducible exact H2_) | (have H2_ := (Option.bind_some _ _).symm.trans H; with_reducible exact H2_) | with_reducible exact H | (rw [hy459]; exact H) | exact H
            have Ny459 := Aside0.mk hy459
            clear hy459
            have H' := Aside0.mk H
            clear H
            have hnb49 := NB452_451.out
            have hnc49 := NB451_452.out
            have hnb50 := NB452_453.out
            have hnc50 := NB453_452.out
            have hnb51 := NB452_457.out
            have hnc51 := NB457_452.out
            have hcz52_0 : wr.cell? ⟨gb452, 0, none⟩ = some (.int .i64 a1_0) := bc BK452 0
            have hcz52_1 : wr.cell? ⟨gb452, 1, none⟩ = some (.int .i64 a1_1) := bc BK452 1
            have hcz52_2 : wr.cell? ⟨gb452, 2, none⟩ = some (.int .i64 a1_2) := bc BK452 2
            have hcz52_3 : wr.cell? ⟨gb452, 3, none⟩ = some (.int .i64 a1_3) := bc BK452 3
            have hfz52_0 := blk_frozen BK452.out 0
            have hfz52_1 := blk_frozen BK452.out 1
            have hfz52_2 := blk_frozen BK452.out 2
            have hfz52_3 := blk_frozen BK452.out 3
            try go_wp2
            replace HO_458004 := Aside0.mk (Kd.R_drew HO_458004.out)
            replace BK451 := Aside0.mk (blk_drew BK451.out)
            replace BK452 := Aside0.mk (blk_drew BK452.out)
            replace BK453 := Aside0.mk (blk_drew BK453.out)
            replace BK457 := Aside0.mk (blk_drew BK457.out)
            replace HB := Aside0.mk (below_drew1 HB.out)
            refine start_ (n := 10) (S := fun w' => ce w' gb457 0 (.int .i64 a1_0) ∧ ce w' gb457 1 (.int .i64 a1_1) ∧ ce w' gb457 2 (.int .i64 a1_2) ∧ ce w' gb457 3 (.int .i64 a1_3) ∧ ce w' gb457 4 (u458004) ∧ ce w' gb451 0 (.int .i64 a0_0) ∧ ce w' gb451 1 (.int .i64 a0_1) ∧ ce w' gb451 2 (.int .i64 a0_2) ∧ ce w' gb451 3 (.int .i64 a0_3) ∧ ce w' gb451 4 (.slice A0_4 l0_4.length c0_4)) (ds := [9]) #[false, false, false, false, false, false, false, false, false, false] (by kernel_rfl) rfl rfl ⟨bc BK457 0, bc BK457 1, bc BK457 2, bc BK457 3, bc BK457 4, bc BK451 0, bc BK451 1, bc BK451 2, bc BK451 3, bc BK451 4⟩ (fun hHeld => ?_); refine with_tabW waveletref02_Crop.tab12 waveletref02_Crop.bits12 (fun HT_ HW_ => ?_)
            generalize wr.drew = w53 at HO_458004 BK451 BK452 BK453 BK457 HB hHeld ⊢
            refine puX 0 42 (MK [1, 9]) HT_.out ?_
            refine puX 3 45 (MK [1, 2, 1, 6]) HT_.out ?_
            refine puX 4 46 (MK [1, 2, 2, 5]) HT_.out ?_
            refine taX 1 43 (MK [2, 1, 2, 5]) HT_.out HW_.out hHeld ?_
            refine taX 2 44 (MK [5, 5]) HT_.out HW_.out hHeld ?_
            refine onX 5 47 (MK [6, 4]) HT_.out (fun K hK => ?_)
            refine goes_ Try.func45 (by kernel_rfl) rfl #[.agg #[.int .i64 a0_0, .int .i64 a0_1, .int .i64 a0_2, .int .i64 a0_3, .slice A0_4 l0_4.length c0_4], .int .i64 x8_3, .int .i64 x7_2] (by rfl) rfl rfl upL ?_
            with_reducible refine (waveletref02_Get.calls a0_0 a0_1 a0_2 a0_3 _ _ l0_4 x8_3 x7_2 t458 _ ?side1 ?side2 A47.out).mono ?_
            (case side1 => repeat (first | exact (Kd.C_below HR0_4.out HB.out) | (with_reducible refine Kd.C_alloc ?_ _) | (with_reducible refine Kd.C_drewN ?_ _) | (with_reducible refine Kd.C_drew ?_)))
            (case side2 => exact HC0_4.out)
            rintro e w54 ⟨rfl, hb⟩
            refine ⟨_, rfl, ?_⟩
            replace HO_458004 := Aside0.mk (Kd.R_below (upR HO_458004.out) hb)
            replace BK451 := Aside0.mk (blk_below (g := gb451) (o := .cells #[.int .i64 a0_0, .int .i64 a0_1, .int .i64 a0_2, .int .i64 a0_3, .slice A0_4 l0_4.length c0_4] 26 (0, 0)) (upK BK451.out) hb)
            replace BK452 := Aside0.mk (blk_below (g := gb452) (o := .cells #[.int .i64 a1_0, .int .i64 a1_1, .int .i64 a1_2, .int .i64 a1_3] 23 (0, 0)) (upK BK452.out) hb)
            replace BK453 := Aside0.mk (blk_below (g := gb453) (o := .cells #[.int .i64 0, .int .i64 0, .int .i64 0, .int .i64 0, .slice none 0 0] 26 (0, 0)) (upK BK453.out) hb)
            replace BK457 := Aside0.mk (blk_below (g := gb457) (o := .cells #[.int .i64 a1_0, .int .i64 a1_1, .int .i64 a1_2, .int .i64 a1_3, u458004] 26 (0, 0)) (upK BK457.out) hb)
            replace HB := Aside0.mk (below_step (upB HB.out) hb)
            (try clear hb); (try clear hb2); (try clear hk); (try clear hi)
            refine hK.out _ _ ⟨bc BK457 0, bc BK457 1, bc BK457 2, bc BK457 3, bc BK457 4, bc BK451 0, bc BK451 1, bc BK451 2, bc BK451 3, bc BK451 4⟩ (fun hHeld => ?_)
            clear hK K
            refine noX ?_
            refine onX 6 48 (MK [7, 3]) HT_.out (fun K hK => ?_)
            refine value_ (w1 := ?_) (v := ?_) (by rfl) rfl ?_ ?_
            rotate_left 2
            ·go_simp
             constructor
             ·rfl
             ·rfl
            refine hK.out _ _ ⟨(blk_cell (blk_alloc BK457.out _) 0).trans rfl, (blk_cell (blk_alloc BK457.out _) 1).trans rfl, (blk_cell (blk_alloc BK457.out _) 2).trans rfl, (blk_cell (blk_alloc BK457.out _) 3).trans rfl, (blk_cell (blk_alloc BK457.out _) 4).trans rfl, (blk_cell (blk_alloc BK451.out _) 0).trans rfl, (blk_cell (blk_alloc BK451.out _) 1).trans rfl, (blk_cell (blk_alloc BK451.out _) 2).trans rfl, (blk_cell (blk_alloc BK451.out _) 3).trans rfl, (blk_cell (blk_alloc BK451.out _) 4).trans rfl⟩ (fun hHeld => ?_)
            clear hK K
            refine noX ?_
            refine onX 7 49 (MK [8, 2]) HT_.out (fun K hK => ?_)
            refine Kd.R_append_step (Kd.int .i64) (w0 := w) w.heap.size (by rfl) (.tmp 43) (.tmp 48) 24 3 (.int .i64 0) 8 rfl Try.underlying24 info3 rfl (by decide) (by omega) u458004 x458004_3 t458 [.int .i64 t458] (fun _ => True) (fun _ => False) rfl rfl ?aP (fun _ hk => hk.elim) ?aF ?aO ?aB ?aS ?aL ?_
            (case aP => exact rfl)
            (case aB => exact (upB HB.out))
            (case aF => exact (fun _ _ => trivial))
            (case aO => exact (upR HO_458004.out))
            (case aS => exact (below_size (upB HB.out)))
            (case aL => have := LMc48.out; omega)
            intro v460 w55 ho hb hg hat
            rw [← Ny459.out] at ho
            have n0_ := Aside0.mk (blk_grown (g := gb451) (o := .cells #[.int .i64 a0_0, .int .i64 a0_1, .int .i64 a0_2, .int .i64 a0_3, .slice A0_4 l0_4.length c0_4] 26 (0, 0)) (upK BK451.out) hg (Kd.R_ne HO_458004.out BK451.out (by decide)))
            have n1_ := Aside0.mk (blk_grown (g := gb452) (o := .cells #[.int .i64 a1_0, .int .i64 a1_1, .int .i64 a1_2, .int .i64 a1_3] 23 (0, 0)) (upK BK452.out) hg (Kd.R_ne HO_458004.out BK452.out (by decide)))
            have n2_ := Aside0.mk (blk_grown (g := gb453) (o := .cells #[.int .i64 0, .int .i64 0, .int .i64 0, .int .i64 0, .slice none 0 0] 26 (0, 0)) (upK BK453.out) hg (Kd.R_ne HO_458004.out BK453.out (by decide)))
            have n3_ := Aside0.mk (blk_grown (g := gb457) (o := .cells #[.int .i64 a1_0, .int .i64 a1_1, .int .i64 a1_2, .int .i64 a1_3, u458004] 26 (0, 0)) (upK BK457.out) hg (Kd.R_ne HO_458004.out BK457.out (by decide)))
            have n4_ := Aside0.mk (hb)
            have n5_ := Aside0.mk (ho)
            clear BK451
            clear BK452
            clear BK453
            clear BK457
            clear HB
            clear HO_458004
            have BK451 := n0_
            have BK452 := n1_
            have BK453 := n2_
            have BK457 := n3_
            have HB := n4_
            have HO461 := n5_
            clear n0_ n1_ n2_ n3_ n4_ n5_
            clear ho hb hg hat
            obtain ⟨Ao56, co56, eo56⟩ := Kd.R_slice HO461.out
            (first | subst eo56 | (injection eo56 with f1_ f2_ f3_; have f4_ := f1_.symm; have f5_ := f3_.symm; clear f1_ f2_ f3_; subst f4_; subst f5_))
            refine hK.out _ _ ⟨bc BK457 0, bc BK457 1, bc BK457 2, bc BK457 3, bc BK457 4, bc BK451 0, bc BK451 1, bc BK451 2, bc BK451 3, bc BK451 4⟩ (fun hHeld => ?_)
            clear hK K
            refine noX ?_
            refine puX 8 50 (MK [9, 1]) HT_.out ?_
            refine last_ (i := 9) (N := none) #[true, true, true, true, true, true, true, true, true, true] rfl rfl (one_of HT_.out (by kernel_rfl)) (by decide) (fun K hK => ?_)
            have hs57 : w55.cell? ⟨gb457, 4, none⟩ = some (u458004) := bc BK457 4
            have hfs57 := blk_frozen BK457.out 4
            have hns57_0 := NB451_457.out
            have hns57_1 := NB452_457.out
            have hns57_2 := NB453_457.out
            have hms57_0 := NB457_451.out
            have hms57_1 := NB457_452.out
            have hms57_2 := NB457_453.out
            refine skip_ (w1 := ?_) (by rfl) rfl ?_ ?_
            rotate_left
            ·go_simp
             rfl
            refine hK.out _ _ ?_
            clear hK K
            refine done_ (done_of HT_.out (by kernel_rfl)) ?_
            try go_wp2
            go_roundg k3
            case measure => have := HJ4.out; have := HK2.out; have := HK3.out; omega
            case rel => exact ⟨(wrap64 (x8_3 + 1)), (y459), (.slice Ao56 y459.length co56), (by first | rfl | (simp; done) | (simp [*]; done)), H', ⟨by have := HJ4.out; have := HK2.out; have := HK3.out; omega⟩, ⟨by (with_reducible repeat (first | apply Kd.R_alloc | apply Kd.R_drewN | apply Kd.R_drew)); exact Kd.R_mono (Kd.R_far (p := ⟨gb457, 4, none⟩) (Kd.R_types HO461.out BK457.out (by decide)) (fun _ hk => hk.2) (.slice Ao56 y459.length co56)) (fun _ hk => trivial)⟩, ⟨by (with_reducible repeat (first | refine blk_drewN ?_ _ | refine blk_drew ?_ | refine blk_alloc ?_ _)); refine blk_far ?_ NB451_457.out _; (with_reducible repeat (first | refine blk_drewN ?_ _ | refine blk_drew ?_ | refine blk_alloc ?_ _)); exact BK451.out⟩, ⟨by (with_reducible repeat (first | refine blk_drewN ?_ _ | refine blk_drew ?_ | refine blk_alloc ?_ _)); refine blk_far ?_ NB452_457.out _; (with_reducible repeat (first | refine blk_drewN ?_ _ | refine blk_drew ?_ | refine blk_alloc ?_ _)); exact BK452.out⟩, ⟨by (with_reducible repeat (first | refine blk_drewN ?_ _ | refine blk_drew ?_ | refine blk_alloc ?_ _)); refine blk_far ?_ NB453_457.out _; (with_reducible repeat (first | refine blk_drewN ?_ _ | refine blk_drew ?_ | refine blk_alloc ?_ _)); exact BK453.out⟩, ⟨by (with_reducible repeat (first | refine blk_drewN ?_ _ | refine blk_drew ?_ | refine blk_alloc ?_ _)); refine blk_put (cs := #[.int .i64 a1_0, .int .i64 a1_1, .int .i64 a1_2, .int .i64 a1_3, u458004]) ?_ 4 _ rfl; (with_reducible repeat (first | refine blk_drewN ?_ _ | refine blk_drew ?_ | refine blk_alloc ?_ _)); exact BK457.out⟩, ⟨by repeat (first | (with_reducible first | exact HB.out | apply below_alloc | apply pw_below_drewN | apply below_drew1 | refine below_set ?_ GE451.out | refine below_set ?_ GE452.out | refine below_set ?_ GE453.out | refine below_set ?_ GE457.out) | exact HB.out)⟩⟩
           ·rw [if_neg c48] at H
            exact absurd H (by simp)
          ·rw [if_neg c46] at H
           have c46b0 : decide (x8_3 < a1_2) = false := decide_eq_false c46
           clear c46
           have H' := Aside0.mk H
           clear H
           have hnb58 := NB452_451.out
           have hnc58 := NB451_452.out
           have hnb59 := NB452_453.out
           have hnc59 := NB453_452.out
           have hnb60 := NB452_457.out
           have hnc60 := NB457_452.out
           have hcz61_0 : wr.cell? ⟨gb452, 0, none⟩ = some (.int .i64 a1_0) := bc BK452 0
           have hcz61_1 : wr.cell? ⟨gb452, 1, none⟩ = some (.int .i64 a1_1) := bc BK452 1
           have hcz61_2 : wr.cell? ⟨gb452, 2, none⟩ = some (.int .i64 a1_2) := bc BK452 2
           have hcz61_3 : wr.cell? ⟨gb452, 3, none⟩ = some (.int .i64 a1_3) := bc BK452 3
           have hfz61_0 := blk_frozen BK452.out 0
           have hfz61_1 := blk_frozen BK452.out 1
           have hfz61_2 := blk_frozen BK452.out 2
           have hfz61_3 := blk_frozen BK452.out 3
           go_wp2
           go_roundg k3
           case measure => have := HJ4.out; have := HK2.out; have := HK3.out; omega
           case rel => exact ⟨(wrap64 (x7_2 + 1)), (x458004_3), (u458004), (by first | rfl | (simp; done) | (simp [*]; done)), H', ⟨by have := HJ4.out; have := HK2.out; have := HK3.out; omega⟩, ⟨by (with_reducible repeat (first | apply Kd.R_alloc | apply Kd.R_drewN | apply Kd.R_drew)); exact HO_458004.out⟩, ⟨by (with_reducible repeat (first | refine blk_drewN ?_ _ | refine blk_drew ?_ | refine blk_alloc ?_ _)); exact BK451.out⟩, ⟨by (with_reducible repeat (first | refine blk_drewN ?_ _ | refine blk_drew ?_ | refine blk_alloc ?_ _)); exact BK452.out⟩, ⟨by (with_reducible repeat (first | refine blk_drewN ?_ _ | refine blk_drew ?_ | refine blk_alloc ?_ _)); exact BK453.out⟩, ⟨by (with_reducible repeat (first | refine blk_drewN ?_ _ | refine blk_drew ?_ | refine blk_alloc ?_ _)); exact BK457.out⟩, ⟨by repeat (first | (with_reducible first | exact HB.out | apply below_alloc | apply pw_below_drewN | apply below_drew1 | refine below_set ?_ GE451.out | refine below_set ?_ GE452.out | refine below_set ?_ GE453.out | refine below_set ?_ GE457.out) | exact HB.out)⟩⟩
       ·rw [if_neg c41] at H
        have c41b0 : decide (x7_2 < a1_3) = false := decide_eq_false c41
        clear c41
        simp only [Option.some.injEq, Prod.mk.injEq] at H
        obtain ⟨rfl, rfl, rfl, rfl, rfl, rfl⟩ := H
        have hnb62 := NB452_451.out
        have hnc62 := NB451_452.out
        have hnb63 := NB452_453.out
        have hnc63 := NB453_452.out
        have hnb64 := NB452_457.out
        have hnc64 := NB457_452.out
        have hcz65_0 : wr.cell? ⟨gb452, 0, none⟩ = some (.int .i64 a1_0) := bc BK452 0
        have hcz65_1 : wr.cell? ⟨gb452, 1, none⟩ = some (.int .i64 a1_1) := bc BK452 1
        have hcz65_2 : wr.cell? ⟨gb452, 2, none⟩ = some (.int .i64 a1_2) := bc BK452 2
        have hcz65_3 : wr.cell? ⟨gb452, 3, none⟩ = some (.int .i64 a1_3) := bc BK452 3
        have hfz65_0 := blk_frozen BK452.out 0
        have hfz65_1 := blk_frozen BK452.out 1
        have hfz65_2 := blk_frozen BK452.out 2
        have hfz65_3 := blk_frozen BK452.out 3
        have hnb66 := NB457_451.out
        have hnc66 := NB451_457.out
        have hnb67 := NB457_453.out
        have hnc67 := NB453_457.out
        have hcz68_0 : wr.cell? ⟨gb457, 0, none⟩ = some (.int .i64 a1_0) := bc BK457 0
        have hcz68_1 : wr.cell? ⟨gb457, 1, none⟩ = some (.int .i64 a1_1) := bc BK457 1
        have hcz68_2 : wr.cell? ⟨gb457, 2, none⟩ = some (.int .i64 a1_2) := bc BK457 2
        have hcz68_3 : wr.cell? ⟨gb457, 3, none⟩ = some (.int .i64 a1_3) := bc BK457 3
        have hcz68_4 : wr.cell? ⟨gb457, 4, none⟩ = some (u458004) := bc BK457 4
        have hfz68_0 := blk_frozen BK457.out 0
        have hfz68_1 := blk_frozen BK457.out 1
        have hfz68_2 := blk_frozen BK457.out 2
        have hfz68_3 := blk_frozen BK457.out 3
        have hfz68_4 := blk_frozen BK457.out 4
        have hnb69 := NB453_451.out
        have hnc69 := NB451_453.out
        have hcz70_0 : wr.cell? ⟨gb453, 0, none⟩ = some (.int .i64 0) := bc BK453 0
        have hcz70_1 : wr.cell? ⟨gb453, 1, none⟩ = some (.int .i64 0) := bc BK453 1
        have hcz70_2 : wr.cell? ⟨gb453, 2, none⟩ = some (.int .i64 0) := bc BK453 2
        have hcz70_3 : wr.cell? ⟨gb453, 3, none⟩ = some (.int .i64 0) := bc BK453 3
        have hcz70_4 : wr.cell? ⟨gb453, 4, none⟩ = some (.slice none 0 0) := bc BK453 4
        have hfz70_0 := blk_frozen BK453.out 0
        have hfz70_1 := blk_frozen BK453.out 1
        have hfz70_2 := blk_frozen BK453.out 2
        have hfz70_3 := blk_frozen BK453.out 3
        have hfz70_4 := blk_frozen BK453.out 4
        obtain ⟨Ao71, co71, eo71⟩ := Kd.R_slice HO_458004.out
        subst eo71
        go_wp2
        refine bodyPost_ret (results_ct rfl _ _ gb453 26 #[.int .i64 a1_0, .int .i64 a1_1, .int .i64 a1_2, .int .i64 a1_3, .slice Ao71 x458004_2.length co71] (0, 0) _ rfl (by (with_reducible repeat (first | refine blk_drewN ?_ _ | refine blk_drew ?_ | refine blk_alloc ?_ _)); refine blk_put (cs := #[.int .i64 a1_0, .int .i64 a1_1, .int .i64 a1_2, .int .i64 a1_3, .slice none 0 0]) ?_ 4 _ rfl; (with_reducible repeat (first | refine blk_drewN ?_ _ | refine blk_drew ?_ | refine blk_alloc ?_ _)); refine blk_put (cs := #[.int .i64 a1_0, .int .i64 a1_1, .int .i64 a1_2, .int .i64 0, .slice none 0 0]) ?_ 3 _ rfl; (with_reducible repeat (first | refine blk_drewN ?_ _ | refine blk_drew ?_ | refine blk_alloc ?_ _)); refine blk_put (cs := #[.int .i64 a1_0, .int .i64 a1_1, .int .i64 0, .int .i64 0, .slice none 0 0]) ?_ 2 _ rfl; (with_reducible repeat (first | refine blk_drewN ?_ _ | refine blk_drew ?_ | refine blk_alloc ?_ _)); refine blk_put (cs := #[.int .i64 a1_0, .int .i64 0, .int .i64 0, .int .i64 0, .slice none 0 0]) ?_ 1 _ rfl; (with_reducible repeat (first | refine blk_drewN ?_ _ | refine blk_drew ?_ | refine blk_alloc ?_ _)); refine blk_put (cs := #[.int .i64 0, .int .i64 0, .int .i64 0, .int .i64 0, .slice none 0 0]) ?_ 0 _ rfl; (with_reducible repeat (first | refine blk_drewN ?_ _ | refine blk_drew ?_ | refine blk_alloc ?_ _)); exact BK453.out) Try.underlying26 rfl (by kernel_rfl)) rfl ?_
        exact ⟨_, by first | rfl | (simp [errW_none, errW_some] <;> rfl) | (simp [*, errW_none, errW_some] <;> rfl), by (with_reducible repeat (first | apply Kd.R_alloc | apply Kd.R_drewN | apply Kd.R_drew)); exact Kd.R_mono (Kd.R_far (p := ⟨gb453, 4, none⟩) (Kd.R_far (p := ⟨gb453, 3, none⟩) (Kd.R_far (p := ⟨gb453, 2, none⟩) (Kd.R_far (p := ⟨gb453, 1, none⟩) (Kd.R_far (p := ⟨gb453, 0, none⟩) (Kd.R_types HO_458004.out BK453.out (by decide)) (fun _ hk => hk.2) (.int .i64 a1_0)) (fun _ hk => hk.2) (.int .i64 a1_1)) (fun _ hk => hk.2) (.int .i64 a1_2)) (fun _ hk => hk.2) (.int .i64 a1_3)) (fun _ hk => hk.2) (.slice Ao71 x458004_2.length co71)) (fun _ hk => trivial), by repeat (first | (with_reducible first | exact HB.out | apply below_alloc | apply pw_below_drewN | apply below_drew1 | refine below_set ?_ GE451.out | refine below_set ?_ GE452.out | refine below_set ?_ GE453.out | refine below_set ?_ GE457.out) | exact HB.out)⟩
 ·replace c4 := Bool.eq_false_iff.mpr c4
  subst c4
  have H1 : (some (0, 0, 0, 0, ([] : List Int), 1)) = some (r1, r2, r3, r4, r5, r6) := by rw [if_neg (show ¬ (false = true) by decide)] at H; exact H
  clear H
  have H := H1
  clear H1
  simp only [Option.some.injEq, Prod.mk.injEq] at H
  obtain ⟨rfl, rfl, rfl, rfl, rfl, rfl⟩ := H
  go_enter Try.func28, Try.ntmps28
  go_wp2_with (first | ((with_reducible refine gate_dst (N := 2) rfl ?_); refine box_event ?hg (N := 2) ?hd (cs := #[.int .i64 a0_0, .int .i64 a0_1, .int .i64 a0_2, .int .i64 a0_3, .slice A0_4 l0_4.length c0_4]) (t := 26) ?hr ?_; (case hd => rfl); (case hg => rfl); (case hr => first | (go_simp; done) | (go_simp; rfl)); intro gb451 hg w72 hbox hb; have BK451 := Aside0.mk (hbox); have GW451 := Aside0.mk ((by rw [hg]; exact (below_size (upB HB.out)) : w.heap.size ≤ gb451)); have GE451 := Aside0.mk ((by rw [hg]; exact (below_size (upB HB.out)) : w.heap.size ≤ gb451)); replace HB := Aside0.mk (below_step (upB HB.out) hb); clear hb hbox hg) | ((with_reducible refine gate_dst (N := 3) rfl ?_); refine box_event ?hg (N := 3) ?hd (cs := #[.int .i64 a1_0, .int .i64 a1_1, .int .i64 a1_2, .int .i64 a1_3]) (t := 23) ?hr ?_; (case hd => rfl); (case hg => rfl); (case hr => first | (go_simp; done) | (go_simp; rfl)); intro gb452 hg w73 hbox hb; have BK452 := Aside0.mk (hbox); have GW452 := Aside0.mk ((by rw [hg]; exact (below_size (upB HB.out)) : w.heap.size ≤ gb452)); have GE452 := Aside0.mk ((by rw [hg]; exact (below_size (upB HB.out)) : w.heap.size ≤ gb452)); replace HB := Aside0.mk (below_step (upB HB.out) hb); have NB451_452 := Aside0.mk ((by rw [hg]; exact Nat.ne_of_lt (blk_lt (g := gb451) (o := .cells #[.int .i64 a0_0, .int .i64 a0_1, .int .i64 a0_2, .int .i64 a0_3, .slice A0_4 l0_4.length c0_4] 26 (0, 0)) (upK BK451.out)) : gb451 ≠ gb452)); have NB452_451 := Aside0.mk ((by rw [hg]; exact Nat.ne_of_gt (blk_lt (g := gb451) (o := .cells #[.int .i64 a0_0, .int .i64 a0_1, .int .i64 a0_2, .int .i64 a0_3, .slice A0_4 l0_4.length c0_4] 26 (0, 0)) (upK BK451.out)) : gb452 ≠ gb451)); replace BK451 := Aside0.mk (blk_below (g := gb451) (o := .cells #[.int .i64 a0_0, .int .i64 a0_1, .int .i64 a0_2, .int .i64 a0_3, .slice A0_4 l0_4.length c0_4] 26 (0, 0)) (upK BK451.out) hb); clear hb hbox hg) | ((with_reducible refine gate_dst (N := 4) rfl ?_); refine box_event ?hg (N := 4) ?hd (cs := #[.int .i64 0, .int .i64 0, .int .i64 0, .int .i64 0, .slice none 0 0]) (t := 26) ?hr ?_; (case hd => rfl); (case hg => rfl); (case hr => first | (go_simp; done) | (go_simp; rfl)); intro gb453 hg w74 hbox hb; have BK453 := Aside0.mk (hbox); have GW453 := Aside0.mk ((by rw [hg]; exact (below_size (upB HB.out)) : w.heap.size ≤ gb453)); have GE453 := Aside0.mk ((by rw [hg]; exact (below_size (upB HB.out)) : w.heap.size ≤ gb453)); replace HB := Aside0.mk (below_step (upB HB.out) hb); have NB451_453 := Aside0.mk ((by rw [hg]; exact Nat.ne_of_lt (blk_lt (g := gb451) (o := .cells #[.int .i64 a0_0, .int .i64 a0_1, .int .i64 a0_2, .int .i64 a0_3, .slice A0_4 l0_4.length c0_4] 26 (0, 0)) (upK BK451.out)) : gb451 ≠ gb453)); have NB453_451 := Aside0.mk ((by rw [hg]; exact Nat.ne_of_gt (blk_lt (g := gb451) (o := .cells #[.int .i64 a0_0, .int .i64 a0_1, .int .i64 a0_2, .int .i64 a0_3, .slice A0_4 l0_4.length c0_4] 26 (0, 0)) (upK BK451.out)) : gb453 ≠ gb451)); replace BK451 := Aside0.mk (blk_below (g := gb451) (o := .cells #[.int .i64 a0_0, .int .i64 a0_1, .int .i64 a0_2, .int .i64 a0_3, .slice A0_4 l0_4.length c0_4] 26 (0, 0)) (upK BK451.out) hb); have NB452_453 := Aside0.mk ((by rw [hg]; exact Nat.ne_of_lt (blk_lt (g := gb452) (o := .cells #[.int .i64 a1_0, .int .i64 a1_1, .int .i64 a1_2, .int .i64 a1_3] 23 (0, 0)) (upK BK452.out)) : gb452 ≠ gb453)); have NB453_452 := Aside0.mk ((by rw [hg]; exact Nat.ne_of_gt (blk_lt (g := gb452) (o := .cells #[.int .i64 a1_0, .int .i64 a1_1, .int .i64 a1_2, .int .i64 a1_3] 23 (0, 0)) (upK BK452.out)) : gb453 ≠ gb452)); replace BK452 := Aside0.mk (blk_below (g := gb452) (o := .cells #[.int .i64 a1_0, .int .i64 a1_1, .int .i64 a1_2, .int .i64 a1_3] 23 (0, 0)) (upK BK452.out) hb); clear hb hbox hg; have hnb75 := NB451_452.out; have hnc75 := NB452_451.out; have hnb76 := NB451_453.out; have hnc76 := NB453_451.out; have hcz77_0 : w74.cell? ⟨gb451, 0, none⟩ = some (.int .i64 a0_0) := bc BK451 0; have hcz77_1 : w74.cell? ⟨gb451, 1, none⟩ = some (.int .i64 a0_1) := bc BK451 1; have hcz77_2 : w74.cell? ⟨gb451, 2, none⟩ = some (.int .i64 a0_2) := bc BK451 2; have hcz77_3 : w74.cell? ⟨gb451, 3, none⟩ = some (.int .i64 a0_3) := bc BK451 3; have hcz77_4 : w74.cell? ⟨gb451, 4, none⟩ = some (.slice A0_4 l0_4.length c0_4) := bc BK451 4; have hfz77_0 := blk_frozen BK451.out 0; have hfz77_1 := blk_frozen BK451.out 1; have hfz77_2 := blk_frozen BK451.out 2; have hfz77_3 := blk_frozen BK451.out 3; have hfz77_4 := blk_frozen BK451.out 4) | ((with_reducible refine gate_callee (f := 21) rfl ?_); refine goesL_ (some 10) rfl rfl Try.func21 (by kernel_rfl) rfl #[.agg #[.int .i64 a0_0, .int .i64 a0_1, .int .i64 a0_2, .int .i64 a0_3, .slice A0_4 l0_4.length c0_4]] rfl upL ?_; (with_reducible refine (waveletref02_Valid.calls a0_0 a0_1 a0_2 a0_3 _ _ l0_4 false _ ?side1 ?side2 A3.out).mono ?_); (case side1 => repeat (first | exact (Kd.C_below HR0_4.out HB.out) | (with_reducible refine Kd.C_alloc ?_ _) | (with_reducible refine Kd.C_drewN ?_ _) | (with_reducible refine Kd.C_drew ?_))); (case side2 => exact HC0_4.out); rintro e w78 ⟨rfl, hb⟩; refine ⟨_, rfl, ?_⟩; replace BK451 := Aside0.mk (blk_below (g := gb451) (o := .cells #[.int .i64 a0_0, .int .i64 a0_1, .int .i64 a0_2, .int .i64 a0_3, .slice A0_4 l0_4.length c0_4] 26 (0, 0)) (upK BK451.out) hb); replace BK452 := Aside0.mk (blk_below (g := gb452) (o := .cells #[.int .i64 a1_0, .int .i64 a1_1, .int .i64 a1_2, .int .i64 a1_3] 23 (0, 0)) (upK BK452.out) hb); replace BK453 := Aside0.mk (blk_below (g := gb453) (o := .cells #[.int .i64 0, .int .i64 0, .int .i64 0, .int .i64 0, .slice none 0 0] 26 (0, 0)) (upK BK453.out) hb); replace HB := Aside0.mk (below_step (upB HB.out) hb); (try clear hb; try clear hb2; try clear hk; try clear hi); have hnb79 := NB453_452.out; have hnc79 := NB452_453.out; have hcz80_0 : w78.cell? ⟨gb453, 0, none⟩ = some (.int .i64 0) := bc BK453 0; have hcz80_1 : w78.cell? ⟨gb453, 1, none⟩ = some (.int .i64 0) := bc BK453 1; have hcz80_2 : w78.cell? ⟨gb453, 2, none⟩ = some (.int .i64 0) := bc BK453 2; have hcz80_3 : w78.cell? ⟨gb453, 3, none⟩ = some (.int .i64 0) := bc BK453 3; have hcz80_4 : w78.cell? ⟨gb453, 4, none⟩ = some (.slice none 0 0) := bc BK453 4; have hfz80_0 := blk_frozen BK453.out 0; have hfz80_1 := blk_frozen BK453.out 1; have hfz80_2 := blk_frozen BK453.out 2; have hfz80_3 := blk_frozen BK453.out 3; have hfz80_4 := blk_frozen BK453.out 4))
  refine bodyPost_ret (results_ct rfl _ _ gb453 26 #[.int .i64 0, .int .i64 0, .int .i64 0, .int .i64 0, .slice none 0 0] (0, 0) _ rfl (by (with_reducible repeat (first | refine blk_drewN ?_ _ | refine blk_drew ?_ | refine blk_alloc ?_ _)); refine blk_put (cs := #[.int .i64 0, .int .i64 0, .int .i64 0, .int .i64 0, .slice none 0 0]) ?_ 4 _ rfl; (with_reducible repeat (first | refine blk_drewN ?_ _ | refine blk_drew ?_ | refine blk_alloc ?_ _)); refine blk_put (cs := #[.int .i64 0, .int .i64 0, .int .i64 0, .int .i64 0, .slice none 0 0]) ?_ 3 _ rfl; (with_reducible repeat (first | refine blk_drewN ?_ _ | refine blk_drew ?_ | refine blk_alloc ?_ _)); refine blk_put (cs := #[.int .i64 0, .int .i64 0, .int .i64 0, .int .i64 0, .slice none 0 0]) ?_ 2 _ rfl; (with_reducible repeat (first | refine blk_drewN ?_ _ | refine blk_drew ?_ | refine blk_alloc ?_ _)); refine blk_put (cs := #[.int .i64 0, .int .i64 0, .int .i64 0, .int .i64 0, .slice none 0 0]) ?_ 1 _ rfl; (with_reducible repeat (first | refine blk_drewN ?_ _ | refine blk_drew ?_ | refine blk_alloc ?_ _)); refine blk_put (cs := #[.int .i64 0, .int .i64 0, .int .i64 0, .int .i64 0, .slice none 0 0]) ?_ 0 _ rfl; (with_reducible repeat (first | refine blk_drewN ?_ _ | refine blk_drew ?_ | refine blk_alloc ?_ _)); exact BK453.out) Try.underlying26 rfl (by kernel_rfl)) rfl ?_
  exact ⟨_, by first | rfl | (simp [errW_none, errW_some] <;> rfl) | (simp [*, errW_none, errW_some] <;> rfl), by first | exact Kd.R_nil _ _ _ _ _ | exact Kd.N_nil _ _ _ _ _ | exact Kd.V_nil _ _ _ _ _ | exact Kd.Q_nil _ _ _ _ _ | exact Kd.S_nil _ _ _ _ _, by repeat (first | (with_reducible first | exact HB.out | apply below_alloc | apply pw_below_drewN | apply below_drew1 | refine below_set ?_ GE451.out | refine below_set ?_ GE452.out | refine below_set ?_ GE453.out) | exact HB.out)⟩

end Go.Proofs.Ythemchggmlpdhaa.Q
