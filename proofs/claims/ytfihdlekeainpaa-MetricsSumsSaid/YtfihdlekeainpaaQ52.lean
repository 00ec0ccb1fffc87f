-- By a program of this session (wip/tools/mk.py), out of the kit's print of the translation; Lean checks it.
import Derived.Test.YtfihdlekeainpaaUp2
import Derived.Test.YtfihdlekeainpaaUp
import Derived.Test.YtfihdlekeainpaaShort
import Derived.Test.YtfihdlekeainpaaQ0
import Derived.Test.YtfihdlekeainpaaQ13
import Derived.Test.YtfihdlekeainpaaQ14
import Derived.Test.YtfihdlekeainpaaQ23
import Derived.Test.YtfihdlekeainpaaQ37
namespace Go.Proofs.Ytfihdlekeainpaa.Q
open Go.RowKit Go.Proofs.YtfihdlekeainpaaW.PrintWords Go.Proofs.YtfihdlekeainpaaW.PrintLast Go.Proofs.YtfihdlekeainpaaW.PrintMore
attribute [local go_sem] max2_int min2_int max_two min_two max_three min_three max_four min_four   -- for this text's walks alone
set_option linter.unusedVariables false
set_option linter.unusedSimpArgs false

/-! ### waveletlaw50_MetricsSums: function 9 -/
mutual
def waveletlaw50_MetricsSums.l0 : Nat → Int → List Int → Int → Int → Int → Int → Int → Int → List Int → Int → Int → Int → Int → List Int → Option (Bool)
 | 0, _, _, _, _, _, _, _, _, _, _, _, _, _, _ => none
 | k + 1, x3, x4, x7, x8, x554000, x554001, x554002, x554003, x554004, x563000, x563001, x563002, x563003, x563004 => if x8 < (x554004.length : Int) then (if 0 ≤ (wrap64 ((wrap64 ((x554004.length : Int) - 1)) - x8)) then (if (wrap64 ((wrap64 ((x554004.length : Int) - 1)) - x8)) < (x554004.length : Int) then (if x563004.length < 17592186044416 then (waveletlaw50_MetricsSums.l0 k x3 x4 x7 (wrap64 (x8 + 1)) x554000 x554001 x554002 x554003 x554004 x563000 x563001 x563002 x563003 (x563004 ++ [rd x554004 (wrap64 ((wrap64 ((x554004.length : Int) - 1)) - x8))])) else (none)) else (none)) else (none)) else (waveletlaw50_MetricsSums.l1 k x3 x4 x7 0 x554000 x554001 x554002 x554003 x554004 x563000 x563001 x563002 x563003 x563004)
def waveletlaw50_MetricsSums.l1 : Nat → Int → List Int → Int → Int → Int → Int → Int → Int → List Int → Int → Int → Int → Int → List Int → Option (Bool)
 | 0, _, _, _, _, _, _, _, _, _, _, _, _, _, _ => none
 | k + 1, x3, x4, x7, x9, x554000, x554001, x554002, x554003, x554004, x563000, x563001, x563002, x563003, x563004 => if x9 < (x4.length : Int) then (if 0 ≤ x9 then (if (rd x4 x9) < 0 then (some false) else (waveletlaw50_MetricsSums.l1 k x3 x4 (wrap64 (x7 + (rd x4 x9))) (wrap64 (x9 + 1)) x554000 x554001 x554002 x554003 x554004 x563000 x563001 x563002 x563003 x563004)) else (none)) else ((metrics_Histogram.f k x563000 x563001 x563002 x563003 x563004).bind fun bt569 => (if bt569.2.2 = 0 then (if bt569.1 = x3 then ((waveletref02_SameInts.f k x4 bt569.2.1).bind fun t574 => (if t574 = true then (if x7 = (x554004.length : Int) then (if (x4.length : Int) > 0 then (if 0 < (x4.length : Int) then (if (rd x4 0) > 0 then (if 0 ≤ (wrap64 ((x4.length : Int) - 1)) then (if (wrap64 ((x4.length : Int) - 1)) < (x4.length : Int) then (if (rd x4 (wrap64 ((x4.length : Int) - 1))) > 0 then ((waveletlaw50_exampleHolds.f k).bind fun t577 => (some t577)) else (some false)) else (none)) else (none)) else (some false)) else (none)) else (some false)) else (some false)) else (some false))) else (some false)) else (some false)))
end
def waveletlaw50_MetricsSums.f (k : Nat) (a0_0 : Int) (a0_1 : Int) (a0_2 : Int) (a0_3 : Int) (l0_4 : List Int) : Option (Bool) := (waveletref02_Few.f a0_0 a0_1 a0_2 a0_3 l0_4).bind fun t554 => (if t554 = true then ((metrics_Histogram.f k a0_0 a0_1 a0_2 a0_3 l0_4).bind fun bt556 => (if bt556.2.2 = 0 then (waveletlaw50_MetricsSums.l0 k bt556.1 bt556.2.1 0 0 a0_0 a0_1 a0_2 a0_3 l0_4 a0_0 a0_1 a0_2 a0_3 ([] : List Int)) else (if (bt556.2.1.length : Int) = 0 then ((waveletlaw50_exampleHolds.f k).bind fun t561 => (some t561)) else (some false)))) else ((waveletlaw50_exampleHolds.f k).bind fun t555 => (some t555)))
theorem waveletlaw50_MetricsSums.mono_l : ∀ k, (∀ y0 y1 y2 y3 y4 y5 y6 y7 y8 y9 y10 y11 y12 y13, LeO (waveletlaw50_MetricsSums.l0 k y0 y1 y2 y3 y4 y5 y6 y7 y8 y9 y10 y11 y12 y13) (waveletlaw50_MetricsSums.l0 (k + 1) y0 y1 y2 y3 y4 y5 y6 y7 y8 y9 y10 y11 y12 y13)) ∧ (∀ y0 y1 y2 y3 y4 y5 y6 y7 y8 y9 y10 y11 y12 y13, LeO (waveletlaw50_MetricsSums.l1 k y0 y1 y2 y3 y4 y5 y6 y7 y8 y9 y10 y11 y12 y13) (waveletlaw50_MetricsSums.l1 (k + 1) y0 y1 y2 y3 y4 y5 y6 y7 y8 y9 y10 y11 y12 y13))
 | 0 => ⟨fun _ _ _ _ _ _ _ _ _ _ _ _ _ _ r h => by simp [waveletlaw50_MetricsSums.l0] at h, fun _ _ _ _ _ _ _ _ _ _ _ _ _ _ r h => by simp [waveletlaw50_MetricsSums.l1] at h⟩
 | k + 1 => by
  obtain ⟨ih0, ih1⟩ := waveletlaw50_MetricsSums.mono_l k
  refine ⟨?_, ?_⟩
  ·intro y0 y1 y2 y3 y4 y5 y6 y7 y8 y9 y10 y11 y12 y13
   unfold waveletlaw50_MetricsSums.l0
   repeat' first
   | (with_reducible exact ih0 _ _ _ _ _ _ _ _ _ _ _ _ _ _)
   | (with_reducible exact ih1 _ _ _ _ _ _ _ _ _ _ _ _ _ _)
   | (with_reducible exact metrics_Histogram.mono _ _ _ _ _ _)
   | (with_reducible exact waveletlaw50_exampleHolds.mono _)
   | (with_reducible exact waveletref02_SameInts.mono _ _ _)
   | (with_reducible exact LeO.refl _)
   | (with_reducible exact LeO.none _)
   | (with_reducible refine LeO.ite ?_ ?_)
   | (with_reducible refine LeO.bind ?_ (fun _ => ?_))
   | exact ih0 _ _ _ _ _ _ _ _ _ _ _ _ _ _
   | exact ih1 _ _ _ _ _ _ _ _ _ _ _ _ _ _
   | exact metrics_Histogram.mono _ _ _ _ _ _
   | exact waveletlaw50_exampleHolds.mono _
   | exact waveletref02_SameInts.mono _ _ _
   | exact LeO.none _
   | refine LeO.ite ?_ ?_
   | refine LeO.bind ?_ (fun _ => ?_)
  ·intro y0 y1 y2 y3 y4 y5 y6 y7 y8 y9 y10 y11 y12 y13
   unfold waveletlaw50_MetricsSums.l1
   repeat' first
   | (with_reducible exact ih0 _ _ _ _ _ _ _ _ _ _ _ _ _ _)
   | (with_reducible exact ih1 _ _ _ _ _ _ _ _ _ _ _ _ _ _)
   | (with_reducible exact metrics_Histogram.mono _ _ _ _ _ _)
   | (with_reducible exact waveletlaw50_exampleHolds.mono _)
   | (with_reducible exact waveletref02_SameInts.mono _ _ _)
   | (with_reducible exact LeO.refl _)
   | (with_reducible exact LeO.none _)
   | (with_reducible refine LeO.ite ?_ ?_)
   | (with_reducible refine LeO.bind ?_ (fun _ => ?_))
   | exact ih0 _ _ _ _ _ _ _ _ _ _ _ _ _ _
   | exact ih1 _ _ _ _ _ _ _ _ _ _ _ _ _ _
   | exact metrics_Histogram.mono _ _ _ _ _ _
   | exact waveletlaw50_exampleHolds.mono _
   | exact waveletref02_SameInts.mono _ _ _
   | exact LeO.none _
   | refine LeO.ite ?_ ?_
   | refine LeO.bind ?_ (fun _ => ?_)
theorem waveletlaw50_MetricsSums.mono : ∀ a0 a1 a2 a3 a4 k, LeO (waveletlaw50_MetricsSums.f k a0 a1 a2 a3 a4) (waveletlaw50_MetricsSums.f (k + 1) a0 a1 a2 a3 a4) := by
 intro a0 a1 a2 a3 a4 k
 obtain ⟨ih0, ih1⟩ := waveletlaw50_MetricsSums.mono_l k
 unfold waveletlaw50_MetricsSums.f
 repeat' first
   | (with_reducible exact ih0 _ _ _ _ _ _ _ _ _ _ _ _ _ _)
   | (with_reducible exact ih1 _ _ _ _ _ _ _ _ _ _ _ _ _ _)
   | (with_reducible exact metrics_Histogram.mono _ _ _ _ _ _)
   | (with_reducible exact waveletlaw50_exampleHolds.mono _)
   | (with_reducible exact waveletref02_SameInts.mono _ _ _)
   | (with_reducible exact LeO.refl _)
   | (with_reducible exact LeO.none _)
   | (with_reducible refine LeO.ite ?_ ?_)
   | (with_reducible refine LeO.bind ?_ (fun _ => ?_))
   | exact ih0 _ _ _ _ _ _ _ _ _ _ _ _ _ _
   | exact ih1 _ _ _ _ _ _ _ _ _ _ _ _ _ _
   | exact metrics_Histogram.mono _ _ _ _ _ _
   | exact waveletlaw50_exampleHolds.mono _
   | exact waveletref02_SameInts.mono _ _ _
   | exact LeO.none _
   | refine LeO.ite ?_ ?_
   | refine LeO.bind ?_ (fun _ => ?_)
def waveletlaw50_MetricsSums.T11 : Bool × List (List Nat × List Nat) := (true, [([], []), ([0], [0]), ([], []), ([2], [2]), ([], []), ([4], [4]), ([5], [5]), ([6], [6]), ([], []), ([7, 8], [7, 8]), ([3, 9], [3, 9]), ([10], [10]), ([11], [11]), ([1, 12], [1, 12]), ([0, 1, 2, 3, 4, 5, 6, 7, 8, 9, 10, 11, 12, 13], []), ([14, 13, 13, 0, 1, 2, 3, 4, 5, 6, 7, 8, 9, 10, 11, 12, 13], [13, 14])])
def waveletlaw50_MetricsSums.B11 : List Nat := [0, 1, 0, 4, 0, 16, 48, 112, 0, 496, 1020, 2044, 4092, 8191, 16383, 32767]
theorem waveletlaw50_MetricsSums.tab11 : rtab .any (opsOf Try.f9 11) = waveletlaw50_MetricsSums.T11 := by kernel_rfl
theorem waveletlaw50_MetricsSums.bits11 : waitsOk waveletlaw50_MetricsSums.T11.2 waveletlaw50_MetricsSums.B11 = true := by kernel_rfl
set_option maxHeartbeats 8000000 in
set_option maxRecDepth 100000 in
theorem waveletlaw50_MetricsSums.calls (k : Nat) (a0_0 : Int) (a0_1 : Int) (a0_2 : Int) (a0_3 : Int) (A0_4 : Option Addr) (c0_4 : Nat) (l0_4 : List Int) (r : Bool) (hr_ : r = true) (w : World) (hr0_4 : Kd.C (Kd.int .i64) w A0_4 l0_4.length l0_4) (hc0_4 : l0_4.length ≤ c0_4) (h : waveletlaw50_MetricsSums.f k a0_0 a0_1 a0_2 a0_3 l0_4 = some r) :
  Calls Try.prog 9 #[.agg #[.int .i64 a0_0, .int .i64 a0_1, .int .i64 a0_2, .int .i64 a0_3, .slice A0_4 l0_4.length c0_4]] w fun e w' => e = .returned (.bool r) ∧ Below w.heap.size w w' := by
 have hu42 := Try.underlying42
 have hu23 := Try.underlying23
 have HR0_4 := Aside0.mk hr0_4
 have HC0_4 := Aside0.mk hc0_4
 clear hr0_4 hc0_4
 have HB := Aside0.mk (Below.refl w.heap.size w)
 have H : ((waveletref02_Few.f a0_0 a0_1 a0_2 a0_3 l0_4).bind fun t554 => (if t554 = true then ((metrics_Histogram.f k a0_0 a0_1 a0_2 a0_3 l0_4).bind fun bt556 => (if bt556.2.2 = 0 then (waveletlaw50_MetricsSums.l0 k bt556.1 bt556.2.1 0 0 a0_0 a0_1 a0_2 a0_3 l0_4 a0_0 a0_1 a0_2 a0_3 ([] : List Int)) else (if (bt556.2.1.length : Int) = 0 then ((waveletlaw50_exampleHolds.f k).bind fun t561 => (some t561)) else (some false)))) else ((waveletlaw50_exampleHolds.f k).bind fun t555 => (some t555)))) = some r := h
 clear h
 replace H := Option.bind_eq_some_iff.mp H
 obtain ⟨t554, A20, H⟩ := H
 replace H : (if t554 = true then ((metrics_Histogram.f k a0_0 a0_1 a0_2 a0_3 l0_4).bind fun bt556 => (if bt556.2.2 = 0 then (waveletlaw50_MetricsSums.l0 k bt556.1 bt556.2.1 0 0 a0_0 a0_1 a0_2 a0_3 l0_4 a0_0 a0_1 a0_2 a0_3 ([] : List Int)) else (if (bt556.2.1.length : Int) = 0 then ((waveletlaw50_exampleHolds.f k).bind fun t561 => (some t561)) else (some false)))) else ((waveletlaw50_exampleHolds.f k).bind fun t555 => (some t555))) = some r := H
 have A2 := Aside0.mk A20
 clear A20
 by_cases c3 : t554 = true
 ·subst c3
  rw [if_pos rfl] at H
  replace H := Option.bind_eq_some_iff.mp H
  obtain ⟨⟨t556, t557, t560⟩, A40, H⟩ := H
  dsimp only at H
  have A4 := Aside0.mk A40
  clear A40
  by_cases c5 : t560 = 0
  ·rw [if_pos c5] at H
   have c5b0 : (t560 == 0) = true := beq_iff_eq.mpr c5
   have c5b1 : (t560 != 0) = false := bne_eq_false_iff_eq.mpr c5
   clear c5
   have H' := Aside0.mk H
   clear H
   go_enter Try.func9, Try.ntmps9
   go_wp2_with (first | ((with_reducible refine gate_dst (N := 1) rfl ?_); (try (refine gate_guard (by rfl) ?_; dsimp only)); refine box_event ?hg (N := 1) ?hd (cs := #[.int .i64 a0_0, .int .i64 a0_1, .int .i64 a0_2, .int .i64 a0_3, .slice A0_4 l0_4.length c0_4]) (t := 42) ?hr ?_; (case hd => rfl); (case hg => rfl); (case hr => first | (go_simp; done) | (go_simp; rfl)); intro gb553 hg w6 hbox hb; have BK553 := Aside0.mk (hbox); have GW553 := Aside0.mk ((by rw [hg]; exact (below_size (upB HB.out)) : w.heap.size ≤ gb553)); have GE553 := Aside0.mk ((by rw [hg]; exact (below_size (upB HB.out)) : w.heap.size ≤ gb553)); replace HB := Aside0.mk (below_step (upB HB.out) hb); clear hb hbox hg; have hcz7_0 : w6.cell? ⟨gb553, 0, none⟩ = some (.int .i64 a0_0) := bc BK553 0; have hcz7_1 : w6.cell? ⟨gb553, 1, none⟩ = some (.int .i64 a0_1) := bc BK553 1; have hcz7_2 : w6.cell? ⟨gb553, 2, none⟩ = some (.int .i64 a0_2) := bc BK553 2; have hcz7_3 : w6.cell? ⟨gb553, 3, none⟩ = some (.int .i64 a0_3) := bc BK553 3; have hcz7_4 : w6.cell? ⟨gb553, 4, none⟩ = some (.slice A0_4 l0_4.length c0_4) := bc BK553 4; have hfz7_0 := blk_frozen BK553.out 0; have hfz7_1 := blk_frozen BK553.out 1; have hfz7_2 := blk_frozen BK553.out 2; have hfz7_3 := blk_frozen BK553.out 3; have hfz7_4 := blk_frozen BK553.out 4) | ((with_reducible refine gate_callee (f := 20) rfl ?_); refine goesL_ (some 14) rfl rfl Try.func20 (by kernel_rfl) rfl #[.agg #[.int .i64 a0_0, .int .i64 a0_1, .int .i64 a0_2, .int .i64 a0_3, .slice A0_4 l0_4.length c0_4]] rfl upL ?_; (with_reducible refine (waveletref02_Few.calls a0_0 a0_1 a0_2 a0_3 _ _ l0_4 true _ ?side1 ?side2 A2.out).mono ?_); (case side1 => repeat (first | exact (Kd.C_below HR0_4.out HB.out) | (with_reducible refine Kd.C_alloc ?_ _) | (with_reducible refine Kd.C_drewN ?_ _) | (with_reducible refine Kd.C_drew ?_))); (case side2 => exact HC0_4.out); rintro e w8 ⟨rfl, hb⟩; refine ⟨_, rfl, ?_⟩; replace BK553 := Aside0.mk (blk_below (g := gb553) (o := .cells #[.int .i64 a0_0, .int .i64 a0_1, .int .i64 a0_2, .int .i64 a0_3, .slice A0_4 l0_4.length c0_4] 42 (0, 0)) (upK BK553.out) hb); replace HB := Aside0.mk (below_step (upB HB.out) hb); (try clear hb; try clear hb2; try clear hk; try clear hi); have hcz9_0 : w8.cell? ⟨gb553, 0, none⟩ = some (.int .i64 a0_0) := bc BK553 0; have hcz9_1 : w8.cell? ⟨gb553, 1, none⟩ = some (.int .i64 a0_1) := bc BK553 1; have hcz9_2 : w8.cell? ⟨gb553, 2, none⟩ = some (.int .i64 a0_2) := bc BK553 2; have hcz9_3 : w8.cell? ⟨gb553, 3, none⟩ = some (.int .i64 a0_3) := bc BK553 3; have hcz9_4 : w8.cell? ⟨gb553, 4, none⟩ = some (.slice A0_4 l0_4.length c0_4) := bc BK553 4; have hfz9_0 := blk_frozen BK553.out 0; have hfz9_1 := blk_frozen BK553.out 1; have hfz9_2 := blk_frozen BK553.out 2; have hfz9_3 := blk_frozen BK553.out 3; have hfz9_4 := blk_frozen BK553.out 4) | ((with_reducible refine gate_callee (f := 21) rfl ?_); refine goesL_ (some 19) rfl rfl Try.func21 (by kernel_rfl) rfl #[.agg #[.int .i64 a0_0, .int .i64 a0_1, .int .i64 a0_2, .int .i64 a0_3, .slice A0_4 l0_4.length c0_4]] rfl upL ?_; (with_reducible refine (metrics_Histogram.calls k a0_0 a0_1 a0_2 a0_3 _ _ l0_4 t556 t557 t560 _ ?side1 ?side2 A4.out).mono ?_); (case side1 => repeat (first | exact (Kd.C_below HR0_4.out HB.out) | (with_reducible refine Kd.C_alloc ?_ _) | (with_reducible refine Kd.C_drewN ?_ _) | (with_reducible refine Kd.C_drew ?_))); (case side2 => exact HC0_4.out); rintro e w10 ⟨v558, rfl, ho0, hb⟩; refine ⟨_, rfl, ?_⟩; have HO559 := Aside0.mk (Kd.R_lower ho0 (below_size (upB HB.out))); replace BK553 := Aside0.mk (blk_below (g := gb553) (o := .cells #[.int .i64 a0_0, .int .i64 a0_1, .int .i64 a0_2, .int .i64 a0_3, .slice A0_4 l0_4.length c0_4] 42 (0, 0)) (upK BK553.out) hb); replace HB := Aside0.mk (below_step (upB HB.out) hb); (try clear hb; try clear hb2; try clear hk; try clear hi; try clear ho0); have hcz11_0 : w10.cell? ⟨gb553, 0, none⟩ = some (.int .i64 a0_0) := bc BK553 0; have hcz11_1 : w10.cell? ⟨gb553, 1, none⟩ = some (.int .i64 a0_1) := bc BK553 1; have hcz11_2 : w10.cell? ⟨gb553, 2, none⟩ = some (.int .i64 a0_2) := bc BK553 2; have hcz11_3 : w10.cell? ⟨gb553, 3, none⟩ = some (.int .i64 a0_3) := bc BK553 3; have hcz11_4 : w10.cell? ⟨gb553, 4, none⟩ = some (.slice A0_4 l0_4.length c0_4) := bc BK553 4; have hfz11_0 := blk_frozen BK553.out 0; have hfz11_1 := blk_frozen BK553.out 1; have hfz11_2 := blk_frozen BK553.out 2; have hfz11_3 := blk_frozen BK553.out 3; have hfz11_4 := blk_frozen BK553.out 4) | ((with_reducible refine gate_dst (N := 6) rfl ?_); (try (refine gate_guard (by rfl) ?_; dsimp only)); refine box_event ?hg (N := 6) ?hd (cs := #[.int .i64 0, .int .i64 0, .int .i64 0, .int .i64 0, .slice none 0 0]) (t := 42) ?hr ?_; (case hd => rfl); (case hg => rfl); (case hr => first | (go_simp; done) | (go_simp; rfl)); intro gb562 hg w12 hbox hb; replace HO559 := Aside0.mk (Kd.R_below (upR HO559.out) hb); have BK562 := Aside0.mk (hbox); have GW562 := Aside0.mk ((by rw [hg]; exact (below_size (upB HB.out)) : w.heap.size ≤ gb562)); have GE562 := Aside0.mk ((by rw [hg]; exact (below_size (upB HB.out)) : w.heap.size ≤ gb562)); replace HB := Aside0.mk (below_step (upB HB.out) hb); have NB553_562 := Aside0.mk ((by rw [hg]; exact Nat.ne_of_lt (blk_lt (g := gb553) (o := .cells #[.int .i64 a0_0, .int .i64 a0_1, .int .i64 a0_2, .int .i64 a0_3, .slice A0_4 l0_4.length c0_4] 42 (0, 0)) (upK BK553.out)) : gb553 ≠ gb562)); have NB562_553 := Aside0.mk ((by rw [hg]; exact Nat.ne_of_gt (blk_lt (g := gb553) (o := .cells #[.int .i64 a0_0, .int .i64 a0_1, .int .i64 a0_2, .int .i64 a0_3, .slice A0_4 l0_4.length c0_4] 42 (0, 0)) (upK BK553.out)) : gb562 ≠ gb553)); replace BK553 := Aside0.mk (blk_below (g := gb553) (o := .cells #[.int .i64 a0_0, .int .i64 a0_1, .int .i64 a0_2, .int .i64 a0_3, .slice A0_4 l0_4.length c0_4] 42 (0, 0)) (upK BK553.out) hb); clear hb hbox hg; have hnb13 := NB562_553.out; have hnc13 := NB553_562.out; have hcz14_0 : w12.cell? ⟨gb562, 0, none⟩ = some (.int .i64 0) := bc BK562 0; have hcz14_1 : w12.cell? ⟨gb562, 1, none⟩ = some (.int .i64 0) := bc BK562 1; have hcz14_2 : w12.cell? ⟨gb562, 2, none⟩ = some (.int .i64 0) := bc BK562 2; have hcz14_3 : w12.cell? ⟨gb562, 3, none⟩ = some (.int .i64 0) := bc BK562 3; have hcz14_4 : w12.cell? ⟨gb562, 4, none⟩ = some (.slice none 0 0) := bc BK562 4; have hfz14_0 := blk_frozen BK562.out 0; have hfz14_1 := blk_frozen BK562.out 1; have hfz14_2 := blk_frozen BK562.out 2; have hfz14_3 := blk_frozen BK562.out 3; have hfz14_4 := blk_frozen BK562.out 4))
   go_loopg [8] k (fun kq v8 w' => ∃ (x8_1 : Int) (x563004_1 : List Int) (u563004 : Value), v8 = .int .i64 x8_1 ∧ Aside0 (waveletlaw50_MetricsSums.l0 kq t556 t557 0 x8_1 a0_0 a0_1 a0_2 a0_3 l0_4 a0_0 a0_1 a0_2 a0_3 x563004_1 = some r) ∧ Aside0 (kq ≤ k) ∧ Aside0 (Kd.R (Kd.int .i64) 3 w' w.heap.size (fun k_ => some k_ ≠ (u563004 : Value).ownBlock) v558 t557) ∧ Aside0 (Kd.R (Kd.int .i64) 3 w' w.heap.size (fun k_ => some k_ ≠ (v558 : Value).ownBlock) u563004 x563004_1) ∧ Aside0 (w'.heap[gb553]? = some (.cells #[.int .i64 a0_0, .int .i64 a0_1, .int .i64 a0_2, .int .i64 a0_3, (.slice A0_4 l0_4.length c0_4)] 42 (0, 0))) ∧ Aside0 (w'.heap[gb562]? = some (.cells #[.int .i64 a0_0, .int .i64 a0_1, .int .i64 a0_2, .int .i64 a0_3, u563004] 42 (0, 0))) ∧ Aside0 (Below w.heap.size w w'))
   case atStart => exact ⟨(0), (([] : List Int)), (.slice none 0 0), (by first | rfl | (simp; done) | (simp [*]; done)), H', ⟨Nat.le_refl _⟩, ⟨by (with_reducible repeat (first | apply Kd.R_alloc | apply Kd.R_drewN | apply Kd.R_drew)); exact Kd.R_mono (Kd.R_far (p := ⟨gb562, 4, none⟩) (Kd.R_far (p := ⟨gb562, 3, none⟩) (Kd.R_far (p := ⟨gb562, 2, none⟩) (Kd.R_far (p := ⟨gb562, 1, none⟩) (Kd.R_far (p := ⟨gb562, 0, none⟩) (Kd.R_types HO559.out BK562.out (by decide)) (fun _ hk => hk.2) (.int .i64 a0_0)) (fun _ hk => hk.2) (.int .i64 a0_1)) (fun _ hk => hk.2) (.int .i64 a0_2)) (fun _ hk => hk.2) (.int .i64 a0_3)) (fun _ hk => hk.2) (.slice none 0 0)) (fun _ hk => (by simp [Value.ownBlock]))⟩, ⟨by first | exact Kd.R_nil _ _ _ _ _ | exact Kd.N_nil _ _ _ _ _ | exact Kd.V_nil _ _ _ _ _ | exact Kd.Q_nil _ _ _ _ _ | exact Kd.S_nil _ _ _ _ _⟩, ⟨by (with_reducible repeat (first | refine blk_drewN ?_ _ | refine blk_drew ?_ | refine blk_alloc ?_ _)); refine blk_far ?_ NB553_562.out _; (with_reducible repeat (first | refine blk_drewN ?_ _ | refine blk_drew ?_ | refine blk_alloc ?_ _)); refine blk_far ?_ NB553_562.out _; (with_reducible repeat (first | refine blk_drewN ?_ _ | refine blk_drew ?_ | refine blk_alloc ?_ _)); refine blk_far ?_ NB553_562.out _; (with_reducible repeat (first | refine blk_drewN ?_ _ | refine blk_drew ?_ | refine blk_alloc ?_ _)); refine blk_far ?_ NB553_562.out _; (with_reducible repeat (first | refine blk_drewN ?_ _ | refine blk_drew ?_ | refine blk_alloc ?_ _)); refine blk_far ?_ NB553_562.out _; (with_reducible repeat (first | refine blk_drewN ?_ _ | refine blk_drew ?_ | refine blk_alloc ?_ _)); exact BK553.out⟩, ⟨by (with_reducible repeat (first | refine blk_drewN ?_ _ | refine blk_drew ?_ | refine blk_alloc ?_ _)); refine blk_put (cs := #[.int .i64 a0_0, .int .i64 a0_1, .int .i64 a0_2, .int .i64 a0_3, .slice none 0 0]) ?_ 4 _ rfl; (with_reducible repeat (first | refine blk_drewN ?_ _ | refine blk_drew ?_ | refine blk_alloc ?_ _)); refine blk_put (cs := #[.int .i64 a0_0, .int .i64 a0_1, .int .i64 a0_2, .int .i64 0, .slice none 0 0]) ?_ 3 _ rfl; (with_reducible repeat (first | refine blk_drewN ?_ _ | refine blk_drew ?_ | refine blk_alloc ?_ _)); refine blk_put (cs := #[.int .i64 a0_0, .int .i64 a0_1, .int .i64 0, .int .i64 0, .slice none 0 0]) ?_ 2 _ rfl; (with_reducible repeat (first | refine blk_drewN ?_ _ | refine blk_drew ?_ | refine blk_alloc ?_ _)); refine blk_put (cs := #[.int .i64 a0_0, .int .i64 0, .int .i64 0, .int .i64 0, .slice none 0 0]) ?_ 1 _ rfl; (with_reducible repeat (first | refine blk_drewN ?_ _ | refine blk_drew ?_ | refine blk_alloc ?_ _)); refine blk_put (cs := #[.int .i64 0, .int .i64 0, .int .i64 0, .int .i64 0, .slice none 0 0]) ?_ 0 _ rfl; (with_reducible repeat (first | refine blk_drewN ?_ _ | refine blk_drew ?_ | refine blk_alloc ?_ _)); exact BK562.out⟩, ⟨by repeat (first | (with_reducible first | exact HB.out | apply below_alloc | apply pw_below_drewN | apply below_drew1 | refine below_set ?_ GE553.out | refine below_set ?_ GE562.out) | exact HB.out)⟩⟩
   case round =>
    clear H'
    try clear c1; try clear c2; try clear p2; try clear c3; try clear c5; try clear c5b0; try clear c5b1; try clear c9; try clear c13; try clear hcz11_0; try clear hcz11_1; try clear hcz11_2; try clear hcz11_3; try clear hcz11_4; try clear hcz14_0; try clear hcz14_1; try clear hcz14_2; try clear hcz14_3; try clear hcz14_4; try clear hcz7_0; try clear hcz7_1; try clear hcz7_2; try clear hcz7_3; try clear hcz7_4; try clear hcz9_0; try clear hcz9_1; try clear hcz9_2; try clear hcz9_3; try clear hcz9_4; try clear hfz11_0; try clear hfz11_1; try clear hfz11_2; try clear hfz11_3; try clear hfz11_4; try clear hfz14_0; try clear hfz14_1; try clear hfz14_2; try clear hfz14_3; try clear hfz14_4; try clear hfz7_0; try clear hfz7_1; try clear hfz7_2; try clear hfz7_3; try clear hfz7_4; try clear hfz9_0; try clear hfz9_1; try clear hfz9_2; try clear hfz9_3; try clear hfz9_4
    obtain ⟨x8_1, x563004_1, u563004, rfl, HA, HK1, HO_4, HO_563004, BK553, BK562, HB⟩ := hrel
    cases gk with
    | zero => exact absurd HA.out (by simp [waveletlaw50_MetricsSums.l0])
    | succ k1 =>
     have H := HA.out
     clear HA
     simp only [waveletlaw50_MetricsSums.l0] at H
     by_cases c15 : x8_1 < (l0_4.length : Int)
     ·rw [if_pos c15] at H
      have c15b0 : decide (x8_1 < (l0_4.length : Int)) = true := decide_eq_true c15
      clear c15
      obtain ⟨ji16, hji16⟩ : ∃ j_ : Int, (wrap64 ((wrap64 ((l0_4.length : Int) - 1)) - x8_1)) = j_ := ⟨_, rfl⟩
      replace H : (if 0 ≤ (ji16) then (if (ji16) < (l0_4.length : Int) then (if x563004_1.length < 17592186044416 then (waveletlaw50_MetricsSums.l0 k1 t556 t557 0 (wrap64 (x8_1 + 1)) a0_0 a0_1 a0_2 a0_3 l0_4 a0_0 a0_1 a0_2 a0_3 (x563004_1 ++ [rd l0_4 (ji16)])) else (none)) else (none)) else (none)) = some r := by first | (rw [hji16] at H; exact H) | (simp only [hji16] at H ⊢; exact H)
      have hji16w : (IntKind.i64.wrap ((wrap64 ((l0_4.length : Int) - 1)) - x8_1)) = ji16 := (i64_w _).trans hji16
      by_cases c17 : 0 ≤ (ji16)
      ·rw [if_pos c17] at H
       have c17b0 : decide (0 ≤ (ji16)) = true := decide_eq_true c17
       clear c17
       by_cases c18 : (ji16) < (l0_4.length : Int)
       ·rw [if_pos c18] at H
        have c18b0 : decide ((ji16) < (l0_4.length : Int)) = true := decide_eq_true c18
        clear c18
        by_cases c19 : x563004_1.length < 17592186044416
        ·rw [if_pos c19] at H
         have LMc19 := Aside0.mk c19
         clear c19
         obtain ⟨y564, hy564⟩ : ∃ y_ : List Int, y_ = (x563004_1 ++ [rd l0_4 (ji16)]) := ⟨_, rfl⟩
         replace H : (waveletlaw50_MetricsSums.l0 k1 t556 t557 0 (wrap64 (x8_1 + 1)) a0_0 a0_1 a0_2 a0_3 l0_4 a0_0 a0_1 a0_2 a0_3 y564) = some r := by first | (rw [hy564]; with_reducible exact H) | (have H2_ := (Option.bind_some _ _).symm.trans H; rw [hy564]; with_reducible exact H2_) | (have H2_ := (Option.bind_some _ _).symm.trans H; with_reducible exact H2_) | with_reducible exact H | (rw [hy564]; exact H) | exact H
         have Ny564 := Aside0.mk hy564
         clear hy564
         have H' := Aside0.mk H
         clear H
         have hnb20 := NB553_562.out
         have hnc20 := NB562_553.out
         obtain ⟨hcz21_0, hcz21_1, hcz21_2, hcz21_3, hcz21_4, hfz21_0, hfz21_1, hfz21_2, hfz21_3, hfz21_4⟩ := blk_all5 BK553.out
         try go_wp2
         replace HO_4 := Aside0.mk (Kd.R_drew HO_4.out)
         replace HO_563004 := Aside0.mk (Kd.R_drew HO_563004.out)
         replace BK553 := Aside0.mk (blk_drew BK553.out)
         replace BK562 := Aside0.mk (blk_drew BK562.out)
         replace HB := Aside0.mk (below_drew1 HB.out)
         have p563 : 0 ≤ ((ji16) : Int) := of_decide_eq_true (by first | (with_reducible assumption) | assumption)
         have q563 : (ji16) < (l0_4.length : Int) := of_decide_eq_true (by first | (with_reducible assumption) | assumption)
         obtain ⟨ad563, e563, hx563_0⟩ := Kd.at_int HR0_4.out (ji16) p563 q563
         have hw563_0 := hx563_0
         cases e563
         replace hx563_0 := hc HB hx563_0
         replace p563 := eq_true p563
         replace q563 := eq_true q563
         refine start_ (n := 16) (S := fun w' => ce w' gb562 0 (.int .i64 a0_0) ∧ ce w' gb562 1 (.int .i64 a0_1) ∧ ce w' gb562 2 (.int .i64 a0_2) ∧ ce w' gb562 3 (.int .i64 a0_3) ∧ ce w' gb562 4 (u563004) ∧ ce w' gb553 0 (.int .i64 a0_0) ∧ ce w' gb553 1 (.int .i64 a0_1) ∧ ce w' gb553 2 (.int .i64 a0_2) ∧ ce w' gb553 3 (.int .i64 a0_3) ∧ ce w' gb553 4 (.slice (some ad563) l0_4.length c0_4) ∧ w'.cell? (ad563.add ((ji16)).toNat) = some (.int .i64 (rd l0_4 (ji16)))) (ds := [15]) #[false, false, false, false, false, false, false, false, false, false, false, false, false, false, false, false] (by kernel_rfl) rfl rfl ⟨bc BK562 0, bc BK562 1, bc BK562 2, bc BK562 3, bc BK562 4, bc BK553 0, bc BK553 1, bc BK553 2, bc BK553 3, bc BK553 4, (hc HB hw563_0)⟩ (fun hHeld => ?_); refine with_tabW waveletlaw50_MetricsSums.tab11 waveletlaw50_MetricsSums.bits11 (fun HT_ HW_ => ?_)
         generalize wr.drew = w22 at HO_4 HO_563004 BK553 BK562 HB hx563_0 hHeld ⊢
         refine puX 0 41 (MK [1, 15]) HT_.out ?_
         refine puX 2 43 (MK [1, 1, 1, 13]) HT_.out ?_
         refine puX 4 45 (MK [1, 1, 1, 1, 1, 11]) HT_.out ?_
         refine puX 8 49 (MK [1, 1, 1, 1, 1, 3, 1, 7]) HT_.out ?_
         refine taX 1 42 (MK [3, 1, 1, 3, 1, 7]) HT_.out HW_.out hHeld ?_
         refine taX 3 44 (MK [5, 3, 1, 7]) HT_.out HW_.out hHeld ?_
         refine taX 5 46 (MK [6, 2, 1, 7]) HT_.out HW_.out hHeld ?_
         refine puX 6 47 (MK [7, 1, 1, 7]) HT_.out ?_
         refine puX 7 48 (MK [9, 7]) HT_.out ?_
         refine puX 9 50 (MK [10, 6]) HT_.out ?_
         refine puX 10 51 (MK [11, 5]) HT_.out ?_
         refine taX 11 52 (MK [12, 4]) HT_.out HW_.out hHeld ?_
         refine onX 12 53 (MK [13, 3]) HT_.out (fun K hK => ?_)
         refine value_ (w1 := ?_) (v := ?_) (by rfl) rfl ?_ ?_
         rotate_left 2
         ·go_simp
          constructor
          ·rfl
          ·rfl
         refine hK.out _ _ ⟨(blk_cell (blk_alloc BK562.out _) 0).trans rfl, (blk_cell (blk_alloc BK562.out _) 1).trans rfl, (blk_cell (blk_alloc BK562.out _) 2).trans rfl, (blk_cell (blk_alloc BK562.out _) 3).trans rfl, (blk_cell (blk_alloc BK562.out _) 4).trans rfl, (blk_cell (blk_alloc BK553.out _) 0).trans rfl, (blk_cell (blk_alloc BK553.out _) 1).trans rfl, (blk_cell (blk_alloc BK553.out _) 2).trans rfl, (blk_cell (blk_alloc BK553.out _) 3).trans rfl, (blk_cell (blk_alloc BK553.out _) 4).trans rfl, (World.cell?_alloc_lt _ _ _ (World.block_lt_of_cell? _ _ ((hc HB hw563_0)))).trans ((hc HB hw563_0))⟩ (fun hHeld => ?_)
         clear hK K
         refine noX ?_
         refine onX 13 54 (MK [14, 2]) HT_.out (fun K hK => ?_)
         refine Kd.R_append_step (Kd.int .i64) (w0 := w) w.heap.size (by rfl) (.tmp 42) (.tmp 53) 40 3 (.int .i64 0) 8 rfl Try.underlying40 info3 rfl (by decide) (by omega) u563004 x563004_1 (rd l0_4 (ji16)) [.int .i64 (rd l0_4 (ji16))] (fun k_ => some k_ ≠ (v558 : Value).ownBlock) (fun _ => False) rfl rfl ?aP (fun _ hk => hk.elim) ?aF ?aO ?aB ?aS ?aL ?_
         (case aP => exact rfl)
         (case aB => exact HB.out)
         (case aF => exact (fun k_ hk => Kd.fresh' (Kd.R_lt HO_4.out) k_ hk))
         (case aO => exact HO_563004.out)
         (case aS => exact (below_size HB.out))
         (case aL => have := LMc19.out; omega)
         intro v565 w23 ho hb hg hat
         rw [← Ny564.out] at ho
         have n0_ := Aside0.mk (Kd.R_after (ok := (fun _ => True)) (by (with_reducible repeat (first | apply Kd.R_alloc | apply Kd.R_drewN | apply Kd.R_drew)); exact Kd.R_mono HO_4.out (fun _ hk => ⟨trivial, hk⟩)) hg hat)
         have n1_ := Aside0.mk (blk_grown (g := gb553) (o := .cells #[.int .i64 a0_0, .int .i64 a0_1, .int .i64 a0_2, .int .i64 a0_3, .slice (some ad563) l0_4.length c0_4] 42 (0, 0)) (upK BK553.out) hg (Kd.R_ne HO_563004.out BK553.out (by decide)))
         have n2_ := Aside0.mk (blk_grown (g := gb562) (o := .cells #[.int .i64 a0_0, .int .i64 a0_1, .int .i64 a0_2, .int .i64 a0_3, u563004] 42 (0, 0)) (upK BK562.out) hg (Kd.R_ne HO_563004.out BK562.out (by decide)))
         have n3_ := Aside0.mk (hb)
         have n4_ := Aside0.mk (ho)
         clear HO_4
         clear BK553
         clear BK562
         clear HB
         clear HO_563004
         have HO_4 := n0_
         have BK553 := n1_
         have BK562 := n2_
         have HB := n3_
         have HO566 := n4_
         clear n0_ n1_ n2_ n3_ n4_
         clear ho hb hg hat
         obtain ⟨Ao24, co24, eo24⟩ := Kd.R_slice HO566.out
         (first | subst eo24 | (injection eo24 with f1_ f2_ f3_; have f4_ := f1_.symm; have f5_ := f3_.symm; clear f1_ f2_ f3_; subst f4_; subst f5_))
         refine hK.out _ _ ⟨bc BK562 0, bc BK562 1, bc BK562 2, bc BK562 3, bc BK562 4, bc BK553 0, bc BK553 1, bc BK553 2, bc BK553 3, bc BK553 4, (hc HB hw563_0)⟩ (fun hHeld => ?_)
         clear hK K
         refine noX ?_
         refine puX 14 55 (MK [15, 1]) HT_.out ?_
         refine last_ (i := 15) (N := none) #[true, true, true, true, true, true, true, true, true, true, true, true, true, true, true, true] rfl rfl (one_of HT_.out (by kernel_rfl)) (by decide) (fun K hK => ?_)
         have hs25 : w23.cell? ⟨gb562, 4, none⟩ = some (u563004) := bc BK562 4
         have hfs25 := blk_frozen BK562.out 4
         have hns25_0 := NB553_562.out
         have hms25_0 := NB562_553.out
         refine skip_ (w1 := ?_) (by rfl) rfl ?_ ?_
         rotate_left
         ·go_simp
          rfl
         refine hK.out _ _ ?_
         clear hK K
         refine done_ (done_of HT_.out (by kernel_rfl)) ?_
         try go_wp2
         go_roundg k1
         case measure => have := HK1.out; omega
         case rel => exact ⟨(wrap64 (x8_1 + 1)), (y564), (.slice Ao24 y564.length co24), (by first | rfl | (simp; done) | (simp [*]; done)), H', ⟨by have := HK1.out; omega⟩, ⟨by (with_reducible repeat (first | apply Kd.R_alloc | apply Kd.R_drewN | apply Kd.R_drew)); exact Kd.R_mono (Kd.R_far (p := ⟨gb562, 4, none⟩) (Kd.R_types HO_4.out BK562.out (by decide)) (fun _ hk => hk.2) (.slice Ao24 y564.length co24)) (fun _ hk => hk.1.2)⟩, ⟨by (with_reducible repeat (first | apply Kd.R_alloc | apply Kd.R_drewN | apply Kd.R_drew)); exact Kd.R_mono (Kd.R_far (p := ⟨gb562, 4, none⟩) (Kd.R_types HO566.out BK562.out (by decide)) (fun _ hk => hk.2) (.slice Ao24 y564.length co24)) (fun _ hk => hk.1)⟩, ⟨by (with_reducible repeat (first | refine blk_drewN ?_ _ | refine blk_drew ?_ | refine blk_alloc ?_ _)); refine blk_far ?_ NB553_562.out _; (with_reducible repeat (first | refine blk_drewN ?_ _ | refine blk_drew ?_ | refine blk_alloc ?_ _)); exact BK553.out⟩, ⟨by (with_reducible repeat (first | refine blk_drewN ?_ _ | refine blk_drew ?_ | refine blk_alloc ?_ _)); refine blk_put (cs := #[.int .i64 a0_0, .int .i64 a0_1, .int .i64 a0_2, .int .i64 a0_3, u563004]) ?_ 4 _ rfl; (with_reducible repeat (first | refine blk_drewN ?_ _ | refine blk_drew ?_ | refine blk_alloc ?_ _)); exact BK562.out⟩, ⟨by repeat (first | (with_reducible first | exact HB.out | apply below_alloc | apply pw_below_drewN | apply below_drew1 | refine below_set ?_ GE553.out | refine below_set ?_ GE562.out) | exact HB.out)⟩⟩
        ·rw [if_neg c19] at H
         exact absurd H (by simp)
       ·rw [if_neg c18] at H
        exact absurd H (by simp)
      ·rw [if_neg c17] at H
       exact absurd H (by simp)
     ·rw [if_neg c15] at H
      have c15b0 : decide (x8_1 < (l0_4.length : Int)) = false := decide_eq_false c15
      clear c15
      have H' := Aside0.mk H
      clear H
      have hnb26 := NB553_562.out
      have hnc26 := NB562_553.out
      obtain ⟨hcz27_0, hcz27_1, hcz27_2, hcz27_3, hcz27_4, hfz27_0, hfz27_1, hfz27_2, hfz27_3, hfz27_4⟩ := blk_all5 BK553.out
      go_wp2
      go_loopg [7, 9] k1 (fun kq v7 v9 w' => ∃ (x7_2 : Int) (x9_2 : Int), v7 = .int .i64 x7_2 ∧ v9 = .int .i64 x9_2 ∧ Aside0 (waveletlaw50_MetricsSums.l1 kq t556 t557 x7_2 x9_2 a0_0 a0_1 a0_2 a0_3 l0_4 a0_0 a0_1 a0_2 a0_3 x563004_1 = some r) ∧ Aside0 (kq ≤ k1) ∧ Aside0 (Kd.R (Kd.int .i64) 3 w' w.heap.size (fun k_ => some k_ ≠ (u563004 : Value).ownBlock) v558 t557) ∧ Aside0 (Kd.R (Kd.int .i64) 3 w' w.heap.size (fun k_ => some k_ ≠ (v558 : Value).ownBlock) u563004 x563004_1) ∧ Aside0 (w'.heap[gb553]? = some (.cells #[.int .i64 a0_0, .int .i64 a0_1, .int .i64 a0_2, .int .i64 a0_3, (.slice A0_4 l0_4.length c0_4)] 42 (0, 0))) ∧ Aside0 (w'.heap[gb562]? = some (.cells #[.int .i64 a0_0, .int .i64 a0_1, .int .i64 a0_2, .int .i64 a0_3, u563004] 42 (0, 0))) ∧ Aside0 (Below w.heap.size w w'))
      case atStart => exact ⟨(0), (0), (by first | rfl | (simp; done) | (simp [*]; done)), (by first | rfl | (simp; done) | (simp [*]; done)), H', ⟨Nat.le_refl _⟩, ⟨by (with_reducible repeat (first | apply Kd.R_alloc | apply Kd.R_drewN | apply Kd.R_drew)); exact HO_4.out⟩, ⟨by (with_reducible repeat (first | apply Kd.R_alloc | apply Kd.R_drewN | apply Kd.R_drew)); exact HO_563004.out⟩, ⟨by (with_reducible repeat (first | refine blk_drewN ?_ _ | refine blk_drew ?_ | refine blk_alloc ?_ _)); exact BK553.out⟩, ⟨by (with_reducible repeat (first | refine blk_drewN ?_ _ | refine blk_drew ?_ | refine blk_alloc ?_ _)); exact BK562.out⟩, ⟨by repeat (first | (with_reducible first | exact HB.out | apply below_alloc | apply pw_below_drewN | apply below_drew1 | refine below_set ?_ GE553.out | refine below_set ?_ GE562.out) | exact HB.out)⟩⟩
      case round =>
       clear H'
       try clear c1
       try clear c2
       try clear p2
       try clear c3
       try clear c5
       try clear c5b0
       try clear c5b1
       try clear p5
       try clear q5
       try clear hx5
       try clear p6
       try clear c9
       try clear c13
       try clear c15
       try clear c15b0
       try clear c17
       try clear c17b0
       try clear c18
       try clear c18b0
       try clear c19
       try clear c20
       try clear c21
       try clear c26
       try clear hcz11_0
       try clear hcz11_1
       try clear hcz11_2
       try clear hcz11_3
       try clear hcz11_4
       try clear hcz14_0
       try clear hcz14_1
       try clear hcz14_2
       try clear hcz14_3
       try clear hcz14_4
       try clear hcz21_0
       try clear hcz21_1
       try clear hcz21_2
       try clear hcz21_3
       try clear hcz21_4
       try clear hcz27_0
       try clear hcz27_1
       try clear hcz27_2
       try clear hcz27_3
       try clear hcz27_4
       try clear hcz7_0
       try clear hcz7_1
       try clear hcz7_2
       try clear hcz7_3
       try clear hcz7_4
       try clear hcz9_0
       try clear hcz9_1
       try clear hcz9_2
       try clear hcz9_3
       try clear hcz9_4
       try clear hfz11_0
       try clear hfz11_1
       try clear hfz11_2
       try clear hfz11_3
       try clear hfz11_4
       try clear hfz14_0
       try clear hfz14_1
       try clear hfz14_2
       try clear hfz14_3
       try clear hfz14_4
       try clear hfz21_0
       try clear hfz21_1
       try clear hfz21_2
       try clear hfz21_3
       try clear hfz21_4
       try clear hfz27_0
       try clear hfz27_1
       try clear hfz27_2
       try clear hfz27_3
       try clear hfz27_4
       try clear hfz7_0
       try clear hfz7_1
       try clear hfz7_2
       try clear hfz7_3
       try clear hfz7_4
       try clear hfz9_0
       try clear hfz9_1
       try clear hfz9_2
       try clear hfz9_3
       try clear hfz9_4
       try clear hx563_0
       try clear p2
       try clear p563
       try clear q563
       obtain ⟨x7_2, x9_2, rfl, rfl, HA, HK2, HO_4, HO_563004, BK553, BK562, HB⟩ := hrel
       cases gk with
       | zero => exact absurd HA.out (by simp [waveletlaw50_MetricsSums.l1])
       | succ k2 =>
        have H := HA.out
        clear HA
        simp only [waveletlaw50_MetricsSums.l1] at H
        by_cases c28 : x9_2 < (t557.length : Int)
        ·rw [if_pos c28] at H
         have c28b0 : decide (x9_2 < (t557.length : Int)) = true := decide_eq_true c28
         clear c28
         by_cases c29 : 0 ≤ x9_2
         ·rw [if_pos c29] at H
          have c29b0 : decide (0 ≤ x9_2) = true := decide_eq_true c29
          clear c29
          by_cases c30 : (rd t557 x9_2) < 0
          ·rw [if_pos c30] at H
           exact absurd (Option.some.inj H) (by rw [hr_]; decide)
          ·rw [if_neg c30] at H
           have c30b0 : decide ((rd t557 x9_2) < 0) = false := decide_eq_false c30
           clear c30
           have H' := Aside0.mk H
           clear H
           obtain ⟨Ao32, co32, eo32⟩ := Kd.R_slice HO_4.out
           subst eo32
           have p567 : 0 ≤ (x9_2 : Int) := of_decide_eq_true (by first | (with_reducible assumption) | assumption)
           have q567 : x9_2 < (t557.length : Int) := of_decide_eq_true (by first | (with_reducible assumption) | assumption)
           obtain ⟨ad567, e567, hx567_0⟩ := Kd.at_int (Kd.R_reads' HO_4.out).2.2 x9_2 p567 q567
           cases e567
           replace p567 := eq_true p567
           replace q567 := eq_true q567
           have p568 : 0 ≤ (x9_2 : Int) := of_decide_eq_true (by first | (with_reducible assumption) | assumption)
           have q568 : x9_2 < (t557.length : Int) := of_decide_eq_true (by first | (with_reducible assumption) | assumption)
           obtain ⟨ad568, e568, hx568_0⟩ := Kd.at_int (Kd.R_reads' HO_4.out).2.2 x9_2 p568 q568
           obtain rfl : ad567 = ad568 := (by injection e568)
           replace p568 := eq_true p568
           replace q568 := eq_true q568
           go_wp2
           go_roundg k2
           case measure => have := HK1.out; have := HK2.out; omega
           case rel => exact ⟨(wrap64 (x7_2 + (rd t557 x9_2))), (wrap64 (x9_2 + 1)), (by first | rfl | (simp; done) | (simp [*]; done)), (by first | rfl | (simp; done) | (simp [*]; done)), H', ⟨by have := HK1.out; have := HK2.out; omega⟩, ⟨by (with_reducible repeat (first | apply Kd.R_alloc | apply Kd.R_drewN | apply Kd.R_drew)); exact HO_4.out⟩, ⟨by (with_reducible repeat (first | apply Kd.R_alloc | apply Kd.R_drewN | apply Kd.R_drew)); exact HO_563004.out⟩, ⟨by (with_reducible repeat (first | refine blk_drewN ?_ _ | refine blk_drew ?_ | refine blk_alloc ?_ _)); exact BK553.out⟩, ⟨by (with_reducible repeat (first | refine blk_drewN ?_ _ | refine blk_drew ?_ | refine blk_alloc ?_ _)); exact BK562.out⟩, ⟨by repeat (first | (with_reducible first | exact HB.out | apply below_alloc | apply pw_below_drewN | apply below_drew1 | refine below_set ?_ GE553.out | refine below_set ?_ GE562.out) | exact HB.out)⟩⟩
         ·rw [if_neg c29] at H
          exact absurd H (by simp)
        ·rw [if_neg c28] at H
         have c28b0 : decide (x9_2 < (t557.length : Int)) = false := decide_eq_false c28
         clear c28
         replace H := Option.bind_eq_some_iff.mp H
         obtain ⟨⟨t569, t570, t573⟩, A330, H⟩ := H
         replace H : (if t573 = 0 then (if t569 = t556 then ((waveletref02_SameInts.f k2 t557 t570).bind fun t574 => (if t574 = true then (if x7_2 = (l0_4.length : Int) then (if (t557.length : Int) > 0 then (if 0 < (t557.length : Int) then (if (rd t557 0) > 0 then (if 0 ≤ (wrap64 ((t557.length : Int) - 1)) then (if (wrap64 ((t557.length : Int) - 1)) < (t557.length : Int) then (if (rd t557 (wrap64 ((t557.length : Int) - 1))) > 0 then ((waveletlaw50_exampleHolds.f k2).bind fun t577 => (some t577)) else (some false)) else (none)) else (none)) else (some false)) else (none)) else (some false)) else (some false)) else (some false))) else (some false)) else (some false)) = some r := H
         have A33 := Aside0.mk A330
         clear A330
         by_cases c34 : t573 = 0
         ·rw [if_pos c34] at H
          have c34b0 : (t573 == 0) = true := beq_iff_eq.mpr c34
          have c34b1 : (t573 != 0) = false := bne_eq_false_iff_eq.mpr c34
          clear c34
          by_cases c35 : t569 = t556
          ·rw [if_pos c35] at H
           have c35b0 : (t569 == t556) = true := beq_iff_eq.mpr c35
           have c35b1 : (t569 != t556) = false := bne_eq_false_iff_eq.mpr c35
           clear c35
           replace H := Option.bind_eq_some_iff.mp H
           obtain ⟨t574, A360, H⟩ := H
           replace H : (if t574 = true then (if x7_2 = (l0_4.length : Int) then (if (t557.length : Int) > 0 then (if 0 < (t557.length : Int) then (if (rd t557 0) > 0 then (if 0 ≤ (wrap64 ((t557.length : Int) - 1)) then (if (wrap64 ((t557.length : Int) - 1)) < (t557.length : Int) then (if (rd t557 (wrap64 ((t557.length : Int) - 1))) > 0 then ((waveletlaw50_exampleHolds.f k2).bind fun t577 => (some t577)) else (some false)) else (none)) else (none)) else (some false)) else (none)) else (some false)) else (some false)) else (some false)) = some r := H
           have A36 := Aside0.mk A360
           clear A360
           by_cases c37 : t574 = true
           ·subst c37
            have H1 : (if x7_2 = (l0_4.length : Int) then (if (t557.length : Int) > 0 then (if 0 < (t557.length : Int) then (if (rd t557 0) > 0 then (if 0 ≤ (wrap64 ((t557.length : Int) - 1)) then (if (wrap64 ((t557.length : Int) - 1)) < (t557.length : Int) then (if (rd t557 (wrap64 ((t557.length : Int) - 1))) > 0 then ((waveletlaw50_exampleHolds.f k2).bind fun t577 => (some t577)) else (some false)) else (none)) else (none)) else (some false)) else (none)) else (some false)) else (some false)) = some r := by rw [if_pos rfl] at H; exact H
            clear H
            have H := H1
            clear H1
            by_cases c38 : x7_2 = (l0_4.length : Int)
            ·rw [if_pos c38] at H
             have c38b0 : (x7_2 == (l0_4.length : Int)) = true := beq_iff_eq.mpr c38
             have c38b1 : (x7_2 != (l0_4.length : Int)) = false := bne_eq_false_iff_eq.mpr c38
             clear c38
             by_cases c39 : (t557.length : Int) > 0
             ·rw [if_pos c39] at H
              have c39b0 : decide (0 < (t557.length : Int)) = true := decide_eq_true c39
              have c39b1 : decide (0 < t557.length) = true := decide_eq_true (by omega)
              clear c39
              by_cases c40 : 0 < (t557.length : Int)
              ·rw [if_pos c40] at H
               have c40b0 : decide (0 < (t557.length : Int)) = true := decide_eq_true c40
               have c40b1 : decide (0 < t557.length) = true := decide_eq_true (by omega)
               clear c40
               by_cases c41 : (rd t557 0) > 0
               ·rw [if_pos c41] at H
                have c41b0 : decide (0 < (rd t557 0)) = true := decide_eq_true c41
                clear c41
                obtain ⟨ji42, hji42⟩ : ∃ j_ : Int, (wrap64 ((t557.length : Int) - 1)) = j_ := ⟨_, rfl⟩
                replace H : (if 0 ≤ (ji42) then (if (ji42) < (t557.length : Int) then (if (rd t557 (ji42)) > 0 then ((waveletlaw50_exampleHolds.f k2).bind fun t577 => (some t577)) else (some false)) else (none)) else (none)) = some r := by first | (rw [hji42] at H; exact H) | (simp only [hji42] at H ⊢; exact H)
                (try rw [hji42] at A33)
                (try rw [hji42] at A36)
                have hji42w : (IntKind.i64.wrap ((t557.length : Int) - 1)) = ji42 := (i64_w _).trans hji42
                by_cases c43 : 0 ≤ (ji42)
                ·rw [if_pos c43] at H
                 have c43b0 : decide (0 ≤ (ji42)) = true := decide_eq_true c43
                 clear c43
                 by_cases c44 : (ji42) < (t557.length : Int)
                 ·rw [if_pos c44] at H
                  have c44b0 : decide ((ji42) < (t557.length : Int)) = true := decide_eq_true c44
                  clear c44
                  by_cases c45 : (rd t557 (ji42)) > 0
                  ·rw [if_pos c45] at H
                   have c45b0 : decide (0 < (rd t557 (ji42))) = true := decide_eq_true c45
                   clear c45
                   replace H := Option.bind_eq_some_iff.mp H
                   obtain ⟨t577, A460, H⟩ := H
                   replace H : (some t577) = some r := H
                   have A46 := Aside0.mk A460
                   clear A460
                   obtain rfl := Option.some.inj H
                   obtain ⟨Ao47, co47, eo47⟩ := Kd.R_slice HO_4.out
                   subst eo47
                   have hnb48 := NB562_553.out
                   have hnc48 := NB553_562.out
                   have hcz49_0 : wr.cell? ⟨gb562, 0, none⟩ = some (.int .i64 a0_0) := bc BK562 0
                   have hcz49_1 : wr.cell? ⟨gb562, 1, none⟩ = some (.int .i64 a0_1) := bc BK562 1
                   have hcz49_2 : wr.cell? ⟨gb562, 2, none⟩ = some (.int .i64 a0_2) := bc BK562 2
                   have hcz49_3 : wr.cell? ⟨gb562, 3, none⟩ = some (.int .i64 a0_3) := bc BK562 3
                   have hcz49_4 : wr.cell? ⟨gb562, 4, none⟩ = some (u563004) := bc BK562 4
                   have hfz49_0 := blk_frozen BK562.out 0
                   have hfz49_1 := blk_frozen BK562.out 1
                   have hfz49_2 := blk_frozen BK562.out 2
                   have hfz49_3 := blk_frozen BK562.out 3
                   have hfz49_4 := blk_frozen BK562.out 4
                   obtain ⟨Ao50, co50, eo50⟩ := Kd.R_slice HO_563004.out
                   subst eo50
                   go_wp2_with (first | ((with_reducible refine gate_callee (f := 21) rfl ?_); refine goesL_ (some 75) rfl rfl Try.func21 (by kernel_rfl) rfl #[.agg #[.int .i64 a0_0, .int .i64 a0_1, .int .i64 a0_2, .int .i64 a0_3, .slice Ao50 x563004_1.length co50]] rfl upL ?_; (with_reducible refine (metrics_Histogram.calls k2 a0_0 a0_1 a0_2 a0_3 _ _ x563004_1 t569 t570 t573 _ ?side1 ?side2 A33.out).mono ?_); (case side1 => repeat (first | exact (Kd.R_reads' HO_563004.out).2.2 | (with_reducible refine Kd.C_alloc ?_ _) | (with_reducible refine Kd.C_drewN ?_ _) | (with_reducible refine Kd.C_drew ?_))); (case side2 => exact (Kd.R_reads' HO_563004.out).2.1); rintro e w51 ⟨v571, rfl, ho0, hb⟩; refine ⟨_, rfl, ?_⟩; have HO572 := Aside0.mk (Kd.R_lower (Kd.R_new' (Kd.R_new' ho0 (Kd.R_lt (upR HO_4.out))) (Kd.R_lt (upR HO_563004.out))) (below_size (upB HB.out))); replace HO_4 := Aside0.mk (Kd.R_elder' (upR HO_4.out) (Kd.R_base ho0) hb); replace HO_563004 := Aside0.mk (Kd.R_elder' (upR HO_563004.out) (Kd.R_base ho0) hb); replace BK553 := Aside0.mk (blk_below (g := gb553) (o := .cells #[.int .i64 a0_0, .int .i64 a0_1, .int .i64 a0_2, .int .i64 a0_3, .slice A0_4 l0_4.length c0_4] 42 (0, 0)) (upK BK553.out) hb); replace BK562 := Aside0.mk (blk_below (g := gb562) (o := .cells #[.int .i64 a0_0, .int .i64 a0_1, .int .i64 a0_2, .int .i64 a0_3, .slice Ao50 x563004_1.length co50] 42 (0, 0)) (upK BK562.out) hb); replace HB := Aside0.mk (below_step (upB HB.out) hb); (try clear hb; try clear hb2; try clear hk; try clear hi; try clear ho0); obtain ⟨Ao52, co52, eo52⟩ := Kd.R_slice HO572.out; subst eo52) | (go_at_call 23; (with_reducible refine (waveletref02_SameInts.calls k2 _ _ t557 _ _ t570 true _ ?side1 ?side2 ?side3 ?side4 A36.out).mono ?_); (case side1 => repeat (first | exact (Kd.R_reads' HO_4.out).2.2 | (with_reducible refine Kd.C_alloc ?_ _) | (with_reducible refine Kd.C_drewN ?_ _) | (with_reducible refine Kd.C_drew ?_))); (case side2 => exact (Kd.R_reads' HO_4.out).2.1); (case side3 => repeat (first | exact (Kd.R_reads' HO572.out).2.2 | (with_reducible refine Kd.C_alloc ?_ _) | (with_reducible refine Kd.C_drewN ?_ _) | (with_reducible refine Kd.C_drew ?_))); (case side4 => exact (Kd.R_reads' HO572.out).2.1); rintro e w' ⟨rfl, ⟨nd, rfl⟩⟩; have hcz53_0 : w51.cell? ⟨gb553, 0, none⟩ = some (.int .i64 a0_0) := bc BK553 0; have hcz53_1 : w51.cell? ⟨gb553, 1, none⟩ = some (.int .i64 a0_1) := bc BK553 1; have hcz53_2 : w51.cell? ⟨gb553, 2, none⟩ = some (.int .i64 a0_2) := bc BK553 2; have hcz53_3 : w51.cell? ⟨gb553, 3, none⟩ = some (.int .i64 a0_3) := bc BK553 3; have hcz53_4 : w51.cell? ⟨gb553, 4, none⟩ = some (.slice A0_4 l0_4.length c0_4) := bc BK553 4; have hfz53_0 := blk_frozen BK553.out 0; have hfz53_1 := blk_frozen BK553.out 1; have hfz53_2 := blk_frozen BK553.out 2; have hfz53_3 := blk_frozen BK553.out 3; have hfz53_4 := blk_frozen BK553.out 4; have p575 : 0 ≤ (0 : Int) := (by omega); have q575 : 0 < (t557.length : Int) := of_decide_eq_true (by first | (with_reducible assumption) | assumption); obtain ⟨ad575, e575, hx575_0⟩ := Kd.at_int (Kd.R_reads' HO_4.out).2.2 0 p575 q575; cases e575; have qi575 : (0 < t557.length) = True := eq_true (by omega); (try rw [show ((0 : Int)).toNat = 0 from rfl] at hx575_0); (try rw [Addr.add_zero'] at hx575_0); replace p575 := eq_true p575; replace q575 := eq_true q575; have p576 : 0 ≤ ((ji42) : Int) := of_decide_eq_true (by first | (with_reducible assumption) | assumption); have q576 : (ji42) < (t557.length : Int) := of_decide_eq_true (by first | (with_reducible assumption) | assumption); obtain ⟨ad576, e576, hx576_0⟩ := Kd.at_int (Kd.R_reads' HO_4.out).2.2 (ji42) p576 q576; obtain rfl : ad575 = ad576 := (by injection e576); replace p576 := eq_true p576; replace q576 := eq_true q576) | (go_at_call 11; (with_reducible refine (waveletlaw50_exampleHolds.calls k2  t577 _ A46.out).mono ?_); rintro e w54 ⟨rfl, hb⟩; replace HO_4 := Aside0.mk (Kd.R_below (upR HO_4.out) hb); replace HO_563004 := Aside0.mk (Kd.R_below (upR HO_563004.out) hb); replace HO572 := Aside0.mk (Kd.R_below (upR HO572.out) hb); replace BK553 := Aside0.mk (blk_below (g := gb553) (o := .cells #[.int .i64 a0_0, .int .i64 a0_1, .int .i64 a0_2, .int .i64 a0_3, .slice A0_4 l0_4.length c0_4] 42 (0, 0)) (upK BK553.out) hb); replace BK562 := Aside0.mk (blk_below (g := gb562) (o := .cells #[.int .i64 a0_0, .int .i64 a0_1, .int .i64 a0_2, .int .i64 a0_3, .slice Ao50 x563004_1.length co50] 42 (0, 0)) (upK BK562.out) hb); replace HB := Aside0.mk (below_step (upB HB.out) hb); (try clear hb; try clear hb2; try clear hk; try clear hi)))
                   go_ret
                   exact ⟨by first | rfl | (simp [errW_none, errW_some] <;> rfl) | (simp only [← hji42]; first | rfl | (simp [errW_none, errW_some] <;> rfl)) | (simp [*, errW_none, errW_some] <;> rfl), by repeat (first | (with_reducible first | exact HB.out | apply below_alloc | apply pw_below_drewN | apply below_drew1 | refine below_set ?_ GE553.out | refine below_set ?_ GE562.out) | exact HB.out)⟩
                  ·rw [if_neg c45] at H
                   exact absurd (Option.some.inj H) (by rw [hr_]; decide)
                 ·rw [if_neg c44] at H
                  exact absurd H (by simp)
                ·rw [if_neg c43] at H
                 exact absurd H (by simp)
               ·rw [if_neg c41] at H
                exact absurd (Option.some.inj H) (by rw [hr_]; decide)
              ·rw [if_neg c40] at H
               exact absurd H (by simp)
             ·rw [if_neg c39] at H
              exact absurd (Option.some.inj H) (by rw [hr_]; decide)
            ·rw [if_neg c38] at H
             exact absurd (Option.some.inj H) (by rw [hr_]; decide)
           ·replace c37 := Bool.eq_false_iff.mpr c37
            subst c37
            have H1 : (some false) = some r := by rw [if_neg (show ¬ (false = true) by decide)] at H; exact H
            exact absurd (Option.some.inj H1) (by rw [hr_]; decide)
          ·rw [if_neg c35] at H
           exact absurd (Option.some.inj H) (by rw [hr_]; decide)
         ·rw [if_neg c34] at H
          exact absurd (Option.some.inj H) (by rw [hr_]; decide)
  ·rw [if_neg c5] at H
   have c5b0 : (t560 == 0) = false := beq_eq_false_iff_ne.mpr c5
   have c5b1 : (t560 != 0) = true := bne_iff_ne.mpr c5
   by_cases c99 : (t557.length : Int) = 0
   ·rw [if_pos c99] at H
    have c99b0 : ((t557.length : Int) == 0) = true := beq_iff_eq.mpr c99
    have c99b1 : ((t557.length : Int) != 0) = false := bne_eq_false_iff_eq.mpr c99
    clear c99
    replace H := Option.bind_eq_some_iff.mp H
    obtain ⟨t561, A1000, H⟩ := H
    replace H : (some t561) = some r := H
    have A100 := Aside0.mk A1000
    clear A1000
    obtain rfl := Option.some.inj H
    go_enter Try.func9, Try.ntmps9
    go_wp2_with (first | ((with_reducible refine gate_dst (N := 1) rfl ?_); (try (refine gate_guard (by rfl) ?_; dsimp only)); refine box_event ?hg (N := 1) ?hd (cs := #[.int .i64 a0_0, .int .i64 a0_1, .int .i64 a0_2, .int .i64 a0_3, .slice A0_4 l0_4.length c0_4]) (t := 42) ?hr ?_; (case hd => rfl); (case hg => rfl); (case hr => first | (go_simp; done) | (go_simp; rfl)); intro gb553 hg w101 hbox hb; have BK553 := Aside0.mk (hbox); have GW553 := Aside0.mk ((by rw [hg]; exact (below_size HB.out) : w.heap.size ≤ gb553)); have GE553 := Aside0.mk ((by rw [hg]; exact (below_size HB.out) : w.heap.size ≤ gb553)); replace HB := Aside0.mk (below_step HB.out hb); clear hb hbox hg; obtain ⟨hcz102_0, hcz102_1, hcz102_2, hcz102_3, hcz102_4, hfz102_0, hfz102_1, hfz102_2, hfz102_3, hfz102_4⟩ := blk_all5 BK553.out) | ((with_reducible refine gate_callee (f := 20) rfl ?_); refine goesL_ (some 14) rfl rfl Try.func20 (by kernel_rfl) rfl #[.agg #[.int .i64 a0_0, .int .i64 a0_1, .int .i64 a0_2, .int .i64 a0_3, .slice A0_4 l0_4.length c0_4]] rfl upL ?_; (with_reducible refine (waveletref02_Few.calls a0_0 a0_1 a0_2 a0_3 _ _ l0_4 true _ ?side1 ?side2 A2.out).mono ?_); (case side1 => repeat (first | exact (Kd.C_below HR0_4.out HB.out) | (with_reducible refine Kd.C_alloc ?_ _) | (with_reducible refine Kd.C_drewN ?_ _) | (with_reducible refine Kd.C_drew ?_))); (case side2 => exact HC0_4.out); rintro e w103 ⟨rfl, hb⟩; refine ⟨_, rfl, ?_⟩; replace BK553 := Aside0.mk (blk_below BK553.out hb); replace HB := Aside0.mk (below_step HB.out hb); (try clear hb; try clear hb2; try clear hk; try clear hi); obtain ⟨hcz104_0, hcz104_1, hcz104_2, hcz104_3, hcz104_4, hfz104_0, hfz104_1, hfz104_2, hfz104_3, hfz104_4⟩ := blk_all5 BK553.out) | ((with_reducible refine gate_callee (f := 21) rfl ?_); refine goesL_ (some 19) rfl rfl Try.func21 (by kernel_rfl) rfl #[.agg #[.int .i64 a0_0, .int .i64 a0_1, .int .i64 a0_2, .int .i64 a0_3, .slice A0_4 l0_4.length c0_4]] rfl upL ?_; (with_reducible refine (metrics_Histogram.calls k a0_0 a0_1 a0_2 a0_3 _ _ l0_4 t556 t557 t560 _ ?side1 ?side2 A4.out).mono ?_); (case side1 => repeat (first | exact (Kd.C_below HR0_4.out HB.out) | (with_reducible refine Kd.C_alloc ?_ _) | (with_reducible refine Kd.C_drewN ?_ _) | (with_reducible refine Kd.C_drew ?_))); (case side2 => exact HC0_4.out); rintro e w105 ⟨v558, rfl, ho0, hb⟩; refine ⟨_, rfl, ?_⟩; have HO559 := Aside0.mk (Kd.R_lower ho0 (below_size HB.out)); replace BK553 := Aside0.mk (blk_below BK553.out hb); replace HB := Aside0.mk (below_step HB.out hb); (try clear hb; try clear hb2; try clear hk; try clear hi; try clear ho0); obtain ⟨Ao106, co106, eo106⟩ := Kd.R_slice HO559.out; subst eo106) | (go_at_call 11; (with_reducible refine (waveletlaw50_exampleHolds.calls k  t561 _ A100.out).mono ?_); rintro e w107 ⟨rfl, hb⟩; replace HO559 := Aside0.mk (Kd.R_below HO559.out hb); replace BK553 := Aside0.mk (blk_below BK553.out hb); replace HB := Aside0.mk (below_step HB.out hb); (try clear hb; try clear hb2; try clear hk; try clear hi)))
    go_ret
    exact ⟨by first | rfl | (simp [errW_none, errW_some] <;> rfl) | (simp [*, errW_none, errW_some] <;> rfl), HB.out⟩
   ·rw [if_neg c99] at H
    exact absurd (Option.some.inj H) (by rw [hr_]; decide)
 ·replace c3 := Bool.eq_false_iff.mpr c3
  subst c3
  have H1 : ((waveletlaw50_exampleHolds.f k).bind fun t555 => (some t555)) = some r := by rw [if_neg (show ¬ (false = true) by decide)] at H; exact H
  clear H
  have H := H1
  clear H1
  replace H := Option.bind_eq_some_iff.mp H
  obtain ⟨t555, A1140, H⟩ := H
  replace H : (some t555) = some r := H
  have A114 := Aside0.mk A1140
  clear A1140
  obtain rfl := Option.some.inj H
  go_enter Try.func9, Try.ntmps9
  go_wp2_with (first | ((with_reducible refine gate_dst (N := 1) rfl ?_); (try (refine gate_guard (by rfl) ?_; dsimp only)); refine box_event ?hg (N := 1) ?hd (cs := #[.int .i64 a0_0, .int .i64 a0_1, .int .i64 a0_2, .int .i64 a0_3, .slice A0_4 l0_4.length c0_4]) (t := 42) ?hr ?_; (case hd => rfl); (case hg => rfl); (case hr => first | (go_simp; done) | (go_simp; rfl)); intro gb553 hg w115 hbox hb; have BK553 := Aside0.mk (hbox); have GW553 := Aside0.mk ((by rw [hg]; exact (below_size HB.out) : w.heap.size ≤ gb553)); have GE553 := Aside0.mk ((by rw [hg]; exact (below_size HB.out) : w.heap.size ≤ gb553)); replace HB := Aside0.mk (below_step HB.out hb); clear hb hbox hg; obtain ⟨hcz116_0, hcz116_1, hcz116_2, hcz116_3, hcz116_4, hfz116_0, hfz116_1, hfz116_2, hfz116_3, hfz116_4⟩ := blk_all5 BK553.out) | ((with_reducible refine gate_callee (f := 20) rfl ?_); refine goesL_ (some 14) rfl rfl Try.func20 (by kernel_rfl) rfl #[.agg #[.int .i64 a0_0, .int .i64 a0_1, .int .i64 a0_2, .int .i64 a0_3, .slice A0_4 l0_4.length c0_4]] rfl upL ?_; (with_reducible refine (waveletref02_Few.calls a0_0 a0_1 a0_2 a0_3 _ _ l0_4 false _ ?side1 ?side2 A2.out).mono ?_); (case side1 => repeat (first | exact (Kd.C_below HR0_4.out HB.out) | (with_reducible refine Kd.C_alloc ?_ _) | (with_reducible refine Kd.C_drewN ?_ _) | (with_reducible refine Kd.C_drew ?_))); (case side2 => exact HC0_4.out); rintro e w117 ⟨rfl, hb⟩; refine ⟨_, rfl, ?_⟩; replace BK553 := Aside0.mk (blk_below BK553.out hb); replace HB := Aside0.mk (below_step HB.out hb); (try clear hb; try clear hb2; try clear hk; try clear hi)) | ((with_reducible refine gate_callee (f := 11) rfl ?_); refine goesL_ (some 16) rfl rfl Try.func11 (by kernel_rfl) rfl #[] rfl upL ?_; (with_reducible refine (waveletlaw50_exampleHolds.calls k  t555 _ A114.out).mono ?_); rintro e w118 ⟨rfl, hb⟩; refine ⟨_, rfl, ?_⟩; replace BK553 := Aside0.mk (blk_below BK553.out hb); replace HB := Aside0.mk (below_step HB.out hb); (try clear hb; try clear hb2; try clear hk; try clear hi)))
  go_ret
  exact ⟨by first | rfl | (simp [errW_none, errW_some] <;> rfl) | (simp [*, errW_none, errW_some] <;> rfl), HB.out⟩

end Go.Proofs.Ytfihdlekeainpaa.Q
