-- By a program of this session (wip/tools/mk.py), out of the kit's print of the translation; Lean checks it.
import Derived.Test.YthemchggmlpdhaaUp2
import Derived.Test.YthemchggmlpdhaaUp
import Derived.Test.YthemchggmlpdhaaQ0
import Derived.Test.YthemchggmlpdhaaQ1
import Derived.Test.YthemchggmlpdhaaQ4
import Derived.Test.YthemchggmlpdhaaQ6
import Derived.Test.YthemchggmlpdhaaQ8
import Derived.Test.YthemchggmlpdhaaQ25
import Derived.Test.YthemchggmlpdhaaQ26
namespace Go.Proofs.Ythemchggmlpdhaa.Q
open Go.RowKit Go.Proofs.YthemchggmlpdhaaW.PrintWords Go.Proofs.YthemchggmlpdhaaW.PrintLast Go.Proofs.YthemchggmlpdhaaW.PrintMore
attribute [local go_sem] max2_int min2_int max_two min_two max_three min_three max_four min_four   -- for this text's walks alone
set_option linter.unusedVariables false
set_option linter.unusedSimpArgs false

attribute [local go_sem high] eqA23
/-! ### waveletlaw02_PlaneNews: function 3 -/
def waveletlaw02_PlaneNews.j0 : Nat → Int → Bool → Int → Int → Int → Int → Int → Int → Int → Int → List Int → Option (Bool)
 | 0, _, _, _, _, _, _, _, _, _, _, _ => none
 | k + 1, x4, x19, x371000, x371001, x371002, x371003, x380000, x380001, x380002, x380003, x380004 => if x19 = true then (if x4 = 0 then (if (x380000 == x371000 && (x380001 == x371001 && (x380002 == x371002 && (x380003 == x371003)))) = true then ((waveletref01_Area.f x371000 x371001 x371002 x371003).bind fun t382 => (if (x380004.length : Int) = t382 then ((waveletlaw02_exampleHolds.f k).bind fun t383 => (some t383)) else (some false))) else (some false)) else (some false)) else ((waveletref02_New.f x371000 x371001 x371002 x371003).bind fun bt384 => (if x4 = bt384.2.2.2.2.2 then ((waveletref02_Same.f k x380000 x380001 x380002 x380003 x380004 bt384.1 bt384.2.1 bt384.2.2.1 bt384.2.2.2.1 bt384.2.2.2.2.1).bind fun t393 => (if t393 = true then ((waveletlaw02_exampleHolds.f k).bind fun t394 => (some t394)) else (some false))) else (some false)))
def waveletlaw02_PlaneNews.f (k : Nat) (a0_0 : Int) (a0_1 : Int) (a0_2 : Int) (a0_3 : Int) : Option (Bool) := (plane_New.f a0_0 a0_1 a0_2 a0_3).bind fun bt371 => ((waveletref01_Area.f a0_0 a0_1 a0_2 a0_3).bind fun t380 => (if t380 > 4096 then ((waveletref01_Area.f a0_0 a0_1 a0_2 a0_3).bind fun t381 => (waveletlaw02_PlaneNews.j0 k bt371.2.2.2.2.2 (decide (t381 ≤ 1048576)) a0_0 a0_1 a0_2 a0_3 bt371.1 bt371.2.1 bt371.2.2.1 bt371.2.2.2.1 bt371.2.2.2.2.1)) else (waveletlaw02_PlaneNews.j0 k bt371.2.2.2.2.2 false a0_0 a0_1 a0_2 a0_3 bt371.1 bt371.2.1 bt371.2.2.1 bt371.2.2.2.1 bt371.2.2.2.2.1)))
theorem waveletlaw02_PlaneNews.mono_l : ∀ k, (∀ y0 y1 y2 y3 y4 y5 y6 y7 y8 y9 y10, LeO (waveletlaw02_PlaneNews.j0 k y0 y1 y2 y3 y4 y5 y6 y7 y8 y9 y10) (waveletlaw02_PlaneNews.j0 (k + 1) y0 y1 y2 y3 y4 y5 y6 y7 y8 y9 y10))
 | 0 => fun _ _ _ _ _ _ _ _ _ _ _ r h => by simp [waveletlaw02_PlaneNews.j0] at h
 | k + 1 => by
  have ih0 := waveletlaw02_PlaneNews.mono_l k
  ·intro y0 y1 y2 y3 y4 y5 y6 y7 y8 y9 y10
   unfold waveletlaw02_PlaneNews.j0
   repeat' first
   | (with_reducible exact ih0 _ _ _ _ _ _ _ _ _ _ _)
   | (with_reducible exact waveletlaw02_exampleHolds.mono _)
   | (with_reducible exact waveletref02_Same.mono _ _ _ _ _ _ _ _ _ _ _)
   | (with_reducible exact LeO.refl _)
   | (with_reducible exact LeO.none _)
   | (with_reducible refine LeO.ite ?_ ?_)
   | (with_reducible refine LeO.bind ?_ (fun _ => ?_))
   | exact ih0 _ _ _ _ _ _ _ _ _ _ _
   | exact waveletlaw02_exampleHolds.mono _
   | exact waveletref02_Same.mono _ _ _ _ _ _ _ _ _ _ _
   | exact LeO.none _
   | refine LeO.ite ?_ ?_
   | refine LeO.bind ?_ (fun _ => ?_)
theorem waveletlaw02_PlaneNews.mono : ∀ a0 a1 a2 a3 k, LeO (waveletlaw02_PlaneNews.f k a0 a1 a2 a3) (waveletlaw02_PlaneNews.f (k + 1) a0 a1 a2 a3) := by
 intro a0 a1 a2 a3 k
 have ih0 := waveletlaw02_PlaneNews.mono_l k
 unfold waveletlaw02_PlaneNews.f
 repeat' first
   | (with_reducible exact ih0 _ _ _ _ _ _ _ _ _ _ _)
   | (with_reducible exact waveletlaw02_exampleHolds.mono _)
   | (with_reducible exact waveletref02_Same.mono _ _ _ _ _ _ _ _ _ _ _)
   | (with_reducible exact LeO.refl _)
   | (with_reducible exact LeO.none _)
   | (with_reducible refine LeO.ite ?_ ?_)
   | (with_reducible refine LeO.bind ?_ (fun _ => ?_))
   | exact ih0 _ _ _ _ _ _ _ _ _ _ _
   | exact waveletlaw02_exampleHolds.mono _
   | exact waveletref02_Same.mono _ _ _ _ _ _ _ _ _ _ _
   | exact LeO.none _
   | refine LeO.ite ?_ ?_
   | refine LeO.bind ?_ (fun _ => ?_)
def waveletlaw02_PlaneNews.T3 : Bool × List (List Nat × List Nat) := (true, [([], []), ([0], [0]), ([1], [1]), ([2], [2]), ([3, 2], [2, 3]), ([2], [2]), ([4, 5, 2], [2, 4, 5]), ([2, 6], [2, 6]), ([7, 2], [7]), ([8], [8]), ([9, 8], [8, 9]), ([10, 8], [8, 10]), ([8], [8]), ([12, 8, 8], [8, 12]), ([11, 13, 8], [8, 11, 13]), ([8, 14], [8, 14]), ([15, 13], [15]), ([16, 16], [16]), ([16, 17], [16, 17]), ([18, 17, 0, 1, 2, 3, 4, 5, 6, 7, 8, 9, 10, 11, 12, 13, 14, 15, 16, 17, 18], [18])])
def waveletlaw02_PlaneNews.B3 : List Nat := [0, 1, 3, 7, 15, 7, 63, 127, 255, 511, 1023, 2047, 511, 4607, 16383, 32767, 65535, 131071, 262143, 524287]
theorem waveletlaw02_PlaneNews.tab3 : rtab .any (opsOf Try.f3 3) = waveletlaw02_PlaneNews.T3 := by kernel_rfl
theorem waveletlaw02_PlaneNews.bits3 : waitsOk waveletlaw02_PlaneNews.T3.2 waveletlaw02_PlaneNews.B3 = true := by kernel_rfl
set_option maxHeartbeats 8000000 in
set_option maxRecDepth 100000 in
theorem waveletlaw02_PlaneNews.calls (k : Nat) (a0_0 : Int) (a0_1 : Int) (a0_2 : Int) (a0_3 : Int) (r : Bool) (hr_ : r = true) (w : World) (h : waveletlaw02_PlaneNews.f k a0_0 a0_1 a0_2 a0_3 = some r) :
  Calls Try.prog 3 #[.agg #[.int .i64 a0_0, .int .i64 a0_1, .int .i64 a0_2, .int .i64 a0_3]] w fun e w' => e = .returned (.bool r) ∧ Below w.heap.size w w' := by
 have hu23 := Try.underlying23
 have hu26 := Try.underlying26
 have HB := Aside0.mk (Below.refl w.heap.size w)
 have H : ((plane_New.f a0_0 a0_1 a0_2 a0_3).bind fun bt371 => ((waveletref01_Area.f a0_0 a0_1 a0_2 a0_3).bind fun t380 => (if t380 > 4096 then ((waveletref01_Area.f a0_0 a0_1 a0_2 a0_3).bind fun t381 => (waveletlaw02_PlaneNews.j0 k bt371.2.2.2.2.2 (decide (t381 ≤ 1048576)) a0_0 a0_1 a0_2 a0_3 bt371.1 bt371.2.1 bt371.2.2.1 bt371.2.2.2.1 bt371.2.2.2.2.1)) else (waveletlaw02_PlaneNews.j0 k bt371.2.2.2.2.2 false a0_0 a0_1 a0_2 a0_3 bt371.1 bt371.2.1 bt371.2.2.1 bt371.2.2.2.1 bt371.2.2.2.2.1)))) = some r := h
 clear h
 replace H := Option.bind_eq_some_iff.mp H
 obtain ⟨⟨t371, t372, t373, t374, t375, t378⟩, A20, H⟩ := H
 replace H : ((waveletref01_Area.f a0_0 a0_1 a0_2 a0_3).bind fun t380 => (if t380 > 4096 then ((waveletref01_Area.f a0_0 a0_1 a0_2 a0_3).bind fun t381 => (waveletlaw02_PlaneNews.j0 k t378 (decide (t381 ≤ 1048576)) a0_0 a0_1 a0_2 a0_3 t371 t372 t373 t374 t375)) else (waveletlaw02_PlaneNews.j0 k t378 false a0_0 a0_1 a0_2 a0_3 t371 t372 t373 t374 t375))) = some r := H
 have A2 := Aside0.mk A20
 clear A20
 have HC3 := Aside0.mk H
 clear H
 go_enter Try.func3, Try.ntmps3
 go_upto_region 2 with (first | ((with_reducible refine gate_dst (N := 1) rfl ?_); (try (refine gate_guard (by rfl) ?_; dsimp only)); refine box_event ?hg (N := 1) ?hd (cs := #[.int .i64 a0_0, .int .i64 a0_1, .int .i64 a0_2, .int .i64 a0_3]) (t := 23) ?hr ?_; (case hd => rfl); (case hg => rfl); (case hr => first | (go_simp; done) | (go_simp; rfl)); intro gb370 hg w4 hbox hb; have BK370 := Aside0.mk (hbox); have GW370 := Aside0.mk ((by rw [hg]; exact (below_size (upB HB.out)) : w.heap.size ≤ gb370)); have GE370 := Aside0.mk ((by rw [hg]; exact (below_size (upB HB.out)) : w.heap.size ≤ gb370)); replace HB := Aside0.mk (below_step (upB HB.out) hb); clear hb hbox hg; have hcz5_0 : w4.cell? ⟨gb370, 0, none⟩ = some (.int .i64 a0_0) := bc BK370 0; have hcz5_1 : w4.cell? ⟨gb370, 1, none⟩ = some (.int .i64 a0_1) := bc BK370 1; have hcz5_2 : w4.cell? ⟨gb370, 2, none⟩ = some (.int .i64 a0_2) := bc BK370 2; have hcz5_3 : w4.cell? ⟨gb370, 3, none⟩ = some (.int .i64 a0_3) := bc BK370 3; have hfz5_0 := blk_frozen BK370.out 0; have hfz5_1 := blk_frozen BK370.out 1; have hfz5_2 := blk_frozen BK370.out 2; have hfz5_3 := blk_frozen BK370.out 3) | ((with_reducible refine gate_callee (f := 12) rfl ?_); refine goesL_ (some 9) rfl rfl Try.func12 (by kernel_rfl) rfl #[.agg #[.int .i64 a0_0, .int .i64 a0_1, .int .i64 a0_2, .int .i64 a0_3]] rfl upL ?_; (with_reducible refine (plane_New.calls a0_0 a0_1 a0_2 a0_3 t371 t372 t373 t374 t375 t378 _ A2.out).mono ?_); rintro e w6 ⟨v376, rfl, ho0, hb⟩; refine ⟨_, rfl, ?_⟩; have HO377 := Aside0.mk (Kd.R_lower ho0 (below_size (upB HB.out))); replace BK370 := Aside0.mk (blk_below (g := gb370) (o := .cells #[.int .i64 a0_0, .int .i64 a0_1, .int .i64 a0_2, .int .i64 a0_3] 23 (0, 0)) (upK BK370.out) hb); replace HB := Aside0.mk (below_step (upB HB.out) hb); (try clear hb; try clear hb2; try clear hk; try clear hi; try clear ho0)) | ((with_reducible refine gate_dst (N := 3) rfl ?_); (try (refine gate_guard (by rfl) ?_; dsimp only)); refine box_event ?hg (N := 3) ?hd (cs := #[.int .i64 0, .int .i64 0, .int .i64 0, .int .i64 0, .slice none 0 0]) (t := 26) ?hr ?_; (case hd => rfl); (case hg => rfl); (case hr => first | (go_simp; done) | (go_simp; rfl)); intro gb379 hg w7 hbox hb; replace HO377 := Aside0.mk (Kd.R_below (upR HO377.out) hb); have BK379 := Aside0.mk (hbox); have GW379 := Aside0.mk ((by rw [hg]; exact (below_size (upB HB.out)) : w.heap.size ≤ gb379)); have GE379 := Aside0.mk ((by rw [hg]; exact (below_size (upB HB.out)) : w.heap.size ≤ gb379)); replace HB := Aside0.mk (below_step (upB HB.out) hb); have NB370_379 := Aside0.mk ((by rw [hg]; exact Nat.ne_of_lt (blk_lt (g := gb370) (o := .cells #[.int .i64 a0_0, .int .i64 a0_1, .int .i64 a0_2, .int .i64 a0_3] 23 (0, 0)) (upK BK370.out)) : gb370 ≠ gb379)); have NB379_370 := Aside0.mk ((by rw [hg]; exact Nat.ne_of_gt (blk_lt (g := gb370) (o := .cells #[.int .i64 a0_0, .int .i64 a0_1, .int .i64 a0_2, .int .i64 a0_3] 23 (0, 0)) (upK BK370.out)) : gb379 ≠ gb370)); replace BK370 := Aside0.mk (blk_below (g := gb370) (o := .cells #[.int .i64 a0_0, .int .i64 a0_1, .int .i64 a0_2, .int .i64 a0_3] 23 (0, 0)) (upK BK370.out) hb); clear hb hbox hg; have hnb8 := NB379_370.out; have hnc8 := NB370_379.out; have hcz9_0 : w7.cell? ⟨gb379, 0, none⟩ = some (.int .i64 0) := bc BK379 0; have hcz9_1 : w7.cell? ⟨gb379, 1, none⟩ = some (.int .i64 0) := bc BK379 1; have hcz9_2 : w7.cell? ⟨gb379, 2, none⟩ = some (.int .i64 0) := bc BK379 2; have hcz9_3 : w7.cell? ⟨gb379, 3, none⟩ = some (.int .i64 0) := bc BK379 3; have hcz9_4 : w7.cell? ⟨gb379, 4, none⟩ = some (.slice none 0 0) := bc BK379 4; have hfz9_0 := blk_frozen BK379.out 0; have hfz9_1 := blk_frozen BK379.out 1; have hfz9_2 := blk_frozen BK379.out 2; have hfz9_3 := blk_frozen BK379.out 3; have hfz9_4 := blk_frozen BK379.out 4; obtain ⟨Ao10, co10, eo10⟩ := Kd.R_slice HO377.out; subst eo10))
 (try simp only [Act.put, List.setIfInBounds_toArray, List.set_cons_zero, List.set_cons_succ])
 go_cut [19] (fun v19 wc => ∃ (kq : Nat) (x19_2 : Bool), v19 = .bool x19_2 ∧ Aside0 (waveletlaw02_PlaneNews.j0 kq t378 x19_2 a0_0 a0_1 a0_2 a0_3 t371 t372 t373 t374 t375 = some r) ∧ Aside0 (kq ≤ k) ∧ Aside0 (Kd.R (Kd.int .i64) 3 wc w.heap.size (fun _ => True) (.slice Ao10 t375.length co10) t375) ∧ Aside0 (wc.heap[gb370]? = some (.cells #[.int .i64 a0_0, .int .i64 a0_1, .int .i64 a0_2, .int .i64 a0_3] 23 (0, 0))) ∧ Aside0 (wc.heap[gb379]? = some (.cells #[.int .i64 t371, .int .i64 t372, .int .i64 t373, .int .i64 t374, (.slice Ao10 t375.length co10)] 26 (0, 0))) ∧ Aside0 (Below w.heap.size w wc))
 case first =>
  have H := HC3.out
  clear HC3
  replace H := Option.bind_eq_some_iff.mp H
  obtain ⟨t380, A110, H⟩ := H
  replace H : (if t380 > 4096 then ((waveletref01_Area.f a0_0 a0_1 a0_2 a0_3).bind fun t381 => (waveletlaw02_PlaneNews.j0 k t378 (decide (t381 ≤ 1048576)) a0_0 a0_1 a0_2 a0_3 t371 t372 t373 t374 t375)) else (waveletlaw02_PlaneNews.j0 k t378 false a0_0 a0_1 a0_2 a0_3 t371 t372 t373 t374 t375)) = some r := H
  have A11 := Aside0.mk A110
  clear A110
  by_cases c12 : t380 > 4096
  ·rw [if_pos c12] at H
   have c12b0 : decide (4096 < t380) = true := decide_eq_true c12
   clear c12
   (first | rw [c12b0] | (simp only [i64_w, i32_w]; rw [c12b0]) | skip)
   replace H := Option.bind_eq_some_iff.mp H
   obtain ⟨t381, A130, H⟩ := H
   obtain rfl : t380 = t381 := by have E_ := A11.out.symm.trans A130; simpa using E_
   replace H : (waveletlaw02_PlaneNews.j0 k t378 (decide (t380 ≤ 1048576)) a0_0 a0_1 a0_2 a0_3 t371 t372 t373 t374 t375) = some r := H
   have A13 := Aside0.mk A130
   clear A130
   have H' := Aside0.mk H
   clear H
   have hnb14 := NB370_379.out
   have hnc14 := NB379_370.out
   have hcz15_0 : w7.cell? ⟨gb370, 0, none⟩ = some (.int .i64 a0_0) := bc BK370 0
   have hcz15_1 : w7.cell? ⟨gb370, 1, none⟩ = some (.int .i64 a0_1) := bc BK370 1
   have hcz15_2 : w7.cell? ⟨gb370, 2, none⟩ = some (.int .i64 a0_2) := bc BK370 2
   have hcz15_3 : w7.cell? ⟨gb370, 3, none⟩ = some (.int .i64 a0_3) := bc BK370 3
   have hfz15_0 := blk_frozen BK370.out 0
   have hfz15_1 := blk_frozen BK370.out 1
   have hfz15_2 := blk_frozen BK370.out 2
   have hfz15_3 := blk_frozen BK370.out 3
   go_wp2_with (first | ((with_reducible refine gate_callee (f := 13) rfl ?_); refine goesL_ (some 13) rfl rfl Try.func13 (by kernel_rfl) rfl #[.agg #[.int .i64 a0_0, .int .i64 a0_1, .int .i64 a0_2, .int .i64 a0_3]] rfl upL ?_; (with_reducible refine (waveletref01_Area.calls a0_0 a0_1 a0_2 a0_3 t380 _ A11.out).mono ?_); rintro e w16 ⟨rfl, hb⟩; refine ⟨_, rfl, ?_⟩; replace HO377 := Aside0.mk (Kd.R_below (by (with_reducible repeat (first | apply Kd.R_alloc | apply Kd.R_drewN | apply Kd.R_drew)); exact (Kd.R_mono (Kd.R_far (p := ⟨gb379, 4, none⟩) (Kd.R_far (p := ⟨gb379, 3, none⟩) (Kd.R_far (p := ⟨gb379, 2, none⟩) (Kd.R_far (p := ⟨gb379, 1, none⟩) (Kd.R_far (p := ⟨gb379, 0, none⟩) (Kd.R_types HO377.out BK379.out (by decide)) (fun _ hk => hk.2) (.int .i64 t371)) (fun _ hk => hk.2) (.int .i64 t372)) (fun _ hk => hk.2) (.int .i64 t373)) (fun _ hk => hk.2) (.int .i64 t374)) (fun _ hk => hk.2) (.slice Ao10 t375.length co10)) (fun _ h_ => h_.1))) hb); replace BK370 := Aside0.mk (blk_below (g := gb370) (o := .cells #[.int .i64 a0_0, .int .i64 a0_1, .int .i64 a0_2, .int .i64 a0_3] 23 (0, 0)) (by (with_reducible repeat (first | refine blk_drewN ?_ _ | refine blk_drew ?_ | refine blk_alloc ?_ _)); refine blk_far ?_ NB370_379.out _; (with_reducible repeat (first | refine blk_drewN ?_ _ | refine blk_drew ?_ | refine blk_alloc ?_ _)); refine blk_far ?_ NB370_379.out _; (with_reducible repeat (first | refine blk_drewN ?_ _ | refine blk_drew ?_ | refine blk_alloc ?_ _)); refine blk_far ?_ NB370_379.out _; (with_reducible repeat (first | refine blk_drewN ?_ _ | refine blk_drew ?_ | refine blk_alloc ?_ _)); refine blk_far ?_ NB370_379.out _; (with_reducible repeat (first | refine blk_drewN ?_ _ | refine blk_drew ?_ | refine blk_alloc ?_ _)); refine blk_far ?_ NB370_379.out _; (with_reducible repeat (first | refine blk_drewN ?_ _ | refine blk_drew ?_ | refine blk_alloc ?_ _)); exact BK370.out) hb); replace BK379 := Aside0.mk (blk_below (g := gb379) (o := .cells #[.int .i64 t371, .int .i64 t372, .int .i64 t373, .int .i64 t374, .slice Ao10 t375.length co10] 26 (0, 0)) (by (with_reducible repeat (first | refine blk_drewN ?_ _ | refine blk_drew ?_ | refine blk_alloc ?_ _)); refine blk_put (cs := #[.int .i64 t371, .int .i64 t372, .int .i64 t373, .int .i64 t374, .slice none 0 0]) ?_ 4 _ rfl; (with_reducible repeat (first | refine blk_drewN ?_ _ | refine blk_drew ?_ | refine blk_alloc ?_ _)); refine blk_put (cs := #[.int .i64 t371, .int .i64 t372, .int .i64 t373, .int .i64 0, .slice none 0 0]) ?_ 3 _ rfl; (with_reducible repeat (first | refine blk_drewN ?_ _ | refine blk_drew ?_ | refine blk_alloc ?_ _)); refine blk_put (cs := #[.int .i64 t371, .int .i64 t372, .int .i64 0, .int .i64 0, .slice none 0 0]) ?_ 2 _ rfl; (with_reducible repeat (first | refine blk_drewN ?_ _ | refine blk_drew ?_ | refine blk_alloc ?_ _)); refine blk_put (cs := #[.int .i64 t371, .int .i64 0, .int .i64 0, .int .i64 0, .slice none 0 0]) ?_ 1 _ rfl; (with_reducible repeat (first | refine blk_drewN ?_ _ | refine blk_drew ?_ | refine blk_alloc ?_ _)); refine blk_put (cs := #[.int .i64 0, .int .i64 0, .int .i64 0, .int .i64 0, .slice none 0 0]) ?_ 0 _ rfl; (with_reducible repeat (first | refine blk_drewN ?_ _ | refine blk_drew ?_ | refine blk_alloc ?_ _)); exact BK379.out) hb); replace HB := Aside0.mk (below_step (upB HB.out) hb); (try clear hb; try clear hb2; try clear hk; try clear hi); have hcz17_0 : w16.cell? ⟨gb370, 0, none⟩ = some (.int .i64 a0_0) := bc BK370 0; have hcz17_1 : w16.cell? ⟨gb370, 1, none⟩ = some (.int .i64 a0_1) := bc BK370 1; have hcz17_2 : w16.cell? ⟨gb370, 2, none⟩ = some (.int .i64 a0_2) := bc BK370 2; have hcz17_3 : w16.cell? ⟨gb370, 3, none⟩ = some (.int .i64 a0_3) := bc BK370 3; have hfz17_0 := blk_frozen BK370.out 0; have hfz17_1 := blk_frozen BK370.out 1; have hfz17_2 := blk_frozen BK370.out 2; have hfz17_3 := blk_frozen BK370.out 3) | (go_at_call 13; (with_reducible refine (waveletref01_Area.calls a0_0 a0_1 a0_2 a0_3 t380 _ A13.out).mono ?_); rintro e w18 ⟨rfl, hb⟩; replace HO377 := Aside0.mk (Kd.R_below (upR HO377.out) hb); replace BK370 := Aside0.mk (blk_below (g := gb370) (o := .cells #[.int .i64 a0_0, .int .i64 a0_1, .int .i64 a0_2, .int .i64 a0_3] 23 (0, 0)) (upK BK370.out) hb); replace BK379 := Aside0.mk (blk_below (g := gb379) (o := .cells #[.int .i64 t371, .int .i64 t372, .int .i64 t373, .int .i64 t374, .slice Ao10 t375.length co10] 26 (0, 0)) (upK BK379.out) hb); replace HB := Aside0.mk (below_step (upB HB.out) hb); (try clear hb; try clear hb2; try clear hk; try clear hi)))
   go_meet
   case rel => exact ⟨_, (decide (t380 ≤ 1048576)), (by first | rfl | (simp; done) | (simp [*]; done)), H', ⟨by first | omega | exact Nat.le_refl _⟩, ⟨by (with_reducible repeat (first | apply Kd.R_alloc | apply Kd.R_drewN | apply Kd.R_drew)); exact HO377.out⟩, ⟨by (with_reducible repeat (first | refine blk_drewN ?_ _ | refine blk_drew ?_ | refine blk_alloc ?_ _)); exact BK370.out⟩, ⟨by (with_reducible repeat (first | refine blk_drewN ?_ _ | refine blk_drew ?_ | refine blk_alloc ?_ _)); exact BK379.out⟩, ⟨by repeat (first | (with_reducible first | exact HB.out | apply below_alloc | apply pw_below_drewN | apply below_drew1 | refine below_set ?_ GE370.out | refine below_set ?_ GE379.out) | exact HB.out)⟩⟩
  ·rw [if_neg c12] at H
   have c12b0 : decide (4096 < t380) = false := decide_eq_false c12
   clear c12
   (first | rw [c12b0] | (simp only [i64_w, i32_w]; rw [c12b0]) | skip)
   have H' := Aside0.mk H
   clear H
   have hnb19 := NB370_379.out
   have hnc19 := NB379_370.out
   have hcz20_0 : w7.cell? ⟨gb370, 0, none⟩ = some (.int .i64 a0_0) := bc BK370 0
   have hcz20_1 : w7.cell? ⟨gb370, 1, none⟩ = some (.int .i64 a0_1) := bc BK370 1
   have hcz20_2 : w7.cell? ⟨gb370, 2, none⟩ = some (.int .i64 a0_2) := bc BK370 2
   have hcz20_3 : w7.cell? ⟨gb370, 3, none⟩ = some (.int .i64 a0_3) := bc BK370 3
   have hfz20_0 := blk_frozen BK370.out 0
   have hfz20_1 := blk_frozen BK370.out 1
   have hfz20_2 := blk_frozen BK370.out 2
   have hfz20_3 := blk_frozen BK370.out 3
   go_wp2_with (first | ((with_reducible refine gate_callee (f := 13) rfl ?_); refine goesL_ (some 13) rfl rfl Try.func13 (by kernel_rfl) rfl #[.agg #[.int .i64 a0_0, .int .i64 a0_1, .int .i64 a0_2, .int .i64 a0_3]] rfl upL ?_; (with_reducible refine (waveletref01_Area.calls a0_0 a0_1 a0_2 a0_3 t380 _ A11.out).mono ?_); rintro e w21 ⟨rfl, hb⟩; refine ⟨_, rfl, ?_⟩; replace HO377 := Aside0.mk (Kd.R_below (by (with_reducible repeat (first | apply Kd.R_alloc | apply Kd.R_drewN | apply Kd.R_drew)); exact (Kd.R_mono (Kd.R_far (p := ⟨gb379, 4, none⟩) (Kd.R_far (p := ⟨gb379, 3, none⟩) (Kd.R_far (p := ⟨gb379, 2, none⟩) (Kd.R_far (p := ⟨gb379, 1, none⟩) (Kd.R_far (p := ⟨gb379, 0, none⟩) (Kd.R_types HO377.out BK379.out (by decide)) (fun _ hk => hk.2) (.int .i64 t371)) (fun _ hk => hk.2) (.int .i64 t372)) (fun _ hk => hk.2) (.int .i64 t373)) (fun _ hk => hk.2) (.int .i64 t374)) (fun _ hk => hk.2) (.slice Ao10 t375.length co10)) (fun _ h_ => h_.1))) hb); replace BK370 := Aside0.mk (blk_below (g := gb370) (o := .cells #[.int .i64 a0_0, .int .i64 a0_1, .int .i64 a0_2, .int .i64 a0_3] 23 (0, 0)) (by (with_reducible repeat (first | refine blk_drewN ?_ _ | refine blk_drew ?_ | refine blk_alloc ?_ _)); refine blk_far ?_ NB370_379.out _; (with_reducible repeat (first | refine blk_drewN ?_ _ | refine blk_drew ?_ | refine blk_alloc ?_ _)); refine blk_far ?_ NB370_379.out _; (with_reducible repeat (first | refine blk_drewN ?_ _ | refine blk_drew ?_ | refine blk_alloc ?_ _)); refine blk_far ?_ NB370_379.out _; (with_reducible repeat (first | refine blk_drewN ?_ _ | refine blk_drew ?_ | refine blk_alloc ?_ _)); refine blk_far ?_ NB370_379.out _; (with_reducible repeat (first | refine blk_drewN ?_ _ | refine blk_drew ?_ | refine blk_alloc ?_ _)); refine blk_far ?_ NB370_379.out _; (with_reducible repeat (first | refine blk_drewN ?_ _ | refine blk_drew ?_ | refine blk_alloc ?_ _)); exact BK370.out) hb); replace BK379 := Aside0.mk (blk_below (g := gb379) (o := .cells #[.int .i64 t371, .int .i64 t372, .int .i64 t373, .int .i64 t374, .slice Ao10 t375.length co10] 26 (0, 0)) (by (with_reducible repeat (first | refine blk_drewN ?_ _ | refine blk_drew ?_ | refine blk_alloc ?_ _)); refine blk_put (cs := #[.int .i64 t371, .int .i64 t372, .int .i64 t373, .int .i64 t374, .slice none 0 0]) ?_ 4 _ rfl; (with_reducible repeat (first | refine blk_drewN ?_ _ | refine blk_drew ?_ | refine blk_alloc ?_ _)); refine blk_put (cs := #[.int .i64 t371, .int .i64 t372, .int .i64 t373, .int .i64 0, .slice none 0 0]) ?_ 3 _ rfl; (with_reducible repeat (first | refine blk_drewN ?_ _ | refine blk_drew ?_ | refine blk_alloc ?_ _)); refine blk_put (cs := #[.int .i64 t371, .int .i64 t372, .int .i64 0, .int .i64 0, .slice none 0 0]) ?_ 2 _ rfl; (with_reducible repeat (first | refine blk_drewN ?_ _ | refine blk_drew ?_ | refine blk_alloc ?_ _)); refine blk_put (cs := #[.int .i64 t371, .int .i64 0, .int .i64 0, .int .i64 0, .slice none 0 0]) ?_ 1 _ rfl; (with_reducible repeat (first | refine blk_drewN ?_ _ | refine blk_drew ?_ | refine blk_alloc ?_ _)); refine blk_put (cs := #[.int .i64 0, .int .i64 0, .int .i64 0, .int .i64 0, .slice none 0 0]) ?_ 0 _ rfl; (with_reducible repeat (first | refine blk_drewN ?_ _ | refine blk_drew ?_ | refine blk_alloc ?_ _)); exact BK379.out) hb); replace HB := Aside0.mk (below_step (upB HB.out) hb); (try clear hb; try clear hb2; try clear hk; try clear hi)))
   go_meet
   case rel => exact ⟨_, (false), (by first | rfl | (simp; done) | (simp [*]; done)), H', ⟨by first | omega | exact Nat.le_refl _⟩, ⟨by (with_reducible repeat (first | apply Kd.R_alloc | apply Kd.R_drewN | apply Kd.R_drew)); exact HO377.out⟩, ⟨by (with_reducible repeat (first | refine blk_drewN ?_ _ | refine blk_drew ?_ | refine blk_alloc ?_ _)); exact BK370.out⟩, ⟨by (with_reducible repeat (first | refine blk_drewN ?_ _ | refine blk_drew ?_ | refine blk_alloc ?_ _)); exact BK379.out⟩, ⟨by repeat (first | (with_reducible first | exact HB.out | apply below_alloc | apply pw_below_drewN | apply below_drew1 | refine below_set ?_ GE370.out | refine below_set ?_ GE379.out) | exact HB.out)⟩⟩
 case rest =>
  clear HC3
  try clear c1; try clear p2; try clear c3; try clear c8; try clear c12; try clear c12b0; try clear c13; try clear c14; try clear c19; try clear hcz15_0; try clear hcz15_1; try clear hcz15_2; try clear hcz15_3; try clear hcz17_0; try clear hcz17_1; try clear hcz17_2; try clear hcz17_3; try clear hcz20_0; try clear hcz20_1; try clear hcz20_2; try clear hcz20_3; try clear hcz5_0; try clear hcz5_1; try clear hcz5_2; try clear hcz5_3; try clear hcz9_0; try clear hcz9_1; try clear hcz9_2; try clear hcz9_3; try clear hcz9_4; try clear hfz15_0; try clear hfz15_1; try clear hfz15_2; try clear hfz15_3; try clear hfz17_0; try clear hfz17_1; try clear hfz17_2; try clear hfz17_3; try clear hfz20_0; try clear hfz20_1; try clear hfz20_2; try clear hfz20_3; try clear hfz5_0; try clear hfz5_1; try clear hfz5_2; try clear hfz5_3; try clear hfz9_0; try clear hfz9_1; try clear hfz9_2; try clear hfz9_3; try clear hfz9_4
  obtain ⟨kq, x19_2, rfl, HA, HJ2, HO_380004, BK370, BK379, HB⟩ := hcut
  cases kq with
  | zero => exact absurd HA.out (by simp [waveletlaw02_PlaneNews.j0])
  | succ kj2 =>
   have H := HA.out
   clear HA
   simp only [waveletlaw02_PlaneNews.j0] at H
   by_cases c22 : x19_2 = true
   ·subst c22
    rw [if_pos rfl] at H
    by_cases c23 : t378 = 0
    ·rw [if_pos c23] at H
     have c23b0 : (t378 == 0) = true := beq_iff_eq.mpr c23
     have c23b1 : (t378 != 0) = false := bne_eq_false_iff_eq.mpr c23
     clear c23
     by_cases c24 : (t371 == a0_0 && (t372 == a0_1 && (t373 == a0_2 && (t374 == a0_3)))) = true
     ·rw [if_pos c24] at H
      have c24b0 : (t371 == a0_0 && (t372 == a0_1 && (t373 == a0_2 && (t374 == a0_3)))) = true := c24
      (try (have c24b1 : decide (t371 = a0_0 && (t372 == a0_1 && (t373 == a0_2 && (t374 == a0_3)))) = true := by simpa using c24))
      (try (have c24b2 : (t371 == a0_0 && (t372 == a0_1 && (t373 == a0_2 && (t374 == a0_3)))) = true := by simpa using c24))
      clear c24
      replace H := Option.bind_eq_some_iff.mp H
      obtain ⟨t382, A250, H⟩ := H
      replace H : (if (t375.length : Int) = t382 then ((waveletlaw02_exampleHolds.f kj2).bind fun t383 => (some t383)) else (some false)) = some r := H
      have A25 := Aside0.mk A250
      clear A250
      by_cases c26 : (t375.length : Int) = t382
      ·rw [if_pos c26] at H
       have c26b0 : ((t375.length : Int) == t382) = true := beq_iff_eq.mpr c26
       have c26b1 : ((t375.length : Int) != t382) = false := bne_eq_false_iff_eq.mpr c26
       clear c26
       replace H := Option.bind_eq_some_iff.mp H
       obtain ⟨t383, A270, H⟩ := H
       replace H : (some t383) = some r := H
       have A27 := Aside0.mk A270
       clear A270
       obtain rfl := Option.some.inj H
       try go_wp2
       replace HO_380004 := Aside0.mk (Kd.R_drew HO_380004.out)
       replace BK370 := Aside0.mk (blk_drew BK370.out)
       replace BK379 := Aside0.mk (blk_drew BK379.out)
       replace HB := Aside0.mk (below_drew1 HB.out)
       refine start_ (n := 20) (S := fun w' => ce w' gb379 0 (.int .i64 t371) ∧ ce w' gb379 1 (.int .i64 t372) ∧ ce w' gb379 2 (.int .i64 t373) ∧ ce w' gb379 3 (.int .i64 t374) ∧ ce w' gb379 4 (.slice Ao10 t375.length co10) ∧ ce w' gb370 0 (.int .i64 a0_0) ∧ ce w' gb370 1 (.int .i64 a0_1) ∧ ce w' gb370 2 (.int .i64 a0_2) ∧ ce w' gb370 3 (.int .i64 a0_3)) (ds := []) #[false, false, false, false, false, false, false, false, false, false, false, false, false, false, false, false, false, false, false, false] (by kernel_rfl) rfl rfl ⟨bc BK379 0, bc BK379 1, bc BK379 2, bc BK379 3, bc BK379 4, bc BK370 0, bc BK370 1, bc BK370 2, bc BK370 3⟩ (fun hHeld => ?_); refine with_tabW waveletlaw02_PlaneNews.tab3 waveletlaw02_PlaneNews.bits3 (fun HT_ HW_ => ?_)
       generalize wc.drew = w28 at HO_380004 BK370 BK379 HB hHeld ⊢
       refine puX 0 20 (MK [1, 19]) HT_.out ?_
       refine puX 1 21 (MK [2, 18]) HT_.out ?_
       refine puX 2 22 (MK [3, 17]) HT_.out ?_
       refine puX 3 23 (MK [4, 16]) HT_.out ?_
       refine taX 4 24 (MK [5, 15]) HT_.out HW_.out hHeld ?_
       refine taX 5 25 (MK [6, 14]) HT_.out HW_.out hHeld ?_
       refine puX 6 26 (MK [7, 13]) HT_.out ?_
       refine puX 7 27 (MK [8, 12]) HT_.out ?_
       refine puX 8 28 (MK [9, 11]) HT_.out ?_
       refine puX 9 29 (MK [10, 10]) HT_.out ?_
       refine taX 10 30 (MK [11, 9]) HT_.out HW_.out hHeld ?_
       refine puX 11 31 (MK [12, 8]) HT_.out ?_
       refine taX 12 32 (MK [13, 7]) HT_.out HW_.out hHeld ?_
       refine onX 13 33 (MK [14, 6]) HT_.out (fun K hK => ?_)
       refine goes_ Try.func13 (by kernel_rfl) rfl #[.agg #[.int .i64 a0_0, .int .i64 a0_1, .int .i64 a0_2, .int .i64 a0_3]] (by rfl) rfl rfl upL ?_
       with_reducible refine (waveletref01_Area.calls a0_0 a0_1 a0_2 a0_3 t382 _ A25.out).mono ?_
       rintro e w29 ⟨rfl, hb⟩
       refine ⟨_, rfl, ?_⟩
       replace HO_380004 := Aside0.mk (Kd.R_below (upR HO_380004.out) hb)
       replace BK370 := Aside0.mk (blk_below (g := gb370) (o := .cells #[.int .i64 a0_0, .int .i64 a0_1, .int .i64 a0_2, .int .i64 a0_3] 23 (0, 0)) (upK BK370.out) hb)
       replace BK379 := Aside0.mk (blk_below (g := gb379) (o := .cells #[.int .i64 t371, .int .i64 t372, .int .i64 t373, .int .i64 t374, .slice Ao10 t375.length co10] 26 (0, 0)) (upK BK379.out) hb)
       replace HB := Aside0.mk (below_step (upB HB.out) hb)
       (try clear hb); (try clear hb2); (try clear hk); (try clear hi)
       refine hK.out _ _ ⟨bc BK379 0, bc BK379 1, bc BK379 2, bc BK379 3, bc BK379 4, bc BK370 0, bc BK370 1, bc BK370 2, bc BK370 3⟩ (fun hHeld => ?_)
       clear hK K
       refine noX ?_
       refine puX 14 34 (MK [15, 5]) HT_.out ?_
       refine puX 15 35 (MK [16, 4]) HT_.out ?_
       refine puX 16 36 (MK [17, 3]) HT_.out ?_
       refine onX 17 37 (MK [18, 2]) HT_.out (fun K hK => ?_)
       refine goes_ Try.func14 (by kernel_rfl) rfl #[] (by rfl) rfl rfl upL ?_
       with_reducible refine (waveletlaw02_exampleHolds.calls kj2  t383 _ A27.out).mono ?_
       rintro e w30 ⟨rfl, hb⟩
       refine ⟨_, rfl, ?_⟩
       replace HO_380004 := Aside0.mk (Kd.R_below (upR HO_380004.out) hb)
       replace BK370 := Aside0.mk (blk_below (g := gb370) (o := .cells #[.int .i64 a0_0, .int .i64 a0_1, .int .i64 a0_2, .int .i64 a0_3] 23 (0, 0)) (upK BK370.out) hb)
       replace BK379 := Aside0.mk (blk_below (g := gb379) (o := .cells #[.int .i64 t371, .int .i64 t372, .int .i64 t373, .int .i64 t374, .slice Ao10 t375.length co10] 26 (0, 0)) (upK BK379.out) hb)
       replace HB := Aside0.mk (below_step (upB HB.out) hb)
       (try clear hb); (try clear hb2); (try clear hk); (try clear hi)
       refine hK.out _ _ ⟨bc BK379 0, bc BK379 1, bc BK379 2, bc BK379 3, bc BK379 4, bc BK370 0, bc BK370 1, bc BK370 2, bc BK370 3⟩ (fun hHeld => ?_)
       clear hK K
       refine noX ?_
       refine puX 18 38 (MK [19, 1]) HT_.out ?_
       refine puX 19 2 (MK [20]) HT_.out ?_
       refine done_ (done_of HT_.out (by kernel_rfl)) ?_
       try go_wp2
       go_ret
       exact ⟨by first | rfl | (simp [errW_none, errW_some] <;> rfl) | (simp [*, errW_none, errW_some] <;> rfl), by repeat (first | (with_reducible first | exact HB.out | apply below_alloc | apply pw_below_drewN | apply below_drew1 | refine below_set ?_ GE370.out | refine below_set ?_ GE379.out) | exact HB.out)⟩
      ·rw [if_neg c26] at H
       exact absurd (Option.some.inj H) (by rw [hr_]; decide)
     ·rw [if_neg c24] at H
      exact absurd (Option.some.inj H) (by rw [hr_]; decide)
    ·rw [if_neg c23] at H
     exact absurd (Option.some.inj H) (by rw [hr_]; decide)
   ·replace c22 := Bool.eq_false_iff.mpr c22
    subst c22
    rw [if_neg (show ¬ (false = true) by decide)] at H
    replace H := Option.bind_eq_some_iff.mp H
    obtain ⟨⟨t384, t385, t386, t387, t388, t391⟩, A350, H⟩ := H
    replace H : (if t378 = t391 then ((waveletref02_Same.f kj2 t371 t372 t373 t374 t375 t384 t385 t386 t387 t388).bind fun t393 => (if t393 = true then ((waveletlaw02_exampleHolds.f kj2).bind fun t394 => (some t394)) else (some false))) else (some false)) = some r := H
    have A35 := Aside0.mk A350
    clear A350
    by_cases c36 : t378 = t391
    ·rw [if_pos c36] at H
     have c36b0 : (t378 == t391) = true := beq_iff_eq.mpr c36
     have c36b1 : (t378 != t391) = false := bne_eq_false_iff_eq.mpr c36
     clear c36
     replace H := Option.bind_eq_some_iff.mp H
     obtain ⟨t393, A370, H⟩ := H
     replace H : (if t393 = true then ((waveletlaw02_exampleHolds.f kj2).bind fun t394 => (some t394)) else (some false)) = some r := H
     have A37 := Aside0.mk A370
     clear A370
     by_cases c38 : t393 = true
     ·subst c38
      rw [if_pos rfl] at H
      replace H := Option.bind_eq_some_iff.mp H
      obtain ⟨t394, A390, H⟩ := H
      replace H : (some t394) = some r := H
      have A39 := Aside0.mk A390
      clear A390
      obtain rfl := Option.some.inj H
      have hnb40 := NB370_379.out
      have hnc40 := NB379_370.out
      have hcz41_0 : wc.cell? ⟨gb370, 0, none⟩ = some (.int .i64 a0_0) := bc BK370 0
      have hcz41_1 : wc.cell? ⟨gb370, 1, none⟩ = some (.int .i64 a0_1) := bc BK370 1
      have hcz41_2 : wc.cell? ⟨gb370, 2, none⟩ = some (.int .i64 a0_2) := bc BK370 2
      have hcz41_3 : wc.cell? ⟨gb370, 3, none⟩ = some (.int .i64 a0_3) := bc BK370 3
      have hfz41_0 := blk_frozen BK370.out 0
      have hfz41_1 := blk_frozen BK370.out 1
      have hfz41_2 := blk_frozen BK370.out 2
      have hfz41_3 := blk_frozen BK370.out 3
      go_wp2_with (first | ((with_reducible refine gate_callee (f := 15) rfl ?_); refine goesL_ (some 41) rfl rfl Try.func15 (by kernel_rfl) rfl #[.agg #[.int .i64 a0_0, .int .i64 a0_1, .int .i64 a0_2, .int .i64 a0_3]] rfl upL ?_; (with_reducible refine (waveletref02_New.calls a0_0 a0_1 a0_2 a0_3 t384 t385 t386 t387 t388 t391 _ A35.out).mono ?_); rintro e w42 ⟨v389, rfl, ho0, hb⟩; refine ⟨_, rfl, ?_⟩; have HO390 := Aside0.mk (Kd.R_lower (Kd.R_new' ho0 (Kd.R_lt (upR HO_380004.out))) (below_size (upB HB.out))); replace HO_380004 := Aside0.mk (Kd.R_elder' (upR HO_380004.out) (Kd.R_base ho0) hb); replace BK370 := Aside0.mk (blk_below (g := gb370) (o := .cells #[.int .i64 a0_0, .int .i64 a0_1, .int .i64 a0_2, .int .i64 a0_3] 23 (0, 0)) (upK BK370.out) hb); replace BK379 := Aside0.mk (blk_below (g := gb379) (o := .cells #[.int .i64 t371, .int .i64 t372, .int .i64 t373, .int .i64 t374, .slice Ao10 t375.length co10] 26 (0, 0)) (upK BK379.out) hb); replace HB := Aside0.mk (below_step (upB HB.out) hb); (try clear hb; try clear hb2; try clear hk; try clear hi; try clear ho0)) | ((with_reducible refine gate_dst (N := 5) rfl ?_); (try (refine gate_guard (by rfl) ?_; dsimp only)); refine box_event ?hg (N := 5) ?hd (cs := #[.int .i64 0, .int .i64 0, .int .i64 0, .int .i64 0, .slice none 0 0]) (t := 26) ?hr ?_; (case hd => rfl); (case hg => rfl); (case hr => first | (go_simp; done) | (go_simp; rfl)); intro gb392 hg w43 hbox hb; replace HO_380004 := Aside0.mk (Kd.R_below (upR HO_380004.out) hb); replace HO390 := Aside0.mk (Kd.R_below (upR HO390.out) hb); have BK392 := Aside0.mk (hbox); have GW392 := Aside0.mk ((by rw [hg]; exact (below_size (upB HB.out)) : w.heap.size ≤ gb392)); have GE392 := Aside0.mk ((by rw [hg]; exact (below_size (upB HB.out)) : w.heap.size ≤ gb392)); replace HB := Aside0.mk (below_step (upB HB.out) hb); have NB370_392 := Aside0.mk ((by rw [hg]; exact Nat.ne_of_lt (blk_lt (g := gb370) (o := .cells #[.int .i64 a0_0, .int .i64 a0_1, .int .i64 a0_2, .int .i64 a0_3] 23 (0, 0)) (upK BK370.out)) : gb370 ≠ gb392)); have NB392_370 := Aside0.mk ((by rw [hg]; exact Nat.ne_of_gt (blk_lt (g := gb370) (o := .cells #[.int .i64 a0_0, .int .i64 a0_1, .int .i64 a0_2, .int .i64 a0_3] 23 (0, 0)) (upK BK370.out)) : gb392 ≠ gb370)); replace BK370 := Aside0.mk (blk_below (g := gb370) (o := .cells #[.int .i64 a0_0, .int .i64 a0_1, .int .i64 a0_2, .int .i64 a0_3] 23 (0, 0)) (upK BK370.out) hb); have NB379_392 := Aside0.mk ((by rw [hg]; exact Nat.ne_of_lt (blk_lt (g := gb379) (o := .cells #[.int .i64 t371, .int .i64 t372, .int .i64 t373, .int .i64 t374, .slice Ao10 t375.length co10] 26 (0, 0)) (upK BK379.out)) : gb379 ≠ gb392)); have NB392_379 := Aside0.mk ((by rw [hg]; exact Nat.ne_of_gt (blk_lt (g := gb379) (o := .cells #[.int .i64 t371, .int .i64 t372, .int .i64 t373, .int .i64 t374, .slice Ao10 t375.length co10] 26 (0, 0)) (upK BK379.out)) : gb392 ≠ gb379)); replace BK379 := Aside0.mk (blk_below (g := gb379) (o := .cells #[.int .i64 t371, .int .i64 t372, .int .i64 t373, .int .i64 t374, .slice Ao10 t375.length co10] 26 (0, 0)) (upK BK379.out) hb); clear hb hbox hg; have hnb44 := NB392_370.out; have hnc44 := NB370_392.out; have hnb45 := NB392_379.out; have hnc45 := NB379_392.out; have hcz46_0 : w43.cell? ⟨gb392, 0, none⟩ = some (.int .i64 0) := bc BK392 0; have hcz46_1 : w43.cell? ⟨gb392, 1, none⟩ = some (.int .i64 0) := bc BK392 1; have hcz46_2 : w43.cell? ⟨gb392, 2, none⟩ = some (.int .i64 0) := bc BK392 2; have hcz46_3 : w43.cell? ⟨gb392, 3, none⟩ = some (.int .i64 0) := bc BK392 3; have hcz46_4 : w43.cell? ⟨gb392, 4, none⟩ = some (.slice none 0 0) := bc BK392 4; have hfz46_0 := blk_frozen BK392.out 0; have hfz46_1 := blk_frozen BK392.out 1; have hfz46_2 := blk_frozen BK392.out 2; have hfz46_3 := blk_frozen BK392.out 3; have hfz46_4 := blk_frozen BK392.out 4; obtain ⟨Ao47, co47, eo47⟩ := Kd.R_slice HO390.out; subst eo47; have hcz48_0 : w43.cell? ⟨gb379, 0, none⟩ = some (.int .i64 t371) := bc BK379 0; have hcz48_1 : w43.cell? ⟨gb379, 1, none⟩ = some (.int .i64 t372) := bc BK379 1; have hcz48_2 : w43.cell? ⟨gb379, 2, none⟩ = some (.int .i64 t373) := bc BK379 2; have hcz48_3 : w43.cell? ⟨gb379, 3, none⟩ = some (.int .i64 t374) := bc BK379 3; have hcz48_4 : w43.cell? ⟨gb379, 4, none⟩ = some (.slice Ao10 t375.length co10) := bc BK379 4; have hfz48_0 := blk_frozen BK379.out 0; have hfz48_1 := blk_frozen BK379.out 1; have hfz48_2 := blk_frozen BK379.out 2; have hfz48_3 := blk_frozen BK379.out 3; have hfz48_4 := blk_frozen BK379.out 4) | (go_at_call 16; (with_reducible refine (waveletref02_Same.calls kj2 t371 t372 t373 t374 _ _ t375 t384 t385 t386 t387 _ _ t388 true _ ?side1 ?side2 ?side3 ?side4 A37.out).mono ?_); (case side1 => refine (Kd.R_reads' (e := 3) (base := w.heap.size) (ok := fun k_ => (True ∧ some k_ ≠ (.slice Ao47 t388.length co47 : Value).ownBlock)) (n := t375.length) (c := co10) ?_).2.2; exact (by (with_reducible repeat (first | apply Kd.R_alloc | apply Kd.R_drewN | apply Kd.R_drew)); exact (Kd.R_mono (Kd.R_far (p := ⟨gb392, 4, none⟩) (Kd.R_far (p := ⟨gb392, 3, none⟩) (Kd.R_far (p := ⟨gb392, 2, none⟩) (Kd.R_far (p := ⟨gb392, 1, none⟩) (Kd.R_far (p := ⟨gb392, 0, none⟩) (Kd.R_types HO_380004.out BK392.out (by decide)) (fun _ hk => hk.2) (.int .i64 t384)) (fun _ hk => hk.2) (.int .i64 t385)) (fun _ hk => hk.2) (.int .i64 t386)) (fun _ hk => hk.2) (.int .i64 t387)) (fun _ hk => hk.2) (.slice Ao47 t388.length co47)) (fun _ h_ => h_.1)))); (case side2 => exact (Kd.R_reads' HO_380004.out).2.1); (case side3 => refine (Kd.R_reads' (e := 3) (base := w.heap.size) (ok := fun k_ => (True ∧ some k_ ≠ (.slice Ao10 t375.length co10 : Value).ownBlock)) (n := t388.length) (c := co47) ?_).2.2; exact (by (with_reducible repeat (first | apply Kd.R_alloc | apply Kd.R_drewN | apply Kd.R_drew)); exact (Kd.R_mono (Kd.R_far (p := ⟨gb392, 4, none⟩) (Kd.R_far (p := ⟨gb392, 3, none⟩) (Kd.R_far (p := ⟨gb392, 2, none⟩) (Kd.R_far (p := ⟨gb392, 1, none⟩) (Kd.R_far (p := ⟨gb392, 0, none⟩) (Kd.R_types HO390.out BK392.out (by decide)) (fun _ hk => hk.2) (.int .i64 t384)) (fun _ hk => hk.2) (.int .i64 t385)) (fun _ hk => hk.2) (.int .i64 t386)) (fun _ hk => hk.2) (.int .i64 t387)) (fun _ hk => hk.2) (.slice Ao47 t388.length co47)) (fun _ h_ => h_.1)))); (case side4 => exact (Kd.R_reads' HO390.out).2.1); rintro e w49 ⟨rfl, hb⟩; replace HO_380004 := Aside0.mk (Kd.R_below (by (with_reducible repeat (first | apply Kd.R_alloc | apply Kd.R_drewN | apply Kd.R_drew)); exact (Kd.R_mono (Kd.R_far (p := ⟨gb392, 4, none⟩) (Kd.R_far (p := ⟨gb392, 3, none⟩) (Kd.R_far (p := ⟨gb392, 2, none⟩) (Kd.R_far (p := ⟨gb392, 1, none⟩) (Kd.R_far (p := ⟨gb392, 0, none⟩) (Kd.R_types HO_380004.out BK392.out (by decide)) (fun _ hk => hk.2) (.int .i64 t384)) (fun _ hk => hk.2) (.int .i64 t385)) (fun _ hk => hk.2) (.int .i64 t386)) (fun _ hk => hk.2) (.int .i64 t387)) (fun _ hk => hk.2) (.slice Ao47 t388.length co47)) (fun _ h_ => h_.1))) hb); replace HO390 := Aside0.mk (Kd.R_below (by (with_reducible repeat (first | apply Kd.R_alloc | apply Kd.R_drewN | apply Kd.R_drew)); exact (Kd.R_mono (Kd.R_far (p := ⟨gb392, 4, none⟩) (Kd.R_far (p := ⟨gb392, 3, none⟩) (Kd.R_far (p := ⟨gb392, 2, none⟩) (Kd.R_far (p := ⟨gb392, 1, none⟩) (Kd.R_far (p := ⟨gb392, 0, none⟩) (Kd.R_types HO390.out BK392.out (by decide)) (fun _ hk => hk.2) (.int .i64 t384)) (fun _ hk => hk.2) (.int .i64 t385)) (fun _ hk => hk.2) (.int .i64 t386)) (fun _ hk => hk.2) (.int .i64 t387)) (fun _ hk => hk.2) (.slice Ao47 t388.length co47)) (fun _ h_ => h_.1))) hb); replace BK370 := Aside0.mk (blk_below (g := gb370) (o := .cells #[.int .i64 a0_0, .int .i64 a0_1, .int .i64 a0_2, .int .i64 a0_3] 23 (0, 0)) (by (with_reducible repeat (first | refine blk_drewN ?_ _ | refine blk_drew ?_ | refine blk_alloc ?_ _)); refine blk_far ?_ NB370_392.out _; (with_reducible repeat (first | refine blk_drewN ?_ _ | refine blk_drew ?_ | refine blk_alloc ?_ _)); refine blk_far ?_ NB370_392.out _; (with_reducible repeat (first | refine blk_drewN ?_ _ | refine blk_drew ?_ | refine blk_alloc ?_ _)); refine blk_far ?_ NB370_392.out _; (with_reducible repeat (first | refine blk_drewN ?_ _ | refine blk_drew ?_ | refine blk_alloc ?_ _)); refine blk_far ?_ NB370_392.out _; (with_reducible repeat (first | refine blk_drewN ?_ _ | refine blk_drew ?_ | refine blk_alloc ?_ _)); refine blk_far ?_ NB370_392.out _; (with_reducible repeat (first | refine blk_drewN ?_ _ | refine blk_drew ?_ | refine blk_alloc ?_ _)); exact BK370.out) hb); replace BK379 := Aside0.mk (blk_below (g := gb379) (o := .cells #[.int .i64 t371, .int .i64 t372, .int .i64 t373, .int .i64 t374, .slice Ao10 t375.length co10] 26 (0, 0)) (by (with_reducible repeat (first | refine blk_drewN ?_ _ | refine blk_drew ?_ | refine blk_alloc ?_ _)); refine blk_far ?_ NB379_392.out _; (with_reducible repeat (first | refine blk_drewN ?_ _ | refine blk_drew ?_ | refine blk_alloc ?_ _)); refine blk_far ?_ NB379_392.out _; (with_reducible repeat (first | refine blk_drewN ?_ _ | refine blk_drew ?_ | refine blk_alloc ?_ _)); refine blk_far ?_ NB379_392.out _; (with_reducible repeat (first | refine blk_drewN ?_ _ | refine blk_drew ?_ | refine blk_alloc ?_ _)); refine blk_far ?_ NB379_392.out _; (with_reducible repeat (first | refine blk_drewN ?_ _ | refine blk_drew ?_ | refine blk_alloc ?_ _)); refine blk_far ?_ NB379_392.out _; (with_reducible repeat (first | refine blk_drewN ?_ _ | refine blk_drew ?_ | refine blk_alloc ?_ _)); exact BK379.out) hb); replace BK392 := Aside0.mk (blk_below (g := gb392) (o := .cells #[.int .i64 t384, .int .i64 t385, .int .i64 t386, .int .i64 t387, .slice Ao47 t388.length co47] 26 (0, 0)) (by (with_reducible repeat (first | refine blk_drewN ?_ _ | refine blk_drew ?_ | refine blk_alloc ?_ _)); refine blk_put (cs := #[.int .i64 t384, .int .i64 t385, .int .i64 t386, .int .i64 t387, .slice none 0 0]) ?_ 4 _ rfl; (with_reducible repeat (first | refine blk_drewN ?_ _ | refine blk_drew ?_ | refine blk_alloc ?_ _)); refine blk_put (cs := #[.int .i64 t384, .int .i64 t385, .int .i64 t386, .int .i64 0, .slice none 0 0]) ?_ 3 _ rfl; (with_reducible repeat (first | refine blk_drewN ?_ _ | refine blk_drew ?_ | refine blk_alloc ?_ _)); refine blk_put (cs := #[.int .i64 t384, .int .i64 t385, .int .i64 0, .int .i64 0, .slice none 0 0]) ?_ 2 _ rfl; (with_reducible repeat (first | refine blk_drewN ?_ _ | refine blk_drew ?_ | refine blk_alloc ?_ _)); refine blk_put (cs := #[.int .i64 t384, .int .i64 0, .int .i64 0, .int .i64 0, .slice none 0 0]) ?_ 1 _ rfl; (with_reducible repeat (first | refine blk_drewN ?_ _ | refine blk_drew ?_ | refine blk_alloc ?_ _)); refine blk_put (cs := #[.int .i64 0, .int .i64 0, .int .i64 0, .int .i64 0, .slice none 0 0]) ?_ 0 _ rfl; (with_reducible repeat (first | refine blk_drewN ?_ _ | refine blk_drew ?_ | refine blk_alloc ?_ _)); exact BK392.out) hb); replace HB := Aside0.mk (below_step (upB HB.out) hb); (try clear hb; try clear hb2; try clear hk; try clear hi)) | (go_at_call 14; (with_reducible refine (waveletlaw02_exampleHolds.calls kj2  t394 _ A39.out).mono ?_); rintro e w50 ⟨rfl, hb⟩; replace HO_380004 := Aside0.mk (Kd.R_below (upR HO_380004.out) hb); replace HO390 := Aside0.mk (Kd.R_below (upR HO390.out) hb); replace BK370 := Aside0.mk (blk_below (g := gb370) (o := .cells #[.int .i64 a0_0, .int .i64 a0_1, .int .i64 a0_2, .int .i64 a0_3] 23 (0, 0)) (upK BK370.out) hb); replace BK379 := Aside0.mk (blk_below (g := gb379) (o := .cells #[.int .i64 t371, .int .i64 t372, .int .i64 t373, .int .i64 t374, .slice Ao10 t375.length co10] 26 (0, 0)) (upK BK379.out) hb); replace BK392 := Aside0.mk (blk_below (g := gb392) (o := .cells #[.int .i64 t384, .int .i64 t385, .int .i64 t386, .int .i64 t387, .slice Ao47 t388.length co47] 26 (0, 0)) (upK BK392.out) hb); replace HB := Aside0.mk (below_step (upB HB.out) hb); (try clear hb; try clear hb2; try clear hk; try clear hi)))
      go_ret
      exact ⟨by first | rfl | (simp [errW_none, errW_some] <;> rfl) | (simp [*, errW_none, errW_some] <;> rfl), by repeat (first | (with_reducible first | exact HB.out | apply below_alloc | apply pw_below_drewN | apply below_drew1 | refine below_set ?_ GE370.out | refine below_set ?_ GE379.out | refine below_set ?_ GE392.out) | exact HB.out)⟩
     ·replace c38 := Bool.eq_false_iff.mpr c38
      subst c38
      have H1 : (some false) = some r := by rw [if_neg (show ¬ (false = true) by decide)] at H; exact H
      exact absurd (Option.some.inj H1) (by rw [hr_]; decide)
    ·rw [if_neg c36] at H
     exact absurd (Option.some.inj H) (by rw [hr_]; decide)
end Go.Proofs.Ythemchggmlpdhaa.Q
