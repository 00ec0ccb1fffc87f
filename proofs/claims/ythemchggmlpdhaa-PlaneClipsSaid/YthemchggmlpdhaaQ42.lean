-- By a program of this session (wip/tools/mk.py), out of the kit's print of the translation; Lean checks it.
import Derived.Test.YthemchggmlpdhaaUp2
import Derived.Test.YthemchggmlpdhaaUp
import Derived.Test.YthemchggmlpdhaaQ0
import Derived.Test.YthemchggmlpdhaaQ29
namespace Go.Proofs.Ythemchggmlpdhaa.Q
open Go.RowKit Go.Proofs.YthemchggmlpdhaaW.PrintWords Go.Proofs.YthemchggmlpdhaaW.PrintLast Go.Proofs.YthemchggmlpdhaaW.PrintMore
attribute [local go_sem] max2_int min2_int max_two min_two max_three min_three max_four min_four   -- for this text's walks alone
set_option linter.unusedVariables false
set_option linter.unusedSimpArgs false

/-! ### waveletref02_Clip: function 32 -/
def waveletref02_Clip.l0 : Nat → Int → Int → Int → Int → Int → Int → Int → List Int → Int → Int → Int → Int → List Int → Option (Int × Int × Int × Int × List Int × Int)
 | 0, _, _, _, _, _, _, _, _, _, _, _, _, _ => none
 | k + 1, x1, x2, x9, x527000, x527001, x527002, x527003, x527004, x530000, x530001, x530002, x530003, x530004 => if x9 < (x527004.length : Int) then (if 0 ≤ x9 then (if x530004.length < 17592186044416 then (waveletref02_Clip.l0 k x1 x2 (wrap64 (x9 + 1)) x527000 x527001 x527002 x527003 x527004 x530000 x530001 x530002 x530003 (x530004 ++ [mn (mx (rd x527004 x9) x1) x2])) else (none)) else (none)) else (some (x530000, x530001, x530002, x530003, x530004, 0))
def waveletref02_Clip.f (k : Nat) (a0_0 : Int) (a0_1 : Int) (a0_2 : Int) (a0_3 : Int) (l0_4 : List Int) (a1 : Int) (a2 : Int) : Option (Int × Int × Int × Int × List Int × Int) := (waveletref02_Valid.f a0_0 a0_1 a0_2 a0_3 l0_4).bind fun t528 => (if t528 = true then (if a1 > a2 then (some (0, 0, 0, 0, ([] : List Int), 2)) else (waveletref02_Clip.l0 k a1 a2 0 a0_0 a0_1 a0_2 a0_3 l0_4 a0_0 a0_1 a0_2 a0_3 ([] : List Int))) else (some (0, 0, 0, 0, ([] : List Int), 1)))
theorem waveletref02_Clip.mono_l : ∀ k, (∀ y0 y1 y2 y3 y4 y5 y6 y7 y8 y9 y10 y11 y12, LeO (waveletref02_Clip.l0 k y0 y1 y2 y3 y4 y5 y6 y7 y8 y9 y10 y11 y12) (waveletref02_Clip.l0 (k + 1) y0 y1 y2 y3 y4 y5 y6 y7 y8 y9 y10 y11 y12))
 | 0 => fun _ _ _ _ _ _ _ _ _ _ _ _ _ r h => by simp [waveletref02_Clip.l0] at h
 | k + 1 => by
  have ih0 := waveletref02_Clip.mono_l k
  ·intro y0 y1 y2 y3 y4 y5 y6 y7 y8 y9 y10 y11 y12
   unfold waveletref02_Clip.l0
   repeat' first
   | (with_reducible exact ih0 _ _ _ _ _ _ _ _ _ _ _ _ _)
   | (with_reducible exact LeO.refl _)
   | (with_reducible exact LeO.none _)
   | (with_reducible refine LeO.ite ?_ ?_)
   | (with_reducible refine LeO.bind ?_ (fun _ => ?_))
   | exact ih0 _ _ _ _ _ _ _ _ _ _ _ _ _
   | exact LeO.none _
   | refine LeO.ite ?_ ?_
   | refine LeO.bind ?_ (fun _ => ?_)
theorem waveletref02_Clip.mono : ∀ a0 a1 a2 a3 a4 a5 a6 k, LeO (waveletref02_Clip.f k a0 a1 a2 a3 a4 a5 a6) (waveletref02_Clip.f (k + 1) a0 a1 a2 a3 a4 a5 a6) := by
 intro a0 a1 a2 a3 a4 a5 a6 k
 have ih0 := waveletref02_Clip.mono_l k
 unfold waveletref02_Clip.f
 repeat' first
   | (with_reducible exact ih0 _ _ _ _ _ _ _ _ _ _ _ _ _)
   | (with_reducible exact LeO.refl _)
   | (with_reducible exact LeO.none _)
   | (with_reducible refine LeO.ite ?_ ?_)
   | (with_reducible refine LeO.bind ?_ (fun _ => ?_))
   | exact ih0 _ _ _ _ _ _ _ _ _ _ _ _ _
   | exact LeO.none _
   | refine LeO.ite ?_ ?_
   | refine LeO.bind ?_ (fun _ => ?_)
def waveletref02_Clip.T9 : Bool × List (List Nat × List Nat) := (true, [([], []), ([0], [0]), ([], []), ([2], [2]), ([], []), ([3, 4], [3, 4]), ([5], [5]), ([], []), ([6, 7], [6, 7]), ([], []), ([8, 9], [8, 9]), ([10], [10]), ([1, 11], [1, 11]), ([0, 1, 2, 3, 4, 5, 6, 7, 8, 9, 10, 11, 12], []), ([13, 12, 12, 0, 1, 2, 3, 4, 5, 6, 7, 8, 9, 10, 11, 12], [12, 13])])
def waveletref02_Clip.B9 : List Nat := [0, 1, 0, 4, 0, 28, 60, 0, 252, 0, 1020, 2044, 4095, 8191, 16383]
theorem waveletref02_Clip.tab9 : rtab .any (opsOf Try.f32 9) = waveletref02_Clip.T9 := by kernel_rfl
theorem waveletref02_Clip.bits9 : waitsOk waveletref02_Clip.T9.2 waveletref02_Clip.B9 = true := by kernel_rfl
set_option maxHeartbeats 8000000 in
set_option maxRecDepth 100000 in
theorem waveletref02_Clip.calls (k : Nat) (a0_0 : Int) (a0_1 : Int) (a0_2 : Int) (a0_3 : Int) (A0_4 : Option Addr) (c0_4 : Nat) (l0_4 : List Int) (a1 : Int) (a2 : Int) (r1 : Int) (r2 : Int) (r3 : Int) (r4 : Int) (r5 : List Int) (r6 : Int) (w : World) (hr0_4 : Kd.C (Kd.int .i64) w A0_4 l0_4.length l0_4) (hc0_4 : l0_4.length ≤ c0_4) (h : waveletref02_Clip.f k a0_0 a0_1 a0_2 a0_3 l0_4 a1 a2 = some (r1, r2, r3, r4, r5, r6)) :
  Calls Try.prog 32 #[.agg #[.int .i64 a0_0, .int .i64 a0_1, .int .i64 a0_2, .int .i64 a0_3, .slice A0_4 l0_4.length c0_4], .int .i64 a1, .int .i64 a2] w fun e w' => ∃ v4_ : Value, e = .returned (.tuple #[.agg #[.int .i64 r1, .int .i64 r2, .int .i64 r3, .int .i64 r4, v4_], .int .i64 r6]) ∧ Kd.R (Kd.int .i64) 3 w' w.heap.size (fun _ => True) v4_ r5 ∧ Below w.heap.size w w' := by
 have hu26 := Try.underlying26
 have hu23 := Try.underlying23
 have HR0_4 := Aside0.mk hr0_4
 have HC0_4 := Aside0.mk hc0_4
 clear hr0_4 hc0_4
 have HB := Aside0.mk (Below.refl w.heap.size w)
 have H : ((waveletref02_Valid.f a0_0 a0_1 a0_2 a0_3 l0_4).bind fun t528 => (if t528 = true then (if a1 > a2 then (some (0, 0, 0, 0, ([] : List Int), 2)) else (waveletref02_Clip.l0 k a1 a2 0 a0_0 a0_1 a0_2 a0_3 l0_4 a0_0 a0_1 a0_2 a0_3 ([] : List Int))) else (some (0, 0, 0, 0, ([] : List Int), 1)))) = some (r1, r2, r3, r4, r5, r6) := h
 clear h
 replace H := Option.bind_eq_some_iff.mp H
 obtain ⟨t528, A40, H⟩ := H
 replace H : (if t528 = true then (if a1 > a2 then (some (0, 0, 0, 0, ([] : List Int), 2)) else (waveletref02_Clip.l0 k a1 a2 0 a0_0 a0_1 a0_2 a0_3 l0_4 a0_0 a0_1 a0_2 a0_3 ([] : List Int))) else (some (0, 0, 0, 0, ([] : List Int), 1))) = some (r1, r2, r3, r4, r5, r6) := H
 have A4 := Aside0.mk A40
 clear A40
 by_cases c5 : t528 = true
 ·subst c5
  have H1 : (if a1 > a2 then (some (0, 0, 0, 0, ([] : List Int), 2)) else (waveletref02_Clip.l0 k a1 a2 0 a0_0 a0_1 a0_2 a0_3 l0_4 a0_0 a0_1 a0_2 a0_3 ([] : List Int))) = some (r1, r2, r3, r4, r5, r6) := by rw [if_pos rfl] at H; exact H
  clear H
  have H := H1
  clear H1
  by_cases c6 : a1 > a2
  ·rw [if_pos c6] at H
   have c6b0 : decide (a2 < a1) = true := decide_eq_true c6
   clear c6
   simp only [Option.some.injEq, Prod.mk.injEq] at H
   obtain ⟨rfl, rfl, rfl, rfl, rfl, rfl⟩ := H
   go_enter Try.func32, Try.ntmps32
   go_wp2_with (first | ((with_reducible refine gate_dst (N := 3) rfl ?_); refine box_event ?hg (N := 3) ?hd (cs := #[.int .i64 a0_0, .int .i64 a0_1, .int .i64 a0_2, .int .i64 a0_3, .slice A0_4 l0_4.length c0_4]) (t := 26) ?hr ?_; (case hd => rfl); (case hg => rfl); (case hr => first | (go_simp; done) | (go_simp; rfl)); intro gb526 hg w7 hbox hb; have BK526 := Aside0.mk (hbox); have GW526 := Aside0.mk ((by rw [hg]; exact (below_size (upB HB.out)) : w.heap.size ≤ gb526)); have GE526 := Aside0.mk ((by rw [hg]; exact (below_size (upB HB.out)) : w.heap.size ≤ gb526)); replace HB := Aside0.mk (below_step (upB HB.out) hb); clear hb hbox hg) | ((with_reducible refine gate_dst (N := 6) rfl ?_); refine box_event ?hg (N := 6) ?hd (cs := #[.int .i64 0, .int .i64 0, .int .i64 0, .int .i64 0, .slice none 0 0]) (t := 26) ?hr ?_; (case hd => rfl); (case hg => rfl); (case hr => first | (go_simp; done) | (go_simp; rfl)); intro gb527 hg w8 hbox hb; have BK527 := Aside0.mk (hbox); have GW527 := Aside0.mk ((by rw [hg]; exact (below_size (upB HB.out)) : w.heap.size ≤ gb527)); have GE527 := Aside0.mk ((by rw [hg]; exact (below_size (upB HB.out)) : w.heap.size ≤ gb527)); replace HB := Aside0.mk (below_step (upB HB.out) hb); have NB526_527 := Aside0.mk ((by rw [hg]; exact Nat.ne_of_lt (blk_lt (g := gb526) (o := .cells #[.int .i64 a0_0, .int .i64 a0_1, .int .i64 a0_2, .int .i64 a0_3, .slice A0_4 l0_4.length c0_4] 26 (0, 0)) (upK BK526.out)) : gb526 ≠ gb527)); have NB527_526 := Aside0.mk ((by rw [hg]; exact Nat.ne_of_gt (blk_lt (g := gb526) (o := .cells #[.int .i64 a0_0, .int .i64 a0_1, .int .i64 a0_2, .int .i64 a0_3, .slice A0_4 l0_4.length c0_4] 26 (0, 0)) (upK BK526.out)) : gb527 ≠ gb526)); replace BK526 := Aside0.mk (blk_below (g := gb526) (o := .cells #[.int .i64 a0_0, .int .i64 a0_1, .int .i64 a0_2, .int .i64 a0_3, .slice A0_4 l0_4.length c0_4] 26 (0, 0)) (upK BK526.out) hb); clear hb hbox hg; have hnb9 := NB526_527.out; have hnc9 := NB527_526.out; have hcz10_0 : w8.cell? ⟨gb526, 0, none⟩ = some (.int .i64 a0_0) := bc BK526 0; have hcz10_1 : w8.cell? ⟨gb526, 1, none⟩ = some (.int .i64 a0_1) := bc BK526 1; have hcz10_2 : w8.cell? ⟨gb526, 2, none⟩ = some (.int .i64 a0_2) := bc BK526 2; have hcz10_3 : w8.cell? ⟨gb526, 3, none⟩ = some (.int .i64 a0_3) := bc BK526 3; have hcz10_4 : w8.cell? ⟨gb526, 4, none⟩ = some (.slice A0_4 l0_4.length c0_4) := bc BK526 4; have hfz10_0 := blk_frozen BK526.out 0; have hfz10_1 := blk_frozen BK526.out 1; have hfz10_2 := blk_frozen BK526.out 2; have hfz10_3 := blk_frozen BK526.out 3; have hfz10_4 := blk_frozen BK526.out 4) | ((with_reducible refine gate_callee (f := 21) rfl ?_); refine goesL_ (some 11) rfl rfl Try.func21 (by kernel_rfl) rfl #[.agg #[.int .i64 a0_0, .int .i64 a0_1, .int .i64 a0_2, .int .i64 a0_3, .slice A0_4 l0_4.length c0_4]] rfl upL ?_; (with_reducible refine (waveletref02_Valid.calls a0_0 a0_1 a0_2 a0_3 _ _ l0_4 true _ ?side1 ?side2 A4.out).mono ?_); (case side1 => repeat (first | exact (Kd.C_below HR0_4.out HB.out) | (with_reducible refine Kd.C_alloc ?_ _) | (with_reducible refine Kd.C_drewN ?_ _) | (with_reducible refine Kd.C_drew ?_))); (case side2 => exact HC0_4.out); rintro e w11 ⟨rfl, hb⟩; refine ⟨_, rfl, ?_⟩; replace BK526 := Aside0.mk (blk_below (g := gb526) (o := .cells #[.int .i64 a0_0, .int .i64 a0_1, .int .i64 a0_2, .int .i64 a0_3, .slice A0_4 l0_4.length c0_4] 26 (0, 0)) (upK BK526.out) hb); replace BK527 := Aside0.mk (blk_below (g := gb527) (o := .cells #[.int .i64 0, .int .i64 0, .int .i64 0, .int .i64 0, .slice none 0 0] 26 (0, 0)) (upK BK527.out) hb); replace HB := Aside0.mk (below_step (upB HB.out) hb); (try clear hb; try clear hb2; try clear hk; try clear hi); have hcz12_0 : w11.cell? ⟨gb527, 0, none⟩ = some (.int .i64 0) := bc BK527 0; have hcz12_1 : w11.cell? ⟨gb527, 1, none⟩ = some (.int .i64 0) := bc BK527 1; have hcz12_2 : w11.cell? ⟨gb527, 2, none⟩ = some (.int .i64 0) := bc BK527 2; have hcz12_3 : w11.cell? ⟨gb527, 3, none⟩ = some (.int .i64 0) := bc BK527 3; have hcz12_4 : w11.cell? ⟨gb527, 4, none⟩ = some (.slice none 0 0) := bc BK527 4; have hfz12_0 := blk_frozen BK527.out 0; have hfz12_1 := blk_frozen BK527.out 1; have hfz12_2 := blk_frozen BK527.out 2; have hfz12_3 := blk_frozen BK527.out 3; have hfz12_4 := blk_frozen BK527.out 4))
   refine bodyPost_ret (results_ct rfl _ _ gb527 26 #[.int .i64 0, .int .i64 0, .int .i64 0, .int .i64 0, .slice none 0 0] (0, 0) _ rfl (by (with_reducible repeat (first | refine blk_drewN ?_ _ | refine blk_drew ?_ | refine blk_alloc ?_ _)); refine blk_put (cs := #[.int .i64 0, .int .i64 0, .int .i64 0, .int .i64 0, .slice none 0 0]) ?_ 4 _ rfl; (with_reducible repeat (first | refine blk_drewN ?_ _ | refine blk_drew ?_ | refine blk_alloc ?_ _)); refine blk_put (cs := #[.int .i64 0, .int .i64 0, .int .i64 0, .int .i64 0, .slice none 0 0]) ?_ 3 _ rfl; (with_reducible repeat (first | refine blk_drewN ?_ _ | refine blk_drew ?_ | refine blk_alloc ?_ _)); refine blk_put (cs := #[.int .i64 0, .int .i64 0, .int .i64 0, .int .i64 0, .slice none 0 0]) ?_ 2 _ rfl; (with_reducible repeat (first | refine blk_drewN ?_ _ | refine blk_drew ?_ | refine blk_alloc ?_ _)); refine blk_put (cs := #[.int .i64 0, .int .i64 0, .int .i64 0, .int .i64 0, .slice none 0 0]) ?_ 1 _ rfl; (with_reducible repeat (first | refine blk_drewN ?_ _ | refine blk_drew ?_ | refine blk_alloc ?_ _)); refine blk_put (cs := #[.int .i64 0, .int .i64 0, .int .i64 0, .int .i64 0, .slice none 0 0]) ?_ 0 _ rfl; (with_reducible repeat (first | refine blk_drewN ?_ _ | refine blk_drew ?_ | refine blk_alloc ?_ _)); exact BK527.out) Try.underlying26 rfl (by kernel_rfl)) rfl ?_
   exact ⟨_, by first | rfl | (simp [errW_none, errW_some] <;> rfl) | (simp [*, errW_none, errW_some] <;> rfl), by first | exact Kd.R_nil _ _ _ _ _ | exact Kd.N_nil _ _ _ _ _ | exact Kd.V_nil _ _ _ _ _ | exact Kd.Q_nil _ _ _ _ _ | exact Kd.S_nil _ _ _ _ _, by repeat (first | (with_reducible first | exact HB.out | apply below_alloc | apply pw_below_drewN | apply below_drew1 | refine below_set ?_ GE526.out | refine below_set ?_ GE527.out) | exact HB.out)⟩
  ·rw [if_neg c6] at H
   have c6b0 : decide (a2 < a1) = false := decide_eq_false c6
   clear c6
   have H' := Aside0.mk H
   clear H
   go_enter Try.func32, Try.ntmps32
   go_wp2_with (first | ((with_reducible refine gate_dst (N := 3) rfl ?_); refine box_event ?hg (N := 3) ?hd (cs := #[.int .i64 a0_0, .int .i64 a0_1, .int .i64 a0_2, .int .i64 a0_3, .slice A0_4 l0_4.length c0_4]) (t := 26) ?hr ?_; (case hd => rfl); (case hg => rfl); (case hr => first | (go_simp; done) | (go_simp; rfl)); intro gb526 hg w13 hbox hb; have BK526 := Aside0.mk (hbox); have GW526 := Aside0.mk ((by rw [hg]; exact (below_size (upB HB.out)) : w.heap.size ≤ gb526)); have GE526 := Aside0.mk ((by rw [hg]; exact (below_size (upB HB.out)) : w.heap.size ≤ gb526)); replace HB := Aside0.mk (below_step (upB HB.out) hb); clear hb hbox hg) | ((with_reducible refine gate_dst (N := 6) rfl ?_); refine box_event ?hg (N := 6) ?hd (cs := #[.int .i64 0, .int .i64 0, .int .i64 0, .int .i64 0, .slice none 0 0]) (t := 26) ?hr ?_; (case hd => rfl); (case hg => rfl); (case hr => first | (go_simp; done) | (go_simp; rfl)); intro gb527 hg w14 hbox hb; have BK527 := Aside0.mk (hbox); have GW527 := Aside0.mk ((by rw [hg]; exact (below_size (upB HB.out)) : w.heap.size ≤ gb527)); have GE527 := Aside0.mk ((by rw [hg]; exact (below_size (upB HB.out)) : w.heap.size ≤ gb527)); replace HB := Aside0.mk (below_step (upB HB.out) hb); have NB526_527 := Aside0.mk ((by rw [hg]; exact Nat.ne_of_lt (blk_lt (g := gb526) (o := .cells #[.int .i64 a0_0, .int .i64 a0_1, .int .i64 a0_2, .int .i64 a0_3, .slice A0_4 l0_4.length c0_4] 26 (0, 0)) (upK BK526.out)) : gb526 ≠ gb527)); have NB527_526 := Aside0.mk ((by rw [hg]; exact Nat.ne_of_gt (blk_lt (g := gb526) (o := .cells #[.int .i64 a0_0, .int .i64 a0_1, .int .i64 a0_2, .int .i64 a0_3, .slice A0_4 l0_4.length c0_4] 26 (0, 0)) (upK BK526.out)) : gb527 ≠ gb526)); replace BK526 := Aside0.mk (blk_below (g := gb526) (o := .cells #[.int .i64 a0_0, .int .i64 a0_1, .int .i64 a0_2, .int .i64 a0_3, .slice A0_4 l0_4.length c0_4] 26 (0, 0)) (upK BK526.out) hb); clear hb hbox hg; have hnb15 := NB526_527.out; have hnc15 := NB527_526.out; have hcz16_0 : w14.cell? ⟨gb526, 0, none⟩ = some (.int .i64 a0_0) := bc BK526 0; have hcz16_1 : w14.cell? ⟨gb526, 1, none⟩ = some (.int .i64 a0_1) := bc BK526 1; have hcz16_2 : w14.cell? ⟨gb526, 2, none⟩ = some (.int .i64 a0_2) := bc BK526 2; have hcz16_3 : w14.cell? ⟨gb526, 3, none⟩ = some (.int .i64 a0_3) := bc BK526 3; have hcz16_4 : w14.cell? ⟨gb526, 4, none⟩ = some (.slice A0_4 l0_4.length c0_4) := bc BK526 4; have hfz16_0 := blk_frozen BK526.out 0; have hfz16_1 := blk_frozen BK526.out 1; have hfz16_2 := blk_frozen BK526.out 2; have hfz16_3 := blk_frozen BK526.out 3; have hfz16_4 := blk_frozen BK526.out 4) | ((with_reducible refine gate_callee (f := 21) rfl ?_); refine goesL_ (some 11) rfl rfl Try.func21 (by kernel_rfl) rfl #[.agg #[.int .i64 a0_0, .int .i64 a0_1, .int .i64 a0_2, .int .i64 a0_3, .slice A0_4 l0_4.length c0_4]] rfl upL ?_; (with_reducible refine (waveletref02_Valid.calls a0_0 a0_1 a0_2 a0_3 _ _ l0_4 true _ ?side1 ?side2 A4.out).mono ?_); (case side1 => repeat (first | exact (Kd.C_below HR0_4.out HB.out) | (with_reducible refine Kd.C_alloc ?_ _) | (with_reducible refine Kd.C_drewN ?_ _) | (with_reducible refine Kd.C_drew ?_))); (case side2 => exact HC0_4.out); rintro e w17 ⟨rfl, hb⟩; refine ⟨_, rfl, ?_⟩; replace BK526 := Aside0.mk (blk_below (g := gb526) (o := .cells #[.int .i64 a0_0, .int .i64 a0_1, .int .i64 a0_2, .int .i64 a0_3, .slice A0_4 l0_4.length c0_4] 26 (0, 0)) (upK BK526.out) hb); replace BK527 := Aside0.mk (blk_below (g := gb527) (o := .cells #[.int .i64 0, .int .i64 0, .int .i64 0, .int .i64 0, .slice none 0 0] 26 (0, 0)) (upK BK527.out) hb); replace HB := Aside0.mk (below_step (upB HB.out) hb); (try clear hb; try clear hb2; try clear hk; try clear hi); have hcz18_0 : w17.cell? ⟨gb526, 0, none⟩ = some (.int .i64 a0_0) := bc BK526 0; have hcz18_1 : w17.cell? ⟨gb526, 1, none⟩ = some (.int .i64 a0_1) := bc BK526 1; have hcz18_2 : w17.cell? ⟨gb526, 2, none⟩ = some (.int .i64 a0_2) := bc BK526 2; have hcz18_3 : w17.cell? ⟨gb526, 3, none⟩ = some (.int .i64 a0_3) := bc BK526 3; have hcz18_4 : w17.cell? ⟨gb526, 4, none⟩ = some (.slice A0_4 l0_4.length c0_4) := bc BK526 4; have hfz18_0 := blk_frozen BK526.out 0; have hfz18_1 := blk_frozen BK526.out 1; have hfz18_2 := blk_frozen BK526.out 2; have hfz18_3 := blk_frozen BK526.out 3; have hfz18_4 := blk_frozen BK526.out 4) | ((with_reducible refine gate_dst (N := 8) rfl ?_); refine box_event ?hg (N := 8) ?hd (cs := #[.int .i64 0, .int .i64 0, .int .i64 0, .int .i64 0, .slice none 0 0]) (t := 26) ?hr ?_; (case hd => rfl); (case hg => rfl); (case hr => first | (go_simp; done) | (go_simp; rfl)); intro gb529 hg w19 hbox hb; have BK529 := Aside0.mk (hbox); have GW529 := Aside0.mk ((by rw [hg]; exact (below_size (upB HB.out)) : w.heap.size ≤ gb529)); have GE529 := Aside0.mk ((by rw [hg]; exact (below_size (upB HB.out)) : w.heap.size ≤ gb529)); replace HB := Aside0.mk (below_step (upB HB.out) hb); have NB526_529 := Aside0.mk ((by rw [hg]; exact Nat.ne_of_lt (blk_lt (g := gb526) (o := .cells #[.int .i64 a0_0, .int .i64 a0_1, .int .i64 a0_2, .int .i64 a0_3, .slice A0_4 l0_4.length c0_4] 26 (0, 0)) (upK BK526.out)) : gb526 ≠ gb529)); have NB529_526 := Aside0.mk ((by rw [hg]; exact Nat.ne_of_gt (blk_lt (g := gb526) (o := .cells #[.int .i64 a0_0, .int .i64 a0_1, .int .i64 a0_2, .int .i64 a0_3, .slice A0_4 l0_4.length c0_4] 26 (0, 0)) (upK BK526.out)) : gb529 ≠ gb526)); replace BK526 := Aside0.mk (blk_below (g := gb526) (o := .cells #[.int .i64 a0_0, .int .i64 a0_1, .int .i64 a0_2, .int .i64 a0_3, .slice A0_4 l0_4.length c0_4] 26 (0, 0)) (upK BK526.out) hb); have NB527_529 := Aside0.mk ((by rw [hg]; exact Nat.ne_of_lt (blk_lt (g := gb527) (o := .cells #[.int .i64 0, .int .i64 0, .int .i64 0, .int .i64 0, .slice none 0 0] 26 (0, 0)) (upK BK527.out)) : gb527 ≠ gb529)); have NB529_527 := Aside0.mk ((by rw [hg]; exact Nat.ne_of_gt (blk_lt (g := gb527) (o := .cells #[.int .i64 0, .int .i64 0, .int .i64 0, .int .i64 0, .slice none 0 0] 26 (0, 0)) (upK BK527.out)) : gb529 ≠ gb527)); replace BK527 := Aside0.mk (blk_below (g := gb527) (o := .cells #[.int .i64 0, .int .i64 0, .int .i64 0, .int .i64 0, .slice none 0 0] 26 (0, 0)) (upK BK527.out) hb); clear hb hbox hg; have hnb20 := NB529_526.out; have hnc20 := NB526_529.out; have hnb21 := NB529_527.out; have hnc21 := NB527_529.out; have hcz22_0 : w19.cell? ⟨gb529, 0, none⟩ = some (.int .i64 0) := bc BK529 0; have hcz22_1 : w19.cell? ⟨gb529, 1, none⟩ = some (.int .i64 0) := bc BK529 1; have hcz22_2 : w19.cell? ⟨gb529, 2, none⟩ = some (.int .i64 0) := bc BK529 2; have hcz22_3 : w19.cell? ⟨gb529, 3, none⟩ = some (.int .i64 0) := bc BK529 3; have hcz22_4 : w19.cell? ⟨gb529, 4, none⟩ = some (.slice none 0 0) := bc BK529 4; have hfz22_0 := blk_frozen BK529.out 0; have hfz22_1 := blk_frozen BK529.out 1; have hfz22_2 := blk_frozen BK529.out 2; have hfz22_3 := blk_frozen BK529.out 3; have hfz22_4 := blk_frozen BK529.out 4))
   go_loopg [9] k (fun kq v9 w' => ∃ (x9_1 : Int) (x530004_1 : List Int) (u530004 : Value), v9 = .int .i64 x9_1 ∧ Aside0 (waveletref02_Clip.l0 kq a1 a2 x9_1 a0_0 a0_1 a0_2 a0_3 l0_4 a0_0 a0_1 a0_2 a0_3 x530004_1 = some (r1, r2, r3, r4, r5, r6)) ∧ Aside0 (kq ≤ k) ∧ Aside0 (Kd.R (Kd.int .i64) 3 w' w.heap.size (fun _ => True) u530004 x530004_1) ∧ Aside0 (w'.heap[gb526]? = some (.cells #[.int .i64 a0_0, .int .i64 a0_1, .int .i64 a0_2, .int .i64 a0_3, (.slice A0_4 l0_4.length c0_4)] 26 (0, 0))) ∧ Aside0 (w'.heap[gb527]? = some (.cells #[.int .i64 0, .int .i64 0, .int .i64 0, .int .i64 0, (.slice none 0 0)] 26 (0, 0))) ∧ Aside0 (w'.heap[gb529]? = some (.cells #[.int .i64 a0_0, .int .i64 a0_1, .int .i64 a0_2, .int .i64 a0_3, u530004] 26 (0, 0))) ∧ Aside0 (Below w.heap.size w w'))
   case atStart => exact ⟨(0), (([] : List Int)), (.slice none 0 0), (by first | rfl | (simp; done) | (simp [*]; done)), H', ⟨Nat.le_refl _⟩, ⟨by first | exact Kd.R_nil _ _ _ _ _ | exact Kd.N_nil _ _ _ _ _ | exact Kd.V_nil _ _ _ _ _ | exact Kd.Q_nil _ _ _ _ _ | exact Kd.S_nil _ _ _ _ _⟩, ⟨by (with_reducible repeat (first | refine blk_drewN ?_ _ | refine blk_drew ?_ | refine blk_alloc ?_ _)); refine blk_far ?_ NB526_529.out _; (with_reducible repeat (first | refine blk_drewN ?_ _ | refine blk_drew ?_ | refine blk_alloc ?_ _)); refine blk_far ?_ NB526_529.out _; (with_reducible repeat (first | refine blk_drewN ?_ _ | refine blk_drew ?_ | refine blk_alloc ?_ _)); refine blk_far ?_ NB526_529.out _; (with_reducible repeat (first | refine blk_drewN ?_ _ | refine blk_drew ?_ | refine blk_alloc ?_ _)); refine blk_far ?_ NB526_529.out _; (with_reducible repeat (first | refine blk_drewN ?_ _ | refine blk_drew ?_ | refine blk_alloc ?_ _)); refine blk_far ?_ NB526_529.out _; (with_reducible repeat (first | refine blk_drewN ?_ _ | refine blk_drew ?_ | refine blk_alloc ?_ _)); exact BK526.out⟩, ⟨by (with_reducible repeat (first | refine blk_drewN ?_ _ | refine blk_drew ?_ | refine blk_alloc ?_ _)); refine blk_far ?_ NB527_529.out _; (with_reducible repeat (first | refine blk_drewN ?_ _ | refine blk_drew ?_ | refine blk_alloc ?_ _)); refine blk_far ?_ NB527_529.out _; (with_reducible repeat (first | refine blk_drewN ?_ _ | refine blk_drew ?_ | refine blk_alloc ?_ _)); refine blk_far ?_ NB527_529.out _; (with_reducible repeat (first | refine blk_drewN ?_ _ | refine blk_drew ?_ | refine blk_alloc ?_ _)); refine blk_far ?_ NB527_529.out _; (with_reducible repeat (first | refine blk_drewN ?_ _ | refine blk_drew ?_ | refine blk_alloc ?_ _)); refine blk_far ?_ NB527_529.out _; (with_reducible repeat (first | refine blk_drewN ?_ _ | refine blk_drew ?_ | refine blk_alloc ?_ _)); exact BK527.out⟩, ⟨by (with_reducible repeat (first | refine blk_drewN ?_ _ | refine blk_drew ?_ | refine blk_alloc ?_ _)); refine blk_put (cs := #[.int .i64 a0_0, .int .i64 a0_1, .int .i64 a0_2, .int .i64 a0_3, .slice none 0 0]) ?_ 4 _ rfl; (with_reducible repeat (first | refine blk_drewN ?_ _ | refine blk_drew ?_ | refine blk_alloc ?_ _)); refine blk_put (cs := #[.int .i64 a0_0, .int .i64 a0_1, .int .i64 a0_2, .int .i64 0, .slice none 0 0]) ?_ 3 _ rfl; (with_reducible repeat (first | refine blk_drewN ?_ _ | refine blk_drew ?_ | refine blk_alloc ?_ _)); refine blk_put (cs := #[.int .i64 a0_0, .int .i64 a0_1, .int .i64 0, .int .i64 0, .slice none 0 0]) ?_ 2 _ rfl; (with_reducible repeat (first | refine blk_drewN ?_ _ | refine blk_drew ?_ | refine blk_alloc ?_ _)); refine blk_put (cs := #[.int .i64 a0_0, .int .i64 0, .int .i64 0, .int .i64 0, .slice none 0 0]) ?_ 1 _ rfl; (with_reducible repeat (first | refine blk_drewN ?_ _ | refine blk_drew ?_ | refine blk_alloc ?_ _)); refine blk_put (cs := #[.int .i64 0, .int .i64 0, .int .i64 0, .int .i64 0, .slice none 0 0]) ?_ 0 _ rfl; (with_reducible repeat (first | refine blk_drewN ?_ _ | refine blk_drew ?_ | refine blk_alloc ?_ _)); exact BK529.out⟩, ⟨by repeat (first | (with_reducible first | exact HB.out | apply below_alloc | apply pw_below_drewN | apply below_drew1 | refine below_set ?_ GE526.out | refine below_set ?_ GE527.out | refine below_set ?_ GE529.out) | exact HB.out)⟩⟩
   case round =>
    clear H'
    try clear c1; try clear c2; try clear p2; try clear c3; try clear c5; try clear c6; try clear c6b0; try clear c9; try clear c15; try clear c20; try clear c21; try clear hcz10_0; try clear hcz10_1; try clear hcz10_2; try clear hcz10_3; try clear hcz10_4; try clear hcz12_0; try clear hcz12_1; try clear hcz12_2; try clear hcz12_3; try clear hcz12_4; try clear hcz16_0; try clear hcz16_1; try clear hcz16_2; try clear hcz16_3; try clear hcz16_4; try clear hcz18_0; try clear hcz18_1; try clear hcz18_2; try clear hcz18_3; try clear hcz18_4; try clear hcz22_0; try clear hcz22_1; try clear hcz22_2; try clear hcz22_3; try clear hcz22_4; try clear hfz10_0; try clear hfz10_1; try clear hfz10_2; try clear hfz10_3; try clear hfz10_4; try clear hfz12_0; try clear hfz12_1; try clear hfz12_2; try clear hfz12_3; try clear hfz12_4; try clear hfz16_0; try clear hfz16_1; try clear hfz16_2; try clear hfz16_3; try clear hfz16_4; try clear hfz18_0; try clear hfz18_1; try clear hfz18_2; try clear hfz18_3; try clear hfz18_4; try clear hfz22_0; try clear hfz22_1; try clear hfz22_2; try clear hfz22_3; try clear hfz22_4
    obtain ⟨x9_1, x530004_1, u530004, rfl, HA, HK1, HO_530004, BK526, BK527, BK529, HB⟩ := hrel
    cases gk with
    | zero => exact absurd HA.out (by simp [waveletref02_Clip.l0])
    | succ k1 =>
     have H := HA.out
     clear HA
     simp only [waveletref02_Clip.l0] at H
     by_cases c23 : x9_1 < (l0_4.length : Int)
     ·rw [if_pos c23] at H
      have c23b0 : decide (x9_1 < (l0_4.length : Int)) = true := decide_eq_true c23
      clear c23
      by_cases c24 : 0 ≤ x9_1
      ·rw [if_pos c24] at H
       have c24b0 : decide (0 ≤ x9_1) = true := decide_eq_true c24
       clear c24
       obtain ⟨ji25, hji25⟩ : ∃ j_ : Int, (mx (rd l0_4 x9_1) a1) = j_ := ⟨_, rfl⟩
       replace H : (if x530004_1.length < 17592186044416 then (waveletref02_Clip.l0 k1 a1 a2 (wrap64 (x9_1 + 1)) a0_0 a0_1 a0_2 a0_3 l0_4 a0_0 a0_1 a0_2 a0_3 (x530004_1 ++ [mn (ji25) a2])) else (none)) = some (r1, r2, r3, r4, r5, r6) := by first | (rw [hji25] at H; exact H) | (simp only [hji25] at H ⊢; exact H)
       have hji25_ : (if (rd l0_4 x9_1) < a1 then a1 else (rd l0_4 x9_1)) = ji25 := hji25
       obtain ⟨ji26, hji26⟩ : ∃ j_ : Int, (mn (ji25) a2) = j_ := ⟨_, rfl⟩
       replace H : (if x530004_1.length < 17592186044416 then (waveletref02_Clip.l0 k1 a1 a2 (wrap64 (x9_1 + 1)) a0_0 a0_1 a0_2 a0_3 l0_4 a0_0 a0_1 a0_2 a0_3 (x530004_1 ++ [ji26])) else (none)) = some (r1, r2, r3, r4, r5, r6) := by first | (rw [hji26] at H; exact H) | (simp only [hji26] at H ⊢; exact H)
       have hji26_ : (if a2 < (ji25) then a2 else (ji25)) = ji26 := hji26
       by_cases c27 : x530004_1.length < 17592186044416
       ·rw [if_pos c27] at H
        have LMc27 := Aside0.mk c27
        clear c27
        obtain ⟨y531, hy531⟩ : ∃ y_ : List Int, y_ = (x530004_1 ++ [ji26]) := ⟨_, rfl⟩
        replace H : (waveletref02_Clip.l0 k1 a1 a2 (wrap64 (x9_1 + 1)) a0_0 a0_1 a0_2 a0_3 l0_4 a0_0 a0_1 a0_2 a0_3 y531) = some (r1, r2, r3, r4, r5, r6) := by first | (rw [hy531]; with_reducible exact H) | (have H2_ := (Option.bind_some _ _).symm.trans H; rw [hy531]; with_reducible exact H2_) | (have H2_ := (Option.bind_some _ _).symm.trans H; with_reducible exact H2_) | with_reducible exact H | (rw [hy531]; exact H) | exact H
        have Ny531 := Aside0.mk hy531
        clear hy531
        have H' := Aside0.mk H
        clear H
        have hnb28 := NB526_527.out
        have hnc28 := NB527_526.out
        have hnb29 := NB526_529.out
        have hnc29 := NB529_526.out
        have hcz30_0 : wr.cell? ⟨gb526, 0, none⟩ = some (.int .i64 a0_0) := bc BK526 0
        have hcz30_1 : wr.cell? ⟨gb526, 1, none⟩ = some (.int .i64 a0_1) := bc BK526 1
        have hcz30_2 : wr.cell? ⟨gb526, 2, none⟩ = some (.int .i64 a0_2) := bc BK526 2
        have hcz30_3 : wr.cell? ⟨gb526, 3, none⟩ = some (.int .i64 a0_3) := bc BK526 3
        have hcz30_4 : wr.cell? ⟨gb526, 4, none⟩ = some (.slice A0_4 l0_4.length c0_4) := bc BK526 4
        have hfz30_0 := blk_frozen BK526.out 0
        have hfz30_1 := blk_frozen BK526.out 1
        have hfz30_2 := blk_frozen BK526.out 2
        have hfz30_3 := blk_frozen BK526.out 3
        have hfz30_4 := blk_frozen BK526.out 4
        try go_wp2
        replace HO_530004 := Aside0.mk (Kd.R_drew HO_530004.out)
        replace BK526 := Aside0.mk (blk_drew BK526.out)
        replace BK527 := Aside0.mk (blk_drew BK527.out)
        replace BK529 := Aside0.mk (blk_drew BK529.out)
        replace HB := Aside0.mk (below_drew1 HB.out)
        have p530 : 0 ≤ (x9_1 : Int) := of_decide_eq_true (by first | (with_reducible assumption) | assumption)
        have q530 : x9_1 < (l0_4.length : Int) := of_decide_eq_true (by first | (with_reducible assumption) | assumption)
        obtain ⟨ad530, e530, hx530_0⟩ := Kd.at_int HR0_4.out x9_1 p530 q530
        have hw530_0 := hx530_0
        cases e530
        replace hx530_0 := hc HB hx530_0
        replace p530 := eq_true p530
        replace q530 := eq_true q530
        refine start_ (n := 15) (S := fun w' => ce w' gb529 0 (.int .i64 a0_0) ∧ ce w' gb529 1 (.int .i64 a0_1) ∧ ce w' gb529 2 (.int .i64 a0_2) ∧ ce w' gb529 3 (.int .i64 a0_3) ∧ ce w' gb529 4 (u530004) ∧ ce w' gb526 0 (.int .i64 a0_0) ∧ ce w' gb526 1 (.int .i64 a0_1) ∧ ce w' gb526 2 (.int .i64 a0_2) ∧ ce w' gb526 3 (.int .i64 a0_3) ∧ ce w' gb526 4 (.slice (some ad530) l0_4.length c0_4) ∧ w'.cell? (ad530.add (x9_1).toNat) = some (.int .i64 (rd l0_4 x9_1))) (ds := [14]) #[false, false, false, false, false, false, false, false, false, false, false, false, false, false, false] (by kernel_rfl) rfl rfl ⟨bc BK529 0, bc BK529 1, bc BK529 2, bc BK529 3, bc BK529 4, bc BK526 0, bc BK526 1, bc BK526 2, bc BK526 3, bc BK526 4, (hc HB hw530_0)⟩ (fun hHeld => ?_); refine with_tabW waveletref02_Clip.tab9 waveletref02_Clip.bits9 (fun HT_ HW_ => ?_)
        generalize wr.drew = w31 at HO_530004 BK526 BK527 BK529 HB hx530_0 hHeld ⊢
        refine puX 0 28 (MK [1, 14]) HT_.out ?_
        refine puX 2 30 (MK [1, 1, 1, 12]) HT_.out ?_
        refine puX 4 32 (MK [1, 1, 1, 1, 1, 10]) HT_.out ?_
        refine puX 7 35 (MK [1, 1, 1, 1, 1, 2, 1, 7]) HT_.out ?_
        refine puX 9 37 (MK [1, 1, 1, 1, 1, 2, 1, 1, 1, 5]) HT_.out ?_
        refine taX 1 29 (MK [3, 1, 1, 2, 1, 1, 1, 5]) HT_.out HW_.out hHeld ?_
        refine taX 3 31 (MK [5, 2, 1, 1, 1, 5]) HT_.out HW_.out hHeld ?_
        refine puX 5 33 (MK [6, 1, 1, 1, 1, 5]) HT_.out ?_
        refine taX 6 34 (MK [8, 1, 1, 5]) HT_.out HW_.out hHeld ?_
        refine puX 8 36 (MK [10, 5]) HT_.out ?_
        refine puX 10 38 (MK [11, 4]) HT_.out ?_
        refine onX 11 39 (MK [12, 3]) HT_.out (fun K hK => ?_)
        refine value_ (w1 := ?_) (v := ?_) (by rfl) rfl ?_ ?_
        rotate_left 2
        ·go_simp
         constructor
         ·rfl
         ·rfl
        refine hK.out _ _ ⟨(blk_cell (blk_alloc BK529.out _) 0).trans rfl, (blk_cell (blk_alloc BK529.out _) 1).trans rfl, (blk_cell (blk_alloc BK529.out _) 2).trans rfl, (blk_cell (blk_alloc BK529.out _) 3).trans rfl, (blk_cell (blk_alloc BK529.out _) 4).trans rfl, (blk_cell (blk_alloc BK526.out _) 0).trans rfl, (blk_cell (blk_alloc BK526.out _) 1).trans rfl, (blk_cell (blk_alloc BK526.out _) 2).trans rfl, (blk_cell (blk_alloc BK526.out _) 3).trans rfl, (blk_cell (blk_alloc BK526.out _) 4).trans rfl, (World.cell?_alloc_lt _ _ _ (World.block_lt_of_cell? _ _ ((hc HB hw530_0)))).trans ((hc HB hw530_0))⟩ (fun hHeld => ?_)
        clear hK K
        refine noX ?_
        refine onX 12 40 (MK [13, 2]) HT_.out (fun K hK => ?_)
        refine Kd.R_append_step (Kd.int .i64) (w0 := w) w.heap.size (by rfl) (.tmp 29) (.tmp 39) 24 3 (.int .i64 0) 8 rfl Try.underlying24 info3 rfl (by decide) (by omega) u530004 x530004_1 ji26 [.int .i64 ji26] (fun _ => True) (fun _ => False) rfl rfl ?aP (fun _ hk => hk.elim) ?aF ?aO ?aB ?aS ?aL ?_
        (case aP => exact rfl)
        (case aB => exact (upB HB.out))
        (case aF => exact (fun _ _ => trivial))
        (case aO => exact (upR HO_530004.out))
        (case aS => exact (below_size (upB HB.out)))
        (case aL => have := LMc27.out; omega)
        intro v532 w32 ho hb hg hat
        rw [← Ny531.out] at ho
        have n0_ := Aside0.mk (blk_grown (g := gb526) (o := .cells #[.int .i64 a0_0, .int .i64 a0_1, .int .i64 a0_2, .int .i64 a0_3, .slice (some ad530) l0_4.length c0_4] 26 (0, 0)) (upK BK526.out) hg (Kd.R_ne HO_530004.out BK526.out (by decide)))
        have n1_ := Aside0.mk (blk_grown (g := gb527) (o := .cells #[.int .i64 0, .int .i64 0, .int .i64 0, .int .i64 0, .slice none 0 0] 26 (0, 0)) (upK BK527.out) hg (Kd.R_ne HO_530004.out BK527.out (by decide)))
        have n2_ := Aside0.mk (blk_grown (g := gb529) (o := .cells #[.int .i64 a0_0, .int .i64 a0_1, .int .i64 a0_2, .int .i64 a0_3, u530004] 26 (0, 0)) (upK BK529.out) hg (Kd.R_ne HO_530004.out BK529.out (by decide)))
        have n3_ := Aside0.mk (hb)
        have n4_ := Aside0.mk (ho)
        clear BK526
        clear BK527
        clear BK529
        clear HB
        clear HO_530004
        have BK526 := n0_
        have BK527 := n1_
        have BK529 := n2_
        have HB := n3_
        have HO533 := n4_
        clear n0_ n1_ n2_ n3_ n4_
        clear ho hb hg hat
        obtain ⟨Ao33, co33, eo33⟩ := Kd.R_slice HO533.out
        (first | subst eo33 | (injection eo33 with f1_ f2_ f3_; have f4_ := f1_.symm; have f5_ := f3_.symm; clear f1_ f2_ f3_; subst f4_; subst f5_))
        refine hK.out _ _ ⟨bc BK529 0, bc BK529 1, bc BK529 2, bc BK529 3, bc BK529 4, bc BK526 0, bc BK526 1, bc BK526 2, bc BK526 3, bc BK526 4, (hc HB hw530_0)⟩ (fun hHeld => ?_)
        clear hK K
        refine noX ?_
        refine puX 13 41 (MK [14, 1]) HT_.out ?_
        refine last_ (i := 14) (N := none) #[true, true, true, true, true, true, true, true, true, true, true, true, true, true, true] rfl rfl (one_of HT_.out (by kernel_rfl)) (by decide) (fun K hK => ?_)
        have hs34 : w32.cell? ⟨gb529, 4, none⟩ = some (u530004) := bc BK529 4
        have hfs34 := blk_frozen BK529.out 4
        have hns34_0 := NB526_529.out
        have hns34_1 := NB527_529.out
        have hms34_0 := NB529_526.out
        have hms34_1 := NB529_527.out
        refine skip_ (w1 := ?_) (by rfl) rfl ?_ ?_
        rotate_left
        ·go_simp
         rfl
        refine hK.out _ _ ?_
        clear hK K
        refine done_ (done_of HT_.out (by kernel_rfl)) ?_
        try go_wp2
        go_roundg k1
        case measure => have := HK1.out; omega
        case rel => exact ⟨(wrap64 (x9_1 + 1)), (y531), (.slice Ao33 y531.length co33), (by first | rfl | (simp; done) | (simp [*]; done)), H', ⟨by have := HK1.out; omega⟩, ⟨by (with_reducible repeat (first | apply Kd.R_alloc | apply Kd.R_drewN | apply Kd.R_drew)); exact Kd.R_mono (Kd.R_far (p := ⟨gb529, 4, none⟩) (Kd.R_types HO533.out BK529.out (by decide)) (fun _ hk => hk.2) (.slice Ao33 y531.length co33)) (fun _ hk => trivial)⟩, ⟨by (with_reducible repeat (first | refine blk_drewN ?_ _ | refine blk_drew ?_ | refine blk_alloc ?_ _)); refine blk_far ?_ NB526_529.out _; (with_reducible repeat (first | refine blk_drewN ?_ _ | refine blk_drew ?_ | refine blk_alloc ?_ _)); exact BK526.out⟩, ⟨by (with_reducible repeat (first | refine blk_drewN ?_ _ | refine blk_drew ?_ | refine blk_alloc ?_ _)); refine blk_far ?_ NB527_529.out _; (with_reducible repeat (first | refine blk_drewN ?_ _ | refine blk_drew ?_ | refine blk_alloc ?_ _)); exact BK527.out⟩, ⟨by (with_reducible repeat (first | refine blk_drewN ?_ _ | refine blk_drew ?_ | refine blk_alloc ?_ _)); refine blk_put (cs := #[.int .i64 a0_0, .int .i64 a0_1, .int .i64 a0_2, .int .i64 a0_3, u530004]) ?_ 4 _ rfl; (with_reducible repeat (first | refine blk_drewN ?_ _ | refine blk_drew ?_ | refine blk_alloc ?_ _)); exact BK529.out⟩, ⟨by repeat (first | (with_reducible first | exact HB.out | apply below_alloc | apply pw_below_drewN | apply below_drew1 | refine below_set ?_ GE526.out | refine below_set ?_ GE527.out | refine below_set ?_ GE529.out) | exact HB.out)⟩⟩
       ·rw [if_neg c27] at H
        exact absurd H (by simp)
      ·rw [if_neg c24] at H
       exact absurd H (by simp)
     ·rw [if_neg c23] at H
      have c23b0 : decide (x9_1 < (l0_4.length : Int)) = false := decide_eq_false c23
      clear c23
      simp only [Option.some.injEq, Prod.mk.injEq] at H
      obtain ⟨rfl, rfl, rfl, rfl, rfl, rfl⟩ := H
      have hnb35 := NB526_527.out
      have hnc35 := NB527_526.out
      have hnb36 := NB526_529.out
      have hnc36 := NB529_526.out
      have hcz37_0 : wr.cell? ⟨gb526, 0, none⟩ = some (.int .i64 a0_0) := bc BK526 0
      have hcz37_1 : wr.cell? ⟨gb526, 1, none⟩ = some (.int .i64 a0_1) := bc BK526 1
      have hcz37_2 : wr.cell? ⟨gb526, 2, none⟩ = some (.int .i64 a0_2) := bc BK526 2
      have hcz37_3 : wr.cell? ⟨gb526, 3, none⟩ = some (.int .i64 a0_3) := bc BK526 3
      have hcz37_4 : wr.cell? ⟨gb526, 4, none⟩ = some (.slice A0_4 l0_4.length c0_4) := bc BK526 4
      have hfz37_0 := blk_frozen BK526.out 0
      have hfz37_1 := blk_frozen BK526.out 1
      have hfz37_2 := blk_frozen BK526.out 2
      have hfz37_3 := blk_frozen BK526.out 3
      have hfz37_4 := blk_frozen BK526.out 4
      have hnb38 := NB529_527.out
      have hnc38 := NB527_529.out
      have hcz39_0 : wr.cell? ⟨gb529, 0, none⟩ = some (.int .i64 a0_0) := bc BK529 0
      have hcz39_1 : wr.cell? ⟨gb529, 1, none⟩ = some (.int .i64 a0_1) := bc BK529 1
      have hcz39_2 : wr.cell? ⟨gb529, 2, none⟩ = some (.int .i64 a0_2) := bc BK529 2
      have hcz39_3 : wr.cell? ⟨gb529, 3, none⟩ = some (.int .i64 a0_3) := bc BK529 3
      have hcz39_4 : wr.cell? ⟨gb529, 4, none⟩ = some (u530004) := bc BK529 4
      have hfz39_0 := blk_frozen BK529.out 0
      have hfz39_1 := blk_frozen BK529.out 1
      have hfz39_2 := blk_frozen BK529.out 2
      have hfz39_3 := blk_frozen BK529.out 3
      have hfz39_4 := blk_frozen BK529.out 4
      have hcz40_0 : wr.cell? ⟨gb527, 0, none⟩ = some (.int .i64 0) := bc BK527 0
      have hcz40_1 : wr.cell? ⟨gb527, 1, none⟩ = some (.int .i64 0) := bc BK527 1
      have hcz40_2 : wr.cell? ⟨gb527, 2, none⟩ = some (.int .i64 0) := bc BK527 2
      have hcz40_3 : wr.cell? ⟨gb527, 3, none⟩ = some (.int .i64 0) := bc BK527 3
      have hcz40_4 : wr.cell? ⟨gb527, 4, none⟩ = some (.slice none 0 0) := bc BK527 4
      have hfz40_0 := blk_frozen BK527.out 0
      have hfz40_1 := blk_frozen BK527.out 1
      have hfz40_2 := blk_frozen BK527.out 2
      have hfz40_3 := blk_frozen BK527.out 3
      have hfz40_4 := blk_frozen BK527.out 4
      obtain ⟨Ao41, co41, eo41⟩ := Kd.R_slice HO_530004.out
      subst eo41
      go_wp2
      refine bodyPost_ret (results_ct rfl _ _ gb527 26 #[.int .i64 a0_0, .int .i64 a0_1, .int .i64 a0_2, .int .i64 a0_3, .slice Ao41 x530004_1.length co41] (0, 0) _ rfl (by (with_reducible repeat (first | refine blk_drewN ?_ _ | refine blk_drew ?_ | refine blk_alloc ?_ _)); refine blk_put (cs := #[.int .i64 a0_0, .int .i64 a0_1, .int .i64 a0_2, .int .i64 a0_3, .slice none 0 0]) ?_ 4 _ rfl; (with_reducible repeat (first | refine blk_drewN ?_ _ | refine blk_drew ?_ | refine blk_alloc ?_ _)); refine blk_put (cs := #[.int .i64 a0_0, .int .i64 a0_1, .int .i64 a0_2, .int .i64 0, .slice none 0 0]) ?_ 3 _ rfl; (with_reducible repeat (first | refine blk_drewN ?_ _ | refine blk_drew ?_ | refine blk_alloc ?_ _)); refine blk_put (cs := #[.int .i64 a0_0, .int .i64 a0_1, .int .i64 0, .int .i64 0, .slice none 0 0]) ?_ 2 _ rfl; (with_reducible repeat (first | refine blk_drewN ?_ _ | refine blk_drew ?_ | refine blk_alloc ?_ _)); refine blk_put (cs := #[.int .i64 a0_0, .int .i64 0, .int .i64 0, .int .i64 0, .slice none 0 0]) ?_ 1 _ rfl; (with_reducible repeat (first | refine blk_drewN ?_ _ | refine blk_drew ?_ | refine blk_alloc ?_ _)); refine blk_put (cs := #[.int .i64 0, .int .i64 0, .int .i64 0, .int .i64 0, .slice none 0 0]) ?_ 0 _ rfl; (with_reducible repeat (first | refine blk_drewN ?_ _ | refine blk_drew ?_ | refine blk_alloc ?_ _)); exact BK527.out) Try.underlying26 rfl (by kernel_rfl)) rfl ?_
      exact ⟨_, by first | rfl | (simp [errW_none, errW_some] <;> rfl) | (simp [*, errW_none, errW_some] <;> rfl), by (with_reducible repeat (first | apply Kd.R_alloc | apply Kd.R_drewN | apply Kd.R_drew)); exact Kd.R_mono (Kd.R_far (p := ⟨gb527, 4, none⟩) (Kd.R_far (p := ⟨gb527, 3, none⟩) (Kd.R_far (p := ⟨gb527, 2, none⟩) (Kd.R_far (p := ⟨gb527, 1, none⟩) (Kd.R_far (p := ⟨gb527, 0, none⟩) (Kd.R_types HO_530004.out BK527.out (by decide)) (fun _ hk => hk.2) (.int .i64 a0_0)) (fun _ hk => hk.2) (.int .i64 a0_1)) (fun _ hk => hk.2) (.int .i64 a0_2)) (fun _ hk => hk.2) (.int .i64 a0_3)) (fun _ hk => hk.2) (.slice Ao41 x530004_1.length co41)) (fun _ hk => trivial), by repeat (first | (with_reducible first | exact HB.out | apply below_alloc | apply pw_below_drewN | apply below_drew1 | refine below_set ?_ GE526.out | refine below_set ?_ GE527.out | refine below_set ?_ GE529.out) | exact HB.out)⟩
 ·replace c5 := Bool.eq_false_iff.mpr c5
  subst c5
  have H1 : (some (0, 0, 0, 0, ([] : List Int), 1)) = some (r1, r2, r3, r4, r5, r6) := by rw [if_neg (show ¬ (false = true) by decide)] at H; exact H
  clear H
  have H := H1
  clear H1
  simp only [Option.some.injEq, Prod.mk.injEq] at H
  obtain ⟨rfl, rfl, rfl, rfl, rfl, rfl⟩ := H
  go_enter Try.func32, Try.ntmps32
  go_wp2_with (first | ((with_reducible refine gate_dst (N := 3) rfl ?_); refine box_event ?hg (N := 3) ?hd (cs := #[.int .i64 a0_0, .int .i64 a0_1, .int .i64 a0_2, .int .i64 a0_3, .slice A0_4 l0_4.length c0_4]) (t := 26) ?hr ?_; (case hd => rfl); (case hg => rfl); (case hr => first | (go_simp; done) | (go_simp; rfl)); intro gb526 hg w42 hbox hb; have BK526 := Aside0.mk (hbox); have GW526 := Aside0.mk ((by rw [hg]; exact (below_size (upB HB.out)) : w.heap.size ≤ gb526)); have GE526 := Aside0.mk ((by rw [hg]; exact (below_size (upB HB.out)) : w.heap.size ≤ gb526)); replace HB := Aside0.mk (below_step (upB HB.out) hb); clear hb hbox hg) | ((with_reducible refine gate_dst (N := 6) rfl ?_); refine box_event ?hg (N := 6) ?hd (cs := #[.int .i64 0, .int .i64 0, .int .i64 0, .int .i64 0, .slice none 0 0]) (t := 26) ?hr ?_; (case hd => rfl); (case hg => rfl); (case hr => first | (go_simp; done) | (go_simp; rfl)); intro gb527 hg w43 hbox hb; have BK527 := Aside0.mk (hbox); have GW527 := Aside0.mk ((by rw [hg]; exact (below_size (upB HB.out)) : w.heap.size ≤ gb527)); have GE527 := Aside0.mk ((by rw [hg]; exact (below_size (upB HB.out)) : w.heap.size ≤ gb527)); replace HB := Aside0.mk (below_step (upB HB.out) hb); have NB526_527 := Aside0.mk ((by rw [hg]; exact Nat.ne_of_lt (blk_lt (g := gb526) (o := .cells #[.int .i64 a0_0, .int .i64 a0_1, .int .i64 a0_2, .int .i64 a0_3, .slice A0_4 l0_4.length c0_4] 26 (0, 0)) (upK BK526.out)) : gb526 ≠ gb527)); have NB527_526 := Aside0.mk ((by rw [hg]; exact Nat.ne_of_gt (blk_lt (g := gb526) (o := .cells #[.int .i64 a0_0, .int .i64 a0_1, .int .i64 a0_2, .int .i64 a0_3, .slice A0_4 l0_4.length c0_4] 26 (0, 0)) (upK BK526.out)) : gb527 ≠ gb526)); replace BK526 := Aside0.mk (blk_below (g := gb526) (o := .cells #[.int .i64 a0_0, .int .i64 a0_1, .int .i64 a0_2, .int .i64 a0_3, .slice A0_4 l0_4.length c0_4] 26 (0, 0)) (upK BK526.out) hb); clear hb hbox hg; have hnb44 := NB526_527.out; have hnc44 := NB527_526.out; have hcz45_0 : w43.cell? ⟨gb526, 0, none⟩ = some (.int .i64 a0_0) := bc BK526 0; have hcz45_1 : w43.cell? ⟨gb526, 1, none⟩ = some (.int .i64 a0_1) := bc BK526 1; have hcz45_2 : w43.cell? ⟨gb526, 2, none⟩ = some (.int .i64 a0_2) := bc BK526 2; have hcz45_3 : w43.cell? ⟨gb526, 3, none⟩ = some (.int .i64 a0_3) := bc BK526 3; have hcz45_4 : w43.cell? ⟨gb526, 4, none⟩ = some (.slice A0_4 l0_4.length c0_4) := bc BK526 4; have hfz45_0 := blk_frozen BK526.out 0; have hfz45_1 := blk_frozen BK526.out 1; have hfz45_2 := blk_frozen BK526.out 2; have hfz45_3 := blk_frozen BK526.out 3; have hfz45_4 := blk_frozen BK526.out 4) | ((with_reducible refine gate_callee (f := 21) rfl ?_); refine goesL_ (some 11) rfl rfl Try.func21 (by kernel_rfl) rfl #[.agg #[.int .i64 a0_0, .int .i64 a0_1, .int .i64 a0_2, .int .i64 a0_3, .slice A0_4 l0_4.length c0_4]] rfl upL ?_; (with_reducible refine (waveletref02_Valid.calls a0_0 a0_1 a0_2 a0_3 _ _ l0_4 false _ ?side1 ?side2 A4.out).mono ?_); (case side1 => repeat (first | exact (Kd.C_below HR0_4.out HB.out) | (with_reducible refine Kd.C_alloc ?_ _) | (with_reducible refine Kd.C_drewN ?_ _) | (with_reducible refine Kd.C_drew ?_))); (case side2 => exact HC0_4.out); rintro e w46 ⟨rfl, hb⟩; refine ⟨_, rfl, ?_⟩; replace BK526 := Aside0.mk (blk_below (g := gb526) (o := .cells #[.int .i64 a0_0, .int .i64 a0_1, .int .i64 a0_2, .int .i64 a0_3, .slice A0_4 l0_4.length c0_4] 26 (0, 0)) (upK BK526.out) hb); replace BK527 := Aside0.mk (blk_below (g := gb527) (o := .cells #[.int .i64 0, .int .i64 0, .int .i64 0, .int .i64 0, .slice none 0 0] 26 (0, 0)) (upK BK527.out) hb); replace HB := Aside0.mk (below_step (upB HB.out) hb); (try clear hb; try clear hb2; try clear hk; try clear hi); have hcz47_0 : w46.cell? ⟨gb527, 0, none⟩ = some (.int .i64 0) := bc BK527 0; have hcz47_1 : w46.cell? ⟨gb527, 1, none⟩ = some (.int .i64 0) := bc BK527 1; have hcz47_2 : w46.cell? ⟨gb527, 2, none⟩ = some (.int .i64 0) := bc BK527 2; have hcz47_3 : w46.cell? ⟨gb527, 3, none⟩ = some (.int .i64 0) := bc BK527 3; have hcz47_4 : w46.cell? ⟨gb527, 4, none⟩ = some (.slice none 0 0) := bc BK527 4; have hfz47_0 := blk_frozen BK527.out 0; have hfz47_1 := blk_frozen BK527.out 1; have hfz47_2 := blk_frozen BK527.out 2; have hfz47_3 := blk_frozen BK527.out 3; have hfz47_4 := blk_frozen BK527.out 4))
  refine bodyPost_ret (results_ct rfl _ _ gb527 26 #[.int .i64 0, .int .i64 0, .int .i64 0, .int .i64 0, .slice none 0 0] (0, 0) _ rfl (by (with_reducible repeat (first | refine blk_drewN ?_ _ | refine blk_drew ?_ | refine blk_alloc ?_ _)); refine blk_put (cs := #[.int .i64 0, .int .i64 0, .int .i64 0, .int .i64 0, .slice none 0 0]) ?_ 4 _ rfl; (with_reducible repeat (first | refine blk_drewN ?_ _ | refine blk_drew ?_ | refine blk_alloc ?_ _)); refine blk_put (cs := #[.int .i64 0, .int .i64 0, .int .i64 0, .int .i64 0, .slice none 0 0]) ?_ 3 _ rfl; (with_reducible repeat (first | refine blk_drewN ?_ _ | refine blk_drew ?_ | refine blk_alloc ?_ _)); refine blk_put (cs := #[.int .i64 0, .int .i64 0, .int .i64 0, .int .i64 0, .slice none 0 0]) ?_ 2 _ rfl; (with_reducible repeat (first | refine blk_drewN ?_ _ | refine blk_drew ?_ | refine blk_alloc ?_ _)); refine blk_put (cs := #[.int .i64 0, .int .i64 0, .int .i64 0, .int .i64 0, .slice none 0 0]) ?_ 1 _ rfl; (with_reducible repeat (first | refine blk_drewN ?_ _ | refine blk_drew ?_ | refine blk_alloc ?_ _)); refine blk_put (cs := #[.int .i64 0, .int .i64 0, .int .i64 0, .int .i64 0, .slice none 0 0]) ?_ 0 _ rfl; (with_reducible repeat (first | refine blk_drewN ?_ _ | refine blk_drew ?_ | refine blk_alloc ?_ _)); exact BK527.out) Try.underlying26 rfl (by kernel_rfl)) rfl ?_
  exact ⟨_, by first | rfl | (simp [errW_none, errW_some] <;> rfl) | (simp [*, errW_none, errW_some] <;> rfl), by first | exact Kd.R_nil _ _ _ _ _ | exact Kd.N_nil _ _ _ _ _ | exact Kd.V_nil _ _ _ _ _ | exact Kd.Q_nil _ _ _ _ _ | exact Kd.S_nil _ _ _ _ _, by repeat (first | (with_reducible first | exact HB.out | apply below_alloc | apply pw_below_drewN | apply below_drew1 | refine below_set ?_ GE526.out | refine below_set ?_ GE527.out) | exact HB.out)⟩

end Go.Proofs.Ythemchggmlpdhaa.Q
