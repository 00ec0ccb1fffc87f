-- By a program of this session (wip/tools/mk.py), out of the kit's print of the translation; Lean checks it.
import Derived.Test.YthemchggmlpdhaaUp2
import Derived.Test.YthemchggmlpdhaaUp
import Derived.Test.YthemchggmlpdhaaQ0
import Derived.Test.YthemchggmlpdhaaQ5
import Derived.Test.YthemchggmlpdhaaQ6
namespace Go.Proofs.Ythemchggmlpdhaa.Q
open Go.RowKit Go.Proofs.YthemchggmlpdhaaW.PrintWords Go.Proofs.YthemchggmlpdhaaW.PrintLast Go.Proofs.YthemchggmlpdhaaW.PrintMore
attribute [local go_sem] max2_int min2_int max_two min_two max_three min_three max_four min_four   -- for this text's walks alone
set_option linter.unusedVariables false
set_option linter.unusedSimpArgs false

/-! ### waveletref02_New: function 15 -/
def waveletref02_New.f (a0_0 : Int) (a0_1 : Int) (a0_2 : Int) (a0_3 : Int) : Option (Int × Int × Int × Int × List Int × Int) := (waveletref01_Valid.f a0_0 a0_1 a0_2 a0_3).bind fun t365 => (if t365 = true then ((waveletref01_Area.f a0_0 a0_1 a0_2 a0_3).bind fun t366 => (if t366 > 1048576 then (some (0, 0, 0, 0, ([] : List Int), 5)) else (if 0 ≤ t366 then (if (t366 : Int).toNat ≤ 35184372088832 then (some (a0_0, a0_1, a0_2, a0_3, (List.replicate (t366 : Int).toNat 0), 0)) else (none)) else (none)))) else (some (0, 0, 0, 0, ([] : List Int), 2)))
set_option maxHeartbeats 8000000 in
set_option maxRecDepth 100000 in
theorem waveletref02_New.calls (a0_0 : Int) (a0_1 : Int) (a0_2 : Int) (a0_3 : Int) (r1 : Int) (r2 : Int) (r3 : Int) (r4 : Int) (r5 : List Int) (r6 : Int) (w : World) (h : waveletref02_New.f a0_0 a0_1 a0_2 a0_3 = some (r1, r2, r3, r4, r5, r6)) :
  Calls Try.prog 15 #[.agg #[.int .i64 a0_0, .int .i64 a0_1, .int .i64 a0_2, .int .i64 a0_3]] w fun e w' => ∃ v4_ : Value, e = .returned (.tuple #[.agg #[.int .i64 r1, .int .i64 r2, .int .i64 r3, .int .i64 r4, v4_], .int .i64 r6]) ∧ Kd.R (Kd.int .i64) 3 w' w.heap.size (fun _ => True) v4_ r5 ∧ Below w.heap.size w w' := by
 have hu23 := Try.underlying23
 have hu26 := Try.underlying26
 have HB := Aside0.mk (Below.refl w.heap.size w)
 have H : ((waveletref01_Valid.f a0_0 a0_1 a0_2 a0_3).bind fun t365 => (if t365 = true then ((waveletref01_Area.f a0_0 a0_1 a0_2 a0_3).bind fun t366 => (if t366 > 1048576 then (some (0, 0, 0, 0, ([] : List Int), 5)) else (if 0 ≤ t366 then (if (t366 : Int).toNat ≤ 35184372088832 then (some (a0_0, a0_1, a0_2, a0_3, (List.replicate (t366 : Int).toNat 0), 0)) else (none)) else (none)))) else (some (0, 0, 0, 0, ([] : List Int), 2)))) = some (r1, r2, r3, r4, r5, r6) := h
 clear h
 replace H := Option.bind_eq_some_iff.mp H
 obtain ⟨t365, A20, H⟩ := H
 replace H : (if t365 = true then ((waveletref01_Area.f a0_0 a0_1 a0_2 a0_3).bind fun t366 => (if t366 > 1048576 then (some (0, 0, 0, 0, ([] : List Int), 5)) else (if 0 ≤ t366 then (if (t366 : Int).toNat ≤ 35184372088832 then (some (a0_0, a0_1, a0_2, a0_3, (List.replicate (t366 : Int).toNat 0), 0)) else (none)) else (none)))) else (some (0, 0, 0, 0, ([] : List Int), 2))) = some (r1, r2, r3, r4, r5, r6) := H
 have A2 := Aside0.mk A20
 clear A20
 by_cases c3 : t365 = true
 ·subst c3
  have H1 : ((waveletref01_Area.f a0_0 a0_1 a0_2 a0_3).bind fun t366 => (if t366 > 1048576 then (some (0, 0, 0, 0, ([] : List Int), 5)) else (if 0 ≤ t366 then (if (t366 : Int).toNat ≤ 35184372088832 then (some (a0_0, a0_1, a0_2, a0_3, (List.replicate (t366 : Int).toNat 0), 0)) else (none)) else (none)))) = some (r1, r2, r3, r4, r5, r6) := by rw [if_pos rfl] at H; exact H
  clear H
  have H := H1
  clear H1
  replace H := Option.bind_eq_some_iff.mp H
  obtain ⟨t366, A40, H⟩ := H
  replace H : (if t366 > 1048576 then (some (0, 0, 0, 0, ([] : List Int), 5)) else (if 0 ≤ t366 then (if (t366 : Int).toNat ≤ 35184372088832 then (some (a0_0, a0_1, a0_2, a0_3, (List.replicate (t366 : Int).toNat 0), 0)) else (none)) else (none))) = some (r1, r2, r3, r4, r5, r6) := H
  have A4 := Aside0.mk A40
  clear A40
  by_cases c5 : t366 > 1048576
  ·rw [if_pos c5] at H
   have c5b0 : decide (1048576 < t366) = true := decide_eq_true c5
   clear c5
   simp only [Option.some.injEq, Prod.mk.injEq] at H
   obtain ⟨rfl, rfl, rfl, rfl, rfl, rfl⟩ := H
   go_enter Try.func15, Try.ntmps15
   go_wp2_with (first | ((with_reducible refine gate_dst (N := 1) rfl ?_); refine box_event ?hg (N := 1) ?hd (cs := #[.int .i64 a0_0, .int .i64 a0_1, .int .i64 a0_2, .int .i64 a0_3]) (t := 23) ?hr ?_; (case hd => rfl); (case hg => rfl); (case hr => first | (go_simp; done) | (go_simp; rfl)); intro gb363 hg w6 hbox hb; have BK363 := Aside0.mk (hbox); have GW363 := Aside0.mk ((by rw [hg]; exact (below_size (upB HB.out)) : w.heap.size ≤ gb363)); have GE363 := Aside0.mk ((by rw [hg]; exact (below_size (upB HB.out)) : w.heap.size ≤ gb363)); replace HB := Aside0.mk (below_step (upB HB.out) hb); clear hb hbox hg) | ((with_reducible refine gate_dst (N := 2) rfl ?_); refine box_event ?hg (N := 2) ?hd (cs := #[.int .i64 0, .int .i64 0, .int .i64 0, .int .i64 0, .slice none 0 0]) (t := 26) ?hr ?_; (case hd => rfl); (case hg => rfl); (case hr => first | (go_simp; done) | (go_simp; rfl)); intro gb364 hg w7 hbox hb; have BK364 := Aside0.mk (hbox); have GW364 := Aside0.mk ((by rw [hg]; exact (below_size (upB HB.out)) : w.heap.size ≤ gb364)); have GE364 := Aside0.mk ((by rw [hg]; exact (below_size (upB HB.out)) : w.heap.size ≤ gb364)); replace HB := Aside0.mk (below_step (upB HB.out) hb); have NB363_364 := Aside0.mk ((by rw [hg]; exact Nat.ne_of_lt (blk_lt (g := gb363) (o := .cells #[.int .i64 a0_0, .int .i64 a0_1, .int .i64 a0_2, .int .i64 a0_3] 23 (0, 0)) (upK BK363.out)) : gb363 ≠ gb364)); have NB364_363 := Aside0.mk ((by rw [hg]; exact Nat.ne_of_gt (blk_lt (g := gb363) (o := .cells #[.int .i64 a0_0, .int .i64 a0_1, .int .i64 a0_2, .int .i64 a0_3] 23 (0, 0)) (upK BK363.out)) : gb364 ≠ gb363)); replace BK363 := Aside0.mk (blk_below (g := gb363) (o := .cells #[.int .i64 a0_0, .int .i64 a0_1, .int .i64 a0_2, .int .i64 a0_3] 23 (0, 0)) (upK BK363.out) hb); clear hb hbox hg; have hnb8 := NB363_364.out; have hnc8 := NB364_363.out; have hcz9_0 : w7.cell? ⟨gb363, 0, none⟩ = some (.int .i64 a0_0) := bc BK363 0; have hcz9_1 : w7.cell? ⟨gb363, 1, none⟩ = some (.int .i64 a0_1) := bc BK363 1; have hcz9_2 : w7.cell? ⟨gb363, 2, none⟩ = some (.int .i64 a0_2) := bc BK363 2; have hcz9_3 : w7.cell? ⟨gb363, 3, none⟩ = some (.int .i64 a0_3) := bc BK363 3; have hfz9_0 := blk_frozen BK363.out 0; have hfz9_1 := blk_frozen BK363.out 1; have hfz9_2 := blk_frozen BK363.out 2; have hfz9_3 := blk_frozen BK363.out 3) | ((with_reducible refine gate_callee (f := 40) rfl ?_); refine goesL_ (some 6) rfl rfl Try.func40 (by kernel_rfl) rfl #[.agg #[.int .i64 a0_0, .int .i64 a0_1, .int .i64 a0_2, .int .i64 a0_3]] rfl upL ?_; (with_reducible refine (waveletref01_Valid.calls a0_0 a0_1 a0_2 a0_3 true _ A2.out).mono ?_); rintro e w10 ⟨rfl, hb⟩; refine ⟨_, rfl, ?_⟩; replace BK363 := Aside0.mk (blk_below (g := gb363) (o := .cells #[.int .i64 a0_0, .int .i64 a0_1, .int .i64 a0_2, .int .i64 a0_3] 23 (0, 0)) (upK BK363.out) hb); replace BK364 := Aside0.mk (blk_below (g := gb364) (o := .cells #[.int .i64 0, .int .i64 0, .int .i64 0, .int .i64 0, .slice none 0 0] 26 (0, 0)) (upK BK364.out) hb); replace HB := Aside0.mk (below_step (upB HB.out) hb); (try clear hb; try clear hb2; try clear hk; try clear hi); have hcz11_0 : w10.cell? ⟨gb363, 0, none⟩ = some (.int .i64 a0_0) := bc BK363 0; have hcz11_1 : w10.cell? ⟨gb363, 1, none⟩ = some (.int .i64 a0_1) := bc BK363 1; have hcz11_2 : w10.cell? ⟨gb363, 2, none⟩ = some (.int .i64 a0_2) := bc BK363 2; have hcz11_3 : w10.cell? ⟨gb363, 3, none⟩ = some (.int .i64 a0_3) := bc BK363 3; have hfz11_0 := blk_frozen BK363.out 0; have hfz11_1 := blk_frozen BK363.out 1; have hfz11_2 := blk_frozen BK363.out 2; have hfz11_3 := blk_frozen BK363.out 3) | ((with_reducible refine gate_callee (f := 13) rfl ?_); refine goesL_ (some 10) rfl rfl Try.func13 (by kernel_rfl) rfl #[.agg #[.int .i64 a0_0, .int .i64 a0_1, .int .i64 a0_2, .int .i64 a0_3]] rfl upL ?_; (with_reducible refine (waveletref01_Area.calls a0_0 a0_1 a0_2 a0_3 t366 _ A4.out).mono ?_); rintro e w12 ⟨rfl, hb⟩; refine ⟨_, rfl, ?_⟩; replace BK363 := Aside0.mk (blk_below (g := gb363) (o := .cells #[.int .i64 a0_0, .int .i64 a0_1, .int .i64 a0_2, .int .i64 a0_3] 23 (0, 0)) (upK BK363.out) hb); replace BK364 := Aside0.mk (blk_below (g := gb364) (o := .cells #[.int .i64 0, .int .i64 0, .int .i64 0, .int .i64 0, .slice none 0 0] 26 (0, 0)) (upK BK364.out) hb); replace HB := Aside0.mk (below_step (upB HB.out) hb); (try clear hb; try clear hb2; try clear hk; try clear hi); have hcz13_0 : w12.cell? ⟨gb364, 0, none⟩ = some (.int .i64 0) := bc BK364 0; have hcz13_1 : w12.cell? ⟨gb364, 1, none⟩ = some (.int .i64 0) := bc BK364 1; have hcz13_2 : w12.cell? ⟨gb364, 2, none⟩ = some (.int .i64 0) := bc BK364 2; have hcz13_3 : w12.cell? ⟨gb364, 3, none⟩ = some (.int .i64 0) := bc BK364 3; have hcz13_4 : w12.cell? ⟨gb364, 4, none⟩ = some (.slice none 0 0) := bc BK364 4; have hfz13_0 := blk_frozen BK364.out 0; have hfz13_1 := blk_frozen BK364.out 1; have hfz13_2 := blk_frozen BK364.out 2; have hfz13_3 := blk_frozen BK364.out 3; have hfz13_4 := blk_frozen BK364.out 4))
   refine bodyPost_ret (results_ct rfl _ _ gb364 26 #[.int .i64 0, .int .i64 0, .int .i64 0, .int .i64 0, .slice none 0 0] (0, 0) _ rfl (by (with_reducible repeat (first | refine blk_drewN ?_ _ | refine blk_drew ?_ | refine blk_alloc ?_ _)); refine blk_put (cs := #[.int .i64 0, .int .i64 0, .int .i64 0, .int .i64 0, .slice none 0 0]) ?_ 4 _ rfl; (with_reducible repeat (first | refine blk_drewN ?_ _ | refine blk_drew ?_ | refine blk_alloc ?_ _)); refine blk_put (cs := #[.int .i64 0, .int .i64 0, .int .i64 0, .int .i64 0, .slice none 0 0]) ?_ 3 _ rfl; (with_reducible repeat (first | refine blk_drewN ?_ _ | refine blk_drew ?_ | refine blk_alloc ?_ _)); refine blk_put (cs := #[.int .i64 0, .int .i64 0, .int .i64 0, .int .i64 0, .slice none 0 0]) ?_ 2 _ rfl; (with_reducible repeat (first | refine blk_drewN ?_ _ | refine blk_drew ?_ | refine blk_alloc ?_ _)); refine blk_put (cs := #[.int .i64 0, .int .i64 0, .int .i64 0, .int .i64 0, .slice none 0 0]) ?_ 1 _ rfl; (with_reducible repeat (first | refine blk_drewN ?_ _ | refine blk_drew ?_ | refine blk_alloc ?_ _)); refine blk_put (cs := #[.int .i64 0, .int .i64 0, .int .i64 0, .int .i64 0, .slice none 0 0]) ?_ 0 _ rfl; (with_reducible repeat (first | refine blk_drewN ?_ _ | refine blk_drew ?_ | refine blk_alloc ?_ _)); exact BK364.out) Try.underlying26 rfl (by kernel_rfl)) rfl ?_
   exact ⟨_, by first | rfl | (simp [errW_none, errW_some] <;> rfl) | (simp [*, errW_none, errW_some] <;> rfl), by first | exact Kd.R_nil _ _ _ _ _ | exact Kd.N_nil _ _ _ _ _ | exact Kd.V_nil _ _ _ _ _ | exact Kd.Q_nil _ _ _ _ _ | exact Kd.S_nil _ _ _ _ _, by repeat (first | (with_reducible first | exact HB.out | apply below_alloc | apply pw_below_drewN | apply below_drew1 | refine below_set ?_ GE363.out | refine below_set ?_ GE364.out) | exact HB.out)⟩
  ·rw [if_neg c5] at H
   have c5b0 : decide (1048576 < t366) = false := decide_eq_false c5
   clear c5
   by_cases c14 : 0 ≤ t366
   ·rw [if_pos c14] at H
    have c14b0 := eq_true c14
    have c14b1 : decide (0 ≤ t366) = true := decide_eq_true c14
    clear c14
    by_cases c15 : (t366 : Int).toNat ≤ 35184372088832
    ·rw [if_pos c15] at H
     have c15b0 := eq_true c15
     have c15b1 : decide ((t366 : Int).toNat ≤ 35184372088832) = true := decide_eq_true c15
     clear c15
     obtain ⟨y367, hy367⟩ : ∃ y_ : List Int, y_ = (List.replicate (t366 : Int).toNat 0) := ⟨_, rfl⟩
     replace H : (some (a0_0, a0_1, a0_2, a0_3, y367, 0)) = some (r1, r2, r3, r4, r5, r6) := by first | (rw [hy367]; with_reducible exact H) | (have H2_ := (Option.bind_some _ _).symm.trans H; rw [hy367]; with_reducible exact H2_) | (have H2_ := (Option.bind_some _ _).symm.trans H; with_reducible exact H2_) | with_reducible exact H | (rw [hy367]; exact H) | exact H
     have Ny367 := Aside0.mk hy367
     clear hy367
     simp only [Option.some.injEq, Prod.mk.injEq] at H
     obtain ⟨rfl, rfl, rfl, rfl, rfl, rfl⟩ := H
     go_enter Try.func15, Try.ntmps15
     try go_wp2_with (first | ((with_reducible refine gate_dst (N := 1) rfl ?_); refine box_event ?hg (N := 1) ?hd (cs := #[.int .i64 a0_0, .int .i64 a0_1, .int .i64 a0_2, .int .i64 a0_3]) (t := 23) ?hr ?_; (case hd => rfl); (case hg => rfl); (case hr => first | (go_simp; done) | (go_simp; rfl)); intro gb363 hg w16 hbox hb; have BK363 := Aside0.mk (hbox); have GW363 := Aside0.mk ((by rw [hg]; exact (below_size (upB HB.out)) : w.heap.size ≤ gb363)); have GE363 := Aside0.mk ((by rw [hg]; exact (below_size (upB HB.out)) : w.heap.size ≤ gb363)); replace HB := Aside0.mk (below_step (upB HB.out) hb); clear hb hbox hg) | ((with_reducible refine gate_dst (N := 2) rfl ?_); refine box_event ?hg (N := 2) ?hd (cs := #[.int .i64 0, .int .i64 0, .int .i64 0, .int .i64 0, .slice none 0 0]) (t := 26) ?hr ?_; (case hd => rfl); (case hg => rfl); (case hr => first | (go_simp; done) | (go_simp; rfl)); intro gb364 hg w17 hbox hb; have BK364 := Aside0.mk (hbox); have GW364 := Aside0.mk ((by rw [hg]; exact (below_size (upB HB.out)) : w.heap.size ≤ gb364)); have GE364 := Aside0.mk ((by rw [hg]; exact (below_size (upB HB.out)) : w.heap.size ≤ gb364)); replace HB := Aside0.mk (below_step (upB HB.out) hb); have NB363_364 := Aside0.mk ((by rw [hg]; exact Nat.ne_of_lt (blk_lt (g := gb363) (o := .cells #[.int .i64 a0_0, .int .i64 a0_1, .int .i64 a0_2, .int .i64 a0_3] 23 (0, 0)) (upK BK363.out)) : gb363 ≠ gb364)); have NB364_363 := Aside0.mk ((by rw [hg]; exact Nat.ne_of_gt (blk_lt (g := gb363) (o := .cells #[.int .i64 a0_0, .int .i64 a0_1, .int .i64 a0_2, .int .i64 a0_3] 23 (0, 0)) (upK BK363.out)) : gb364 ≠ gb363)); replace BK363 := Aside0.mk (blk_below (g := gb363) (o := .cells #[.int .i64 a0_0, .int .i64 a0_1, .int .i64 a0_2, .int .i64 a0_3] 23 (0, 0)) (upK BK363.out) hb); clear hb hbox hg; have hnb18 := NB363_364.out; have hnc18 := NB364_363.out; have hcz19_0 : w17.cell? ⟨gb363, 0, none⟩ = some (.int .i64 a0_0) := bc BK363 0; have hcz19_1 : w17.cell? ⟨gb363, 1, none⟩ = some (.int .i64 a0_1) := bc BK363 1; have hcz19_2 : w17.cell? ⟨gb363, 2, none⟩ = some (.int .i64 a0_2) := bc BK363 2; have hcz19_3 : w17.cell? ⟨gb363, 3, none⟩ = some (.int .i64 a0_3) := bc BK363 3; have hfz19_0 := blk_frozen BK363.out 0; have hfz19_1 := blk_frozen BK363.out 1; have hfz19_2 := blk_frozen BK363.out 2; have hfz19_3 := blk_frozen BK363.out 3) | ((with_reducible refine gate_callee (f := 40) rfl ?_); refine goesL_ (some 6) rfl rfl Try.func40 (by kernel_rfl) rfl #[.agg #[.int .i64 a0_0, .int .i64 a0_1, .int .i64 a0_2, .int .i64 a0_3]] rfl upL ?_; (with_reducible refine (waveletref01_Valid.calls a0_0 a0_1 a0_2 a0_3 true _ A2.out).mono ?_); rintro e w20 ⟨rfl, hb⟩; refine ⟨_, rfl, ?_⟩; replace BK363 := Aside0.mk (blk_below (g := gb363) (o := .cells #[.int .i64 a0_0, .int .i64 a0_1, .int .i64 a0_2, .int .i64 a0_3] 23 (0, 0)) (upK BK363.out) hb); replace BK364 := Aside0.mk (blk_below (g := gb364) (o := .cells #[.int .i64 0, .int .i64 0, .int .i64 0, .int .i64 0, .slice none 0 0] 26 (0, 0)) (upK BK364.out) hb); replace HB := Aside0.mk (below_step (upB HB.out) hb); (try clear hb; try clear hb2; try clear hk; try clear hi); have hcz21_0 : w20.cell? ⟨gb363, 0, none⟩ = some (.int .i64 a0_0) := bc BK363 0; have hcz21_1 : w20.cell? ⟨gb363, 1, none⟩ = some (.int .i64 a0_1) := bc BK363 1; have hcz21_2 : w20.cell? ⟨gb363, 2, none⟩ = some (.int .i64 a0_2) := bc BK363 2; have hcz21_3 : w20.cell? ⟨gb363, 3, none⟩ = some (.int .i64 a0_3) := bc BK363 3; have hfz21_0 := blk_frozen BK363.out 0; have hfz21_1 := blk_frozen BK363.out 1; have hfz21_2 := blk_frozen BK363.out 2; have hfz21_3 := blk_frozen BK363.out 3) | ((with_reducible refine gate_callee (f := 13) rfl ?_); refine goesL_ (some 10) rfl rfl Try.func13 (by kernel_rfl) rfl #[.agg #[.int .i64 a0_0, .int .i64 a0_1, .int .i64 a0_2, .int .i64 a0_3]] rfl upL ?_; (with_reducible refine (waveletref01_Area.calls a0_0 a0_1 a0_2 a0_3 t366 _ A4.out).mono ?_); rintro e w22 ⟨rfl, hb⟩; refine ⟨_, rfl, ?_⟩; replace BK363 := Aside0.mk (blk_below (g := gb363) (o := .cells #[.int .i64 a0_0, .int .i64 a0_1, .int .i64 a0_2, .int .i64 a0_3] 23 (0, 0)) (upK BK363.out) hb); replace BK364 := Aside0.mk (blk_below (g := gb364) (o := .cells #[.int .i64 0, .int .i64 0, .int .i64 0, .int .i64 0, .slice none 0 0] 26 (0, 0)) (upK BK364.out) hb); replace HB := Aside0.mk (below_step (upB HB.out) hb); (try clear hb; try clear hb2; try clear hk; try clear hi)))
     replace BK363 := Aside0.mk (blk_drew BK363.out)
     replace BK364 := Aside0.mk (blk_drew BK364.out)
     replace HB := Aside0.mk (below_drew1 HB.out)
     refine start_ (n := 6) (S := fun w' => ce w' gb363 0 (.int .i64 a0_0) ∧ ce w' gb363 1 (.int .i64 a0_1) ∧ ce w' gb363 2 (.int .i64 a0_2) ∧ ce w' gb363 3 (.int .i64 a0_3)) (ds := []) #[false, false, false, false, false, false] (by kernel_rfl) rfl rfl ⟨bc BK363 0, bc BK363 1, bc BK363 2, bc BK363 3⟩ (fun hHeld => ?_)
     generalize w22.drew = w23 at BK363 BK364 HB hHeld ⊢
     refine pure_ (i := 1) (N := some 15) (v := ?_) (a' := ?_) #[false, true, false, false, false, false] rfl rfl (by kernel_rfl) (fun _ _ _ h => h) (Or.inl ⟨by rfl, ?_⟩) ?_ ?_
     rotate_left
     ·intro w'
      go_simp
      with_reducible rfl
     rotate_left
     ·simp only [Act.put, List.setIfInBounds_toArray, List.set_cons_zero, List.set_cons_succ, i64_w, i32_w]
      rfl
     refine take_ (i := 0) (N := some 14) (v := ?_) (a' := ?_) #[true, true, false, false, false, false] rfl rfl (by kernel_rfl) (fun _ _ _ h => h) (Or.inl ⟨by rfl, ?_⟩) hHeld ?_ ?_
     rotate_left
     ·rintro w' ⟨s0, s1, s2, s3⟩
      go_simp
      with_reducible rfl
     rotate_left
     ·simp only [Act.put, List.setIfInBounds_toArray, List.set_cons_zero, List.set_cons_succ, i64_w, i32_w]
      rfl
     refine one_ (i := 2) (N := some 16) #[true, true, true, false, false, false] rfl rfl (by kernel_rfl) (by decide) (fun K hK => ?_)
     refine Kd.R_make_step (Kd.int .i64) _ 3 (by rfl) (N := 16) rfl 24 _ _ rfl t366 rfl rfl Try.underlying24 (.int .i64 0) 8 info3 rfl (by decide) (by omega) 0 (ok := fun _ => True) (okp := fun _ => True) rfl (fun _ hk => hk) trivial (of_decide_eq_true (by first | (with_reducible assumption) | assumption)) (Nat.le_trans (Nat.mul_le_mul_right _ (of_decide_eq_true (by first | (with_reducible assumption) | assumption) : t366.toNat ≤ 35184372088832)) (by omega)) (Below.refl _ _) (Nat.le_refl _) ?_
     intro v368 w24 ho25 hb hg_ hnew_
     clear hg_ hnew_
     (first | rw [← Ny367.out] at ho25 | (simp only [Int.reduceToNat] at ho25; rw [← Ny367.out] at ho25))
     have HO369 := Aside0.mk (Kd.R_lower ho25 (below_size (upB HB.out)))
     replace BK363 := Aside0.mk (blk_below (g := gb363) (o := .cells #[.int .i64 a0_0, .int .i64 a0_1, .int .i64 a0_2, .int .i64 a0_3] 23 (0, 0)) (upK BK363.out) hb)
     replace BK364 := Aside0.mk (blk_below (g := gb364) (o := .cells #[.int .i64 0, .int .i64 0, .int .i64 0, .int .i64 0, .slice none 0 0] 26 (0, 0)) (upK BK364.out) hb)
     replace HB := Aside0.mk (below_step (upB HB.out) hb)
     clear hb ho25
     obtain ⟨Ao26, co26, eo26⟩ := Kd.R_slice HO369.out
     (first | subst eo26 | (injection eo26 with f1_ f2_ f3_; have f4_ := f1_.symm; have f5_ := f3_.symm; clear f1_ f2_ f3_; subst f4_; subst f5_))
     refine hK.out _ _ ⟨bc BK363 0, bc BK363 1, bc BK363 2, bc BK363 3⟩ (fun hHeld => ?_)
     clear hK K
     refine noX ?_
     refine pure_ (i := 3) (N := some 17) (v := ?_) (a' := ?_) #[true, true, true, true, false, false] rfl rfl (by kernel_rfl) (fun _ _ _ h => h) (Or.inl ⟨by rfl, ?_⟩) ?_ ?_
     rotate_left
     ·intro w'
      go_simp
      with_reducible rfl
     rotate_left
     ·simp only [Act.put, List.setIfInBounds_toArray, List.set_cons_zero, List.set_cons_succ, i64_w, i32_w]
      rfl
     refine one_ (i := 4) (N := none) #[true, true, true, true, true, false] rfl rfl (by kernel_rfl) (by decide) (fun K hK => ?_)
     have hs27 : w24.cell? ⟨gb364, 0, none⟩ = some (.int .i64 0) := bc BK364 0
     have hfs27 := blk_frozen BK364.out 0
     have hns27_0 := NB363_364.out
     have hms27_0 := NB364_363.out
     have hs28 : w24.cell? ⟨gb364, 1, none⟩ = some (.int .i64 0) := bc BK364 1
     have hfs28 := blk_frozen BK364.out 1
     have hns28_0 := NB363_364.out
     have hms28_0 := NB364_363.out
     have hs29 : w24.cell? ⟨gb364, 2, none⟩ = some (.int .i64 0) := bc BK364 2
     have hfs29 := blk_frozen BK364.out 2
     have hns29_0 := NB363_364.out
     have hms29_0 := NB364_363.out
     have hs30 : w24.cell? ⟨gb364, 3, none⟩ = some (.int .i64 0) := bc BK364 3
     have hfs30 := blk_frozen BK364.out 3
     have hns30_0 := NB363_364.out
     have hms30_0 := NB364_363.out
     have hs31 : w24.cell? ⟨gb364, 4, none⟩ = some (.slice none 0 0) := bc BK364 4
     have hfs31 := blk_frozen BK364.out 4
     have hns31_0 := NB363_364.out
     have hms31_0 := NB364_363.out
     refine skip_ (w1 := ?_) (by rfl) rfl ?_ ?_
     rotate_left
     ·go_simp
      rfl
     refine hK.out _ _ ⟨((cell_far (p := ⟨gb364, _, none⟩) NB363_364.out _).trans (((cell_far (p := ⟨gb364, _, none⟩) NB363_364.out _).trans (((cell_far (p := ⟨gb364, _, none⟩) NB363_364.out _).trans (((cell_far (p := ⟨gb364, _, none⟩) NB363_364.out _).trans (((cell_far (p := ⟨gb364, _, none⟩) NB363_364.out _).trans (hHeld.1)))))))))), ((cell_far (p := ⟨gb364, _, none⟩) NB363_364.out _).trans (((cell_far (p := ⟨gb364, _, none⟩) NB363_364.out _).trans (((cell_far (p := ⟨gb364, _, none⟩) NB363_364.out _).trans (((cell_far (p := ⟨gb364, _, none⟩) NB363_364.out _).trans (((cell_far (p := ⟨gb364, _, none⟩) NB363_364.out _).trans (hHeld.2.1)))))))))), ((cell_far (p := ⟨gb364, _, none⟩) NB363_364.out _).trans (((cell_far (p := ⟨gb364, _, none⟩) NB363_364.out _).trans (((cell_far (p := ⟨gb364, _, none⟩) NB363_364.out _).trans (((cell_far (p := ⟨gb364, _, none⟩) NB363_364.out _).trans (((cell_far (p := ⟨gb364, _, none⟩) NB363_364.out _).trans (hHeld.2.2.1)))))))))), ((cell_far (p := ⟨gb364, _, none⟩) NB363_364.out _).trans (((cell_far (p := ⟨gb364, _, none⟩) NB363_364.out _).trans (((cell_far (p := ⟨gb364, _, none⟩) NB363_364.out _).trans (((cell_far (p := ⟨gb364, _, none⟩) NB363_364.out _).trans (((cell_far (p := ⟨gb364, _, none⟩) NB363_364.out _).trans (hHeld.2.2.2))))))))))⟩ (fun hHeld => ?_)
     clear hK K
     refine pure_ (i := 5) (N := some 3) (v := ?_) (a' := ?_) #[true, true, true, true, true, true] rfl rfl (by kernel_rfl) (fun _ _ _ h => h) (Or.inl ⟨by rfl, ?_⟩) ?_ ?_
     rotate_left
     ·intro w'
      go_simp
      with_reducible rfl
     rotate_left
     ·simp only [Act.put, List.setIfInBounds_toArray, List.set_cons_zero, List.set_cons_succ, i64_w, i32_w]
      rfl
     refine done_ (by kernel_rfl) ?_
     try go_wp2
     refine bodyPost_ret (results_ct rfl _ _ gb364 26 #[.int .i64 a0_0, .int .i64 a0_1, .int .i64 a0_2, .int .i64 a0_3, .slice Ao26 y367.length co26] (0, 0) _ rfl (by (with_reducible repeat (first | refine blk_drewN ?_ _ | refine blk_drew ?_ | refine blk_alloc ?_ _)); refine blk_put (cs := #[.int .i64 a0_0, .int .i64 a0_1, .int .i64 a0_2, .int .i64 a0_3, .slice none 0 0]) ?_ 4 _ rfl; (with_reducible repeat (first | refine blk_drewN ?_ _ | refine blk_drew ?_ | refine blk_alloc ?_ _)); refine blk_put (cs := #[.int .i64 a0_0, .int .i64 a0_1, .int .i64 a0_2, .int .i64 0, .slice none 0 0]) ?_ 3 _ rfl; (with_reducible repeat (first | refine blk_drewN ?_ _ | refine blk_drew ?_ | refine blk_alloc ?_ _)); refine blk_put (cs := #[.int .i64 a0_0, .int .i64 a0_1, .int .i64 0, .int .i64 0, .slice none 0 0]) ?_ 2 _ rfl; (with_reducible repeat (first | refine blk_drewN ?_ _ | refine blk_drew ?_ | refine blk_alloc ?_ _)); refine blk_put (cs := #[.int .i64 a0_0, .int .i64 0, .int .i64 0, .int .i64 0, .slice none 0 0]) ?_ 1 _ rfl; (with_reducible repeat (first | refine blk_drewN ?_ _ | refine blk_drew ?_ | refine blk_alloc ?_ _)); refine blk_put (cs := #[.int .i64 0, .int .i64 0, .int .i64 0, .int .i64 0, .slice none 0 0]) ?_ 0 _ rfl; (with_reducible repeat (first | refine blk_drewN ?_ _ | refine blk_drew ?_ | refine blk_alloc ?_ _)); exact BK364.out) Try.underlying26 rfl (by kernel_rfl)) rfl ?_
     exact ⟨_, by first | rfl | (simp [errW_none, errW_some] <;> rfl) | (simp [*, errW_none, errW_some] <;> rfl), by (with_reducible repeat (first | apply Kd.R_alloc | apply Kd.R_drewN | apply Kd.R_drew)); exact Kd.R_mono (Kd.R_far (p := ⟨gb364, 4, none⟩) (Kd.R_far (p := ⟨gb364, 3, none⟩) (Kd.R_far (p := ⟨gb364, 2, none⟩) (Kd.R_far (p := ⟨gb364, 1, none⟩) (Kd.R_far (p := ⟨gb364, 0, none⟩) (Kd.R_types HO369.out BK364.out (by decide)) (fun _ hk => hk.2) (.int .i64 a0_0)) (fun _ hk => hk.2) (.int .i64 a0_1)) (fun _ hk => hk.2) (.int .i64 a0_2)) (fun _ hk => hk.2) (.int .i64 a0_3)) (fun _ hk => hk.2) (.slice Ao26 y367.length co26)) (fun _ hk => trivial), by repeat (first | (with_reducible first | exact HB.out | apply below_alloc | apply pw_below_drewN | apply below_drew1 | refine below_set ?_ GE363.out | refine below_set ?_ GE364.out) | exact HB.out)⟩
    ·rw [if_neg c15] at H
     exact absurd H (by simp)
   ·rw [if_neg c14] at H
    exact absurd H (by simp)
 ·replace c3 := Bool.eq_false_iff.mpr c3
  subst c3
  have H1 : (some (0, 0, 0, 0, ([] : List Int), 2)) = some (r1, r2, r3, r4, r5, r6) := by rw [if_neg (show ¬ (false = true) by decide)] at H; exact H
  clear H
  have H := H1
  clear H1
  simp only [Option.some.injEq, Prod.mk.injEq] at H
  obtain ⟨rfl, rfl, rfl, rfl, rfl, rfl⟩ := H
  go_enter Try.func15, Try.ntmps15
  go_wp2_with (first | ((with_reducible refine gate_dst (N := 1) rfl ?_); refine box_event ?hg (N := 1) ?hd (cs := #[.int .i64 a0_0, .int .i64 a0_1, .int .i64 a0_2, .int .i64 a0_3]) (t := 23) ?hr ?_; (case hd => rfl); (case hg => rfl); (case hr => first | (go_simp; done) | (go_simp; rfl)); intro gb363 hg w32 hbox hb; have BK363 := Aside0.mk (hbox); have GW363 := Aside0.mk ((by rw [hg]; exact (below_size (upB HB.out)) : w.heap.size ≤ gb363)); have GE363 := Aside0.mk ((by rw [hg]; exact (below_size (upB HB.out)) : w.heap.size ≤ gb363)); replace HB := Aside0.mk (below_step (upB HB.out) hb); clear hb hbox hg) | ((with_reducible refine gate_dst (N := 2) rfl ?_); refine box_event ?hg (N := 2) ?hd (cs := #[.int .i64 0, .int .i64 0, .int .i64 0, .int .i64 0, .slice none 0 0]) (t := 26) ?hr ?_; (case hd => rfl); (case hg => rfl); (case hr => first | (go_simp; done) | (go_simp; rfl)); intro gb364 hg w33 hbox hb; have BK364 := Aside0.mk (hbox); have GW364 := Aside0.mk ((by rw [hg]; exact (below_size (upB HB.out)) : w.heap.size ≤ gb364)); have GE364 := Aside0.mk ((by rw [hg]; exact (below_size (upB HB.out)) : w.heap.size ≤ gb364)); replace HB := Aside0.mk (below_step (upB HB.out) hb); have NB363_364 := Aside0.mk ((by rw [hg]; exact Nat.ne_of_lt (blk_lt (g := gb363) (o := .cells #[.int .i64 a0_0, .int .i64 a0_1, .int .i64 a0_2, .int .i64 a0_3] 23 (0, 0)) (upK BK363.out)) : gb363 ≠ gb364)); have NB364_363 := Aside0.mk ((by rw [hg]; exact Nat.ne_of_gt (blk_lt (g := gb363) (o := .cells #[.int .i64 a0_0, .int .i64 a0_1, .int .i64 a0_2, .int .i64 a0_3] 23 (0, 0)) (upK BK363.out)) : gb364 ≠ gb363)); replace BK363 := Aside0.mk (blk_below (g := gb363) (o := .cells #[.int .i64 a0_0, .int .i64 a0_1, .int .i64 a0_2, .int .i64 a0_3] 23 (0, 0)) (upK BK363.out) hb); clear hb hbox hg; have hnb34 := NB363_364.out; have hnc34 := NB364_363.out; have hcz35_0 : w33.cell? ⟨gb363, 0, none⟩ = some (.int .i64 a0_0) := bc BK363 0; have hcz35_1 : w33.cell? ⟨gb363, 1, none⟩ = some (.int .i64 a0_1) := bc BK363 1; have hcz35_2 : w33.cell? ⟨gb363, 2, none⟩ = some (.int .i64 a0_2) := bc BK363 2; have hcz35_3 : w33.cell? ⟨gb363, 3, none⟩ = some (.int .i64 a0_3) := bc BK363 3; have hfz35_0 := blk_frozen BK363.out 0; have hfz35_1 := blk_frozen BK363.out 1; have hfz35_2 := blk_frozen BK363.out 2; have hfz35_3 := blk_frozen BK363.out 3) | ((with_reducible refine gate_callee (f := 40) rfl ?_); refine goesL_ (some 6) rfl rfl Try.func40 (by kernel_rfl) rfl #[.agg #[.int .i64 a0_0, .int .i64 a0_1, .int .i64 a0_2, .int .i64 a0_3]] rfl upL ?_; (with_reducible refine (waveletref01_Valid.calls a0_0 a0_1 a0_2 a0_3 false _ A2.out).mono ?_); rintro e w36 ⟨rfl, hb⟩; refine ⟨_, rfl, ?_⟩; replace BK363 := Aside0.mk (blk_below (g := gb363) (o := .cells #[.int .i64 a0_0, .int .i64 a0_1, .int .i64 a0_2, .int .i64 a0_3] 23 (0, 0)) (upK BK363.out) hb); replace BK364 := Aside0.mk (blk_below (g := gb364) (o := .cells #[.int .i64 0, .int .i64 0, .int .i64 0, .int .i64 0, .slice none 0 0] 26 (0, 0)) (upK BK364.out) hb); replace HB := Aside0.mk (below_step (upB HB.out) hb); (try clear hb; try clear hb2; try clear hk; try clear hi); have hcz37_0 : w36.cell? ⟨gb364, 0, none⟩ = some (.int .i64 0) := bc BK364 0; have hcz37_1 : w36.cell? ⟨gb364, 1, none⟩ = some (.int .i64 0) := bc BK364 1; have hcz37_2 : w36.cell? ⟨gb364, 2, none⟩ = some (.int .i64 0) := bc BK364 2; have hcz37_3 : w36.cell? ⟨gb364, 3, none⟩ = some (.int .i64 0) := bc BK364 3; have hcz37_4 : w36.cell? ⟨gb364, 4, none⟩ = some (.slice none 0 0) := bc BK364 4; have hfz37_0 := blk_frozen BK364.out 0; have hfz37_1 := blk_frozen BK364.out 1; have hfz37_2 := blk_frozen BK364.out 2; have hfz37_3 := blk_frozen BK364.out 3; have hfz37_4 := blk_frozen BK364.out 4))
  refine bodyPost_ret (results_ct rfl _ _ gb364 26 #[.int .i64 0, .int .i64 0, .int .i64 0, .int .i64 0, .slice none 0 0] (0, 0) _ rfl (by (with_reducible repeat (first | refine blk_drewN ?_ _ | refine blk_drew ?_ | refine blk_alloc ?_ _)); refine blk_put (cs := #[.int .i64 0, .int .i64 0, .int .i64 0, .int .i64 0, .slice none 0 0]) ?_ 4 _ rfl; (with_reducible repeat (first | refine blk_drewN ?_ _ | refine blk_drew ?_ | refine blk_alloc ?_ _)); refine blk_put (cs := #[.int .i64 0, .int .i64 0, .int .i64 0, .int .i64 0, .slice none 0 0]) ?_ 3 _ rfl; (with_reducible repeat (first | refine blk_drewN ?_ _ | refine blk_drew ?_ | refine blk_alloc ?_ _)); refine blk_put (cs := #[.int .i64 0, .int .i64 0, .int .i64 0, .int .i64 0, .slice none 0 0]) ?_ 2 _ rfl; (with_reducible repeat (first | refine blk_drewN ?_ _ | refine blk_drew ?_ | refine blk_alloc ?_ _)); refine blk_put (cs := #[.int .i64 0, .int .i64 0, .int .i64 0, .int .i64 0, .slice none 0 0]) ?_ 1 _ rfl; (with_reducible repeat (first | refine blk_drewN ?_ _ | refine blk_drew ?_ | refine blk_alloc ?_ _)); refine blk_put (cs := #[.int .i64 0, .int .i64 0, .int .i64 0, .int .i64 0, .slice none 0 0]) ?_ 0 _ rfl; (with_reducible repeat (first | refine blk_drewN ?_ _ | refine blk_drew ?_ | refine blk_alloc ?_ _)); exact BK364.out) Try.underlying26 rfl (by kernel_rfl)) rfl ?_
  exact ⟨_, by first | rfl | (simp [errW_none, errW_some] <;> rfl) | (simp [*, errW_none, errW_some] <;> rfl), by first | exact Kd.R_nil _ _ _ _ _ | exact Kd.N_nil _ _ _ _ _ | exact Kd.V_nil _ _ _ _ _ | exact Kd.Q_nil _ _ _ _ _ | exact Kd.S_nil _ _ _ _ _, by repeat (first | (with_reducible first | exact HB.out | apply below_alloc | apply pw_below_drewN | apply below_drew1 | refine below_set ?_ GE363.out | refine below_set ?_ GE364.out) | exact HB.out)⟩

end Go.Proofs.Ythemchggmlpdhaa.Q
