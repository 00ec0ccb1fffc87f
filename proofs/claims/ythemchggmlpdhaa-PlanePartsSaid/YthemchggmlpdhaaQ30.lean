-- By a program of this session (wip/tools/mk.py), out of the kit's print of the translation; Lean checks it.
import Derived.Test.YthemchggmlpdhaaShort
import Derived.Test.YthemchggmlpdhaaUp2
import Derived.Test.YthemchggmlpdhaaUp
import Derived.Test.YthemchggmlpdhaaQ0
namespace Go.Proofs.Ythemchggmlpdhaa.Q
open Go.RowKit Go.Proofs.YthemchggmlpdhaaW.PrintWords Go.Proofs.YthemchggmlpdhaaW.PrintLast Go.Proofs.YthemchggmlpdhaaW.PrintMore
attribute [local go_sem] max2_int min2_int max_two min_two max_three min_three max_four min_four   -- for this text's walks alone
set_option linter.unusedVariables false
set_option linter.unusedSimpArgs false

/-! ### waveletref01_Has: function 44 -/
def waveletref01_Has.f (a0_0 : Int) (a0_1 : Int) (a0_2 : Int) (a0_3 : Int) (a1_0 : Int) (a1_1 : Int) : Option (Bool) := if a0_0 ≤ a1_0 then (if a1_0 < a0_2 then (if a0_1 ≤ a1_1 then (some (decide (a1_1 < a0_3))) else (some false)) else (some false)) else (some false)
set_option maxHeartbeats 8000000 in
set_option maxRecDepth 100000 in
theorem waveletref01_Has.calls (a0_0 : Int) (a0_1 : Int) (a0_2 : Int) (a0_3 : Int) (a1_0 : Int) (a1_1 : Int) (r : Bool) (w : World) (h : waveletref01_Has.f a0_0 a0_1 a0_2 a0_3 a1_0 a1_1 = some r) :
  Calls Try.prog 44 #[.agg #[.int .i64 a0_0, .int .i64 a0_1, .int .i64 a0_2, .int .i64 a0_3], .agg #[.int .i64 a1_0, .int .i64 a1_1]] w fun e w' => e = .returned (.bool r) ∧ Below w.heap.size w w' := by
 have hu23 := Try.underlying23
 have hu53 := Try.underlying53
 have HB := AS (Below.refl w.heap.size w)
 have H : (if a0_0 ≤ a1_0 then (if a1_0 < a0_2 then (if a0_1 ≤ a1_1 then (some (decide (a1_1 < a0_3))) else (some false)) else (some false)) else (some false)) = some r := h
 clear h
 by_cases c3 : a0_0 ≤ a1_0
 ·rw [if_pos c3] at H
  have c3b0 : decide (a0_0 ≤ a1_0) = true := decide_eq_true c3
  clear c3
  by_cases c4 : a1_0 < a0_2
  ·rw [if_pos c4] at H
   have c4b0 : decide (a1_0 < a0_2) = true := decide_eq_true c4
   clear c4
   by_cases c5 : a0_1 ≤ a1_1
   ·rw [if_pos c5] at H
    have c5b0 : decide (a0_1 ≤ a1_1) = true := decide_eq_true c5
    clear c5
    obtain rfl := Option.some.inj H
    go_enter Try.func44, Try.ntmps44
    go_wp2_with (first | ((with_reducible refine gate_dst (N := 2) rfl ?_); refine box_event ?hg (N := 2) ?hd (cs := #[.int .i64 a0_0, .int .i64 a0_1, .int .i64 a0_2, .int .i64 a0_3]) (t := 23) ?hr ?_; (case hd => rfl); (case hg => rfl); (case hr => first | (go_simp; done) | (go_simp; rfl)); intro gb399 hg w6 hbox hb; have BK399 := AS (hbox); have GW399 := AS ((by rw [hg]; exact (below_size (upB HB.out)) : w.heap.size ≤ gb399)); have GE399 := AS ((by rw [hg]; exact (below_size (upB HB.out)) : w.heap.size ≤ gb399)); replace HB := AS (below_step (upB HB.out) hb); clear hb hbox hg) | ((with_reducible refine gate_dst (N := 3) rfl ?_); refine box_event ?hg (N := 3) ?hd (cs := #[.int .i64 a1_0, .int .i64 a1_1]) (t := 53) ?hr ?_; (case hd => rfl); (case hg => rfl); (case hr => first | (go_simp; done) | (go_simp; rfl)); intro gb400 hg w7 hbox hb; have BK400 := AS (hbox); have GW400 := AS ((by rw [hg]; exact (below_size (upB HB.out)) : w.heap.size ≤ gb400)); have GE400 := AS ((by rw [hg]; exact (below_size (upB HB.out)) : w.heap.size ≤ gb400)); replace HB := AS (below_step (upB HB.out) hb); have NB399_400 := AS ((by rw [hg]; exact Nat.ne_of_lt (blk_lt (upK BK399.out)) : gb399 ≠ gb400)); have NB400_399 := AS ((by rw [hg]; exact Nat.ne_of_gt (blk_lt (upK BK399.out)) : gb400 ≠ gb399)); replace BK399 := AS (blk_below (g := gb399) (o := .cells #[.int .i64 a0_0, .int .i64 a0_1, .int .i64 a0_2, .int .i64 a0_3] 23) (upK BK399.out) hb); clear hb hbox hg; have hnb8 := NB399_400.out; have hnc8 := NB400_399.out; have hcz9_0 : w7.cell? ⟨gb399, 0, none⟩ = some (.int .i64 a0_0) := bc BK399 0; have hcz9_1 : w7.cell? ⟨gb399, 1, none⟩ = some (.int .i64 a0_1) := bc BK399 1; have hcz9_2 : w7.cell? ⟨gb399, 2, none⟩ = some (.int .i64 a0_2) := bc BK399 2; have hcz9_3 : w7.cell? ⟨gb399, 3, none⟩ = some (.int .i64 a0_3) := bc BK399 3; have hfz9_0 := blk_frozen BK399.out 0; have hfz9_1 := blk_frozen BK399.out 1; have hfz9_2 := blk_frozen BK399.out 2; have hfz9_3 := blk_frozen BK399.out 3; have hcz10_0 : w7.cell? ⟨gb400, 0, none⟩ = some (.int .i64 a1_0) := bc BK400 0; have hcz10_1 : w7.cell? ⟨gb400, 1, none⟩ = some (.int .i64 a1_1) := bc BK400 1; have hfz10_0 := blk_frozen BK400.out 0; have hfz10_1 := blk_frozen BK400.out 1))
    go_ret
    exact ⟨by first | rfl | (simp [errW_none, errW_some] <;> rfl) | (simp [*, errW_none, errW_some] <;> rfl), by repeat (first | (with_reducible first | exact HB.out | apply below_alloc | apply pw_below_drewN | apply below_drew1 | refine below_set ?_ GE399.out | refine below_set ?_ GE400.out) | exact HB.out)⟩
   ·rw [if_neg c5] at H
    have c5b0 : decide (a0_1 ≤ a1_1) = false := decide_eq_false c5
    clear c5
    obtain rfl := Option.some.inj H
    go_enter Try.func44, Try.ntmps44
    go_wp2_with (first | ((with_reducible refine gate_dst (N := 2) rfl ?_); refine box_event ?hg (N := 2) ?hd (cs := #[.int .i64 a0_0, .int .i64 a0_1, .int .i64 a0_2, .int .i64 a0_3]) (t := 23) ?hr ?_; (case hd => rfl); (case hg => rfl); (case hr => first | (go_simp; done) | (go_simp; rfl)); intro gb399 hg w11 hbox hb; have BK399 := AS (hbox); have GW399 := AS ((by rw [hg]; exact (below_size (upB HB.out)) : w.heap.size ≤ gb399)); have GE399 := AS ((by rw [hg]; exact (below_size (upB HB.out)) : w.heap.size ≤ gb399)); replace HB := AS (below_step (upB HB.out) hb); clear hb hbox hg) | ((with_reducible refine gate_dst (N := 3) rfl ?_); refine box_event ?hg (N := 3) ?hd (cs := #[.int .i64 a1_0, .int .i64 a1_1]) (t := 53) ?hr ?_; (case hd => rfl); (case hg => rfl); (case hr => first | (go_simp; done) | (go_simp; rfl)); intro gb400 hg w12 hbox hb; have BK400 := AS (hbox); have GW400 := AS ((by rw [hg]; exact (below_size (upB HB.out)) : w.heap.size ≤ gb400)); have GE400 := AS ((by rw [hg]; exact (below_size (upB HB.out)) : w.heap.size ≤ gb400)); replace HB := AS (below_step (upB HB.out) hb); have NB399_400 := AS ((by rw [hg]; exact Nat.ne_of_lt (blk_lt (upK BK399.out)) : gb399 ≠ gb400)); have NB400_399 := AS ((by rw [hg]; exact Nat.ne_of_gt (blk_lt (upK BK399.out)) : gb400 ≠ gb399)); replace BK399 := AS (blk_below (g := gb399) (o := .cells #[.int .i64 a0_0, .int .i64 a0_1, .int .i64 a0_2, .int .i64 a0_3] 23) (upK BK399.out) hb); clear hb hbox hg; have hnb13 := NB399_400.out; have hnc13 := NB400_399.out; have hcz14_0 : w12.cell? ⟨gb399, 0, none⟩ = some (.int .i64 a0_0) := bc BK399 0; have hcz14_1 : w12.cell? ⟨gb399, 1, none⟩ = some (.int .i64 a0_1) := bc BK399 1; have hcz14_2 : w12.cell? ⟨gb399, 2, none⟩ = some (.int .i64 a0_2) := bc BK399 2; have hcz14_3 : w12.cell? ⟨gb399, 3, none⟩ = some (.int .i64 a0_3) := bc BK399 3; have hfz14_0 := blk_frozen BK399.out 0; have hfz14_1 := blk_frozen BK399.out 1; have hfz14_2 := blk_frozen BK399.out 2; have hfz14_3 := blk_frozen BK399.out 3; have hcz15_0 : w12.cell? ⟨gb400, 0, none⟩ = some (.int .i64 a1_0) := bc BK400 0; have hcz15_1 : w12.cell? ⟨gb400, 1, none⟩ = some (.int .i64 a1_1) := bc BK400 1; have hfz15_0 := blk_frozen BK400.out 0; have hfz15_1 := blk_frozen BK400.out 1))
    go_ret
    exact ⟨by first | rfl | (simp [errW_none, errW_some] <;> rfl) | (simp [*, errW_none, errW_some] <;> rfl), by repeat (first | (with_reducible first | exact HB.out | apply below_alloc | apply pw_below_drewN | apply below_drew1 | refine below_set ?_ GE399.out | refine below_set ?_ GE400.out) | exact HB.out)⟩
  ·rw [if_neg c4] at H
   have c4b0 : decide (a1_0 < a0_2) = false := decide_eq_false c4
   clear c4
   obtain rfl := Option.some.inj H
   go_enter Try.func44, Try.ntmps44
   go_wp2_with (first | ((with_reducible refine gate_dst (N := 2) rfl ?_); refine box_event ?hg (N := 2) ?hd (cs := #[.int .i64 a0_0, .int .i64 a0_1, .int .i64 a0_2, .int .i64 a0_3]) (t := 23) ?hr ?_; (case hd => rfl); (case hg => rfl); (case hr => first | (go_simp; done) | (go_simp; rfl)); intro gb399 hg w16 hbox hb; have BK399 := AS (hbox); have GW399 := AS ((by rw [hg]; exact (below_size (upB HB.out)) : w.heap.size ≤ gb399)); have GE399 := AS ((by rw [hg]; exact (below_size (upB HB.out)) : w.heap.size ≤ gb399)); replace HB := AS (below_step (upB HB.out) hb); clear hb hbox hg) | ((with_reducible refine gate_dst (N := 3) rfl ?_); refine box_event ?hg (N := 3) ?hd (cs := #[.int .i64 a1_0, .int .i64 a1_1]) (t := 53) ?hr ?_; (case hd => rfl); (case hg => rfl); (case hr => first | (go_simp; done) | (go_simp; rfl)); intro gb400 hg w17 hbox hb; have BK400 := AS (hbox); have GW400 := AS ((by rw [hg]; exact (below_size (upB HB.out)) : w.heap.size ≤ gb400)); have GE400 := AS ((by rw [hg]; exact (below_size (upB HB.out)) : w.heap.size ≤ gb400)); replace HB := AS (below_step (upB HB.out) hb); have NB399_400 := AS ((by rw [hg]; exact Nat.ne_of_lt (blk_lt (upK BK399.out)) : gb399 ≠ gb400)); have NB400_399 := AS ((by rw [hg]; exact Nat.ne_of_gt (blk_lt (upK BK399.out)) : gb400 ≠ gb399)); replace BK399 := AS (blk_below (g := gb399) (o := .cells #[.int .i64 a0_0, .int .i64 a0_1, .int .i64 a0_2, .int .i64 a0_3] 23) (upK BK399.out) hb); clear hb hbox hg; have hnb18 := NB399_400.out; have hnc18 := NB400_399.out; have hcz19_0 : w17.cell? ⟨gb399, 0, none⟩ = some (.int .i64 a0_0) := bc BK399 0; have hcz19_1 : w17.cell? ⟨gb399, 1, none⟩ = some (.int .i64 a0_1) := bc BK399 1; have hcz19_2 : w17.cell? ⟨gb399, 2, none⟩ = some (.int .i64 a0_2) := bc BK399 2; have hcz19_3 : w17.cell? ⟨gb399, 3, none⟩ = some (.int .i64 a0_3) := bc BK399 3; have hfz19_0 := blk_frozen BK399.out 0; have hfz19_1 := blk_frozen BK399.out 1; have hfz19_2 := blk_frozen BK399.out 2; have hfz19_3 := blk_frozen BK399.out 3; have hcz20_0 : w17.cell? ⟨gb400, 0, none⟩ = some (.int .i64 a1_0) := bc BK400 0; have hcz20_1 : w17.cell? ⟨gb400, 1, none⟩ = some (.int .i64 a1_1) := bc BK400 1; have hfz20_0 := blk_frozen BK400.out 0; have hfz20_1 := blk_frozen BK400.out 1))
   go_ret
   exact ⟨by first | rfl | (simp [errW_none, errW_some] <;> rfl) | (simp [*, errW_none, errW_some] <;> rfl), by repeat (first | (with_reducible first | exact HB.out | apply below_alloc | apply pw_below_drewN | apply below_drew1 | refine below_set ?_ GE399.out | refine below_set ?_ GE400.out) | exact HB.out)⟩
 ·rw [if_neg c3] at H
  have c3b0 : decide (a0_0 ≤ a1_0) = false := decide_eq_false c3
  clear c3
  obtain rfl := Option.some.inj H
  go_enter Try.func44, Try.ntmps44
  go_wp2_with (first | ((with_reducible refine gate_dst (N := 2) rfl ?_); refine box_event ?hg (N := 2) ?hd (cs := #[.int .i64 a0_0, .int .i64 a0_1, .int .i64 a0_2, .int .i64 a0_3]) (t := 23) ?hr ?_; (case hd => rfl); (case hg => rfl); (case hr => first | (go_simp; done) | (go_simp; rfl)); intro gb399 hg w21 hbox hb; have BK399 := AS (hbox); have GW399 := AS ((by rw [hg]; exact (below_size (upB HB.out)) : w.heap.size ≤ gb399)); have GE399 := AS ((by rw [hg]; exact (below_size (upB HB.out)) : w.heap.size ≤ gb399)); replace HB := AS (below_step (upB HB.out) hb); clear hb hbox hg) | ((with_reducible refine gate_dst (N := 3) rfl ?_); refine box_event ?hg (N := 3) ?hd (cs := #[.int .i64 a1_0, .int .i64 a1_1]) (t := 53) ?hr ?_; (case hd => rfl); (case hg => rfl); (case hr => first | (go_simp; done) | (go_simp; rfl)); intro gb400 hg w22 hbox hb; have BK400 := AS (hbox); have GW400 := AS ((by rw [hg]; exact (below_size (upB HB.out)) : w.heap.size ≤ gb400)); have GE400 := AS ((by rw [hg]; exact (below_size (upB HB.out)) : w.heap.size ≤ gb400)); replace HB := AS (below_step (upB HB.out) hb); have NB399_400 := AS ((by rw [hg]; exact Nat.ne_of_lt (blk_lt (upK BK399.out)) : gb399 ≠ gb400)); have NB400_399 := AS ((by rw [hg]; exact Nat.ne_of_gt (blk_lt (upK BK399.out)) : gb400 ≠ gb399)); replace BK399 := AS (blk_below (g := gb399) (o := .cells #[.int .i64 a0_0, .int .i64 a0_1, .int .i64 a0_2, .int .i64 a0_3] 23) (upK BK399.out) hb); clear hb hbox hg; have hnb23 := NB399_400.out; have hnc23 := NB400_399.out; have hcz24_0 : w22.cell? ⟨gb399, 0, none⟩ = some (.int .i64 a0_0) := bc BK399 0; have hcz24_1 : w22.cell? ⟨gb399, 1, none⟩ = some (.int .i64 a0_1) := bc BK399 1; have hcz24_2 : w22.cell? ⟨gb399, 2, none⟩ = some (.int .i64 a0_2) := bc BK399 2; have hcz24_3 : w22.cell? ⟨gb399, 3, none⟩ = some (.int .i64 a0_3) := bc BK399 3; have hfz24_0 := blk_frozen BK399.out 0; have hfz24_1 := blk_frozen BK399.out 1; have hfz24_2 := blk_frozen BK399.out 2; have hfz24_3 := blk_frozen BK399.out 3; have hcz25_0 : w22.cell? ⟨gb400, 0, none⟩ = some (.int .i64 a1_0) := bc BK400 0; have hcz25_1 : w22.cell? ⟨gb400, 1, none⟩ = some (.int .i64 a1_1) := bc BK400 1; have hfz25_0 := blk_frozen BK400.out 0; have hfz25_1 := blk_frozen BK400.out 1))
  go_ret
  exact ⟨by first | rfl | (simp [errW_none, errW_some] <;> rfl) | (simp [*, errW_none, errW_some] <;> rfl), by repeat (first | (with_reducible first | exact HB.out | apply below_alloc | apply pw_below_drewN | apply below_drew1 | refine below_set ?_ GE399.out | refine below_set ?_ GE400.out) | exact HB.out)⟩

end Go.Proofs.Ythemchggmlpdhaa.Q
