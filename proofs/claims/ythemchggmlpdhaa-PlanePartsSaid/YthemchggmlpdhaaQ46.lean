-- By a program of this session (wip/tools/mk.py), out of the kit's print of the translation; Lean checks it.
import Derived.Test.YthemchggmlpdhaaShort
import Derived.Test.YthemchggmlpdhaaUp2
import Derived.Test.YthemchggmlpdhaaUp
import Derived.Test.YthemchggmlpdhaaQ0
import Derived.Test.YthemchggmlpdhaaQ5
namespace Go.Proofs.Ythemchggmlpdhaa.Q
open Go.RowKit Go.Proofs.YthemchggmlpdhaaW.PrintWords Go.Proofs.YthemchggmlpdhaaW.PrintLast Go.Proofs.YthemchggmlpdhaaW.PrintMore
attribute [local go_sem] max2_int min2_int max_two min_two max_three min_three max_four min_four   -- for this text's walks alone
set_option linter.unusedVariables false
set_option linter.unusedSimpArgs false

/-! ### waveletref01_Small: function 50 -/
def waveletref01_Small.f (a0_0 : Int) (a0_1 : Int) (a0_2 : Int) (a0_3 : Int) : Option (Bool) := (waveletref01_Valid.f a0_0 a0_1 a0_2 a0_3).bind fun t581 => (if t581 = true then (if (wrap64 (a0_2 - a0_0)) ≤ 20 then (some (decide ((wrap64 (a0_3 - a0_1)) ≤ 20))) else (some false)) else (some false))
set_option maxHeartbeats 8000000 in
set_option maxRecDepth 100000 in
theorem waveletref01_Small.calls (a0_0 : Int) (a0_1 : Int) (a0_2 : Int) (a0_3 : Int) (r : Bool) (w : World) (h : waveletref01_Small.f a0_0 a0_1 a0_2 a0_3 = some r) :
  Calls Try.prog 50 #[.agg #[.int .i64 a0_0, .int .i64 a0_1, .int .i64 a0_2, .int .i64 a0_3]] w fun e w' => e = .returned (.bool r) ∧ Below w.heap.size w w' := by
 have hu23 := Try.underlying23
 have HB := AS (Below.refl w.heap.size w)
 have H : ((waveletref01_Valid.f a0_0 a0_1 a0_2 a0_3).bind fun t581 => (if t581 = true then (if (wrap64 (a0_2 - a0_0)) ≤ 20 then (some (decide ((wrap64 (a0_3 - a0_1)) ≤ 20))) else (some false)) else (some false))) = some r := h
 clear h
 replace H := Option.bind_eq_some_iff.mp H
 obtain ⟨t581, A20, H⟩ := H
 replace H : (if t581 = true then (if (wrap64 (a0_2 - a0_0)) ≤ 20 then (some (decide ((wrap64 (a0_3 - a0_1)) ≤ 20))) else (some false)) else (some false)) = some r := H
 have A2 := AS A20
 clear A20
 by_cases c3 : t581 = true
 ·subst c3
  rw [if_pos rfl] at H
  by_cases c4 : (wrap64 (a0_2 - a0_0)) ≤ 20
  ·rw [if_pos c4] at H
   have c4b0 : decide ((wrap64 (a0_2 - a0_0)) ≤ 20) = true := decide_eq_true c4
   clear c4
   obtain rfl := Option.some.inj H
   go_enter Try.func50, Try.ntmps50
   go_wp2_with (first | ((with_reducible refine gate_dst (N := 1) rfl ?_); refine box_event ?hg (N := 1) ?hd (cs := #[.int .i64 a0_0, .int .i64 a0_1, .int .i64 a0_2, .int .i64 a0_3]) (t := 23) ?hr ?_; (case hd => rfl); (case hg => rfl); (case hr => first | (go_simp; done) | (go_simp; rfl)); intro gb580 hg w5 hbox hb; have BK580 := AS (hbox); have GW580 := AS ((by rw [hg]; exact (below_size (upB HB.out)) : w.heap.size ≤ gb580)); have GE580 := AS ((by rw [hg]; exact (below_size (upB HB.out)) : w.heap.size ≤ gb580)); replace HB := AS (below_step (upB HB.out) hb); clear hb hbox hg; have hcz6_0 : w5.cell? ⟨gb580, 0, none⟩ = some (.int .i64 a0_0) := bc BK580 0; have hcz6_1 : w5.cell? ⟨gb580, 1, none⟩ = some (.int .i64 a0_1) := bc BK580 1; have hcz6_2 : w5.cell? ⟨gb580, 2, none⟩ = some (.int .i64 a0_2) := bc BK580 2; have hcz6_3 : w5.cell? ⟨gb580, 3, none⟩ = some (.int .i64 a0_3) := bc BK580 3; have hfz6_0 := blk_frozen BK580.out 0; have hfz6_1 := blk_frozen BK580.out 1; have hfz6_2 := blk_frozen BK580.out 2; have hfz6_3 := blk_frozen BK580.out 3) | ((with_reducible refine gate_callee (f := 40) rfl ?_); refine goesL_ (some 4) rfl rfl Try.func40 (by kernel_rfl) rfl #[.agg #[.int .i64 a0_0, .int .i64 a0_1, .int .i64 a0_2, .int .i64 a0_3]] rfl upL ?_; (with_reducible refine (waveletref01_Valid.calls a0_0 a0_1 a0_2 a0_3 true _ A2.out).mono ?_); rintro e w7 ⟨rfl, hb⟩; refine ⟨_, rfl, ?_⟩; replace BK580 := AS (blk_below (g := gb580) (o := .cells #[.int .i64 a0_0, .int .i64 a0_1, .int .i64 a0_2, .int .i64 a0_3] 23) (upK BK580.out) hb); replace HB := AS (below_step (upB HB.out) hb); (try clear hb; try clear hb2; try clear hk; try clear hi); have hcz8_0 : w7.cell? ⟨gb580, 0, none⟩ = some (.int .i64 a0_0) := bc BK580 0; have hcz8_1 : w7.cell? ⟨gb580, 1, none⟩ = some (.int .i64 a0_1) := bc BK580 1; have hcz8_2 : w7.cell? ⟨gb580, 2, none⟩ = some (.int .i64 a0_2) := bc BK580 2; have hcz8_3 : w7.cell? ⟨gb580, 3, none⟩ = some (.int .i64 a0_3) := bc BK580 3; have hfz8_0 := blk_frozen BK580.out 0; have hfz8_1 := blk_frozen BK580.out 1; have hfz8_2 := blk_frozen BK580.out 2; have hfz8_3 := blk_frozen BK580.out 3))
   go_ret
   exact ⟨by first | rfl | (simp [errW_none, errW_some] <;> rfl) | (simp [*, errW_none, errW_some] <;> rfl), by repeat (first | (with_reducible first | exact HB.out | apply below_alloc | apply pw_below_drewN | apply below_drew1 | refine below_set ?_ GE580.out) | exact HB.out)⟩
  ·rw [if_neg c4] at H
   have c4b0 : decide ((wrap64 (a0_2 - a0_0)) ≤ 20) = false := decide_eq_false c4
   clear c4
   obtain rfl := Option.some.inj H
   go_enter Try.func50, Try.ntmps50
   go_wp2_with (first | ((with_reducible refine gate_dst (N := 1) rfl ?_); refine box_event ?hg (N := 1) ?hd (cs := #[.int .i64 a0_0, .int .i64 a0_1, .int .i64 a0_2, .int .i64 a0_3]) (t := 23) ?hr ?_; (case hd => rfl); (case hg => rfl); (case hr => first | (go_simp; done) | (go_simp; rfl)); intro gb580 hg w9 hbox hb; have BK580 := AS (hbox); have GW580 := AS ((by rw [hg]; exact (below_size (upB HB.out)) : w.heap.size ≤ gb580)); have GE580 := AS ((by rw [hg]; exact (below_size (upB HB.out)) : w.heap.size ≤ gb580)); replace HB := AS (below_step (upB HB.out) hb); clear hb hbox hg; have hcz10_0 : w9.cell? ⟨gb580, 0, none⟩ = some (.int .i64 a0_0) := bc BK580 0; have hcz10_1 : w9.cell? ⟨gb580, 1, none⟩ = some (.int .i64 a0_1) := bc BK580 1; have hcz10_2 : w9.cell? ⟨gb580, 2, none⟩ = some (.int .i64 a0_2) := bc BK580 2; have hcz10_3 : w9.cell? ⟨gb580, 3, none⟩ = some (.int .i64 a0_3) := bc BK580 3; have hfz10_0 := blk_frozen BK580.out 0; have hfz10_1 := blk_frozen BK580.out 1; have hfz10_2 := blk_frozen BK580.out 2; have hfz10_3 := blk_frozen BK580.out 3) | ((with_reducible refine gate_callee (f := 40) rfl ?_); refine goesL_ (some 4) rfl rfl Try.func40 (by kernel_rfl) rfl #[.agg #[.int .i64 a0_0, .int .i64 a0_1, .int .i64 a0_2, .int .i64 a0_3]] rfl upL ?_; (with_reducible refine (waveletref01_Valid.calls a0_0 a0_1 a0_2 a0_3 true _ A2.out).mono ?_); rintro e w11 ⟨rfl, hb⟩; refine ⟨_, rfl, ?_⟩; replace BK580 := AS (blk_below (g := gb580) (o := .cells #[.int .i64 a0_0, .int .i64 a0_1, .int .i64 a0_2, .int .i64 a0_3] 23) (upK BK580.out) hb); replace HB := AS (below_step (upB HB.out) hb); (try clear hb; try clear hb2; try clear hk; try clear hi); have hcz12_0 : w11.cell? ⟨gb580, 0, none⟩ = some (.int .i64 a0_0) := bc BK580 0; have hcz12_1 : w11.cell? ⟨gb580, 1, none⟩ = some (.int .i64 a0_1) := bc BK580 1; have hcz12_2 : w11.cell? ⟨gb580, 2, none⟩ = some (.int .i64 a0_2) := bc BK580 2; have hcz12_3 : w11.cell? ⟨gb580, 3, none⟩ = some (.int .i64 a0_3) := bc BK580 3; have hfz12_0 := blk_frozen BK580.out 0; have hfz12_1 := blk_frozen BK580.out 1; have hfz12_2 := blk_frozen BK580.out 2; have hfz12_3 := blk_frozen BK580.out 3))
   go_ret
   exact ⟨by first | rfl | (simp [errW_none, errW_some] <;> rfl) | (simp [*, errW_none, errW_some] <;> rfl), by repeat (first | (with_reducible first | exact HB.out | apply below_alloc | apply pw_below_drewN | apply below_drew1 | refine below_set ?_ GE580.out) | exact HB.out)⟩
 ·replace c3 := Bool.eq_false_iff.mpr c3
  subst c3
  rw [if_neg (show ¬ (false = true) by decide)] at H
  obtain rfl := Option.some.inj H
  go_enter Try.func50, Try.ntmps50
  go_wp2_with (first | ((with_reducible refine gate_dst (N := 1) rfl ?_); refine box_event ?hg (N := 1) ?hd (cs := #[.int .i64 a0_0, .int .i64 a0_1, .int .i64 a0_2, .int .i64 a0_3]) (t := 23) ?hr ?_; (case hd => rfl); (case hg => rfl); (case hr => first | (go_simp; done) | (go_simp; rfl)); intro gb580 hg w13 hbox hb; have BK580 := AS (hbox); have GW580 := AS ((by rw [hg]; exact (below_size (upB HB.out)) : w.heap.size ≤ gb580)); have GE580 := AS ((by rw [hg]; exact (below_size (upB HB.out)) : w.heap.size ≤ gb580)); replace HB := AS (below_step (upB HB.out) hb); clear hb hbox hg; have hcz14_0 : w13.cell? ⟨gb580, 0, none⟩ = some (.int .i64 a0_0) := bc BK580 0; have hcz14_1 : w13.cell? ⟨gb580, 1, none⟩ = some (.int .i64 a0_1) := bc BK580 1; have hcz14_2 : w13.cell? ⟨gb580, 2, none⟩ = some (.int .i64 a0_2) := bc BK580 2; have hcz14_3 : w13.cell? ⟨gb580, 3, none⟩ = some (.int .i64 a0_3) := bc BK580 3; have hfz14_0 := blk_frozen BK580.out 0; have hfz14_1 := blk_frozen BK580.out 1; have hfz14_2 := blk_frozen BK580.out 2; have hfz14_3 := blk_frozen BK580.out 3) | ((with_reducible refine gate_callee (f := 40) rfl ?_); refine goesL_ (some 4) rfl rfl Try.func40 (by kernel_rfl) rfl #[.agg #[.int .i64 a0_0, .int .i64 a0_1, .int .i64 a0_2, .int .i64 a0_3]] rfl upL ?_; (with_reducible refine (waveletref01_Valid.calls a0_0 a0_1 a0_2 a0_3 false _ A2.out).mono ?_); rintro e w15 ⟨rfl, hb⟩; refine ⟨_, rfl, ?_⟩; replace BK580 := AS (blk_below (g := gb580) (o := .cells #[.int .i64 a0_0, .int .i64 a0_1, .int .i64 a0_2, .int .i64 a0_3] 23) (upK BK580.out) hb); replace HB := AS (below_step (upB HB.out) hb); (try clear hb; try clear hb2; try clear hk; try clear hi)))
  go_ret
  exact ⟨by first | rfl | (simp [errW_none, errW_some] <;> rfl) | (simp [*, errW_none, errW_some] <;> rfl), by repeat (first | (with_reducible first | exact HB.out | apply below_alloc | apply pw_below_drewN | apply below_drew1 | refine below_set ?_ GE580.out) | exact HB.out)⟩

end Go.Proofs.Ythemchggmlpdhaa.Q
