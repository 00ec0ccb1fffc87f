-- By a program of this session (wip/tools/mk.py), out of the kit's print of the translation; Lean checks it.
import Derived.Test.YthemchggmlpdhaaShort
import Derived.Test.YthemchggmlpdhaaUp2
import Derived.Test.YthemchggmlpdhaaUp
import Derived.Test.YthemchggmlpdhaaQ0
import Derived.Test.YthemchggmlpdhaaQ29
import Derived.Test.YthemchggmlpdhaaQ46
namespace Go.Proofs.Ythemchggmlpdhaa.Q
open Go.RowKit Go.Proofs.YthemchggmlpdhaaW.PrintWords Go.Proofs.YthemchggmlpdhaaW.PrintLast Go.Proofs.YthemchggmlpdhaaW.PrintMore
attribute [local go_sem] max2_int min2_int max_two min_two max_three min_three max_four min_four   -- for this text's walks alone
set_option linter.unusedVariables false
set_option linter.unusedSimpArgs false

/-! ### waveletref02_ValidSmall: function 36 -/
def waveletref02_ValidSmall.f (a0_0 : Int) (a0_1 : Int) (a0_2 : Int) (a0_3 : Int) (l0_4 : List Int) : Option (Bool) := (waveletref02_Valid.f a0_0 a0_1 a0_2 a0_3 l0_4).bind fun t583 => (if t583 = true then ((waveletref01_Small.f a0_0 a0_1 a0_2 a0_3).bind fun t584 => (some t584)) else (some false))
set_option maxHeartbeats 8000000 in
set_option maxRecDepth 100000 in
theorem waveletref02_ValidSmall.calls (a0_0 : Int) (a0_1 : Int) (a0_2 : Int) (a0_3 : Int) (A0_4 : Option Addr) (c0_4 : Nat) (l0_4 : List Int) (r : Bool) (w : World) (hr0_4 : Kd.C (Kd.int .i64) w A0_4 l0_4.length l0_4) (hc0_4 : l0_4.length ≤ c0_4) (h : waveletref02_ValidSmall.f a0_0 a0_1 a0_2 a0_3 l0_4 = some r) :
  Calls Try.prog 36 #[.agg #[.int .i64 a0_0, .int .i64 a0_1, .int .i64 a0_2, .int .i64 a0_3, .slice A0_4 l0_4.length c0_4]] w fun e w' => e = .returned (.bool r) ∧ Below w.heap.size w w' := by
 have hu26 := Try.underlying26
 have hu23 := Try.underlying23
 have HR0_4 := AS hr0_4
 have HC0_4 := AS hc0_4
 clear hr0_4 hc0_4
 have HB := AS (Below.refl w.heap.size w)
 have H : ((waveletref02_Valid.f a0_0 a0_1 a0_2 a0_3 l0_4).bind fun t583 => (if t583 = true then ((waveletref01_Small.f a0_0 a0_1 a0_2 a0_3).bind fun t584 => (some t584)) else (some false))) = some r := h
 clear h
 replace H := Option.bind_eq_some_iff.mp H
 obtain ⟨t583, A20, H⟩ := H
 replace H : (if t583 = true then ((waveletref01_Small.f a0_0 a0_1 a0_2 a0_3).bind fun t584 => (some t584)) else (some false)) = some r := H
 have A2 := AS A20
 clear A20
 by_cases c3 : t583 = true
 ·subst c3
  rw [if_pos rfl] at H
  replace H := Option.bind_eq_some_iff.mp H
  obtain ⟨t584, A40, H⟩ := H
  replace H : (some t584) = some r := H
  have A4 := AS A40
  clear A40
  obtain rfl := Option.some.inj H
  go_enter Try.func36, Try.ntmps36
  go_wp2_with (first | ((with_reducible refine gate_dst (N := 1) rfl ?_); refine box_event ?hg (N := 1) ?hd (cs := #[.int .i64 a0_0, .int .i64 a0_1, .int .i64 a0_2, .int .i64 a0_3, .slice A0_4 l0_4.length c0_4]) (t := 26) ?hr ?_; (case hd => rfl); (case hg => rfl); (case hr => first | (go_simp; done) | (go_simp; rfl)); intro gb582 hg w5 hbox hb; have BK582 := AS (hbox); have GW582 := AS ((by rw [hg]; exact (below_size (upB HB.out)) : w.heap.size ≤ gb582)); have GE582 := AS ((by rw [hg]; exact (below_size (upB HB.out)) : w.heap.size ≤ gb582)); replace HB := AS (below_step (upB HB.out) hb); clear hb hbox hg; have hcz6_0 : w5.cell? ⟨gb582, 0, none⟩ = some (.int .i64 a0_0) := bc BK582 0; have hcz6_1 : w5.cell? ⟨gb582, 1, none⟩ = some (.int .i64 a0_1) := bc BK582 1; have hcz6_2 : w5.cell? ⟨gb582, 2, none⟩ = some (.int .i64 a0_2) := bc BK582 2; have hcz6_3 : w5.cell? ⟨gb582, 3, none⟩ = some (.int .i64 a0_3) := bc BK582 3; have hcz6_4 : w5.cell? ⟨gb582, 4, none⟩ = some (.slice A0_4 l0_4.length c0_4) := bc BK582 4; have hfz6_0 := blk_frozen BK582.out 0; have hfz6_1 := blk_frozen BK582.out 1; have hfz6_2 := blk_frozen BK582.out 2; have hfz6_3 := blk_frozen BK582.out 3; have hfz6_4 := blk_frozen BK582.out 4) | ((with_reducible refine gate_callee (f := 21) rfl ?_); refine goesL_ (some 4) rfl rfl Try.func21 (by kernel_rfl) rfl #[.agg #[.int .i64 a0_0, .int .i64 a0_1, .int .i64 a0_2, .int .i64 a0_3, .slice A0_4 l0_4.length c0_4]] rfl upL ?_; (with_reducible refine (waveletref02_Valid.calls a0_0 a0_1 a0_2 a0_3 _ _ l0_4 true _ ?side1 ?side2 A2.out).mono ?_); (case side1 => repeat (first | exact (Kd.C_below HR0_4.out HB.out) | (with_reducible refine Kd.C_alloc ?_ _) | (with_reducible refine Kd.C_drewN ?_ _) | (with_reducible refine Kd.C_drew ?_))); (case side2 => exact HC0_4.out); rintro e w7 ⟨rfl, hb⟩; refine ⟨_, rfl, ?_⟩; replace BK582 := AS (blk_below (g := gb582) (o := .cells #[.int .i64 a0_0, .int .i64 a0_1, .int .i64 a0_2, .int .i64 a0_3, .slice A0_4 l0_4.length c0_4] 26) (upK BK582.out) hb); replace HB := AS (below_step (upB HB.out) hb); (try clear hb; try clear hb2; try clear hk; try clear hi); have hcz8_0 : w7.cell? ⟨gb582, 0, none⟩ = some (.int .i64 a0_0) := bc BK582 0; have hcz8_1 : w7.cell? ⟨gb582, 1, none⟩ = some (.int .i64 a0_1) := bc BK582 1; have hcz8_2 : w7.cell? ⟨gb582, 2, none⟩ = some (.int .i64 a0_2) := bc BK582 2; have hcz8_3 : w7.cell? ⟨gb582, 3, none⟩ = some (.int .i64 a0_3) := bc BK582 3; have hcz8_4 : w7.cell? ⟨gb582, 4, none⟩ = some (.slice A0_4 l0_4.length c0_4) := bc BK582 4; have hfz8_0 := blk_frozen BK582.out 0; have hfz8_1 := blk_frozen BK582.out 1; have hfz8_2 := blk_frozen BK582.out 2; have hfz8_3 := blk_frozen BK582.out 3; have hfz8_4 := blk_frozen BK582.out 4) | (go_at_call 50; (with_reducible refine (waveletref01_Small.calls a0_0 a0_1 a0_2 a0_3 t584 _ A4.out).mono ?_); rintro e w9 ⟨rfl, hb⟩; replace BK582 := AS (blk_below (g := gb582) (o := .cells #[.int .i64 a0_0, .int .i64 a0_1, .int .i64 a0_2, .int .i64 a0_3, .slice A0_4 l0_4.length c0_4] 26) (upK BK582.out) hb); replace HB := AS (below_step (upB HB.out) hb); (try clear hb; try clear hb2; try clear hk; try clear hi)))
  go_ret
  exact ⟨by first | rfl | (simp [errW_none, errW_some] <;> rfl) | (simp [*, errW_none, errW_some] <;> rfl), by repeat (first | (with_reducible first | exact HB.out | apply below_alloc | apply pw_below_drewN | apply below_drew1 | refine below_set ?_ GE582.out) | exact HB.out)⟩
 ·replace c3 := Bool.eq_false_iff.mpr c3
  subst c3
  rw [if_neg (show ¬ (false = true) by decide)] at H
  obtain rfl := Option.some.inj H
  go_enter Try.func36, Try.ntmps36
  go_wp2_with (first | ((with_reducible refine gate_dst (N := 1) rfl ?_); refine box_event ?hg (N := 1) ?hd (cs := #[.int .i64 a0_0, .int .i64 a0_1, .int .i64 a0_2, .int .i64 a0_3, .slice A0_4 l0_4.length c0_4]) (t := 26) ?hr ?_; (case hd => rfl); (case hg => rfl); (case hr => first | (go_simp; done) | (go_simp; rfl)); intro gb582 hg w10 hbox hb; have BK582 := AS (hbox); have GW582 := AS ((by rw [hg]; exact (below_size (upB HB.out)) : w.heap.size ≤ gb582)); have GE582 := AS ((by rw [hg]; exact (below_size (upB HB.out)) : w.heap.size ≤ gb582)); replace HB := AS (below_step (upB HB.out) hb); clear hb hbox hg; have hcz11_0 : w10.cell? ⟨gb582, 0, none⟩ = some (.int .i64 a0_0) := bc BK582 0; have hcz11_1 : w10.cell? ⟨gb582, 1, none⟩ = some (.int .i64 a0_1) := bc BK582 1; have hcz11_2 : w10.cell? ⟨gb582, 2, none⟩ = some (.int .i64 a0_2) := bc BK582 2; have hcz11_3 : w10.cell? ⟨gb582, 3, none⟩ = some (.int .i64 a0_3) := bc BK582 3; have hcz11_4 : w10.cell? ⟨gb582, 4, none⟩ = some (.slice A0_4 l0_4.length c0_4) := bc BK582 4; have hfz11_0 := blk_frozen BK582.out 0; have hfz11_1 := blk_frozen BK582.out 1; have hfz11_2 := blk_frozen BK582.out 2; have hfz11_3 := blk_frozen BK582.out 3; have hfz11_4 := blk_frozen BK582.out 4) | ((with_reducible refine gate_callee (f := 21) rfl ?_); refine goesL_ (some 4) rfl rfl Try.func21 (by kernel_rfl) rfl #[.agg #[.int .i64 a0_0, .int .i64 a0_1, .int .i64 a0_2, .int .i64 a0_3, .slice A0_4 l0_4.length c0_4]] rfl upL ?_; (with_reducible refine (waveletref02_Valid.calls a0_0 a0_1 a0_2 a0_3 _ _ l0_4 false _ ?side1 ?side2 A2.out).mono ?_); (case side1 => repeat (first | exact (Kd.C_below HR0_4.out HB.out) | (with_reducible refine Kd.C_alloc ?_ _) | (with_reducible refine Kd.C_drewN ?_ _) | (with_reducible refine Kd.C_drew ?_))); (case side2 => exact HC0_4.out); rintro e w12 ⟨rfl, hb⟩; refine ⟨_, rfl, ?_⟩; replace BK582 := AS (blk_below (g := gb582) (o := .cells #[.int .i64 a0_0, .int .i64 a0_1, .int .i64 a0_2, .int .i64 a0_3, .slice A0_4 l0_4.length c0_4] 26) (upK BK582.out) hb); replace HB := AS (below_step (upB HB.out) hb); (try clear hb; try clear hb2; try clear hk; try clear hi)))
  go_ret
  exact ⟨by first | rfl | (simp [errW_none, errW_some] <;> rfl) | (simp [*, errW_none, errW_some] <;> rfl), by repeat (first | (with_reducible first | exact HB.out | apply below_alloc | apply pw_below_drewN | apply below_drew1 | refine below_set ?_ GE582.out) | exact HB.out)⟩

end Go.Proofs.Ythemchggmlpdhaa.Q
