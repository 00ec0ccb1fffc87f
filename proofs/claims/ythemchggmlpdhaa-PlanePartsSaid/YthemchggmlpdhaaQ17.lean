-- By a program of this session (wip/tools/mk.py), out of the kit's print of the translation; Lean checks it.
import Derived.Test.YthemchggmlpdhaaShort
import Derived.Test.YthemchggmlpdhaaUp2
import Derived.Test.YthemchggmlpdhaaUp
import Derived.Test.YthemchggmlpdhaaQ0
import Derived.Test.YthemchggmlpdhaaQ1
import Derived.Test.YthemchggmlpdhaaQ15
import Derived.Test.YthemchggmlpdhaaQ16
namespace Go.Proofs.Ythemchggmlpdhaa.Q
open Go.RowKit Go.Proofs.YthemchggmlpdhaaW.PrintWords Go.Proofs.YthemchggmlpdhaaW.PrintLast Go.Proofs.YthemchggmlpdhaaW.PrintMore
attribute [local go_sem] max2_int min2_int max_two min_two max_three min_three max_four min_four   -- for this text's walks alone
set_option linter.unusedVariables false
set_option linter.unusedSimpArgs false

attribute [local go_sem high] eqA23
/-! ### rect_Contains: function 46 -/
def rect_Contains.f (a0_0 : Int) (a0_1 : Int) (a0_2 : Int) (a0_3 : Int) (a1_0 : Int) (a1_1 : Int) (a1_2 : Int) (a1_3 : Int) : Option (Bool) := (rect_Empty.f a1_0 a1_1 a1_2 a1_3).bind fun t158 => (if t158 = true then (some true) else ((rect_Intersect.f a0_0 a0_1 a0_2 a0_3 a1_0 a1_1 a1_2 a1_3).bind fun bt159 => (some (bt159.1 == a1_0 && (bt159.2.1 == a1_1 && (bt159.2.2.1 == a1_2 && (bt159.2.2.2 == a1_3)))))))
def rect_Contains.T1 : Bool × List (List Nat × List Nat) := (true, [([], []), ([0], [0]), ([1, 1], [1]), ([2], [2]), ([2], [2]), ([3, 4, 2, 2], [2, 3, 4]), ([2], [2]), ([5, 6, 2], [2, 5, 6]), ([2, 7], [2, 7]), ([8, 5, 0, 1, 2, 3, 4, 5, 6, 7, 8], [8])])
def rect_Contains.B1 : List Nat := [0, 1, 3, 7, 7, 31, 7, 127, 255, 511]
theorem rect_Contains.tab1 : rtab .any (opsOf Try.f46 1) = rect_Contains.T1 := by kernel_rfl
theorem rect_Contains.bits1 : waitsOk rect_Contains.T1.2 rect_Contains.B1 = true := by kernel_rfl
set_option maxHeartbeats 8000000 in
set_option maxRecDepth 100000 in
theorem rect_Contains.calls (a0_0 : Int) (a0_1 : Int) (a0_2 : Int) (a0_3 : Int) (a1_0 : Int) (a1_1 : Int) (a1_2 : Int) (a1_3 : Int) (r : Bool) (w : World) (h : rect_Contains.f a0_0 a0_1 a0_2 a0_3 a1_0 a1_1 a1_2 a1_3 = some r) :
  Calls Try.prog 46 #[.agg #[.int .i64 a0_0, .int .i64 a0_1, .int .i64 a0_2, .int .i64 a0_3], .agg #[.int .i64 a1_0, .int .i64 a1_1, .int .i64 a1_2, .int .i64 a1_3]] w fun e w' => e = .returned (.bool r) ∧ Below w.heap.size w w' := by
 have hu23 := Try.underlying23
 have HB := AS (Below.refl w.heap.size w)
 have H : ((rect_Empty.f a1_0 a1_1 a1_2 a1_3).bind fun t158 => (if t158 = true then (some true) else ((rect_Intersect.f a0_0 a0_1 a0_2 a0_3 a1_0 a1_1 a1_2 a1_3).bind fun bt159 => (some (bt159.1 == a1_0 && (bt159.2.1 == a1_1 && (bt159.2.2.1 == a1_2 && (bt159.2.2.2 == a1_3)))))))) = some r := h
 clear h
 replace H := Option.bind_eq_some_iff.mp H
 obtain ⟨t158, A30, H⟩ := H
 replace H : (if t158 = true then (some true) else ((rect_Intersect.f a0_0 a0_1 a0_2 a0_3 a1_0 a1_1 a1_2 a1_3).bind fun bt159 => (some (bt159.1 == a1_0 && (bt159.2.1 == a1_1 && (bt159.2.2.1 == a1_2 && (bt159.2.2.2 == a1_3))))))) = some r := H
 have A3 := AS A30
 clear A30
 by_cases c4 : t158 = true
 ·subst c4
  rw [if_pos rfl] at H
  obtain rfl := Option.some.inj H
  go_enter Try.func46, Try.ntmps46
  try go_wp2_with (first | ((with_reducible refine gate_dst (N := 2) rfl ?_); refine box_event ?hg (N := 2) ?hd (cs := #[.int .i64 a0_0, .int .i64 a0_1, .int .i64 a0_2, .int .i64 a0_3]) (t := 23) ?hr ?_; (case hd => rfl); (case hg => rfl); (case hr => first | (go_simp; done) | (go_simp; rfl)); intro gb156 hg w5 hbox hb; have BK156 := AS (hbox); have GW156 := AS ((by rw [hg]; exact (below_size (upB HB.out)) : w.heap.size ≤ gb156)); have GE156 := AS ((by rw [hg]; exact (below_size (upB HB.out)) : w.heap.size ≤ gb156)); replace HB := AS (below_step (upB HB.out) hb); clear hb hbox hg) | ((with_reducible refine gate_dst (N := 3) rfl ?_); refine box_event ?hg (N := 3) ?hd (cs := #[.int .i64 a1_0, .int .i64 a1_1, .int .i64 a1_2, .int .i64 a1_3]) (t := 23) ?hr ?_; (case hd => rfl); (case hg => rfl); (case hr => first | (go_simp; done) | (go_simp; rfl)); intro gb157 hg w6 hbox hb; have BK157 := AS (hbox); have GW157 := AS ((by rw [hg]; exact (below_size (upB HB.out)) : w.heap.size ≤ gb157)); have GE157 := AS ((by rw [hg]; exact (below_size (upB HB.out)) : w.heap.size ≤ gb157)); replace HB := AS (below_step (upB HB.out) hb); have NB156_157 := AS ((by rw [hg]; exact Nat.ne_of_lt (blk_lt (upK BK156.out)) : gb156 ≠ gb157)); have NB157_156 := AS ((by rw [hg]; exact Nat.ne_of_gt (blk_lt (upK BK156.out)) : gb157 ≠ gb156)); replace BK156 := AS (blk_below (g := gb156) (o := .cells #[.int .i64 a0_0, .int .i64 a0_1, .int .i64 a0_2, .int .i64 a0_3] 23) (upK BK156.out) hb); clear hb hbox hg))
  replace BK156 := AS (blk_drew BK156.out)
  replace BK157 := AS (blk_drew BK157.out)
  replace HB := AS (below_drew1 HB.out)
  refine start_ (n := 10) (S := fun w' => w'.cell? ⟨gb157, 0, none⟩ = some (.int .i64 a1_0) ∧ w'.cell? ⟨gb157, 1, none⟩ = some (.int .i64 a1_1) ∧ w'.cell? ⟨gb157, 2, none⟩ = some (.int .i64 a1_2) ∧ w'.cell? ⟨gb157, 3, none⟩ = some (.int .i64 a1_3)) (ds := []) #[false, false, false, false, false, false, false, false, false, false] (by kernel_rfl) rfl rfl ⟨bc BK157 0, bc BK157 1, bc BK157 2, bc BK157 3⟩ (fun hHeld => ?_); refine with_tabW rect_Contains.tab1 rect_Contains.bits1 (fun HT_ HW_ => ?_)
  generalize w6.drew = w7 at BK156 BK157 HB hHeld ⊢
  refine taX 0 5 (MK [1, 9]) HT_.out HW_.out hHeld ?_
  refine onX 1 6 (MK [2, 8]) HT_.out (fun K hK => ?_)
  refine goes_ Try.func47 (by kernel_rfl) rfl #[.agg #[.int .i64 a1_0, .int .i64 a1_1, .int .i64 a1_2, .int .i64 a1_3]] (by rfl) rfl rfl upL ?_
  with_reducible refine (rect_Empty.calls a1_0 a1_1 a1_2 a1_3 true _ A3.out).mono ?_
  rintro e w8 ⟨rfl, hb⟩
  refine ⟨_, rfl, ?_⟩
  replace BK156 := AS (blk_below (g := gb156) (o := .cells #[.int .i64 a0_0, .int .i64 a0_1, .int .i64 a0_2, .int .i64 a0_3] 23) (upK BK156.out) hb)
  replace BK157 := AS (blk_below (g := gb157) (o := .cells #[.int .i64 a1_0, .int .i64 a1_1, .int .i64 a1_2, .int .i64 a1_3] 23) (upK BK157.out) hb)
  replace HB := AS (below_step (upB HB.out) hb)
  (try clear hb; try clear hb2; try clear hk; try clear hi)
  refine hK.out _ _ ⟨bc BK157 0, bc BK157 1, bc BK157 2, bc BK157 3⟩ (fun hHeld => ?_)
  clear hK K
  refine noX ?_
  refine puX 2 7 (MK [3, 7]) HT_.out ?_
  refine puU 3 8 (MK [4, 6]) HT_.out ?_
  refine puU 4 9 (MK [5, 5]) HT_.out ?_
  refine puU 5 10 (MK [6, 4]) HT_.out ?_
  refine puU 6 11 (MK [7, 3]) HT_.out ?_
  refine puU 7 12 (MK [8, 2]) HT_.out ?_
  refine puX 8 13 (MK [9, 1]) HT_.out ?_
  refine puX 9 4 (MK [10]) HT_.out ?_
  refine done_ (done_of HT_.out (by kernel_rfl)) ?_
  try go_wp2
  go_ret
  exact ⟨by first | rfl | (simp [errW_none, errW_some] <;> rfl) | (simp [*, errW_none, errW_some] <;> rfl), by repeat (first | (with_reducible first | exact HB.out | apply below_alloc | apply pw_below_drewN | apply below_drew1 | refine below_set ?_ GE156.out | refine below_set ?_ GE157.out) | exact HB.out)⟩
 ·replace c4 := Bool.eq_false_iff.mpr c4
  subst c4
  rw [if_neg (show ¬ (false = true) by decide)] at H
  replace H := Option.bind_eq_some_iff.mp H
  obtain ⟨⟨t159, t160, t161, t162⟩, A90, H⟩ := H
  replace H : (some (t159 == a1_0 && (t160 == a1_1 && (t161 == a1_2 && (t162 == a1_3))))) = some r := H
  have A9 := AS A90
  clear A90
  obtain rfl := Option.some.inj H
  go_enter Try.func46, Try.ntmps46
  try go_wp2_with (first | ((with_reducible refine gate_dst (N := 2) rfl ?_); refine box_event ?hg (N := 2) ?hd (cs := #[.int .i64 a0_0, .int .i64 a0_1, .int .i64 a0_2, .int .i64 a0_3]) (t := 23) ?hr ?_; (case hd => rfl); (case hg => rfl); (case hr => first | (go_simp; done) | (go_simp; rfl)); intro gb156 hg w10 hbox hb; have BK156 := AS (hbox); have GW156 := AS ((by rw [hg]; exact (below_size (upB HB.out)) : w.heap.size ≤ gb156)); have GE156 := AS ((by rw [hg]; exact (below_size (upB HB.out)) : w.heap.size ≤ gb156)); replace HB := AS (below_step (upB HB.out) hb); clear hb hbox hg) | ((with_reducible refine gate_dst (N := 3) rfl ?_); refine box_event ?hg (N := 3) ?hd (cs := #[.int .i64 a1_0, .int .i64 a1_1, .int .i64 a1_2, .int .i64 a1_3]) (t := 23) ?hr ?_; (case hd => rfl); (case hg => rfl); (case hr => first | (go_simp; done) | (go_simp; rfl)); intro gb157 hg w11 hbox hb; have BK157 := AS (hbox); have GW157 := AS ((by rw [hg]; exact (below_size (upB HB.out)) : w.heap.size ≤ gb157)); have GE157 := AS ((by rw [hg]; exact (below_size (upB HB.out)) : w.heap.size ≤ gb157)); replace HB := AS (below_step (upB HB.out) hb); have NB156_157 := AS ((by rw [hg]; exact Nat.ne_of_lt (blk_lt (upK BK156.out)) : gb156 ≠ gb157)); have NB157_156 := AS ((by rw [hg]; exact Nat.ne_of_gt (blk_lt (upK BK156.out)) : gb157 ≠ gb156)); replace BK156 := AS (blk_below (g := gb156) (o := .cells #[.int .i64 a0_0, .int .i64 a0_1, .int .i64 a0_2, .int .i64 a0_3] 23) (upK BK156.out) hb); clear hb hbox hg))
  replace BK156 := AS (blk_drew BK156.out)
  replace BK157 := AS (blk_drew BK157.out)
  replace HB := AS (below_drew1 HB.out)
  refine start_ (n := 10) (S := fun w' => w'.cell? ⟨gb157, 0, none⟩ = some (.int .i64 a1_0) ∧ w'.cell? ⟨gb157, 1, none⟩ = some (.int .i64 a1_1) ∧ w'.cell? ⟨gb157, 2, none⟩ = some (.int .i64 a1_2) ∧ w'.cell? ⟨gb157, 3, none⟩ = some (.int .i64 a1_3) ∧ w'.cell? ⟨gb156, 0, none⟩ = some (.int .i64 a0_0) ∧ w'.cell? ⟨gb156, 1, none⟩ = some (.int .i64 a0_1) ∧ w'.cell? ⟨gb156, 2, none⟩ = some (.int .i64 a0_2) ∧ w'.cell? ⟨gb156, 3, none⟩ = some (.int .i64 a0_3)) (ds := []) #[false, false, false, false, false, false, false, false, false, false] (by kernel_rfl) rfl rfl ⟨bc BK157 0, bc BK157 1, bc BK157 2, bc BK157 3, bc BK156 0, bc BK156 1, bc BK156 2, bc BK156 3⟩ (fun hHeld => ?_); refine with_tabW rect_Contains.tab1 rect_Contains.bits1 (fun HT_ HW_ => ?_)
  generalize w11.drew = w12 at BK156 BK157 HB hHeld ⊢
  refine taX 0 5 (MK [1, 9]) HT_.out HW_.out hHeld ?_
  refine onX 1 6 (MK [2, 8]) HT_.out (fun K hK => ?_)
  refine goes_ Try.func47 (by kernel_rfl) rfl #[.agg #[.int .i64 a1_0, .int .i64 a1_1, .int .i64 a1_2, .int .i64 a1_3]] (by rfl) rfl rfl upL ?_
  with_reducible refine (rect_Empty.calls a1_0 a1_1 a1_2 a1_3 false _ A3.out).mono ?_
  rintro e w13 ⟨rfl, hb⟩
  refine ⟨_, rfl, ?_⟩
  replace BK156 := AS (blk_below (g := gb156) (o := .cells #[.int .i64 a0_0, .int .i64 a0_1, .int .i64 a0_2, .int .i64 a0_3] 23) (upK BK156.out) hb)
  replace BK157 := AS (blk_below (g := gb157) (o := .cells #[.int .i64 a1_0, .int .i64 a1_1, .int .i64 a1_2, .int .i64 a1_3] 23) (upK BK157.out) hb)
  replace HB := AS (below_step (upB HB.out) hb)
  (try clear hb; try clear hb2; try clear hk; try clear hi)
  refine hK.out _ _ ⟨bc BK157 0, bc BK157 1, bc BK157 2, bc BK157 3, bc BK156 0, bc BK156 1, bc BK156 2, bc BK156 3⟩ (fun hHeld => ?_)
  clear hK K
  refine noX ?_
  refine puX 2 7 (MK [3, 7]) HT_.out ?_
  refine taX 3 8 (MK [4, 6]) HT_.out HW_.out hHeld ?_
  refine taX 4 9 (MK [5, 5]) HT_.out HW_.out hHeld ?_
  refine taX 6 11 (MK [5, 1, 1, 3]) HT_.out HW_.out hHeld ?_
  refine onX 5 10 (MK [7, 3]) HT_.out (fun K hK => ?_)
  refine goes_ Try.func49 (by kernel_rfl) rfl #[.agg #[.int .i64 a0_0, .int .i64 a0_1, .int .i64 a0_2, .int .i64 a0_3], .agg #[.int .i64 a1_0, .int .i64 a1_1, .int .i64 a1_2, .int .i64 a1_3]] (by rfl) rfl rfl upL ?_
  with_reducible refine (rect_Intersect.calls a0_0 a0_1 a0_2 a0_3 a1_0 a1_1 a1_2 a1_3 t159 t160 t161 t162 _ A9.out).mono ?_
  rintro e w14 ⟨rfl, hb⟩
  refine ⟨_, rfl, ?_⟩
  replace BK156 := AS (blk_below (g := gb156) (o := .cells #[.int .i64 a0_0, .int .i64 a0_1, .int .i64 a0_2, .int .i64 a0_3] 23) (upK BK156.out) hb)
  replace BK157 := AS (blk_below (g := gb157) (o := .cells #[.int .i64 a1_0, .int .i64 a1_1, .int .i64 a1_2, .int .i64 a1_3] 23) (upK BK157.out) hb)
  replace HB := AS (below_step (upB HB.out) hb)
  (try clear hb; try clear hb2; try clear hk; try clear hi)
  refine hK.out _ _ ⟨bc BK157 0, bc BK157 1, bc BK157 2, bc BK157 3, bc BK156 0, bc BK156 1, bc BK156 2, bc BK156 3⟩ (fun hHeld => ?_)
  clear hK K
  refine noX ?_
  refine puX 7 12 (MK [8, 2]) HT_.out ?_
  refine puX 8 13 (MK [9, 1]) HT_.out ?_
  refine puX 9 4 (MK [10]) HT_.out ?_
  refine done_ (done_of HT_.out (by kernel_rfl)) ?_
  try go_wp2
  go_ret
  exact ⟨by first | rfl | (simp [errW_none, errW_some] <;> rfl) | (simp [*, errW_none, errW_some] <;> rfl), by repeat (first | (with_reducible first | exact HB.out | apply below_alloc | apply pw_below_drewN | apply below_drew1 | refine below_set ?_ GE156.out | refine below_set ?_ GE157.out) | exact HB.out)⟩

end Go.Proofs.Ythemchggmlpdhaa.Q
