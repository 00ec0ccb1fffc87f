-- By a program of this session (wip/tools/mk.py), out of the kit's print of the translation; Lean checks it.
import Derived.Test.YthemchggmlpdhaaShort
import Derived.Test.YthemchggmlpdhaaUp2
import Derived.Test.YthemchggmlpdhaaUp
import Derived.Test.YthemchggmlpdhaaQ0
import Derived.Test.YthemchggmlpdhaaQ2
import Derived.Test.YthemchggmlpdhaaQ3
namespace Go.Proofs.Ythemchggmlpdhaa.Q
open Go.RowKit Go.Proofs.YthemchggmlpdhaaW.PrintWords Go.Proofs.YthemchggmlpdhaaW.PrintLast Go.Proofs.YthemchggmlpdhaaW.PrintMore
attribute [local go_sem] max2_int min2_int max_two min_two max_three min_three max_four min_four   -- for this text's walks alone
set_option linter.unusedVariables false
set_option linter.unusedSimpArgs false

/-! ### plane_Valid: function 20 -/
def plane_Valid.f (a0_0 : Int) (a0_1 : Int) (a0_2 : Int) (a0_3 : Int) (l0_4 : List Int) : Option (Bool) := (rect_Valid.f a0_0 a0_1 a0_2 a0_3).bind fun t121 => (if t121 = true then ((rect_Area.f a0_0 a0_1 a0_2 a0_3).bind fun t122 => (if t122 ≤ 1048576 then ((rect_Area.f a0_0 a0_1 a0_2 a0_3).bind fun t123 => (some ((l0_4.length : Int) == t123))) else (some false))) else (some false))
def plane_Valid.T1 : Bool × List (List Nat × List Nat) := (true, [([], []), ([0], [0]), ([1], [1]), ([2, 2], [2]), ([3], [3]), ([4, 3], [3, 4]), ([5, 3, 3], [3, 5]), ([6, 3], [3, 6]), ([3, 7], [3, 7]), ([8, 6], [8]), ([9], [9]), ([10, 9], [9, 10]), ([11, 9], [9, 11]), ([9], [9]), ([13, 9], [9, 13]), ([14, 9, 9], [9, 14]), ([12, 15, 9], [9, 12, 15]), ([9, 16], [9, 16]), ([17, 15, 0, 1, 2, 3, 4, 5, 6, 7, 8, 9, 10, 11, 12, 13, 14, 15, 16, 17], [17])])
def plane_Valid.B1 : List Nat := [0, 1, 3, 7, 15, 31, 63, 127, 255, 511, 1023, 2047, 4095, 1023, 9215, 25599, 65535, 131071, 262143]
theorem plane_Valid.tab1 : rtab .any (opsOf Try.f20 1) = plane_Valid.T1 := by kernel_rfl
theorem plane_Valid.bits1 : waitsOk plane_Valid.T1.2 plane_Valid.B1 = true := by kernel_rfl
set_option maxHeartbeats 8000000 in
set_option maxRecDepth 100000 in
theorem plane_Valid.calls (a0_0 : Int) (a0_1 : Int) (a0_2 : Int) (a0_3 : Int) (A0_4 : Option Addr) (c0_4 : Nat) (l0_4 : List Int) (r : Bool) (w : World) (hr0_4 : Kd.C (Kd.int .i64) w A0_4 l0_4.length l0_4) (hc0_4 : l0_4.length ≤ c0_4) (h : plane_Valid.f a0_0 a0_1 a0_2 a0_3 l0_4 = some r) :
  Calls Try.prog 20 #[.agg #[.int .i64 a0_0, .int .i64 a0_1, .int .i64 a0_2, .int .i64 a0_3, .slice A0_4 l0_4.length c0_4]] w fun e w' => e = .returned (.bool r) ∧ Below w.heap.size w w' := by
 have hu26 := Try.underlying26
 have hu23 := Try.underlying23
 have HR0_4 := AS hr0_4
 have HC0_4 := AS hc0_4
 clear hr0_4 hc0_4
 have HB := AS (Below.refl w.heap.size w)
 have H : ((rect_Valid.f a0_0 a0_1 a0_2 a0_3).bind fun t121 => (if t121 = true then ((rect_Area.f a0_0 a0_1 a0_2 a0_3).bind fun t122 => (if t122 ≤ 1048576 then ((rect_Area.f a0_0 a0_1 a0_2 a0_3).bind fun t123 => (some ((l0_4.length : Int) == t123))) else (some false))) else (some false))) = some r := h
 clear h
 replace H := Option.bind_eq_some_iff.mp H
 obtain ⟨t121, A20, H⟩ := H
 replace H : (if t121 = true then ((rect_Area.f a0_0 a0_1 a0_2 a0_3).bind fun t122 => (if t122 ≤ 1048576 then ((rect_Area.f a0_0 a0_1 a0_2 a0_3).bind fun t123 => (some ((l0_4.length : Int) == t123))) else (some false))) else (some false)) = some r := H
 have A2 := AS A20
 clear A20
 by_cases c3 : t121 = true
 ·subst c3
  rw [if_pos rfl] at H
  replace H := Option.bind_eq_some_iff.mp H
  obtain ⟨t122, A40, H⟩ := H
  replace H : (if t122 ≤ 1048576 then ((rect_Area.f a0_0 a0_1 a0_2 a0_3).bind fun t123 => (some ((l0_4.length : Int) == t123))) else (some false)) = some r := H
  have A4 := AS A40
  clear A40
  by_cases c5 : t122 ≤ 1048576
  ·rw [if_pos c5] at H
   have c5b0 : decide (t122 ≤ 1048576) = true := decide_eq_true c5
   clear c5
   replace H := Option.bind_eq_some_iff.mp H
   obtain ⟨t123, A60, H⟩ := H
   obtain rfl : t122 = t123 := by have E_ := A4.out.symm.trans A60; simpa using E_
   replace H : (some ((l0_4.length : Int) == t122)) = some r := H
   have A6 := AS A60
   clear A60
   obtain rfl := Option.some.inj H
   go_enter Try.func20, Try.ntmps20
   try go_wp2_with (first | ((with_reducible refine gate_dst (N := 1) rfl ?_); (try (refine gate_guard (by rfl) ?_; dsimp only)); refine box_event ?hg (N := 1) ?hd (cs := #[.int .i64 a0_0, .int .i64 a0_1, .int .i64 a0_2, .int .i64 a0_3, .slice A0_4 l0_4.length c0_4]) (t := 26) ?hr ?_; (case hd => rfl); (case hg => rfl); (case hr => first | (go_simp; done) | (go_simp; rfl)); intro gb120 hg w7 hbox hb; have BK120 := AS (hbox); have GW120 := AS ((by rw [hg]; exact (below_size (upB HB.out)) : w.heap.size ≤ gb120)); have GE120 := AS ((by rw [hg]; exact (below_size (upB HB.out)) : w.heap.size ≤ gb120)); replace HB := AS (below_step (upB HB.out) hb); clear hb hbox hg))
   replace BK120 := AS (blk_drew BK120.out)
   replace HB := AS (below_drew1 HB.out)
   refine start_ (n := 19) (S := fun w' => ce w' gb120 0 (.int .i64 a0_0) ∧ ce w' gb120 1 (.int .i64 a0_1) ∧ ce w' gb120 2 (.int .i64 a0_2) ∧ ce w' gb120 3 (.int .i64 a0_3) ∧ ce w' gb120 4 (.slice A0_4 l0_4.length c0_4)) (ds := []) #[false, false, false, false, false, false, false, false, false, false, false, false, false, false, false, false, false, false, false] (by kernel_rfl) rfl rfl ⟨bc BK120 0, bc BK120 1, bc BK120 2, bc BK120 3, bc BK120 4⟩ (fun hHeld => ?_); refine with_tabW plane_Valid.tab1 plane_Valid.bits1 (fun HT_ HW_ => ?_)
   generalize w7.drew = w8 at BK120 HB hHeld ⊢
   refine puX 0 3 (MK [1, 18]) HT_.out ?_
   refine taX 1 4 (MK [2, 17]) HT_.out HW_.out hHeld ?_
   refine onX 2 5 (MK [3, 16]) HT_.out (fun K hK => ?_)
   refine goes_ Try.func38 (by kernel_rfl) rfl #[.agg #[.int .i64 a0_0, .int .i64 a0_1, .int .i64 a0_2, .int .i64 a0_3]] (by rfl) rfl rfl upL ?_
   with_reducible refine (rect_Valid.calls a0_0 a0_1 a0_2 a0_3 true _ A2.out).mono ?_
   rintro e w9 ⟨rfl, hb⟩
   refine ⟨_, rfl, ?_⟩
   replace BK120 := AS (blk_below (g := gb120) (o := .cells #[.int .i64 a0_0, .int .i64 a0_1, .int .i64 a0_2, .int .i64 a0_3, .slice A0_4 l0_4.length c0_4] 26) (upK BK120.out) hb)
   replace HB := AS (below_step (upB HB.out) hb)
   (try clear hb; try clear hb2; try clear hk; try clear hi)
   refine hK.out _ _ ⟨bc BK120 0, bc BK120 1, bc BK120 2, bc BK120 3, bc BK120 4⟩ (fun hHeld => ?_)
   clear hK K
   refine noX ?_
   refine puX 3 6 (MK [4, 15]) HT_.out ?_
   refine puX 4 7 (MK [5, 14]) HT_.out ?_
   refine taX 5 8 (MK [6, 13]) HT_.out HW_.out hHeld ?_
   refine onX 6 9 (MK [7, 12]) HT_.out (fun K hK => ?_)
   refine goes_ Try.func39 (by kernel_rfl) rfl #[.agg #[.int .i64 a0_0, .int .i64 a0_1, .int .i64 a0_2, .int .i64 a0_3]] (by rfl) rfl rfl upL ?_
   with_reducible refine (rect_Area.calls a0_0 a0_1 a0_2 a0_3 t122 _ A4.out).mono ?_
   rintro e w10 ⟨rfl, hb⟩
   refine ⟨_, rfl, ?_⟩
   replace BK120 := AS (blk_below (g := gb120) (o := .cells #[.int .i64 a0_0, .int .i64 a0_1, .int .i64 a0_2, .int .i64 a0_3, .slice A0_4 l0_4.length c0_4] 26) (upK BK120.out) hb)
   replace HB := AS (below_step (upB HB.out) hb)
   (try clear hb; try clear hb2; try clear hk; try clear hi)
   refine hK.out _ _ ⟨bc BK120 0, bc BK120 1, bc BK120 2, bc BK120 3, bc BK120 4⟩ (fun hHeld => ?_)
   clear hK K
   refine noX ?_
   refine puX 7 10 (MK [8, 11]) HT_.out ?_
   refine puX 8 11 (MK [9, 10]) HT_.out ?_
   refine puX 9 12 (MK [10, 9]) HT_.out ?_
   refine puX 10 13 (MK [11, 8]) HT_.out ?_
   refine puX 13 16 (MK [11, 2, 1, 5]) HT_.out ?_
   refine taX 11 14 (MK [12, 1, 1, 5]) HT_.out HW_.out hHeld ?_
   refine puX 12 15 (MK [14, 5]) HT_.out ?_
   refine taX 14 17 (MK [15, 4]) HT_.out HW_.out hHeld ?_
   refine onX 15 18 (MK [16, 3]) HT_.out (fun K hK => ?_)
   refine goes_ Try.func39 (by kernel_rfl) rfl #[.agg #[.int .i64 a0_0, .int .i64 a0_1, .int .i64 a0_2, .int .i64 a0_3]] (by rfl) rfl rfl upL ?_
   with_reducible refine (rect_Area.calls a0_0 a0_1 a0_2 a0_3 t122 _ A6.out).mono ?_
   rintro e w11 ⟨rfl, hb⟩
   refine ⟨_, rfl, ?_⟩
   replace BK120 := AS (blk_below (g := gb120) (o := .cells #[.int .i64 a0_0, .int .i64 a0_1, .int .i64 a0_2, .int .i64 a0_3, .slice A0_4 l0_4.length c0_4] 26) (upK BK120.out) hb)
   replace HB := AS (below_step (upB HB.out) hb)
   (try clear hb; try clear hb2; try clear hk; try clear hi)
   refine hK.out _ _ ⟨bc BK120 0, bc BK120 1, bc BK120 2, bc BK120 3, bc BK120 4⟩ (fun hHeld => ?_)
   clear hK K
   refine noX ?_
   refine puX 16 19 (MK [17, 2]) HT_.out ?_
   refine puX 17 20 (MK [18, 1]) HT_.out ?_
   refine puX 18 2 (MK [19]) HT_.out ?_
   refine done_ (done_of HT_.out (by kernel_rfl)) ?_
   try go_wp2
   go_ret
   exact ⟨by first | rfl | (simp [errW_none, errW_some] <;> rfl) | (simp [*, errW_none, errW_some] <;> rfl), by repeat (first | (with_reducible first | exact HB.out | apply below_alloc | apply pw_below_drewN | apply below_drew1 | refine below_set ?_ GE120.out) | exact HB.out)⟩
  ·rw [if_neg c5] at H
   have c5b0 : decide (t122 ≤ 1048576) = false := decide_eq_false c5
   clear c5
   obtain rfl := Option.some.inj H
   go_enter Try.func20, Try.ntmps20
   try go_wp2_with (first | ((with_reducible refine gate_dst (N := 1) rfl ?_); (try (refine gate_guard (by rfl) ?_; dsimp only)); refine box_event ?hg (N := 1) ?hd (cs := #[.int .i64 a0_0, .int .i64 a0_1, .int .i64 a0_2, .int .i64 a0_3, .slice A0_4 l0_4.length c0_4]) (t := 26) ?hr ?_; (case hd => rfl); (case hg => rfl); (case hr => first | (go_simp; done) | (go_simp; rfl)); intro gb120 hg w12 hbox hb; have BK120 := AS (hbox); have GW120 := AS ((by rw [hg]; exact (below_size (upB HB.out)) : w.heap.size ≤ gb120)); have GE120 := AS ((by rw [hg]; exact (below_size (upB HB.out)) : w.heap.size ≤ gb120)); replace HB := AS (below_step (upB HB.out) hb); clear hb hbox hg))
   replace BK120 := AS (blk_drew BK120.out)
   replace HB := AS (below_drew1 HB.out)
   refine start_ (n := 19) (S := fun w' => ce w' gb120 0 (.int .i64 a0_0) ∧ ce w' gb120 1 (.int .i64 a0_1) ∧ ce w' gb120 2 (.int .i64 a0_2) ∧ ce w' gb120 3 (.int .i64 a0_3) ∧ ce w' gb120 4 (.slice A0_4 l0_4.length c0_4)) (ds := []) #[false, false, false, false, false, false, false, false, false, false, false, false, false, false, false, false, false, false, false] (by kernel_rfl) rfl rfl ⟨bc BK120 0, bc BK120 1, bc BK120 2, bc BK120 3, bc BK120 4⟩ (fun hHeld => ?_); refine with_tabW plane_Valid.tab1 plane_Valid.bits1 (fun HT_ HW_ => ?_)
   generalize w12.drew = w13 at BK120 HB hHeld ⊢
   refine puX 0 3 (MK [1, 18]) HT_.out ?_
   refine taX 1 4 (MK [2, 17]) HT_.out HW_.out hHeld ?_
   refine onX 2 5 (MK [3, 16]) HT_.out (fun K hK => ?_)
   refine goes_ Try.func38 (by kernel_rfl) rfl #[.agg #[.int .i64 a0_0, .int .i64 a0_1, .int .i64 a0_2, .int .i64 a0_3]] (by rfl) rfl rfl upL ?_
   with_reducible refine (rect_Valid.calls a0_0 a0_1 a0_2 a0_3 true _ A2.out).mono ?_
   rintro e w14 ⟨rfl, hb⟩
   refine ⟨_, rfl, ?_⟩
   replace BK120 := AS (blk_below (g := gb120) (o := .cells #[.int .i64 a0_0, .int .i64 a0_1, .int .i64 a0_2, .int .i64 a0_3, .slice A0_4 l0_4.length c0_4] 26) (upK BK120.out) hb)
   replace HB := AS (below_step (upB HB.out) hb)
   (try clear hb; try clear hb2; try clear hk; try clear hi)
   refine hK.out _ _ ⟨bc BK120 0, bc BK120 1, bc BK120 2, bc BK120 3, bc BK120 4⟩ (fun hHeld => ?_)
   clear hK K
   refine noX ?_
   refine puX 3 6 (MK [4, 15]) HT_.out ?_
   refine puX 4 7 (MK [5, 14]) HT_.out ?_
   refine taX 5 8 (MK [6, 13]) HT_.out HW_.out hHeld ?_
   refine onX 6 9 (MK [7, 12]) HT_.out (fun K hK => ?_)
   refine goes_ Try.func39 (by kernel_rfl) rfl #[.agg #[.int .i64 a0_0, .int .i64 a0_1, .int .i64 a0_2, .int .i64 a0_3]] (by rfl) rfl rfl upL ?_
   with_reducible refine (rect_Area.calls a0_0 a0_1 a0_2 a0_3 t122 _ A4.out).mono ?_
   rintro e w15 ⟨rfl, hb⟩
   refine ⟨_, rfl, ?_⟩
   replace BK120 := AS (blk_below (g := gb120) (o := .cells #[.int .i64 a0_0, .int .i64 a0_1, .int .i64 a0_2, .int .i64 a0_3, .slice A0_4 l0_4.length c0_4] 26) (upK BK120.out) hb)
   replace HB := AS (below_step (upB HB.out) hb)
   (try clear hb; try clear hb2; try clear hk; try clear hi)
   refine hK.out _ _ ⟨bc BK120 0, bc BK120 1, bc BK120 2, bc BK120 3, bc BK120 4⟩ (fun hHeld => ?_)
   clear hK K
   refine noX ?_
   refine puX 7 10 (MK [8, 11]) HT_.out ?_
   refine puX 8 11 (MK [9, 10]) HT_.out ?_
   refine puX 9 12 (MK [10, 9]) HT_.out ?_
   refine puU 10 13 (MK [11, 8]) HT_.out ?_
   refine puU 11 14 (MK [12, 7]) HT_.out ?_
   refine puU 12 15 (MK [13, 6]) HT_.out ?_
   refine puU 13 16 (MK [14, 5]) HT_.out ?_
   refine puU 14 17 (MK [15, 4]) HT_.out ?_
   refine puU 15 18 (MK [16, 3]) HT_.out ?_
   refine puU 16 19 (MK [17, 2]) HT_.out ?_
   refine puX 17 20 (MK [18, 1]) HT_.out ?_
   refine puX 18 2 (MK [19]) HT_.out ?_
   refine done_ (done_of HT_.out (by kernel_rfl)) ?_
   try go_wp2
   go_ret
   exact ⟨by first | rfl | (simp [errW_none, errW_some] <;> rfl) | (simp [*, errW_none, errW_some] <;> rfl), by repeat (first | (with_reducible first | exact HB.out | apply below_alloc | apply pw_below_drewN | apply below_drew1 | refine below_set ?_ GE120.out) | exact HB.out)⟩
 ·replace c3 := Bool.eq_false_iff.mpr c3
  subst c3
  rw [if_neg (show ¬ (false = true) by decide)] at H
  obtain rfl := Option.some.inj H
  go_enter Try.func20, Try.ntmps20
  try go_wp2_with (first | ((with_reducible refine gate_dst (N := 1) rfl ?_); (try (refine gate_guard (by rfl) ?_; dsimp only)); refine box_event ?hg (N := 1) ?hd (cs := #[.int .i64 a0_0, .int .i64 a0_1, .int .i64 a0_2, .int .i64 a0_3, .slice A0_4 l0_4.length c0_4]) (t := 26) ?hr ?_; (case hd => rfl); (case hg => rfl); (case hr => first | (go_simp; done) | (go_simp; rfl)); intro gb120 hg w16 hbox hb; have BK120 := AS (hbox); have GW120 := AS ((by rw [hg]; exact (below_size (upB HB.out)) : w.heap.size ≤ gb120)); have GE120 := AS ((by rw [hg]; exact (below_size (upB HB.out)) : w.heap.size ≤ gb120)); replace HB := AS (below_step (upB HB.out) hb); clear hb hbox hg))
  replace BK120 := AS (blk_drew BK120.out)
  replace HB := AS (below_drew1 HB.out)
  refine start_ (n := 19) (S := fun w' => ce w' gb120 0 (.int .i64 a0_0) ∧ ce w' gb120 1 (.int .i64 a0_1) ∧ ce w' gb120 2 (.int .i64 a0_2) ∧ ce w' gb120 3 (.int .i64 a0_3) ∧ ce w' gb120 4 (.slice A0_4 l0_4.length c0_4)) (ds := []) #[false, false, false, false, false, false, false, false, false, false, false, false, false, false, false, false, false, false, false] (by kernel_rfl) rfl rfl ⟨bc BK120 0, bc BK120 1, bc BK120 2, bc BK120 3, bc BK120 4⟩ (fun hHeld => ?_); refine with_tabW plane_Valid.tab1 plane_Valid.bits1 (fun HT_ HW_ => ?_)
  generalize w16.drew = w17 at BK120 HB hHeld ⊢
  refine puX 0 3 (MK [1, 18]) HT_.out ?_
  refine taX 1 4 (MK [2, 17]) HT_.out HW_.out hHeld ?_
  refine onX 2 5 (MK [3, 16]) HT_.out (fun K hK => ?_)
  refine goes_ Try.func38 (by kernel_rfl) rfl #[.agg #[.int .i64 a0_0, .int .i64 a0_1, .int .i64 a0_2, .int .i64 a0_3]] (by rfl) rfl rfl upL ?_
  with_reducible refine (rect_Valid.calls a0_0 a0_1 a0_2 a0_3 false _ A2.out).mono ?_
  rintro e w18 ⟨rfl, hb⟩
  refine ⟨_, rfl, ?_⟩
  replace BK120 := AS (blk_below (g := gb120) (o := .cells #[.int .i64 a0_0, .int .i64 a0_1, .int .i64 a0_2, .int .i64 a0_3, .slice A0_4 l0_4.length c0_4] 26) (upK BK120.out) hb)
  replace HB := AS (below_step (upB HB.out) hb)
  (try clear hb; try clear hb2; try clear hk; try clear hi)
  refine hK.out _ _ ⟨bc BK120 0, bc BK120 1, bc BK120 2, bc BK120 3, bc BK120 4⟩ (fun hHeld => ?_)
  clear hK K
  refine noX ?_
  refine puX 3 6 (MK [4, 15]) HT_.out ?_
  refine puU 4 7 (MK [5, 14]) HT_.out ?_
  refine puU 5 8 (MK [6, 13]) HT_.out ?_
  refine puU 6 9 (MK [7, 12]) HT_.out ?_
  refine puU 7 10 (MK [8, 11]) HT_.out ?_
  refine puX 8 11 (MK [9, 10]) HT_.out ?_
  refine puX 9 12 (MK [10, 9]) HT_.out ?_
  refine puU 10 13 (MK [11, 8]) HT_.out ?_
  refine puU 11 14 (MK [12, 7]) HT_.out ?_
  refine puU 12 15 (MK [13, 6]) HT_.out ?_
  refine puU 13 16 (MK [14, 5]) HT_.out ?_
  refine puU 14 17 (MK [15, 4]) HT_.out ?_
  refine puU 15 18 (MK [16, 3]) HT_.out ?_
  refine puU 16 19 (MK [17, 2]) HT_.out ?_
  refine puX 17 20 (MK [18, 1]) HT_.out ?_
  refine puX 18 2 (MK [19]) HT_.out ?_
  refine done_ (done_of HT_.out (by kernel_rfl)) ?_
  try go_wp2
  go_ret
  exact ⟨by first | rfl | (simp [errW_none, errW_some] <;> rfl) | (simp [*, errW_none, errW_some] <;> rfl), by repeat (first | (with_reducible first | exact HB.out | apply below_alloc | apply pw_below_drewN | apply below_drew1 | refine below_set ?_ GE120.out) | exact HB.out)⟩

end Go.Proofs.Ythemchggmlpdhaa.Q
