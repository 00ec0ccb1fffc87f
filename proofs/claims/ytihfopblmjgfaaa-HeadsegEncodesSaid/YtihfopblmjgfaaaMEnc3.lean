/- Texts of this session (words and printed walks, merged by wip/tools/merge.py) for the statement of the claim. -/
import Derived.Test.YtihfopblmjgfaaaMEnc1
import Derived.Test.YtihfopblmjgfaaaMEnc2
/- Printed walk, shortened (wip/tools/unmerge.py). -/
namespace Go.Proofs.Ytihfopblmjgfaaa.Q
open Go.RowKit Go.Proofs.YtihfopblmjgfaaaW.PrintWords Go.Proofs.YtihfopblmjgfaaaW.PrintLast Go.Proofs.YtihfopblmjgfaaaW.PrintMore
attribute [local go_sem] max2_int min2_int max_two min_two max_three min_three max_four min_four   -- for this text's walks alone
set_option linter.unusedVariables false
set_option linter.unusedSimpArgs false

/-! ### rect_Reduce: function 70 -/
def rect_Reduce.j0 : Nat → Int → Int → Bool → Int → Int → Int → Int → Option (Int × Int × Int × Int)
  | 0, _, _, _, _, _, _, _ => none
  | k + 1, x1, x2, x25, x753000, x753001, x753002, x753003 => if x25 = true then (some (0, 0, 0, 0)) else ((rect_CeilDiv.f x753000 x1).bind fun t755 => ((rect_CeilDiv.f x753001 x2).bind fun t756 => ((rect_CeilDiv.f x753002 x1).bind fun t757 => ((rect_CeilDiv.f x753003 x2).bind fun t758 => (some (t755, t756, t757, t758))))))
def rect_Reduce.f (k : Nat) (a0_0 : Int) (a0_1 : Int) (a0_2 : Int) (a0_3 : Int) (a1 : Int) (a2 : Int) : Option (Int × Int × Int × Int) := (rect_Valid.f a0_0 a0_1 a0_2 a0_3).bind fun t754 => (if t754 = true then (if a1 < 1 then (rect_Reduce.j0 k a1 a2 true a0_0 a0_1 a0_2 a0_3) else (if a1 > 4096 then (rect_Reduce.j0 k a1 a2 true a0_0 a0_1 a0_2 a0_3) else (if a2 < 1 then (rect_Reduce.j0 k a1 a2 true a0_0 a0_1 a0_2 a0_3) else (rect_Reduce.j0 k a1 a2 (decide (a2 > 4096)) a0_0 a0_1 a0_2 a0_3)))) else (rect_Reduce.j0 k a1 a2 true a0_0 a0_1 a0_2 a0_3))
theorem rect_Reduce.mono_l : ∀ k, (∀ y0 y1 y2 y3 y4 y5 y6, LeO (rect_Reduce.j0 k y0 y1 y2 y3 y4 y5 y6) (rect_Reduce.j0 (k + 1) y0 y1 y2 y3 y4 y5 y6))
  | 0 => fun _ _ _ _ _ _ _ r h => by simp [rect_Reduce.j0] at h
  | k + 1 => by
    have ih0 := rect_Reduce.mono_l k
    · intro y0 y1 y2 y3 y4 y5 y6
      unfold rect_Reduce.j0
      repeat' first
      | (with_reducible exact ih0 _ _ _ _ _ _ _)
      | (with_reducible exact LeO.refl _)
      | (with_reducible exact LeO.none _)
      | (with_reducible refine LeO.ite ?_ ?_)
      | (with_reducible refine LeO.bind ?_ (fun _ => ?_))
      | exact ih0 _ _ _ _ _ _ _
      | exact LeO.none _
      | refine LeO.ite ?_ ?_
      | refine LeO.bind ?_ (fun _ => ?_)
theorem rect_Reduce.mono : ∀ a0 a1 a2 a3 a4 a5 k, LeO (rect_Reduce.f k a0 a1 a2 a3 a4 a5) (rect_Reduce.f (k + 1) a0 a1 a2 a3 a4 a5) := by
  intro a0 a1 a2 a3 a4 a5 k
  have ih0 := rect_Reduce.mono_l k
  unfold rect_Reduce.f
  repeat' first
      | (with_reducible exact ih0 _ _ _ _ _ _ _)
      | (with_reducible exact LeO.refl _)
      | (with_reducible exact LeO.none _)
      | (with_reducible refine LeO.ite ?_ ?_)
      | (with_reducible refine LeO.bind ?_ (fun _ => ?_))
      | exact ih0 _ _ _ _ _ _ _
      | exact LeO.none _
      | refine LeO.ite ?_ ?_
      | refine LeO.bind ?_ (fun _ => ?_)
def rect_Reduce.T3 : Bool × List (List Nat × List Nat) := (true, [([], []), ([0], [0]), ([], []), ([1, 2], [1, 2]), ([], []), ([4], [4]), ([], []), ([5, 6, 3], [5, 6]), ([], []), ([8], [8]), ([], []), ([9, 10, 7], [9, 10]), ([], []), ([12], [12]), ([], []), ([13, 14, 11], [13, 14]), ([3, 7, 11, 15], [3, 7, 11, 15]), ([16, 15, 0, 1, 2, 3, 4, 5, 6, 7, 8, 9, 10, 11, 12, 13, 14, 15, 16], [16])])
def rect_Reduce.B3 : List Nat := [0, 1, 0, 7, 0, 16, 0, 127, 0, 256, 0, 2047, 0, 4096, 0, 32767, 65535, 131071]
theorem rect_Reduce.tab3 : rtab .any (opsOf Try.f70 3) = rect_Reduce.T3 := by kernel_rfl
theorem rect_Reduce.bits3 : waitsOk rect_Reduce.T3.2 rect_Reduce.B3 = true := by kernel_rfl
set_option maxHeartbeats 8000000 in
set_option maxRecDepth 100000 in
theorem rect_Reduce.calls (k : Nat) (a0_0 : Int) (a0_1 : Int) (a0_2 : Int) (a0_3 : Int) (a1 : Int) (a2 : Int) (r1 : Int) (r2 : Int) (r3 : Int) (r4 : Int) (w : World) (h : rect_Reduce.f k a0_0 a0_1 a0_2 a0_3 a1 a2 = some (r1, r2, r3, r4)) :
    Calls Try.prog 70 #[.agg #[.int .i64 a0_0, .int .i64 a0_1, .int .i64 a0_2, .int .i64 a0_3], .int .i64 a1, .int .i64 a2] w fun e w' => e = .returned (.agg #[.int .i64 r1, .int .i64 r2, .int .i64 r3, .int .i64 r4]) ∧ Below w.heap.size w w' := by
  have hu64 := Try.underlying64
  have HB := Aside0.mk (Below.refl w.heap.size w)
  have H : ((rect_Valid.f a0_0 a0_1 a0_2 a0_3).bind fun t754 => (if t754 = true then (if a1 < 1 then (rect_Reduce.j0 k a1 a2 true a0_0 a0_1 a0_2 a0_3) else (if a1 > 4096 then (rect_Reduce.j0 k a1 a2 true a0_0 a0_1 a0_2 a0_3) else (if a2 < 1 then (rect_Reduce.j0 k a1 a2 true a0_0 a0_1 a0_2 a0_3) else (rect_Reduce.j0 k a1 a2 (decide (a2 > 4096)) a0_0 a0_1 a0_2 a0_3)))) else (rect_Reduce.j0 k a1 a2 true a0_0 a0_1 a0_2 a0_3))) = some (r1, r2, r3, r4) := h
  clear h
  have HC4 := Aside0.mk H
  clear H
  go_enter Try.func70, Try.ntmps70
  go_upto_region 1 with (first | ((with_reducible refine gate_dst (N := 3) rfl ?_); refine box_event ?hg (N := 3) ?hd (cs := #[.int .i64 a0_0, .int .i64 a0_1, .int .i64 a0_2, .int .i64 a0_3]) (t := 64) ?hr ?_; (case hd => rfl); (case hg => rfl); (case hr => first | (go_simp; done) | (go_simp; rfl)); intro gb752 hg w5 hbox hb; have BK752 := Aside0.mk (hbox); have GW752 := Aside0.mk ((by rw [hg]; exact (below_size (upB HB.out)) : w.heap.size ≤ gb752)); have GE752 := Aside0.mk ((by rw [hg]; exact (below_size (upB HB.out)) : w.heap.size ≤ gb752)); replace HB := Aside0.mk (below_step (upB HB.out) hb); clear hb hbox hg) | ((with_reducible refine gate_dst (N := 6) rfl ?_); refine box_event ?hg (N := 6) ?hd (cs := #[.int .i64 0, .int .i64 0, .int .i64 0, .int .i64 0]) (t := 64) ?hr ?_; (case hd => rfl); (case hg => rfl); (case hr => first | (go_simp; done) | (go_simp; rfl)); intro gb753 hg w6 hbox hb; have BK753 := Aside0.mk (hbox); have GW753 := Aside0.mk ((by rw [hg]; exact (below_size (upB HB.out)) : w.heap.size ≤ gb753)); have GE753 := Aside0.mk ((by rw [hg]; exact (below_size (upB HB.out)) : w.heap.size ≤ gb753)); replace HB := Aside0.mk (below_step (upB HB.out) hb); have NB752_753 := Aside0.mk ((by rw [hg]; exact Nat.ne_of_lt (blk_lt (upK BK752.out)) : gb752 ≠ gb753)); have NB753_752 := Aside0.mk ((by rw [hg]; exact Nat.ne_of_gt (blk_lt (upK BK752.out)) : gb753 ≠ gb752)); replace BK752 := Aside0.mk (blk_below (g := gb752) (o := .cells #[.int .i64 a0_0, .int .i64 a0_1, .int .i64 a0_2, .int .i64 a0_3] 64 (0, 0)) (upK BK752.out) hb); clear hb hbox hg))
  (try simp only [Act.put, List.setIfInBounds_toArray, List.set_cons_zero, List.set_cons_succ])
  go_cut [25] (fun v25 wc => ∃ (kq : Nat) (x25_3 : Bool), v25 = .bool x25_3 ∧ Aside0 (rect_Reduce.j0 kq a1 a2 x25_3 a0_0 a0_1 a0_2 a0_3 = some (r1, r2, r3, r4)) ∧ Aside0 (kq ≤ k) ∧ Aside0 (wc.heap[gb752]? = some (.cells #[.int .i64 a0_0, .int .i64 a0_1, .int .i64 a0_2, .int .i64 a0_3] 64 (0, 0))) ∧ Aside0 (wc.heap[gb753]? = some (.cells #[.int .i64 0, .int .i64 0, .int .i64 0, .int .i64 0] 64 (0, 0))) ∧ Aside0 (Below w.heap.size w wc))
  case first =>
    have H := HC4.out
    clear HC4
    replace H := Option.bind_eq_some_iff.mp H
    obtain ⟨t754, A70, H⟩ := H
    replace H : (if t754 = true then (if a1 < 1 then (rect_Reduce.j0 k a1 a2 true a0_0 a0_1 a0_2 a0_3) else (if a1 > 4096 then (rect_Reduce.j0 k a1 a2 true a0_0 a0_1 a0_2 a0_3) else (if a2 < 1 then (rect_Reduce.j0 k a1 a2 true a0_0 a0_1 a0_2 a0_3) else (rect_Reduce.j0 k a1 a2 (decide (a2 > 4096)) a0_0 a0_1 a0_2 a0_3)))) else (rect_Reduce.j0 k a1 a2 true a0_0 a0_1 a0_2 a0_3)) = some (r1, r2, r3, r4) := H
    have A7 := Aside0.mk A70
    clear A70
    by_cases c8 : t754 = true
    · subst c8
      have H1 : (if a1 < 1 then (rect_Reduce.j0 k a1 a2 true a0_0 a0_1 a0_2 a0_3) else (if a1 > 4096 then (rect_Reduce.j0 k a1 a2 true a0_0 a0_1 a0_2 a0_3) else (if a2 < 1 then (rect_Reduce.j0 k a1 a2 true a0_0 a0_1 a0_2 a0_3) else (rect_Reduce.j0 k a1 a2 (decide (a2 > 4096)) a0_0 a0_1 a0_2 a0_3)))) = some (r1, r2, r3, r4) := by rw [if_pos rfl] at H; exact H
      clear H
      have H := H1
      clear H1
      by_cases c9 : a1 < 1
      · rw [if_pos c9] at H
        have c9b0 : decide (a1 < 1) = true := decide_eq_true c9
        clear c9
        (first | rw [c9b0] | (simp only [i64_w, i32_w]; rw [c9b0]) | skip)
        have H' := Aside0.mk H
        clear H
        have hnb10 := NB752_753.out
        have hnc10 := NB753_752.out
        have hcz11_0 : w6.cell? ⟨gb752, 0, none⟩ = some (.int .i64 a0_0) := bc BK752 0
        have hcz11_1 : w6.cell? ⟨gb752, 1, none⟩ = some (.int .i64 a0_1) := bc BK752 1
        have hcz11_2 : w6.cell? ⟨gb752, 2, none⟩ = some (.int .i64 a0_2) := bc BK752 2
        have hcz11_3 : w6.cell? ⟨gb752, 3, none⟩ = some (.int .i64 a0_3) := bc BK752 3
        have hfz11_0 := blk_frozen BK752.out 0
        have hfz11_1 := blk_frozen BK752.out 1
        have hfz11_2 := blk_frozen BK752.out 2
        have hfz11_3 := blk_frozen BK752.out 3
        go_wp2_with (first | ((with_reducible refine gate_callee (f := 67) rfl ?_); refine goesL_ (some 8) rfl rfl Try.func67 (by kernel_rfl) rfl #[.agg #[.int .i64 a0_0, .int .i64 a0_1, .int .i64 a0_2, .int .i64 a0_3]] rfl upL ?_; (with_reducible refine (rect_Valid.calls a0_0 a0_1 a0_2 a0_3 true _ A7.out).mono ?_); rintro e w12 ⟨rfl, hb⟩; refine ⟨_, rfl, ?_⟩; replace BK752 := Aside0.mk (blk_below (g := gb752) (o := .cells #[.int .i64 a0_0, .int .i64 a0_1, .int .i64 a0_2, .int .i64 a0_3] 64 (0, 0)) (upK BK752.out) hb); replace BK753 := Aside0.mk (blk_below (g := gb753) (o := .cells #[.int .i64 0, .int .i64 0, .int .i64 0, .int .i64 0] 64 (0, 0)) (upK BK753.out) hb); replace HB := Aside0.mk (below_step (upB HB.out) hb); (try clear hb; try clear hb2; try clear hk; try clear hi)))
        go_meet
        case rel => exact ⟨_, (true), (by first | rfl | (simp; done) | (simp [*]; done)), H', ⟨by first | omega | exact Nat.le_refl _⟩, ⟨by (with_reducible repeat (first | refine blk_drewN ?_ _ | refine blk_drew ?_ | refine blk_alloc ?_ _)); exact BK752.out⟩, ⟨by (with_reducible repeat (first | refine blk_drewN ?_ _ | refine blk_drew ?_ | refine blk_alloc ?_ _)); exact BK753.out⟩, ⟨by repeat (first | (with_reducible first | exact HB.out | apply below_alloc | apply pw_below_drewN | apply below_drew1 | refine below_set ?_ GE752.out | refine below_set ?_ GE753.out) | exact HB.out)⟩⟩
      · rw [if_neg c9] at H
        have c9b0 : decide (a1 < 1) = false := decide_eq_false c9
        clear c9
        (first | rw [c9b0] | (simp only [i64_w, i32_w]; rw [c9b0]) | skip)
        by_cases c13 : a1 > 4096
        · rw [if_pos c13] at H
          have c13b0 : decide (4096 < a1) = true := decide_eq_true c13
          clear c13
          have H' := Aside0.mk H
          clear H
          have hnb14 := NB752_753.out
          have hnc14 := NB753_752.out
          have hcz15_0 : w6.cell? ⟨gb752, 0, none⟩ = some (.int .i64 a0_0) := bc BK752 0
          have hcz15_1 : w6.cell? ⟨gb752, 1, none⟩ = some (.int .i64 a0_1) := bc BK752 1
          have hcz15_2 : w6.cell? ⟨gb752, 2, none⟩ = some (.int .i64 a0_2) := bc BK752 2
          have hcz15_3 : w6.cell? ⟨gb752, 3, none⟩ = some (.int .i64 a0_3) := bc BK752 3
          have hfz15_0 := blk_frozen BK752.out 0
          have hfz15_1 := blk_frozen BK752.out 1
          have hfz15_2 := blk_frozen BK752.out 2
          have hfz15_3 := blk_frozen BK752.out 3
          go_wp2_with (first | ((with_reducible refine gate_callee (f := 67) rfl ?_); refine goesL_ (some 8) rfl rfl Try.func67 (by kernel_rfl) rfl #[.agg #[.int .i64 a0_0, .int .i64 a0_1, .int .i64 a0_2, .int .i64 a0_3]] rfl upL ?_; (with_reducible refine (rect_Valid.calls a0_0 a0_1 a0_2 a0_3 true _ A7.out).mono ?_); rintro e w16 ⟨rfl, hb⟩; refine ⟨_, rfl, ?_⟩; replace BK752 := Aside0.mk (blk_below (g := gb752) (o := .cells #[.int .i64 a0_0, .int .i64 a0_1, .int .i64 a0_2, .int .i64 a0_3] 64 (0, 0)) (upK BK752.out) hb); replace BK753 := Aside0.mk (blk_below (g := gb753) (o := .cells #[.int .i64 0, .int .i64 0, .int .i64 0, .int .i64 0] 64 (0, 0)) (upK BK753.out) hb); replace HB := Aside0.mk (below_step (upB HB.out) hb); (try clear hb; try clear hb2; try clear hk; try clear hi)))
          go_meet
          case rel => exact ⟨_, (true), (by first | rfl | (simp; done) | (simp [*]; done)), H', ⟨by first | omega | exact Nat.le_refl _⟩, ⟨by (with_reducible repeat (first | refine blk_drewN ?_ _ | refine blk_drew ?_ | refine blk_alloc ?_ _)); exact BK752.out⟩, ⟨by (with_reducible repeat (first | refine blk_drewN ?_ _ | refine blk_drew ?_ | refine blk_alloc ?_ _)); exact BK753.out⟩, ⟨by repeat (first | (with_reducible first | exact HB.out | apply below_alloc | apply pw_below_drewN | apply below_drew1 | refine below_set ?_ GE752.out | refine below_set ?_ GE753.out) | exact HB.out)⟩⟩
        · rw [if_neg c13] at H
          have c13b0 : decide (4096 < a1) = false := decide_eq_false c13
          clear c13
          by_cases c17 : a2 < 1
          · rw [if_pos c17] at H
            have c17b0 : decide (a2 < 1) = true := decide_eq_true c17
            clear c17
            have H' := Aside0.mk H
            clear H
            have hnb18 := NB752_753.out
            have hnc18 := NB753_752.out
            have hcz19_0 : w6.cell? ⟨gb752, 0, none⟩ = some (.int .i64 a0_0) := bc BK752 0
            have hcz19_1 : w6.cell? ⟨gb752, 1, none⟩ = some (.int .i64 a0_1) := bc BK752 1
            have hcz19_2 : w6.cell? ⟨gb752, 2, none⟩ = some (.int .i64 a0_2) := bc BK752 2
            have hcz19_3 : w6.cell? ⟨gb752, 3, none⟩ = some (.int .i64 a0_3) := bc BK752 3
            have hfz19_0 := blk_frozen BK752.out 0
            have hfz19_1 := blk_frozen BK752.out 1
            have hfz19_2 := blk_frozen BK752.out 2
            have hfz19_3 := blk_frozen BK752.out 3
            go_wp2_with (first | ((with_reducible refine gate_callee (f := 67) rfl ?_); refine goesL_ (some 8) rfl rfl Try.func67 (by kernel_rfl) rfl #[.agg #[.int .i64 a0_0, .int .i64 a0_1, .int .i64 a0_2, .int .i64 a0_3]] rfl upL ?_; (with_reducible refine (rect_Valid.calls a0_0 a0_1 a0_2 a0_3 true _ A7.out).mono ?_); rintro e w20 ⟨rfl, hb⟩; refine ⟨_, rfl, ?_⟩; replace BK752 := Aside0.mk (blk_below (g := gb752) (o := .cells #[.int .i64 a0_0, .int .i64 a0_1, .int .i64 a0_2, .int .i64 a0_3] 64 (0, 0)) (upK BK752.out) hb); replace BK753 := Aside0.mk (blk_below (g := gb753) (o := .cells #[.int .i64 0, .int .i64 0, .int .i64 0, .int .i64 0] 64 (0, 0)) (upK BK753.out) hb); replace HB := Aside0.mk (below_step (upB HB.out) hb); (try clear hb; try clear hb2; try clear hk; try clear hi)))
            go_meet
            case rel => exact ⟨_, (true), (by first | rfl | (simp; done) | (simp [*]; done)), H', ⟨by first | omega | exact Nat.le_refl _⟩, ⟨by (with_reducible repeat (first | refine blk_drewN ?_ _ | refine blk_drew ?_ | refine blk_alloc ?_ _)); exact BK752.out⟩, ⟨by (with_reducible repeat (first | refine blk_drewN ?_ _ | refine blk_drew ?_ | refine blk_alloc ?_ _)); exact BK753.out⟩, ⟨by repeat (first | (with_reducible first | exact HB.out | apply below_alloc | apply pw_below_drewN | apply below_drew1 | refine below_set ?_ GE752.out | refine below_set ?_ GE753.out) | exact HB.out)⟩⟩
          · rw [if_neg c17] at H
            have c17b0 : decide (a2 < 1) = false := decide_eq_false c17
            clear c17
            have H' := Aside0.mk H
            clear H
            have hnb21 := NB752_753.out
            have hnc21 := NB753_752.out
            have hcz22_0 : w6.cell? ⟨gb752, 0, none⟩ = some (.int .i64 a0_0) := bc BK752 0
            have hcz22_1 : w6.cell? ⟨gb752, 1, none⟩ = some (.int .i64 a0_1) := bc BK752 1
            have hcz22_2 : w6.cell? ⟨gb752, 2, none⟩ = some (.int .i64 a0_2) := bc BK752 2
            have hcz22_3 : w6.cell? ⟨gb752, 3, none⟩ = some (.int .i64 a0_3) := bc BK752 3
            have hfz22_0 := blk_frozen BK752.out 0
            have hfz22_1 := blk_frozen BK752.out 1
            have hfz22_2 := blk_frozen BK752.out 2
            have hfz22_3 := blk_frozen BK752.out 3
            go_wp2_with (first | ((with_reducible refine gate_callee (f := 67) rfl ?_); refine goesL_ (some 8) rfl rfl Try.func67 (by kernel_rfl) rfl #[.agg #[.int .i64 a0_0, .int .i64 a0_1, .int .i64 a0_2, .int .i64 a0_3]] rfl upL ?_; (with_reducible refine (rect_Valid.calls a0_0 a0_1 a0_2 a0_3 true _ A7.out).mono ?_); rintro e w23 ⟨rfl, hb⟩; refine ⟨_, rfl, ?_⟩; replace BK752 := Aside0.mk (blk_below (g := gb752) (o := .cells #[.int .i64 a0_0, .int .i64 a0_1, .int .i64 a0_2, .int .i64 a0_3] 64 (0, 0)) (upK BK752.out) hb); replace BK753 := Aside0.mk (blk_below (g := gb753) (o := .cells #[.int .i64 0, .int .i64 0, .int .i64 0, .int .i64 0] 64 (0, 0)) (upK BK753.out) hb); replace HB := Aside0.mk (below_step (upB HB.out) hb); (try clear hb; try clear hb2; try clear hk; try clear hi)))
            go_meet
            case rel => exact ⟨_, (decide (a2 > 4096)), (by first | rfl | (simp; done) | (simp [*]; done)), H', ⟨by first | omega | exact Nat.le_refl _⟩, ⟨by (with_reducible repeat (first | refine blk_drewN ?_ _ | refine blk_drew ?_ | refine blk_alloc ?_ _)); exact BK752.out⟩, ⟨by (with_reducible repeat (first | refine blk_drewN ?_ _ | refine blk_drew ?_ | refine blk_alloc ?_ _)); exact BK753.out⟩, ⟨by repeat (first | (with_reducible first | exact HB.out | apply below_alloc | apply pw_below_drewN | apply below_drew1 | refine below_set ?_ GE752.out | refine below_set ?_ GE753.out) | exact HB.out)⟩⟩
    · replace c8 := Bool.eq_false_iff.mpr c8
      subst c8
      have H1 : (rect_Reduce.j0 k a1 a2 true a0_0 a0_1 a0_2 a0_3) = some (r1, r2, r3, r4) := by rw [if_neg (show ¬ (false = true) by decide)] at H; exact H
      clear H
      have H := H1
      clear H1
      have H' := Aside0.mk H
      clear H
      have hnb24 := NB752_753.out
      have hnc24 := NB753_752.out
      have hcz25_0 : w6.cell? ⟨gb752, 0, none⟩ = some (.int .i64 a0_0) := bc BK752 0
      have hcz25_1 : w6.cell? ⟨gb752, 1, none⟩ = some (.int .i64 a0_1) := bc BK752 1
      have hcz25_2 : w6.cell? ⟨gb752, 2, none⟩ = some (.int .i64 a0_2) := bc BK752 2
      have hcz25_3 : w6.cell? ⟨gb752, 3, none⟩ = some (.int .i64 a0_3) := bc BK752 3
      have hfz25_0 := blk_frozen BK752.out 0
      have hfz25_1 := blk_frozen BK752.out 1
      have hfz25_2 := blk_frozen BK752.out 2
      have hfz25_3 := blk_frozen BK752.out 3
      go_wp2_with (first | ((with_reducible refine gate_callee (f := 67) rfl ?_); refine goesL_ (some 8) rfl rfl Try.func67 (by kernel_rfl) rfl #[.agg #[.int .i64 a0_0, .int .i64 a0_1, .int .i64 a0_2, .int .i64 a0_3]] rfl upL ?_; (with_reducible refine (rect_Valid.calls a0_0 a0_1 a0_2 a0_3 false _ A7.out).mono ?_); rintro e w26 ⟨rfl, hb⟩; refine ⟨_, rfl, ?_⟩; replace BK752 := Aside0.mk (blk_below (g := gb752) (o := .cells #[.int .i64 a0_0, .int .i64 a0_1, .int .i64 a0_2, .int .i64 a0_3] 64 (0, 0)) (upK BK752.out) hb); replace BK753 := Aside0.mk (blk_below (g := gb753) (o := .cells #[.int .i64 0, .int .i64 0, .int .i64 0, .int .i64 0] 64 (0, 0)) (upK BK753.out) hb); replace HB := Aside0.mk (below_step (upB HB.out) hb); (try clear hb; try clear hb2; try clear hk; try clear hi)))
      go_meet
      case rel => exact ⟨_, (true), (by first | rfl | (simp; done) | (simp [*]; done)), H', ⟨by first | omega | exact Nat.le_refl _⟩, ⟨by (with_reducible repeat (first | refine blk_drewN ?_ _ | refine blk_drew ?_ | refine blk_alloc ?_ _)); exact BK752.out⟩, ⟨by (with_reducible repeat (first | refine blk_drewN ?_ _ | refine blk_drew ?_ | refine blk_alloc ?_ _)); exact BK753.out⟩, ⟨by repeat (first | (with_reducible first | exact HB.out | apply below_alloc | apply pw_below_drewN | apply below_drew1 | refine below_set ?_ GE752.out | refine below_set ?_ GE753.out) | exact HB.out)⟩⟩
  case rest =>
    clear HC4
    try clear c1
    try clear c2
    try clear p2
    try clear c6
    try clear c7
    try clear c8
    try clear c9
    try clear c9b0
    try clear c10
    try clear c13
    try clear c13b0
    try clear c14
    try clear c17
    try clear c17b0
    try clear c18
    try clear c21
    try clear c24
    try clear hcz11_0
    try clear hcz11_1
    try clear hcz11_2
    try clear hcz11_3
    try clear hcz15_0
    try clear hcz15_1
    try clear hcz15_2
    try clear hcz15_3
    try clear hcz19_0
    try clear hcz19_1
    try clear hcz19_2
    try clear hcz19_3
    try clear hcz22_0
    try clear hcz22_1
    try clear hcz22_2
    try clear hcz22_3
    try clear hcz25_0
    try clear hcz25_1
    try clear hcz25_2
    try clear hcz25_3
    try clear hfz11_0
    try clear hfz11_1
    try clear hfz11_2
    try clear hfz11_3
    try clear hfz15_0
    try clear hfz15_1
    try clear hfz15_2
    try clear hfz15_3
    try clear hfz19_0
    try clear hfz19_1
    try clear hfz19_2
    try clear hfz19_3
    try clear hfz22_0
    try clear hfz22_1
    try clear hfz22_2
    try clear hfz22_3
    try clear hfz25_0
    try clear hfz25_1
    try clear hfz25_2
    try clear hfz25_3
    obtain ⟨kq, x25_3, rfl, HA, HJ3, BK752, BK753, HB⟩ := hcut
    cases kq with
    | zero => exact absurd HA.out (by simp [rect_Reduce.j0])
    | succ kj3 =>
      have H := HA.out
      clear HA
      simp only [rect_Reduce.j0] at H
      by_cases c27 : x25_3 = true
      · subst c27
        have H1 : (some (0, 0, 0, 0)) = some (r1, r2, r3, r4) := by rw [if_pos rfl] at H; exact H
        clear H
        have H := H1
        clear H1
        simp only [Option.some.injEq, Prod.mk.injEq] at H
        obtain ⟨rfl, rfl, rfl, rfl⟩ := H
        have hnb28 := NB753_752.out
        have hnc28 := NB752_753.out
        have hcz29_0 : wc.cell? ⟨gb753, 0, none⟩ = some (.int .i64 0) := bc BK753 0
        have hcz29_1 : wc.cell? ⟨gb753, 1, none⟩ = some (.int .i64 0) := bc BK753 1
        have hcz29_2 : wc.cell? ⟨gb753, 2, none⟩ = some (.int .i64 0) := bc BK753 2
        have hcz29_3 : wc.cell? ⟨gb753, 3, none⟩ = some (.int .i64 0) := bc BK753 3
        have hfz29_0 := blk_frozen BK753.out 0
        have hfz29_1 := blk_frozen BK753.out 1
        have hfz29_2 := blk_frozen BK753.out 2
        have hfz29_3 := blk_frozen BK753.out 3
        go_wp2
        refine bodyPost_ret (results_cell_row rfl _ _ gb753 64 #[.int .i64 0, .int .i64 0, .int .i64 0, .int .i64 0] (0, 0) _ rfl (by (with_reducible repeat (first | refine blk_drewN ?_ _ | refine blk_drew ?_ | refine blk_alloc ?_ _)); refine blk_put (cs := #[.int .i64 0, .int .i64 0, .int .i64 0, .int .i64 0]) ?_ 3 _ rfl; (with_reducible repeat (first | refine blk_drewN ?_ _ | refine blk_drew ?_ | refine blk_alloc ?_ _)); refine blk_put (cs := #[.int .i64 0, .int .i64 0, .int .i64 0, .int .i64 0]) ?_ 2 _ rfl; (with_reducible repeat (first | refine blk_drewN ?_ _ | refine blk_drew ?_ | refine blk_alloc ?_ _)); refine blk_put (cs := #[.int .i64 0, .int .i64 0, .int .i64 0, .int .i64 0]) ?_ 1 _ rfl; (with_reducible repeat (first | refine blk_drewN ?_ _ | refine blk_drew ?_ | refine blk_alloc ?_ _)); refine blk_put (cs := #[.int .i64 0, .int .i64 0, .int .i64 0, .int .i64 0]) ?_ 0 _ rfl; (with_reducible repeat (first | refine blk_drewN ?_ _ | refine blk_drew ?_ | refine blk_alloc ?_ _)); exact BK753.out) Try.underlying64 rfl (by kernel_rfl)) rfl ?_
        exact ⟨by first | rfl | (simp [errW_none, errW_some] <;> rfl) | (simp [*, errW_none, errW_some] <;> rfl), by repeat (first | (with_reducible first | exact HB.out | apply below_alloc | apply pw_below_drewN | apply below_drew1 | refine below_set ?_ GE752.out | refine below_set ?_ GE753.out) | exact HB.out)⟩
      · replace c27 := Bool.eq_false_iff.mpr c27
        subst c27
        have H1 : ((rect_CeilDiv.f a0_0 a1).bind fun t755 => ((rect_CeilDiv.f a0_1 a2).bind fun t756 => ((rect_CeilDiv.f a0_2 a1).bind fun t757 => ((rect_CeilDiv.f a0_3 a2).bind fun t758 => (some (t755, t756, t757, t758)))))) = some (r1, r2, r3, r4) := by rw [if_neg (show ¬ (false = true) by decide)] at H; exact H
        clear H
        have H := H1
        clear H1
        replace H := Option.bind_eq_some_iff.mp H
        obtain ⟨t755, A300, H⟩ := H
        replace H : ((rect_CeilDiv.f a0_1 a2).bind fun t756 => ((rect_CeilDiv.f a0_2 a1).bind fun t757 => ((rect_CeilDiv.f a0_3 a2).bind fun t758 => (some (t755, t756, t757, t758))))) = some (r1, r2, r3, r4) := H
        have A30 := Aside0.mk A300
        clear A300
        replace H := Option.bind_eq_some_iff.mp H
        obtain ⟨t756, A310, H⟩ := H
        replace H : ((rect_CeilDiv.f a0_2 a1).bind fun t757 => ((rect_CeilDiv.f a0_3 a2).bind fun t758 => (some (t755, t756, t757, t758)))) = some (r1, r2, r3, r4) := H
        have A31 := Aside0.mk A310
        clear A310
        replace H := Option.bind_eq_some_iff.mp H
        obtain ⟨t757, A320, H⟩ := H
        replace H : ((rect_CeilDiv.f a0_3 a2).bind fun t758 => (some (t755, t756, t757, t758))) = some (r1, r2, r3, r4) := H
        have A32 := Aside0.mk A320
        clear A320
        replace H := Option.bind_eq_some_iff.mp H
        obtain ⟨t758, A330, H⟩ := H
        replace H : (some (t755, t756, t757, t758)) = some (r1, r2, r3, r4) := H
        have A33 := Aside0.mk A330
        clear A330
        simp only [Option.some.injEq, Prod.mk.injEq] at H
        obtain ⟨rfl, rfl, rfl, rfl⟩ := H
        try go_wp2
        replace BK752 := Aside0.mk (blk_drew BK752.out)
        replace BK753 := Aside0.mk (blk_drew BK753.out)
        replace HB := Aside0.mk (below_drew1 HB.out)
        refine start_ (n := 18) (S := fun w' => w'.cell? ⟨gb752, 0, none⟩ = some (.int .i64 a0_0) ∧ w'.cell? ⟨gb752, 1, none⟩ = some (.int .i64 a0_1) ∧ w'.cell? ⟨gb752, 2, none⟩ = some (.int .i64 a0_2) ∧ w'.cell? ⟨gb752, 3, none⟩ = some (.int .i64 a0_3)) (ds := []) #[false, false, false, false, false, false, false, false, false, false, false, false, false, false, false, false, false, false] (by kernel_rfl) rfl rfl ⟨bc BK752 0, bc BK752 1, bc BK752 2, bc BK752 3⟩ (fun hHeld => ?_); refine with_tabW rect_Reduce.tab3 rect_Reduce.bits3 (fun HT_ HW_ => ?_)
        generalize wc.drew = w34 at BK752 BK753 HB hHeld ⊢
        refine puX 0 27 (MK [1, 17]) HT_.out ?_
        refine puX 2 29 (MK [1, 1, 1, 15]) HT_.out ?_
        refine puX 4 31 (MK [1, 1, 1, 1, 1, 13]) HT_.out ?_
        refine puX 6 33 (MK [1, 1, 1, 1, 1, 1, 1, 11]) HT_.out ?_
        refine puX 8 35 (MK [1, 1, 1, 1, 1, 1, 1, 1, 1, 9]) HT_.out ?_
        refine puX 10 37 (MK [1, 1, 1, 1, 1, 1, 1, 1, 1, 1, 1, 7]) HT_.out ?_
        refine puX 12 39 (MK [1, 1, 1, 1, 1, 1, 1, 1, 1, 1, 1, 1, 1, 5]) HT_.out ?_
        refine puX 14 41 (MK [1, 1, 1, 1, 1, 1, 1, 1, 1, 1, 1, 1, 1, 1, 1, 3]) HT_.out ?_
        refine taX 1 28 (MK [3, 1, 1, 1, 1, 1, 1, 1, 1, 1, 1, 1, 1, 3]) HT_.out HW_.out hHeld ?_
        refine taX 5 32 (MK [3, 1, 3, 1, 1, 1, 1, 1, 1, 1, 1, 3]) HT_.out HW_.out hHeld ?_
        refine taX 9 36 (MK [3, 1, 3, 1, 3, 1, 1, 1, 1, 3]) HT_.out HW_.out hHeld ?_
        refine taX 13 40 (MK [3, 1, 3, 1, 3, 1, 3, 3]) HT_.out HW_.out hHeld ?_
        refine onX 3 30 (MK [7, 1, 3, 1, 3, 3]) HT_.out (fun K hK => ?_)
        refine goes_ Try.func71 (by kernel_rfl) rfl #[.int .i64 a0_0, .int .i64 a1] (by rfl) rfl rfl upL ?_
        with_reducible refine (rect_CeilDiv.calls a0_0 a1 t755 _ A30.out).mono ?_
        rintro e w' ⟨rfl, ⟨nd, rfl⟩⟩
        refine ⟨_, rfl, ?_⟩
        refine hK.out _ _ ⟨bc BK752 0, bc BK752 1, bc BK752 2, bc BK752 3⟩ (fun hHeld => ?_)
        clear hK K
        refine noX ?_
        refine onX 7 34 (MK [11, 1, 3, 3]) HT_.out (fun K hK => ?_)
        refine goes_ Try.func71 (by kernel_rfl) rfl #[.int .i64 a0_1, .int .i64 a2] (by rfl) rfl rfl upL ?_
        with_reducible refine (rect_CeilDiv.calls a0_1 a2 t756 _ A31.out).mono ?_
        rintro e w' ⟨rfl, ⟨nd, rfl⟩⟩
        refine ⟨_, rfl, ?_⟩
        refine hK.out _ _ ⟨bc BK752 0, bc BK752 1, bc BK752 2, bc BK752 3⟩ (fun hHeld => ?_)
        clear hK K
        refine noX ?_
        refine onX 11 38 (MK [15, 3]) HT_.out (fun K hK => ?_)
        refine goes_ Try.func71 (by kernel_rfl) rfl #[.int .i64 a0_2, .int .i64 a1] (by rfl) rfl rfl upL ?_
        with_reducible refine (rect_CeilDiv.calls a0_2 a1 t757 _ A32.out).mono ?_
        rintro e w' ⟨rfl, ⟨nd, rfl⟩⟩
        refine ⟨_, rfl, ?_⟩
        refine hK.out _ _ ⟨bc BK752 0, bc BK752 1, bc BK752 2, bc BK752 3⟩ (fun hHeld => ?_)
        clear hK K
        refine noX ?_
        refine onX 15 42 (MK [16, 2]) HT_.out (fun K hK => ?_)
        refine goes_ Try.func71 (by kernel_rfl) rfl #[.int .i64 a0_3, .int .i64 a2] (by rfl) rfl rfl upL ?_
        with_reducible refine (rect_CeilDiv.calls a0_3 a2 t758 _ A33.out).mono ?_
        rintro e w' ⟨rfl, ⟨nd, rfl⟩⟩
        refine ⟨_, rfl, ?_⟩
        refine hK.out _ _ ⟨bc BK752 0, bc BK752 1, bc BK752 2, bc BK752 3⟩ (fun hHeld => ?_)
        clear hK K
        refine noX ?_
        refine puX 16 43 (MK [17, 1]) HT_.out ?_
        refine one_ (i := 17) (N := none) #[true, true, true, true, true, true, true, true, true, true, true, true, true, true, true, true, true, true] rfl rfl (one_of HT_.out (by kernel_rfl)) (by decide) (fun K hK => ?_)
        have hs35 : w34.cell? ⟨gb753, 0, none⟩ = some (.int .i64 0) := bc BK753 0
        have hfs35 := blk_frozen BK753.out 0
        have hns35_0 := NB752_753.out
        have hms35_0 := NB753_752.out
        have hs36 : w34.cell? ⟨gb753, 1, none⟩ = some (.int .i64 0) := bc BK753 1
        have hfs36 := blk_frozen BK753.out 1
        have hns36_0 := NB752_753.out
        have hms36_0 := NB753_752.out
        have hs37 : w34.cell? ⟨gb753, 2, none⟩ = some (.int .i64 0) := bc BK753 2
        have hfs37 := blk_frozen BK753.out 2
        have hns37_0 := NB752_753.out
        have hms37_0 := NB753_752.out
        have hs38 : w34.cell? ⟨gb753, 3, none⟩ = some (.int .i64 0) := bc BK753 3
        have hfs38 := blk_frozen BK753.out 3
        have hns38_0 := NB752_753.out
        have hms38_0 := NB753_752.out
        refine skip_ (w1 := ?_) (by rfl) rfl ?_ ?_
        rotate_left
        · go_simp
          rfl
        refine hK.out _ _ ⟨((cell_far (p := ⟨gb753, _, none⟩) NB752_753.out _).trans (((cell_far (p := ⟨gb753, _, none⟩) NB752_753.out _).trans (((cell_far (p := ⟨gb753, _, none⟩) NB752_753.out _).trans (((cell_far (p := ⟨gb753, _, none⟩) NB752_753.out _).trans (hHeld.1)))))))), ((cell_far (p := ⟨gb753, _, none⟩) NB752_753.out _).trans (((cell_far (p := ⟨gb753, _, none⟩) NB752_753.out _).trans (((cell_far (p := ⟨gb753, _, none⟩) NB752_753.out _).trans (((cell_far (p := ⟨gb753, _, none⟩) NB752_753.out _).trans (hHeld.2.1)))))))), ((cell_far (p := ⟨gb753, _, none⟩) NB752_753.out _).trans (((cell_far (p := ⟨gb753, _, none⟩) NB752_753.out _).trans (((cell_far (p := ⟨gb753, _, none⟩) NB752_753.out _).trans (((cell_far (p := ⟨gb753, _, none⟩) NB752_753.out _).trans (hHeld.2.2.1)))))))), ((cell_far (p := ⟨gb753, _, none⟩) NB752_753.out _).trans (((cell_far (p := ⟨gb753, _, none⟩) NB752_753.out _).trans (((cell_far (p := ⟨gb753, _, none⟩) NB752_753.out _).trans (((cell_far (p := ⟨gb753, _, none⟩) NB752_753.out _).trans (hHeld.2.2.2))))))))⟩ (fun hHeld => ?_)
        clear hK K
        refine done_ (done_of HT_.out (by kernel_rfl)) ?_
        try go_wp2
        refine bodyPost_ret (results_cell_row rfl _ _ gb753 64 #[.int .i64 t755, .int .i64 t756, .int .i64 t757, .int .i64 t758] (0, 0) _ rfl (by (with_reducible repeat (first | refine blk_drewN ?_ _ | refine blk_drew ?_ | refine blk_alloc ?_ _)); refine blk_put (cs := #[.int .i64 t755, .int .i64 t756, .int .i64 t757, .int .i64 0]) ?_ 3 _ rfl; (with_reducible repeat (first | refine blk_drewN ?_ _ | refine blk_drew ?_ | refine blk_alloc ?_ _)); refine blk_put (cs := #[.int .i64 t755, .int .i64 t756, .int .i64 0, .int .i64 0]) ?_ 2 _ rfl; (with_reducible repeat (first | refine blk_drewN ?_ _ | refine blk_drew ?_ | refine blk_alloc ?_ _)); refine blk_put (cs := #[.int .i64 t755, .int .i64 0, .int .i64 0, .int .i64 0]) ?_ 1 _ rfl; (with_reducible repeat (first | refine blk_drewN ?_ _ | refine blk_drew ?_ | refine blk_alloc ?_ _)); refine blk_put (cs := #[.int .i64 0, .int .i64 0, .int .i64 0, .int .i64 0]) ?_ 0 _ rfl; (with_reducible repeat (first | refine blk_drewN ?_ _ | refine blk_drew ?_ | refine blk_alloc ?_ _)); exact BK753.out) Try.underlying64 rfl (by kernel_rfl)) rfl ?_
        exact ⟨by first | rfl | (simp [errW_none, errW_some] <;> rfl) | (simp [*, errW_none, errW_some] <;> rfl), by repeat (first | (with_reducible first | exact HB.out | apply below_alloc | apply pw_below_drewN | apply below_drew1 | refine below_set ?_ GE752.out | refine below_set ?_ GE753.out) | exact HB.out)⟩

end Go.Proofs.Ytihfopblmjgfaaa.Q

/- Printed walk, shortened (wip/tools/unmerge.py). -/
namespace Go.Proofs.Ytihfopblmjgfaaa.Q
open Go.RowKit Go.Proofs.YtihfopblmjgfaaaW.PrintWords Go.Proofs.YtihfopblmjgfaaaW.PrintLast Go.Proofs.YtihfopblmjgfaaaW.PrintMore
attribute [local go_sem] max2_int min2_int max_two min_two max_three min_three max_four min_four   -- for this text's walks alone
set_option linter.unusedVariables false
set_option linter.unusedSimpArgs false

/-! ### rect_FloorDiv: function 72 -/
def rect_FloorDiv.f (a0 : Int) (a1 : Int) : Option (Int) := if a1 < 1 then (some 0) else (if a1 = 0 then (none) else (if (Int.tmod a0 a1) < 0 then (some (wrap64 ((wrap64 (Int.tdiv a0 a1)) - 1))) else (some (wrap64 (Int.tdiv a0 a1)))))
set_option maxHeartbeats 8000000 in
set_option maxRecDepth 100000 in
theorem rect_FloorDiv.calls (a0 : Int) (a1 : Int) (r : Int) (w : World) (h : rect_FloorDiv.f a0 a1 = some r) :
    Calls Try.prog 72 #[.int .i64 a0, .int .i64 a1] w fun e w' => e = .returned (.int .i64 r) ∧ Drawn0 w w' := by
  have H : (if a1 < 1 then (some 0) else (if a1 = 0 then (none) else (if (Int.tmod a0 a1) < 0 then (some (wrap64 ((wrap64 (Int.tdiv a0 a1)) - 1))) else (some (wrap64 (Int.tdiv a0 a1)))))) = some r := h
  clear h
  by_cases c3 : a1 < 1
  · rw [if_pos c3] at H
    have c3b0 : decide (a1 < 1) = true := decide_eq_true c3
    clear c3
    obtain rfl := Option.some.inj H
    go_enter Try.func72, Try.ntmps72
    go_wp2
    go_ret
    exact ⟨by first | rfl | (simp; done) | (simp [*]; done), by repeat (first | exact Drawn0.refl _ | apply Drawn0.step)⟩
  · rw [if_neg c3] at H
    have c3b0 : decide (a1 < 1) = false := decide_eq_false c3
    clear c3
    by_cases c4 : a1 = 0
    · rw [if_pos c4] at H
      exact absurd H (by simp)
    · rw [if_neg c4] at H
      have c4b0 : (a1 == 0) = false := beq_eq_false_iff_ne.mpr c4
      have c4b1 : (a1 != 0) = true := bne_iff_ne.mpr c4
      by_cases c5 : (Int.tmod a0 a1) < 0
      · rw [if_pos c5] at H
        have c5b0 : decide ((Int.tmod a0 a1) < 0) = true := decide_eq_true c5
        clear c5
        obtain rfl := Option.some.inj H
        go_enter Try.func72, Try.ntmps72
        go_wp2
        go_ret
        exact ⟨by first | rfl | (simp; done) | (simp [*]; done), by repeat (first | exact Drawn0.refl _ | apply Drawn0.step)⟩
      · rw [if_neg c5] at H
        have c5b0 : decide ((Int.tmod a0 a1) < 0) = false := decide_eq_false c5
        clear c5
        obtain rfl := Option.some.inj H
        go_enter Try.func72, Try.ntmps72
        go_wp2
        go_ret
        exact ⟨by first | rfl | (simp; done) | (simp [*]; done), by repeat (first | exact Drawn0.refl _ | apply Drawn0.step)⟩

end Go.Proofs.Ytihfopblmjgfaaa.Q

/- Printed walk, shortened (wip/tools/unmerge.py). -/
namespace Go.Proofs.Ytihfopblmjgfaaa.Q
open Go.RowKit Go.Proofs.YtihfopblmjgfaaaW.PrintWords Go.Proofs.YtihfopblmjgfaaaW.PrintLast Go.Proofs.YtihfopblmjgfaaaW.PrintMore
attribute [local go_sem] max2_int min2_int max_two min_two max_three min_three max_four min_four   -- for this text's walks alone
set_option linter.unusedVariables false
set_option linter.unusedSimpArgs false

/-! ### rect_Area: function 73 -/
def rect_Area.f (a0_0 : Int) (a0_1 : Int) (a0_2 : Int) (a0_3 : Int) : Option (Int) := (rect_Valid.f a0_0 a0_1 a0_2 a0_3).bind fun t760 => (if t760 = true then (some (wrap64 ((wrap64 (a0_2 - a0_0)) * (wrap64 (a0_3 - a0_1))))) else (some 0))
set_option maxHeartbeats 8000000 in
set_option maxRecDepth 100000 in
theorem rect_Area.calls (a0_0 : Int) (a0_1 : Int) (a0_2 : Int) (a0_3 : Int) (r : Int) (w : World) (h : rect_Area.f a0_0 a0_1 a0_2 a0_3 = some r) :
    Calls Try.prog 73 #[.agg #[.int .i64 a0_0, .int .i64 a0_1, .int .i64 a0_2, .int .i64 a0_3]] w fun e w' => e = .returned (.int .i64 r) ∧ Below w.heap.size w w' := by
  have hu64 := Try.underlying64
  have HB := Aside0.mk (Below.refl w.heap.size w)
  have H : ((rect_Valid.f a0_0 a0_1 a0_2 a0_3).bind fun t760 => (if t760 = true then (some (wrap64 ((wrap64 (a0_2 - a0_0)) * (wrap64 (a0_3 - a0_1))))) else (some 0))) = some r := h
  clear h
  replace H := Option.bind_eq_some_iff.mp H
  obtain ⟨t760, A20, H⟩ := H
  replace H : (if t760 = true then (some (wrap64 ((wrap64 (a0_2 - a0_0)) * (wrap64 (a0_3 - a0_1))))) else (some 0)) = some r := H
  have A2 := Aside0.mk A20
  clear A20
  by_cases c3 : t760 = true
  · subst c3
    have H1 : (some (wrap64 ((wrap64 (a0_2 - a0_0)) * (wrap64 (a0_3 - a0_1))))) = some r := by rw [if_pos rfl] at H; exact H
    clear H
    have H := H1
    clear H1
    obtain rfl := Option.some.inj H
    go_enter Try.func73, Try.ntmps73
    go_wp2_with (first | ((with_reducible refine gate_dst (N := 1) rfl ?_); refine box_event ?hg (N := 1) ?hd (cs := #[.int .i64 a0_0, .int .i64 a0_1, .int .i64 a0_2, .int .i64 a0_3]) (t := 64) ?hr ?_; (case hd => rfl); (case hg => rfl); (case hr => first | (go_simp; done) | (go_simp; rfl)); intro gb759 hg w4 hbox hb; have BK759 := Aside0.mk (hbox); have GW759 := Aside0.mk ((by rw [hg]; exact (below_size (upB HB.out)) : w.heap.size ≤ gb759)); have GE759 := Aside0.mk ((by rw [hg]; exact (below_size (upB HB.out)) : w.heap.size ≤ gb759)); replace HB := Aside0.mk (below_step (upB HB.out) hb); clear hb hbox hg; have hcz5_0 : w4.cell? ⟨gb759, 0, none⟩ = some (.int .i64 a0_0) := bc BK759 0; have hcz5_1 : w4.cell? ⟨gb759, 1, none⟩ = some (.int .i64 a0_1) := bc BK759 1; have hcz5_2 : w4.cell? ⟨gb759, 2, none⟩ = some (.int .i64 a0_2) := bc BK759 2; have hcz5_3 : w4.cell? ⟨gb759, 3, none⟩ = some (.int .i64 a0_3) := bc BK759 3; have hfz5_0 := blk_frozen BK759.out 0; have hfz5_1 := blk_frozen BK759.out 1; have hfz5_2 := blk_frozen BK759.out 2; have hfz5_3 := blk_frozen BK759.out 3) | ((with_reducible refine gate_callee (f := 67) rfl ?_); refine goesL_ (some 4) rfl rfl Try.func67 (by kernel_rfl) rfl #[.agg #[.int .i64 a0_0, .int .i64 a0_1, .int .i64 a0_2, .int .i64 a0_3]] rfl upL ?_; (with_reducible refine (rect_Valid.calls a0_0 a0_1 a0_2 a0_3 true _ A2.out).mono ?_); rintro e w6 ⟨rfl, hb⟩; refine ⟨_, rfl, ?_⟩; replace BK759 := Aside0.mk (blk_below (g := gb759) (o := .cells #[.int .i64 a0_0, .int .i64 a0_1, .int .i64 a0_2, .int .i64 a0_3] 64 (0, 0)) (upK BK759.out) hb); replace HB := Aside0.mk (below_step (upB HB.out) hb); (try clear hb; try clear hb2; try clear hk; try clear hi); have hcz7_0 : w6.cell? ⟨gb759, 0, none⟩ = some (.int .i64 a0_0) := bc BK759 0; have hcz7_1 : w6.cell? ⟨gb759, 1, none⟩ = some (.int .i64 a0_1) := bc BK759 1; have hcz7_2 : w6.cell? ⟨gb759, 2, none⟩ = some (.int .i64 a0_2) := bc BK759 2; have hcz7_3 : w6.cell? ⟨gb759, 3, none⟩ = some (.int .i64 a0_3) := bc BK759 3; have hfz7_0 := blk_frozen BK759.out 0; have hfz7_1 := blk_frozen BK759.out 1; have hfz7_2 := blk_frozen BK759.out 2; have hfz7_3 := blk_frozen BK759.out 3))
    go_ret
    exact ⟨by first | rfl | (simp [errW_none, errW_some] <;> rfl) | (simp [*, errW_none, errW_some] <;> rfl), by repeat (first | (with_reducible first | exact HB.out | apply below_alloc | apply pw_below_drewN | apply below_drew1 | refine below_set ?_ GE759.out) | exact HB.out)⟩
  · replace c3 := Bool.eq_false_iff.mpr c3
    subst c3
    have H1 : (some 0) = some r := by rw [if_neg (show ¬ (false = true) by decide)] at H; exact H
    clear H
    have H := H1
    clear H1
    obtain rfl := Option.some.inj H
    go_enter Try.func73, Try.ntmps73
    go_wp2_with (first | ((with_reducible refine gate_dst (N := 1) rfl ?_); refine box_event ?hg (N := 1) ?hd (cs := #[.int .i64 a0_0, .int .i64 a0_1, .int .i64 a0_2, .int .i64 a0_3]) (t := 64) ?hr ?_; (case hd => rfl); (case hg => rfl); (case hr => first | (go_simp; done) | (go_simp; rfl)); intro gb759 hg w8 hbox hb; have BK759 := Aside0.mk (hbox); have GW759 := Aside0.mk ((by rw [hg]; exact (below_size (upB HB.out)) : w.heap.size ≤ gb759)); have GE759 := Aside0.mk ((by rw [hg]; exact (below_size (upB HB.out)) : w.heap.size ≤ gb759)); replace HB := Aside0.mk (below_step (upB HB.out) hb); clear hb hbox hg; have hcz9_0 : w8.cell? ⟨gb759, 0, none⟩ = some (.int .i64 a0_0) := bc BK759 0; have hcz9_1 : w8.cell? ⟨gb759, 1, none⟩ = some (.int .i64 a0_1) := bc BK759 1; have hcz9_2 : w8.cell? ⟨gb759, 2, none⟩ = some (.int .i64 a0_2) := bc BK759 2; have hcz9_3 : w8.cell? ⟨gb759, 3, none⟩ = some (.int .i64 a0_3) := bc BK759 3; have hfz9_0 := blk_frozen BK759.out 0; have hfz9_1 := blk_frozen BK759.out 1; have hfz9_2 := blk_frozen BK759.out 2; have hfz9_3 := blk_frozen BK759.out 3) | ((with_reducible refine gate_callee (f := 67) rfl ?_); refine goesL_ (some 4) rfl rfl Try.func67 (by kernel_rfl) rfl #[.agg #[.int .i64 a0_0, .int .i64 a0_1, .int .i64 a0_2, .int .i64 a0_3]] rfl upL ?_; (with_reducible refine (rect_Valid.calls a0_0 a0_1 a0_2 a0_3 false _ A2.out).mono ?_); rintro e w10 ⟨rfl, hb⟩; refine ⟨_, rfl, ?_⟩; replace BK759 := Aside0.mk (blk_below (g := gb759) (o := .cells #[.int .i64 a0_0, .int .i64 a0_1, .int .i64 a0_2, .int .i64 a0_3] 64 (0, 0)) (upK BK759.out) hb); replace HB := Aside0.mk (below_step (upB HB.out) hb); (try clear hb; try clear hb2; try clear hk; try clear hi)))
    go_ret
    exact ⟨by first | rfl | (simp [errW_none, errW_some] <;> rfl) | (simp [*, errW_none, errW_some] <;> rfl), by repeat (first | (with_reducible first | exact HB.out | apply below_alloc | apply pw_below_drewN | apply below_drew1 | refine below_set ?_ GE759.out) | exact HB.out)⟩

end Go.Proofs.Ytihfopblmjgfaaa.Q
