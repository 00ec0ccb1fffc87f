/- Texts of this session (words and printed walks, merged by wip/tools/merge.py) for the statement of the claim. -/
import Derived.Test.YtihfopblmjgfaaaMSizes1
import Derived.Test.YtihfopblmjgfaaaMSizes3
import Derived.Test.YtihfopblmjgfaaaMSizes5
import Derived.Test.YtihfopblmjgfaaaMSizes8
import Derived.Test.YtihfopblmjgfaaaMSizes9
import Derived.Test.YtihfopblmjgfaaaMSizes10
import Derived.Laws.BitsLemmas
import Derived.Test.YtihfopblmjgfaaaMSizes4
import Derived.Test.YtihfopblmjgfaaaMSizes7
namespace Go.Proofs.Ytihfopblmjgfaaa.Q
open Go.RowKit Go.Proofs.YtihfopblmjgfaaaW.PrintWords Go.Proofs.YtihfopblmjgfaaaW.PrintLast Go.Proofs.YtihfopblmjgfaaaW.PrintMore
attribute [local go_sem] max2_int min2_int max_two min_two max_three min_three max_four min_four   -- for this text's walks alone
set_option linter.unusedVariables false
set_option linter.unusedSimpArgs false

/-! ### waveletlaw29_HeadsegSizes: function 8 -/
def waveletlaw29_HeadsegSizes.j0 : Nat → Bool → Int → Int → Int → Int → Int → Int → List (S97) → Int → List Int → Option (Bool)
  | 0, _, _, _, _, _, _, _, _, _, _ => none
  | k + 1, x20, x945000, x945001, x945002, x945003, x945004, x945005, x945006, x946000, x946001 => if x20 = true then ((waveletlaw29_awake.f k).bind fun t947 => (some t947)) else ((headseg_Size.f k x945000 x945001 x945002 x945003 x945004 x945005 x945006).bind fun bt948 => ((waveletref29_Size.f k x945000 x945001 x945002 x945003 x945004 x945005 x945006).bind fun bt954 => ((headseg_ParseSize.f k x946000 x946001).bind fun bt960 => ((waveletref29_ParseSize.f k x946000 x946001).bind fun bt971 => ((waveletlaw29_sameSegment.f k bt948.1 bt948.2.1 bt954.1 bt954.2.1).bind fun t982 => (if t982 = true then (if bt948.2.2 = bt954.2.2 then ((waveletref23_SameHeader.f k bt960.1 bt960.2.1 bt960.2.2.1 bt960.2.2.2.1 bt960.2.2.2.2.1 bt960.2.2.2.2.2.1 bt960.2.2.2.2.2.2.1 bt971.1 bt971.2.1 bt971.2.2.1 bt971.2.2.2.1 bt971.2.2.2.2.1 bt971.2.2.2.2.2.1 bt971.2.2.2.2.2.2.1).bind fun t983 => (if t983 = true then (if bt960.2.2.2.2.2.2.2 = bt971.2.2.2.2.2.2.2 then ((waveletlaw29_awake.f k).bind fun t984 => (some t984)) else (some false)) else (some false))) else (some false)) else (some false)))))))
def waveletlaw29_HeadsegSizes.f (k : Nat) (a0_0 : Int) (a0_1 : Int) (a0_2 : Int) (a0_3 : Int) (a0_4 : Int) (a0_5 : Int) (l0_6 : List (S97)) (a1_0 : Int) (l1_1 : List Int) : Option (Bool) := if (l0_6.length : Int) > 10 then (waveletlaw29_HeadsegSizes.j0 k true a0_0 a0_1 a0_2 a0_3 a0_4 a0_5 l0_6 a1_0 l1_1) else ((waveletlaw29_long.f a1_0 l1_1).bind fun t946 => (waveletlaw29_HeadsegSizes.j0 k t946 a0_0 a0_1 a0_2 a0_3 a0_4 a0_5 l0_6 a1_0 l1_1))
theorem waveletlaw29_HeadsegSizes.mono_l : ∀ k, (∀ y0 y1 y2 y3 y4 y5 y6 y7 y8 y9, LeO (waveletlaw29_HeadsegSizes.j0 k y0 y1 y2 y3 y4 y5 y6 y7 y8 y9) (waveletlaw29_HeadsegSizes.j0 (k + 1) y0 y1 y2 y3 y4 y5 y6 y7 y8 y9))
  | 0 => fun _ _ _ _ _ _ _ _ _ _ r h => by simp [waveletlaw29_HeadsegSizes.j0] at h
  | k + 1 => by
    have ih0 := waveletlaw29_HeadsegSizes.mono_l k
    · intro y0 y1 y2 y3 y4 y5 y6 y7 y8 y9
      unfold waveletlaw29_HeadsegSizes.j0
      repeat' first
      | (with_reducible exact ih0 _ _ _ _ _ _ _ _ _ _)
      | (with_reducible exact headseg_ParseSize.mono _ _ _)
      | (with_reducible exact headseg_Size.mono _ _ _ _ _ _ _ _)
      | (with_reducible exact waveletlaw29_awake.mono _)
      | (with_reducible exact waveletlaw29_sameSegment.mono _ _ _ _ _)
      | (with_reducible exact waveletref23_SameHeader.mono _ _ _ _ _ _ _ _ _ _ _ _ _ _ _)
      | (with_reducible exact waveletref29_ParseSize.mono _ _ _)
      | (with_reducible exact waveletref29_Size.mono _ _ _ _ _ _ _ _)
      | (with_reducible exact LeO.refl _)
      | (with_reducible exact LeO.none _)
      | (with_reducible refine LeO.ite ?_ ?_)
      | (with_reducible refine LeO.bind ?_ (fun _ => ?_))
      | exact ih0 _ _ _ _ _ _ _ _ _ _
      | exact headseg_ParseSize.mono _ _ _
      | exact headseg_Size.mono _ _ _ _ _ _ _ _
      | exact waveletlaw29_awake.mono _
      | exact waveletlaw29_sameSegment.mono _ _ _ _ _
      | exact waveletref23_SameHeader.mono _ _ _ _ _ _ _ _ _ _ _ _ _ _ _
      | exact waveletref29_ParseSize.mono _ _ _
      | exact waveletref29_Size.mono _ _ _ _ _ _ _ _
      | exact LeO.none _
      | refine LeO.ite ?_ ?_
      | refine LeO.bind ?_ (fun _ => ?_)
theorem waveletlaw29_HeadsegSizes.mono : ∀ a0 a1 a2 a3 a4 a5 a6 a7 a8 k, LeO (waveletlaw29_HeadsegSizes.f k a0 a1 a2 a3 a4 a5 a6 a7 a8) (waveletlaw29_HeadsegSizes.f (k + 1) a0 a1 a2 a3 a4 a5 a6 a7 a8) := by
  intro a0 a1 a2 a3 a4 a5 a6 a7 a8 k
  have ih0 := waveletlaw29_HeadsegSizes.mono_l k
  unfold waveletlaw29_HeadsegSizes.f
  repeat' first
      | (with_reducible exact ih0 _ _ _ _ _ _ _ _ _ _)
      | (with_reducible exact headseg_ParseSize.mono _ _ _)
      | (with_reducible exact headseg_Size.mono _ _ _ _ _ _ _ _)
      | (with_reducible exact waveletlaw29_awake.mono _)
      | (with_reducible exact waveletlaw29_sameSegment.mono _ _ _ _ _)
      | (with_reducible exact waveletref23_SameHeader.mono _ _ _ _ _ _ _ _ _ _ _ _ _ _ _)
      | (with_reducible exact waveletref29_ParseSize.mono _ _ _)
      | (with_reducible exact waveletref29_Size.mono _ _ _ _ _ _ _ _)
      | (with_reducible exact LeO.refl _)
      | (with_reducible exact LeO.none _)
      | (with_reducible refine LeO.ite ?_ ?_)
      | (with_reducible refine LeO.bind ?_ (fun _ => ?_))
      | exact ih0 _ _ _ _ _ _ _ _ _ _
      | exact headseg_ParseSize.mono _ _ _
      | exact headseg_Size.mono _ _ _ _ _ _ _ _
      | exact waveletlaw29_awake.mono _
      | exact waveletlaw29_sameSegment.mono _ _ _ _ _
      | exact waveletref23_SameHeader.mono _ _ _ _ _ _ _ _ _ _ _ _ _ _ _
      | exact waveletref29_ParseSize.mono _ _ _
      | exact waveletref29_Size.mono _ _ _ _ _ _ _ _
      | exact LeO.none _
      | refine LeO.ite ?_ ?_
      | refine LeO.bind ?_ (fun _ => ?_)
set_option maxHeartbeats 8000000 in
set_option maxRecDepth 100000 in
theorem waveletlaw29_HeadsegSizes.calls (k : Nat) (a0_0 : Int) (a0_1 : Int) (a0_2 : Int) (a0_3 : Int) (a0_4 : Int) (a0_5 : Int) (A0_6 : Option Addr) (c0_6 : Nat) (l0_6 : List (S97)) (a1_0 : Int) (A1_1 : Option Addr) (c1_1 : Nat) (l1_1 : List Int) (r : Bool) (hr_ : r = true) (w : World) (hr0_6 : Kd.C k97 w A0_6 l0_6.length l0_6) (hc0_6 : l0_6.length ≤ c0_6) (hr1_1 : Kd.C (Kd.int .u8) w A1_1 l1_1.length l1_1) (hc1_1 : l1_1.length ≤ c1_1) (h : waveletlaw29_HeadsegSizes.f k a0_0 a0_1 a0_2 a0_3 a0_4 a0_5 l0_6 a1_0 l1_1 = some r) :
    Calls Try.prog 8 #[.agg #[.int .i64 a0_0, .int .i64 a0_1, .int .i64 a0_2, .int .i64 a0_3, .int .i64 a0_4, .int .i64 a0_5, .slice A0_6 l0_6.length c0_6], .agg #[.int .i64 a1_0, .slice A1_1 l1_1.length c1_1]] w fun e w' => e = .returned (.bool r) ∧ Below w.heap.size w w' := by
  have hu67 := Try.underlying67
  have hu26 := Try.underlying26
  have HR0_6 := Aside0.mk hr0_6
  have HC0_6 := Aside0.mk hc0_6
  clear hr0_6 hc0_6
  have HR1_1 := Aside0.mk hr1_1
  have HC1_1 := Aside0.mk hc1_1
  clear hr1_1 hc1_1
  have HB := Aside0.mk (Below.refl w.heap.size w)
  have H : (if (l0_6.length : Int) > 10 then (waveletlaw29_HeadsegSizes.j0 k true a0_0 a0_1 a0_2 a0_3 a0_4 a0_5 l0_6 a1_0 l1_1) else ((waveletlaw29_long.f a1_0 l1_1).bind fun t946 => (waveletlaw29_HeadsegSizes.j0 k t946 a0_0 a0_1 a0_2 a0_3 a0_4 a0_5 l0_6 a1_0 l1_1))) = some r := h
  clear h
  have HC3 := Aside0.mk H
  clear H
  go_enter Try.func8, Try.ntmps8
  go_upto_region 1 with (first | ((with_reducible refine gate_dst (N := 2) rfl ?_); refine box_event ?hg (N := 2) ?hd (cs := #[.int .i64 a0_0, .int .i64 a0_1, .int .i64 a0_2, .int .i64 a0_3, .int .i64 a0_4, .int .i64 a0_5, .slice A0_6 l0_6.length c0_6]) (t := 67) ?hr ?_; (case hd => rfl); (case hg => rfl); (case hr => first | (go_simp; done) | (go_simp; rfl)); intro gb944 hg w4 hbox hb; have BK944 := Aside0.mk (hbox); have GW944 := Aside0.mk ((by rw [hg]; exact (below_size (upB HB.out)) : w.heap.size ≤ gb944)); have GE944 := Aside0.mk ((by rw [hg]; exact (below_size (upB HB.out)) : w.heap.size ≤ gb944)); replace HB := Aside0.mk (below_step (upB HB.out) hb); clear hb hbox hg) | ((with_reducible refine gate_dst (N := 3) rfl ?_); refine box_event ?hg (N := 3) ?hd (cs := #[.int .i64 a1_0, .slice A1_1 l1_1.length c1_1]) (t := 26) ?hr ?_; (case hd => rfl); (case hg => rfl); (case hr => first | (go_simp; done) | (go_simp; rfl)); intro gb945 hg w5 hbox hb; have BK945 := Aside0.mk (hbox); have GW945 := Aside0.mk ((by rw [hg]; exact (below_size (upB HB.out)) : w.heap.size ≤ gb945)); have GE945 := Aside0.mk ((by rw [hg]; exact (below_size (upB HB.out)) : w.heap.size ≤ gb945)); replace HB := Aside0.mk (below_step (upB HB.out) hb); have NB944_945 := Aside0.mk ((by rw [hg]; exact Nat.ne_of_lt (blk_lt (upK BK944.out)) : gb944 ≠ gb945)); have NB945_944 := Aside0.mk ((by rw [hg]; exact Nat.ne_of_gt (blk_lt (upK BK944.out)) : gb945 ≠ gb944)); replace BK944 := Aside0.mk (blk_below (g := gb944) (o := .cells #[.int .i64 a0_0, .int .i64 a0_1, .int .i64 a0_2, .int .i64 a0_3, .int .i64 a0_4, .int .i64 a0_5, .slice A0_6 l0_6.length c0_6] 67 (0, 0)) (upK BK944.out) hb); clear hb hbox hg))
  (try simp only [Act.put, List.setIfInBounds_toArray, List.set_cons_zero, List.set_cons_succ])
  go_cut [20] (fun v20 wc => ∃ (kq : Nat) (x20_2 : Bool), v20 = .bool x20_2 ∧ Aside0 (waveletlaw29_HeadsegSizes.j0 kq x20_2 a0_0 a0_1 a0_2 a0_3 a0_4 a0_5 l0_6 a1_0 l1_1 = some r) ∧ Aside0 (kq ≤ k) ∧ Aside0 (wc.heap[gb944]? = some (.cells #[.int .i64 a0_0, .int .i64 a0_1, .int .i64 a0_2, .int .i64 a0_3, .int .i64 a0_4, .int .i64 a0_5, (.slice A0_6 l0_6.length c0_6)] 67 (0, 0))) ∧ Aside0 (wc.heap[gb945]? = some (.cells #[.int .i64 a1_0, (.slice A1_1 l1_1.length c1_1)] 26 (0, 0))) ∧ Aside0 (Below w.heap.size w wc))
  case first =>
    have H := HC3.out
    clear HC3
    by_cases c6 : (l0_6.length : Int) > 10
    · rw [if_pos c6] at H
      have c6b0 : decide (10 < (l0_6.length : Int)) = true := decide_eq_true c6
      have c6b1 : decide (10 < l0_6.length) = true := decide_eq_true (by omega)
      clear c6
      (first | rw [c6b0] | (simp only [i64_w, i32_w]; rw [c6b0]) | skip)
      have H' := Aside0.mk H
      clear H
      have hnb7 := NB944_945.out
      have hnc7 := NB945_944.out
      have hcz8_0 : w5.cell? ⟨gb944, 0, none⟩ = some (.int .i64 a0_0) := bc BK944 0
      have hcz8_1 : w5.cell? ⟨gb944, 1, none⟩ = some (.int .i64 a0_1) := bc BK944 1
      have hcz8_2 : w5.cell? ⟨gb944, 2, none⟩ = some (.int .i64 a0_2) := bc BK944 2
      have hcz8_3 : w5.cell? ⟨gb944, 3, none⟩ = some (.int .i64 a0_3) := bc BK944 3
      have hcz8_4 : w5.cell? ⟨gb944, 4, none⟩ = some (.int .i64 a0_4) := bc BK944 4
      have hcz8_5 : w5.cell? ⟨gb944, 5, none⟩ = some (.int .i64 a0_5) := bc BK944 5
      have hcz8_6 : w5.cell? ⟨gb944, 6, none⟩ = some (.slice A0_6 l0_6.length c0_6) := bc BK944 6
      have hfz8_0 := blk_frozen BK944.out 0
      have hfz8_1 := blk_frozen BK944.out 1
      have hfz8_2 := blk_frozen BK944.out 2
      have hfz8_3 := blk_frozen BK944.out 3
      have hfz8_4 := blk_frozen BK944.out 4
      have hfz8_5 := blk_frozen BK944.out 5
      have hfz8_6 := blk_frozen BK944.out 6
      go_wp2
      go_meet
      case rel => exact ⟨_, (true), (by first | rfl | (simp; done) | (simp [*]; done)), H', ⟨by first | omega | exact Nat.le_refl _⟩, ⟨by (with_reducible repeat (first | refine blk_drewN ?_ _ | refine blk_drew ?_ | refine blk_alloc ?_ _)); exact BK944.out⟩, ⟨by (with_reducible repeat (first | refine blk_drewN ?_ _ | refine blk_drew ?_ | refine blk_alloc ?_ _)); exact BK945.out⟩, ⟨by repeat (first | (with_reducible first | exact HB.out | apply below_alloc | apply pw_below_drewN | apply below_drew1 | refine below_set ?_ GE944.out | refine below_set ?_ GE945.out) | exact HB.out)⟩⟩
    · rw [if_neg c6] at H
      have c6b0 : decide (10 < (l0_6.length : Int)) = false := decide_eq_false c6
      have c6b1 : decide (10 < l0_6.length) = false := decide_eq_false (by omega)
      clear c6
      (first | rw [c6b0] | (simp only [i64_w, i32_w]; rw [c6b0]) | skip)
      replace H := Option.bind_eq_some_iff.mp H
      obtain ⟨t946, A90, H⟩ := H
      replace H : (waveletlaw29_HeadsegSizes.j0 k t946 a0_0 a0_1 a0_2 a0_3 a0_4 a0_5 l0_6 a1_0 l1_1) = some r := H
      have A9 := Aside0.mk A90
      clear A90
      have H' := Aside0.mk H
      clear H
      have hnb10 := NB944_945.out
      have hnc10 := NB945_944.out
      have hcz11_0 : w5.cell? ⟨gb944, 0, none⟩ = some (.int .i64 a0_0) := bc BK944 0
      have hcz11_1 : w5.cell? ⟨gb944, 1, none⟩ = some (.int .i64 a0_1) := bc BK944 1
      have hcz11_2 : w5.cell? ⟨gb944, 2, none⟩ = some (.int .i64 a0_2) := bc BK944 2
      have hcz11_3 : w5.cell? ⟨gb944, 3, none⟩ = some (.int .i64 a0_3) := bc BK944 3
      have hcz11_4 : w5.cell? ⟨gb944, 4, none⟩ = some (.int .i64 a0_4) := bc BK944 4
      have hcz11_5 : w5.cell? ⟨gb944, 5, none⟩ = some (.int .i64 a0_5) := bc BK944 5
      have hcz11_6 : w5.cell? ⟨gb944, 6, none⟩ = some (.slice A0_6 l0_6.length c0_6) := bc BK944 6
      have hfz11_0 := blk_frozen BK944.out 0
      have hfz11_1 := blk_frozen BK944.out 1
      have hfz11_2 := blk_frozen BK944.out 2
      have hfz11_3 := blk_frozen BK944.out 3
      have hfz11_4 := blk_frozen BK944.out 4
      have hfz11_5 := blk_frozen BK944.out 5
      have hfz11_6 := blk_frozen BK944.out 6
      have hcz12_0 : w5.cell? ⟨gb945, 0, none⟩ = some (.int .i64 a1_0) := bc BK945 0
      have hcz12_1 : w5.cell? ⟨gb945, 1, none⟩ = some (.slice A1_1 l1_1.length c1_1) := bc BK945 1
      have hfz12_0 := blk_frozen BK945.out 0
      have hfz12_1 := blk_frozen BK945.out 1
      go_wp2_with (first | (go_at_call 11; (with_reducible refine (waveletlaw29_long.calls a1_0 _ _ l1_1 t946 _ ?side1 ?side2 A9.out).mono ?_); (case side1 => repeat (first | exact (Kd.C_below HR1_1.out HB.out) | (with_reducible refine Kd.C_alloc ?_ _) | (with_reducible refine Kd.C_drewN ?_ _) | (with_reducible refine Kd.C_drew ?_))); (case side2 => exact HC1_1.out); rintro e w13 ⟨rfl, hb⟩; replace BK944 := Aside0.mk (blk_below (g := gb944) (o := .cells #[.int .i64 a0_0, .int .i64 a0_1, .int .i64 a0_2, .int .i64 a0_3, .int .i64 a0_4, .int .i64 a0_5, .slice A0_6 l0_6.length c0_6] 67 (0, 0)) (upK BK944.out) hb); replace BK945 := Aside0.mk (blk_below (g := gb945) (o := .cells #[.int .i64 a1_0, .slice A1_1 l1_1.length c1_1] 26 (0, 0)) (upK BK945.out) hb); replace HB := Aside0.mk (below_step (upB HB.out) hb); (try clear hb; try clear hb2; try clear hk; try clear hi)))
      go_meet
      case rel => exact ⟨_, (t946), (by first | rfl | (simp; done) | (simp [*]; done)), H', ⟨by first | omega | exact Nat.le_refl _⟩, ⟨by (with_reducible repeat (first | refine blk_drewN ?_ _ | refine blk_drew ?_ | refine blk_alloc ?_ _)); exact BK944.out⟩, ⟨by (with_reducible repeat (first | refine blk_drewN ?_ _ | refine blk_drew ?_ | refine blk_alloc ?_ _)); exact BK945.out⟩, ⟨by repeat (first | (with_reducible first | exact HB.out | apply below_alloc | apply pw_below_drewN | apply below_drew1 | refine below_set ?_ GE944.out | refine below_set ?_ GE945.out) | exact HB.out)⟩⟩
  case rest =>
    clear HC3
    try clear c1
    try clear p2
    try clear c6
    try clear c6b0
    try clear c6b1
    try clear c7
    try clear c8
    try clear c10
    try clear hcz11_0
    try clear hcz11_1
    try clear hcz11_2
    try clear hcz11_3
    try clear hcz11_4
    try clear hcz11_5
    try clear hcz11_6
    try clear hcz12_0
    try clear hcz12_1
    try clear hcz8_0
    try clear hcz8_1
    try clear hcz8_2
    try clear hcz8_3
    try clear hcz8_4
    try clear hcz8_5
    try clear hcz8_6
    try clear hfz11_0
    try clear hfz11_1
    try clear hfz11_2
    try clear hfz11_3
    try clear hfz11_4
    try clear hfz11_5
    try clear hfz11_6
    try clear hfz12_0
    try clear hfz12_1
    try clear hfz8_0
    try clear hfz8_1
    try clear hfz8_2
    try clear hfz8_3
    try clear hfz8_4
    try clear hfz8_5
    try clear hfz8_6
    obtain ⟨kq, x20_2, rfl, HA, HJ2, BK944, BK945, HB⟩ := hcut
    cases kq with
    | zero => exact absurd HA.out (by simp [waveletlaw29_HeadsegSizes.j0])
    | succ kj2 =>
      have H := HA.out
      clear HA
      simp only [waveletlaw29_HeadsegSizes.j0] at H
      by_cases c14 : x20_2 = true
      · subst c14
        have H1 : ((waveletlaw29_awake.f kj2).bind fun t947 => (some t947)) = some r := by rw [if_pos rfl] at H; exact H
        clear H
        have H := H1
        clear H1
        replace H := Option.bind_eq_some_iff.mp H
        obtain ⟨t947, A150, H⟩ := H
        replace H : (some t947) = some r := H
        have A15 := Aside0.mk A150
        clear A150
        obtain rfl := Option.some.inj H
        go_wp2_with (first | ((with_reducible refine gate_callee (f := 12) rfl ?_); refine goesL_ (some 21) rfl rfl Try.func12 (by kernel_rfl) rfl #[] rfl upL ?_; (with_reducible refine (waveletlaw29_awake.calls kj2  t947 _ A15.out).mono ?_); rintro e w16 ⟨rfl, hb⟩; refine ⟨_, rfl, ?_⟩; replace BK944 := Aside0.mk (blk_below (g := gb944) (o := .cells #[.int .i64 a0_0, .int .i64 a0_1, .int .i64 a0_2, .int .i64 a0_3, .int .i64 a0_4, .int .i64 a0_5, .slice A0_6 l0_6.length c0_6] 67 (0, 0)) (upK BK944.out) hb); replace BK945 := Aside0.mk (blk_below (g := gb945) (o := .cells #[.int .i64 a1_0, .slice A1_1 l1_1.length c1_1] 26 (0, 0)) (upK BK945.out) hb); replace HB := Aside0.mk (below_step (upB HB.out) hb); (try clear hb; try clear hb2; try clear hk; try clear hi)))
        go_ret
        exact ⟨by first | rfl | (simp [errW_none, errW_some] <;> rfl) | (simp [*, errW_none, errW_some] <;> rfl), by repeat (first | (with_reducible first | exact HB.out | apply below_alloc | apply pw_below_drewN | apply below_drew1 | refine below_set ?_ GE944.out | refine below_set ?_ GE945.out) | exact HB.out)⟩
      · replace c14 := Bool.eq_false_iff.mpr c14
        subst c14
        have H1 : ((headseg_Size.f kj2 a0_0 a0_1 a0_2 a0_3 a0_4 a0_5 l0_6).bind fun bt948 => ((waveletref29_Size.f kj2 a0_0 a0_1 a0_2 a0_3 a0_4 a0_5 l0_6).bind fun bt954 => ((headseg_ParseSize.f kj2 a1_0 l1_1).bind fun bt960 => ((waveletref29_ParseSize.f kj2 a1_0 l1_1).bind fun bt971 => ((waveletlaw29_sameSegment.f kj2 bt948.1 bt948.2.1 bt954.1 bt954.2.1).bind fun t982 => (if t982 = true then (if bt948.2.2 = bt954.2.2 then ((waveletref23_SameHeader.f kj2 bt960.1 bt960.2.1 bt960.2.2.1 bt960.2.2.2.1 bt960.2.2.2.2.1 bt960.2.2.2.2.2.1 bt960.2.2.2.2.2.2.1 bt971.1 bt971.2.1 bt971.2.2.1 bt971.2.2.2.1 bt971.2.2.2.2.1 bt971.2.2.2.2.2.1 bt971.2.2.2.2.2.2.1).bind fun t983 => (if t983 = true then (if bt960.2.2.2.2.2.2.2 = bt971.2.2.2.2.2.2.2 then ((waveletlaw29_awake.f kj2).bind fun t984 => (some t984)) else (some false)) else (some false))) else (some false)) else (some false))))))) = some r := by rw [if_neg (show ¬ (false = true) by decide)] at H; exact H
        clear H
        have H := H1
        clear H1
        replace H := Option.bind_eq_some_iff.mp H
        obtain ⟨⟨t948, t949, t952⟩, A170, H⟩ := H
        replace H : ((waveletref29_Size.f kj2 a0_0 a0_1 a0_2 a0_3 a0_4 a0_5 l0_6).bind fun bt954 => ((headseg_ParseSize.f kj2 a1_0 l1_1).bind fun bt960 => ((waveletref29_ParseSize.f kj2 a1_0 l1_1).bind fun bt971 => ((waveletlaw29_sameSegment.f kj2 t948 t949 bt954.1 bt954.2.1).bind fun t982 => (if t982 = true then (if t952 = bt954.2.2 then ((waveletref23_SameHeader.f kj2 bt960.1 bt960.2.1 bt960.2.2.1 bt960.2.2.2.1 bt960.2.2.2.2.1 bt960.2.2.2.2.2.1 bt960.2.2.2.2.2.2.1 bt971.1 bt971.2.1 bt971.2.2.1 bt971.2.2.2.1 bt971.2.2.2.2.1 bt971.2.2.2.2.2.1 bt971.2.2.2.2.2.2.1).bind fun t983 => (if t983 = true then (if bt960.2.2.2.2.2.2.2 = bt971.2.2.2.2.2.2.2 then ((waveletlaw29_awake.f kj2).bind fun t984 => (some t984)) else (some false)) else (some false))) else (some false)) else (some false)))))) = some r := H
        have A17 := Aside0.mk A170
        clear A170
        replace H := Option.bind_eq_some_iff.mp H
        obtain ⟨⟨t954, t955, t958⟩, A180, H⟩ := H
        replace H : ((headseg_ParseSize.f kj2 a1_0 l1_1).bind fun bt960 => ((waveletref29_ParseSize.f kj2 a1_0 l1_1).bind fun bt971 => ((waveletlaw29_sameSegment.f kj2 t948 t949 t954 t955).bind fun t982 => (if t982 = true then (if t952 = t958 then ((waveletref23_SameHeader.f kj2 bt960.1 bt960.2.1 bt960.2.2.1 bt960.2.2.2.1 bt960.2.2.2.2.1 bt960.2.2.2.2.2.1 bt960.2.2.2.2.2.2.1 bt971.1 bt971.2.1 bt971.2.2.1 bt971.2.2.2.1 bt971.2.2.2.2.1 bt971.2.2.2.2.2.1 bt971.2.2.2.2.2.2.1).bind fun t983 => (if t983 = true then (if bt960.2.2.2.2.2.2.2 = bt971.2.2.2.2.2.2.2 then ((waveletlaw29_awake.f kj2).bind fun t984 => (some t984)) else (some false)) else (some false))) else (some false)) else (some false))))) = some r := H
        have A18 := Aside0.mk A180
        clear A180
        replace H := Option.bind_eq_some_iff.mp H
        obtain ⟨⟨t960, t961, t962, t963, t964, t965, t966, t969⟩, A190, H⟩ := H
        replace H : ((waveletref29_ParseSize.f kj2 a1_0 l1_1).bind fun bt971 => ((waveletlaw29_sameSegment.f kj2 t948 t949 t954 t955).bind fun t982 => (if t982 = true then (if t952 = t958 then ((waveletref23_SameHeader.f kj2 t960 t961 t962 t963 t964 t965 t966 bt971.1 bt971.2.1 bt971.2.2.1 bt971.2.2.2.1 bt971.2.2.2.2.1 bt971.2.2.2.2.2.1 bt971.2.2.2.2.2.2.1).bind fun t983 => (if t983 = true then (if t969 = bt971.2.2.2.2.2.2.2 then ((waveletlaw29_awake.f kj2).bind fun t984 => (some t984)) else (some false)) else (some false))) else (some false)) else (some false)))) = some r := H
        have A19 := Aside0.mk A190
        clear A190
        replace H := Option.bind_eq_some_iff.mp H
        obtain ⟨⟨t971, t972, t973, t974, t975, t976, t977, t980⟩, A200, H⟩ := H
        replace H : ((waveletlaw29_sameSegment.f kj2 t948 t949 t954 t955).bind fun t982 => (if t982 = true then (if t952 = t958 then ((waveletref23_SameHeader.f kj2 t960 t961 t962 t963 t964 t965 t966 t971 t972 t973 t974 t975 t976 t977).bind fun t983 => (if t983 = true then (if t969 = t980 then ((waveletlaw29_awake.f kj2).bind fun t984 => (some t984)) else (some false)) else (some false))) else (some false)) else (some false))) = some r := H
        have A20 := Aside0.mk A200
        clear A200
        replace H := Option.bind_eq_some_iff.mp H
        obtain ⟨t982, A210, H⟩ := H
        replace H : (if t982 = true then (if t952 = t958 then ((waveletref23_SameHeader.f kj2 t960 t961 t962 t963 t964 t965 t966 t971 t972 t973 t974 t975 t976 t977).bind fun t983 => (if t983 = true then (if t969 = t980 then ((waveletlaw29_awake.f kj2).bind fun t984 => (some t984)) else (some false)) else (some false))) else (some false)) else (some false)) = some r := H
        have A21 := Aside0.mk A210
        clear A210
        by_cases c22 : t982 = true
        · subst c22
          have H1 : (if t952 = t958 then ((waveletref23_SameHeader.f kj2 t960 t961 t962 t963 t964 t965 t966 t971 t972 t973 t974 t975 t976 t977).bind fun t983 => (if t983 = true then (if t969 = t980 then ((waveletlaw29_awake.f kj2).bind fun t984 => (some t984)) else (some false)) else (some false))) else (some false)) = some r := by rw [if_pos rfl] at H; exact H
          clear H
          have H := H1
          clear H1
          by_cases c23 : t952 = t958
          · rw [if_pos c23] at H
            have c23b0 : (t952 == t958) = true := beq_iff_eq.mpr c23
            have c23b1 : (t952 != t958) = false := bne_eq_false_iff_eq.mpr c23
            clear c23
            replace H := Option.bind_eq_some_iff.mp H
            obtain ⟨t983, A240, H⟩ := H
            replace H : (if t983 = true then (if t969 = t980 then ((waveletlaw29_awake.f kj2).bind fun t984 => (some t984)) else (some false)) else (some false)) = some r := H
            have A24 := Aside0.mk A240
            clear A240
            by_cases c25 : t983 = true
            · subst c25
              have H1 : (if t969 = t980 then ((waveletlaw29_awake.f kj2).bind fun t984 => (some t984)) else (some false)) = some r := by rw [if_pos rfl] at H; exact H
              clear H
              have H := H1
              clear H1
              by_cases c26 : t969 = t980
              · rw [if_pos c26] at H
                have c26b0 : (t969 == t980) = true := beq_iff_eq.mpr c26
                have c26b1 : (t969 != t980) = false := bne_eq_false_iff_eq.mpr c26
                clear c26
                replace H := Option.bind_eq_some_iff.mp H
                obtain ⟨t984, A270, H⟩ := H
                replace H : (some t984) = some r := H
                have A27 := Aside0.mk A270
                clear A270
                obtain rfl := Option.some.inj H
                have hnb28 := NB944_945.out
                have hnc28 := NB945_944.out
                have hcz29_0 : wc.cell? ⟨gb944, 0, none⟩ = some (.int .i64 a0_0) := bc BK944 0
                have hcz29_1 : wc.cell? ⟨gb944, 1, none⟩ = some (.int .i64 a0_1) := bc BK944 1
                have hcz29_2 : wc.cell? ⟨gb944, 2, none⟩ = some (.int .i64 a0_2) := bc BK944 2
                have hcz29_3 : wc.cell? ⟨gb944, 3, none⟩ = some (.int .i64 a0_3) := bc BK944 3
                have hcz29_4 : wc.cell? ⟨gb944, 4, none⟩ = some (.int .i64 a0_4) := bc BK944 4
                have hcz29_5 : wc.cell? ⟨gb944, 5, none⟩ = some (.int .i64 a0_5) := bc BK944 5
                have hcz29_6 : wc.cell? ⟨gb944, 6, none⟩ = some (.slice A0_6 l0_6.length c0_6) := bc BK944 6
                have hfz29_0 := blk_frozen BK944.out 0
                have hfz29_1 := blk_frozen BK944.out 1
                have hfz29_2 := blk_frozen BK944.out 2
                have hfz29_3 := blk_frozen BK944.out 3
                have hfz29_4 := blk_frozen BK944.out 4
                have hfz29_5 := blk_frozen BK944.out 5
                have hfz29_6 := blk_frozen BK944.out 6
                go_wp2_with (first | ((with_reducible refine gate_callee (f := 37) rfl ?_); refine goesL_ (some 24) rfl rfl Try.func37 (by kernel_rfl) rfl #[.agg #[.int .i64 a0_0, .int .i64 a0_1, .int .i64 a0_2, .int .i64 a0_3, .int .i64 a0_4, .int .i64 a0_5, .slice A0_6 l0_6.length c0_6]] rfl upL ?_; (with_reducible refine (headseg_Size.calls kj2 a0_0 a0_1 a0_2 a0_3 a0_4 a0_5 _ _ l0_6 t948 t949 t952 _ ?side1 ?side2 A17.out).mono ?_); (case side1 => repeat (first | exact (Kd.C_below HR0_6.out HB.out) | (with_reducible refine Kd.C_alloc ?_ _) | (with_reducible refine Kd.C_drewN ?_ _) | (with_reducible refine Kd.C_drew ?_))); (case side2 => exact HC0_6.out); rintro e w30 ⟨v950, rfl, ho0, hb⟩; refine ⟨_, rfl, ?_⟩; have HO951 := Aside0.mk (Kd.R_lower ho0 (below_size (upB HB.out))); replace BK944 := Aside0.mk (blk_below (g := gb944) (o := .cells #[.int .i64 a0_0, .int .i64 a0_1, .int .i64 a0_2, .int .i64 a0_3, .int .i64 a0_4, .int .i64 a0_5, .slice A0_6 l0_6.length c0_6] 67 (0, 0)) (upK BK944.out) hb); replace BK945 := Aside0.mk (blk_below (g := gb945) (o := .cells #[.int .i64 a1_0, .slice A1_1 l1_1.length c1_1] 26 (0, 0)) (upK BK945.out) hb); replace HB := Aside0.mk (below_step (upB HB.out) hb); (try clear hb; try clear hb2; try clear hk; try clear hi; try clear ho0)) | ((with_reducible refine gate_dst (N := 5) rfl ?_); refine box_event ?hg (N := 5) ?hd (cs := #[.int .i64 0, .slice none 0 0]) (t := 26) ?hr ?_; (case hd => rfl); (case hg => rfl); (case hr => first | (go_simp; done) | (go_simp; rfl)); intro gb953 hg w31 hbox hb; replace HO951 := Aside0.mk (Kd.R_below (upR HO951.out) hb); have BK953 := Aside0.mk (hbox); have GW953 := Aside0.mk ((by rw [hg]; exact (below_size (upB HB.out)) : w.heap.size ≤ gb953)); have GE953 := Aside0.mk ((by rw [hg]; exact (below_size (upB HB.out)) : w.heap.size ≤ gb953)); replace HB := Aside0.mk (below_step (upB HB.out) hb); have NB944_953 := Aside0.mk ((by rw [hg]; exact Nat.ne_of_lt (blk_lt (upK BK944.out)) : gb944 ≠ gb953)); have NB953_944 := Aside0.mk ((by rw [hg]; exact Nat.ne_of_gt (blk_lt (upK BK944.out)) : gb953 ≠ gb944)); replace BK944 := Aside0.mk (blk_below (g := gb944) (o := .cells #[.int .i64 a0_0, .int .i64 a0_1, .int .i64 a0_2, .int .i64 a0_3, .int .i64 a0_4, .int .i64 a0_5, .slice A0_6 l0_6.length c0_6] 67 (0, 0)) (upK BK944.out) hb); have NB945_953 := Aside0.mk ((by rw [hg]; exact Nat.ne_of_lt (blk_lt (upK BK945.out)) : gb945 ≠ gb953)); have NB953_945 := Aside0.mk ((by rw [hg]; exact Nat.ne_of_gt (blk_lt (upK BK945.out)) : gb953 ≠ gb945)); replace BK945 := Aside0.mk (blk_below (g := gb945) (o := .cells #[.int .i64 a1_0, .slice A1_1 l1_1.length c1_1] 26 (0, 0)) (upK BK945.out) hb); clear hb hbox hg; have hnb32 := NB953_944.out; have hnc32 := NB944_953.out; have hnb33 := NB953_945.out; have hnc33 := NB945_953.out; have hcz34_0 : w31.cell? ⟨gb953, 0, none⟩ = some (.int .i64 0) := bc BK953 0; have hcz34_1 : w31.cell? ⟨gb953, 1, none⟩ = some (.slice none 0 0) := bc BK953 1; have hfz34_0 := blk_frozen BK953.out 0; have hfz34_1 := blk_frozen BK953.out 1; obtain ⟨Ao35, co35, eo35⟩ := Kd.R_slice HO951.out; subst eo35; have hcz36_0 : w31.cell? ⟨gb944, 0, none⟩ = some (.int .i64 a0_0) := bc BK944 0; have hcz36_1 : w31.cell? ⟨gb944, 1, none⟩ = some (.int .i64 a0_1) := bc BK944 1; have hcz36_2 : w31.cell? ⟨gb944, 2, none⟩ = some (.int .i64 a0_2) := bc BK944 2; have hcz36_3 : w31.cell? ⟨gb944, 3, none⟩ = some (.int .i64 a0_3) := bc BK944 3; have hcz36_4 : w31.cell? ⟨gb944, 4, none⟩ = some (.int .i64 a0_4) := bc BK944 4; have hcz36_5 : w31.cell? ⟨gb944, 5, none⟩ = some (.int .i64 a0_5) := bc BK944 5; have hcz36_6 : w31.cell? ⟨gb944, 6, none⟩ = some (.slice A0_6 l0_6.length c0_6) := bc BK944 6; have hfz36_0 := blk_frozen BK944.out 0; have hfz36_1 := blk_frozen BK944.out 1; have hfz36_2 := blk_frozen BK944.out 2; have hfz36_3 := blk_frozen BK944.out 3; have hfz36_4 := blk_frozen BK944.out 4; have hfz36_5 := blk_frozen BK944.out 5; have hfz36_6 := blk_frozen BK944.out 6) | ((with_reducible refine gate_callee (f := 38) rfl ?_); refine goesL_ (some 29) rfl rfl Try.func38 (by kernel_rfl) rfl #[.agg #[.int .i64 a0_0, .int .i64 a0_1, .int .i64 a0_2, .int .i64 a0_3, .int .i64 a0_4, .int .i64 a0_5, .slice A0_6 l0_6.length c0_6]] rfl upL ?_; (with_reducible refine (waveletref29_Size.calls kj2 a0_0 a0_1 a0_2 a0_3 a0_4 a0_5 _ _ l0_6 t954 t955 t958 _ ?side1 ?side2 A18.out).mono ?_); (case side1 => exact Kd.C_below HR0_6.out (upB HB.out)); (case side2 => exact HC0_6.out); rintro e w37 ⟨v956, rfl, ho0, hb⟩; refine ⟨_, rfl, ?_⟩; have HO957 := Aside0.mk (Kd.R_lower (Kd.R_new' ho0 (Kd.R_lt (by (with_reducible repeat (first | apply Kd.R_alloc | apply Kd.R_drewN | apply Kd.R_drew)); exact (Kd.R_mono (Kd.R_far (Kd.R_far (Kd.R_types HO951.out BK953.out (by decide)) (fun _ hk => hk.2) _) (fun _ hk => hk.2) _) (fun _ h_ => h_.1))))) (below_size (upB HB.out))); replace HO951 := Aside0.mk (Kd.R_elder' (by (with_reducible repeat (first | apply Kd.R_alloc | apply Kd.R_drewN | apply Kd.R_drew)); exact (Kd.R_mono (Kd.R_far (Kd.R_far (Kd.R_types HO951.out BK953.out (by decide)) (fun _ hk => hk.2) _) (fun _ hk => hk.2) _) (fun _ h_ => h_.1))) (Kd.R_base ho0) hb); replace BK944 := Aside0.mk (blk_below (g := gb944) (o := .cells #[.int .i64 a0_0, .int .i64 a0_1, .int .i64 a0_2, .int .i64 a0_3, .int .i64 a0_4, .int .i64 a0_5, .slice A0_6 l0_6.length c0_6] 67 (0, 0)) (by (with_reducible repeat (first | refine blk_far ?_ NB944_953.out _ | refine blk_drewN ?_ _ | refine blk_drew ?_ | refine blk_alloc ?_ _)); exact BK944.out) hb); replace BK945 := Aside0.mk (blk_below (g := gb945) (o := .cells #[.int .i64 a1_0, .slice A1_1 l1_1.length c1_1] 26 (0, 0)) (by (with_reducible repeat (first | refine blk_far ?_ NB945_953.out _ | refine blk_drewN ?_ _ | refine blk_drew ?_ | refine blk_alloc ?_ _)); exact BK945.out) hb); replace BK953 := Aside0.mk (blk_below (g := gb953) (o := .cells #[.int .i64 t948, .slice Ao35 t949.length co35] 26 (0, 0)) (by (with_reducible repeat (first | refine blk_drewN ?_ _ | refine blk_drew ?_ | refine blk_alloc ?_ _)); refine blk_put (cs := #[.int .i64 t948, .slice none 0 0]) ?_ 1 _ rfl; (with_reducible repeat (first | refine blk_drewN ?_ _ | refine blk_drew ?_ | refine blk_alloc ?_ _)); refine blk_put (cs := #[.int .i64 0, .slice none 0 0]) ?_ 0 _ rfl; (with_reducible repeat (first | refine blk_drewN ?_ _ | refine blk_drew ?_ | refine blk_alloc ?_ _)); exact BK953.out) hb); replace HB := Aside0.mk (below_step (upB HB.out) hb); (try clear hb; try clear hb2; try clear hk; try clear hi; try clear ho0)) | ((with_reducible refine gate_dst (N := 7) rfl ?_); refine box_event ?hg (N := 7) ?hd (cs := #[.int .i64 0, .slice none 0 0]) (t := 26) ?hr ?_; (case hd => rfl); (case hg => rfl); (case hr => first | (go_simp; done) | (go_simp; rfl)); intro gb959 hg w38 hbox hb; replace HO951 := Aside0.mk (Kd.R_below (upR HO951.out) hb); replace HO957 := Aside0.mk (Kd.R_below (upR HO957.out) hb); have BK959 := Aside0.mk (hbox); have GW959 := Aside0.mk ((by rw [hg]; exact (below_size (upB HB.out)) : w.heap.size ≤ gb959)); have GE959 := Aside0.mk ((by rw [hg]; exact (below_size (upB HB.out)) : w.heap.size ≤ gb959)); replace HB := Aside0.mk (below_step (upB HB.out) hb); have NB944_959 := Aside0.mk ((by rw [hg]; exact Nat.ne_of_lt (blk_lt (upK BK944.out)) : gb944 ≠ gb959)); have NB959_944 := Aside0.mk ((by rw [hg]; exact Nat.ne_of_gt (blk_lt (upK BK944.out)) : gb959 ≠ gb944)); replace BK944 := Aside0.mk (blk_below (g := gb944) (o := .cells #[.int .i64 a0_0, .int .i64 a0_1, .int .i64 a0_2, .int .i64 a0_3, .int .i64 a0_4, .int .i64 a0_5, .slice A0_6 l0_6.length c0_6] 67 (0, 0)) (upK BK944.out) hb); have NB945_959 := Aside0.mk ((by rw [hg]; exact Nat.ne_of_lt (blk_lt (upK BK945.out)) : gb945 ≠ gb959)); have NB959_945 := Aside0.mk ((by rw [hg]; exact Nat.ne_of_gt (blk_lt (upK BK945.out)) : gb959 ≠ gb945)); replace BK945 := Aside0.mk (blk_below (g := gb945) (o := .cells #[.int .i64 a1_0, .slice A1_1 l1_1.length c1_1] 26 (0, 0)) (upK BK945.out) hb); have NB953_959 := Aside0.mk ((by rw [hg]; exact Nat.ne_of_lt (blk_lt (upK BK953.out)) : gb953 ≠ gb959)); have NB959_953 := Aside0.mk ((by rw [hg]; exact Nat.ne_of_gt (blk_lt (upK BK953.out)) : gb959 ≠ gb953)); replace BK953 := Aside0.mk (blk_below (g := gb953) (o := .cells #[.int .i64 t948, .slice Ao35 t949.length co35] 26 (0, 0)) (upK BK953.out) hb); clear hb hbox hg; have hnb39 := NB959_944.out; have hnc39 := NB944_959.out; have hnb40 := NB959_945.out; have hnc40 := NB945_959.out; have hnb41 := NB959_953.out; have hnc41 := NB953_959.out; have hcz42_0 : w38.cell? ⟨gb959, 0, none⟩ = some (.int .i64 0) := bc BK959 0; have hcz42_1 : w38.cell? ⟨gb959, 1, none⟩ = some (.slice none 0 0) := bc BK959 1; have hfz42_0 := blk_frozen BK959.out 0; have hfz42_1 := blk_frozen BK959.out 1; obtain ⟨Ao43, co43, eo43⟩ := Kd.R_slice HO957.out; subst eo43; have hcz44_0 : w38.cell? ⟨gb945, 0, none⟩ = some (.int .i64 a1_0) := bc BK945 0; have hcz44_1 : w38.cell? ⟨gb945, 1, none⟩ = some (.slice A1_1 l1_1.length c1_1) := bc BK945 1; have hfz44_0 := blk_frozen BK945.out 0; have hfz44_1 := blk_frozen BK945.out 1) | ((with_reducible refine gate_callee (f := 39) rfl ?_); refine goesL_ (some 34) rfl rfl Try.func39 (by kernel_rfl) rfl #[.agg #[.int .i64 a1_0, .slice A1_1 l1_1.length c1_1]] rfl upL ?_; (with_reducible refine (headseg_ParseSize.calls kj2 a1_0 _ _ l1_1 t960 t961 t962 t963 t964 t965 t966 t969 _ ?side1 ?side2 A19.out).mono ?_); (case side1 => exact Kd.C_below HR1_1.out (upB HB.out)); (case side2 => exact HC1_1.out); rintro e w45 ⟨v967, rfl, ho0, hb⟩; refine ⟨_, rfl, ?_⟩; replace HO951 := Aside0.mk (Kd.R_below (by (with_reducible repeat (first | apply Kd.R_alloc | apply Kd.R_drewN | apply Kd.R_drew)); exact (Kd.R_mono (Kd.R_far (Kd.R_far (Kd.R_types HO951.out BK959.out (by decide)) (fun _ hk => hk.2) _) (fun _ hk => hk.2) _) (fun _ h_ => h_.1))) hb); replace HO957 := Aside0.mk (Kd.R_below (by (with_reducible repeat (first | apply Kd.R_alloc | apply Kd.R_drewN | apply Kd.R_drew)); exact (Kd.R_mono (Kd.R_far (Kd.R_far (Kd.R_types HO957.out BK959.out (by decide)) (fun _ hk => hk.2) _) (fun _ hk => hk.2) _) (fun _ h_ => h_.1))) hb); have HO968 := Aside0.mk (Kd.R_lower ho0 (below_size (upB HB.out))); replace BK944 := Aside0.mk (blk_below (g := gb944) (o := .cells #[.int .i64 a0_0, .int .i64 a0_1, .int .i64 a0_2, .int .i64 a0_3, .int .i64 a0_4, .int .i64 a0_5, .slice A0_6 l0_6.length c0_6] 67 (0, 0)) (by (with_reducible repeat (first | refine blk_far ?_ NB944_959.out _ | refine blk_drewN ?_ _ | refine blk_drew ?_ | refine blk_alloc ?_ _)); exact BK944.out) hb); replace BK945 := Aside0.mk (blk_below (g := gb945) (o := .cells #[.int .i64 a1_0, .slice A1_1 l1_1.length c1_1] 26 (0, 0)) (by (with_reducible repeat (first | refine blk_far ?_ NB945_959.out _ | refine blk_drewN ?_ _ | refine blk_drew ?_ | refine blk_alloc ?_ _)); exact BK945.out) hb); replace BK953 := Aside0.mk (blk_below (g := gb953) (o := .cells #[.int .i64 t948, .slice Ao35 t949.length co35] 26 (0, 0)) (by (with_reducible repeat (first | refine blk_far ?_ NB953_959.out _ | refine blk_drewN ?_ _ | refine blk_drew ?_ | refine blk_alloc ?_ _)); exact BK953.out) hb); replace BK959 := Aside0.mk (blk_below (g := gb959) (o := .cells #[.int .i64 t954, .slice Ao43 t955.length co43] 26 (0, 0)) (by (with_reducible repeat (first | refine blk_drewN ?_ _ | refine blk_drew ?_ | refine blk_alloc ?_ _)); refine blk_put (cs := #[.int .i64 t954, .slice none 0 0]) ?_ 1 _ rfl; (with_reducible repeat (first | refine blk_drewN ?_ _ | refine blk_drew ?_ | refine blk_alloc ?_ _)); refine blk_put (cs := #[.int .i64 0, .slice none 0 0]) ?_ 0 _ rfl; (with_reducible repeat (first | refine blk_drewN ?_ _ | refine blk_drew ?_ | refine blk_alloc ?_ _)); exact BK959.out) hb); replace HB := Aside0.mk (below_step (upB HB.out) hb); (try clear hb; try clear hb2; try clear hk; try clear hi; try clear ho0)) | ((with_reducible refine gate_dst (N := 9) rfl ?_); refine box_event ?hg (N := 9) ?hd (cs := #[.int .i64 0, .int .i64 0, .int .i64 0, .int .i64 0, .int .i64 0, .int .i64 0, .slice none 0 0]) (t := 67) ?hr ?_; (case hd => rfl); (case hg => rfl); (case hr => first | (go_simp; done) | (go_simp; rfl)); intro gb970 hg w46 hbox hb; replace HO951 := Aside0.mk (Kd.R_below (upR HO951.out) hb); replace HO957 := Aside0.mk (Kd.R_below (upR HO957.out) hb); replace HO968 := Aside0.mk (Kd.R_below (upR HO968.out) hb); have BK970 := Aside0.mk (hbox); have GW970 := Aside0.mk ((by rw [hg]; exact (below_size (upB HB.out)) : w.heap.size ≤ gb970)); have GE970 := Aside0.mk ((by rw [hg]; exact (below_size (upB HB.out)) : w.heap.size ≤ gb970)); replace HB := Aside0.mk (below_step (upB HB.out) hb); have NB944_970 := Aside0.mk ((by rw [hg]; exact Nat.ne_of_lt (blk_lt (upK BK944.out)) : gb944 ≠ gb970)); have NB970_944 := Aside0.mk ((by rw [hg]; exact Nat.ne_of_gt (blk_lt (upK BK944.out)) : gb970 ≠ gb944)); replace BK944 := Aside0.mk (blk_below (g := gb944) (o := .cells #[.int .i64 a0_0, .int .i64 a0_1, .int .i64 a0_2, .int .i64 a0_3, .int .i64 a0_4, .int .i64 a0_5, .slice A0_6 l0_6.length c0_6] 67 (0, 0)) (upK BK944.out) hb); have NB945_970 := Aside0.mk ((by rw [hg]; exact Nat.ne_of_lt (blk_lt (upK BK945.out)) : gb945 ≠ gb970)); have NB970_945 := Aside0.mk ((by rw [hg]; exact Nat.ne_of_gt (blk_lt (upK BK945.out)) : gb970 ≠ gb945)); replace BK945 := Aside0.mk (blk_below (g := gb945) (o := .cells #[.int .i64 a1_0, .slice A1_1 l1_1.length c1_1] 26 (0, 0)) (upK BK945.out) hb); have NB953_970 := Aside0.mk ((by rw [hg]; exact Nat.ne_of_lt (blk_lt (upK BK953.out)) : gb953 ≠ gb970)); have NB970_953 := Aside0.mk ((by rw [hg]; exact Nat.ne_of_gt (blk_lt (upK BK953.out)) : gb970 ≠ gb953)); replace BK953 := Aside0.mk (blk_below (g := gb953) (o := .cells #[.int .i64 t948, .slice Ao35 t949.length co35] 26 (0, 0)) (upK BK953.out) hb); have NB959_970 := Aside0.mk ((by rw [hg]; exact Nat.ne_of_lt (blk_lt (upK BK959.out)) : gb959 ≠ gb970)); have NB970_959 := Aside0.mk ((by rw [hg]; exact Nat.ne_of_gt (blk_lt (upK BK959.out)) : gb970 ≠ gb959)); replace BK959 := Aside0.mk (blk_below (g := gb959) (o := .cells #[.int .i64 t954, .slice Ao43 t955.length co43] 26 (0, 0)) (upK BK959.out) hb); clear hb hbox hg; have hnb47 := NB970_944.out; have hnc47 := NB944_970.out; have hnb48 := NB970_945.out; have hnc48 := NB945_970.out; have hnb49 := NB970_953.out; have hnc49 := NB953_970.out; have hnb50 := NB970_959.out; have hnc50 := NB959_970.out; have hcz51_0 : w46.cell? ⟨gb970, 0, none⟩ = some (.int .i64 0) := bc BK970 0; have hcz51_1 : w46.cell? ⟨gb970, 1, none⟩ = some (.int .i64 0) := bc BK970 1; have hcz51_2 : w46.cell? ⟨gb970, 2, none⟩ = some (.int .i64 0) := bc BK970 2; have hcz51_3 : w46.cell? ⟨gb970, 3, none⟩ = some (.int .i64 0) := bc BK970 3; have hcz51_4 : w46.cell? ⟨gb970, 4, none⟩ = some (.int .i64 0) := bc BK970 4; have hcz51_5 : w46.cell? ⟨gb970, 5, none⟩ = some (.int .i64 0) := bc BK970 5; have hcz51_6 : w46.cell? ⟨gb970, 6, none⟩ = some (.slice none 0 0) := bc BK970 6; have hfz51_0 := blk_frozen BK970.out 0; have hfz51_1 := blk_frozen BK970.out 1; have hfz51_2 := blk_frozen BK970.out 2; have hfz51_3 := blk_frozen BK970.out 3; have hfz51_4 := blk_frozen BK970.out 4; have hfz51_5 := blk_frozen BK970.out 5; have hfz51_6 := blk_frozen BK970.out 6; obtain ⟨Ao52, co52, eo52⟩ := Kd.R_slice HO968.out; subst eo52; have hcz53_0 : w46.cell? ⟨gb945, 0, none⟩ = some (.int .i64 a1_0) := bc BK945 0; have hcz53_1 : w46.cell? ⟨gb945, 1, none⟩ = some (.slice A1_1 l1_1.length c1_1) := bc BK945 1; have hfz53_0 := blk_frozen BK945.out 0; have hfz53_1 := blk_frozen BK945.out 1) | ((with_reducible refine gate_callee (f := 40) rfl ?_); refine goesL_ (some 39) rfl rfl Try.func40 (by kernel_rfl) rfl #[.agg #[.int .i64 a1_0, .slice A1_1 l1_1.length c1_1]] rfl upL ?_; (with_reducible refine (waveletref29_ParseSize.calls kj2 a1_0 _ _ l1_1 t971 t972 t973 t974 t975 t976 t977 t980 _ ?side1 ?side2 A20.out).mono ?_); (case side1 => exact Kd.C_below HR1_1.out (upB HB.out)); (case side2 => exact HC1_1.out); rintro e w54 ⟨v978, rfl, ho0, hb⟩; refine ⟨_, rfl, ?_⟩; replace HO951 := Aside0.mk (Kd.R_below (by (with_reducible repeat (first | apply Kd.R_alloc | apply Kd.R_drewN | apply Kd.R_drew)); exact (Kd.R_mono (Kd.R_far (Kd.R_far (Kd.R_far (Kd.R_far (Kd.R_far (Kd.R_far (Kd.R_far (Kd.R_types HO951.out BK970.out (by decide)) (fun _ hk => hk.2) _) (fun _ hk => hk.2) _) (fun _ hk => hk.2) _) (fun _ hk => hk.2) _) (fun _ hk => hk.2) _) (fun _ hk => hk.2) _) (fun _ hk => hk.2) _) (fun _ h_ => h_.1))) hb); replace HO957 := Aside0.mk (Kd.R_below (by (with_reducible repeat (first | apply Kd.R_alloc | apply Kd.R_drewN | apply Kd.R_drew)); exact (Kd.R_mono (Kd.R_far (Kd.R_far (Kd.R_far (Kd.R_far (Kd.R_far (Kd.R_far (Kd.R_far (Kd.R_types HO957.out BK970.out (by decide)) (fun _ hk => hk.2) _) (fun _ hk => hk.2) _) (fun _ hk => hk.2) _) (fun _ hk => hk.2) _) (fun _ hk => hk.2) _) (fun _ hk => hk.2) _) (fun _ hk => hk.2) _) (fun _ h_ => h_.1))) hb); have HO979 := Aside0.mk (Kd.R_lower (Kd.R_new' ho0 (Kd.R_lt (by (with_reducible repeat (first | apply Kd.R_alloc | apply Kd.R_drewN | apply Kd.R_drew)); exact (Kd.R_mono (Kd.R_far (Kd.R_far (Kd.R_far (Kd.R_far (Kd.R_far (Kd.R_far (Kd.R_far (Kd.R_types HO968.out BK970.out (by decide)) (fun _ hk => hk.2) _) (fun _ hk => hk.2) _) (fun _ hk => hk.2) _) (fun _ hk => hk.2) _) (fun _ hk => hk.2) _) (fun _ hk => hk.2) _) (fun _ hk => hk.2) _) (fun _ h_ => h_.1))))) (below_size (upB HB.out))); replace HO968 := Aside0.mk (Kd.R_elder' (by (with_reducible repeat (first | apply Kd.R_alloc | apply Kd.R_drewN | apply Kd.R_drew)); exact (Kd.R_mono (Kd.R_far (Kd.R_far (Kd.R_far (Kd.R_far (Kd.R_far (Kd.R_far (Kd.R_far (Kd.R_types HO968.out BK970.out (by decide)) (fun _ hk => hk.2) _) (fun _ hk => hk.2) _) (fun _ hk => hk.2) _) (fun _ hk => hk.2) _) (fun _ hk => hk.2) _) (fun _ hk => hk.2) _) (fun _ hk => hk.2) _) (fun _ h_ => h_.1))) (Kd.R_base ho0) hb); replace BK944 := Aside0.mk (blk_below (g := gb944) (o := .cells #[.int .i64 a0_0, .int .i64 a0_1, .int .i64 a0_2, .int .i64 a0_3, .int .i64 a0_4, .int .i64 a0_5, .slice A0_6 l0_6.length c0_6] 67 (0, 0)) (by (with_reducible repeat (first | refine blk_far ?_ NB944_970.out _ | refine blk_drewN ?_ _ | refine blk_drew ?_ | refine blk_alloc ?_ _)); exact BK944.out) hb); replace BK945 := Aside0.mk (blk_below (g := gb945) (o := .cells #[.int .i64 a1_0, .slice A1_1 l1_1.length c1_1] 26 (0, 0)) (by (with_reducible repeat (first | refine blk_far ?_ NB945_970.out _ | refine blk_drewN ?_ _ | refine blk_drew ?_ | refine blk_alloc ?_ _)); exact BK945.out) hb); replace BK953 := Aside0.mk (blk_below (g := gb953) (o := .cells #[.int .i64 t948, .slice Ao35 t949.length co35] 26 (0, 0)) (by (with_reducible repeat (first | refine blk_far ?_ NB953_970.out _ | refine blk_drewN ?_ _ | refine blk_drew ?_ | refine blk_alloc ?_ _)); exact BK953.out) hb); replace BK959 := Aside0.mk (blk_below (g := gb959) (o := .cells #[.int .i64 t954, .slice Ao43 t955.length co43] 26 (0, 0)) (by (with_reducible repeat (first | refine blk_far ?_ NB959_970.out _ | refine blk_drewN ?_ _ | refine blk_drew ?_ | refine blk_alloc ?_ _)); exact BK959.out) hb); replace BK970 := Aside0.mk (blk_below (g := gb970) (o := .cells #[.int .i64 t960, .int .i64 t961, .int .i64 t962, .int .i64 t963, .int .i64 t964, .int .i64 t965, .slice Ao52 t966.length co52] 67 (0, 0)) (by (with_reducible repeat (first | refine blk_drewN ?_ _ | refine blk_drew ?_ | refine blk_alloc ?_ _)); refine blk_put (cs := #[.int .i64 t960, .int .i64 t961, .int .i64 t962, .int .i64 t963, .int .i64 t964, .int .i64 t965, .slice none 0 0]) ?_ 6 _ rfl; (with_reducible repeat (first | refine blk_drewN ?_ _ | refine blk_drew ?_ | refine blk_alloc ?_ _)); refine blk_put (cs := #[.int .i64 t960, .int .i64 t961, .int .i64 t962, .int .i64 t963, .int .i64 t964, .int .i64 0, .slice none 0 0]) ?_ 5 _ rfl; (with_reducible repeat (first | refine blk_drewN ?_ _ | refine blk_drew ?_ | refine blk_alloc ?_ _)); refine blk_put (cs := #[.int .i64 t960, .int .i64 t961, .int .i64 t962, .int .i64 t963, .int .i64 0, .int .i64 0, .slice none 0 0]) ?_ 4 _ rfl; (with_reducible repeat (first | refine blk_drewN ?_ _ | refine blk_drew ?_ | refine blk_alloc ?_ _)); refine blk_put (cs := #[.int .i64 t960, .int .i64 t961, .int .i64 t962, .int .i64 0, .int .i64 0, .int .i64 0, .slice none 0 0]) ?_ 3 _ rfl; (with_reducible repeat (first | refine blk_drewN ?_ _ | refine blk_drew ?_ | refine blk_alloc ?_ _)); refine blk_put (cs := #[.int .i64 t960, .int .i64 t961, .int .i64 0, .int .i64 0, .int .i64 0, .int .i64 0, .slice none 0 0]) ?_ 2 _ rfl; (with_reducible repeat (first | refine blk_drewN ?_ _ | refine blk_drew ?_ | refine blk_alloc ?_ _)); refine blk_put (cs := #[.int .i64 t960, .int .i64 0, .int .i64 0, .int .i64 0, .int .i64 0, .int .i64 0, .slice none 0 0]) ?_ 1 _ rfl; (with_reducible repeat (first | refine blk_drewN ?_ _ | refine blk_drew ?_ | refine blk_alloc ?_ _)); refine blk_put (cs := #[.int .i64 0, .int .i64 0, .int .i64 0, .int .i64 0, .int .i64 0, .int .i64 0, .slice none 0 0]) ?_ 0 _ rfl; (with_reducible repeat (first | refine blk_drewN ?_ _ | refine blk_drew ?_ | refine blk_alloc ?_ _)); exact BK970.out) hb); replace HB := Aside0.mk (below_step (upB HB.out) hb); (try clear hb; try clear hb2; try clear hk; try clear hi; try clear ho0)) | ((with_reducible refine gate_dst (N := 11) rfl ?_); refine box_event ?hg (N := 11) ?hd (cs := #[.int .i64 0, .int .i64 0, .int .i64 0, .int .i64 0, .int .i64 0, .int .i64 0, .slice none 0 0]) (t := 67) ?hr ?_; (case hd => rfl); (case hg => rfl); (case hr => first | (go_simp; done) | (go_simp; rfl)); intro gb981 hg w55 hbox hb; replace HO951 := Aside0.mk (Kd.R_below (upR HO951.out) hb); replace HO957 := Aside0.mk (Kd.R_below (upR HO957.out) hb); replace HO968 := Aside0.mk (Kd.R_below (upR HO968.out) hb); replace HO979 := Aside0.mk (Kd.R_below (upR HO979.out) hb); have BK981 := Aside0.mk (hbox); have GW981 := Aside0.mk ((by rw [hg]; exact (below_size (upB HB.out)) : w.heap.size ≤ gb981)); have GE981 := Aside0.mk ((by rw [hg]; exact (below_size (upB HB.out)) : w.heap.size ≤ gb981)); replace HB := Aside0.mk (below_step (upB HB.out) hb); have NB944_981 := Aside0.mk ((by rw [hg]; exact Nat.ne_of_lt (blk_lt (upK BK944.out)) : gb944 ≠ gb981)); have NB981_944 := Aside0.mk ((by rw [hg]; exact Nat.ne_of_gt (blk_lt (upK BK944.out)) : gb981 ≠ gb944)); replace BK944 := Aside0.mk (blk_below (g := gb944) (o := .cells #[.int .i64 a0_0, .int .i64 a0_1, .int .i64 a0_2, .int .i64 a0_3, .int .i64 a0_4, .int .i64 a0_5, .slice A0_6 l0_6.length c0_6] 67 (0, 0)) (upK BK944.out) hb); have NB945_981 := Aside0.mk ((by rw [hg]; exact Nat.ne_of_lt (blk_lt (upK BK945.out)) : gb945 ≠ gb981)); have NB981_945 := Aside0.mk ((by rw [hg]; exact Nat.ne_of_gt (blk_lt (upK BK945.out)) : gb981 ≠ gb945)); replace BK945 := Aside0.mk (blk_below (g := gb945) (o := .cells #[.int .i64 a1_0, .slice A1_1 l1_1.length c1_1] 26 (0, 0)) (upK BK945.out) hb); have NB953_981 := Aside0.mk ((by rw [hg]; exact Nat.ne_of_lt (blk_lt (upK BK953.out)) : gb953 ≠ gb981)); have NB981_953 := Aside0.mk ((by rw [hg]; exact Nat.ne_of_gt (blk_lt (upK BK953.out)) : gb981 ≠ gb953)); replace BK953 := Aside0.mk (blk_below (g := gb953) (o := .cells #[.int .i64 t948, .slice Ao35 t949.length co35] 26 (0, 0)) (upK BK953.out) hb); have NB959_981 := Aside0.mk ((by rw [hg]; exact Nat.ne_of_lt (blk_lt (upK BK959.out)) : gb959 ≠ gb981)); have NB981_959 := Aside0.mk ((by rw [hg]; exact Nat.ne_of_gt (blk_lt (upK BK959.out)) : gb981 ≠ gb959)); replace BK959 := Aside0.mk (blk_below (g := gb959) (o := .cells #[.int .i64 t954, .slice Ao43 t955.length co43] 26 (0, 0)) (upK BK959.out) hb); have NB970_981 := Aside0.mk ((by rw [hg]; exact Nat.ne_of_lt (blk_lt (upK BK970.out)) : gb970 ≠ gb981)); have NB981_970 := Aside0.mk ((by rw [hg]; exact Nat.ne_of_gt (blk_lt (upK BK970.out)) : gb981 ≠ gb970)); replace BK970 := Aside0.mk (blk_below (g := gb970) (o := .cells #[.int .i64 t960, .int .i64 t961, .int .i64 t962, .int .i64 t963, .int .i64 t964, .int .i64 t965, .slice Ao52 t966.length co52] 67 (0, 0)) (upK BK970.out) hb); clear hb hbox hg; have hnb56 := NB981_944.out; have hnc56 := NB944_981.out; have hnb57 := NB981_945.out; have hnc57 := NB945_981.out; have hnb58 := NB981_953.out; have hnc58 := NB953_981.out; have hnb59 := NB981_959.out; have hnc59 := NB959_981.out; have hnb60 := NB981_970.out; have hnc60 := NB970_981.out; have hcz61_0 : w55.cell? ⟨gb981, 0, none⟩ = some (.int .i64 0) := bc BK981 0; have hcz61_1 : w55.cell? ⟨gb981, 1, none⟩ = some (.int .i64 0) := bc BK981 1; have hcz61_2 : w55.cell? ⟨gb981, 2, none⟩ = some (.int .i64 0) := bc BK981 2; have hcz61_3 : w55.cell? ⟨gb981, 3, none⟩ = some (.int .i64 0) := bc BK981 3; have hcz61_4 : w55.cell? ⟨gb981, 4, none⟩ = some (.int .i64 0) := bc BK981 4; have hcz61_5 : w55.cell? ⟨gb981, 5, none⟩ = some (.int .i64 0) := bc BK981 5; have hcz61_6 : w55.cell? ⟨gb981, 6, none⟩ = some (.slice none 0 0) := bc BK981 6; have hfz61_0 := blk_frozen BK981.out 0; have hfz61_1 := blk_frozen BK981.out 1; have hfz61_2 := blk_frozen BK981.out 2; have hfz61_3 := blk_frozen BK981.out 3; have hfz61_4 := blk_frozen BK981.out 4; have hfz61_5 := blk_frozen BK981.out 5; have hfz61_6 := blk_frozen BK981.out 6; obtain ⟨Ao62, co62, eo62⟩ := Kd.R_slice HO979.out; subst eo62; have hcz63_0 : w55.cell? ⟨gb953, 0, none⟩ = some (.int .i64 t948) := bc BK953 0; have hcz63_1 : w55.cell? ⟨gb953, 1, none⟩ = some (.slice Ao35 t949.length co35) := bc BK953 1; have hfz63_0 := blk_frozen BK953.out 0; have hfz63_1 := blk_frozen BK953.out 1; have hcz64_0 : w55.cell? ⟨gb959, 0, none⟩ = some (.int .i64 t954) := bc BK959 0; have hcz64_1 : w55.cell? ⟨gb959, 1, none⟩ = some (.slice Ao43 t955.length co43) := bc BK959 1; have hfz64_0 := blk_frozen BK959.out 0; have hfz64_1 := blk_frozen BK959.out 1) | ((with_reducible refine gate_callee (f := 17) rfl ?_); refine goesL_ (some 44) rfl rfl Try.func17 (by kernel_rfl) rfl #[.agg #[.int .i64 t948, .slice Ao35 t949.length co35], .agg #[.int .i64 t954, .slice Ao43 t955.length co43]] rfl upL ?_; (with_reducible refine (waveletlaw29_sameSegment.calls kj2 t948 _ _ t949 t954 _ _ t955 true _ ?side1 ?side2 ?side3 ?side4 A21.out).mono ?_); (case side1 => refine (Kd.R_reads' (e := 5) (base := w.heap.size) (ok := fun k_ => (True ∧ some k_ ≠ (.slice Ao43 t955.length co43 : Value).ownBlock)) (n := t949.length) (c := co35) ?_).2.2; exact (by (with_reducible repeat (first | apply Kd.R_alloc | apply Kd.R_drewN | apply Kd.R_drew)); exact (Kd.R_mono (Kd.R_far (Kd.R_far (Kd.R_far (Kd.R_far (Kd.R_far (Kd.R_far (Kd.R_far (Kd.R_types HO951.out BK981.out (by decide)) (fun _ hk => hk.2) _) (fun _ hk => hk.2) _) (fun _ hk => hk.2) _) (fun _ hk => hk.2) _) (fun _ hk => hk.2) _) (fun _ hk => hk.2) _) (fun _ hk => hk.2) _) (fun _ h_ => h_.1)))); (case side2 => exact (Kd.R_reads' HO951.out).2.1); (case side3 => refine (Kd.R_reads' (e := 5) (base := w.heap.size) (ok := fun k_ => (True ∧ some k_ ≠ (.slice Ao35 t949.length co35 : Value).ownBlock)) (n := t955.length) (c := co43) ?_).2.2; exact (by (with_reducible repeat (first | apply Kd.R_alloc | apply Kd.R_drewN | apply Kd.R_drew)); exact (Kd.R_mono (Kd.R_far (Kd.R_far (Kd.R_far (Kd.R_far (Kd.R_far (Kd.R_far (Kd.R_far (Kd.R_types HO957.out BK981.out (by decide)) (fun _ hk => hk.2) _) (fun _ hk => hk.2) _) (fun _ hk => hk.2) _) (fun _ hk => hk.2) _) (fun _ hk => hk.2) _) (fun _ hk => hk.2) _) (fun _ hk => hk.2) _) (fun _ h_ => h_.1)))); (case side4 => exact (Kd.R_reads' HO957.out).2.1); rintro e w65 ⟨rfl, hb⟩; refine ⟨_, rfl, ?_⟩; replace HO951 := Aside0.mk (Kd.R_below (by (with_reducible repeat (first | apply Kd.R_alloc | apply Kd.R_drewN | apply Kd.R_drew)); exact (Kd.R_mono (Kd.R_far (Kd.R_far (Kd.R_far (Kd.R_far (Kd.R_far (Kd.R_far (Kd.R_far (Kd.R_types HO951.out BK981.out (by decide)) (fun _ hk => hk.2) _) (fun _ hk => hk.2) _) (fun _ hk => hk.2) _) (fun _ hk => hk.2) _) (fun _ hk => hk.2) _) (fun _ hk => hk.2) _) (fun _ hk => hk.2) _) (fun _ h_ => h_.1))) hb); replace HO957 := Aside0.mk (Kd.R_below (by (with_reducible repeat (first | apply Kd.R_alloc | apply Kd.R_drewN | apply Kd.R_drew)); exact (Kd.R_mono (Kd.R_far (Kd.R_far (Kd.R_far (Kd.R_far (Kd.R_far (Kd.R_far (Kd.R_far (Kd.R_types HO957.out BK981.out (by decide)) (fun _ hk => hk.2) _) (fun _ hk => hk.2) _) (fun _ hk => hk.2) _) (fun _ hk => hk.2) _) (fun _ hk => hk.2) _) (fun _ hk => hk.2) _) (fun _ hk => hk.2) _) (fun _ h_ => h_.1))) hb); replace HO968 := Aside0.mk (Kd.R_below (by (with_reducible repeat (first | apply Kd.R_alloc | apply Kd.R_drewN | apply Kd.R_drew)); exact (Kd.R_mono (Kd.R_far (Kd.R_far (Kd.R_far (Kd.R_far (Kd.R_far (Kd.R_far (Kd.R_far (Kd.R_types HO968.out BK981.out (by decide)) (fun _ hk => hk.2) _) (fun _ hk => hk.2) _) (fun _ hk => hk.2) _) (fun _ hk => hk.2) _) (fun _ hk => hk.2) _) (fun _ hk => hk.2) _) (fun _ hk => hk.2) _) (fun _ h_ => h_.1))) hb); replace HO979 := Aside0.mk (Kd.R_below (by (with_reducible repeat (first | apply Kd.R_alloc | apply Kd.R_drewN | apply Kd.R_drew)); exact (Kd.R_mono (Kd.R_far (Kd.R_far (Kd.R_far (Kd.R_far (Kd.R_far (Kd.R_far (Kd.R_far (Kd.R_types HO979.out BK981.out (by decide)) (fun _ hk => hk.2) _) (fun _ hk => hk.2) _) (fun _ hk => hk.2) _) (fun _ hk => hk.2) _) (fun _ hk => hk.2) _) (fun _ hk => hk.2) _) (fun _ hk => hk.2) _) (fun _ h_ => h_.1))) hb); replace BK944 := Aside0.mk (blk_below (g := gb944) (o := .cells #[.int .i64 a0_0, .int .i64 a0_1, .int .i64 a0_2, .int .i64 a0_3, .int .i64 a0_4, .int .i64 a0_5, .slice A0_6 l0_6.length c0_6] 67 (0, 0)) (by (with_reducible repeat (first | refine blk_far ?_ NB944_981.out _ | refine blk_drewN ?_ _ | refine blk_drew ?_ | refine blk_alloc ?_ _)); exact BK944.out) hb); replace BK945 := Aside0.mk (blk_below (g := gb945) (o := .cells #[.int .i64 a1_0, .slice A1_1 l1_1.length c1_1] 26 (0, 0)) (by (with_reducible repeat (first | refine blk_far ?_ NB945_981.out _ | refine blk_drewN ?_ _ | refine blk_drew ?_ | refine blk_alloc ?_ _)); exact BK945.out) hb); replace BK953 := Aside0.mk (blk_below (g := gb953) (o := .cells #[.int .i64 t948, .slice Ao35 t949.length co35] 26 (0, 0)) (by (with_reducible repeat (first | refine blk_far ?_ NB953_981.out _ | refine blk_drewN ?_ _ | refine blk_drew ?_ | refine blk_alloc ?_ _)); exact BK953.out) hb); replace BK959 := Aside0.mk (blk_below (g := gb959) (o := .cells #[.int .i64 t954, .slice Ao43 t955.length co43] 26 (0, 0)) (by (with_reducible repeat (first | refine blk_far ?_ NB959_981.out _ | refine blk_drewN ?_ _ | refine blk_drew ?_ | refine blk_alloc ?_ _)); exact BK959.out) hb); replace BK970 := Aside0.mk (blk_below (g := gb970) (o := .cells #[.int .i64 t960, .int .i64 t961, .int .i64 t962, .int .i64 t963, .int .i64 t964, .int .i64 t965, .slice Ao52 t966.length co52] 67 (0, 0)) (by (with_reducible repeat (first | refine blk_far ?_ NB970_981.out _ | refine blk_drewN ?_ _ | refine blk_drew ?_ | refine blk_alloc ?_ _)); exact BK970.out) hb); replace BK981 := Aside0.mk (blk_below (g := gb981) (o := .cells #[.int .i64 t971, .int .i64 t972, .int .i64 t973, .int .i64 t974, .int .i64 t975, .int .i64 t976, .slice Ao62 t977.length co62] 67 (0, 0)) (by (with_reducible repeat (first | refine blk_drewN ?_ _ | refine blk_drew ?_ | refine blk_alloc ?_ _)); refine blk_put (cs := #[.int .i64 t971, .int .i64 t972, .int .i64 t973, .int .i64 t974, .int .i64 t975, .int .i64 t976, .slice none 0 0]) ?_ 6 _ rfl; (with_reducible repeat (first | refine blk_drewN ?_ _ | refine blk_drew ?_ | refine blk_alloc ?_ _)); refine blk_put (cs := #[.int .i64 t971, .int .i64 t972, .int .i64 t973, .int .i64 t974, .int .i64 t975, .int .i64 0, .slice none 0 0]) ?_ 5 _ rfl; (with_reducible repeat (first | refine blk_drewN ?_ _ | refine blk_drew ?_ | refine blk_alloc ?_ _)); refine blk_put (cs := #[.int .i64 t971, .int .i64 t972, .int .i64 t973, .int .i64 t974, .int .i64 0, .int .i64 0, .slice none 0 0]) ?_ 4 _ rfl; (with_reducible repeat (first | refine blk_drewN ?_ _ | refine blk_drew ?_ | refine blk_alloc ?_ _)); refine blk_put (cs := #[.int .i64 t971, .int .i64 t972, .int .i64 t973, .int .i64 0, .int .i64 0, .int .i64 0, .slice none 0 0]) ?_ 3 _ rfl; (with_reducible repeat (first | refine blk_drewN ?_ _ | refine blk_drew ?_ | refine blk_alloc ?_ _)); refine blk_put (cs := #[.int .i64 t971, .int .i64 t972, .int .i64 0, .int .i64 0, .int .i64 0, .int .i64 0, .slice none 0 0]) ?_ 2 _ rfl; (with_reducible repeat (first | refine blk_drewN ?_ _ | refine blk_drew ?_ | refine blk_alloc ?_ _)); refine blk_put (cs := #[.int .i64 t971, .int .i64 0, .int .i64 0, .int .i64 0, .int .i64 0, .int .i64 0, .slice none 0 0]) ?_ 1 _ rfl; (with_reducible repeat (first | refine blk_drewN ?_ _ | refine blk_drew ?_ | refine blk_alloc ?_ _)); refine blk_put (cs := #[.int .i64 0, .int .i64 0, .int .i64 0, .int .i64 0, .int .i64 0, .int .i64 0, .slice none 0 0]) ?_ 0 _ rfl; (with_reducible repeat (first | refine blk_drewN ?_ _ | refine blk_drew ?_ | refine blk_alloc ?_ _)); exact BK981.out) hb); replace HB := Aside0.mk (below_step (upB HB.out) hb); (try clear hb; try clear hb2; try clear hk; try clear hi); have hcz66_0 : w65.cell? ⟨gb970, 0, none⟩ = some (.int .i64 t960) := bc BK970 0; have hcz66_1 : w65.cell? ⟨gb970, 1, none⟩ = some (.int .i64 t961) := bc BK970 1; have hcz66_2 : w65.cell? ⟨gb970, 2, none⟩ = some (.int .i64 t962) := bc BK970 2; have hcz66_3 : w65.cell? ⟨gb970, 3, none⟩ = some (.int .i64 t963) := bc BK970 3; have hcz66_4 : w65.cell? ⟨gb970, 4, none⟩ = some (.int .i64 t964) := bc BK970 4; have hcz66_5 : w65.cell? ⟨gb970, 5, none⟩ = some (.int .i64 t965) := bc BK970 5; have hcz66_6 : w65.cell? ⟨gb970, 6, none⟩ = some (.slice Ao52 t966.length co52) := bc BK970 6; have hfz66_0 := blk_frozen BK970.out 0; have hfz66_1 := blk_frozen BK970.out 1; have hfz66_2 := blk_frozen BK970.out 2; have hfz66_3 := blk_frozen BK970.out 3; have hfz66_4 := blk_frozen BK970.out 4; have hfz66_5 := blk_frozen BK970.out 5; have hfz66_6 := blk_frozen BK970.out 6; have hcz67_0 : w65.cell? ⟨gb981, 0, none⟩ = some (.int .i64 t971) := bc BK981 0; have hcz67_1 : w65.cell? ⟨gb981, 1, none⟩ = some (.int .i64 t972) := bc BK981 1; have hcz67_2 : w65.cell? ⟨gb981, 2, none⟩ = some (.int .i64 t973) := bc BK981 2; have hcz67_3 : w65.cell? ⟨gb981, 3, none⟩ = some (.int .i64 t974) := bc BK981 3; have hcz67_4 : w65.cell? ⟨gb981, 4, none⟩ = some (.int .i64 t975) := bc BK981 4; have hcz67_5 : w65.cell? ⟨gb981, 5, none⟩ = some (.int .i64 t976) := bc BK981 5; have hcz67_6 : w65.cell? ⟨gb981, 6, none⟩ = some (.slice Ao62 t977.length co62) := bc BK981 6; have hfz67_0 := blk_frozen BK981.out 0; have hfz67_1 := blk_frozen BK981.out 1; have hfz67_2 := blk_frozen BK981.out 2; have hfz67_3 := blk_frozen BK981.out 3; have hfz67_4 := blk_frozen BK981.out 4; have hfz67_5 := blk_frozen BK981.out 5; have hfz67_6 := blk_frozen BK981.out 6) | (go_at_call 41; (with_reducible refine (waveletref23_SameHeader.calls kj2 t960 t961 t962 t963 t964 t965 _ _ t966 t971 t972 t973 t974 t975 t976 _ _ t977 true _ ?side1 ?side2 ?side3 ?side4 A24.out).mono ?_); (case side1 => repeat (first | exact (Kd.R_reads' HO968.out).2.2 | (with_reducible refine Kd.C_alloc ?_ _) | (with_reducible refine Kd.C_drewN ?_ _) | (with_reducible refine Kd.C_drew ?_))); (case side2 => exact (Kd.R_reads' HO968.out).2.1); (case side3 => repeat (first | exact (Kd.R_reads' HO979.out).2.2 | (with_reducible refine Kd.C_alloc ?_ _) | (with_reducible refine Kd.C_drewN ?_ _) | (with_reducible refine Kd.C_drew ?_))); (case side4 => exact (Kd.R_reads' HO979.out).2.1); rintro e w68 ⟨rfl, hb⟩; replace HO951 := Aside0.mk (Kd.R_below (upR HO951.out) hb); replace HO957 := Aside0.mk (Kd.R_below (upR HO957.out) hb); replace HO968 := Aside0.mk (Kd.R_below (upR HO968.out) hb); replace HO979 := Aside0.mk (Kd.R_below (upR HO979.out) hb); replace BK944 := Aside0.mk (blk_below (g := gb944) (o := .cells #[.int .i64 a0_0, .int .i64 a0_1, .int .i64 a0_2, .int .i64 a0_3, .int .i64 a0_4, .int .i64 a0_5, .slice A0_6 l0_6.length c0_6] 67 (0, 0)) (upK BK944.out) hb); replace BK945 := Aside0.mk (blk_below (g := gb945) (o := .cells #[.int .i64 a1_0, .slice A1_1 l1_1.length c1_1] 26 (0, 0)) (upK BK945.out) hb); replace BK953 := Aside0.mk (blk_below (g := gb953) (o := .cells #[.int .i64 t948, .slice Ao35 t949.length co35] 26 (0, 0)) (upK BK953.out) hb); replace BK959 := Aside0.mk (blk_below (g := gb959) (o := .cells #[.int .i64 t954, .slice Ao43 t955.length co43] 26 (0, 0)) (upK BK959.out) hb); replace BK970 := Aside0.mk (blk_below (g := gb970) (o := .cells #[.int .i64 t960, .int .i64 t961, .int .i64 t962, .int .i64 t963, .int .i64 t964, .int .i64 t965, .slice Ao52 t966.length co52] 67 (0, 0)) (upK BK970.out) hb); replace BK981 := Aside0.mk (blk_below (g := gb981) (o := .cells #[.int .i64 t971, .int .i64 t972, .int .i64 t973, .int .i64 t974, .int .i64 t975, .int .i64 t976, .slice Ao62 t977.length co62] 67 (0, 0)) (upK BK981.out) hb); replace HB := Aside0.mk (below_step (upB HB.out) hb); (try clear hb; try clear hb2; try clear hk; try clear hi)) | (go_at_call 12; (with_reducible refine (waveletlaw29_awake.calls kj2  t984 _ A27.out).mono ?_); rintro e w69 ⟨rfl, hb⟩; replace HO951 := Aside0.mk (Kd.R_below (upR HO951.out) hb); replace HO957 := Aside0.mk (Kd.R_below (upR HO957.out) hb); replace HO968 := Aside0.mk (Kd.R_below (upR HO968.out) hb); replace HO979 := Aside0.mk (Kd.R_below (upR HO979.out) hb); replace BK944 := Aside0.mk (blk_below (g := gb944) (o := .cells #[.int .i64 a0_0, .int .i64 a0_1, .int .i64 a0_2, .int .i64 a0_3, .int .i64 a0_4, .int .i64 a0_5, .slice A0_6 l0_6.length c0_6] 67 (0, 0)) (upK BK944.out) hb); replace BK945 := Aside0.mk (blk_below (g := gb945) (o := .cells #[.int .i64 a1_0, .slice A1_1 l1_1.length c1_1] 26 (0, 0)) (upK BK945.out) hb); replace BK953 := Aside0.mk (blk_below (g := gb953) (o := .cells #[.int .i64 t948, .slice Ao35 t949.length co35] 26 (0, 0)) (upK BK953.out) hb); replace BK959 := Aside0.mk (blk_below (g := gb959) (o := .cells #[.int .i64 t954, .slice Ao43 t955.length co43] 26 (0, 0)) (upK BK959.out) hb); replace BK970 := Aside0.mk (blk_below (g := gb970) (o := .cells #[.int .i64 t960, .int .i64 t961, .int .i64 t962, .int .i64 t963, .int .i64 t964, .int .i64 t965, .slice Ao52 t966.length co52] 67 (0, 0)) (upK BK970.out) hb); replace BK981 := Aside0.mk (blk_below (g := gb981) (o := .cells #[.int .i64 t971, .int .i64 t972, .int .i64 t973, .int .i64 t974, .int .i64 t975, .int .i64 t976, .slice Ao62 t977.length co62] 67 (0, 0)) (upK BK981.out) hb); replace HB := Aside0.mk (below_step (upB HB.out) hb); (try clear hb; try clear hb2; try clear hk; try clear hi)))
                go_ret
                exact ⟨by first | rfl | (simp [errW_none, errW_some] <;> rfl) | (simp [*, errW_none, errW_some] <;> rfl), by repeat (first | (with_reducible first | exact HB.out | apply below_alloc | apply pw_below_drewN | apply below_drew1 | refine below_set ?_ GE944.out | refine below_set ?_ GE945.out | refine below_set ?_ GE953.out | refine below_set ?_ GE959.out | refine below_set ?_ GE970.out | refine below_set ?_ GE981.out) | exact HB.out)⟩
              · rw [if_neg c26] at H
                exact absurd (Option.some.inj H) (by rw [hr_]; decide)
            · replace c25 := Bool.eq_false_iff.mpr c25
              subst c25
              have H1 : (some false) = some r := by rw [if_neg (show ¬ (false = true) by decide)] at H; exact H
              exact absurd (Option.some.inj H1) (by rw [hr_]; decide)
          · rw [if_neg c23] at H
            exact absurd (Option.some.inj H) (by rw [hr_]; decide)
        · replace c22 := Bool.eq_false_iff.mpr c22
          subst c22
          have H1 : (some false) = some r := by rw [if_neg (show ¬ (false = true) by decide)] at H; exact H
          exact absurd (Option.some.inj H1) (by rw [hr_]; decide)
end Go.Proofs.Ytihfopblmjgfaaa.Q

/- What the functions of chapter 29 compute, in plain lists and numbers: used by the pure laws of this chapter. -/
namespace Go.Proofs.Ytihfopblmjgfaaa.Pure
open Go.RowKit Go.Proofs.Ytihfopblmjgfaaa.Q Go.Proofs.YtihfopblmjgfaaaW.PrintWords
set_option linter.unusedVariables false

theorem awake_holds : ∃ k, waveletlaw29_awake.f k = some true := ⟨100, by kernel_rfl⟩
theorem wf_bd {a : Int} (h : (Lit.int .i64 a).wf = true) : -9223372036854775808 ≤ a ∧ a ≤ 9223372036854775807 := by
  simp [Lit.wf, IntKind.min, IntKind.max, IntKind.signed, IntKind.bits] at h
  omega
theorem wf_u8 {a : Int} (h : (Lit.int .u8 a).wf = true) : 0 ≤ a ∧ a ≤ 255 := by
  simp [Lit.wf, IntKind.min, IntKind.max, IntKind.signed, IntKind.bits] at h
  omega

/-- One byte more. -/
def step (v x : Int) : Int := Go.bits .or .i64 (wrap64 (v * 256)) (wrap64 x)
theorem step_eq {v x : Int} (h0 : 0 ≤ v) (h1 : v < 16777216) (h2 : 0 ≤ x) (h3 : x ≤ 255) : step v x = v * 256 + x := by
  unfold step
  rw [show wrap64 (v * 256) = v * 256 by unfold wrap64; omega, show wrap64 x = x by unfold wrap64; omega]
  exact bits_join .i64 40 (by decide) (fun n a b => by rw [IntKind.wrap_i64]; omega) 8 _ _ (by omega) (by omega) (by omega) h2 (by omega) (by omega)
/-- The number of some bytes. -/
def num (l : List Int) : Int := l.foldl step 0
/-- What ReadUint returns. -/
def RU (l : List Int) (at_ n : Int) : Int × Int :=
  if n < 1 ∨ 4 < n ∨ at_ < 0 ∨ (l.length : Int) < at_ then (0, 2) else if (l.length : Int) - at_ < n then (0, 7) else (num ((l.take (at_ + n).toNat).drop at_.toNat), 0)
theorem ru_loop (m : List Int) (hm : m.length ≤ 4) (d : Nat) : ∀ (k j : Nat) (v : Int), j + d = m.length → marker_ReadUint.l0 (k + d + 1) v m (m.length : Int) (j : Int) = some ((m.drop j).foldl step v, 0) := by
  induction d with
  | zero =>
    intro k j v hj
    rw [show k + 0 + 1 = k + 1 from rfl, marker_ReadUint.l0, if_neg (by omega), List.drop_eq_nil_of_le (by omega)]
    rfl
  | succ d ih =>
    intro k j v hj
    have hlt : j < m.length := by omega
    rw [show k + (d + 1) + 1 = (k + d + 1) + 1 by omega, marker_ReadUint.l0, if_pos (by omega), if_pos (by omega), if_pos (by omega), List.drop_eq_getElem_cons hlt]
    rw [show wrap64 ((j : Int) + 1) = ((j + 1 : Nat) : Int) by unfold wrap64; omega, ih k (j + 1) _ (by omega)]
    unfold rd
    rw [Int.toNat_natCast, List.getD_eq_getElem?_getD, List.getElem?_eq_getElem hlt]
    rfl
theorem ru_eq (l : List Int) (at_ n : Int) (hl : l.length ≤ 1000000) (hat : at_ ≤ 9223372036854775807) (k : Nat) : marker_ReadUint.f (k + 6) l at_ n = some (RU l at_ n) := by
  have hj : marker_ReadUint.j0 (k + 6) l at_ n true = some (0, 2) := by rw [show k + 6 = (k + 5) + 1 from rfl, marker_ReadUint.j0, if_pos rfl]
  unfold marker_ReadUint.f RU
  by_cases h1 : n < 1
  · rw [if_pos h1, if_pos (.inl h1), hj]
  rw [if_neg h1]
  by_cases h2 : n > 4
  · rw [if_pos h2, if_pos (.inr (.inl h2)), hj]
  rw [if_neg h2]
  by_cases h3 : at_ < 0
  · rw [if_pos h3, if_pos (.inr (.inr (.inl h3))), hj]
  rw [if_neg h3]
  by_cases h4 : (l.length : Int) < at_
  · rw [show decide (at_ > (l.length : Int)) = true from decide_eq_true h4, if_pos (.inr (.inr (.inr h4))), hj]
  rw [show decide (at_ > (l.length : Int)) = false from decide_eq_false h4, if_neg (by omega), show k + 6 = (k + 5) + 1 from rfl, marker_ReadUint.j0, if_neg (by simp)]
  rw [show wrap64 ((l.length : Int) - at_) = (l.length : Int) - at_ by unfold wrap64; omega, show wrap64 (at_ + n) = at_ + n by unfold wrap64; omega]
  by_cases h5 : (l.length : Int) - at_ < n
  · rw [if_pos h5, if_pos h5]
  rw [if_neg h5, if_neg h5, if_pos (by omega), if_pos (by omega), if_pos (by omega)]
  have hm : ((l.take (at_ + n).toNat).drop at_.toNat).length = n.toNat := by rw [List.length_drop, List.length_take]; omega
  have := ru_loop ((l.take (at_ + n).toNat).drop at_.toNat) (by omega) n.toNat (k + (4 - n.toNat)) 0 0 (by omega)
  rw [show k + (4 - n.toNat) + n.toNat + 1 = k + 5 by omega] at this
  rw [show (0 : Int) = ((0 : Nat) : Int) from rfl] at *
  rw [this]
  rfl
theorem shift_small (n : Nat) (h : n ≤ 4) : IntKind.u64.wrap (wrap64 (8 * (n : Int))) = ((8 * n : Nat) : Int) := by
  have : IntKind.u64.wrap (wrap64 (8 * (n : Int))) = wrap64 (8 * (n : Int)) % 18446744073709551616 := by simp [IntKind.wrap, IntKind.bits, IntKind.signed]
  rw [this]
  unfold wrap64
  omega

/-- The bytes of a number, the highest first. -/
def be (v : Int) : Nat → List Int
  | 0 => []
  | i + 1 => (v / 2 ^ (8 * i)) % 256 :: be v i
theorem be_length (v : Int) : ∀ n, (be v n).length = n
  | 0 => rfl
  | n + 1 => by simp [be, be_length v n]
theorem shr_eq (v : Int) (m : Nat) (hm : m ≤ 8) : shr .i64 v ((8 * m : Nat) : Int) = v / 2 ^ (8 * m) := by
  unfold shr
  rw [Int.toNat_natCast, Nat.min_eq_left (by show 8 * m ≤ 64; omega)]
theorem shift_eq (n : Nat) (h : n ≤ 8) : IntKind.u64.wrap (wrap64 (8 * (n : Int))) = ((8 * n : Nat) : Int) := by
  have : IntKind.u64.wrap (wrap64 (8 * (n : Int))) = wrap64 (8 * (n : Int)) % 18446744073709551616 := by simp [IntKind.wrap, IntKind.bits, IntKind.signed]
  rw [this]
  unfold wrap64
  omega
theorem put_loop (v : Int) (m : Nat) (hm : m ≤ 8) : ∀ (k : Nat) (acc : List Int), acc.length + m ≤ 140737488355328 → headseg_put.l0 (k + m + 1) acc v ((m : Int) - 1) = some (acc ++ be v m) := by
  induction m with
  | zero =>
    intro k acc ha
    rw [show k + 0 + 1 = k + 1 from rfl, headseg_put.l0, if_neg (by omega)]
    simp [be]
  | succ m ih =>
    intro k acc ha
    rw [show k + (m + 1) + 1 = (k + m + 1) + 1 by omega, headseg_put.l0, if_pos (by omega), show (((m + 1 : Nat) : Int) - 1) = (m : Int) by omega, shift_eq m (by omega), if_pos (by omega), if_pos (by omega), show wrap64 ((m : Int) - 1) = (m : Int) - 1 by unfold wrap64; omega]
    rw [shr_eq v m (by omega), ih (by omega) k _ (by simp; omega)]
    simp [be]
theorem put_eq (acc : List Int) (v : Int) (n : Nat) (hn : n ≤ 8) (ha : acc.length + n ≤ 140737488355328) (k : Nat) : headseg_put.f (k + 9) acc (n : Int) v = some (acc ++ be v n) := by
  unfold headseg_put.f
  rw [show wrap64 ((n : Int) - 1) = (n : Int) - 1 by unfold wrap64; omega]
  have := put_loop v n hn (k + (8 - n)) acc ha
  rwa [show k + (8 - n) + n + 1 = k + 9 by omega] at this
/-- What within returns. -/
def inside (lo hi : Int) (l : List Int) : Bool := l.all fun x => decide (lo ≤ x) && decide (x ≤ hi)
theorem within_loop (lo hi : Int) (l : List Int) (hl : l.length ≤ 9223372036854775807) (d : Nat) : ∀ (k j : Nat), j + d = l.length → headseg_within.l0 (k + d + 1) lo hi l (l.length : Int) (j : Int) = some (inside lo hi (l.drop j)) := by
  induction d with
  | zero =>
    intro k j hj
    rw [show k + 0 + 1 = k + 1 from rfl, headseg_within.l0, if_neg (by omega), List.drop_eq_nil_of_le (by omega)]
    rfl
  | succ d ih =>
    intro k j hj
    have hlt : j < l.length := by omega
    have hrd : rd l (j : Int) = l[j] := by
      unfold rd
      rw [Int.toNat_natCast, List.getD_eq_getElem?_getD, List.getElem?_eq_getElem hlt]
      rfl
    rw [show k + (d + 1) + 1 = (k + d + 1) + 1 by omega, headseg_within.l0, if_pos (by omega), if_pos (by omega), if_pos (by omega), hrd, List.drop_eq_getElem_cons hlt]
    rw [show wrap64 ((j : Int) + 1) = ((j + 1 : Nat) : Int) by unfold wrap64; omega, ih k (j + 1) (by omega)]
    unfold inside
    rw [List.all_cons]
    by_cases h1 : l[j] < lo
    · rw [if_pos h1, decide_eq_false (show ¬ lo ≤ l[j] by omega)]; rfl
    · rw [if_neg h1, decide_eq_true (show lo ≤ l[j] by omega)]
      by_cases h2 : l[j] > hi
      · rw [if_pos h2, decide_eq_false (show ¬ l[j] ≤ hi by omega)]; rfl
      · rw [if_neg h2, decide_eq_true (show l[j] ≤ hi by omega)]; rfl
theorem within_eq (lo hi : Int) (l : List Int) (hl : l.length ≤ 9223372036854775807) (k : Nat) : headseg_within.f (k + l.length + 1) lo hi l = some (inside lo hi l) := by
  have := within_loop lo hi l hl l.length k 0 (by omega)
  simpa [headseg_within.f] using this
end Go.Proofs.Ytihfopblmjgfaaa.Pure

namespace Go.Proofs.Ytihfopblmjgfaaa.Q
open Go.RowKit Go.Proofs.YtihfopblmjgfaaaW.PrintWords Go.Proofs.YtihfopblmjgfaaaW.PrintLast Go.Proofs.YtihfopblmjgfaaaW.PrintMore
attribute [local go_sem] max2_int min2_int max_two min_two max_three min_three max_four min_four   -- for this text's walks alone
set_option linter.unusedVariables false
set_option linter.unusedSimpArgs false

/-! ### waveletref29_in: function 45 -/
def waveletref29_in.f (a0 : Int) (a1 : Int) (a2 : Int) : Option (Bool) := if a1 ≤ a0 then (some (decide (a0 ≤ a2))) else (some false)
set_option maxHeartbeats 8000000 in
set_option maxRecDepth 100000 in
theorem waveletref29_in.calls (a0 : Int) (a1 : Int) (a2 : Int) (r : Bool) (w : World) (h : waveletref29_in.f a0 a1 a2 = some r) :
    Calls Try.prog 45 #[.int .i64 a0, .int .i64 a1, .int .i64 a2] w fun e w' => e = .returned (.bool r) ∧ Drawn0 w w' := by
  have H : (if a1 ≤ a0 then (some (decide (a0 ≤ a2))) else (some false)) = some r := h
  clear h
  by_cases c4 : a1 ≤ a0
  · rw [if_pos c4] at H
    have c4b0 : decide (a1 ≤ a0) = true := decide_eq_true c4
    clear c4
    obtain rfl := Option.some.inj H
    go_enter Try.func45, Try.ntmps45
    go_wp2
    go_ret
    exact ⟨by first | rfl | (simp; done) | (simp [*]; done), by repeat (first | exact Drawn0.refl _ | apply Drawn0.step)⟩
  · rw [if_neg c4] at H
    have c4b0 : decide (a1 ≤ a0) = false := decide_eq_false c4
    clear c4
    obtain rfl := Option.some.inj H
    go_enter Try.func45, Try.ntmps45
    go_wp2
    go_ret
    exact ⟨by first | rfl | (simp; done) | (simp [*]; done), by repeat (first | exact Drawn0.refl _ | apply Drawn0.step)⟩

end Go.Proofs.Ytihfopblmjgfaaa.Q

/- What the reference's small functions of chapter 29 compute: the same. -/
namespace Go.Proofs.Ytihfopblmjgfaaa.Pure
open Go.RowKit Go.Proofs.Ytihfopblmjgfaaa.Q Go.Proofs.YtihfopblmjgfaaaW.PrintWords
set_option linter.unusedVariables false

theorem rin_eq (a lo hi : Int) : waveletref29_in.f a lo hi = some (decide (lo ≤ a) && decide (a ≤ hi)) := by
  unfold waveletref29_in.f
  by_cases h : lo ≤ a
  · rw [if_pos h, decide_eq_true h]; rfl
  · rw [if_neg h, decide_eq_false h]; rfl
theorem rshift_eq (n : Nat) (h : n ≤ 8) : wrap64 (8 * (n : Int)) = ((8 * n : Nat) : Int) := by
  unfold wrap64
  omega
theorem rput_loop (v : Int) (m : Nat) (hm : m ≤ 8) : ∀ (k : Nat) (acc : List Int), acc.length + m ≤ 140737488355328 → waveletref29_put.l0 (k + m + 1) acc v ((m : Int) - 1) = some (acc ++ be v m) := by
  induction m with
  | zero =>
    intro k acc ha
    rw [show k + 0 + 1 = k + 1 from rfl, waveletref29_put.l0, if_neg (by omega)]
    simp [be]
  | succ m ih =>
    intro k acc ha
    rw [show k + (m + 1) + 1 = (k + m + 1) + 1 by omega, waveletref29_put.l0, if_pos (by omega), show (((m + 1 : Nat) : Int) - 1) = (m : Int) by omega, rshift_eq m (by omega), if_pos (by omega), if_pos (by omega), show wrap64 ((m : Int) - 1) = (m : Int) - 1 by unfold wrap64; omega]
    rw [shr_eq v m (by omega), ih (by omega) k _ (by simp; omega)]
    simp [be]
theorem rput_eq (acc : List Int) (v : Int) (n : Nat) (hn : n ≤ 8) (ha : acc.length + n ≤ 140737488355328) (k : Nat) : waveletref29_put.f (k + 9) acc v (n : Int) = some (acc ++ be v n) := by
  unfold waveletref29_put.f
  rw [show wrap64 ((n : Int) - 1) = (n : Int) - 1 by unfold wrap64; omega]
  have := rput_loop v n hn (k + (8 - n)) acc ha
  rwa [show k + (8 - n) + n + 1 = k + 9 by omega] at this
/-- Some bytes of a list of bytes. -/
def sub (l : List Int) (a n : Nat) : List Int := (l.take (a + n)).drop a
theorem sub_length (l : List Int) (a n : Nat) (h : a + n ≤ l.length) : (sub l a n).length = n := by
  unfold sub
  rw [List.length_drop, List.length_take]
  omega
theorem rd_bytes {l : List Int} (hb : ∀ x ∈ l, (Lit.int .u8 x).wf = true) (i : Nat) (hi : i < l.length) : rd l (i : Int) = l[i] ∧ 0 ≤ l[i] ∧ l[i] ≤ 255 := by
  refine ⟨?_, wf_u8 (hb _ (List.getElem_mem hi))⟩
  unfold rd
  rw [Int.toNat_natCast, List.getD_eq_getElem?_getD, List.getElem?_eq_getElem hi]
  rfl
theorem get_loop {l : List Int} (hb : ∀ x ∈ l, (Lit.int .u8 x).wf = true) (hl : l.length ≤ 1000000) (a n : Nat) (hn : n ≤ 4) (han : a + n ≤ l.length) (d : Nat) : ∀ (k j : Nat) (v : Int), j + d = n → 0 ≤ v → v < 256 ^ j →
    waveletref29_get.l0 (k + d + 1) l (a : Int) (n : Int) v (j : Int) = some (((sub l a n).drop j).foldl step v) := by
  have hm := sub_length l a n han
  induction d with
  | zero =>
    intro k j v hj _ _
    rw [show k + 0 + 1 = k + 1 from rfl, waveletref29_get.l0, if_neg (by omega), List.drop_eq_nil_of_le (by omega)]
    rfl
  | succ d ih =>
    intro k j v hj h0 h1
    have hlt : j < (sub l a n).length := by omega
    have hi : a + j < l.length := by omega
    obtain ⟨hrd, hx0, hx1⟩ := rd_bytes hb (a + j) hi
    have he : (sub l a n)[j] = l[a + j] := by simp only [sub, List.getElem_drop, List.getElem_take]
    have hv : v < 16777216 := by
      have hj : j = 0 ∨ j = 1 ∨ j = 2 ∨ j = 3 := by omega
      rcases hj with rfl | rfl | rfl | rfl <;> simp at h1 <;> omega
    have hs : wrap64 (wrap64 (256 * v) + wrap64 l[a + j]) = step v l[a + j] := by
      rw [step_eq h0 hv hx0 hx1]
      unfold wrap64
      omega
    rw [show k + (d + 1) + 1 = (k + d + 1) + 1 by omega, waveletref29_get.l0, if_pos (by omega), show wrap64 ((a : Int) + (j : Int)) = ((a + j : Nat) : Int) by unfold wrap64; omega, if_pos (by omega), if_pos (by omega), hrd, hs, List.drop_eq_getElem_cons hlt]
    rw [show wrap64 ((j : Int) + 1) = ((j + 1 : Nat) : Int) by unfold wrap64; omega, ih k (j + 1) _ (by omega) (by rw [step_eq h0 hv hx0 hx1]; omega) (by rw [step_eq h0 hv hx0 hx1, Int.pow_succ]; omega), he]
    rfl
theorem get_eq {l : List Int} (hb : ∀ x ∈ l, (Lit.int .u8 x).wf = true) (hl : l.length ≤ 1000000) (a n : Nat) (hn : n ≤ 4) (han : a + n ≤ l.length) (k : Nat) : waveletref29_get.f (k + 6) l (a : Int) (n : Int) = some (num (sub l a n)) := by
  have := get_loop hb hl a n hn han n (k + (5 - n)) 0 0 (by omega) (by omega) (by simp)
  rw [show k + (5 - n) + n + 1 = k + 6 by omega] at this
  simpa [waveletref29_get.f, num] using this
/-- ReadUint at a place within. -/
theorem RU_in (l : List Int) (a n : Nat) (h1 : 1 ≤ n) (hn : n ≤ 4) (han : a + n ≤ l.length) : RU l (a : Int) (n : Int) = (num (sub l a n), 0) := by
  unfold RU
  rw [if_neg (by omega), if_neg (by omega)]
  rfl
theorem RU_out (l : List Int) (a n : Nat) (h1 : 1 ≤ n) (hn : n ≤ 4) (ha : a ≤ l.length) (han : l.length < a + n) : RU l (a : Int) (n : Int) = (0, 7) := by
  unfold RU
  rw [if_neg (by omega), if_pos (by omega)]
theorem same_loop (a : List Int) (ha : a.length ≤ 1000000000000) (d : Nat) : ∀ (k j : Nat), j + d = a.length → waveletlaw29_same.l0 (k + d + 1) a a (a.length : Int) (j : Int) = some true := by
  induction d with
  | zero =>
    intro k j hj
    rw [show k + 0 + 1 = k + 1 from rfl, waveletlaw29_same.l0, if_neg (by omega)]
  | succ d ih =>
    intro k j hj
    rw [show k + (d + 1) + 1 = (k + d + 1) + 1 by omega, waveletlaw29_same.l0, if_pos (by omega), if_pos (by omega), if_pos (by omega), if_pos (by omega), if_pos rfl]
    rw [show wrap64 ((j : Int) + 1) = ((j + 1 : Nat) : Int) by unfold wrap64; omega, ih k (j + 1) (by omega)]
theorem same_refl (a : List Int) (ha : a.length ≤ 1000000000000) (k : Nat) : waveletlaw29_same.f (k + a.length + 1) a a = some true := by
  have := same_loop a ha a.length k 0 (by omega)
  simpa [waveletlaw29_same.f] using this
theorem sameSegment_refl (c : Int) (a : List Int) (ha : a.length ≤ 1000000000000) (k : Nat) : waveletlaw29_sameSegment.f (k + a.length + 1) c a c a = some true := by
  unfold waveletlaw29_sameSegment.f
  rw [if_pos rfl, same_refl a ha k]
  rfl
theorem framed_eq (c : Int) (l : List Int) (code n : Int) : waveletref29_framed.f c l code n = some (if c = code then (if (l.length : Int) < n then 7 else if (l.length : Int) > n then 9 else 0) else 11) := by
  unfold waveletref29_framed.f
  repeat' split
  all_goals rfl
end Go.Proofs.Ytihfopblmjgfaaa.Pure

/- Lengths in plain lists and numbers. -/
namespace Go.Proofs.Ytihfopblmjgfaaa.Pure
open Go.RowKit Go.Proofs.Ytihfopblmjgfaaa.Q Go.Proofs.YtihfopblmjgfaaaW.PrintWords
set_option linter.unusedVariables false
set_option maxRecDepth 100000

theorem Ev.pos {α : Type} {c : Prop} [Decidable c] {f g : Nat → Option α} {r : α} (h : c) (k : Ev f r) : Ev (fun n => if c then f n else g n) r := by
  obtain ⟨K, hk⟩ := k
  exact ⟨K, fun n hn => (if_pos h).trans (hk n hn)⟩
theorem Ev.neg {α : Type} {c : Prop} [Decidable c] {f g : Nat → Option α} {r : α} (h : ¬ c) (k : Ev g r) : Ev (fun n => if c then f n else g n) r := by
  obtain ⟨K, hk⟩ := k
  exact ⟨K, fun n hn => (if_neg h).trans (hk n hn)⟩
theorem Ev.plus {α : Type} {f : Nat → Option α} {r : α} (m : Nat) (h : ∀ k, f (k + m) = some r) : Ev f r :=
  ⟨m, fun n hn => by rw [← h (n - m)]; congr 1; omega⟩
theorem Ev.val {α : Type} {f : Nat → Option α} {r : α} (h : Ev f r) : ∃ K, ∀ k, K ≤ k → f k = some r := h
theorem ev_put (acc : List Int) (v : Int) (n : Nat) (hn : n ≤ 8) (ha : acc.length + n ≤ 140737488355328) : Ev (fun k => headseg_put.f k acc (n : Int) v) (acc ++ be v n) := Ev.plus 9 (put_eq acc v n hn ha)
theorem ev_rput (acc : List Int) (v : Int) (n : Nat) (hn : n ≤ 8) (ha : acc.length + n ≤ 140737488355328) : Ev (fun k => waveletref29_put.f k acc v (n : Int)) (acc ++ be v n) := Ev.plus 9 (rput_eq acc v n hn ha)
theorem ev_within (lo hi : Int) (l : List Int) (hl : l.length ≤ 9223372036854775807) : Ev (fun k => headseg_within.f k lo hi l) (inside lo hi l) :=
  Ev.plus (l.length + 1) (fun k => by rw [← Nat.add_assoc]; exact within_eq lo hi l hl k)
theorem ev_awake : Ev (fun k => waveletlaw29_awake.f k) true := by
  obtain ⟨k, h⟩ := awake_holds
  exact Ev.of waveletlaw29_awake.mono h
theorem ev_ru (l : List Int) (a n : Int) (hl : l.length ≤ 1000000) (ha : a ≤ 9223372036854775807) : Ev (fun k => marker_ReadUint.f k l a n) (RU l a n) := Ev.plus 6 (ru_eq l a n hl ha)
theorem ev_get {l : List Int} (hb : ∀ x ∈ l, (Lit.int .u8 x).wf = true) (hl : l.length ≤ 1000000) (a n : Nat) (hn : n ≤ 4) (han : a + n ≤ l.length) : Ev (fun k => waveletref29_get.f k l (a : Int) (n : Int)) (num (sub l a n)) := Ev.plus 6 (get_eq hb hl a n hn han)
theorem ev_same (a : List Int) (ha : a.length ≤ 1000000000000) : Ev (fun k => waveletlaw29_same.f k a a) true := Ev.plus (a.length + 1) (fun k => by rw [← Nat.add_assoc]; exact same_refl a ha k)
theorem ev_sameSegment (c : Int) (a : List Int) (ha : a.length ≤ 1000000000000) : Ev (fun k => waveletlaw29_sameSegment.f k c a c a) true := Ev.plus (a.length + 1) (fun k => by rw [← Nat.add_assoc]; exact sameSegment_refl c a ha k)

theorem rd_at {l : List Int} (i : Nat) (hi : i < l.length) : rd l (i : Int) = l[i] := by
  unfold rd
  rw [Int.toNat_natCast, List.getD_eq_getElem?_getD, List.getElem?_eq_getElem hi]
  rfl
/-- The bytes of some numbers. -/
def enc4 : List Int → List Int
  | [] => []
  | v :: l => be v 4 ++ enc4 l
theorem enc4_length : ∀ l : List Int, (enc4 l).length = 4 * l.length
  | [] => rfl
  | v :: l => by simp [enc4, be_length, enc4_length l]; omega
/-- The numbers of the segment i. -/
def chunk (l : List Int) (i : Nat) : List Int := (l.drop (16000 * i)).take 16000
def segAt (c : Int) (l : List Int) (i : Nat) : S26 := ⟨c, (i : Int) % 256 :: enc4 (chunk l i)⟩
def nseg (l : List Int) : Nat := max 1 ((l.length + 15999) / 16000)
/-- The segments from number i on. -/
def segsFrom (c : Int) (l : List Int) : Nat → Nat → List S26
  | _, 0 => []
  | i, d + 1 => segAt c l i :: segsFrom c l (i + 1) d
def LenF (c : Int) (l : List Int) : List S26 × Int :=
  if ¬ (c = 65445 ∨ c = 65457) then ([], 3) else if inside 0 4294967295 l then (segsFrom c l 0 (nseg l), 0) else ([], 2)
theorem len_inner {R : List S26 × Int} (c : Int) (l : List Int) (acc : List S26) (x7 : Int) (m : List Int) (hm : m.length ≤ 40000) (hacc : acc.length ≤ 1000) (d : Nat) : ∀ (j : Nat) (x8 : List Int), j + d = m.length → x8.length ≤ 4 * j + 1 →
    Ev (fun k => headseg_Lengths.l0 k c l (acc ++ [(⟨c, x8 ++ enc4 (m.drop j)⟩ : S26)]) (wrap64 (x7 + 16000))) R → Ev (fun k => headseg_Lengths.l1 k c l acc x7 x8 m (m.length : Int) (j : Int)) R := by
  induction d with
  | zero =>
    intro j x8 hj hx h
    refine Ev.step (fun k => headseg_Lengths.l1.eq_2 ..) (Ev.neg (by omega) (Ev.pos (by omega) ?_))
    rw [List.drop_eq_nil_of_le (by omega)] at h
    simpa [enc4] using h
  | succ d ih =>
    intro j x8 hj hx h
    refine Ev.step (fun k => headseg_Lengths.l1.eq_2 ..) (Ev.pos (by omega) (Ev.pos (by omega) (Ev.pos (by omega) (Ev.bind (ev_put x8 _ 4 (by omega) (by omega)) ?_))))
    rw [show wrap64 ((j : Int) + 1) = ((j + 1 : Nat) : Int) by unfold wrap64; omega]
    refine ih (j + 1) _ (by omega) (by simp [be_length]; omega) ?_
    rw [List.drop_eq_getElem_cons (show j < m.length by omega)] at h
    rw [rd_at j (by omega)]
    simpa [enc4] using h
theorem cut_chunk (l : List Int) (i : Nat) (x : Int) (hx : x = mn (((16000 * i : Nat) : Int) + 16000) (l.length : Int)) : (l.take x.toNat).drop (16000 * i) = chunk l i := by
  subst hx
  unfold chunk mn
  rw [List.drop_take]
  rcases Nat.lt_or_ge l.length (16000 * i + 16000) with h | h
  · rw [List.take_of_length_le (l := l.drop (16000 * i)) (i := 16000) (by rw [List.length_drop]; omega), List.take_of_length_le]
    rw [List.length_drop]
    split <;> omega
  · congr 1
    split <;> omega
theorem len_outer (c : Int) (l : List Int) (hl : l.length ≤ 40000) (d : Nat) : ∀ (i : Nat) (acc : List S26), i + d = nseg l → acc.length ≤ i → Ev (fun k => headseg_Lengths.l0 k c l acc ((16000 * i : Nat) : Int)) (acc ++ segsFrom c l i d, 0) := by
  have hn : nseg l ≤ 3 := by unfold nseg; omega
  induction d with
  | zero =>
    intro i acc hi ha
    have h1 : 1 ≤ i ∧ l.length ≤ 16000 * i := by unfold nseg at hi; omega
    refine Ev.step (fun k => headseg_Lengths.l0.eq_2 ..) (Ev.neg (by omega) (Ev.step (fun k => headseg_Lengths.j2.eq_2 ..) (Ev.neg ?_ ?_)))
    · simp; omega
    · simpa [segsFrom] using Ev.now (acc, (0 : Int))
  | succ d ih =>
    intro i acc hi ha
    have h1 : i = 0 ∨ 16000 * i < l.length := by unfold nseg at hi; omega
    have hmn : mn (wrap64 (((16000 * i : Nat) : Int) + 16000)) (l.length : Int) = mn (((16000 * i : Nat) : Int) + 16000) (l.length : Int) := by
      rw [show wrap64 (((16000 * i : Nat) : Int) + 16000) = ((16000 * i : Nat) : Int) + 16000 by unfold wrap64; omega]
    have hb : ((16000 * i : Nat) : Int) ≤ mn (((16000 * i : Nat) : Int) + 16000) (l.length : Int) ∧ mn (((16000 * i : Nat) : Int) + 16000) (l.length : Int) ≤ (l.length : Int) := by
      unfold mn
      split <;> omega
    have key : Ev (fun k => headseg_Lengths.j2 k c l acc ((16000 * i : Nat) : Int) true) (acc ++ segsFrom c l i (d + 1), 0) := by
      refine Ev.step (fun k => headseg_Lengths.j2.eq_2 ..) (Ev.pos rfl (Ev.pos (by omega) (Ev.pos (by rw [hmn]; omega) (Ev.pos (by rw [hmn]; omega) ?_))))
      rw [hmn, show (((16000 * i : Nat) : Int)).toNat = 16000 * i by omega, cut_chunk l i _ rfl]
      have hd : wrap64 (Int.tdiv ((16000 * i : Nat) : Int) 16000) % 256 = (i : Int) % 256 := by
        rw [show Int.tdiv ((16000 * i : Nat) : Int) 16000 = (i : Int) by rw [Int.tdiv_eq_ediv_of_nonneg (by omega)]; omega]
        unfold wrap64
        omega
      rw [hd]
      have hcl : (chunk l i).length ≤ 40000 := by unfold chunk; rw [List.length_take, List.length_drop]; omega
      refine len_inner c l acc _ (chunk l i) hcl (by omega) (chunk l i).length 0 _ (by omega) (by simp) ?_
      rw [show wrap64 (((16000 * i : Nat) : Int) + 16000) = ((16000 * (i + 1) : Nat) : Int) by unfold wrap64; omega]
      have := ih (i + 1) (acc ++ [segAt c l i]) (by omega) (by simp; omega)
      simpa [segsFrom, segAt] using this
    refine Ev.step (fun k => headseg_Lengths.l0.eq_2 ..) ?_
    by_cases h0 : i = 0
    · subst h0
      exact Ev.pos (by omega) key
    · refine Ev.neg (by omega) ?_
      rw [decide_eq_true (show ((16000 * i : Nat) : Int) < (l.length : Int) by omega)]
      exact key
theorem len_ev (c : Int) (l : List Int) (hl : l.length ≤ 40000) : Ev (fun k => headseg_Lengths.f k c l) (LenF c l) := by
  have hj : Ev (fun k => headseg_Lengths.j0 k c l true) ([], 3) := Ev.step (fun k => headseg_Lengths.j0.eq_2 ..) (Ev.pos rfl (Ev.now _))
  have hk : Ev (fun k => headseg_Lengths.j0 k c l false) (if inside 0 4294967295 l then (segsFrom c l 0 (nseg l), 0) else ([], 2)) := by
    refine Ev.step (fun k => headseg_Lengths.j0.eq_2 ..) (Ev.neg (by simp) (Ev.neg (by omega) (Ev.bind (ev_within 0 4294967295 l (by omega)) ?_)))
    cases hw : inside 0 4294967295 l with
    | true => exact Ev.pos rfl (by have := len_outer c l hl (nseg l) 0 [] (by omega) (by simp); simpa using this)
    | false => exact Ev.neg (by simp) (Ev.now _)
  unfold LenF
  refine Ev.congr (fun k => headseg_Lengths.f.eq_1 ..) ?_
  by_cases h1 : c = 65445
  · rw [if_neg (fun h => h (.inl h1))]
    exact Ev.pos h1 hk
  · refine Ev.neg h1 ?_
    by_cases h2 : c = 65457
    · rw [if_neg (fun h => h (.inr h2)), show (c != 65457) = false by simp [h2]]
      exact hk
    · rw [if_pos (by omega), show (c != 65457) = true by simp [h2]]
      exact hj
theorem seg_length (c : Int) (l : List Int) (i : Nat) : (segAt c l i).f1.length ≤ 64001 := by
  simp only [segAt, List.length_cons, enc4_length, chunk, List.length_take]
  omega
theorem segsFrom_length (c : Int) (l : List Int) : ∀ (d i : Nat), (segsFrom c l i d).length = d
  | 0, i => rfl
  | d + 1, i => by simp [segsFrom, segsFrom_length c l d]
theorem segsFrom_get (c : Int) (l : List Int) : ∀ (d i j : Nat) (h : j < (segsFrom c l i d).length), (segsFrom c l i d)[j] = segAt c l (i + j)
  | 0, i, j, h => by simp [segsFrom] at h
  | d + 1, i, 0, h => by simp [segsFrom]
  | d + 1, i, j + 1, h => by
    simp only [segsFrom, List.getElem_cons_succ]
    rw [segsFrom_get c l d (i + 1) j]
    congr 1
    omega
end Go.Proofs.Ytihfopblmjgfaaa.Pure

/- The header's check: both the same. Comparisons of headers. -/
namespace Go.Proofs.Ytihfopblmjgfaaa.Pure
open Go.RowKit Go.Proofs.Ytihfopblmjgfaaa.Q Go.Proofs.YtihfopblmjgfaaaW.PrintWords
set_option linter.unusedVariables false
set_option maxRecDepth 100000

/-- Both come to the same. -/
def Same2 {α : Type} (f g : Nat → Option α) : Prop := ∃ r, Ev f r ∧ Ev g r
theorem Same2.now {α : Type} (r : α) : Same2 (fun _ => some r) (fun _ => some r) := ⟨r, Ev.now r, Ev.now r⟩
theorem valid_some (a b c d : Int) : ∃ r, rect_Valid.f a b c d = some r := by
  unfold rect_Valid.f
  repeat' split
  all_goals exact ⟨_, rfl⟩
theorem empty_some (a b c d : Int) : ∃ r, rect_Empty.f a b c d = some r := by
  unfold rect_Empty.f
  repeat' split
  all_goals exact ⟨_, rfl⟩
theorem ceil_some (a b : Int) : ∃ r, rect_CeilDiv.f a b = some r := by
  unfold rect_CeilDiv.f
  by_cases h : b < 1
  · exact ⟨_, if_pos h⟩
  · rw [if_neg h, if_neg (by omega)]
    split
    all_goals exact ⟨_, rfl⟩
theorem floor_some (a b : Int) : ∃ r, rect_FloorDiv.f a b = some r := by
  unfold rect_FloorDiv.f
  by_cases h : b < 1
  · exact ⟨_, if_pos h⟩
  · rw [if_neg h, if_neg (by omega)]
    split
    all_goals exact ⟨_, rfl⟩
theorem area_some (a b c d : Int) : ∃ r, rect_Area.f a b c d = some r := by
  obtain ⟨v, hv⟩ := valid_some a b c d
  unfold rect_Area.f
  rw [hv]
  cases v
  all_goals exact ⟨_, rfl⟩
theorem reducej_same (k : Nat) (x1 x2 : Int) (x : Bool) (a b c d : Int) : waveletref01_Reduce.j0 k x1 x2 x a b c d = rect_Reduce.j0 k x1 x2 x a b c d := by
  cases k with
  | zero => rfl
  | succ k => rfl
theorem reduce_same (k : Nat) (a b c d x y : Int) : waveletref01_Reduce.f k a b c d x y = rect_Reduce.f k a b c d x y := by
  unfold waveletref01_Reduce.f rect_Reduce.f
  simp only [reducej_same]
  rfl
theorem ev_reduce (a b c d x y : Int) : ∃ r, Ev (fun k => rect_Reduce.f k a b c d x y) r := by
  have hj : ∀ z, ∃ r, Ev (fun k => rect_Reduce.j0 k x y z a b c d) r := fun z => by
    cases z with
    | true => exact ⟨_, Ev.step (fun k => rect_Reduce.j0.eq_2 ..) (Ev.pos rfl (Ev.now _))⟩
    | false =>
      obtain ⟨r1, h1⟩ := ceil_some a x
      obtain ⟨r2, h2⟩ := ceil_some b y
      obtain ⟨r3, h3⟩ := ceil_some c x
      obtain ⟨r4, h4⟩ := ceil_some d y
      refine ⟨(r1, r2, r3, r4), Ev.step (fun k => rect_Reduce.j0.eq_2 ..) (Ev.neg (by simp) ?_)⟩
      rw [h1, h2, h3, h4]
      exact Ev.now _
  obtain ⟨v, hv⟩ := valid_some a b c d
  obtain ⟨rt, ht⟩ := hj true
  obtain ⟨rl, hl⟩ := hj (decide (y > 4096))
  unfold rect_Reduce.f
  rw [hv]
  simp only [Option.bind_some]
  cases v with
  | false => exact ⟨rt, Ev.neg (by simp) ht⟩
  | true =>
    by_cases c1 : x < 1
    · exact ⟨rt, Ev.pos rfl (Ev.pos c1 ht)⟩
    by_cases c2 : x > 4096
    · exact ⟨rt, Ev.pos rfl (Ev.neg c1 (Ev.pos c2 ht))⟩
    by_cases c3 : y < 1
    · exact ⟨rt, Ev.pos rfl (Ev.neg c1 (Ev.neg c2 (Ev.pos c3 ht)))⟩
    · exact ⟨rl, Ev.pos rfl (Ev.neg c1 (Ev.neg c2 (Ev.neg c3 hl)))⟩
theorem in23_eq (a lo hi : Int) : waveletref23_in.f a lo hi = some (decide (lo ≤ a) && decide (a ≤ hi)) := by
  unfold waveletref23_in.f
  by_cases h : lo ≤ a
  · rw [if_pos h, decide_eq_true h]; rfl
  · rw [if_neg h, decide_eq_false h]; rfl
theorem pwithin_l0 : ∀ (k : Nat) (lo hi : Int) (l : List Int) (n i : Int), params_within.l0 k lo hi l n i = headseg_within.l0 k lo hi l n i
  | 0, _, _, _, _, _ => rfl
  | k + 1, lo, hi, l, n, i => by rw [params_within.l0.eq_2, headseg_within.l0.eq_2, pwithin_l0 k]
theorem ev_pwithin (lo hi : Int) (l : List Int) (hl : l.length ≤ 9223372036854775807) : Ev (fun k => params_within.f k lo hi l) (inside lo hi l) :=
  Ev.congr (fun k => pwithin_l0 k lo hi l _ _) (ev_within lo hi l hl)
theorem rdC_at {s : List S97} (i : Nat) (hi : i < s.length) : rd_T97 s (i : Int) = s[i] := by
  unfold rd_T97
  rw [Int.toNat_natCast, List.getD_eq_getElem?_getD, List.getElem?_eq_getElem hi]
  rfl
theorem h_l1 (a b c d tw th : Int) (l : List S97) (hl : l.length ≤ 100000) (n : Nat) : ∀ i, i + n = l.length → Same2 (fun k => params_Header.l1 k l (l.length : Int) (i : Int) a b c d tw th l) (fun k => waveletref23_Header.l1 k (i : Int) a b c d tw th l) := by
  induction n with
  | zero =>
    intro i hi
    exact ⟨0, Ev.step (fun k => params_Header.l1.eq_2 ..) (Ev.neg (by omega) (Ev.now _)), Ev.step (fun k => waveletref23_Header.l1.eq_2 ..) (Ev.neg (by omega) (Ev.now _))⟩
  | succ n ih =>
    intro i hi
    have hw : wrap64 ((i : Int) + 1) = ((i + 1 : Nat) : Int) := by unfold wrap64; omega
    obtain ⟨⟨p, q, u, v⟩, hr⟩ := ev_reduce a b c d (rd_T97 l i).f2 (rd_T97 l i).f3
    obtain ⟨ar, ha⟩ := area_some p q u v
    obtain ⟨r, h1, h2⟩ := ih (i + 1) (by omega)
    have hr' : Ev (fun k => waveletref01_Reduce.f k a b c d (rd_T97 l i).f2 (rd_T97 l i).f3) (p, q, u, v) := Ev.congr (fun k => reduce_same ..) hr
    have ha' : waveletref01_Area.f p q u v = some ar := ha
    by_cases hc : ar > 1048576
    · refine ⟨5, Ev.step (fun k => params_Header.l1.eq_2 ..) (Ev.pos (by omega) (Ev.pos (by omega) (Ev.pos (by omega) (Ev.bind hr ?_)))), Ev.step (fun k => waveletref23_Header.l1.eq_2 ..) (Ev.pos (by omega) (Ev.pos (by omega) (Ev.bind hr' ?_)))⟩
      · simp only [ha, Option.bind_some]; exact Ev.pos hc (Ev.now _)
      · simp only [ha', Option.bind_some]; exact Ev.pos hc (Ev.now _)
    · refine ⟨r, Ev.step (fun k => params_Header.l1.eq_2 ..) (Ev.pos (by omega) (Ev.pos (by omega) (Ev.pos (by omega) (Ev.bind hr ?_)))), Ev.step (fun k => waveletref23_Header.l1.eq_2 ..) (Ev.pos (by omega) (Ev.pos (by omega) (Ev.bind hr' ?_)))⟩
      · simp only [ha, Option.bind_some, hw]; exact Ev.neg hc h1
      · simp only [ha', Option.bind_some, hw]; exact Ev.neg hc h2
theorem h_l0 (a b c d tw th : Int) (l : List S97) (hl : l.length ≤ 100000) (n : Nat) : ∀ i, i + n = l.length → Same2 (fun k => params_Header.l0 k l (l.length : Int) (i : Int) a b c d tw th l) (fun k => waveletref23_Header.l0 k (i : Int) a b c d tw th l) := by
  induction n with
  | zero =>
    intro i hi
    obtain ⟨r1, h1⟩ := ceil_some c tw
    obtain ⟨r2, h2⟩ := floor_some a tw
    obtain ⟨r3, h3⟩ := ceil_some d th
    obtain ⟨r4, h4⟩ := floor_some b th
    have ht : waveletref23_tiles.f a b c d tw th l = some (wrap64 ((wrap64 (r1 - r2)) * (wrap64 (r3 - r4)))) := by
      unfold waveletref23_tiles.f
      rw [show waveletref01_CeilDiv.f c tw = some r1 from h1, show waveletref01_FloorDiv.f a tw = some r2 from h2, show waveletref01_CeilDiv.f d th = some r3 from h3, show waveletref01_FloorDiv.f b th = some r4 from h4]
      rfl
    obtain ⟨r, q1, q2⟩ := h_l1 a b c d tw th l hl l.length 0 (by omega)
    by_cases hc : (wrap64 ((wrap64 (r1 - r2)) * (wrap64 (r3 - r4)))) > 1024
    · refine ⟨5, Ev.step (fun k => params_Header.l0.eq_2 ..) (Ev.neg (by omega) ?_), Ev.step (fun k => waveletref23_Header.l0.eq_2 ..) (Ev.neg (by omega) ?_)⟩
      · simp only [h1, h2, h3, h4, Option.bind_some]; exact Ev.pos hc (Ev.now _)
      · simp only [ht, Option.bind_some]; exact Ev.pos hc (Ev.now _)
    · refine ⟨r, Ev.step (fun k => params_Header.l0.eq_2 ..) (Ev.neg (by omega) ?_), Ev.step (fun k => waveletref23_Header.l0.eq_2 ..) (Ev.neg (by omega) ?_)⟩
      · simp only [h1, h2, h3, h4, Option.bind_some]; exact Ev.neg hc q1
      · simp only [ht, Option.bind_some]; exact Ev.neg hc q2
  | succ n ih =>
    intro i hi
    have hw : wrap64 ((i : Int) + 1) = ((i + 1 : Nat) : Int) := by unfold wrap64; omega
    obtain ⟨⟨p, q, u, v⟩, hr⟩ := ev_reduce a b c d (rd_T97 l i).f2 (rd_T97 l i).f3
    obtain ⟨em, he⟩ := empty_some p q u v
    obtain ⟨r, h1, h2⟩ := ih (i + 1) (by omega)
    have hr' : Ev (fun k => waveletref01_Reduce.f k a b c d (rd_T97 l i).f2 (rd_T97 l i).f3) (p, q, u, v) := Ev.congr (fun k => reduce_same ..) hr
    have he' : waveletref01_Empty.f p q u v = some em := he
    have w1 := ev_pwithin 1 16 [(rd_T97 l i).f0] (by simp)
    have w2 := ev_pwithin 1 4 [(rd_T97 l i).f2, (rd_T97 l i).f3] (by simp)
    have e1 : inside 1 16 [(rd_T97 l i).f0] = (decide (1 ≤ (rd_T97 l i).f0) && decide ((rd_T97 l i).f0 ≤ 16)) := by simp [inside]
    have e2 : inside 1 4 [(rd_T97 l i).f2, (rd_T97 l i).f3] = ((decide (1 ≤ (rd_T97 l i).f2) && decide ((rd_T97 l i).f2 ≤ 4)) && (decide (1 ≤ (rd_T97 l i).f3) && decide ((rd_T97 l i).f3 ≤ 4))) := by simp [inside]
    rw [e1] at w1
    rw [e2] at w2
    have g1 := in23_eq (rd_T97 l i).f0 1 16
    have g2 := in23_eq (rd_T97 l i).f2 1 4
    have g3 := in23_eq (rd_T97 l i).f3 1 4
    generalize (decide (1 ≤ (rd_T97 l i).f0) && decide ((rd_T97 l i).f0 ≤ 16)) = b1 at w1 g1
    generalize (decide (1 ≤ (rd_T97 l i).f2) && decide ((rd_T97 l i).f2 ≤ 4)) = b2 at w2 g2
    generalize (decide (1 ≤ (rd_T97 l i).f3) && decide ((rd_T97 l i).f3 ≤ 4)) = b3 at w2 g3
    suffices hh : Same2 (fun k => (params_within.f k 1 16 (([(rd_T97 l i).f0] : List Int))).bind fun t777 => (if t777 = true then ((params_within.f k 1 4 (([(rd_T97 l i).f2, (rd_T97 l i).f3] : List Int))).bind fun t781 => (if t781 = true then ((rect_Reduce.f k a b c d ((rd_T97 l i).f2) ((rd_T97 l i).f3)).bind fun bt782 => ((rect_Empty.f bt782.1 bt782.2.1 bt782.2.2.1 bt782.2.2.2).bind fun t786 => (if t786 = true then (some 12) else (params_Header.l0 k l (l.length : Int) (wrap64 ((i : Int) + 1)) a b c d tw th l)))) else (some 12))) else (some 12)))
      (fun k => if b1 = true then (if b2 = true then (if b3 = true then ((waveletref01_Reduce.f k a b c d ((rd_T97 l i).f2) ((rd_T97 l i).f3)).bind fun bt853 => ((waveletref01_Empty.f bt853.1 bt853.2.1 bt853.2.2.1 bt853.2.2.2).bind fun t857 => (if t857 = true then (some 12) else (waveletref23_Header.l0 k (wrap64 ((i : Int) + 1)) a b c d tw th l)))) else (some 12)) else (some 12)) else (some 12)) by
      obtain ⟨r, h1, h2⟩ := hh
      refine ⟨r, Ev.step (fun k => params_Header.l0.eq_2 ..) (Ev.pos (by omega) (Ev.pos (by omega) (Ev.pos (by omega) h1))), Ev.step (fun k => waveletref23_Header.l0.eq_2 ..) (Ev.pos (by omega) (Ev.pos (by omega) ?_))⟩
      simp only [g1, g2, g3, Option.bind_some]
      exact h2
    rw [hw]
    cases b1 with
    | false => exact ⟨12, Ev.bind w1 (Ev.neg (by simp) (Ev.now _)), Ev.neg (by simp) (Ev.now _)⟩
    | true =>
    cases b2 with
    | false => exact ⟨12, Ev.bind w1 (Ev.pos rfl (Ev.bind w2 (Ev.neg (by simp) (Ev.now _)))), Ev.pos rfl (Ev.neg (by simp) (Ev.now _))⟩
    | true =>
    cases b3 with
    | false => exact ⟨12, Ev.bind w1 (Ev.pos rfl (Ev.bind w2 (Ev.neg (by simp) (Ev.now _)))), Ev.pos rfl (Ev.pos rfl (Ev.neg (by simp) (Ev.now _)))⟩
    | true =>
    cases em with
    | true =>
      refine ⟨12, Ev.bind w1 (Ev.pos rfl (Ev.bind w2 (Ev.pos rfl (Ev.bind hr ?_)))), Ev.pos rfl (Ev.pos rfl (Ev.pos rfl (Ev.bind hr' ?_)))⟩
      · simp only [he, Option.bind_some]; exact Ev.pos trivial (Ev.now _)
      · simp only [he', Option.bind_some]; exact Ev.pos trivial (Ev.now _)
    | false =>
      refine ⟨r, Ev.bind w1 (Ev.pos rfl (Ev.bind w2 (Ev.pos rfl (Ev.bind hr ?_)))), Ev.pos rfl (Ev.pos rfl (Ev.pos rfl (Ev.bind hr' ?_)))⟩
      · simp only [he, Option.bind_some]; exact Ev.neg (by simp) h1
      · simp only [he', Option.bind_some]; exact Ev.neg (by simp) h2
theorem header_both (a b c d tw th : Int) (l : List S97) (hl : l.length ≤ 100000) : Same2 (fun k => params_Header.f k a b c d tw th l) (fun k => waveletref23_Header.f k a b c d tw th l) := by
  have hj : ∀ x, Same2 (fun k => params_Header.j0 k x a b c d tw th l) (fun k => waveletref23_Header.j0 k x a b c d tw th l) := fun x => by
    cases x with
    | true => exact ⟨12, Ev.step (fun k => params_Header.j0.eq_2 ..) (Ev.pos rfl (Ev.now _)), Ev.step (fun k => waveletref23_Header.j0.eq_2 ..) (Ev.pos rfl (Ev.now _))⟩
    | false =>
      obtain ⟨r, h1, h2⟩ := h_l0 a b c d tw th l hl l.length 0 (by omega)
      exact ⟨r, Ev.step (fun k => params_Header.j0.eq_2 ..) (Ev.neg (by simp) h1), Ev.step (fun k => waveletref23_Header.j0.eq_2 ..) (Ev.neg (by simp) h2)⟩
  obtain ⟨rt, ht, ht'⟩ := hj true
  obtain ⟨v, hv⟩ := valid_some a b c d
  obtain ⟨em, he⟩ := empty_some a b c d
  have hv' : waveletref01_Valid.f a b c d = some v := hv
  have he' : waveletref01_Empty.f a b c d = some em := he
  have w1 := ev_pwithin 1 4096 [tw, th] (by simp)
  have w2 := ev_pwithin 1 4 [(l.length : Int)] (by simp)
  have e1 : inside 1 4096 [tw, th] = ((decide (1 ≤ tw) && decide (tw ≤ 4096)) && (decide (1 ≤ th) && decide (th ≤ 4096))) := by simp [inside]
  have e2 : inside 1 4 [(l.length : Int)] = (decide (1 ≤ (l.length : Int)) && decide ((l.length : Int) ≤ 4)) := by simp [inside]
  rw [e1] at w1
  rw [e2] at w2
  have g1 := in23_eq tw 1 4096
  have g2 := in23_eq th 1 4096
  have g3 := in23_eq (l.length : Int) 1 4
  generalize (decide (1 ≤ tw) && decide (tw ≤ 4096)) = b1 at w1 g1
  generalize (decide (1 ≤ th) && decide (th ≤ 4096)) = b2 at w1 g2
  generalize (decide (1 ≤ (l.length : Int)) && decide ((l.length : Int) ≤ 4)) = b3 at w2 g3
  unfold params_Header.f waveletref23_Header.f
  simp only [hv, hv', he, he', g1, g2, g3, Option.bind_some]
  cases v with
  | false => exact ⟨rt, Ev.neg (by simp) ht, Ev.neg (by simp) ht'⟩
  | true =>
  cases em with
  | true => exact ⟨rt, Ev.pos rfl (Ev.pos rfl ht), Ev.pos rfl (Ev.pos rfl ht')⟩
  | false =>
  cases b1 with
  | false => exact ⟨rt, Ev.pos rfl (Ev.neg (by simp) (Ev.bind w1 (Ev.neg (by simp) ht))), Ev.pos rfl (Ev.neg (by simp) (Ev.neg (by simp) ht'))⟩
  | true =>
  cases b2 with
  | false => exact ⟨rt, Ev.pos rfl (Ev.neg (by simp) (Ev.bind w1 (Ev.neg (by simp) ht))), Ev.pos rfl (Ev.neg (by simp) (Ev.pos rfl (Ev.neg (by simp) ht')))⟩
  | true =>
  obtain ⟨r, h1, h2⟩ := hj (!b3)
  exact ⟨r, Ev.pos rfl (Ev.neg (by simp) (Ev.bind w1 (Ev.pos rfl (Ev.bind w2 h1)))), Ev.pos rfl (Ev.neg (by simp) (Ev.pos rfl (Ev.pos rfl h2)))⟩
theorem sameHeader_loop (a b c d tw th : Int) (l : List S97) (hl : l.length ≤ 100000) (n : Nat) : ∀ i, i + n = l.length → Ev (fun k => waveletref23_SameHeader.l0 k (i : Int) a b c d tw th l a b c d tw th l) true := by
  induction n with
  | zero =>
    intro i hi
    exact Ev.step (fun k => waveletref23_SameHeader.l0.eq_2 ..) (Ev.neg (by omega) (Ev.now _))
  | succ n ih =>
    intro i hi
    refine Ev.step (fun k => waveletref23_SameHeader.l0.eq_2 ..) (Ev.pos (by omega) (Ev.pos (by omega) (Ev.pos (by omega) (Ev.neg (by simp) ?_))))
    rw [show wrap64 ((i : Int) + 1) = ((i + 1 : Nat) : Int) by unfold wrap64; omega]
    exact ih (i + 1) (by omega)
theorem ev_sameHeader (a b c d tw th : Int) (l : List S97) (hl : l.length ≤ 100000) : Ev (fun k => waveletref23_SameHeader.f k a b c d tw th l a b c d tw th l) true := by
  refine Ev.congr (fun k => waveletref23_SameHeader.f.eq_1 ..) (Ev.neg (by simp) (Ev.pos rfl (Ev.pos rfl ?_)))
  rw [show ((l.length : Int) != (l.length : Int)) = false by simp]
  exact Ev.step (fun k => waveletref23_SameHeader.j0.eq_2 ..) (Ev.neg (by simp) (sameHeader_loop a b c d tw th l hl l.length 0 (by omega)))
end Go.Proofs.Ytihfopblmjgfaaa.Pure

/- Size and ParseSize: what they compute. -/
namespace Go.Proofs.Ytihfopblmjgfaaa.Pure
open Go.RowKit Go.Proofs.Ytihfopblmjgfaaa.Q Go.Proofs.YtihfopblmjgfaaaW.PrintWords
set_option linter.unusedVariables false
set_option maxRecDepth 100000

/-- The bytes of a component. -/
def encC (c : S97) : List Int := [(if c.f1 = true then wrap64 (wrap64 (c.f0 - 1) + 128) else wrap64 (c.f0 - 1)) % 256, c.f2 % 256, c.f3 % 256]
def encCs : List S97 → List Int
  | [] => []
  | c :: l => encC c ++ encCs l
theorem encCs_length : ∀ l, (encCs l).length = 3 * l.length
  | [] => rfl
  | c :: l => by simp [encCs, encC, encCs_length l]; omega
def enc2 : List Int → List Int
  | [] => []
  | v :: l => be v 2 ++ enc2 l
theorem enc2_length : ∀ l : List Int, (enc2 l).length = 2 * l.length
  | [] => rfl
  | v :: l => by simp [enc2, be_length, enc2_length l]; omega
theorem size_l1 (l : List S97) (hl : l.length ≤ 100000) (n : Nat) : ∀ (i : Nat) (acc : List Int), i + n = l.length → acc.length ≤ 1000 + 3 * i → Ev (fun k => headseg_Size.l1 k acc l (l.length : Int) (i : Int)) (65441, acc ++ encCs (l.drop i), 0) := by
  induction n with
  | zero =>
    intro i acc hi ha
    rw [List.drop_eq_nil_of_le (by omega)]
    exact Ev.step (fun k => headseg_Size.l1.eq_2 ..) (Ev.neg (by omega) (by simpa [encCs] using Ev.now ((65441 : Int), acc, (0 : Int))))
  | succ n ih =>
    intro i acc hi ha
    have hlt : i < l.length := by omega
    have hw : wrap64 ((i : Int) + 1) = ((i + 1 : Nat) : Int) := by unfold wrap64; omega
    refine Ev.step (fun k => headseg_Size.l1.eq_2 ..) (Ev.pos (by omega) (Ev.pos (by omega) (Ev.pos (by omega) ?_)))
    rw [rdC_at i hlt, hw, List.drop_eq_getElem_cons hlt]
    have := ih (i + 1) (acc ++ encC l[i]) (by omega) (by simp [encC]; omega)
    by_cases hs : l[i].f1 = true
    · refine Ev.pos hs ?_
      simp only [Option.bind_some]
      refine Ev.pos (by simp; omega) ?_
      simpa [encCs, encC, hs] using this
    · refine Ev.neg hs ?_
      simp only [Option.bind_some]
      refine Ev.pos (by simp; omega) ?_
      simpa [encCs, encC, hs] using this
theorem size_l0 (a b c d tw th : Int) (l : List S97) (hl : l.length ≤ 100000) (m : List Int) (hm : m.length ≤ 10) (n : Nat) : ∀ (i : Nat) (acc : List Int), i + n = m.length → acc.length ≤ 2 * i → Ev (fun k => headseg_Size.l0 k acc m (m.length : Int) (i : Int) a b c d tw th l) (65441, acc ++ enc2 (m.drop i) ++ be (l.length : Int) 1 ++ encCs l, 0) := by
  induction n with
  | zero =>
    intro i acc hi ha
    rw [List.drop_eq_nil_of_le (by omega)]
    refine Ev.step (fun k => headseg_Size.l0.eq_2 ..) (Ev.neg (by omega) (Ev.bind (ev_put acc _ 1 (by omega) (by omega)) ?_))
    have := size_l1 l hl l.length 0 (acc ++ be (l.length : Int) 1) (by omega) (by simp [be_length]; omega)
    simpa [enc2] using this
  | succ n ih =>
    intro i acc hi ha
    have hlt : i < m.length := by omega
    refine Ev.step (fun k => headseg_Size.l0.eq_2 ..) (Ev.pos (by omega) (Ev.pos (by omega) (Ev.pos (by omega) (Ev.bind (ev_put acc _ 2 (by omega) (by omega)) ?_))))
    rw [show wrap64 ((i : Int) + 1) = ((i + 1 : Nat) : Int) by unfold wrap64; omega, rd_at i hlt, List.drop_eq_getElem_cons hlt]
    have := ih (i + 1) (acc ++ be m[i] 2) (by omega) (by simp [be_length]; omega)
    simpa [enc2] using this
theorem rsize_l1 (a b c d tw th : Int) (l : List S97) (hl : l.length ≤ 100000) (n : Nat) : ∀ (i : Nat) (acc : List Int), i + n = l.length → acc.length ≤ 1000 + 3 * i → Ev (fun k => waveletref29_Size.l1 k acc (i : Int) a b c d tw th l) (65441, acc ++ encCs (l.drop i), 0) := by
  induction n with
  | zero =>
    intro i acc hi ha
    rw [List.drop_eq_nil_of_le (by omega)]
    exact Ev.step (fun k => waveletref29_Size.l1.eq_2 ..) (Ev.neg (by omega) (by simpa [encCs] using Ev.now ((65441 : Int), acc, (0 : Int))))
  | succ n ih =>
    intro i acc hi ha
    have hlt : i < l.length := by omega
    have hw : wrap64 ((i : Int) + 1) = ((i + 1 : Nat) : Int) := by unfold wrap64; omega
    refine Ev.step (fun k => waveletref29_Size.l1.eq_2 ..) (Ev.pos (by omega) (Ev.pos (by omega) ?_))
    rw [rdC_at i hlt, hw, List.drop_eq_getElem_cons hlt]
    have := ih (i + 1) (acc ++ encC l[i]) (by omega) (by simp [encC]; omega)
    by_cases hs : l[i].f1 = true
    · refine Ev.pos hs (Ev.bind (ev_rput acc _ 1 (by omega) (by omega)) (Ev.bind (ev_rput _ _ 1 (by omega) (by simp [be_length]; omega)) (Ev.bind (ev_rput _ _ 1 (by omega) (by simp [be_length]; omega)) ?_)))
      simpa [encCs, encC, hs, be] using this
    · refine Ev.neg hs (Ev.bind (ev_rput acc _ 1 (by omega) (by omega)) (Ev.bind (ev_rput _ _ 1 (by omega) (by simp [be_length]; omega)) (Ev.bind (ev_rput _ _ 1 (by omega) (by simp [be_length]; omega)) ?_)))
      simpa [encCs, encC, hs, be] using this
theorem rsize_l0 (a b c d tw th : Int) (l : List S97) (hl : l.length ≤ 100000) (m : List Int) (hm : m.length ≤ 10) (n : Nat) : ∀ (i : Nat) (acc : List Int), i + n = m.length → acc.length ≤ 2 * i → Ev (fun k => waveletref29_Size.l0 k acc m (i : Int) a b c d tw th l) (65441, acc ++ enc2 (m.drop i) ++ be (l.length : Int) 1 ++ encCs l, 0) := by
  induction n with
  | zero =>
    intro i acc hi ha
    rw [List.drop_eq_nil_of_le (by omega)]
    refine Ev.step (fun k => waveletref29_Size.l0.eq_2 ..) (Ev.neg (by omega) (Ev.bind (ev_rput acc _ 1 (by omega) (by omega)) ?_))
    have := rsize_l1 a b c d tw th l hl l.length 0 (acc ++ be (l.length : Int) 1) (by omega) (by simp [be_length]; omega)
    simpa [enc2] using this
  | succ n ih =>
    intro i acc hi ha
    have hlt : i < m.length := by omega
    refine Ev.step (fun k => waveletref29_Size.l0.eq_2 ..) (Ev.pos (by omega) (Ev.pos (by omega) (Ev.bind (ev_rput acc _ 2 (by omega) (by omega)) ?_)))
    rw [show wrap64 ((i : Int) + 1) = ((i + 1 : Nat) : Int) by unfold wrap64; omega, rd_at i hlt, List.drop_eq_getElem_cons hlt]
    have := ih (i + 1) (acc ++ be m[i] 2) (by omega) (by simp [be_length]; omega)
    simpa [enc2] using this
/-- The bytes of a header. -/
def SizeB (a b c d tw th : Int) (l : List S97) : List Int := enc2 [a, b, c, d, tw, th] ++ be (l.length : Int) 1 ++ encCs l
def SizeF (r a b c d tw th : Int) (l : List S97) : Int × List Int × Int := if r = 0 then (65441, SizeB a b c d tw th l, 0) else (0, [], r)
theorem size_ev (a b c d tw th : Int) (l : List S97) (hl : l.length ≤ 100000) {r : Int} (h : Ev (fun k => params_Header.f k a b c d tw th l) r) : Ev (fun k => headseg_Size.f k a b c d tw th l) (SizeF r a b c d tw th l) := by
  refine Ev.congr (fun k => headseg_Size.f.eq_1 ..) (Ev.bind h ?_)
  unfold SizeF
  by_cases hr : r = 0
  · rw [if_pos hr]
    refine Ev.pos hr ?_
    have := size_l0 a b c d tw th l hl [a, b, c, d, tw, th] (by simp) 6 0 [] (by simp) (by simp)
    simpa [SizeB] using this
  · rw [if_neg hr]
    exact Ev.neg hr (Ev.now _)
theorem rsize_ev (a b c d tw th : Int) (l : List S97) (hl : l.length ≤ 100000) {r : Int} (h : Ev (fun k => waveletref23_Header.f k a b c d tw th l) r) : Ev (fun k => waveletref29_Size.f k a b c d tw th l) (SizeF r a b c d tw th l) := by
  refine Ev.congr (fun k => waveletref29_Size.f.eq_1 ..) (Ev.bind h ?_)
  unfold SizeF
  by_cases hr : r = 0
  · rw [if_pos hr]
    refine Ev.pos hr ?_
    have := rsize_l0 a b c d tw th l hl [a, b, c, d, tw, th] (by simp) 6 0 [] (by simp) (by simp)
    simpa [SizeB] using this
  · rw [if_neg hr]
    exact Ev.neg hr (Ev.now _)
theorem SizeF_length (r a b c d tw th : Int) (l : List S97) (hl : l.length ≤ 100000) : (SizeF r a b c d tw th l).2.1.length ≤ 1000000 := by
  unfold SizeF
  split
  · simp [SizeB, enc2, be_length, encCs_length]; omega
  · simp

/-! ### ParseSize -/
theorem ev_rdn {ρ : Type} {l : List Int} {p n : Int} {bad : Int → ρ} {f : Nat → Int → Option ρ} {v : Int} {r : ρ} (h : Ev (fun k => marker_ReadUint.f k l p n) (v, 0)) (hf : Ev (fun k => f k v) r) : Ev (fun k => rdn k l p n bad (f k)) r := Ev.bind h (Ev.pos rfl hf)
theorem ev_rdn_bad {ρ : Type} {l : List Int} {p n : Int} {bad : Int → ρ} {f : Nat → Int → Option ρ} {v e : Int} (he : e ≠ 0) (h : Ev (fun k => marker_ReadUint.f k l p n) (v, e)) : Ev (fun k => rdn k l p n bad (f k)) (bad e) := Ev.bind h (Ev.neg he (Ev.now _))
theorem ev_in (l : List Int) (hl : l.length ≤ 1000000) (a n : Nat) (h1 : 1 ≤ n) (hn : n ≤ 4) (han : a + n ≤ l.length) : Ev (fun k => marker_ReadUint.f k l (a : Int) (n : Int)) (num (sub l a n), 0) := by
  have := ev_ru l (a : Int) (n : Int) hl (by omega)
  rwa [RU_in l a n h1 hn han] at this
theorem ev_out (l : List Int) (hl : l.length ≤ 1000000) (a n : Nat) (h1 : 1 ≤ n) (hn : n ≤ 4) (ha : a ≤ l.length) (han : l.length < a + n) : Ev (fun k => marker_ReadUint.f k l (a : Int) (n : Int)) (0, 7) := by
  have := ev_ru l (a : Int) (n : Int) hl (by omega)
  rwa [RU_out l a n h1 hn ha han] at this
theorem sub_one (l : List Int) (a : Nat) (h : a < l.length) : sub l a 1 = [l[a]] := by
  unfold sub
  rw [List.drop_take, show a + 1 - a = 1 by omega, List.drop_eq_getElem_cons h]
  rfl
theorem num_one {l : List Int} (hb : ∀ x ∈ l, (Lit.int .u8 x).wf = true) (a : Nat) (h : a < l.length) : num (sub l a 1) = l[a] := by
  rw [sub_one l a h]
  obtain ⟨h0, h1⟩ := wf_u8 (hb _ (List.getElem_mem h))
  simp only [num, List.foldl]
  rw [step_eq (by omega) (by omega) h0 h1]
  omega
theorem and127 : ∀ b : Fin 256, Go.bits .and .i64 ((b.val : Nat) : Int) 127 = ((b.val % 128 : Nat) : Int) := by decide +kernel
/-- The component that lies at a place. -/
def compAt (l : List Int) (p : Nat) : S97 := ⟨l.getD p 0 % 128 + 1, decide (l.getD p 0 ≥ 128), l.getD (p + 1) 0, l.getD (p + 2) 0⟩
def compsAt (l : List Int) : Nat → Nat → List S97
  | _, 0 => []
  | p, n + 1 => compAt l p :: compsAt l (p + 3) n
theorem compsAt_length (l : List Int) : ∀ n p, (compsAt l p n).length = n
  | 0, p => rfl
  | n + 1, p => by simp [compsAt, compsAt_length l n]
theorem getD_at {l : List Int} (i : Nat) (h : i < l.length) : l.getD i 0 = l[i] := by
  rw [List.getD_eq_getElem?_getD, List.getElem?_eq_getElem h]
  rfl
theorem comp_our {b x y : Int} (h0 : 0 ≤ b) (h1 : b ≤ 255) : (⟨wrap64 (Go.bits .and .i64 b 127 + 1), decide (b ≥ 128), x, y⟩ : S97) = ⟨b % 128 + 1, decide (b ≥ 128), x, y⟩ := by
  have h := and127 ⟨b.toNat, by omega⟩
  simp only [show ((b.toNat : Nat) : Int) = b by omega] at h
  rw [h, show wrap64 (((b.toNat % 128 : Nat) : Int) + 1) = b % 128 + 1 by unfold wrap64; omega]
theorem sizeLoop_in {l : List Int} (hb : ∀ x ∈ l, (Lit.int .u8 x).wf = true) (hl : l.length ≤ 1000000) (n : Nat) : ∀ (p : Nat) (xs : List S97), p + 3 * n ≤ l.length → xs.length ≤ p → Ev (fun k => sizeLoop k l (p : Int) (n : Int) xs) (0, xs ++ compsAt l p n, ((p + 3 * n : Nat) : Int)) := by
  induction n with
  | zero =>
    intro p xs hp hx
    refine Ev.step (fun k => sizeLoop.eq_2 ..) (Ev.neg (by omega) ?_)
    simpa [compsAt] using Ev.now ((0 : Int), xs, (p : Int))
  | succ n ih =>
    intro p xs hp hx
    have e1 : wrap64 ((p : Int) + 1) = ((p + 1 : Nat) : Int) := by unfold wrap64; omega
    have e2 : wrap64 (((p + 1 : Nat) : Int) + 1) = ((p + 2 : Nat) : Int) := by unfold wrap64; omega
    have e3 : wrap64 (((p + 2 : Nat) : Int) + 1) = ((p + 3 : Nat) : Int) := by unfold wrap64; omega
    have e4 : wrap64 (((n + 1 : Nat) : Int) - 1) = (n : Int) := by unfold wrap64; omega
    have r1 := ev_in l hl p 1 (by omega) (by omega) (by omega)
    have r2 := ev_in l hl (p + 1) 1 (by omega) (by omega) (by omega)
    have r3 := ev_in l hl (p + 2) 1 (by omega) (by omega) (by omega)
    rw [num_one hb p (by omega)] at r1
    rw [num_one hb (p + 1) (by omega)] at r2
    rw [num_one hb (p + 2) (by omega)] at r3
    obtain ⟨b0, b1⟩ := wf_u8 (hb _ (List.getElem_mem (show p < l.length by omega)))
    have hc : (⟨wrap64 (Go.bits .and .i64 l[p] 127 + 1), decide (l[p] ≥ 128), l[p + 1], l[p + 2]⟩ : S97) = compAt l p := by
      rw [comp_our b0 b1]
      unfold compAt
      rw [getD_at p (by omega), getD_at (p + 1) (by omega), getD_at (p + 2) (by omega)]
    have := ih (p + 3) (xs ++ [compAt l p]) (by omega) (by simp; omega)
    refine Ev.step (fun k => sizeLoop.eq_2 ..) (Ev.pos (by omega) (Ev.pos (by omega) (ev_rdn r1 ?_)))
    rw [e1, e2, e3, e4]
    refine ev_rdn r2 (ev_rdn r3 ?_)
    rw [hc]
    simpa [compsAt, show p + 3 + 3 * n = p + 3 * (n + 1) by omega] using this
theorem sizeLoop_out {l : List Int} (hl : l.length ≤ 1000000) (n : Nat) : ∀ (p : Nat) (xs : List S97), p ≤ l.length → l.length < p + 3 * n → xs.length ≤ p → n ≤ 1000000 → Ev (fun k => sizeLoop k l (p : Int) (n : Int) xs) (7, [], 0) := by
  induction n with
  | zero =>
    intro p xs hp hq hx hn1
    omega
  | succ n ih =>
    intro p xs hp hq hx hn1
    have e1 : wrap64 ((p : Int) + 1) = ((p + 1 : Nat) : Int) := by unfold wrap64; omega
    have e2 : wrap64 (((p + 1 : Nat) : Int) + 1) = ((p + 2 : Nat) : Int) := by unfold wrap64; omega
    have e3 : wrap64 (((p + 2 : Nat) : Int) + 1) = ((p + 3 : Nat) : Int) := by unfold wrap64; omega
    have e4 : wrap64 (((n + 1 : Nat) : Int) - 1) = (n : Int) := by unfold wrap64; omega
    refine Ev.step (fun k => sizeLoop.eq_2 ..) (Ev.pos (by omega) (Ev.pos (by omega) ?_))
    rw [e1, e2, e3, e4]
    by_cases c1 : p + 1 ≤ l.length
    rotate_left
    · exact ev_rdn_bad (by omega) (ev_out l hl p 1 (by omega) (by omega) hp (by omega))
    refine ev_rdn (ev_in l hl p 1 (by omega) (by omega) c1) ?_
    by_cases c2 : p + 2 ≤ l.length
    rotate_left
    · exact ev_rdn_bad (by omega) (ev_out l hl (p + 1) 1 (by omega) (by omega) (by omega) (by omega))
    refine ev_rdn (ev_in l hl (p + 1) 1 (by omega) (by omega) c2) ?_
    by_cases c3 : p + 3 ≤ l.length
    rotate_left
    · exact ev_rdn_bad (by omega) (ev_out l hl (p + 2) 1 (by omega) (by omega) (by omega) (by omega))
    refine ev_rdn (ev_in l hl (p + 2) 1 (by omega) (by omega) c3) ?_
    exact ih (p + 3) _ c3 (by omega) (by simp; omega) (by omega)
/-- The number of components. -/
def cnt (l : List Int) : Nat := (l.getD 12 0).toNat
def head6 (l : List Int) : Int × Int × Int × Int × Int × Int := (num (sub l 0 2), num (sub l 2 2), num (sub l 4 2), num (sub l 6 2), num (sub l 8 2), num (sub l 10 2))
theorem sizeRead_ev {l : List Int} (hb : ∀ x ∈ l, (Lit.int .u8 x).wf = true) (hl : l.length ≤ 1000000) :
    Ev (fun k => sizeRead k l) (if 13 ≤ l.length ∧ 13 + 3 * cnt l ≤ l.length then (0, (head6 l).1, (head6 l).2.1, (head6 l).2.2.1, (head6 l).2.2.2.1, (head6 l).2.2.2.2.1, (head6 l).2.2.2.2.2, compsAt l 13 (cnt l), ((13 + 3 * cnt l : Nat) : Int)) else badSize 7) := by
  unfold sizeRead
  by_cases c0 : 2 ≤ l.length
  rotate_left
  · rw [if_neg (by omega)]; exact ev_rdn_bad (by omega) (ev_out l hl 0 2 (by omega) (by omega) (by omega) (by omega))
  refine ev_rdn (ev_in l hl 0 2 (by omega) (by omega) c0) ?_
  by_cases c1 : 4 ≤ l.length
  rotate_left
  · rw [if_neg (by omega)]; exact ev_rdn_bad (by omega) (ev_out l hl 2 2 (by omega) (by omega) (by omega) (by omega))
  refine ev_rdn (ev_in l hl 2 2 (by omega) (by omega) c1) ?_
  by_cases c2 : 6 ≤ l.length
  rotate_left
  · rw [if_neg (by omega)]; exact ev_rdn_bad (by omega) (ev_out l hl 4 2 (by omega) (by omega) (by omega) (by omega))
  refine ev_rdn (ev_in l hl 4 2 (by omega) (by omega) c2) ?_
  by_cases c3 : 8 ≤ l.length
  rotate_left
  · rw [if_neg (by omega)]; exact ev_rdn_bad (by omega) (ev_out l hl 6 2 (by omega) (by omega) (by omega) (by omega))
  refine ev_rdn (ev_in l hl 6 2 (by omega) (by omega) c3) ?_
  by_cases c4 : 10 ≤ l.length
  rotate_left
  · rw [if_neg (by omega)]; exact ev_rdn_bad (by omega) (ev_out l hl 8 2 (by omega) (by omega) (by omega) (by omega))
  refine ev_rdn (ev_in l hl 8 2 (by omega) (by omega) c4) ?_
  by_cases c5 : 12 ≤ l.length
  rotate_left
  · rw [if_neg (by omega)]; exact ev_rdn_bad (by omega) (ev_out l hl 10 2 (by omega) (by omega) (by omega) (by omega))
  refine ev_rdn (ev_in l hl 10 2 (by omega) (by omega) c5) ?_
  by_cases c6 : 13 ≤ l.length
  rotate_left
  · rw [if_neg (by omega)]; exact ev_rdn_bad (by omega) (ev_out l hl 12 1 (by omega) (by omega) (by omega) (by omega))
  have r := ev_in l hl 12 1 (by omega) (by omega) c6
  obtain ⟨b0, b1⟩ := wf_u8 (hb _ (List.getElem_mem (show 12 < l.length by omega)))
  have hn : num (sub l 12 1) = (cnt l : Int) := by
    rw [num_one hb 12 (by omega)]
    unfold cnt
    rw [getD_at 12 (by omega)]
    omega
  rw [hn] at r
  refine ev_rdn r ?_
  by_cases c7 : 13 + 3 * cnt l ≤ l.length
  · rw [if_pos ⟨c6, c7⟩]
    have := sizeLoop_in hb hl (cnt l) 13 [] c7 (by simp)
    exact Ev.bind this (by simpa [head6] using Ev.now _)
  · rw [if_neg (by omega)]
    have hcn : cnt l ≤ 255 := by unfold cnt; rw [getD_at 12 (by omega)]; omega
    have := sizeLoop_out hl (cnt l) 13 [] c6 (by omega) (by simp) (by omega)
    exact Ev.bind this (by simpa using Ev.now (badSize 7))
end Go.Proofs.Ytihfopblmjgfaaa.Pure
