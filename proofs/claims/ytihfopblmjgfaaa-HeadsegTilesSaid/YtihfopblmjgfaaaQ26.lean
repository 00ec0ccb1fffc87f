-- By a program of this session (wip/tools/mk.py), out of the kit's print of the translation; Lean checks it.
import Derived.Test.YtihfopblmjgfaaaQ0
import Derived.Test.YtihfopblmjgfaaaQ6
import Derived.Test.YtihfopblmjgfaaaQ9
import Derived.Test.YtihfopblmjgfaaaQ12
import Derived.Test.YtihfopblmjgfaaaQ16
import Derived.Test.YtihfopblmjgfaaaQ17
import Derived.Test.YtihfopblmjgfaaaQ18
import Derived.Test.YtihfopblmjgfaaaQ19
import Derived.Test.YtihfopblmjgfaaaQ20
import Derived.Test.YtihfopblmjgfaaaQ21
import Derived.Test.YtihfopblmjgfaaaQ24
import Derived.Test.YtihfopblmjgfaaaQ25
namespace Go.Proofs.Ytihfopblmjgfaaa.Q
open Go.RowKit Go.Proofs.YtihfopblmjgfaaaW.PrintWords Go.Proofs.YtihfopblmjgfaaaW.PrintLast Go.Proofs.YtihfopblmjgfaaaW.PrintMore
attribute [local go_sem] max2_int min2_int max_two min_two max_three min_three max_four min_four   -- for this text's walks alone
set_option linter.unusedVariables false
set_option linter.unusedSimpArgs false

/-! ### waveletlaw29_HeadsegTiles: function 3 -/
mutual
def waveletlaw29_HeadsegTiles.j0 : Nat → ByteArray → Bool → Int → Int → Int → Int → Int → List Int → Option (Bool)
  | 0, _, _, _, _, _, _, _, _ => none
  | k + 1, x0, x31, x247000, x247001, x247002, x247003, x248000, x248001 => if x31 = true then ((waveletlaw29_awake.f k).bind fun t249 => (some t249)) else ((headseg_Comment.f x0).bind fun bt250 => ((waveletref29_Comment.f x0).bind fun bt256 => ((headseg_ParseComment.f x248000 x248001).bind fun bt262 => ((waveletref29_ParseComment.f x248000 x248001).bind fun bt264 => ((waveletlaw29_sameSegment.f k bt250.1 bt250.2.1 bt256.1 bt256.2.1).bind fun t266 => (if t266 = true then (if bt250.2.2 = bt256.2.2 then (if bt262.1.toList = bt264.1.toList then (waveletlaw29_HeadsegTiles.j1 k (bt262.2 != bt264.2) x247000 x247001 x247002 x247003 x248000 x248001) else (waveletlaw29_HeadsegTiles.j1 k true x247000 x247001 x247002 x247003 x248000 x248001)) else (waveletlaw29_HeadsegTiles.j1 k true x247000 x247001 x247002 x247003 x248000 x248001)) else (waveletlaw29_HeadsegTiles.j1 k true x247000 x247001 x247002 x247003 x248000 x248001)))))))
def waveletlaw29_HeadsegTiles.j1 : Nat → Bool → Int → Int → Int → Int → Int → List Int → Option (Bool)
  | 0, _, _, _, _, _, _, _ => none
  | k + 1, x71, x247000, x247001, x247002, x247003, x248000, x248001 => if x71 = true then (some false) else ((headseg_Tile.f k x247000 x247001 x247002 x247003).bind fun bt267 => ((waveletref29_Tile.f k x247000 x247001 x247002 x247003).bind fun bt272 => ((headseg_ParseTile.f k x248000 x248001).bind fun bt277 => ((waveletref29_ParseTile.f k x248000 x248001).bind fun bt282 => ((waveletlaw29_sameSegment.f k bt267.1 bt267.2.1 bt272.1 bt272.2.1).bind fun t287 => (if t287 = true then (if bt267.2.2 = bt272.2.2 then (if bt277.1 = bt282.1 then (if bt277.2.1 = bt282.2.1 then (if bt277.2.2.1 = bt282.2.2.1 then (if bt277.2.2.2.1 = bt282.2.2.2.1 then (if bt277.2.2.2.2 = bt282.2.2.2.2 then ((waveletlaw29_awake.f k).bind fun t288 => (some t288)) else (some false)) else (some false)) else (some false)) else (some false)) else (some false)) else (some false)) else (some false)))))))
end
def waveletlaw29_HeadsegTiles.f (k : Nat) (a0 : ByteArray) (a1_0 : Int) (a1_1 : Int) (a1_2 : Int) (a1_3 : Int) (a2_0 : Int) (l2_1 : List Int) : Option (Bool) := if (a0.size : Int) > 70000 then (waveletlaw29_HeadsegTiles.j0 k a0 true a1_0 a1_1 a1_2 a1_3 a2_0 l2_1) else ((waveletlaw29_long.f a2_0 l2_1).bind fun t248 => (waveletlaw29_HeadsegTiles.j0 k a0 t248 a1_0 a1_1 a1_2 a1_3 a2_0 l2_1))
theorem waveletlaw29_HeadsegTiles.mono_l : ∀ k, (∀ y0 y1 y2 y3 y4 y5 y6 y7, LeO (waveletlaw29_HeadsegTiles.j0 k y0 y1 y2 y3 y4 y5 y6 y7) (waveletlaw29_HeadsegTiles.j0 (k + 1) y0 y1 y2 y3 y4 y5 y6 y7)) ∧ (∀ y0 y1 y2 y3 y4 y5 y6, LeO (waveletlaw29_HeadsegTiles.j1 k y0 y1 y2 y3 y4 y5 y6) (waveletlaw29_HeadsegTiles.j1 (k + 1) y0 y1 y2 y3 y4 y5 y6))
  | 0 => ⟨fun _ _ _ _ _ _ _ _ r h => by simp [waveletlaw29_HeadsegTiles.j0] at h, fun _ _ _ _ _ _ _ r h => by simp [waveletlaw29_HeadsegTiles.j1] at h⟩
  | k + 1 => by
    obtain ⟨ih0, ih1⟩ := waveletlaw29_HeadsegTiles.mono_l k
    refine ⟨?_, ?_⟩
    · intro y0 y1 y2 y3 y4 y5 y6 y7
      unfold waveletlaw29_HeadsegTiles.j0
      repeat' first
      | (with_reducible exact ih0 _ _ _ _ _ _ _ _)
      | (with_reducible exact ih1 _ _ _ _ _ _ _)
      | (with_reducible exact headseg_ParseTile.mono _ _ _)
      | (with_reducible exact headseg_Tile.mono _ _ _ _ _)
      | (with_reducible exact waveletlaw29_awake.mono _)
      | (with_reducible exact waveletlaw29_sameSegment.mono _ _ _ _ _)
      | (with_reducible exact waveletref29_ParseTile.mono _ _ _)
      | (with_reducible exact waveletref29_Tile.mono _ _ _ _ _)
      | (with_reducible exact LeO.refl _)
      | (with_reducible exact LeO.none _)
      | (with_reducible refine LeO.ite ?_ ?_)
      | (with_reducible refine LeO.bind ?_ (fun _ => ?_))
      | exact ih0 _ _ _ _ _ _ _ _
      | exact ih1 _ _ _ _ _ _ _
      | exact headseg_ParseTile.mono _ _ _
      | exact headseg_Tile.mono _ _ _ _ _
      | exact waveletlaw29_awake.mono _
      | exact waveletlaw29_sameSegment.mono _ _ _ _ _
      | exact waveletref29_ParseTile.mono _ _ _
      | exact waveletref29_Tile.mono _ _ _ _ _
      | exact LeO.none _
      | refine LeO.ite ?_ ?_
      | refine LeO.bind ?_ (fun _ => ?_)
    · intro y0 y1 y2 y3 y4 y5 y6
      unfold waveletlaw29_HeadsegTiles.j1
      repeat' first
      | (with_reducible exact ih0 _ _ _ _ _ _ _ _)
      | (with_reducible exact ih1 _ _ _ _ _ _ _)
      | (with_reducible exact headseg_ParseTile.mono _ _ _)
      | (with_reducible exact headseg_Tile.mono _ _ _ _ _)
      | (with_reducible exact waveletlaw29_awake.mono _)
      | (with_reducible exact waveletlaw29_sameSegment.mono _ _ _ _ _)
      | (with_reducible exact waveletref29_ParseTile.mono _ _ _)
      | (with_reducible exact waveletref29_Tile.mono _ _ _ _ _)
      | (with_reducible exact LeO.refl _)
      | (with_reducible exact LeO.none _)
      | (with_reducible refine LeO.ite ?_ ?_)
      | (with_reducible refine LeO.bind ?_ (fun _ => ?_))
      | exact ih0 _ _ _ _ _ _ _ _
      | exact ih1 _ _ _ _ _ _ _
      | exact headseg_ParseTile.mono _ _ _
      | exact headseg_Tile.mono _ _ _ _ _
      | exact waveletlaw29_awake.mono _
      | exact waveletlaw29_sameSegment.mono _ _ _ _ _
      | exact waveletref29_ParseTile.mono _ _ _
      | exact waveletref29_Tile.mono _ _ _ _ _
      | exact LeO.none _
      | refine LeO.ite ?_ ?_
      | refine LeO.bind ?_ (fun _ => ?_)
theorem waveletlaw29_HeadsegTiles.mono : ∀ a0 a1 a2 a3 a4 a5 a6 k, LeO (waveletlaw29_HeadsegTiles.f k a0 a1 a2 a3 a4 a5 a6) (waveletlaw29_HeadsegTiles.f (k + 1) a0 a1 a2 a3 a4 a5 a6) := by
  intro a0 a1 a2 a3 a4 a5 a6 k
  obtain ⟨ih0, ih1⟩ := waveletlaw29_HeadsegTiles.mono_l k
  unfold waveletlaw29_HeadsegTiles.f
  repeat' first
      | (with_reducible exact ih0 _ _ _ _ _ _ _ _)
      | (with_reducible exact ih1 _ _ _ _ _ _ _)
      | (with_reducible exact headseg_ParseTile.mono _ _ _)
      | (with_reducible exact headseg_Tile.mono _ _ _ _ _)
      | (with_reducible exact waveletlaw29_awake.mono _)
      | (with_reducible exact waveletlaw29_sameSegment.mono _ _ _ _ _)
      | (with_reducible exact waveletref29_ParseTile.mono _ _ _)
      | (with_reducible exact waveletref29_Tile.mono _ _ _ _ _)
      | (with_reducible exact LeO.refl _)
      | (with_reducible exact LeO.none _)
      | (with_reducible refine LeO.ite ?_ ?_)
      | (with_reducible refine LeO.bind ?_ (fun _ => ?_))
      | exact ih0 _ _ _ _ _ _ _ _
      | exact ih1 _ _ _ _ _ _ _
      | exact headseg_ParseTile.mono _ _ _
      | exact headseg_Tile.mono _ _ _ _ _
      | exact waveletlaw29_awake.mono _
      | exact waveletlaw29_sameSegment.mono _ _ _ _ _
      | exact waveletref29_ParseTile.mono _ _ _
      | exact waveletref29_Tile.mono _ _ _ _ _
      | exact LeO.none _
      | refine LeO.ite ?_ ?_
      | refine LeO.bind ?_ (fun _ => ?_)
set_option maxHeartbeats 8000000 in
set_option maxRecDepth 100000 in
theorem waveletlaw29_HeadsegTiles.calls (k : Nat) (a0 : ByteArray) (a1_0 : Int) (a1_1 : Int) (a1_2 : Int) (a1_3 : Int) (a2_0 : Int) (A2_1 : Option Addr) (c2_1 : Nat) (l2_1 : List Int) (r : Bool) (hr_ : r = true) (w : World) (hr2_1 : Kd.C (Kd.int .u8) w A2_1 l2_1.length l2_1) (hc2_1 : l2_1.length ≤ c2_1) (h : waveletlaw29_HeadsegTiles.f k a0 a1_0 a1_1 a1_2 a1_3 a2_0 l2_1 = some r) :
    Calls Try.prog 3 #[.string a0, .agg #[.int .i64 a1_0, .int .i64 a1_1, .int .i64 a1_2, .int .i64 a1_3], .agg #[.int .i64 a2_0, .slice A2_1 l2_1.length c2_1]] w fun e w' => e = .returned (.bool r) ∧ Below w.heap.size w w' := by
  have hu23 := Try.underlying23
  have hu26 := Try.underlying26
  have HR2_1 := Aside0.mk hr2_1
  have HC2_1 := Aside0.mk hc2_1
  clear hr2_1 hc2_1
  have HB := Aside0.mk (Below.refl w.heap.size w)
  have H : (if (a0.size : Int) > 70000 then (waveletlaw29_HeadsegTiles.j0 k a0 true a1_0 a1_1 a1_2 a1_3 a2_0 l2_1) else ((waveletlaw29_long.f a2_0 l2_1).bind fun t248 => (waveletlaw29_HeadsegTiles.j0 k a0 t248 a1_0 a1_1 a1_2 a1_3 a2_0 l2_1))) = some r := h
  clear h
  have HC4 := Aside0.mk H
  clear H
  go_enter Try.func3, Try.ntmps3
  go_upto_region 1 with (first | ((with_reducible refine gate_dst (N := 4) rfl ?_); refine box_event ?hg (N := 4) ?hd (cs := #[.int .i64 a1_0, .int .i64 a1_1, .int .i64 a1_2, .int .i64 a1_3]) (t := 23) ?hr ?_; (case hd => rfl); (case hg => rfl); (case hr => first | (go_simp; done) | (go_simp; rfl)); intro gb246 hg w5 hbox hb; have n0_ := Aside0.mk (below_step (by repeat (first | (with_reducible first | exact HB.out | apply below_alloc | apply pw_below_drewN | apply below_drew1) | exact HB.out)) hb); have n1_ := Aside0.mk (hbox); have n2_ := Aside0.mk ((by rw [hg]; exact (below_size (by repeat (first | (with_reducible first | exact HB.out | apply below_alloc | apply pw_below_drewN | apply below_drew1) | exact HB.out))) : w.heap.size ≤ gb246)); have n3_ := Aside0.mk ((by rw [hg]; exact (below_size (by repeat (first | (with_reducible first | exact HB.out | apply below_alloc | apply pw_below_drewN | apply below_drew1) | exact HB.out))) : w.heap.size ≤ gb246)); clear HB; have HB := n0_; have BK246 := n1_; have GW246 := n2_; have GE246 := n3_; clear n0_ n1_ n2_ n3_; clear hb hbox hg) | ((with_reducible refine gate_dst (N := 5) rfl ?_); refine box_event ?hg (N := 5) ?hd (cs := #[.int .i64 a2_0, .slice A2_1 l2_1.length c2_1]) (t := 26) ?hr ?_; (case hd => rfl); (case hg => rfl); (case hr => first | (go_simp; done) | (go_simp; rfl)); intro gb247 hg w6 hbox hb; have n0_ := Aside0.mk (blk_below (g := gb246) (o := .cells #[.int .i64 a1_0, .int .i64 a1_1, .int .i64 a1_2, .int .i64 a1_3] 23 (0, 0)) (by (with_reducible repeat (first | refine blk_drewN ?_ _ | refine blk_drew ?_ | refine blk_alloc ?_ _)); exact BK246.out) hb); have n1_ := Aside0.mk (below_step (by repeat (first | (with_reducible first | exact HB.out | apply below_alloc | apply pw_below_drewN | apply below_drew1 | refine below_set ?_ GE246.out) | exact HB.out)) hb); have n2_ := Aside0.mk (hbox); have n3_ := Aside0.mk ((by rw [hg]; exact (below_size (by repeat (first | (with_reducible first | exact HB.out | apply below_alloc | apply pw_below_drewN | apply below_drew1 | refine below_set ?_ GE246.out) | exact HB.out))) : w.heap.size ≤ gb247)); have n4_ := Aside0.mk ((by rw [hg]; exact (below_size (by repeat (first | (with_reducible first | exact HB.out | apply below_alloc | apply pw_below_drewN | apply below_drew1 | refine below_set ?_ GE246.out) | exact HB.out))) : w.heap.size ≤ gb247)); have n5_ := Aside0.mk ((by rw [hg]; exact Nat.ne_of_lt (blk_lt (g := gb246) (o := .cells #[.int .i64 a1_0, .int .i64 a1_1, .int .i64 a1_2, .int .i64 a1_3] 23 (0, 0)) (by (with_reducible repeat (first | refine blk_drewN ?_ _ | refine blk_drew ?_ | refine blk_alloc ?_ _)); exact BK246.out)) : gb246 ≠ gb247)); have n6_ := Aside0.mk ((by rw [hg]; exact Nat.ne_of_gt (blk_lt (g := gb246) (o := .cells #[.int .i64 a1_0, .int .i64 a1_1, .int .i64 a1_2, .int .i64 a1_3] 23 (0, 0)) (by (with_reducible repeat (first | refine blk_drewN ?_ _ | refine blk_drew ?_ | refine blk_alloc ?_ _)); exact BK246.out)) : gb247 ≠ gb246)); clear BK246; clear HB; have BK246 := n0_; have HB := n1_; have BK247 := n2_; have GW247 := n3_; have GE247 := n4_; have NB246_247 := n5_; have NB247_246 := n6_; clear n0_ n1_ n2_ n3_ n4_ n5_ n6_; clear hb hbox hg))
  (try simp only [Act.put, List.setIfInBounds_toArray, List.set_cons_zero, List.set_cons_succ])
  go_cut [31] (fun v31 wc => ∃ (kq : Nat) (x31_3 : Bool), v31 = .bool x31_3 ∧ Aside0 (waveletlaw29_HeadsegTiles.j0 kq a0 x31_3 a1_0 a1_1 a1_2 a1_3 a2_0 l2_1 = some r) ∧ Aside0 (kq ≤ k) ∧ Aside0 (wc.heap[gb246]? = some (.cells #[.int .i64 a1_0, .int .i64 a1_1, .int .i64 a1_2, .int .i64 a1_3] 23 (0, 0))) ∧ Aside0 (wc.heap[gb247]? = some (.cells #[.int .i64 a2_0, (.slice A2_1 l2_1.length c2_1)] 26 (0, 0))) ∧ Aside0 (Below w.heap.size w wc))
  case first =>
    have H := HC4.out
    clear HC4
    by_cases c7 : (a0.size : Int) > 70000
    · rw [if_pos c7] at H
      have c7b0 : decide (70000 < (a0.size : Int)) = true := decide_eq_true c7
      have c7b1 : decide (70000 < a0.size) = true := decide_eq_true (by omega)
      clear c7
      (first | rw [c7b0] | (simp only [i64_w, i32_w]; rw [c7b0]) | skip)
      have H' := Aside0.mk H
      clear H
      go_wp2
      go_meet
      case rel => exact ⟨_, (true), (by first | rfl | (simp; done) | (simp [*]; done)), H', ⟨by first | omega | exact Nat.le_refl _⟩, ⟨by (with_reducible repeat (first | refine blk_drewN ?_ _ | refine blk_drew ?_ | refine blk_alloc ?_ _)); exact BK246.out⟩, ⟨by (with_reducible repeat (first | refine blk_drewN ?_ _ | refine blk_drew ?_ | refine blk_alloc ?_ _)); exact BK247.out⟩, ⟨by repeat (first | (with_reducible first | exact HB.out | apply below_alloc | apply pw_below_drewN | apply below_drew1 | refine below_set ?_ GE246.out | refine below_set ?_ GE247.out) | exact HB.out)⟩⟩
    · rw [if_neg c7] at H
      have c7b0 : decide (70000 < (a0.size : Int)) = false := decide_eq_false c7
      have c7b1 : decide (70000 < a0.size) = false := decide_eq_false (by omega)
      clear c7
      (first | rw [c7b0] | (simp only [i64_w, i32_w]; rw [c7b0]) | skip)
      replace H := Option.bind_eq_some_iff.mp H
      obtain ⟨t248, A80, H⟩ := H
      replace H : (waveletlaw29_HeadsegTiles.j0 k a0 t248 a1_0 a1_1 a1_2 a1_3 a2_0 l2_1) = some r := H
      have A8 := Aside0.mk A80
      clear A80
      have H' := Aside0.mk H
      clear H
      have hnb9 := NB247_246.out
      have hnc9 := NB246_247.out
      have hcz10_0 : w6.cell? ⟨gb247, 0, none⟩ = some (.int .i64 a2_0) := (blk_cell BK247.out 0).trans rfl
      have hcz10_1 : w6.cell? ⟨gb247, 1, none⟩ = some (.slice A2_1 l2_1.length c2_1) := (blk_cell BK247.out 1).trans rfl
      have hfz10_0 := blk_frozen BK247.out 0
      have hfz10_1 := blk_frozen BK247.out 1
      go_wp2_with (first | (go_at_call 11; (with_reducible refine (waveletlaw29_long.calls a2_0 _ _ l2_1 t248 _ ?side1 ?side2 A8.out).mono ?_); (case side1 => repeat (first | exact (Kd.C_below HR2_1.out HB.out) | (with_reducible refine Kd.C_alloc ?_ _) | (with_reducible refine Kd.C_drewN ?_ _) | (with_reducible refine Kd.C_drew ?_))); (case side2 => exact HC2_1.out); rintro e w11 ⟨rfl, hb⟩; have n0_ := Aside0.mk (blk_below (g := gb246) (o := .cells #[.int .i64 a1_0, .int .i64 a1_1, .int .i64 a1_2, .int .i64 a1_3] 23 (0, 0)) (by (with_reducible repeat (first | refine blk_drewN ?_ _ | refine blk_drew ?_ | refine blk_alloc ?_ _)); exact BK246.out) hb); have n1_ := Aside0.mk (blk_below (g := gb247) (o := .cells #[.int .i64 a2_0, .slice A2_1 l2_1.length c2_1] 26 (0, 0)) (by (with_reducible repeat (first | refine blk_drewN ?_ _ | refine blk_drew ?_ | refine blk_alloc ?_ _)); exact BK247.out) hb); have n2_ := Aside0.mk (below_step (by repeat (first | (with_reducible first | exact HB.out | apply below_alloc | apply pw_below_drewN | apply below_drew1 | refine below_set ?_ GE246.out | refine below_set ?_ GE247.out) | exact HB.out)) hb); clear BK246; clear BK247; clear HB; have BK246 := n0_; have BK247 := n1_; have HB := n2_; clear n0_ n1_ n2_; (try clear hb); (try clear hb2); (try clear hk); (try clear hi)))
      go_meet
      case rel => exact ⟨_, (t248), (by first | rfl | (simp; done) | (simp [*]; done)), H', ⟨by first | omega | exact Nat.le_refl _⟩, ⟨by (with_reducible repeat (first | refine blk_drewN ?_ _ | refine blk_drew ?_ | refine blk_alloc ?_ _)); exact BK246.out⟩, ⟨by (with_reducible repeat (first | refine blk_drewN ?_ _ | refine blk_drew ?_ | refine blk_alloc ?_ _)); exact BK247.out⟩, ⟨by repeat (first | (with_reducible first | exact HB.out | apply below_alloc | apply pw_below_drewN | apply below_drew1 | refine below_set ?_ GE246.out | refine below_set ?_ GE247.out) | exact HB.out)⟩⟩
  case rest =>
    clear HC4
    try clear c2
    try clear p2
    try clear c3
    try clear c7
    try clear c7b0
    try clear c7b1
    try clear c9
    try clear hcz10_0
    try clear hcz10_1
    try clear hfz10_0
    try clear hfz10_1
    obtain ⟨kq, x31_3, rfl, HA, HJ3, BK246, BK247, HB⟩ := hcut
    cases kq with
    | zero => exact absurd HA.out (by simp [waveletlaw29_HeadsegTiles.j0])
    | succ kj3 =>
      have H := HA.out
      clear HA
      simp only [waveletlaw29_HeadsegTiles.j0] at H
      by_cases c12 : x31_3 = true
      · subst c12
        have H1 : ((waveletlaw29_awake.f kj3).bind fun t249 => (some t249)) = some r := by rw [if_pos rfl] at H; exact H
        clear H
        have H := H1
        clear H1
        replace H := Option.bind_eq_some_iff.mp H
        obtain ⟨t249, A130, H⟩ := H
        replace H : (some t249) = some r := H
        have A13 := Aside0.mk A130
        clear A130
        obtain rfl := Option.some.inj H
        go_wp2_with (first | ((with_reducible refine gate_callee (f := 12) rfl ?_); refine goesL_ (some 32) rfl rfl Try.func12 (by kernel_rfl) rfl #[] rfl (by (try simp only [List.map_toArray, List.map_cons, List.map_nil]); first | done | rfl | (simp only [List.length_drop, List.length_take]; rfl)) ?_; (with_reducible refine (waveletlaw29_awake.calls kj3  t249 _ A13.out).mono ?_); rintro e w14 ⟨rfl, hb⟩; refine ⟨_, rfl, ?_⟩; have n0_ := Aside0.mk (blk_below (g := gb246) (o := .cells #[.int .i64 a1_0, .int .i64 a1_1, .int .i64 a1_2, .int .i64 a1_3] 23 (0, 0)) (by (with_reducible repeat (first | refine blk_drewN ?_ _ | refine blk_drew ?_ | refine blk_alloc ?_ _)); exact BK246.out) hb); have n1_ := Aside0.mk (blk_below (g := gb247) (o := .cells #[.int .i64 a2_0, .slice A2_1 l2_1.length c2_1] 26 (0, 0)) (by (with_reducible repeat (first | refine blk_drewN ?_ _ | refine blk_drew ?_ | refine blk_alloc ?_ _)); exact BK247.out) hb); have n2_ := Aside0.mk (below_step (by repeat (first | (with_reducible first | exact HB.out | apply below_alloc | apply pw_below_drewN | apply below_drew1 | refine below_set ?_ GE246.out | refine below_set ?_ GE247.out) | exact HB.out)) hb); clear BK246; clear BK247; clear HB; have BK246 := n0_; have BK247 := n1_; have HB := n2_; clear n0_ n1_ n2_; (try clear hb); (try clear hb2); (try clear hk); (try clear hi)))
        go_ret
        exact ⟨by first | rfl | (simp [errW_none, errW_some] <;> rfl) | (simp [*, errW_none, errW_some] <;> rfl), by repeat (first | (with_reducible first | exact HB.out | apply below_alloc | apply pw_below_drewN | apply below_drew1 | refine below_set ?_ GE246.out | refine below_set ?_ GE247.out) | exact HB.out)⟩
      · replace c12 := Bool.eq_false_iff.mpr c12
        subst c12
        have H1 : ((headseg_Comment.f a0).bind fun bt250 => ((waveletref29_Comment.f a0).bind fun bt256 => ((headseg_ParseComment.f a2_0 l2_1).bind fun bt262 => ((waveletref29_ParseComment.f a2_0 l2_1).bind fun bt264 => ((waveletlaw29_sameSegment.f kj3 bt250.1 bt250.2.1 bt256.1 bt256.2.1).bind fun t266 => (if t266 = true then (if bt250.2.2 = bt256.2.2 then (if bt262.1.toList = bt264.1.toList then (waveletlaw29_HeadsegTiles.j1 kj3 (bt262.2 != bt264.2) a1_0 a1_1 a1_2 a1_3 a2_0 l2_1) else (waveletlaw29_HeadsegTiles.j1 kj3 true a1_0 a1_1 a1_2 a1_3 a2_0 l2_1)) else (waveletlaw29_HeadsegTiles.j1 kj3 true a1_0 a1_1 a1_2 a1_3 a2_0 l2_1)) else (waveletlaw29_HeadsegTiles.j1 kj3 true a1_0 a1_1 a1_2 a1_3 a2_0 l2_1))))))) = some r := by rw [if_neg (show ¬ (false = true) by decide)] at H; exact H
        clear H
        have H := H1
        clear H1
        replace H := Option.bind_eq_some_iff.mp H
        obtain ⟨⟨t250, t251, t254⟩, A150, H⟩ := H
        replace H : ((waveletref29_Comment.f a0).bind fun bt256 => ((headseg_ParseComment.f a2_0 l2_1).bind fun bt262 => ((waveletref29_ParseComment.f a2_0 l2_1).bind fun bt264 => ((waveletlaw29_sameSegment.f kj3 t250 t251 bt256.1 bt256.2.1).bind fun t266 => (if t266 = true then (if t254 = bt256.2.2 then (if bt262.1.toList = bt264.1.toList then (waveletlaw29_HeadsegTiles.j1 kj3 (bt262.2 != bt264.2) a1_0 a1_1 a1_2 a1_3 a2_0 l2_1) else (waveletlaw29_HeadsegTiles.j1 kj3 true a1_0 a1_1 a1_2 a1_3 a2_0 l2_1)) else (waveletlaw29_HeadsegTiles.j1 kj3 true a1_0 a1_1 a1_2 a1_3 a2_0 l2_1)) else (waveletlaw29_HeadsegTiles.j1 kj3 true a1_0 a1_1 a1_2 a1_3 a2_0 l2_1)))))) = some r := H
        have A15 := Aside0.mk A150
        clear A150
        replace H := Option.bind_eq_some_iff.mp H
        obtain ⟨⟨t256, t257, t260⟩, A160, H⟩ := H
        replace H : ((headseg_ParseComment.f a2_0 l2_1).bind fun bt262 => ((waveletref29_ParseComment.f a2_0 l2_1).bind fun bt264 => ((waveletlaw29_sameSegment.f kj3 t250 t251 t256 t257).bind fun t266 => (if t266 = true then (if t254 = t260 then (if bt262.1.toList = bt264.1.toList then (waveletlaw29_HeadsegTiles.j1 kj3 (bt262.2 != bt264.2) a1_0 a1_1 a1_2 a1_3 a2_0 l2_1) else (waveletlaw29_HeadsegTiles.j1 kj3 true a1_0 a1_1 a1_2 a1_3 a2_0 l2_1)) else (waveletlaw29_HeadsegTiles.j1 kj3 true a1_0 a1_1 a1_2 a1_3 a2_0 l2_1)) else (waveletlaw29_HeadsegTiles.j1 kj3 true a1_0 a1_1 a1_2 a1_3 a2_0 l2_1))))) = some r := H
        have A16 := Aside0.mk A160
        clear A160
        replace H := Option.bind_eq_some_iff.mp H
        obtain ⟨⟨t262, t263⟩, A170, H⟩ := H
        replace H : ((waveletref29_ParseComment.f a2_0 l2_1).bind fun bt264 => ((waveletlaw29_sameSegment.f kj3 t250 t251 t256 t257).bind fun t266 => (if t266 = true then (if t254 = t260 then (if t262.toList = bt264.1.toList then (waveletlaw29_HeadsegTiles.j1 kj3 (t263 != bt264.2) a1_0 a1_1 a1_2 a1_3 a2_0 l2_1) else (waveletlaw29_HeadsegTiles.j1 kj3 true a1_0 a1_1 a1_2 a1_3 a2_0 l2_1)) else (waveletlaw29_HeadsegTiles.j1 kj3 true a1_0 a1_1 a1_2 a1_3 a2_0 l2_1)) else (waveletlaw29_HeadsegTiles.j1 kj3 true a1_0 a1_1 a1_2 a1_3 a2_0 l2_1)))) = some r := H
        have A17 := Aside0.mk A170
        clear A170
        replace H := Option.bind_eq_some_iff.mp H
        obtain ⟨⟨t264, t265⟩, A180, H⟩ := H
        replace H : ((waveletlaw29_sameSegment.f kj3 t250 t251 t256 t257).bind fun t266 => (if t266 = true then (if t254 = t260 then (if t262.toList = t264.toList then (waveletlaw29_HeadsegTiles.j1 kj3 (t263 != t265) a1_0 a1_1 a1_2 a1_3 a2_0 l2_1) else (waveletlaw29_HeadsegTiles.j1 kj3 true a1_0 a1_1 a1_2 a1_3 a2_0 l2_1)) else (waveletlaw29_HeadsegTiles.j1 kj3 true a1_0 a1_1 a1_2 a1_3 a2_0 l2_1)) else (waveletlaw29_HeadsegTiles.j1 kj3 true a1_0 a1_1 a1_2 a1_3 a2_0 l2_1))) = some r := H
        have A18 := Aside0.mk A180
        clear A180
        have HC19 := Aside0.mk H
        clear H
        go_upto_region 7 with (first | ((with_reducible refine gate_callee (f := 13) rfl ?_); refine goesL_ (some 35) rfl rfl Try.func13 (by kernel_rfl) rfl #[.string a0] rfl (by (try simp only [List.map_toArray, List.map_cons, List.map_nil]); first | done | rfl | (simp only [List.length_drop, List.length_take]; rfl)) ?_; (with_reducible refine (headseg_Comment.calls a0 t250 t251 t254 _ A15.out).mono ?_); rintro e w20 ⟨v252, rfl, ho0, hb⟩; refine ⟨_, rfl, ?_⟩; have n0_ := Aside0.mk (MR_lower ho0 (below_size (by repeat (first | (with_reducible first | exact HB.out | apply below_alloc | apply pw_below_drewN | apply below_drew1 | refine below_set ?_ GE246.out | refine below_set ?_ GE247.out) | exact HB.out)))); have n1_ := Aside0.mk (blk_below (g := gb246) (o := .cells #[.int .i64 a1_0, .int .i64 a1_1, .int .i64 a1_2, .int .i64 a1_3] 23 (0, 0)) (by (with_reducible repeat (first | refine blk_drewN ?_ _ | refine blk_drew ?_ | refine blk_alloc ?_ _)); exact BK246.out) hb); have n2_ := Aside0.mk (blk_below (g := gb247) (o := .cells #[.int .i64 a2_0, .slice A2_1 l2_1.length c2_1] 26 (0, 0)) (by (with_reducible repeat (first | refine blk_drewN ?_ _ | refine blk_drew ?_ | refine blk_alloc ?_ _)); exact BK247.out) hb); have n3_ := Aside0.mk (below_step (by repeat (first | (with_reducible first | exact HB.out | apply below_alloc | apply pw_below_drewN | apply below_drew1 | refine below_set ?_ GE246.out | refine below_set ?_ GE247.out) | exact HB.out)) hb); clear BK246; clear BK247; clear HB; have HO253 := n0_; have BK246 := n1_; have BK247 := n2_; have HB := n3_; clear n0_ n1_ n2_ n3_; (try clear hb); (try clear hb2); (try clear hk); (try clear hi); (try clear ho0)) | ((with_reducible refine gate_dst (N := 7) rfl ?_); refine box_event ?hg (N := 7) ?hd (cs := #[.int .i64 0, .slice none 0 0]) (t := 26) ?hr ?_; (case hd => rfl); (case hg => rfl); (case hr => first | (go_simp; done) | (go_simp; rfl)); intro gb255 hg w21 hbox hb; have n0_ := Aside0.mk (MR_below (by (with_reducible repeat (first | apply MR_alloc | apply MR_drewN | apply MR_drew)); exact HO253.out) hb); have n1_ := Aside0.mk (blk_below (g := gb246) (o := .cells #[.int .i64 a1_0, .int .i64 a1_1, .int .i64 a1_2, .int .i64 a1_3] 23 (0, 0)) (by (with_reducible repeat (first | refine blk_drewN ?_ _ | refine blk_drew ?_ | refine blk_alloc ?_ _)); exact BK246.out) hb); have n2_ := Aside0.mk (blk_below (g := gb247) (o := .cells #[.int .i64 a2_0, .slice A2_1 l2_1.length c2_1] 26 (0, 0)) (by (with_reducible repeat (first | refine blk_drewN ?_ _ | refine blk_drew ?_ | refine blk_alloc ?_ _)); exact BK247.out) hb); have n3_ := Aside0.mk (below_step (by repeat (first | (with_reducible first | exact HB.out | apply below_alloc | apply pw_below_drewN | apply below_drew1 | refine below_set ?_ GE246.out | refine below_set ?_ GE247.out) | exact HB.out)) hb); have n4_ := Aside0.mk (hbox); have n5_ := Aside0.mk ((by rw [hg]; exact (below_size (by repeat (first | (with_reducible first | exact HB.out | apply below_alloc | apply pw_below_drewN | apply below_drew1 | refine below_set ?_ GE246.out | refine below_set ?_ GE247.out) | exact HB.out))) : w.heap.size ≤ gb255)); have n6_ := Aside0.mk ((by rw [hg]; exact (below_size (by repeat (first | (with_reducible first | exact HB.out | apply below_alloc | apply pw_below_drewN | apply below_drew1 | refine below_set ?_ GE246.out | refine below_set ?_ GE247.out) | exact HB.out))) : w.heap.size ≤ gb255)); have n7_ := Aside0.mk ((by rw [hg]; exact Nat.ne_of_lt (blk_lt (g := gb246) (o := .cells #[.int .i64 a1_0, .int .i64 a1_1, .int .i64 a1_2, .int .i64 a1_3] 23 (0, 0)) (by (with_reducible repeat (first | refine blk_drewN ?_ _ | refine blk_drew ?_ | refine blk_alloc ?_ _)); exact BK246.out)) : gb246 ≠ gb255)); have n8_ := Aside0.mk ((by rw [hg]; exact Nat.ne_of_gt (blk_lt (g := gb246) (o := .cells #[.int .i64 a1_0, .int .i64 a1_1, .int .i64 a1_2, .int .i64 a1_3] 23 (0, 0)) (by (with_reducible repeat (first | refine blk_drewN ?_ _ | refine blk_drew ?_ | refine blk_alloc ?_ _)); exact BK246.out)) : gb255 ≠ gb246)); have n9_ := Aside0.mk ((by rw [hg]; exact Nat.ne_of_lt (blk_lt (g := gb247) (o := .cells #[.int .i64 a2_0, .slice A2_1 l2_1.length c2_1] 26 (0, 0)) (by (with_reducible repeat (first | refine blk_drewN ?_ _ | refine blk_drew ?_ | refine blk_alloc ?_ _)); exact BK247.out)) : gb247 ≠ gb255)); have n10_ := Aside0.mk ((by rw [hg]; exact Nat.ne_of_gt (blk_lt (g := gb247) (o := .cells #[.int .i64 a2_0, .slice A2_1 l2_1.length c2_1] 26 (0, 0)) (by (with_reducible repeat (first | refine blk_drewN ?_ _ | refine blk_drew ?_ | refine blk_alloc ?_ _)); exact BK247.out)) : gb255 ≠ gb247)); clear HO253; clear BK246; clear BK247; clear HB; have HO253 := n0_; have BK246 := n1_; have BK247 := n2_; have HB := n3_; have BK255 := n4_; have GW255 := n5_; have GE255 := n6_; have NB246_255 := n7_; have NB255_246 := n8_; have NB247_255 := n9_; have NB255_247 := n10_; clear n0_ n1_ n2_ n3_ n4_ n5_ n6_ n7_ n8_ n9_ n10_; clear hb hbox hg; have hnb22 := NB255_246.out; have hnc22 := NB246_255.out; have hnb23 := NB255_247.out; have hnc23 := NB247_255.out; have hcz24_0 : w21.cell? ⟨gb255, 0, none⟩ = some (.int .i64 0) := (blk_cell BK255.out 0).trans rfl; have hcz24_1 : w21.cell? ⟨gb255, 1, none⟩ = some (.slice none 0 0) := (blk_cell BK255.out 1).trans rfl; have hfz24_0 := blk_frozen BK255.out 0; have hfz24_1 := blk_frozen BK255.out 1; obtain ⟨Ao25, co25, eo25⟩ := MR_slice HO253.out; subst eo25) | ((with_reducible refine gate_callee (f := 14) rfl ?_); refine goesL_ (some 40) rfl rfl Try.func14 (by kernel_rfl) rfl #[.string a0] rfl (by (try simp only [List.map_toArray, List.map_cons, List.map_nil]); first | done | rfl | (simp only [List.length_drop, List.length_take]; rfl)) ?_; (with_reducible refine (waveletref29_Comment.calls a0 t256 t257 t260 _ A16.out).mono ?_); rintro e w26 ⟨v258, rfl, ho0, hb⟩; refine ⟨_, rfl, ?_⟩; have n0_ := Aside0.mk (MR_elder' (by (with_reducible repeat (first | apply MR_alloc | apply MR_drewN | apply MR_drew)); exact (MR_mono (MR_far (p := ⟨gb255, 1, none⟩) (MR_far (p := ⟨gb255, 0, none⟩) (MR_types HO253.out BK255.out (by decide)) (fun _ hk => hk.2) (.int .i64 t250)) (fun _ hk => hk.2) (.slice Ao25 t251.length co25)) (fun _ h_ => h_.1))) (MR_base ho0) hb); have n1_ := Aside0.mk (MR_lower (MR_new' ho0 (MR_lt (by (with_reducible repeat (first | apply MR_alloc | apply MR_drewN | apply MR_drew)); exact (MR_mono (MR_far (p := ⟨gb255, 1, none⟩) (MR_far (p := ⟨gb255, 0, none⟩) (MR_types HO253.out BK255.out (by decide)) (fun _ hk => hk.2) (.int .i64 t250)) (fun _ hk => hk.2) (.slice Ao25 t251.length co25)) (fun _ h_ => h_.1))))) (below_size (by repeat (first | (with_reducible first | exact HB.out | apply below_alloc | apply pw_below_drewN | apply below_drew1 | refine below_set ?_ GE246.out | refine below_set ?_ GE247.out | refine below_set ?_ GE255.out) | exact HB.out)))); have n2_ := Aside0.mk (blk_below (g := gb246) (o := .cells #[.int .i64 a1_0, .int .i64 a1_1, .int .i64 a1_2, .int .i64 a1_3] 23 (0, 0)) (by (with_reducible repeat (first | refine blk_drewN ?_ _ | refine blk_drew ?_ | refine blk_alloc ?_ _)); refine blk_far ?_ NB246_255.out _; (with_reducible repeat (first | refine blk_drewN ?_ _ | refine blk_drew ?_ | refine blk_alloc ?_ _)); refine blk_far ?_ NB246_255.out _; (with_reducible repeat (first | refine blk_drewN ?_ _ | refine blk_drew ?_ | refine blk_alloc ?_ _)); exact BK246.out) hb); have n3_ := Aside0.mk (blk_below (g := gb247) (o := .cells #[.int .i64 a2_0, .slice A2_1 l2_1.length c2_1] 26 (0, 0)) (by (with_reducible repeat (first | refine blk_drewN ?_ _ | refine blk_drew ?_ | refine blk_alloc ?_ _)); refine blk_far ?_ NB247_255.out _; (with_reducible repeat (first | refine blk_drewN ?_ _ | refine blk_drew ?_ | refine blk_alloc ?_ _)); refine blk_far ?_ NB247_255.out _; (with_reducible repeat (first | refine blk_drewN ?_ _ | refine blk_drew ?_ | refine blk_alloc ?_ _)); exact BK247.out) hb); have n4_ := Aside0.mk (blk_below (g := gb255) (o := .cells #[.int .i64 t250, .slice Ao25 t251.length co25] 26 (0, 0)) (by (with_reducible repeat (first | refine blk_drewN ?_ _ | refine blk_drew ?_ | refine blk_alloc ?_ _)); refine blk_put (cs := #[.int .i64 t250, .slice none 0 0]) ?_ 1 _ rfl; (with_reducible repeat (first | refine blk_drewN ?_ _ | refine blk_drew ?_ | refine blk_alloc ?_ _)); refine blk_put (cs := #[.int .i64 0, .slice none 0 0]) ?_ 0 _ rfl; (with_reducible repeat (first | refine blk_drewN ?_ _ | refine blk_drew ?_ | refine blk_alloc ?_ _)); exact BK255.out) hb); have n5_ := Aside0.mk (below_step (by repeat (first | (with_reducible first | exact HB.out | apply below_alloc | apply pw_below_drewN | apply below_drew1 | refine below_set ?_ GE246.out | refine below_set ?_ GE247.out | refine below_set ?_ GE255.out) | exact HB.out)) hb); clear HO253; clear BK246; clear BK247; clear BK255; clear HB; have HO253 := n0_; have HO259 := n1_; have BK246 := n2_; have BK247 := n3_; have BK255 := n4_; have HB := n5_; clear n0_ n1_ n2_ n3_ n4_ n5_; (try clear hb); (try clear hb2); (try clear hk); (try clear hi); (try clear ho0)) | ((with_reducible refine gate_dst (N := 9) rfl ?_); refine box_event ?hg (N := 9) ?hd (cs := #[.int .i64 0, .slice none 0 0]) (t := 26) ?hr ?_; (case hd => rfl); (case hg => rfl); (case hr => first | (go_simp; done) | (go_simp; rfl)); intro gb261 hg w27 hbox hb; have n0_ := Aside0.mk (MR_below (by (with_reducible repeat (first | apply MR_alloc | apply MR_drewN | apply MR_drew)); exact HO253.out) hb); have n1_ := Aside0.mk (MR_below (by (with_reducible repeat (first | apply MR_alloc | apply MR_drewN | apply MR_drew)); exact HO259.out) hb); have n2_ := Aside0.mk (blk_below (g := gb246) (o := .cells #[.int .i64 a1_0, .int .i64 a1_1, .int .i64 a1_2, .int .i64 a1_3] 23 (0, 0)) (by (with_reducible repeat (first | refine blk_drewN ?_ _ | refine blk_drew ?_ | refine blk_alloc ?_ _)); exact BK246.out) hb); have n3_ := Aside0.mk (blk_below (g := gb247) (o := .cells #[.int .i64 a2_0, .slice A2_1 l2_1.length c2_1] 26 (0, 0)) (by (with_reducible repeat (first | refine blk_drewN ?_ _ | refine blk_drew ?_ | refine blk_alloc ?_ _)); exact BK247.out) hb); have n4_ := Aside0.mk (blk_below (g := gb255) (o := .cells #[.int .i64 t250, .slice Ao25 t251.length co25] 26 (0, 0)) (by (with_reducible repeat (first | refine blk_drewN ?_ _ | refine blk_drew ?_ | refine blk_alloc ?_ _)); exact BK255.out) hb); have n5_ := Aside0.mk (below_step (by repeat (first | (with_reducible first | exact HB.out | apply below_alloc | apply pw_below_drewN | apply below_drew1 | refine below_set ?_ GE246.out | refine below_set ?_ GE247.out | refine below_set ?_ GE255.out) | exact HB.out)) hb); have n6_ := Aside0.mk (hbox); have n7_ := Aside0.mk ((by rw [hg]; exact (below_size (by repeat (first | (with_reducible first | exact HB.out | apply below_alloc | apply pw_below_drewN | apply below_drew1 | refine below_set ?_ GE246.out | refine below_set ?_ GE247.out | refine below_set ?_ GE255.out) | exact HB.out))) : w.heap.size ≤ gb261)); have n8_ := Aside0.mk ((by rw [hg]; exact (below_size (by repeat (first | (with_reducible first | exact HB.out | apply below_alloc | apply pw_below_drewN | apply below_drew1 | refine below_set ?_ GE246.out | refine below_set ?_ GE247.out | refine below_set ?_ GE255.out) | exact HB.out))) : w.heap.size ≤ gb261)); have n9_ := Aside0.mk ((by rw [hg]; exact Nat.ne_of_lt (blk_lt (g := gb246) (o := .cells #[.int .i64 a1_0, .int .i64 a1_1, .int .i64 a1_2, .int .i64 a1_3] 23 (0, 0)) (by (with_reducible repeat (first | refine blk_drewN ?_ _ | refine blk_drew ?_ | refine blk_alloc ?_ _)); exact BK246.out)) : gb246 ≠ gb261)); have n10_ := Aside0.mk ((by rw [hg]; exact Nat.ne_of_gt (blk_lt (g := gb246) (o := .cells #[.int .i64 a1_0, .int .i64 a1_1, .int .i64 a1_2, .int .i64 a1_3] 23 (0, 0)) (by (with_reducible repeat (first | refine blk_drewN ?_ _ | refine blk_drew ?_ | refine blk_alloc ?_ _)); exact BK246.out)) : gb261 ≠ gb246)); have n11_ := Aside0.mk ((by rw [hg]; exact Nat.ne_of_lt (blk_lt (g := gb247) (o := .cells #[.int .i64 a2_0, .slice A2_1 l2_1.length c2_1] 26 (0, 0)) (by (with_reducible repeat (first | refine blk_drewN ?_ _ | refine blk_drew ?_ | refine blk_alloc ?_ _)); exact BK247.out)) : gb247 ≠ gb261)); have n12_ := Aside0.mk ((by rw [hg]; exact Nat.ne_of_gt (blk_lt (g := gb247) (o := .cells #[.int .i64 a2_0, .slice A2_1 l2_1.length c2_1] 26 (0, 0)) (by (with_reducible repeat (first | refine blk_drewN ?_ _ | refine blk_drew ?_ | refine blk_alloc ?_ _)); exact BK247.out)) : gb261 ≠ gb247)); have n13_ := Aside0.mk ((by rw [hg]; exact Nat.ne_of_lt (blk_lt (g := gb255) (o := .cells #[.int .i64 t250, .slice Ao25 t251.length co25] 26 (0, 0)) (by (with_reducible repeat (first | refine blk_drewN ?_ _ | refine blk_drew ?_ | refine blk_alloc ?_ _)); exact BK255.out)) : gb255 ≠ gb261)); have n14_ := Aside0.mk ((by rw [hg]; exact Nat.ne_of_gt (blk_lt (g := gb255) (o := .cells #[.int .i64 t250, .slice Ao25 t251.length co25] 26 (0, 0)) (by (with_reducible repeat (first | refine blk_drewN ?_ _ | refine blk_drew ?_ | refine blk_alloc ?_ _)); exact BK255.out)) : gb261 ≠ gb255)); clear HO253; clear HO259; clear BK246; clear BK247; clear BK255; clear HB; have HO253 := n0_; have HO259 := n1_; have BK246 := n2_; have BK247 := n3_; have BK255 := n4_; have HB := n5_; have BK261 := n6_; have GW261 := n7_; have GE261 := n8_; have NB246_261 := n9_; have NB261_246 := n10_; have NB247_261 := n11_; have NB261_247 := n12_; have NB255_261 := n13_; have NB261_255 := n14_; clear n0_ n1_ n2_ n3_ n4_ n5_ n6_ n7_ n8_ n9_ n10_ n11_ n12_ n13_ n14_; clear hb hbox hg; have hnb28 := NB261_246.out; have hnc28 := NB246_261.out; have hnb29 := NB261_247.out; have hnc29 := NB247_261.out; have hnb30 := NB261_255.out; have hnc30 := NB255_261.out; have hcz31_0 : w27.cell? ⟨gb261, 0, none⟩ = some (.int .i64 0) := (blk_cell BK261.out 0).trans rfl; have hcz31_1 : w27.cell? ⟨gb261, 1, none⟩ = some (.slice none 0 0) := (blk_cell BK261.out 1).trans rfl; have hfz31_0 := blk_frozen BK261.out 0; have hfz31_1 := blk_frozen BK261.out 1; obtain ⟨Ao32, co32, eo32⟩ := MR_slice HO259.out; subst eo32; have hnb33 := NB247_246.out; have hnc33 := NB246_247.out; have hcz34_0 : w27.cell? ⟨gb247, 0, none⟩ = some (.int .i64 a2_0) := (blk_cell BK247.out 0).trans rfl; have hcz34_1 : w27.cell? ⟨gb247, 1, none⟩ = some (.slice A2_1 l2_1.length c2_1) := (blk_cell BK247.out 1).trans rfl; have hfz34_0 := blk_frozen BK247.out 0; have hfz34_1 := blk_frozen BK247.out 1) | ((with_reducible refine gate_callee (f := 15) rfl ?_); refine goesL_ (some 45) rfl rfl Try.func15 (by kernel_rfl) rfl #[.agg #[.int .i64 a2_0, .slice A2_1 l2_1.length c2_1]] rfl (by (try simp only [List.map_toArray, List.map_cons, List.map_nil]); first | done | rfl | (simp only [List.length_drop, List.length_take]; rfl)) ?_; (with_reducible refine (headseg_ParseComment.calls a2_0 _ _ l2_1 t262 t263 _ ?side1 ?side2 A17.out).mono ?_); (case side1 => exact Kd.C_below HR2_1.out (by repeat (first | (with_reducible first | exact HB.out | apply below_alloc | apply pw_below_drewN | apply below_drew1 | refine below_set ?_ GE246.out | refine below_set ?_ GE247.out | refine below_set ?_ GE255.out | refine below_set ?_ GE261.out) | exact HB.out))); (case side2 => exact HC2_1.out); rintro e w35 ⟨rfl, hb⟩; refine ⟨_, rfl, ?_⟩; have n0_ := Aside0.mk (MR_below (by (with_reducible repeat (first | apply MR_alloc | apply MR_drewN | apply MR_drew)); exact (MR_mono (MR_far (p := ⟨gb261, 1, none⟩) (MR_far (p := ⟨gb261, 0, none⟩) (MR_types HO253.out BK261.out (by decide)) (fun _ hk => hk.2) (.int .i64 t256)) (fun _ hk => hk.2) (.slice Ao32 t257.length co32)) (fun _ h_ => h_.1))) hb); have n1_ := Aside0.mk (MR_below (by (with_reducible repeat (first | apply MR_alloc | apply MR_drewN | apply MR_drew)); exact (MR_mono (MR_far (p := ⟨gb261, 1, none⟩) (MR_far (p := ⟨gb261, 0, none⟩) (MR_types HO259.out BK261.out (by decide)) (fun _ hk => hk.2) (.int .i64 t256)) (fun _ hk => hk.2) (.slice Ao32 t257.length co32)) (fun _ h_ => h_.1))) hb); have n2_ := Aside0.mk (blk_below (g := gb246) (o := .cells #[.int .i64 a1_0, .int .i64 a1_1, .int .i64 a1_2, .int .i64 a1_3] 23 (0, 0)) (by (with_reducible repeat (first | refine blk_drewN ?_ _ | refine blk_drew ?_ | refine blk_alloc ?_ _)); refine blk_far ?_ NB246_261.out _; (with_reducible repeat (first | refine blk_drewN ?_ _ | refine blk_drew ?_ | refine blk_alloc ?_ _)); refine blk_far ?_ NB246_261.out _; (with_reducible repeat (first | refine blk_drewN ?_ _ | refine blk_drew ?_ | refine blk_alloc ?_ _)); exact BK246.out) hb); have n3_ := Aside0.mk (blk_below (g := gb247) (o := .cells #[.int .i64 a2_0, .slice A2_1 l2_1.length c2_1] 26 (0, 0)) (by (with_reducible repeat (first | refine blk_drewN ?_ _ | refine blk_drew ?_ | refine blk_alloc ?_ _)); refine blk_far ?_ NB247_261.out _; (with_reducible repeat (first | refine blk_drewN ?_ _ | refine blk_drew ?_ | refine blk_alloc ?_ _)); refine blk_far ?_ NB247_261.out _; (with_reducible repeat (first | refine blk_drewN ?_ _ | refine blk_drew ?_ | refine blk_alloc ?_ _)); exact BK247.out) hb); have n4_ := Aside0.mk (blk_below (g := gb255) (o := .cells #[.int .i64 t250, .slice Ao25 t251.length co25] 26 (0, 0)) (by (with_reducible repeat (first | refine blk_drewN ?_ _ | refine blk_drew ?_ | refine blk_alloc ?_ _)); refine blk_far ?_ NB255_261.out _; (with_reducible repeat (first | refine blk_drewN ?_ _ | refine blk_drew ?_ | refine blk_alloc ?_ _)); refine blk_far ?_ NB255_261.out _; (with_reducible repeat (first | refine blk_drewN ?_ _ | refine blk_drew ?_ | refine blk_alloc ?_ _)); exact BK255.out) hb); have n5_ := Aside0.mk (blk_below (g := gb261) (o := .cells #[.int .i64 t256, .slice Ao32 t257.length co32] 26 (0, 0)) (by (with_reducible repeat (first | refine blk_drewN ?_ _ | refine blk_drew ?_ | refine blk_alloc ?_ _)); refine blk_put (cs := #[.int .i64 t256, .slice none 0 0]) ?_ 1 _ rfl; (with_reducible repeat (first | refine blk_drewN ?_ _ | refine blk_drew ?_ | refine blk_alloc ?_ _)); refine blk_put (cs := #[.int .i64 0, .slice none 0 0]) ?_ 0 _ rfl; (with_reducible repeat (first | refine blk_drewN ?_ _ | refine blk_drew ?_ | refine blk_alloc ?_ _)); exact BK261.out) hb); have n6_ := Aside0.mk (below_step (by repeat (first | (with_reducible first | exact HB.out | apply below_alloc | apply pw_below_drewN | apply below_drew1 | refine below_set ?_ GE246.out | refine below_set ?_ GE247.out | refine below_set ?_ GE255.out | refine below_set ?_ GE261.out) | exact HB.out)) hb); clear HO253; clear HO259; clear BK246; clear BK247; clear BK255; clear BK261; clear HB; have HO253 := n0_; have HO259 := n1_; have BK246 := n2_; have BK247 := n3_; have BK255 := n4_; have BK261 := n5_; have HB := n6_; clear n0_ n1_ n2_ n3_ n4_ n5_ n6_; (try clear hb); (try clear hb2); (try clear hk); (try clear hi); have hcz36_0 : w35.cell? ⟨gb247, 0, none⟩ = some (.int .i64 a2_0) := (blk_cell BK247.out 0).trans rfl; have hcz36_1 : w35.cell? ⟨gb247, 1, none⟩ = some (.slice A2_1 l2_1.length c2_1) := (blk_cell BK247.out 1).trans rfl; have hfz36_0 := blk_frozen BK247.out 0; have hfz36_1 := blk_frozen BK247.out 1) | ((with_reducible refine gate_callee (f := 16) rfl ?_); refine goesL_ (some 50) rfl rfl Try.func16 (by kernel_rfl) rfl #[.agg #[.int .i64 a2_0, .slice A2_1 l2_1.length c2_1]] rfl (by (try simp only [List.map_toArray, List.map_cons, List.map_nil]); first | done | rfl | (simp only [List.length_drop, List.length_take]; rfl)) ?_; (with_reducible refine (waveletref29_ParseComment.calls a2_0 _ _ l2_1 t264 t265 _ ?side1 ?side2 A18.out).mono ?_); (case side1 => repeat (first | exact (Kd.C_below HR2_1.out HB.out) | (with_reducible refine Kd.C_alloc ?_ _) | (with_reducible refine Kd.C_drewN ?_ _) | (with_reducible refine Kd.C_drew ?_))); (case side2 => exact HC2_1.out); rintro e w37 ⟨rfl, hb⟩; refine ⟨_, rfl, ?_⟩; have n0_ := Aside0.mk (MR_below (by (with_reducible repeat (first | apply MR_alloc | apply MR_drewN | apply MR_drew)); exact HO253.out) hb); have n1_ := Aside0.mk (MR_below (by (with_reducible repeat (first | apply MR_alloc | apply MR_drewN | apply MR_drew)); exact HO259.out) hb); have n2_ := Aside0.mk (blk_below (g := gb246) (o := .cells #[.int .i64 a1_0, .int .i64 a1_1, .int .i64 a1_2, .int .i64 a1_3] 23 (0, 0)) (by (with_reducible repeat (first | refine blk_drewN ?_ _ | refine blk_drew ?_ | refine blk_alloc ?_ _)); exact BK246.out) hb); have n3_ := Aside0.mk (blk_below (g := gb247) (o := .cells #[.int .i64 a2_0, .slice A2_1 l2_1.length c2_1] 26 (0, 0)) (by (with_reducible repeat (first | refine blk_drewN ?_ _ | refine blk_drew ?_ | refine blk_alloc ?_ _)); exact BK247.out) hb); have n4_ := Aside0.mk (blk_below (g := gb255) (o := .cells #[.int .i64 t250, .slice Ao25 t251.length co25] 26 (0, 0)) (by (with_reducible repeat (first | refine blk_drewN ?_ _ | refine blk_drew ?_ | refine blk_alloc ?_ _)); exact BK255.out) hb); have n5_ := Aside0.mk (blk_below (g := gb261) (o := .cells #[.int .i64 t256, .slice Ao32 t257.length co32] 26 (0, 0)) (by (with_reducible repeat (first | refine blk_drewN ?_ _ | refine blk_drew ?_ | refine blk_alloc ?_ _)); exact BK261.out) hb); have n6_ := Aside0.mk (below_step (by repeat (first | (with_reducible first | exact HB.out | apply below_alloc | apply pw_below_drewN | apply below_drew1 | refine below_set ?_ GE246.out | refine below_set ?_ GE247.out | refine below_set ?_ GE255.out | refine below_set ?_ GE261.out) | exact HB.out)) hb); clear HO253; clear HO259; clear BK246; clear BK247; clear BK255; clear BK261; clear HB; have HO253 := n0_; have HO259 := n1_; have BK246 := n2_; have BK247 := n3_; have BK255 := n4_; have BK261 := n5_; have HB := n6_; clear n0_ n1_ n2_ n3_ n4_ n5_ n6_; (try clear hb); (try clear hb2); (try clear hk); (try clear hi)))
        (try simp only [Act.put, List.setIfInBounds_toArray, List.set_cons_zero, List.set_cons_succ])
        go_cut [71] (fun v71 wc => ∃ (kq : Nat) (x71_18 : Bool), v71 = .bool x71_18 ∧ Aside0 (waveletlaw29_HeadsegTiles.j1 kq x71_18 a1_0 a1_1 a1_2 a1_3 a2_0 l2_1 = some r) ∧ Aside0 (kq ≤ kj3) ∧ Aside0 (MR wc w.heap.size (fun k_ => some k_ ≠ ((.slice Ao32 t257.length co32) : Value).ownBlock) (.slice Ao25 t251.length co25) t251) ∧ Aside0 (MR wc w.heap.size (fun k_ => some k_ ≠ ((.slice Ao25 t251.length co25) : Value).ownBlock) (.slice Ao32 t257.length co32) t257) ∧ Aside0 (wc.heap[gb246]? = some (.cells #[.int .i64 a1_0, .int .i64 a1_1, .int .i64 a1_2, .int .i64 a1_3] 23 (0, 0))) ∧ Aside0 (wc.heap[gb247]? = some (.cells #[.int .i64 a2_0, (.slice A2_1 l2_1.length c2_1)] 26 (0, 0))) ∧ Aside0 (wc.heap[gb255]? = some (.cells #[.int .i64 t250, (.slice Ao25 t251.length co25)] 26 (0, 0))) ∧ Aside0 (wc.heap[gb261]? = some (.cells #[.int .i64 t256, (.slice Ao32 t257.length co32)] 26 (0, 0))) ∧ Aside0 (Below w.heap.size w wc))
        case first =>
          have H := HC19.out
          clear HC19
          replace H := Option.bind_eq_some_iff.mp H
          obtain ⟨t266, A380, H⟩ := H
          replace H : (if t266 = true then (if t254 = t260 then (if t262.toList = t264.toList then (waveletlaw29_HeadsegTiles.j1 kj3 (t263 != t265) a1_0 a1_1 a1_2 a1_3 a2_0 l2_1) else (waveletlaw29_HeadsegTiles.j1 kj3 true a1_0 a1_1 a1_2 a1_3 a2_0 l2_1)) else (waveletlaw29_HeadsegTiles.j1 kj3 true a1_0 a1_1 a1_2 a1_3 a2_0 l2_1)) else (waveletlaw29_HeadsegTiles.j1 kj3 true a1_0 a1_1 a1_2 a1_3 a2_0 l2_1)) = some r := H
          have A38 := Aside0.mk A380
          clear A380
          by_cases c39 : t266 = true
          · subst c39
            have H1 : (if t254 = t260 then (if t262.toList = t264.toList then (waveletlaw29_HeadsegTiles.j1 kj3 (t263 != t265) a1_0 a1_1 a1_2 a1_3 a2_0 l2_1) else (waveletlaw29_HeadsegTiles.j1 kj3 true a1_0 a1_1 a1_2 a1_3 a2_0 l2_1)) else (waveletlaw29_HeadsegTiles.j1 kj3 true a1_0 a1_1 a1_2 a1_3 a2_0 l2_1)) = some r := by rw [if_pos rfl] at H; exact H
            clear H
            have H := H1
            clear H1
            by_cases c40 : t254 = t260
            · rw [if_pos c40] at H
              have c40b0 : (t254 == t260) = true := beq_iff_eq.mpr c40
              have c40b1 : (t254 != t260) = false := bne_eq_false_iff_eq.mpr c40
              clear c40
              (first | rw [c40b0] | (simp only [i64_w, i32_w]; rw [c40b0]) | skip)
              by_cases c41 : t262.toList = t264.toList
              · rw [if_pos c41] at H
                have c41b0 : (t262.toList == t264.toList) = true := beq_iff_eq.mpr c41
                have c41b1 : (t262.toList != t264.toList) = false := bne_eq_false_iff_eq.mpr c41
                clear c41
                have H' := Aside0.mk H
                clear H
                have hnb42 := NB255_246.out
                have hnc42 := NB246_255.out
                have hnb43 := NB255_247.out
                have hnc43 := NB247_255.out
                have hnb44 := NB255_261.out
                have hnc44 := NB261_255.out
                have hcz45_0 : w37.cell? ⟨gb255, 0, none⟩ = some (.int .i64 t250) := (blk_cell BK255.out 0).trans rfl
                have hcz45_1 : w37.cell? ⟨gb255, 1, none⟩ = some (.slice Ao25 t251.length co25) := (blk_cell BK255.out 1).trans rfl
                have hfz45_0 := blk_frozen BK255.out 0
                have hfz45_1 := blk_frozen BK255.out 1
                have hnb46 := NB261_246.out
                have hnc46 := NB246_261.out
                have hnb47 := NB261_247.out
                have hnc47 := NB247_261.out
                have hcz48_0 : w37.cell? ⟨gb261, 0, none⟩ = some (.int .i64 t256) := (blk_cell BK261.out 0).trans rfl
                have hcz48_1 : w37.cell? ⟨gb261, 1, none⟩ = some (.slice Ao32 t257.length co32) := (blk_cell BK261.out 1).trans rfl
                have hfz48_0 := blk_frozen BK261.out 0
                have hfz48_1 := blk_frozen BK261.out 1
                go_wp2_with (first | ((with_reducible refine gate_callee (f := 17) rfl ?_); refine goesL_ (some 55) rfl rfl Try.func17 (by kernel_rfl) rfl #[.agg #[.int .i64 t250, .slice Ao25 t251.length co25], .agg #[.int .i64 t256, .slice Ao32 t257.length co32]] rfl (by (try simp only [List.map_toArray, List.map_cons, List.map_nil]); first | done | rfl | (simp only [List.length_drop, List.length_take]; rfl)) ?_; (with_reducible refine (waveletlaw29_sameSegment.calls kj3 t250 _ _ t251 t256 _ _ t257 true _ ?side1 ?side2 ?side3 ?side4 A38.out).mono ?_); (case side1 => repeat (first | exact (MR_reads' HO253.out).2.2 | (with_reducible refine Kd.C_alloc ?_ _) | (with_reducible refine Kd.C_drewN ?_ _) | (with_reducible refine Kd.C_drew ?_))); (case side2 => exact (MR_reads' HO253.out).2.1); (case side3 => repeat (first | exact (MR_reads' HO259.out).2.2 | (with_reducible refine Kd.C_alloc ?_ _) | (with_reducible refine Kd.C_drewN ?_ _) | (with_reducible refine Kd.C_drew ?_))); (case side4 => exact (MR_reads' HO259.out).2.1); rintro e w49 ⟨rfl, hb⟩; refine ⟨_, rfl, ?_⟩; have n0_ := Aside0.mk (MR_below (by (with_reducible repeat (first | apply MR_alloc | apply MR_drewN | apply MR_drew)); exact HO253.out) hb); have n1_ := Aside0.mk (MR_below (by (with_reducible repeat (first | apply MR_alloc | apply MR_drewN | apply MR_drew)); exact HO259.out) hb); have n2_ := Aside0.mk (blk_below (g := gb246) (o := .cells #[.int .i64 a1_0, .int .i64 a1_1, .int .i64 a1_2, .int .i64 a1_3] 23 (0, 0)) (by (with_reducible repeat (first | refine blk_drewN ?_ _ | refine blk_drew ?_ | refine blk_alloc ?_ _)); exact BK246.out) hb); have n3_ := Aside0.mk (blk_below (g := gb247) (o := .cells #[.int .i64 a2_0, .slice A2_1 l2_1.length c2_1] 26 (0, 0)) (by (with_reducible repeat (first | refine blk_drewN ?_ _ | refine blk_drew ?_ | refine blk_alloc ?_ _)); exact BK247.out) hb); have n4_ := Aside0.mk (blk_below (g := gb255) (o := .cells #[.int .i64 t250, .slice Ao25 t251.length co25] 26 (0, 0)) (by (with_reducible repeat (first | refine blk_drewN ?_ _ | refine blk_drew ?_ | refine blk_alloc ?_ _)); exact BK255.out) hb); have n5_ := Aside0.mk (blk_below (g := gb261) (o := .cells #[.int .i64 t256, .slice Ao32 t257.length co32] 26 (0, 0)) (by (with_reducible repeat (first | refine blk_drewN ?_ _ | refine blk_drew ?_ | refine blk_alloc ?_ _)); exact BK261.out) hb); have n6_ := Aside0.mk (below_step (by repeat (first | (with_reducible first | exact HB.out | apply below_alloc | apply pw_below_drewN | apply below_drew1 | refine below_set ?_ GE246.out | refine below_set ?_ GE247.out | refine below_set ?_ GE255.out | refine below_set ?_ GE261.out) | exact HB.out)) hb); clear HO253; clear HO259; clear BK246; clear BK247; clear BK255; clear BK261; clear HB; have HO253 := n0_; have HO259 := n1_; have BK246 := n2_; have BK247 := n3_; have BK255 := n4_; have BK261 := n5_; have HB := n6_; clear n0_ n1_ n2_ n3_ n4_ n5_ n6_; (try clear hb); (try clear hb2); (try clear hk); (try clear hi)))
                go_meet
                case rel => exact ⟨_, ((t263 != t265)), (by first | rfl | (simp; done) | (simp [*]; done)), H', ⟨by have := HJ3.out; first | omega | exact Nat.le_refl _⟩, ⟨by (with_reducible repeat (first | apply MR_alloc | apply MR_drewN | apply MR_drew)); exact MR_mono HO253.out (fun _ hk => hk.2)⟩, ⟨by (with_reducible repeat (first | apply MR_alloc | apply MR_drewN | apply MR_drew)); exact MR_mono HO259.out (fun _ hk => hk.2)⟩, ⟨by (with_reducible repeat (first | refine blk_drewN ?_ _ | refine blk_drew ?_ | refine blk_alloc ?_ _)); exact BK246.out⟩, ⟨by (with_reducible repeat (first | refine blk_drewN ?_ _ | refine blk_drew ?_ | refine blk_alloc ?_ _)); exact BK247.out⟩, ⟨by (with_reducible repeat (first | refine blk_drewN ?_ _ | refine blk_drew ?_ | refine blk_alloc ?_ _)); exact BK255.out⟩, ⟨by (with_reducible repeat (first | refine blk_drewN ?_ _ | refine blk_drew ?_ | refine blk_alloc ?_ _)); exact BK261.out⟩, ⟨by repeat (first | (with_reducible first | exact HB.out | apply below_alloc | apply pw_below_drewN | apply below_drew1 | refine below_set ?_ GE246.out | refine below_set ?_ GE247.out | refine below_set ?_ GE255.out | refine below_set ?_ GE261.out) | exact HB.out)⟩⟩
              · rw [if_neg c41] at H
                exact absurd H (by rw [hr_]; cases kj3 <;> simp [waveletlaw29_HeadsegTiles.j1])
            · rw [if_neg c40] at H
              exact absurd H (by rw [hr_]; cases kj3 <;> simp [waveletlaw29_HeadsegTiles.j1])
          · replace c39 := Bool.eq_false_iff.mpr c39
            subst c39
            have H1 : (waveletlaw29_HeadsegTiles.j1 kj3 true a1_0 a1_1 a1_2 a1_3 a2_0 l2_1) = some r := by rw [if_neg (show ¬ (false = true) by decide)] at H; exact H
            exact absurd H1 (by rw [hr_]; cases kj3 <;> simp [waveletlaw29_HeadsegTiles.j1])
        case rest =>
          clear HC19
          try clear c1
          try clear c2
          try clear p2
          try clear c3
          try clear c4
          try clear c5
          try clear c6
          try clear c7
          try clear c7b0
          try clear c7b1
          try clear c9
          try clear c12
          try clear c13
          try clear c14
          try clear c15
          try clear c16
          try clear c17
          try clear c22
          try clear c23
          try clear c28
          try clear c29
          try clear c30
          try clear c33
          try clear c39
          try clear c40
          try clear c40b0
          try clear c40b1
          try clear c41
          try clear c41b0
          try clear c41b1
          try clear c42
          try clear c43
          try clear c44
          try clear c46
          try clear c47
          try clear c50
          try clear c51
          try clear c52
          try clear c54
          try clear c55
          try clear c58
          try clear c59
          try clear c60
          try clear c62
          try clear c63
          try clear c66
          try clear c67
          try clear c68
          try clear c70
          try clear c71
          try clear hcz10_0
          try clear hcz10_1
          try clear hcz24_0
          try clear hcz24_1
          try clear hcz31_0
          try clear hcz31_1
          try clear hcz34_0
          try clear hcz34_1
          try clear hcz36_0
          try clear hcz36_1
          try clear hcz45_0
          try clear hcz45_1
          try clear hcz48_0
          try clear hcz48_1
          try clear hcz53_0
          try clear hcz53_1
          try clear hcz56_0
          try clear hcz56_1
          try clear hcz61_0
          try clear hcz61_1
          try clear hcz64_0
          try clear hcz64_1
          try clear hcz69_0
          try clear hcz69_1
          try clear hcz72_0
          try clear hcz72_1
          try clear hfz10_0
          try clear hfz10_1
          try clear hfz24_0
          try clear hfz24_1
          try clear hfz31_0
          try clear hfz31_1
          try clear hfz34_0
          try clear hfz34_1
          try clear hfz36_0
          try clear hfz36_1
          try clear hfz45_0
          try clear hfz45_1
          try clear hfz48_0
          try clear hfz48_1
          try clear hfz53_0
          try clear hfz53_1
          try clear hfz56_0
          try clear hfz56_1
          try clear hfz61_0
          try clear hfz61_1
          try clear hfz64_0
          try clear hfz64_1
          try clear hfz69_0
          try clear hfz69_1
          try clear hfz72_0
          try clear hfz72_1
          try clear p2
          obtain ⟨kq, x71_18, rfl, HA, HJ18, HO_256001, HO_262001, BK246, BK247, BK255, BK261, HB⟩ := hcut
          cases kq with
          | zero => exact absurd HA.out (by simp [waveletlaw29_HeadsegTiles.j1])
          | succ kj18 =>
            have H := HA.out
            clear HA
            simp only [waveletlaw29_HeadsegTiles.j1] at H
            by_cases c74 : x71_18 = true
            · subst c74
              have H1 : (some false) = some r := by rw [if_pos rfl] at H; exact H
              exact absurd (Option.some.inj H1) (by rw [hr_]; decide)
            · replace c74 := Bool.eq_false_iff.mpr c74
              subst c74
              have H1 : ((headseg_Tile.f kj18 a1_0 a1_1 a1_2 a1_3).bind fun bt267 => ((waveletref29_Tile.f kj18 a1_0 a1_1 a1_2 a1_3).bind fun bt272 => ((headseg_ParseTile.f kj18 a2_0 l2_1).bind fun bt277 => ((waveletref29_ParseTile.f kj18 a2_0 l2_1).bind fun bt282 => ((waveletlaw29_sameSegment.f kj18 bt267.1 bt267.2.1 bt272.1 bt272.2.1).bind fun t287 => (if t287 = true then (if bt267.2.2 = bt272.2.2 then (if bt277.1 = bt282.1 then (if bt277.2.1 = bt282.2.1 then (if bt277.2.2.1 = bt282.2.2.1 then (if bt277.2.2.2.1 = bt282.2.2.2.1 then (if bt277.2.2.2.2 = bt282.2.2.2.2 then ((waveletlaw29_awake.f kj18).bind fun t288 => (some t288)) else (some false)) else (some false)) else (some false)) else (some false)) else (some false)) else (some false)) else (some false))))))) = some r := by rw [if_neg (show ¬ (false = true) by decide)] at H; exact H
              clear H
              have H := H1
              clear H1
              replace H := Option.bind_eq_some_iff.mp H
              obtain ⟨⟨t267, t268, t271⟩, A750, H⟩ := H
              replace H : ((waveletref29_Tile.f kj18 a1_0 a1_1 a1_2 a1_3).bind fun bt272 => ((headseg_ParseTile.f kj18 a2_0 l2_1).bind fun bt277 => ((waveletref29_ParseTile.f kj18 a2_0 l2_1).bind fun bt282 => ((waveletlaw29_sameSegment.f kj18 t267 t268 bt272.1 bt272.2.1).bind fun t287 => (if t287 = true then (if t271 = bt272.2.2 then (if bt277.1 = bt282.1 then (if bt277.2.1 = bt282.2.1 then (if bt277.2.2.1 = bt282.2.2.1 then (if bt277.2.2.2.1 = bt282.2.2.2.1 then (if bt277.2.2.2.2 = bt282.2.2.2.2 then ((waveletlaw29_awake.f kj18).bind fun t288 => (some t288)) else (some false)) else (some false)) else (some false)) else (some false)) else (some false)) else (some false)) else (some false)))))) = some r := H
              have A75 := Aside0.mk A750
              clear A750
              replace H := Option.bind_eq_some_iff.mp H
              obtain ⟨⟨t272, t273, t276⟩, A760, H⟩ := H
              replace H : ((headseg_ParseTile.f kj18 a2_0 l2_1).bind fun bt277 => ((waveletref29_ParseTile.f kj18 a2_0 l2_1).bind fun bt282 => ((waveletlaw29_sameSegment.f kj18 t267 t268 t272 t273).bind fun t287 => (if t287 = true then (if t271 = t276 then (if bt277.1 = bt282.1 then (if bt277.2.1 = bt282.2.1 then (if bt277.2.2.1 = bt282.2.2.1 then (if bt277.2.2.2.1 = bt282.2.2.2.1 then (if bt277.2.2.2.2 = bt282.2.2.2.2 then ((waveletlaw29_awake.f kj18).bind fun t288 => (some t288)) else (some false)) else (some false)) else (some false)) else (some false)) else (some false)) else (some false)) else (some false))))) = some r := H
              have A76 := Aside0.mk A760
              clear A760
              replace H := Option.bind_eq_some_iff.mp H
              obtain ⟨⟨t277, t278, t279, t280, t281⟩, A770, H⟩ := H
              replace H : ((waveletref29_ParseTile.f kj18 a2_0 l2_1).bind fun bt282 => ((waveletlaw29_sameSegment.f kj18 t267 t268 t272 t273).bind fun t287 => (if t287 = true then (if t271 = t276 then (if t277 = bt282.1 then (if t278 = bt282.2.1 then (if t279 = bt282.2.2.1 then (if t280 = bt282.2.2.2.1 then (if t281 = bt282.2.2.2.2 then ((waveletlaw29_awake.f kj18).bind fun t288 => (some t288)) else (some false)) else (some false)) else (some false)) else (some false)) else (some false)) else (some false)) else (some false)))) = some r := H
              have A77 := Aside0.mk A770
              clear A770
              replace H := Option.bind_eq_some_iff.mp H
              obtain ⟨⟨t282, t283, t284, t285, t286⟩, A780, H⟩ := H
              replace H : ((waveletlaw29_sameSegment.f kj18 t267 t268 t272 t273).bind fun t287 => (if t287 = true then (if t271 = t276 then (if t277 = t282 then (if t278 = t283 then (if t279 = t284 then (if t280 = t285 then (if t281 = t286 then ((waveletlaw29_awake.f kj18).bind fun t288 => (some t288)) else (some false)) else (some false)) else (some false)) else (some false)) else (some false)) else (some false)) else (some false))) = some r := H
              have A78 := Aside0.mk A780
              clear A780
              replace H := Option.bind_eq_some_iff.mp H
              obtain ⟨t287, A790, H⟩ := H
              replace H : (if t287 = true then (if t271 = t276 then (if t277 = t282 then (if t278 = t283 then (if t279 = t284 then (if t280 = t285 then (if t281 = t286 then ((waveletlaw29_awake.f kj18).bind fun t288 => (some t288)) else (some false)) else (some false)) else (some false)) else (some false)) else (some false)) else (some false)) else (some false)) = some r := H
              have A79 := Aside0.mk A790
              clear A790
              by_cases c80 : t287 = true
              · subst c80
                have H1 : (if t271 = t276 then (if t277 = t282 then (if t278 = t283 then (if t279 = t284 then (if t280 = t285 then (if t281 = t286 then ((waveletlaw29_awake.f kj18).bind fun t288 => (some t288)) else (some false)) else (some false)) else (some false)) else (some false)) else (some false)) else (some false)) = some r := by rw [if_pos rfl] at H; exact H
                clear H
                have H := H1
                clear H1
                by_cases c81 : t271 = t276
                · rw [if_pos c81] at H
                  have c81b0 : (t271 == t276) = true := beq_iff_eq.mpr c81
                  have c81b1 : (t271 != t276) = false := bne_eq_false_iff_eq.mpr c81
                  clear c81
                  by_cases c82 : t277 = t282
                  · rw [if_pos c82] at H
                    have c82b0 : (t277 == t282) = true := beq_iff_eq.mpr c82
                    have c82b1 : (t277 != t282) = false := bne_eq_false_iff_eq.mpr c82
                    clear c82
                    by_cases c83 : t278 = t283
                    · rw [if_pos c83] at H
                      have c83b0 : (t278 == t283) = true := beq_iff_eq.mpr c83
                      have c83b1 : (t278 != t283) = false := bne_eq_false_iff_eq.mpr c83
                      clear c83
                      by_cases c84 : t279 = t284
                      · rw [if_pos c84] at H
                        have c84b0 : (t279 == t284) = true := beq_iff_eq.mpr c84
                        have c84b1 : (t279 != t284) = false := bne_eq_false_iff_eq.mpr c84
                        clear c84
                        by_cases c85 : t280 = t285
                        · rw [if_pos c85] at H
                          have c85b0 : (t280 == t285) = true := beq_iff_eq.mpr c85
                          have c85b1 : (t280 != t285) = false := bne_eq_false_iff_eq.mpr c85
                          clear c85
                          by_cases c86 : t281 = t286
                          · rw [if_pos c86] at H
                            have c86b0 : (t281 == t286) = true := beq_iff_eq.mpr c86
                            have c86b1 : (t281 != t286) = false := bne_eq_false_iff_eq.mpr c86
                            clear c86
                            replace H := Option.bind_eq_some_iff.mp H
                            obtain ⟨t288, A870, H⟩ := H
                            replace H : (some t288) = some r := H
                            have A87 := Aside0.mk A870
                            clear A870
                            obtain rfl := Option.some.inj H
                            have hnb88 := NB246_247.out
                            have hnc88 := NB247_246.out
                            have hnb89 := NB246_255.out
                            have hnc89 := NB255_246.out
                            have hnb90 := NB246_261.out
                            have hnc90 := NB261_246.out
                            have hcz91_0 : wc.cell? ⟨gb246, 0, none⟩ = some (.int .i64 a1_0) := (blk_cell BK246.out 0).trans rfl
                            have hcz91_1 : wc.cell? ⟨gb246, 1, none⟩ = some (.int .i64 a1_1) := (blk_cell BK246.out 1).trans rfl
                            have hcz91_2 : wc.cell? ⟨gb246, 2, none⟩ = some (.int .i64 a1_2) := (blk_cell BK246.out 2).trans rfl
                            have hcz91_3 : wc.cell? ⟨gb246, 3, none⟩ = some (.int .i64 a1_3) := (blk_cell BK246.out 3).trans rfl
                            have hfz91_0 := blk_frozen BK246.out 0
                            have hfz91_1 := blk_frozen BK246.out 1
                            have hfz91_2 := blk_frozen BK246.out 2
                            have hfz91_3 := blk_frozen BK246.out 3
                            go_wp2_with (first | ((with_reducible refine gate_callee (f := 18) rfl ?_); refine goesL_ (some 81) rfl rfl Try.func18 (by kernel_rfl) rfl #[.int .i64 a1_0, .int .i64 a1_1, .int .i64 a1_2, .int .i64 a1_3] rfl (by (try simp only [List.map_toArray, List.map_cons, List.map_nil]); first | done | rfl | (simp only [List.length_drop, List.length_take]; rfl)) ?_; (with_reducible refine (headseg_Tile.calls kj18 a1_0 a1_1 a1_2 a1_3 t267 t268 t271 _ A75.out).mono ?_); rintro e w92 ⟨v269, rfl, ho0, hb⟩; refine ⟨_, rfl, ?_⟩; have n0_ := Aside0.mk (MR_elder' (by (with_reducible repeat (first | apply MR_alloc | apply MR_drewN | apply MR_drew)); exact HO_256001.out) (MR_base (MR_of ho0)) hb); have n1_ := Aside0.mk (MR_elder' (by (with_reducible repeat (first | apply MR_alloc | apply MR_drewN | apply MR_drew)); exact HO_262001.out) (MR_base (MR_of ho0)) hb); have n2_ := Aside0.mk (MR_lower (MR_new' (MR_new' (MR_of ho0) (MR_lt (by (with_reducible repeat (first | apply MR_alloc | apply MR_drewN | apply MR_drew)); exact HO_256001.out))) (MR_lt (by (with_reducible repeat (first | apply MR_alloc | apply MR_drewN | apply MR_drew)); exact HO_262001.out))) (below_size (by repeat (first | (with_reducible first | exact HB.out | apply below_alloc | apply pw_below_drewN | apply below_drew1 | refine below_set ?_ GE246.out | refine below_set ?_ GE247.out | refine below_set ?_ GE255.out | refine below_set ?_ GE261.out) | exact HB.out)))); have n3_ := Aside0.mk (blk_below (g := gb246) (o := .cells #[.int .i64 a1_0, .int .i64 a1_1, .int .i64 a1_2, .int .i64 a1_3] 23 (0, 0)) (by (with_reducible repeat (first | refine blk_drewN ?_ _ | refine blk_drew ?_ | refine blk_alloc ?_ _)); exact BK246.out) hb); have n4_ := Aside0.mk (blk_below (g := gb247) (o := .cells #[.int .i64 a2_0, .slice A2_1 l2_1.length c2_1] 26 (0, 0)) (by (with_reducible repeat (first | refine blk_drewN ?_ _ | refine blk_drew ?_ | refine blk_alloc ?_ _)); exact BK247.out) hb); have n5_ := Aside0.mk (blk_below (g := gb255) (o := .cells #[.int .i64 t250, .slice Ao25 t251.length co25] 26 (0, 0)) (by (with_reducible repeat (first | refine blk_drewN ?_ _ | refine blk_drew ?_ | refine blk_alloc ?_ _)); exact BK255.out) hb); have n6_ := Aside0.mk (blk_below (g := gb261) (o := .cells #[.int .i64 t256, .slice Ao32 t257.length co32] 26 (0, 0)) (by (with_reducible repeat (first | refine blk_drewN ?_ _ | refine blk_drew ?_ | refine blk_alloc ?_ _)); exact BK261.out) hb); have n7_ := Aside0.mk (below_step (by repeat (first | (with_reducible first | exact HB.out | apply below_alloc | apply pw_below_drewN | apply below_drew1 | refine below_set ?_ GE246.out | refine below_set ?_ GE247.out | refine below_set ?_ GE255.out | refine below_set ?_ GE261.out) | exact HB.out)) hb); clear HO_256001; clear HO_262001; clear BK246; clear BK247; clear BK255; clear BK261; clear HB; have HO_256001 := n0_; have HO_262001 := n1_; have HO270 := n2_; have BK246 := n3_; have BK247 := n4_; have BK255 := n5_; have BK261 := n6_; have HB := n7_; clear n0_ n1_ n2_ n3_ n4_ n5_ n6_ n7_; (try clear hb); (try clear hb2); (try clear hk); (try clear hi); (try clear ho0); have hnb93 := NB255_247.out; have hnc93 := NB247_255.out; have hnb94 := NB255_261.out; have hnc94 := NB261_255.out; have hcz95_0 : w92.cell? ⟨gb255, 0, none⟩ = some (.int .i64 t250) := (blk_cell BK255.out 0).trans rfl; have hcz95_1 : w92.cell? ⟨gb255, 1, none⟩ = some (.slice Ao25 t251.length co25) := (blk_cell BK255.out 1).trans rfl; have hfz95_0 := blk_frozen BK255.out 0; have hfz95_1 := blk_frozen BK255.out 1; obtain ⟨Ao96, co96, eo96⟩ := MR_slice HO270.out; subst eo96; have hcz97_0 : w92.cell? ⟨gb246, 0, none⟩ = some (.int .i64 a1_0) := (blk_cell BK246.out 0).trans rfl; have hcz97_1 : w92.cell? ⟨gb246, 1, none⟩ = some (.int .i64 a1_1) := (blk_cell BK246.out 1).trans rfl; have hcz97_2 : w92.cell? ⟨gb246, 2, none⟩ = some (.int .i64 a1_2) := (blk_cell BK246.out 2).trans rfl; have hcz97_3 : w92.cell? ⟨gb246, 3, none⟩ = some (.int .i64 a1_3) := (blk_cell BK246.out 3).trans rfl; have hfz97_0 := blk_frozen BK246.out 0; have hfz97_1 := blk_frozen BK246.out 1; have hfz97_2 := blk_frozen BK246.out 2; have hfz97_3 := blk_frozen BK246.out 3) | ((with_reducible refine gate_callee (f := 19) rfl ?_); refine goesL_ (some 93) rfl rfl Try.func19 (by kernel_rfl) rfl #[.int .i64 a1_0, .int .i64 a1_1, .int .i64 a1_2, .int .i64 a1_3] rfl (by (try simp only [List.map_toArray, List.map_cons, List.map_nil]); first | done | rfl | (simp only [List.length_drop, List.length_take]; rfl)) ?_; (with_reducible refine (waveletref29_Tile.calls kj18 a1_0 a1_1 a1_2 a1_3 t272 t273 t276 _ A76.out).mono ?_); rintro e w98 ⟨v274, rfl, ho0, hb⟩; refine ⟨_, rfl, ?_⟩; have n0_ := Aside0.mk (MR_elder' (by (with_reducible repeat (first | apply MR_alloc | apply MR_drewN | apply MR_drew)); exact (MR_mono (MR_far (p := ⟨gb255, 1, none⟩) (MR_far (p := ⟨gb255, 0, none⟩) (MR_types HO_256001.out BK255.out (by decide)) (fun _ hk => hk.2) (.int .i64 t267)) (fun _ hk => hk.2) (.slice Ao96 t268.length co96)) (fun _ h_ => h_.1))) (MR_base (MR_of ho0)) hb); have n1_ := Aside0.mk (MR_elder' (by (with_reducible repeat (first | apply MR_alloc | apply MR_drewN | apply MR_drew)); exact (MR_mono (MR_far (p := ⟨gb255, 1, none⟩) (MR_far (p := ⟨gb255, 0, none⟩) (MR_types HO_262001.out BK255.out (by decide)) (fun _ hk => hk.2) (.int .i64 t267)) (fun _ hk => hk.2) (.slice Ao96 t268.length co96)) (fun _ h_ => h_.1))) (MR_base (MR_of ho0)) hb); have n2_ := Aside0.mk (MR_elder' (by (with_reducible repeat (first | apply MR_alloc | apply MR_drewN | apply MR_drew)); exact (MR_mono (MR_far (p := ⟨gb255, 1, none⟩) (MR_far (p := ⟨gb255, 0, none⟩) (MR_types HO270.out BK255.out (by decide)) (fun _ hk => hk.2) (.int .i64 t267)) (fun _ hk => hk.2) (.slice Ao96 t268.length co96)) (fun _ h_ => h_.1))) (MR_base (MR_of ho0)) hb); have n3_ := Aside0.mk (MR_lower (MR_new' (MR_new' (MR_new' (MR_of ho0) (MR_lt (by (with_reducible repeat (first | apply MR_alloc | apply MR_drewN | apply MR_drew)); exact (MR_mono (MR_far (p := ⟨gb255, 1, none⟩) (MR_far (p := ⟨gb255, 0, none⟩) (MR_types HO_256001.out BK255.out (by decide)) (fun _ hk => hk.2) (.int .i64 t267)) (fun _ hk => hk.2) (.slice Ao96 t268.length co96)) (fun _ h_ => h_.1))))) (MR_lt (by (with_reducible repeat (first | apply MR_alloc | apply MR_drewN | apply MR_drew)); exact (MR_mono (MR_far (p := ⟨gb255, 1, none⟩) (MR_far (p := ⟨gb255, 0, none⟩) (MR_types HO_262001.out BK255.out (by decide)) (fun _ hk => hk.2) (.int .i64 t267)) (fun _ hk => hk.2) (.slice Ao96 t268.length co96)) (fun _ h_ => h_.1))))) (MR_lt (by (with_reducible repeat (first | apply MR_alloc | apply MR_drewN | apply MR_drew)); exact (MR_mono (MR_far (p := ⟨gb255, 1, none⟩) (MR_far (p := ⟨gb255, 0, none⟩) (MR_types HO270.out BK255.out (by decide)) (fun _ hk => hk.2) (.int .i64 t267)) (fun _ hk => hk.2) (.slice Ao96 t268.length co96)) (fun _ h_ => h_.1))))) (below_size (by repeat (first | (with_reducible first | exact HB.out | apply below_alloc | apply pw_below_drewN | apply below_drew1 | refine below_set ?_ GE246.out | refine below_set ?_ GE247.out | refine below_set ?_ GE255.out | refine below_set ?_ GE261.out) | exact HB.out)))); have n4_ := Aside0.mk (blk_below (g := gb246) (o := .cells #[.int .i64 a1_0, .int .i64 a1_1, .int .i64 a1_2, .int .i64 a1_3] 23 (0, 0)) (by (with_reducible repeat (first | refine blk_drewN ?_ _ | refine blk_drew ?_ | refine blk_alloc ?_ _)); refine blk_far ?_ NB246_255.out _; (with_reducible repeat (first | refine blk_drewN ?_ _ | refine blk_drew ?_ | refine blk_alloc ?_ _)); refine blk_far ?_ NB246_255.out _; (with_reducible repeat (first | refine blk_drewN ?_ _ | refine blk_drew ?_ | refine blk_alloc ?_ _)); exact BK246.out) hb); have n5_ := Aside0.mk (blk_below (g := gb247) (o := .cells #[.int .i64 a2_0, .slice A2_1 l2_1.length c2_1] 26 (0, 0)) (by (with_reducible repeat (first | refine blk_drewN ?_ _ | refine blk_drew ?_ | refine blk_alloc ?_ _)); refine blk_far ?_ NB247_255.out _; (with_reducible repeat (first | refine blk_drewN ?_ _ | refine blk_drew ?_ | refine blk_alloc ?_ _)); refine blk_far ?_ NB247_255.out _; (with_reducible repeat (first | refine blk_drewN ?_ _ | refine blk_drew ?_ | refine blk_alloc ?_ _)); exact BK247.out) hb); have n6_ := Aside0.mk (blk_below (g := gb255) (o := .cells #[.int .i64 t267, .slice Ao96 t268.length co96] 26 (0, 0)) (by (with_reducible repeat (first | refine blk_drewN ?_ _ | refine blk_drew ?_ | refine blk_alloc ?_ _)); refine blk_put (cs := #[.int .i64 t267, .slice Ao25 t251.length co25]) ?_ 1 _ rfl; (with_reducible repeat (first | refine blk_drewN ?_ _ | refine blk_drew ?_ | refine blk_alloc ?_ _)); refine blk_put (cs := #[.int .i64 t250, .slice Ao25 t251.length co25]) ?_ 0 _ rfl; (with_reducible repeat (first | refine blk_drewN ?_ _ | refine blk_drew ?_ | refine blk_alloc ?_ _)); exact BK255.out) hb); have n7_ := Aside0.mk (blk_below (g := gb261) (o := .cells #[.int .i64 t256, .slice Ao32 t257.length co32] 26 (0, 0)) (by (with_reducible repeat (first | refine blk_drewN ?_ _ | refine blk_drew ?_ | refine blk_alloc ?_ _)); refine blk_far ?_ NB261_255.out _; (with_reducible repeat (first | refine blk_drewN ?_ _ | refine blk_drew ?_ | refine blk_alloc ?_ _)); refine blk_far ?_ NB261_255.out _; (with_reducible repeat (first | refine blk_drewN ?_ _ | refine blk_drew ?_ | refine blk_alloc ?_ _)); exact BK261.out) hb); have n8_ := Aside0.mk (below_step (by repeat (first | (with_reducible first | exact HB.out | apply below_alloc | apply pw_below_drewN | apply below_drew1 | refine below_set ?_ GE246.out | refine below_set ?_ GE247.out | refine below_set ?_ GE255.out | refine below_set ?_ GE261.out) | exact HB.out)) hb); clear HO_256001; clear HO_262001; clear HO270; clear BK246; clear BK247; clear BK255; clear BK261; clear HB; have HO_256001 := n0_; have HO_262001 := n1_; have HO270 := n2_; have HO275 := n3_; have BK246 := n4_; have BK247 := n5_; have BK255 := n6_; have BK261 := n7_; have HB := n8_; clear n0_ n1_ n2_ n3_ n4_ n5_ n6_ n7_ n8_; (try clear hb); (try clear hb2); (try clear hk); (try clear hi); (try clear ho0); have hnb99 := NB261_247.out; have hnc99 := NB247_261.out; have hcz100_0 : w98.cell? ⟨gb261, 0, none⟩ = some (.int .i64 t256) := (blk_cell BK261.out 0).trans rfl; have hcz100_1 : w98.cell? ⟨gb261, 1, none⟩ = some (.slice Ao32 t257.length co32) := (blk_cell BK261.out 1).trans rfl; have hfz100_0 := blk_frozen BK261.out 0; have hfz100_1 := blk_frozen BK261.out 1; obtain ⟨Ao101, co101, eo101⟩ := MR_slice HO275.out; subst eo101; have hcz102_0 : w98.cell? ⟨gb247, 0, none⟩ = some (.int .i64 a2_0) := (blk_cell BK247.out 0).trans rfl; have hcz102_1 : w98.cell? ⟨gb247, 1, none⟩ = some (.slice A2_1 l2_1.length c2_1) := (blk_cell BK247.out 1).trans rfl; have hfz102_0 := blk_frozen BK247.out 0; have hfz102_1 := blk_frozen BK247.out 1) | ((with_reducible refine gate_callee (f := 20) rfl ?_); refine goesL_ (some 98) rfl rfl Try.func20 (by kernel_rfl) rfl #[.agg #[.int .i64 a2_0, .slice A2_1 l2_1.length c2_1]] rfl (by (try simp only [List.map_toArray, List.map_cons, List.map_nil]); first | done | rfl | (simp only [List.length_drop, List.length_take]; rfl)) ?_; (with_reducible refine (headseg_ParseTile.calls kj18 a2_0 _ _ l2_1 t277 t278 t279 t280 t281 _ ?side1 ?side2 A77.out).mono ?_); (case side1 => exact Kd.C_below HR2_1.out (by repeat (first | (with_reducible first | exact HB.out | apply below_alloc | apply pw_below_drewN | apply below_drew1 | refine below_set ?_ GE246.out | refine below_set ?_ GE247.out | refine below_set ?_ GE255.out | refine below_set ?_ GE261.out) | exact HB.out))); (case side2 => exact HC2_1.out); rintro e w103 ⟨rfl, hb⟩; refine ⟨_, rfl, ?_⟩; have n0_ := Aside0.mk (MR_below (by (with_reducible repeat (first | apply MR_alloc | apply MR_drewN | apply MR_drew)); exact (MR_mono (MR_far (p := ⟨gb261, 1, none⟩) (MR_far (p := ⟨gb261, 0, none⟩) (MR_types HO_256001.out BK261.out (by decide)) (fun _ hk => hk.2) (.int .i64 t272)) (fun _ hk => hk.2) (.slice Ao101 t273.length co101)) (fun _ h_ => h_.1))) hb); have n1_ := Aside0.mk (MR_below (by (with_reducible repeat (first | apply MR_alloc | apply MR_drewN | apply MR_drew)); exact (MR_mono (MR_far (p := ⟨gb261, 1, none⟩) (MR_far (p := ⟨gb261, 0, none⟩) (MR_types HO_262001.out BK261.out (by decide)) (fun _ hk => hk.2) (.int .i64 t272)) (fun _ hk => hk.2) (.slice Ao101 t273.length co101)) (fun _ h_ => h_.1))) hb); have n2_ := Aside0.mk (MR_below (by (with_reducible repeat (first | apply MR_alloc | apply MR_drewN | apply MR_drew)); exact (MR_mono (MR_far (p := ⟨gb261, 1, none⟩) (MR_far (p := ⟨gb261, 0, none⟩) (MR_types HO270.out BK261.out (by decide)) (fun _ hk => hk.2) (.int .i64 t272)) (fun _ hk => hk.2) (.slice Ao101 t273.length co101)) (fun _ h_ => h_.1))) hb); have n3_ := Aside0.mk (MR_below (by (with_reducible repeat (first | apply MR_alloc | apply MR_drewN | apply MR_drew)); exact (MR_mono (MR_far (p := ⟨gb261, 1, none⟩) (MR_far (p := ⟨gb261, 0, none⟩) (MR_types HO275.out BK261.out (by decide)) (fun _ hk => hk.2) (.int .i64 t272)) (fun _ hk => hk.2) (.slice Ao101 t273.length co101)) (fun _ h_ => h_.1))) hb); have n4_ := Aside0.mk (blk_below (g := gb246) (o := .cells #[.int .i64 a1_0, .int .i64 a1_1, .int .i64 a1_2, .int .i64 a1_3] 23 (0, 0)) (by (with_reducible repeat (first | refine blk_drewN ?_ _ | refine blk_drew ?_ | refine blk_alloc ?_ _)); refine blk_far ?_ NB246_261.out _; (with_reducible repeat (first | refine blk_drewN ?_ _ | refine blk_drew ?_ | refine blk_alloc ?_ _)); refine blk_far ?_ NB246_261.out _; (with_reducible repeat (first | refine blk_drewN ?_ _ | refine blk_drew ?_ | refine blk_alloc ?_ _)); exact BK246.out) hb); have n5_ := Aside0.mk (blk_below (g := gb247) (o := .cells #[.int .i64 a2_0, .slice A2_1 l2_1.length c2_1] 26 (0, 0)) (by (with_reducible repeat (first | refine blk_drewN ?_ _ | refine blk_drew ?_ | refine blk_alloc ?_ _)); refine blk_far ?_ NB247_261.out _; (with_reducible repeat (first | refine blk_drewN ?_ _ | refine blk_drew ?_ | refine blk_alloc ?_ _)); refine blk_far ?_ NB247_261.out _; (with_reducible repeat (first | refine blk_drewN ?_ _ | refine blk_drew ?_ | refine blk_alloc ?_ _)); exact BK247.out) hb); have n6_ := Aside0.mk (blk_below (g := gb255) (o := .cells #[.int .i64 t267, .slice Ao96 t268.length co96] 26 (0, 0)) (by (with_reducible repeat (first | refine blk_drewN ?_ _ | refine blk_drew ?_ | refine blk_alloc ?_ _)); refine blk_far ?_ NB255_261.out _; (with_reducible repeat (first | refine blk_drewN ?_ _ | refine blk_drew ?_ | refine blk_alloc ?_ _)); refine blk_far ?_ NB255_261.out _; (with_reducible repeat (first | refine blk_drewN ?_ _ | refine blk_drew ?_ | refine blk_alloc ?_ _)); exact BK255.out) hb); have n7_ := Aside0.mk (blk_below (g := gb261) (o := .cells #[.int .i64 t272, .slice Ao101 t273.length co101] 26 (0, 0)) (by (with_reducible repeat (first | refine blk_drewN ?_ _ | refine blk_drew ?_ | refine blk_alloc ?_ _)); refine blk_put (cs := #[.int .i64 t272, .slice Ao32 t257.length co32]) ?_ 1 _ rfl; (with_reducible repeat (first | refine blk_drewN ?_ _ | refine blk_drew ?_ | refine blk_alloc ?_ _)); refine blk_put (cs := #[.int .i64 t256, .slice Ao32 t257.length co32]) ?_ 0 _ rfl; (with_reducible repeat (first | refine blk_drewN ?_ _ | refine blk_drew ?_ | refine blk_alloc ?_ _)); exact BK261.out) hb); have n8_ := Aside0.mk (below_step (by repeat (first | (with_reducible first | exact HB.out | apply below_alloc | apply pw_below_drewN | apply below_drew1 | refine below_set ?_ GE246.out | refine below_set ?_ GE247.out | refine below_set ?_ GE255.out | refine below_set ?_ GE261.out) | exact HB.out)) hb); clear HO_256001; clear HO_262001; clear HO270; clear HO275; clear BK246; clear BK247; clear BK255; clear BK261; clear HB; have HO_256001 := n0_; have HO_262001 := n1_; have HO270 := n2_; have HO275 := n3_; have BK246 := n4_; have BK247 := n5_; have BK255 := n6_; have BK261 := n7_; have HB := n8_; clear n0_ n1_ n2_ n3_ n4_ n5_ n6_ n7_ n8_; (try clear hb); (try clear hb2); (try clear hk); (try clear hi); have hcz104_0 : w103.cell? ⟨gb247, 0, none⟩ = some (.int .i64 a2_0) := (blk_cell BK247.out 0).trans rfl; have hcz104_1 : w103.cell? ⟨gb247, 1, none⟩ = some (.slice A2_1 l2_1.length c2_1) := (blk_cell BK247.out 1).trans rfl; have hfz104_0 := blk_frozen BK247.out 0; have hfz104_1 := blk_frozen BK247.out 1) | ((with_reducible refine gate_callee (f := 21) rfl ?_); refine goesL_ (some 106) rfl rfl Try.func21 (by kernel_rfl) rfl #[.agg #[.int .i64 a2_0, .slice A2_1 l2_1.length c2_1]] rfl (by (try simp only [List.map_toArray, List.map_cons, List.map_nil]); first | done | rfl | (simp only [List.length_drop, List.length_take]; rfl)) ?_; (with_reducible refine (waveletref29_ParseTile.calls kj18 a2_0 _ _ l2_1 t282 t283 t284 t285 t286 _ ?side1 ?side2 A78.out).mono ?_); (case side1 => repeat (first | exact (Kd.C_below HR2_1.out HB.out) | (with_reducible refine Kd.C_alloc ?_ _) | (with_reducible refine Kd.C_drewN ?_ _) | (with_reducible refine Kd.C_drew ?_))); (case side2 => exact HC2_1.out); rintro e w105 ⟨rfl, hb⟩; refine ⟨_, rfl, ?_⟩; have n0_ := Aside0.mk (MR_below (by (with_reducible repeat (first | apply MR_alloc | apply MR_drewN | apply MR_drew)); exact HO_256001.out) hb); have n1_ := Aside0.mk (MR_below (by (with_reducible repeat (first | apply MR_alloc | apply MR_drewN | apply MR_drew)); exact HO_262001.out) hb); have n2_ := Aside0.mk (MR_below (by (with_reducible repeat (first | apply MR_alloc | apply MR_drewN | apply MR_drew)); exact HO270.out) hb); have n3_ := Aside0.mk (MR_below (by (with_reducible repeat (first | apply MR_alloc | apply MR_drewN | apply MR_drew)); exact HO275.out) hb); have n4_ := Aside0.mk (blk_below (g := gb246) (o := .cells #[.int .i64 a1_0, .int .i64 a1_1, .int .i64 a1_2, .int .i64 a1_3] 23 (0, 0)) (by (with_reducible repeat (first | refine blk_drewN ?_ _ | refine blk_drew ?_ | refine blk_alloc ?_ _)); exact BK246.out) hb); have n5_ := Aside0.mk (blk_below (g := gb247) (o := .cells #[.int .i64 a2_0, .slice A2_1 l2_1.length c2_1] 26 (0, 0)) (by (with_reducible repeat (first | refine blk_drewN ?_ _ | refine blk_drew ?_ | refine blk_alloc ?_ _)); exact BK247.out) hb); have n6_ := Aside0.mk (blk_below (g := gb255) (o := .cells #[.int .i64 t267, .slice Ao96 t268.length co96] 26 (0, 0)) (by (with_reducible repeat (first | refine blk_drewN ?_ _ | refine blk_drew ?_ | refine blk_alloc ?_ _)); exact BK255.out) hb); have n7_ := Aside0.mk (blk_below (g := gb261) (o := .cells #[.int .i64 t272, .slice Ao101 t273.length co101] 26 (0, 0)) (by (with_reducible repeat (first | refine blk_drewN ?_ _ | refine blk_drew ?_ | refine blk_alloc ?_ _)); exact BK261.out) hb); have n8_ := Aside0.mk (below_step (by repeat (first | (with_reducible first | exact HB.out | apply below_alloc | apply pw_below_drewN | apply below_drew1 | refine below_set ?_ GE246.out | refine below_set ?_ GE247.out | refine below_set ?_ GE255.out | refine below_set ?_ GE261.out) | exact HB.out)) hb); clear HO_256001; clear HO_262001; clear HO270; clear HO275; clear BK246; clear BK247; clear BK255; clear BK261; clear HB; have HO_256001 := n0_; have HO_262001 := n1_; have HO270 := n2_; have HO275 := n3_; have BK246 := n4_; have BK247 := n5_; have BK255 := n6_; have BK261 := n7_; have HB := n8_; clear n0_ n1_ n2_ n3_ n4_ n5_ n6_ n7_ n8_; (try clear hb); (try clear hb2); (try clear hk); (try clear hi); have hcz106_0 : w105.cell? ⟨gb255, 0, none⟩ = some (.int .i64 t267) := (blk_cell BK255.out 0).trans rfl; have hcz106_1 : w105.cell? ⟨gb255, 1, none⟩ = some (.slice Ao96 t268.length co96) := (blk_cell BK255.out 1).trans rfl; have hfz106_0 := blk_frozen BK255.out 0; have hfz106_1 := blk_frozen BK255.out 1; have hcz107_0 : w105.cell? ⟨gb261, 0, none⟩ = some (.int .i64 t272) := (blk_cell BK261.out 0).trans rfl; have hcz107_1 : w105.cell? ⟨gb261, 1, none⟩ = some (.slice Ao101 t273.length co101) := (blk_cell BK261.out 1).trans rfl; have hfz107_0 := blk_frozen BK261.out 0; have hfz107_1 := blk_frozen BK261.out 1) | ((with_reducible refine gate_callee (f := 17) rfl ?_); refine goesL_ (some 114) rfl rfl Try.func17 (by kernel_rfl) rfl #[.agg #[.int .i64 t267, .slice Ao96 t268.length co96], .agg #[.int .i64 t272, .slice Ao101 t273.length co101]] rfl (by (try simp only [List.map_toArray, List.map_cons, List.map_nil]); first | done | rfl | (simp only [List.length_drop, List.length_take]; rfl)) ?_; (with_reducible refine (waveletlaw29_sameSegment.calls kj18 t267 _ _ t268 t272 _ _ t273 true _ ?side1 ?side2 ?side3 ?side4 A79.out).mono ?_); (case side1 => repeat (first | exact (MR_reads' HO270.out).2.2 | (with_reducible refine Kd.C_alloc ?_ _) | (with_reducible refine Kd.C_drewN ?_ _) | (with_reducible refine Kd.C_drew ?_))); (case side2 => exact (MR_reads' HO270.out).2.1); (case side3 => repeat (first | exact (MR_reads' HO275.out).2.2 | (with_reducible refine Kd.C_alloc ?_ _) | (with_reducible refine Kd.C_drewN ?_ _) | (with_reducible refine Kd.C_drew ?_))); (case side4 => exact (MR_reads' HO275.out).2.1); rintro e w108 ⟨rfl, hb⟩; refine ⟨_, rfl, ?_⟩; have n0_ := Aside0.mk (MR_below (by (with_reducible repeat (first | apply MR_alloc | apply MR_drewN | apply MR_drew)); exact HO_256001.out) hb); have n1_ := Aside0.mk (MR_below (by (with_reducible repeat (first | apply MR_alloc | apply MR_drewN | apply MR_drew)); exact HO_262001.out) hb); have n2_ := Aside0.mk (MR_below (by (with_reducible repeat (first | apply MR_alloc | apply MR_drewN | apply MR_drew)); exact HO270.out) hb); have n3_ := Aside0.mk (MR_below (by (with_reducible repeat (first | apply MR_alloc | apply MR_drewN | apply MR_drew)); exact HO275.out) hb); have n4_ := Aside0.mk (blk_below (g := gb246) (o := .cells #[.int .i64 a1_0, .int .i64 a1_1, .int .i64 a1_2, .int .i64 a1_3] 23 (0, 0)) (by (with_reducible repeat (first | refine blk_drewN ?_ _ | refine blk_drew ?_ | refine blk_alloc ?_ _)); exact BK246.out) hb); have n5_ := Aside0.mk (blk_below (g := gb247) (o := .cells #[.int .i64 a2_0, .slice A2_1 l2_1.length c2_1] 26 (0, 0)) (by (with_reducible repeat (first | refine blk_drewN ?_ _ | refine blk_drew ?_ | refine blk_alloc ?_ _)); exact BK247.out) hb); have n6_ := Aside0.mk (blk_below (g := gb255) (o := .cells #[.int .i64 t267, .slice Ao96 t268.length co96] 26 (0, 0)) (by (with_reducible repeat (first | refine blk_drewN ?_ _ | refine blk_drew ?_ | refine blk_alloc ?_ _)); exact BK255.out) hb); have n7_ := Aside0.mk (blk_below (g := gb261) (o := .cells #[.int .i64 t272, .slice Ao101 t273.length co101] 26 (0, 0)) (by (with_reducible repeat (first | refine blk_drewN ?_ _ | refine blk_drew ?_ | refine blk_alloc ?_ _)); exact BK261.out) hb); have n8_ := Aside0.mk (below_step (by repeat (first | (with_reducible first | exact HB.out | apply below_alloc | apply pw_below_drewN | apply below_drew1 | refine below_set ?_ GE246.out | refine below_set ?_ GE247.out | refine below_set ?_ GE255.out | refine below_set ?_ GE261.out) | exact HB.out)) hb); clear HO_256001; clear HO_262001; clear HO270; clear HO275; clear BK246; clear BK247; clear BK255; clear BK261; clear HB; have HO_256001 := n0_; have HO_262001 := n1_; have HO270 := n2_; have HO275 := n3_; have BK246 := n4_; have BK247 := n5_; have BK255 := n6_; have BK261 := n7_; have HB := n8_; clear n0_ n1_ n2_ n3_ n4_ n5_ n6_ n7_ n8_; (try clear hb); (try clear hb2); (try clear hk); (try clear hi)) | (go_at_call 12; (with_reducible refine (waveletlaw29_awake.calls kj18  t288 _ A87.out).mono ?_); rintro e w109 ⟨rfl, hb⟩; have n0_ := Aside0.mk (MR_below (by (with_reducible repeat (first | apply MR_alloc | apply MR_drewN | apply MR_drew)); exact HO_256001.out) hb); have n1_ := Aside0.mk (MR_below (by (with_reducible repeat (first | apply MR_alloc | apply MR_drewN | apply MR_drew)); exact HO_262001.out) hb); have n2_ := Aside0.mk (MR_below (by (with_reducible repeat (first | apply MR_alloc | apply MR_drewN | apply MR_drew)); exact HO270.out) hb); have n3_ := Aside0.mk (MR_below (by (with_reducible repeat (first | apply MR_alloc | apply MR_drewN | apply MR_drew)); exact HO275.out) hb); have n4_ := Aside0.mk (blk_below (g := gb246) (o := .cells #[.int .i64 a1_0, .int .i64 a1_1, .int .i64 a1_2, .int .i64 a1_3] 23 (0, 0)) (by (with_reducible repeat (first | refine blk_drewN ?_ _ | refine blk_drew ?_ | refine blk_alloc ?_ _)); exact BK246.out) hb); have n5_ := Aside0.mk (blk_below (g := gb247) (o := .cells #[.int .i64 a2_0, .slice A2_1 l2_1.length c2_1] 26 (0, 0)) (by (with_reducible repeat (first | refine blk_drewN ?_ _ | refine blk_drew ?_ | refine blk_alloc ?_ _)); exact BK247.out) hb); have n6_ := Aside0.mk (blk_below (g := gb255) (o := .cells #[.int .i64 t267, .slice Ao96 t268.length co96] 26 (0, 0)) (by (with_reducible repeat (first | refine blk_drewN ?_ _ | refine blk_drew ?_ | refine blk_alloc ?_ _)); exact BK255.out) hb); have n7_ := Aside0.mk (blk_below (g := gb261) (o := .cells #[.int .i64 t272, .slice Ao101 t273.length co101] 26 (0, 0)) (by (with_reducible repeat (first | refine blk_drewN ?_ _ | refine blk_drew ?_ | refine blk_alloc ?_ _)); exact BK261.out) hb); have n8_ := Aside0.mk (below_step (by repeat (first | (with_reducible first | exact HB.out | apply below_alloc | apply pw_below_drewN | apply below_drew1 | refine below_set ?_ GE246.out | refine below_set ?_ GE247.out | refine below_set ?_ GE255.out | refine below_set ?_ GE261.out) | exact HB.out)) hb); clear HO_256001; clear HO_262001; clear HO270; clear HO275; clear BK246; clear BK247; clear BK255; clear BK261; clear HB; have HO_256001 := n0_; have HO_262001 := n1_; have HO270 := n2_; have HO275 := n3_; have BK246 := n4_; have BK247 := n5_; have BK255 := n6_; have BK261 := n7_; have HB := n8_; clear n0_ n1_ n2_ n3_ n4_ n5_ n6_ n7_ n8_; (try clear hb); (try clear hb2); (try clear hk); (try clear hi)))
                            go_ret
                            exact ⟨by first | rfl | (simp [errW_none, errW_some] <;> rfl) | (simp [*, errW_none, errW_some] <;> rfl), by repeat (first | (with_reducible first | exact HB.out | apply below_alloc | apply pw_below_drewN | apply below_drew1 | refine below_set ?_ GE246.out | refine below_set ?_ GE247.out | refine below_set ?_ GE255.out | refine below_set ?_ GE261.out) | exact HB.out)⟩
                          · rw [if_neg c86] at H
                            exact absurd (Option.some.inj H) (by rw [hr_]; decide)
                        · rw [if_neg c85] at H
                          exact absurd (Option.some.inj H) (by rw [hr_]; decide)
                      · rw [if_neg c84] at H
                        exact absurd (Option.some.inj H) (by rw [hr_]; decide)
                    · rw [if_neg c83] at H
                      exact absurd (Option.some.inj H) (by rw [hr_]; decide)
                  · rw [if_neg c82] at H
                    exact absurd (Option.some.inj H) (by rw [hr_]; decide)
                · rw [if_neg c81] at H
                  exact absurd (Option.some.inj H) (by rw [hr_]; decide)
              · replace c80 := Bool.eq_false_iff.mpr c80
                subst c80
                have H1 : (some false) = some r := by rw [if_neg (show ¬ (false = true) by decide)] at H; exact H
                exact absurd (Option.some.inj H1) (by rw [hr_]; decide)
end Go.Proofs.Ytihfopblmjgfaaa.Q
