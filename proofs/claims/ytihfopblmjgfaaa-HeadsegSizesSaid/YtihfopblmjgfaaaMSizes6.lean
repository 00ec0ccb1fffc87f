/- Texts of this session (words and printed walks, merged by wip/tools/merge.py) for the statement of the claim. -/
import Derived.Test.YtihfopblmjgfaaaMSizes1
import Derived.Test.YtihfopblmjgfaaaMSizes5
namespace Go.Proofs.Ytihfopblmjgfaaa.Q
open Go.RowKit Go.Proofs.YtihfopblmjgfaaaW.PrintWords Go.Proofs.YtihfopblmjgfaaaW.PrintLast Go.Proofs.YtihfopblmjgfaaaW.PrintMore
attribute [local go_sem] max2_int min2_int max_two min_two max_three min_three max_four min_four   -- for this text's walks alone
set_option linter.unusedVariables false
set_option linter.unusedSimpArgs false

/-! ### waveletref01_FloorDiv: function 81 -/
def waveletref01_FloorDiv.f (a0 : Int) (a1 : Int) : Option (Int) := if a1 < 1 then (some 0) else (if a1 = 0 then (none) else (if (Int.tmod a0 a1) < 0 then (some (wrap64 ((wrap64 (Int.tdiv a0 a1)) - 1))) else (some (wrap64 (Int.tdiv a0 a1)))))
set_option maxHeartbeats 8000000 in
set_option maxRecDepth 100000 in
theorem waveletref01_FloorDiv.calls (a0 : Int) (a1 : Int) (r : Int) (w : World) (h : waveletref01_FloorDiv.f a0 a1 = some r) :
    Calls Try.prog 81 #[.int .i64 a0, .int .i64 a1] w fun e w' => e = .returned (.int .i64 r) ∧ Drawn0 w w' := by
  have H : (if a1 < 1 then (some 0) else (if a1 = 0 then (none) else (if (Int.tmod a0 a1) < 0 then (some (wrap64 ((wrap64 (Int.tdiv a0 a1)) - 1))) else (some (wrap64 (Int.tdiv a0 a1)))))) = some r := h
  clear h
  by_cases c3 : a1 < 1
  · rw [if_pos c3] at H
    have c3b0 : decide (a1 < 1) = true := decide_eq_true c3
    clear c3
    obtain rfl := Option.some.inj H
    go_enter Try.func81, Try.ntmps81
    go_wp2
    go_ret
    exact ⟨by first | rfl | (simp; done) | (simp [*]; done), by repeat (first | exact Drawn0.refl _ | apply Drawn0.step)⟩
  · rw [if_neg c3] at H
    have c3b0 : decide (a1 < 1) = false := decide_eq_false c3
    clear c3
    by_cases c4 : a1 = 0
    · rw [if_pos c4] at H
      exact absurd H (by simp)
    · rw [if_neg c4] at H
      have c4b0 : (a1 == 0) = false := beq_eq_false_iff_ne.mpr c4
      have c4b1 : (a1 != 0) = true := bne_iff_ne.mpr c4
      by_cases c5 : (Int.tmod a0 a1) < 0
      · rw [if_pos c5] at H
        have c5b0 : decide ((Int.tmod a0 a1) < 0) = true := decide_eq_true c5
        clear c5
        obtain rfl := Option.some.inj H
        go_enter Try.func81, Try.ntmps81
        go_wp2
        go_ret
        exact ⟨by first | rfl | (simp; done) | (simp [*]; done), by repeat (first | exact Drawn0.refl _ | apply Drawn0.step)⟩
      · rw [if_neg c5] at H
        have c5b0 : decide ((Int.tmod a0 a1) < 0) = false := decide_eq_false c5
        clear c5
        obtain rfl := Option.some.inj H
        go_enter Try.func81, Try.ntmps81
        go_wp2
        go_ret
        exact ⟨by first | rfl | (simp; done) | (simp [*]; done), by repeat (first | exact Drawn0.refl _ | apply Drawn0.step)⟩

end Go.Proofs.Ytihfopblmjgfaaa.Q

namespace Go.Proofs.Ytihfopblmjgfaaa.Q
open Go.RowKit Go.Proofs.YtihfopblmjgfaaaW.PrintWords Go.Proofs.YtihfopblmjgfaaaW.PrintLast Go.Proofs.YtihfopblmjgfaaaW.PrintMore
attribute [local go_sem] max2_int min2_int max_two min_two max_three min_three max_four min_four   -- for this text's walks alone
set_option linter.unusedVariables false
set_option linter.unusedSimpArgs false

/-! ### waveletref23_tiles: function 78 -/
def waveletref23_tiles.f (a0_0 : Int) (a0_1 : Int) (a0_2 : Int) (a0_3 : Int) (a0_4 : Int) (a0_5 : Int) (l0_6 : List (S97)) : Option (Int) := (waveletref01_CeilDiv.f a0_2 a0_4).bind fun t836 => ((waveletref01_FloorDiv.f a0_0 a0_4).bind fun t837 => ((waveletref01_CeilDiv.f a0_3 a0_5).bind fun t838 => ((waveletref01_FloorDiv.f a0_1 a0_5).bind fun t839 => (some (wrap64 ((wrap64 (t836 - t837)) * (wrap64 (t838 - t839))))))))
set_option maxHeartbeats 8000000 in
set_option maxRecDepth 100000 in
theorem waveletref23_tiles.calls (a0_0 : Int) (a0_1 : Int) (a0_2 : Int) (a0_3 : Int) (a0_4 : Int) (a0_5 : Int) (A0_6 : Option Addr) (c0_6 : Nat) (l0_6 : List (S97)) (r : Int) (w : World) (hr0_6 : Kd.C k97 w A0_6 l0_6.length l0_6) (hc0_6 : l0_6.length ≤ c0_6) (h : waveletref23_tiles.f a0_0 a0_1 a0_2 a0_3 a0_4 a0_5 l0_6 = some r) :
    Calls Try.prog 78 #[.agg #[.int .i64 a0_0, .int .i64 a0_1, .int .i64 a0_2, .int .i64 a0_3, .int .i64 a0_4, .int .i64 a0_5, .slice A0_6 l0_6.length c0_6]] w fun e w' => e = .returned (.int .i64 r) ∧ Below w.heap.size w w' := by
  have hu67 := Try.underlying67
  have hu64 := Try.underlying64
  have HR0_6 := Aside0.mk hr0_6
  have HC0_6 := Aside0.mk hc0_6
  clear hr0_6 hc0_6
  have HB := Aside0.mk (Below.refl w.heap.size w)
  have H : ((waveletref01_CeilDiv.f a0_2 a0_4).bind fun t836 => ((waveletref01_FloorDiv.f a0_0 a0_4).bind fun t837 => ((waveletref01_CeilDiv.f a0_3 a0_5).bind fun t838 => ((waveletref01_FloorDiv.f a0_1 a0_5).bind fun t839 => (some (wrap64 ((wrap64 (t836 - t837)) * (wrap64 (t838 - t839))))))))) = some r := h
  clear h
  replace H := Option.bind_eq_some_iff.mp H
  obtain ⟨t836, A20, H⟩ := H
  replace H : ((waveletref01_FloorDiv.f a0_0 a0_4).bind fun t837 => ((waveletref01_CeilDiv.f a0_3 a0_5).bind fun t838 => ((waveletref01_FloorDiv.f a0_1 a0_5).bind fun t839 => (some (wrap64 ((wrap64 (t836 - t837)) * (wrap64 (t838 - t839)))))))) = some r := H
  have A2 := Aside0.mk A20
  clear A20
  replace H := Option.bind_eq_some_iff.mp H
  obtain ⟨t837, A30, H⟩ := H
  replace H : ((waveletref01_CeilDiv.f a0_3 a0_5).bind fun t838 => ((waveletref01_FloorDiv.f a0_1 a0_5).bind fun t839 => (some (wrap64 ((wrap64 (t836 - t837)) * (wrap64 (t838 - t839))))))) = some r := H
  have A3 := Aside0.mk A30
  clear A30
  replace H := Option.bind_eq_some_iff.mp H
  obtain ⟨t838, A40, H⟩ := H
  replace H : ((waveletref01_FloorDiv.f a0_1 a0_5).bind fun t839 => (some (wrap64 ((wrap64 (t836 - t837)) * (wrap64 (t838 - t839)))))) = some r := H
  have A4 := Aside0.mk A40
  clear A40
  replace H := Option.bind_eq_some_iff.mp H
  obtain ⟨t839, A50, H⟩ := H
  replace H : (some (wrap64 ((wrap64 (t836 - t837)) * (wrap64 (t838 - t839))))) = some r := H
  have A5 := Aside0.mk A50
  clear A50
  obtain rfl := Option.some.inj H
  go_enter Try.func78, Try.ntmps78
  go_wp2_with (first | ((with_reducible refine gate_dst (N := 1) rfl ?_); refine box_event ?hg (N := 1) ?hd (cs := #[.int .i64 a0_0, .int .i64 a0_1, .int .i64 a0_2, .int .i64 a0_3, .int .i64 a0_4, .int .i64 a0_5, .slice A0_6 l0_6.length c0_6]) (t := 67) ?hr ?_; (case hd => rfl); (case hg => rfl); (case hr => first | (go_simp; done) | (go_simp; rfl)); intro gb834 hg w6 hbox hb; have BK834 := Aside0.mk (hbox); have GW834 := Aside0.mk ((by rw [hg]; exact (below_size (upB HB.out)) : w.heap.size ≤ gb834)); have GE834 := Aside0.mk ((by rw [hg]; exact (below_size (upB HB.out)) : w.heap.size ≤ gb834)); replace HB := Aside0.mk (below_step (upB HB.out) hb); clear hb hbox hg; have hcz7_0 : w6.cell? ⟨gb834, 0, none⟩ = some (.int .i64 a0_0) := bc BK834 0; have hcz7_1 : w6.cell? ⟨gb834, 1, none⟩ = some (.int .i64 a0_1) := bc BK834 1; have hcz7_2 : w6.cell? ⟨gb834, 2, none⟩ = some (.int .i64 a0_2) := bc BK834 2; have hcz7_3 : w6.cell? ⟨gb834, 3, none⟩ = some (.int .i64 a0_3) := bc BK834 3; have hcz7_4 : w6.cell? ⟨gb834, 4, none⟩ = some (.int .i64 a0_4) := bc BK834 4; have hcz7_5 : w6.cell? ⟨gb834, 5, none⟩ = some (.int .i64 a0_5) := bc BK834 5; have hcz7_6 : w6.cell? ⟨gb834, 6, none⟩ = some (.slice A0_6 l0_6.length c0_6) := bc BK834 6; have hfz7_0 := blk_frozen BK834.out 0; have hfz7_1 := blk_frozen BK834.out 1; have hfz7_2 := blk_frozen BK834.out 2; have hfz7_3 := blk_frozen BK834.out 3; have hfz7_4 := blk_frozen BK834.out 4; have hfz7_5 := blk_frozen BK834.out 5; have hfz7_6 := blk_frozen BK834.out 6) | ((with_reducible refine gate_dst (N := 3) rfl ?_); refine box_event ?hg (N := 3) ?hd (cs := #[.int .i64 0, .int .i64 0, .int .i64 0, .int .i64 0]) (t := 64) ?hr ?_; (case hd => rfl); (case hg => rfl); (case hr => first | (go_simp; done) | (go_simp; rfl)); intro gb835 hg w8 hbox hb; have BK835 := Aside0.mk (hbox); have GW835 := Aside0.mk ((by rw [hg]; exact (below_size (upB HB.out)) : w.heap.size ≤ gb835)); have GE835 := Aside0.mk ((by rw [hg]; exact (below_size (upB HB.out)) : w.heap.size ≤ gb835)); replace HB := Aside0.mk (below_step (upB HB.out) hb); have NB834_835 := Aside0.mk ((by rw [hg]; exact Nat.ne_of_lt (blk_lt (upK BK834.out)) : gb834 ≠ gb835)); have NB835_834 := Aside0.mk ((by rw [hg]; exact Nat.ne_of_gt (blk_lt (upK BK834.out)) : gb835 ≠ gb834)); replace BK834 := Aside0.mk (blk_below (g := gb834) (o := .cells #[.int .i64 a0_0, .int .i64 a0_1, .int .i64 a0_2, .int .i64 a0_3, .int .i64 a0_4, .int .i64 a0_5, .slice A0_6 l0_6.length c0_6] 67 (0, 0)) (upK BK834.out) hb); clear hb hbox hg; have hnb9 := NB835_834.out; have hnc9 := NB834_835.out; have hcz10_0 : w8.cell? ⟨gb835, 0, none⟩ = some (.int .i64 0) := bc BK835 0; have hcz10_1 : w8.cell? ⟨gb835, 1, none⟩ = some (.int .i64 0) := bc BK835 1; have hcz10_2 : w8.cell? ⟨gb835, 2, none⟩ = some (.int .i64 0) := bc BK835 2; have hcz10_3 : w8.cell? ⟨gb835, 3, none⟩ = some (.int .i64 0) := bc BK835 3; have hfz10_0 := blk_frozen BK835.out 0; have hfz10_1 := blk_frozen BK835.out 1; have hfz10_2 := blk_frozen BK835.out 2; have hfz10_3 := blk_frozen BK835.out 3; have hcz11_0 : w8.cell? ⟨gb834, 0, none⟩ = some (.int .i64 a0_0) := bc BK834 0; have hcz11_1 : w8.cell? ⟨gb834, 1, none⟩ = some (.int .i64 a0_1) := bc BK834 1; have hcz11_2 : w8.cell? ⟨gb834, 2, none⟩ = some (.int .i64 a0_2) := bc BK834 2; have hcz11_3 : w8.cell? ⟨gb834, 3, none⟩ = some (.int .i64 a0_3) := bc BK834 3; have hcz11_4 : w8.cell? ⟨gb834, 4, none⟩ = some (.int .i64 a0_4) := bc BK834 4; have hcz11_5 : w8.cell? ⟨gb834, 5, none⟩ = some (.int .i64 a0_5) := bc BK834 5; have hcz11_6 : w8.cell? ⟨gb834, 6, none⟩ = some (.slice A0_6 l0_6.length c0_6) := bc BK834 6; have hfz11_0 := blk_frozen BK834.out 0; have hfz11_1 := blk_frozen BK834.out 1; have hfz11_2 := blk_frozen BK834.out 2; have hfz11_3 := blk_frozen BK834.out 3; have hfz11_4 := blk_frozen BK834.out 4; have hfz11_5 := blk_frozen BK834.out 5; have hfz11_6 := blk_frozen BK834.out 6) | (go_at_call 80; (with_reducible refine (waveletref01_CeilDiv.calls a0_2 a0_4 t836 _ A2.out).mono ?_); rintro e w' ⟨rfl, ⟨nd, rfl⟩⟩; (try first | exact ⟨rfl, _, World.drewN_drewN _ _ _⟩ | exact ⟨rfl, _, Eq.trans (World.drewN_drewN _ _ _) (congrArg (World.drewN _) (Nat.add_assoc _ _ _))⟩)) | (go_at_call 81; (with_reducible refine (waveletref01_FloorDiv.calls a0_0 a0_4 t837 _ A3.out).mono ?_); rintro e w' ⟨rfl, ⟨nd, rfl⟩⟩; (try first | exact ⟨rfl, _, World.drewN_drewN _ _ _⟩ | exact ⟨rfl, _, Eq.trans (World.drewN_drewN _ _ _) (congrArg (World.drewN _) (Nat.add_assoc _ _ _))⟩)) | (go_at_call 80; (with_reducible refine (waveletref01_CeilDiv.calls a0_3 a0_5 t838 _ A4.out).mono ?_); rintro e w' ⟨rfl, ⟨nd, rfl⟩⟩; (try first | exact ⟨rfl, _, World.drewN_drewN _ _ _⟩ | exact ⟨rfl, _, Eq.trans (World.drewN_drewN _ _ _) (congrArg (World.drewN _) (Nat.add_assoc _ _ _))⟩)) | (go_at_call 81; (with_reducible refine (waveletref01_FloorDiv.calls a0_1 a0_5 t839 _ A5.out).mono ?_); rintro e w' ⟨rfl, ⟨nd, rfl⟩⟩; (try first | exact ⟨rfl, _, World.drewN_drewN _ _ _⟩ | exact ⟨rfl, _, Eq.trans (World.drewN_drewN _ _ _) (congrArg (World.drewN _) (Nat.add_assoc _ _ _))⟩)))
  repeat (go_quiet (first | ((with_reducible refine gate_dst (N := 1) rfl ?_); refine box_event ?hg (N := 1) ?hd (cs := #[.int .i64 a0_0, .int .i64 a0_1, .int .i64 a0_2, .int .i64 a0_3, .int .i64 a0_4, .int .i64 a0_5, .slice A0_6 l0_6.length c0_6]) (t := 67) ?hr ?_; (case hd => rfl); (case hg => rfl); (case hr => first | (go_simp; done) | (go_simp; rfl)); intro gb834 hg w6 hbox hb; have BK834 := Aside0.mk (hbox); have GW834 := Aside0.mk ((by rw [hg]; exact (below_size (upB HB.out)) : w.heap.size ≤ gb834)); have GE834 := Aside0.mk ((by rw [hg]; exact (below_size (upB HB.out)) : w.heap.size ≤ gb834)); replace HB := Aside0.mk (below_step (upB HB.out) hb); clear hb hbox hg; have hcz7_0 : w6.cell? ⟨gb834, 0, none⟩ = some (.int .i64 a0_0) := bc BK834 0; have hcz7_1 : w6.cell? ⟨gb834, 1, none⟩ = some (.int .i64 a0_1) := bc BK834 1; have hcz7_2 : w6.cell? ⟨gb834, 2, none⟩ = some (.int .i64 a0_2) := bc BK834 2; have hcz7_3 : w6.cell? ⟨gb834, 3, none⟩ = some (.int .i64 a0_3) := bc BK834 3; have hcz7_4 : w6.cell? ⟨gb834, 4, none⟩ = some (.int .i64 a0_4) := bc BK834 4; have hcz7_5 : w6.cell? ⟨gb834, 5, none⟩ = some (.int .i64 a0_5) := bc BK834 5; have hcz7_6 : w6.cell? ⟨gb834, 6, none⟩ = some (.slice A0_6 l0_6.length c0_6) := bc BK834 6; have hfz7_0 := blk_frozen BK834.out 0; have hfz7_1 := blk_frozen BK834.out 1; have hfz7_2 := blk_frozen BK834.out 2; have hfz7_3 := blk_frozen BK834.out 3; have hfz7_4 := blk_frozen BK834.out 4; have hfz7_5 := blk_frozen BK834.out 5; have hfz7_6 := blk_frozen BK834.out 6) | ((with_reducible refine gate_dst (N := 3) rfl ?_); refine box_event ?hg (N := 3) ?hd (cs := #[.int .i64 0, .int .i64 0, .int .i64 0, .int .i64 0]) (t := 64) ?hr ?_; (case hd => rfl); (case hg => rfl); (case hr => first | (go_simp; done) | (go_simp; rfl)); intro gb835 hg w8 hbox hb; have BK835 := Aside0.mk (hbox); have GW835 := Aside0.mk ((by rw [hg]; exact (below_size (upB HB.out)) : w.heap.size ≤ gb835)); have GE835 := Aside0.mk ((by rw [hg]; exact (below_size (upB HB.out)) : w.heap.size ≤ gb835)); replace HB := Aside0.mk (below_step (upB HB.out) hb); have NB834_835 := Aside0.mk ((by rw [hg]; exact Nat.ne_of_lt (blk_lt (upK BK834.out)) : gb834 ≠ gb835)); have NB835_834 := Aside0.mk ((by rw [hg]; exact Nat.ne_of_gt (blk_lt (upK BK834.out)) : gb835 ≠ gb834)); replace BK834 := Aside0.mk (blk_below (g := gb834) (o := .cells #[.int .i64 a0_0, .int .i64 a0_1, .int .i64 a0_2, .int .i64 a0_3, .int .i64 a0_4, .int .i64 a0_5, .slice A0_6 l0_6.length c0_6] 67 (0, 0)) (upK BK834.out) hb); clear hb hbox hg; have hnb9 := NB835_834.out; have hnc9 := NB834_835.out; have hcz10_0 : w8.cell? ⟨gb835, 0, none⟩ = some (.int .i64 0) := bc BK835 0; have hcz10_1 : w8.cell? ⟨gb835, 1, none⟩ = some (.int .i64 0) := bc BK835 1; have hcz10_2 : w8.cell? ⟨gb835, 2, none⟩ = some (.int .i64 0) := bc BK835 2; have hcz10_3 : w8.cell? ⟨gb835, 3, none⟩ = some (.int .i64 0) := bc BK835 3; have hfz10_0 := blk_frozen BK835.out 0; have hfz10_1 := blk_frozen BK835.out 1; have hfz10_2 := blk_frozen BK835.out 2; have hfz10_3 := blk_frozen BK835.out 3; have hcz11_0 : w8.cell? ⟨gb834, 0, none⟩ = some (.int .i64 a0_0) := bc BK834 0; have hcz11_1 : w8.cell? ⟨gb834, 1, none⟩ = some (.int .i64 a0_1) := bc BK834 1; have hcz11_2 : w8.cell? ⟨gb834, 2, none⟩ = some (.int .i64 a0_2) := bc BK834 2; have hcz11_3 : w8.cell? ⟨gb834, 3, none⟩ = some (.int .i64 a0_3) := bc BK834 3; have hcz11_4 : w8.cell? ⟨gb834, 4, none⟩ = some (.int .i64 a0_4) := bc BK834 4; have hcz11_5 : w8.cell? ⟨gb834, 5, none⟩ = some (.int .i64 a0_5) := bc BK834 5; have hcz11_6 : w8.cell? ⟨gb834, 6, none⟩ = some (.slice A0_6 l0_6.length c0_6) := bc BK834 6; have hfz11_0 := blk_frozen BK834.out 0; have hfz11_1 := blk_frozen BK834.out 1; have hfz11_2 := blk_frozen BK834.out 2; have hfz11_3 := blk_frozen BK834.out 3; have hfz11_4 := blk_frozen BK834.out 4; have hfz11_5 := blk_frozen BK834.out 5; have hfz11_6 := blk_frozen BK834.out 6) | (go_at_call 80; (with_reducible refine (waveletref01_CeilDiv.calls a0_2 a0_4 t836 _ A2.out).mono ?_); rintro e w' ⟨rfl, ⟨nd, rfl⟩⟩; (try first | exact ⟨rfl, _, World.drewN_drewN _ _ _⟩ | exact ⟨rfl, _, Eq.trans (World.drewN_drewN _ _ _) (congrArg (World.drewN _) (Nat.add_assoc _ _ _))⟩)) | (go_at_call 81; (with_reducible refine (waveletref01_FloorDiv.calls a0_0 a0_4 t837 _ A3.out).mono ?_); rintro e w' ⟨rfl, ⟨nd, rfl⟩⟩; (try first | exact ⟨rfl, _, World.drewN_drewN _ _ _⟩ | exact ⟨rfl, _, Eq.trans (World.drewN_drewN _ _ _) (congrArg (World.drewN _) (Nat.add_assoc _ _ _))⟩)) | (go_at_call 80; (with_reducible refine (waveletref01_CeilDiv.calls a0_3 a0_5 t838 _ A4.out).mono ?_); rintro e w' ⟨rfl, ⟨nd, rfl⟩⟩; (try first | exact ⟨rfl, _, World.drewN_drewN _ _ _⟩ | exact ⟨rfl, _, Eq.trans (World.drewN_drewN _ _ _) (congrArg (World.drewN _) (Nat.add_assoc _ _ _))⟩)) | (go_at_call 81; (with_reducible refine (waveletref01_FloorDiv.calls a0_1 a0_5 t839 _ A5.out).mono ?_); rintro e w' ⟨rfl, ⟨nd, rfl⟩⟩; (try first | exact ⟨rfl, _, World.drewN_drewN _ _ _⟩ | exact ⟨rfl, _, Eq.trans (World.drewN_drewN _ _ _) (congrArg (World.drewN _) (Nat.add_assoc _ _ _))⟩))); try go_wp2_with (first | ((with_reducible refine gate_dst (N := 1) rfl ?_); refine box_event ?hg (N := 1) ?hd (cs := #[.int .i64 a0_0, .int .i64 a0_1, .int .i64 a0_2, .int .i64 a0_3, .int .i64 a0_4, .int .i64 a0_5, .slice A0_6 l0_6.length c0_6]) (t := 67) ?hr ?_; (case hd => rfl); (case hg => rfl); (case hr => first | (go_simp; done) | (go_simp; rfl)); intro gb834 hg w6 hbox hb; have BK834 := Aside0.mk (hbox); have GW834 := Aside0.mk ((by rw [hg]; exact (below_size (upB HB.out)) : w.heap.size ≤ gb834)); have GE834 := Aside0.mk ((by rw [hg]; exact (below_size (upB HB.out)) : w.heap.size ≤ gb834)); replace HB := Aside0.mk (below_step (upB HB.out) hb); clear hb hbox hg; have hcz7_0 : w6.cell? ⟨gb834, 0, none⟩ = some (.int .i64 a0_0) := bc BK834 0; have hcz7_1 : w6.cell? ⟨gb834, 1, none⟩ = some (.int .i64 a0_1) := bc BK834 1; have hcz7_2 : w6.cell? ⟨gb834, 2, none⟩ = some (.int .i64 a0_2) := bc BK834 2; have hcz7_3 : w6.cell? ⟨gb834, 3, none⟩ = some (.int .i64 a0_3) := bc BK834 3; have hcz7_4 : w6.cell? ⟨gb834, 4, none⟩ = some (.int .i64 a0_4) := bc BK834 4; have hcz7_5 : w6.cell? ⟨gb834, 5, none⟩ = some (.int .i64 a0_5) := bc BK834 5; have hcz7_6 : w6.cell? ⟨gb834, 6, none⟩ = some (.slice A0_6 l0_6.length c0_6) := bc BK834 6; have hfz7_0 := blk_frozen BK834.out 0; have hfz7_1 := blk_frozen BK834.out 1; have hfz7_2 := blk_frozen BK834.out 2; have hfz7_3 := blk_frozen BK834.out 3; have hfz7_4 := blk_frozen BK834.out 4; have hfz7_5 := blk_frozen BK834.out 5; have hfz7_6 := blk_frozen BK834.out 6) | ((with_reducible refine gate_dst (N := 3) rfl ?_); refine box_event ?hg (N := 3) ?hd (cs := #[.int .i64 0, .int .i64 0, .int .i64 0, .int .i64 0]) (t := 64) ?hr ?_; (case hd => rfl); (case hg => rfl); (case hr => first | (go_simp; done) | (go_simp; rfl)); intro gb835 hg w8 hbox hb; have BK835 := Aside0.mk (hbox); have GW835 := Aside0.mk ((by rw [hg]; exact (below_size (upB HB.out)) : w.heap.size ≤ gb835)); have GE835 := Aside0.mk ((by rw [hg]; exact (below_size (upB HB.out)) : w.heap.size ≤ gb835)); replace HB := Aside0.mk (below_step (upB HB.out) hb); have NB834_835 := Aside0.mk ((by rw [hg]; exact Nat.ne_of_lt (blk_lt (upK BK834.out)) : gb834 ≠ gb835)); have NB835_834 := Aside0.mk ((by rw [hg]; exact Nat.ne_of_gt (blk_lt (upK BK834.out)) : gb835 ≠ gb834)); replace BK834 := Aside0.mk (blk_below (g := gb834) (o := .cells #[.int .i64 a0_0, .int .i64 a0_1, .int .i64 a0_2, .int .i64 a0_3, .int .i64 a0_4, .int .i64 a0_5, .slice A0_6 l0_6.length c0_6] 67 (0, 0)) (upK BK834.out) hb); clear hb hbox hg; have hnb9 := NB835_834.out; have hnc9 := NB834_835.out; have hcz10_0 : w8.cell? ⟨gb835, 0, none⟩ = some (.int .i64 0) := bc BK835 0; have hcz10_1 : w8.cell? ⟨gb835, 1, none⟩ = some (.int .i64 0) := bc BK835 1; have hcz10_2 : w8.cell? ⟨gb835, 2, none⟩ = some (.int .i64 0) := bc BK835 2; have hcz10_3 : w8.cell? ⟨gb835, 3, none⟩ = some (.int .i64 0) := bc BK835 3; have hfz10_0 := blk_frozen BK835.out 0; have hfz10_1 := blk_frozen BK835.out 1; have hfz10_2 := blk_frozen BK835.out 2; have hfz10_3 := blk_frozen BK835.out 3; have hcz11_0 : w8.cell? ⟨gb834, 0, none⟩ = some (.int .i64 a0_0) := bc BK834 0; have hcz11_1 : w8.cell? ⟨gb834, 1, none⟩ = some (.int .i64 a0_1) := bc BK834 1; have hcz11_2 : w8.cell? ⟨gb834, 2, none⟩ = some (.int .i64 a0_2) := bc BK834 2; have hcz11_3 : w8.cell? ⟨gb834, 3, none⟩ = some (.int .i64 a0_3) := bc BK834 3; have hcz11_4 : w8.cell? ⟨gb834, 4, none⟩ = some (.int .i64 a0_4) := bc BK834 4; have hcz11_5 : w8.cell? ⟨gb834, 5, none⟩ = some (.int .i64 a0_5) := bc BK834 5; have hcz11_6 : w8.cell? ⟨gb834, 6, none⟩ = some (.slice A0_6 l0_6.length c0_6) := bc BK834 6; have hfz11_0 := blk_frozen BK834.out 0; have hfz11_1 := blk_frozen BK834.out 1; have hfz11_2 := blk_frozen BK834.out 2; have hfz11_3 := blk_frozen BK834.out 3; have hfz11_4 := blk_frozen BK834.out 4; have hfz11_5 := blk_frozen BK834.out 5; have hfz11_6 := blk_frozen BK834.out 6) | (go_at_call 80; (with_reducible refine (waveletref01_CeilDiv.calls a0_2 a0_4 t836 _ A2.out).mono ?_); rintro e w' ⟨rfl, ⟨nd, rfl⟩⟩; (try first | exact ⟨rfl, _, World.drewN_drewN _ _ _⟩ | exact ⟨rfl, _, Eq.trans (World.drewN_drewN _ _ _) (congrArg (World.drewN _) (Nat.add_assoc _ _ _))⟩)) | (go_at_call 81; (with_reducible refine (waveletref01_FloorDiv.calls a0_0 a0_4 t837 _ A3.out).mono ?_); rintro e w' ⟨rfl, ⟨nd, rfl⟩⟩; (try first | exact ⟨rfl, _, World.drewN_drewN _ _ _⟩ | exact ⟨rfl, _, Eq.trans (World.drewN_drewN _ _ _) (congrArg (World.drewN _) (Nat.add_assoc _ _ _))⟩)) | (go_at_call 80; (with_reducible refine (waveletref01_CeilDiv.calls a0_3 a0_5 t838 _ A4.out).mono ?_); rintro e w' ⟨rfl, ⟨nd, rfl⟩⟩; (try first | exact ⟨rfl, _, World.drewN_drewN _ _ _⟩ | exact ⟨rfl, _, Eq.trans (World.drewN_drewN _ _ _) (congrArg (World.drewN _) (Nat.add_assoc _ _ _))⟩)) | (go_at_call 81; (with_reducible refine (waveletref01_FloorDiv.calls a0_1 a0_5 t839 _ A5.out).mono ?_); rintro e w' ⟨rfl, ⟨nd, rfl⟩⟩; (try first | exact ⟨rfl, _, World.drewN_drewN _ _ _⟩ | exact ⟨rfl, _, Eq.trans (World.drewN_drewN _ _ _) (congrArg (World.drewN _) (Nat.add_assoc _ _ _))⟩))))
  go_ret
  exact ⟨by first | rfl | (simp [errW_none, errW_some] <;> rfl) | (simp [*, errW_none, errW_some] <;> rfl), by repeat (first | (with_reducible first | exact HB.out | apply below_alloc | apply pw_below_drewN | apply below_drew1 | refine below_set ?_ GE834.out | refine below_set ?_ GE835.out) | exact HB.out)⟩

end Go.Proofs.Ytihfopblmjgfaaa.Q

namespace Go.Proofs.Ytihfopblmjgfaaa.Q
open Go.RowKit Go.Proofs.YtihfopblmjgfaaaW.PrintWords Go.Proofs.YtihfopblmjgfaaaW.PrintLast Go.Proofs.YtihfopblmjgfaaaW.PrintMore
attribute [local go_sem] max2_int min2_int max_two min_two max_three min_three max_four min_four   -- for this text's walks alone
set_option linter.unusedVariables false
set_option linter.unusedSimpArgs false

/-! ### waveletref01_Area: function 79 -/
def waveletref01_Area.f (a0_0 : Int) (a0_1 : Int) (a0_2 : Int) (a0_3 : Int) : Option (Int) := (waveletref01_Valid.f a0_0 a0_1 a0_2 a0_3).bind fun t841 => (if t841 = true then (some (wrap64 ((wrap64 (a0_2 - a0_0)) * (wrap64 (a0_3 - a0_1))))) else (some 0))
set_option maxHeartbeats 8000000 in
set_option maxRecDepth 100000 in
theorem waveletref01_Area.calls (a0_0 : Int) (a0_1 : Int) (a0_2 : Int) (a0_3 : Int) (r : Int) (w : World) (h : waveletref01_Area.f a0_0 a0_1 a0_2 a0_3 = some r) :
    Calls Try.prog 79 #[.agg #[.int .i64 a0_0, .int .i64 a0_1, .int .i64 a0_2, .int .i64 a0_3]] w fun e w' => e = .returned (.int .i64 r) ∧ Below w.heap.size w w' := by
  have hu64 := Try.underlying64
  have HB := Aside0.mk (Below.refl w.heap.size w)
  have H : ((waveletref01_Valid.f a0_0 a0_1 a0_2 a0_3).bind fun t841 => (if t841 = true then (some (wrap64 ((wrap64 (a0_2 - a0_0)) * (wrap64 (a0_3 - a0_1))))) else (some 0))) = some r := h
  clear h
  replace H := Option.bind_eq_some_iff.mp H
  obtain ⟨t841, A20, H⟩ := H
  replace H : (if t841 = true then (some (wrap64 ((wrap64 (a0_2 - a0_0)) * (wrap64 (a0_3 - a0_1))))) else (some 0)) = some r := H
  have A2 := Aside0.mk A20
  clear A20
  by_cases c3 : t841 = true
  · subst c3
    have H1 : (some (wrap64 ((wrap64 (a0_2 - a0_0)) * (wrap64 (a0_3 - a0_1))))) = some r := by rw [if_pos rfl] at H; exact H
    clear H
    have H := H1
    clear H1
    obtain rfl := Option.some.inj H
    go_enter Try.func79, Try.ntmps79
    go_wp2_with (first | ((with_reducible refine gate_dst (N := 1) rfl ?_); refine box_event ?hg (N := 1) ?hd (cs := #[.int .i64 a0_0, .int .i64 a0_1, .int .i64 a0_2, .int .i64 a0_3]) (t := 64) ?hr ?_; (case hd => rfl); (case hg => rfl); (case hr => first | (go_simp; done) | (go_simp; rfl)); intro gb840 hg w4 hbox hb; have BK840 := Aside0.mk (hbox); have GW840 := Aside0.mk ((by rw [hg]; exact (below_size (upB HB.out)) : w.heap.size ≤ gb840)); have GE840 := Aside0.mk ((by rw [hg]; exact (below_size (upB HB.out)) : w.heap.size ≤ gb840)); replace HB := Aside0.mk (below_step (upB HB.out) hb); clear hb hbox hg; have hcz5_0 : w4.cell? ⟨gb840, 0, none⟩ = some (.int .i64 a0_0) := bc BK840 0; have hcz5_1 : w4.cell? ⟨gb840, 1, none⟩ = some (.int .i64 a0_1) := bc BK840 1; have hcz5_2 : w4.cell? ⟨gb840, 2, none⟩ = some (.int .i64 a0_2) := bc BK840 2; have hcz5_3 : w4.cell? ⟨gb840, 3, none⟩ = some (.int .i64 a0_3) := bc BK840 3; have hfz5_0 := blk_frozen BK840.out 0; have hfz5_1 := blk_frozen BK840.out 1; have hfz5_2 := blk_frozen BK840.out 2; have hfz5_3 := blk_frozen BK840.out 3) | ((with_reducible refine gate_callee (f := 74) rfl ?_); refine goesL_ (some 4) rfl rfl Try.func74 (by kernel_rfl) rfl #[.agg #[.int .i64 a0_0, .int .i64 a0_1, .int .i64 a0_2, .int .i64 a0_3]] rfl upL ?_; (with_reducible refine (waveletref01_Valid.calls a0_0 a0_1 a0_2 a0_3 true _ A2.out).mono ?_); rintro e w6 ⟨rfl, hb⟩; refine ⟨_, rfl, ?_⟩; replace BK840 := Aside0.mk (blk_below (g := gb840) (o := .cells #[.int .i64 a0_0, .int .i64 a0_1, .int .i64 a0_2, .int .i64 a0_3] 64 (0, 0)) (upK BK840.out) hb); replace HB := Aside0.mk (below_step (upB HB.out) hb); (try clear hb; try clear hb2; try clear hk; try clear hi); have hcz7_0 : w6.cell? ⟨gb840, 0, none⟩ = some (.int .i64 a0_0) := bc BK840 0; have hcz7_1 : w6.cell? ⟨gb840, 1, none⟩ = some (.int .i64 a0_1) := bc BK840 1; have hcz7_2 : w6.cell? ⟨gb840, 2, none⟩ = some (.int .i64 a0_2) := bc BK840 2; have hcz7_3 : w6.cell? ⟨gb840, 3, none⟩ = some (.int .i64 a0_3) := bc BK840 3; have hfz7_0 := blk_frozen BK840.out 0; have hfz7_1 := blk_frozen BK840.out 1; have hfz7_2 := blk_frozen BK840.out 2; have hfz7_3 := blk_frozen BK840.out 3))
    go_ret
    exact ⟨by first | rfl | (simp [errW_none, errW_some] <;> rfl) | (simp [*, errW_none, errW_some] <;> rfl), by repeat (first | (with_reducible first | exact HB.out | apply below_alloc | apply pw_below_drewN | apply below_drew1 | refine below_set ?_ GE840.out) | exact HB.out)⟩
  · replace c3 := Bool.eq_false_iff.mpr c3
    subst c3
    have H1 : (some 0) = some r := by rw [if_neg (show ¬ (false = true) by decide)] at H; exact H
    clear H
    have H := H1
    clear H1
    obtain rfl := Option.some.inj H
    go_enter Try.func79, Try.ntmps79
    go_wp2_with (first | ((with_reducible refine gate_dst (N := 1) rfl ?_); refine box_event ?hg (N := 1) ?hd (cs := #[.int .i64 a0_0, .int .i64 a0_1, .int .i64 a0_2, .int .i64 a0_3]) (t := 64) ?hr ?_; (case hd => rfl); (case hg => rfl); (case hr => first | (go_simp; done) | (go_simp; rfl)); intro gb840 hg w8 hbox hb; have BK840 := Aside0.mk (hbox); have GW840 := Aside0.mk ((by rw [hg]; exact (below_size (upB HB.out)) : w.heap.size ≤ gb840)); have GE840 := Aside0.mk ((by rw [hg]; exact (below_size (upB HB.out)) : w.heap.size ≤ gb840)); replace HB := Aside0.mk (below_step (upB HB.out) hb); clear hb hbox hg; have hcz9_0 : w8.cell? ⟨gb840, 0, none⟩ = some (.int .i64 a0_0) := bc BK840 0; have hcz9_1 : w8.cell? ⟨gb840, 1, none⟩ = some (.int .i64 a0_1) := bc BK840 1; have hcz9_2 : w8.cell? ⟨gb840, 2, none⟩ = some (.int .i64 a0_2) := bc BK840 2; have hcz9_3 : w8.cell? ⟨gb840, 3, none⟩ = some (.int .i64 a0_3) := bc BK840 3; have hfz9_0 := blk_frozen BK840.out 0; have hfz9_1 := blk_frozen BK840.out 1; have hfz9_2 := blk_frozen BK840.out 2; have hfz9_3 := blk_frozen BK840.out 3) | ((with_reducible refine gate_callee (f := 74) rfl ?_); refine goesL_ (some 4) rfl rfl Try.func74 (by kernel_rfl) rfl #[.agg #[.int .i64 a0_0, .int .i64 a0_1, .int .i64 a0_2, .int .i64 a0_3]] rfl upL ?_; (with_reducible refine (waveletref01_Valid.calls a0_0 a0_1 a0_2 a0_3 false _ A2.out).mono ?_); rintro e w10 ⟨rfl, hb⟩; refine ⟨_, rfl, ?_⟩; replace BK840 := Aside0.mk (blk_below (g := gb840) (o := .cells #[.int .i64 a0_0, .int .i64 a0_1, .int .i64 a0_2, .int .i64 a0_3] 64 (0, 0)) (upK BK840.out) hb); replace HB := Aside0.mk (below_step (upB HB.out) hb); (try clear hb; try clear hb2; try clear hk; try clear hi)))
    go_ret
    exact ⟨by first | rfl | (simp [errW_none, errW_some] <;> rfl) | (simp [*, errW_none, errW_some] <;> rfl), by repeat (first | (with_reducible first | exact HB.out | apply below_alloc | apply pw_below_drewN | apply below_drew1 | refine below_set ?_ GE840.out) | exact HB.out)⟩

end Go.Proofs.Ytihfopblmjgfaaa.Q
