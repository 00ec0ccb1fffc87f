/- Texts of this session (words and printed walks, merged by wip/tools/merge.py) for the statement of the claim. -/
import Derived.Test.YtihfopblmjgfaaaMRest1
import Derived.Test.YtihfopblmjgfaaaMRest7
import Derived.Test.YtihfopblmjgfaaaMRest2
import Derived.Test.YtihfopblmjgfaaaMRest5
import Derived.Test.YtihfopblmjgfaaaMRest6
import Derived.Laws.BitsLemmas
/- Printed walk, shortened (wip/tools/unmerge.py). -/
namespace Go.Proofs.Ytihfopblmjgfaaa.Q
open Go.RowKit Go.Proofs.YtihfopblmjgfaaaW.PrintWords Go.Proofs.YtihfopblmjgfaaaW.PrintLast Go.Proofs.YtihfopblmjgfaaaW.PrintMore
attribute [local go_sem] max2_int min2_int max_two min_two max_three min_three max_four min_four   -- for this text's walks alone
set_option linter.unusedVariables false
set_option linter.unusedSimpArgs false

attribute [local go_sem high] eqA64 eqA97
/-! ### waveletref23_SameHeader: function 41 -/
mutual
def waveletref23_SameHeader.j0 : Nat → Bool → Int → Int → Int → Int → Int → Int → List (S97) → Int → Int → Int → Int → Int → Int → List (S97) → Option (Bool)
  | 0, _, _, _, _, _, _, _, _, _, _, _, _, _, _, _ => none
  | k + 1, x33, x941000, x941001, x941002, x941003, x941004, x941005, x941006, x942000, x942001, x942002, x942003, x942004, x942005, x942006 => if x33 = true then (some false) else (waveletref23_SameHeader.l0 k 0 x941000 x941001 x941002 x941003 x941004 x941005 x941006 x942000 x942001 x942002 x942003 x942004 x942005 x942006)
def waveletref23_SameHeader.l0 : Nat → Int → Int → Int → Int → Int → Int → Int → List (S97) → Int → Int → Int → Int → Int → Int → List (S97) → Option (Bool)
  | 0, _, _, _, _, _, _, _, _, _, _, _, _, _, _, _ => none
  | k + 1, x5, x941000, x941001, x941002, x941003, x941004, x941005, x941006, x942000, x942001, x942002, x942003, x942004, x942005, x942006 => if x5 < (x941006.length : Int) then (if 0 ≤ x5 then (if x5 < (x942006.length : Int) then (if (!(((rd_T97 x941006 x5).f0) == ((rd_T97 x942006 x5).f0)) || (!(((rd_T97 x941006 x5).f1) == ((rd_T97 x942006 x5).f1)) || (!(((rd_T97 x941006 x5).f2) == ((rd_T97 x942006 x5).f2)) || (!(((rd_T97 x941006 x5).f3) == ((rd_T97 x942006 x5).f3)))))) = true then (some false) else (waveletref23_SameHeader.l0 k (wrap64 (x5 + 1)) x941000 x941001 x941002 x941003 x941004 x941005 x941006 x942000 x942001 x942002 x942003 x942004 x942005 x942006)) else (none)) else (none)) else (some true)
end
def waveletref23_SameHeader.f (k : Nat) (a0_0 : Int) (a0_1 : Int) (a0_2 : Int) (a0_3 : Int) (a0_4 : Int) (a0_5 : Int) (l0_6 : List (S97)) (a1_0 : Int) (a1_1 : Int) (a1_2 : Int) (a1_3 : Int) (a1_4 : Int) (a1_5 : Int) (l1_6 : List (S97)) : Option (Bool) := if (!(a0_0 == a1_0) || (!(a0_1 == a1_1) || (!(a0_2 == a1_2) || (!(a0_3 == a1_3))))) = true then (waveletref23_SameHeader.j0 k true a0_0 a0_1 a0_2 a0_3 a0_4 a0_5 l0_6 a1_0 a1_1 a1_2 a1_3 a1_4 a1_5 l1_6) else (if a0_4 = a1_4 then (if a0_5 = a1_5 then (waveletref23_SameHeader.j0 k ((l0_6.length : Int) != (l1_6.length : Int)) a0_0 a0_1 a0_2 a0_3 a0_4 a0_5 l0_6 a1_0 a1_1 a1_2 a1_3 a1_4 a1_5 l1_6) else (waveletref23_SameHeader.j0 k true a0_0 a0_1 a0_2 a0_3 a0_4 a0_5 l0_6 a1_0 a1_1 a1_2 a1_3 a1_4 a1_5 l1_6)) else (waveletref23_SameHeader.j0 k true a0_0 a0_1 a0_2 a0_3 a0_4 a0_5 l0_6 a1_0 a1_1 a1_2 a1_3 a1_4 a1_5 l1_6))
theorem waveletref23_SameHeader.mono_l : ∀ k, (∀ y0 y1 y2 y3 y4 y5 y6 y7 y8 y9 y10 y11 y12 y13 y14, LeO (waveletref23_SameHeader.j0 k y0 y1 y2 y3 y4 y5 y6 y7 y8 y9 y10 y11 y12 y13 y14) (waveletref23_SameHeader.j0 (k + 1) y0 y1 y2 y3 y4 y5 y6 y7 y8 y9 y10 y11 y12 y13 y14)) ∧ (∀ y0 y1 y2 y3 y4 y5 y6 y7 y8 y9 y10 y11 y12 y13 y14, LeO (waveletref23_SameHeader.l0 k y0 y1 y2 y3 y4 y5 y6 y7 y8 y9 y10 y11 y12 y13 y14) (waveletref23_SameHeader.l0 (k + 1) y0 y1 y2 y3 y4 y5 y6 y7 y8 y9 y10 y11 y12 y13 y14))
  | 0 => ⟨fun _ _ _ _ _ _ _ _ _ _ _ _ _ _ _ r h => by simp [waveletref23_SameHeader.j0] at h, fun _ _ _ _ _ _ _ _ _ _ _ _ _ _ _ r h => by simp [waveletref23_SameHeader.l0] at h⟩
  | k + 1 => by
    obtain ⟨ih0, ih1⟩ := waveletref23_SameHeader.mono_l k
    refine ⟨?_, ?_⟩
    · intro y0 y1 y2 y3 y4 y5 y6 y7 y8 y9 y10 y11 y12 y13 y14
      unfold waveletref23_SameHeader.j0
      repeat' first
      | (with_reducible exact ih0 _ _ _ _ _ _ _ _ _ _ _ _ _ _ _)
      | (with_reducible exact ih1 _ _ _ _ _ _ _ _ _ _ _ _ _ _ _)
      | (with_reducible exact LeO.refl _)
      | (with_reducible exact LeO.none _)
      | (with_reducible refine LeO.ite ?_ ?_)
      | (with_reducible refine LeO.bind ?_ (fun _ => ?_))
      | exact ih0 _ _ _ _ _ _ _ _ _ _ _ _ _ _ _
      | exact ih1 _ _ _ _ _ _ _ _ _ _ _ _ _ _ _
      | exact LeO.none _
      | refine LeO.ite ?_ ?_
      | refine LeO.bind ?_ (fun _ => ?_)
    · intro y0 y1 y2 y3 y4 y5 y6 y7 y8 y9 y10 y11 y12 y13 y14
      unfold waveletref23_SameHeader.l0
      repeat' first
      | (with_reducible exact ih0 _ _ _ _ _ _ _ _ _ _ _ _ _ _ _)
      | (with_reducible exact ih1 _ _ _ _ _ _ _ _ _ _ _ _ _ _ _)
      | (with_reducible exact LeO.refl _)
      | (with_reducible exact LeO.none _)
      | (with_reducible refine LeO.ite ?_ ?_)
      | (with_reducible refine LeO.bind ?_ (fun _ => ?_))
      | exact ih0 _ _ _ _ _ _ _ _ _ _ _ _ _ _ _
      | exact ih1 _ _ _ _ _ _ _ _ _ _ _ _ _ _ _
      | exact LeO.none _
      | refine LeO.ite ?_ ?_
      | refine LeO.bind ?_ (fun _ => ?_)
theorem waveletref23_SameHeader.mono : ∀ a0 a1 a2 a3 a4 a5 a6 a7 a8 a9 a10 a11 a12 a13 k, LeO (waveletref23_SameHeader.f k a0 a1 a2 a3 a4 a5 a6 a7 a8 a9 a10 a11 a12 a13) (waveletref23_SameHeader.f (k + 1) a0 a1 a2 a3 a4 a5 a6 a7 a8 a9 a10 a11 a12 a13) := by
  intro a0 a1 a2 a3 a4 a5 a6 a7 a8 a9 a10 a11 a12 a13 k
  obtain ⟨ih0, ih1⟩ := waveletref23_SameHeader.mono_l k
  unfold waveletref23_SameHeader.f
  repeat' first
      | (with_reducible exact ih0 _ _ _ _ _ _ _ _ _ _ _ _ _ _ _)
      | (with_reducible exact ih1 _ _ _ _ _ _ _ _ _ _ _ _ _ _ _)
      | (with_reducible exact LeO.refl _)
      | (with_reducible exact LeO.none _)
      | (with_reducible refine LeO.ite ?_ ?_)
      | (with_reducible refine LeO.bind ?_ (fun _ => ?_))
      | exact ih0 _ _ _ _ _ _ _ _ _ _ _ _ _ _ _
      | exact ih1 _ _ _ _ _ _ _ _ _ _ _ _ _ _ _
      | exact LeO.none _
      | refine LeO.ite ?_ ?_
      | refine LeO.bind ?_ (fun _ => ?_)
set_option maxHeartbeats 8000000 in
set_option maxRecDepth 100000 in
theorem waveletref23_SameHeader.calls (k : Nat) (a0_0 : Int) (a0_1 : Int) (a0_2 : Int) (a0_3 : Int) (a0_4 : Int) (a0_5 : Int) (A0_6 : Option Addr) (c0_6 : Nat) (l0_6 : List (S97)) (a1_0 : Int) (a1_1 : Int) (a1_2 : Int) (a1_3 : Int) (a1_4 : Int) (a1_5 : Int) (A1_6 : Option Addr) (c1_6 : Nat) (l1_6 : List (S97)) (r : Bool) (w : World) (hr0_6 : Kd.C k97 w A0_6 l0_6.length l0_6) (hc0_6 : l0_6.length ≤ c0_6) (hr1_6 : Kd.C k97 w A1_6 l1_6.length l1_6) (hc1_6 : l1_6.length ≤ c1_6) (h : waveletref23_SameHeader.f k a0_0 a0_1 a0_2 a0_3 a0_4 a0_5 l0_6 a1_0 a1_1 a1_2 a1_3 a1_4 a1_5 l1_6 = some r) :
    Calls Try.prog 41 #[.agg #[.int .i64 a0_0, .int .i64 a0_1, .int .i64 a0_2, .int .i64 a0_3, .int .i64 a0_4, .int .i64 a0_5, .slice A0_6 l0_6.length c0_6], .agg #[.int .i64 a1_0, .int .i64 a1_1, .int .i64 a1_2, .int .i64 a1_3, .int .i64 a1_4, .int .i64 a1_5, .slice A1_6 l1_6.length c1_6]] w fun e w' => e = .returned (.bool r) ∧ Below w.heap.size w w' := by
  have hu67 := Try.underlying67
  have hu64 := Try.underlying64
  have hu97 := Try.underlying97
  have HR0_6 := Aside0.mk hr0_6
  have HC0_6 := Aside0.mk hc0_6
  clear hr0_6 hc0_6
  have HR1_6 := Aside0.mk hr1_6
  have HC1_6 := Aside0.mk hc1_6
  clear hr1_6 hc1_6
  have HB := Aside0.mk (Below.refl w.heap.size w)
  have H : (if (!(a0_0 == a1_0) || (!(a0_1 == a1_1) || (!(a0_2 == a1_2) || (!(a0_3 == a1_3))))) = true then (waveletref23_SameHeader.j0 k true a0_0 a0_1 a0_2 a0_3 a0_4 a0_5 l0_6 a1_0 a1_1 a1_2 a1_3 a1_4 a1_5 l1_6) else (if a0_4 = a1_4 then (if a0_5 = a1_5 then (waveletref23_SameHeader.j0 k ((l0_6.length : Int) != (l1_6.length : Int)) a0_0 a0_1 a0_2 a0_3 a0_4 a0_5 l0_6 a1_0 a1_1 a1_2 a1_3 a1_4 a1_5 l1_6) else (waveletref23_SameHeader.j0 k true a0_0 a0_1 a0_2 a0_3 a0_4 a0_5 l0_6 a1_0 a1_1 a1_2 a1_3 a1_4 a1_5 l1_6)) else (waveletref23_SameHeader.j0 k true a0_0 a0_1 a0_2 a0_3 a0_4 a0_5 l0_6 a1_0 a1_1 a1_2 a1_3 a1_4 a1_5 l1_6))) = some r := h
  clear h
  have HC3 := Aside0.mk H
  clear H
  go_enter Try.func41, Try.ntmps41
  go_upto_region 1 with (first | ((with_reducible refine gate_dst (N := 2) rfl ?_); (try (refine gate_guard (by rfl) ?_; dsimp only)); refine box_event ?hg (N := 2) ?hd (cs := #[.int .i64 a0_0, .int .i64 a0_1, .int .i64 a0_2, .int .i64 a0_3, .int .i64 a0_4, .int .i64 a0_5, .slice A0_6 l0_6.length c0_6]) (t := 67) ?hr ?_; (case hd => rfl); (case hg => rfl); (case hr => first | (go_simp; done) | (go_simp; rfl)); intro gb940 hg w4 hbox hb; have BK940 := Aside0.mk (hbox); have GW940 := Aside0.mk ((by rw [hg]; exact (below_size (upB HB.out)) : w.heap.size ≤ gb940)); have GE940 := Aside0.mk ((by rw [hg]; exact (below_size (upB HB.out)) : w.heap.size ≤ gb940)); replace HB := Aside0.mk (below_step (upB HB.out) hb); clear hb hbox hg) | ((with_reducible refine gate_dst (N := 3) rfl ?_); (try (refine gate_guard (by rfl) ?_; dsimp only)); refine box_event ?hg (N := 3) ?hd (cs := #[.int .i64 a1_0, .int .i64 a1_1, .int .i64 a1_2, .int .i64 a1_3, .int .i64 a1_4, .int .i64 a1_5, .slice A1_6 l1_6.length c1_6]) (t := 67) ?hr ?_; (case hd => rfl); (case hg => rfl); (case hr => first | (go_simp; done) | (go_simp; rfl)); intro gb941 hg w5 hbox hb; have BK941 := Aside0.mk (hbox); have GW941 := Aside0.mk ((by rw [hg]; exact (below_size (upB HB.out)) : w.heap.size ≤ gb941)); have GE941 := Aside0.mk ((by rw [hg]; exact (below_size (upB HB.out)) : w.heap.size ≤ gb941)); replace HB := Aside0.mk (below_step (upB HB.out) hb); have NB940_941 := Aside0.mk ((by rw [hg]; exact Nat.ne_of_lt (blk_lt (upK BK940.out)) : gb940 ≠ gb941)); have NB941_940 := Aside0.mk ((by rw [hg]; exact Nat.ne_of_gt (blk_lt (upK BK940.out)) : gb941 ≠ gb940)); replace BK940 := Aside0.mk (blk_below (g := gb940) (o := .cells #[.int .i64 a0_0, .int .i64 a0_1, .int .i64 a0_2, .int .i64 a0_3, .int .i64 a0_4, .int .i64 a0_5, .slice A0_6 l0_6.length c0_6] 67 (0, 0)) (upK BK940.out) hb); clear hb hbox hg))
  repeat (go_quiet (first | ((with_reducible refine gate_dst (N := 2) rfl ?_); (try (refine gate_guard (by rfl) ?_; dsimp only)); refine box_event ?hg (N := 2) ?hd (cs := #[.int .i64 a0_0, .int .i64 a0_1, .int .i64 a0_2, .int .i64 a0_3, .int .i64 a0_4, .int .i64 a0_5, .slice A0_6 l0_6.length c0_6]) (t := 67) ?hr ?_; (case hd => rfl); (case hg => rfl); (case hr => first | (go_simp; done) | (go_simp; rfl)); intro gb940 hg w4 hbox hb; have BK940 := Aside0.mk (hbox); have GW940 := Aside0.mk ((by rw [hg]; exact (below_size (upB HB.out)) : w.heap.size ≤ gb940)); have GE940 := Aside0.mk ((by rw [hg]; exact (below_size (upB HB.out)) : w.heap.size ≤ gb940)); replace HB := Aside0.mk (below_step (upB HB.out) hb); clear hb hbox hg) | ((with_reducible refine gate_dst (N := 3) rfl ?_); (try (refine gate_guard (by rfl) ?_; dsimp only)); refine box_event ?hg (N := 3) ?hd (cs := #[.int .i64 a1_0, .int .i64 a1_1, .int .i64 a1_2, .int .i64 a1_3, .int .i64 a1_4, .int .i64 a1_5, .slice A1_6 l1_6.length c1_6]) (t := 67) ?hr ?_; (case hd => rfl); (case hg => rfl); (case hr => first | (go_simp; done) | (go_simp; rfl)); intro gb941 hg w5 hbox hb; have BK941 := Aside0.mk (hbox); have GW941 := Aside0.mk ((by rw [hg]; exact (below_size (upB HB.out)) : w.heap.size ≤ gb941)); have GE941 := Aside0.mk ((by rw [hg]; exact (below_size (upB HB.out)) : w.heap.size ≤ gb941)); replace HB := Aside0.mk (below_step (upB HB.out) hb); have NB940_941 := Aside0.mk ((by rw [hg]; exact Nat.ne_of_lt (blk_lt (upK BK940.out)) : gb940 ≠ gb941)); have NB941_940 := Aside0.mk ((by rw [hg]; exact Nat.ne_of_gt (blk_lt (upK BK940.out)) : gb941 ≠ gb940)); replace BK940 := Aside0.mk (blk_below (g := gb940) (o := .cells #[.int .i64 a0_0, .int .i64 a0_1, .int .i64 a0_2, .int .i64 a0_3, .int .i64 a0_4, .int .i64 a0_5, .slice A0_6 l0_6.length c0_6] 67 (0, 0)) (upK BK940.out) hb); clear hb hbox hg)); go_upto_region 1 with (first | ((with_reducible refine gate_dst (N := 2) rfl ?_); (try (refine gate_guard (by rfl) ?_; dsimp only)); refine box_event ?hg (N := 2) ?hd (cs := #[.int .i64 a0_0, .int .i64 a0_1, .int .i64 a0_2, .int .i64 a0_3, .int .i64 a0_4, .int .i64 a0_5, .slice A0_6 l0_6.length c0_6]) (t := 67) ?hr ?_; (case hd => rfl); (case hg => rfl); (case hr => first | (go_simp; done) | (go_simp; rfl)); intro gb940 hg w4 hbox hb; have BK940 := Aside0.mk (hbox); have GW940 := Aside0.mk ((by rw [hg]; exact (below_size (upB HB.out)) : w.heap.size ≤ gb940)); have GE940 := Aside0.mk ((by rw [hg]; exact (below_size (upB HB.out)) : w.heap.size ≤ gb940)); replace HB := Aside0.mk (below_step (upB HB.out) hb); clear hb hbox hg) | ((with_reducible refine gate_dst (N := 3) rfl ?_); (try (refine gate_guard (by rfl) ?_; dsimp only)); refine box_event ?hg (N := 3) ?hd (cs := #[.int .i64 a1_0, .int .i64 a1_1, .int .i64 a1_2, .int .i64 a1_3, .int .i64 a1_4, .int .i64 a1_5, .slice A1_6 l1_6.length c1_6]) (t := 67) ?hr ?_; (case hd => rfl); (case hg => rfl); (case hr => first | (go_simp; done) | (go_simp; rfl)); intro gb941 hg w5 hbox hb; have BK941 := Aside0.mk (hbox); have GW941 := Aside0.mk ((by rw [hg]; exact (below_size (upB HB.out)) : w.heap.size ≤ gb941)); have GE941 := Aside0.mk ((by rw [hg]; exact (below_size (upB HB.out)) : w.heap.size ≤ gb941)); replace HB := Aside0.mk (below_step (upB HB.out) hb); have NB940_941 := Aside0.mk ((by rw [hg]; exact Nat.ne_of_lt (blk_lt (upK BK940.out)) : gb940 ≠ gb941)); have NB941_940 := Aside0.mk ((by rw [hg]; exact Nat.ne_of_gt (blk_lt (upK BK940.out)) : gb941 ≠ gb940)); replace BK940 := Aside0.mk (blk_below (g := gb940) (o := .cells #[.int .i64 a0_0, .int .i64 a0_1, .int .i64 a0_2, .int .i64 a0_3, .int .i64 a0_4, .int .i64 a0_5, .slice A0_6 l0_6.length c0_6] 67 (0, 0)) (upK BK940.out) hb); clear hb hbox hg)))
  (try simp only [Act.put, List.setIfInBounds_toArray, List.set_cons_zero, List.set_cons_succ])
  go_cut [33] (fun v33 wc => ∃ (kq : Nat) (x33_2 : Bool), v33 = .bool x33_2 ∧ Aside0 (waveletref23_SameHeader.j0 kq x33_2 a0_0 a0_1 a0_2 a0_3 a0_4 a0_5 l0_6 a1_0 a1_1 a1_2 a1_3 a1_4 a1_5 l1_6 = some r) ∧ Aside0 (kq ≤ k) ∧ Aside0 (wc.heap[gb940]? = some (.cells #[.int .i64 a0_0, .int .i64 a0_1, .int .i64 a0_2, .int .i64 a0_3, .int .i64 a0_4, .int .i64 a0_5, (.slice A0_6 l0_6.length c0_6)] 67 (0, 0))) ∧ Aside0 (wc.heap[gb941]? = some (.cells #[.int .i64 a1_0, .int .i64 a1_1, .int .i64 a1_2, .int .i64 a1_3, .int .i64 a1_4, .int .i64 a1_5, (.slice A1_6 l1_6.length c1_6)] 67 (0, 0))) ∧ Aside0 (Below w.heap.size w wc))
  case first =>
    have H := HC3.out
    clear HC3
    by_cases c6 : (!(a0_0 == a1_0) || (!(a0_1 == a1_1) || (!(a0_2 == a1_2) || (!(a0_3 == a1_3))))) = true
    · rw [if_pos c6] at H
      have c6b0 : (!(a0_0 == a1_0) || (!(a0_1 == a1_1) || (!(a0_2 == a1_2) || (!(a0_3 == a1_3))))) = true := c6
      clear c6
      (first | rw [c6b0] | (simp only [i64_w, i32_w]; rw [c6b0]) | skip)
      have H' := Aside0.mk H
      clear H
      have hnb7 := NB940_941.out
      have hnc7 := NB941_940.out
      have hcz8_0 : w5.cell? ⟨gb940, 0, none⟩ = some (.int .i64 a0_0) := bc BK940 0
      have hcz8_1 : w5.cell? ⟨gb940, 1, none⟩ = some (.int .i64 a0_1) := bc BK940 1
      have hcz8_2 : w5.cell? ⟨gb940, 2, none⟩ = some (.int .i64 a0_2) := bc BK940 2
      have hcz8_3 : w5.cell? ⟨gb940, 3, none⟩ = some (.int .i64 a0_3) := bc BK940 3
      have hcz8_4 : w5.cell? ⟨gb940, 4, none⟩ = some (.int .i64 a0_4) := bc BK940 4
      have hcz8_5 : w5.cell? ⟨gb940, 5, none⟩ = some (.int .i64 a0_5) := bc BK940 5
      have hcz8_6 : w5.cell? ⟨gb940, 6, none⟩ = some (.slice A0_6 l0_6.length c0_6) := bc BK940 6
      have hfz8_0 := blk_frozen BK940.out 0
      have hfz8_1 := blk_frozen BK940.out 1
      have hfz8_2 := blk_frozen BK940.out 2
      have hfz8_3 := blk_frozen BK940.out 3
      have hfz8_4 := blk_frozen BK940.out 4
      have hfz8_5 := blk_frozen BK940.out 5
      have hfz8_6 := blk_frozen BK940.out 6
      have hcz9_0 : w5.cell? ⟨gb941, 0, none⟩ = some (.int .i64 a1_0) := bc BK941 0
      have hcz9_1 : w5.cell? ⟨gb941, 1, none⟩ = some (.int .i64 a1_1) := bc BK941 1
      have hcz9_2 : w5.cell? ⟨gb941, 2, none⟩ = some (.int .i64 a1_2) := bc BK941 2
      have hcz9_3 : w5.cell? ⟨gb941, 3, none⟩ = some (.int .i64 a1_3) := bc BK941 3
      have hcz9_4 : w5.cell? ⟨gb941, 4, none⟩ = some (.int .i64 a1_4) := bc BK941 4
      have hcz9_5 : w5.cell? ⟨gb941, 5, none⟩ = some (.int .i64 a1_5) := bc BK941 5
      have hcz9_6 : w5.cell? ⟨gb941, 6, none⟩ = some (.slice A1_6 l1_6.length c1_6) := bc BK941 6
      have hfz9_0 := blk_frozen BK941.out 0
      have hfz9_1 := blk_frozen BK941.out 1
      have hfz9_2 := blk_frozen BK941.out 2
      have hfz9_3 := blk_frozen BK941.out 3
      have hfz9_4 := blk_frozen BK941.out 4
      have hfz9_5 := blk_frozen BK941.out 5
      have hfz9_6 := blk_frozen BK941.out 6
      go_wp2
      repeat (go_quiet (fail); try go_wp2)
      go_meet
      case rel => exact ⟨_, (true), (by first | rfl | (simp; done) | (simp [*]; done)), H', ⟨by first | omega | exact Nat.le_refl _⟩, ⟨by (with_reducible repeat (first | refine blk_drewN ?_ _ | refine blk_drew ?_ | refine blk_alloc ?_ _)); exact BK940.out⟩, ⟨by (with_reducible repeat (first | refine blk_drewN ?_ _ | refine blk_drew ?_ | refine blk_alloc ?_ _)); exact BK941.out⟩, ⟨by repeat (first | (with_reducible first | exact HB.out | apply below_alloc | apply pw_below_drewN | apply below_drew1 | refine below_set ?_ GE940.out | refine below_set ?_ GE941.out) | exact HB.out)⟩⟩
    · rw [if_neg c6] at H
      have c6b0 : (!(a0_0 == a1_0) || (!(a0_1 == a1_1) || (!(a0_2 == a1_2) || (!(a0_3 == a1_3))))) = false := by simpa using c6
      clear c6
      (first | rw [c6b0] | (simp only [i64_w, i32_w]; rw [c6b0]) | skip)
      by_cases c10 : a0_4 = a1_4
      · rw [if_pos c10] at H
        have c10b0 : (a0_4 == a1_4) = true := beq_iff_eq.mpr c10
        have c10b1 : (a0_4 != a1_4) = false := bne_eq_false_iff_eq.mpr c10
        clear c10
        by_cases c11 : a0_5 = a1_5
        · rw [if_pos c11] at H
          have c11b0 : (a0_5 == a1_5) = true := beq_iff_eq.mpr c11
          have c11b1 : (a0_5 != a1_5) = false := bne_eq_false_iff_eq.mpr c11
          clear c11
          have H' := Aside0.mk H
          clear H
          have hnb12 := NB940_941.out
          have hnc12 := NB941_940.out
          have hcz13_0 : w5.cell? ⟨gb940, 0, none⟩ = some (.int .i64 a0_0) := bc BK940 0
          have hcz13_1 : w5.cell? ⟨gb940, 1, none⟩ = some (.int .i64 a0_1) := bc BK940 1
          have hcz13_2 : w5.cell? ⟨gb940, 2, none⟩ = some (.int .i64 a0_2) := bc BK940 2
          have hcz13_3 : w5.cell? ⟨gb940, 3, none⟩ = some (.int .i64 a0_3) := bc BK940 3
          have hcz13_4 : w5.cell? ⟨gb940, 4, none⟩ = some (.int .i64 a0_4) := bc BK940 4
          have hcz13_5 : w5.cell? ⟨gb940, 5, none⟩ = some (.int .i64 a0_5) := bc BK940 5
          have hcz13_6 : w5.cell? ⟨gb940, 6, none⟩ = some (.slice A0_6 l0_6.length c0_6) := bc BK940 6
          have hfz13_0 := blk_frozen BK940.out 0
          have hfz13_1 := blk_frozen BK940.out 1
          have hfz13_2 := blk_frozen BK940.out 2
          have hfz13_3 := blk_frozen BK940.out 3
          have hfz13_4 := blk_frozen BK940.out 4
          have hfz13_5 := blk_frozen BK940.out 5
          have hfz13_6 := blk_frozen BK940.out 6
          have hcz14_0 : w5.cell? ⟨gb941, 0, none⟩ = some (.int .i64 a1_0) := bc BK941 0
          have hcz14_1 : w5.cell? ⟨gb941, 1, none⟩ = some (.int .i64 a1_1) := bc BK941 1
          have hcz14_2 : w5.cell? ⟨gb941, 2, none⟩ = some (.int .i64 a1_2) := bc BK941 2
          have hcz14_3 : w5.cell? ⟨gb941, 3, none⟩ = some (.int .i64 a1_3) := bc BK941 3
          have hcz14_4 : w5.cell? ⟨gb941, 4, none⟩ = some (.int .i64 a1_4) := bc BK941 4
          have hcz14_5 : w5.cell? ⟨gb941, 5, none⟩ = some (.int .i64 a1_5) := bc BK941 5
          have hcz14_6 : w5.cell? ⟨gb941, 6, none⟩ = some (.slice A1_6 l1_6.length c1_6) := bc BK941 6
          have hfz14_0 := blk_frozen BK941.out 0
          have hfz14_1 := blk_frozen BK941.out 1
          have hfz14_2 := blk_frozen BK941.out 2
          have hfz14_3 := blk_frozen BK941.out 3
          have hfz14_4 := blk_frozen BK941.out 4
          have hfz14_5 := blk_frozen BK941.out 5
          have hfz14_6 := blk_frozen BK941.out 6
          go_wp2
          repeat (go_quiet (fail); try go_wp2)
          go_meet
          case rel => exact ⟨_, (((l0_6.length : Int) != (l1_6.length : Int))), (by first | rfl | (simp; done) | (simp [*]; done)), H', ⟨by first | omega | exact Nat.le_refl _⟩, ⟨by (with_reducible repeat (first | refine blk_drewN ?_ _ | refine blk_drew ?_ | refine blk_alloc ?_ _)); exact BK940.out⟩, ⟨by (with_reducible repeat (first | refine blk_drewN ?_ _ | refine blk_drew ?_ | refine blk_alloc ?_ _)); exact BK941.out⟩, ⟨by repeat (first | (with_reducible first | exact HB.out | apply below_alloc | apply pw_below_drewN | apply below_drew1 | refine below_set ?_ GE940.out | refine below_set ?_ GE941.out) | exact HB.out)⟩⟩
        · rw [if_neg c11] at H
          have c11b0 : (a0_5 == a1_5) = false := beq_eq_false_iff_ne.mpr c11
          have c11b1 : (a0_5 != a1_5) = true := bne_iff_ne.mpr c11
          have H' := Aside0.mk H
          clear H
          have hnb15 := NB940_941.out
          have hnc15 := NB941_940.out
          have hcz16_0 : w5.cell? ⟨gb940, 0, none⟩ = some (.int .i64 a0_0) := bc BK940 0
          have hcz16_1 : w5.cell? ⟨gb940, 1, none⟩ = some (.int .i64 a0_1) := bc BK940 1
          have hcz16_2 : w5.cell? ⟨gb940, 2, none⟩ = some (.int .i64 a0_2) := bc BK940 2
          have hcz16_3 : w5.cell? ⟨gb940, 3, none⟩ = some (.int .i64 a0_3) := bc BK940 3
          have hcz16_4 : w5.cell? ⟨gb940, 4, none⟩ = some (.int .i64 a0_4) := bc BK940 4
          have hcz16_5 : w5.cell? ⟨gb940, 5, none⟩ = some (.int .i64 a0_5) := bc BK940 5
          have hcz16_6 : w5.cell? ⟨gb940, 6, none⟩ = some (.slice A0_6 l0_6.length c0_6) := bc BK940 6
          have hfz16_0 := blk_frozen BK940.out 0
          have hfz16_1 := blk_frozen BK940.out 1
          have hfz16_2 := blk_frozen BK940.out 2
          have hfz16_3 := blk_frozen BK940.out 3
          have hfz16_4 := blk_frozen BK940.out 4
          have hfz16_5 := blk_frozen BK940.out 5
          have hfz16_6 := blk_frozen BK940.out 6
          have hcz17_0 : w5.cell? ⟨gb941, 0, none⟩ = some (.int .i64 a1_0) := bc BK941 0
          have hcz17_1 : w5.cell? ⟨gb941, 1, none⟩ = some (.int .i64 a1_1) := bc BK941 1
          have hcz17_2 : w5.cell? ⟨gb941, 2, none⟩ = some (.int .i64 a1_2) := bc BK941 2
          have hcz17_3 : w5.cell? ⟨gb941, 3, none⟩ = some (.int .i64 a1_3) := bc BK941 3
          have hcz17_4 : w5.cell? ⟨gb941, 4, none⟩ = some (.int .i64 a1_4) := bc BK941 4
          have hcz17_5 : w5.cell? ⟨gb941, 5, none⟩ = some (.int .i64 a1_5) := bc BK941 5
          have hcz17_6 : w5.cell? ⟨gb941, 6, none⟩ = some (.slice A1_6 l1_6.length c1_6) := bc BK941 6
          have hfz17_0 := blk_frozen BK941.out 0
          have hfz17_1 := blk_frozen BK941.out 1
          have hfz17_2 := blk_frozen BK941.out 2
          have hfz17_3 := blk_frozen BK941.out 3
          have hfz17_4 := blk_frozen BK941.out 4
          have hfz17_5 := blk_frozen BK941.out 5
          have hfz17_6 := blk_frozen BK941.out 6
          go_wp2
          repeat (go_quiet (fail); try go_wp2)
          go_meet
          case rel => exact ⟨_, (true), (by first | rfl | (simp; done) | (simp [*]; done)), H', ⟨by first | omega | exact Nat.le_refl _⟩, ⟨by (with_reducible repeat (first | refine blk_drewN ?_ _ | refine blk_drew ?_ | refine blk_alloc ?_ _)); exact BK940.out⟩, ⟨by (with_reducible repeat (first | refine blk_drewN ?_ _ | refine blk_drew ?_ | refine blk_alloc ?_ _)); exact BK941.out⟩, ⟨by repeat (first | (with_reducible first | exact HB.out | apply below_alloc | apply pw_below_drewN | apply below_drew1 | refine below_set ?_ GE940.out | refine below_set ?_ GE941.out) | exact HB.out)⟩⟩
      · rw [if_neg c10] at H
        have c10b0 : (a0_4 == a1_4) = false := beq_eq_false_iff_ne.mpr c10
        have c10b1 : (a0_4 != a1_4) = true := bne_iff_ne.mpr c10
        have H' := Aside0.mk H
        clear H
        have hnb18 := NB940_941.out
        have hnc18 := NB941_940.out
        have hcz19_0 : w5.cell? ⟨gb940, 0, none⟩ = some (.int .i64 a0_0) := bc BK940 0
        have hcz19_1 : w5.cell? ⟨gb940, 1, none⟩ = some (.int .i64 a0_1) := bc BK940 1
        have hcz19_2 : w5.cell? ⟨gb940, 2, none⟩ = some (.int .i64 a0_2) := bc BK940 2
        have hcz19_3 : w5.cell? ⟨gb940, 3, none⟩ = some (.int .i64 a0_3) := bc BK940 3
        have hcz19_4 : w5.cell? ⟨gb940, 4, none⟩ = some (.int .i64 a0_4) := bc BK940 4
        have hcz19_5 : w5.cell? ⟨gb940, 5, none⟩ = some (.int .i64 a0_5) := bc BK940 5
        have hcz19_6 : w5.cell? ⟨gb940, 6, none⟩ = some (.slice A0_6 l0_6.length c0_6) := bc BK940 6
        have hfz19_0 := blk_frozen BK940.out 0
        have hfz19_1 := blk_frozen BK940.out 1
        have hfz19_2 := blk_frozen BK940.out 2
        have hfz19_3 := blk_frozen BK940.out 3
        have hfz19_4 := blk_frozen BK940.out 4
        have hfz19_5 := blk_frozen BK940.out 5
        have hfz19_6 := blk_frozen BK940.out 6
        have hcz20_0 : w5.cell? ⟨gb941, 0, none⟩ = some (.int .i64 a1_0) := bc BK941 0
        have hcz20_1 : w5.cell? ⟨gb941, 1, none⟩ = some (.int .i64 a1_1) := bc BK941 1
        have hcz20_2 : w5.cell? ⟨gb941, 2, none⟩ = some (.int .i64 a1_2) := bc BK941 2
        have hcz20_3 : w5.cell? ⟨gb941, 3, none⟩ = some (.int .i64 a1_3) := bc BK941 3
        have hcz20_4 : w5.cell? ⟨gb941, 4, none⟩ = some (.int .i64 a1_4) := bc BK941 4
        have hcz20_5 : w5.cell? ⟨gb941, 5, none⟩ = some (.int .i64 a1_5) := bc BK941 5
        have hcz20_6 : w5.cell? ⟨gb941, 6, none⟩ = some (.slice A1_6 l1_6.length c1_6) := bc BK941 6
        have hfz20_0 := blk_frozen BK941.out 0
        have hfz20_1 := blk_frozen BK941.out 1
        have hfz20_2 := blk_frozen BK941.out 2
        have hfz20_3 := blk_frozen BK941.out 3
        have hfz20_4 := blk_frozen BK941.out 4
        have hfz20_5 := blk_frozen BK941.out 5
        have hfz20_6 := blk_frozen BK941.out 6
        go_wp2
        repeat (go_quiet (fail); try go_wp2)
        go_meet
        case rel => exact ⟨_, (true), (by first | rfl | (simp; done) | (simp [*]; done)), H', ⟨by first | omega | exact Nat.le_refl _⟩, ⟨by (with_reducible repeat (first | refine blk_drewN ?_ _ | refine blk_drew ?_ | refine blk_alloc ?_ _)); exact BK940.out⟩, ⟨by (with_reducible repeat (first | refine blk_drewN ?_ _ | refine blk_drew ?_ | refine blk_alloc ?_ _)); exact BK941.out⟩, ⟨by repeat (first | (with_reducible first | exact HB.out | apply below_alloc | apply pw_below_drewN | apply below_drew1 | refine below_set ?_ GE940.out | refine below_set ?_ GE941.out) | exact HB.out)⟩⟩
  case rest =>
    clear HC3
    try clear c1
    try clear p2
    try clear c4
    try clear c6
    try clear c6b0
    try clear c7
    try clear c10
    try clear c10b0
    try clear c10b1
    try clear c11
    try clear c11b0
    try clear c11b1
    try clear c12
    try clear c15
    try clear c18
    try clear hcz13_0
    try clear hcz13_1
    try clear hcz13_2
    try clear hcz13_3
    try clear hcz13_4
    try clear hcz13_5
    try clear hcz13_6
    try clear hcz14_0
    try clear hcz14_1
    try clear hcz14_2
    try clear hcz14_3
    try clear hcz14_4
    try clear hcz14_5
    try clear hcz14_6
    try clear hcz16_0
    try clear hcz16_1
    try clear hcz16_2
    try clear hcz16_3
    try clear hcz16_4
    try clear hcz16_5
    try clear hcz16_6
    try clear hcz17_0
    try clear hcz17_1
    try clear hcz17_2
    try clear hcz17_3
    try clear hcz17_4
    try clear hcz17_5
    try clear hcz17_6
    try clear hcz19_0
    try clear hcz19_1
    try clear hcz19_2
    try clear hcz19_3
    try clear hcz19_4
    try clear hcz19_5
    try clear hcz19_6
    try clear hcz20_0
    try clear hcz20_1
    try clear hcz20_2
    try clear hcz20_3
    try clear hcz20_4
    try clear hcz20_5
    try clear hcz20_6
    try clear hcz8_0
    try clear hcz8_1
    try clear hcz8_2
    try clear hcz8_3
    try clear hcz8_4
    try clear hcz8_5
    try clear hcz8_6
    try clear hcz9_0
    try clear hcz9_1
    try clear hcz9_2
    try clear hcz9_3
    try clear hcz9_4
    try clear hcz9_5
    try clear hcz9_6
    try clear hfz13_0
    try clear hfz13_1
    try clear hfz13_2
    try clear hfz13_3
    try clear hfz13_4
    try clear hfz13_5
    try clear hfz13_6
    try clear hfz14_0
    try clear hfz14_1
    try clear hfz14_2
    try clear hfz14_3
    try clear hfz14_4
    try clear hfz14_5
    try clear hfz14_6
    try clear hfz16_0
    try clear hfz16_1
    try clear hfz16_2
    try clear hfz16_3
    try clear hfz16_4
    try clear hfz16_5
    try clear hfz16_6
    try clear hfz17_0
    try clear hfz17_1
    try clear hfz17_2
    try clear hfz17_3
    try clear hfz17_4
    try clear hfz17_5
    try clear hfz17_6
    try clear hfz19_0
    try clear hfz19_1
    try clear hfz19_2
    try clear hfz19_3
    try clear hfz19_4
    try clear hfz19_5
    try clear hfz19_6
    try clear hfz20_0
    try clear hfz20_1
    try clear hfz20_2
    try clear hfz20_3
    try clear hfz20_4
    try clear hfz20_5
    try clear hfz20_6
    try clear hfz8_0
    try clear hfz8_1
    try clear hfz8_2
    try clear hfz8_3
    try clear hfz8_4
    try clear hfz8_5
    try clear hfz8_6
    try clear hfz9_0
    try clear hfz9_1
    try clear hfz9_2
    try clear hfz9_3
    try clear hfz9_4
    try clear hfz9_5
    try clear hfz9_6
    obtain ⟨kq, x33_2, rfl, HA, HJ2, BK940, BK941, HB⟩ := hcut
    cases kq with
    | zero => exact absurd HA.out (by simp [waveletref23_SameHeader.j0])
    | succ kj2 =>
      have H := HA.out
      clear HA
      simp only [waveletref23_SameHeader.j0] at H
      by_cases c21 : x33_2 = true
      · subst c21
        have H1 : (some false) = some r := by rw [if_pos rfl] at H; exact H
        clear H
        have H := H1
        clear H1
        obtain rfl := Option.some.inj H
        go_wp2
        repeat (go_quiet (fail); try go_wp2)
        go_ret
        exact ⟨by first | rfl | (simp [errW_none, errW_some] <;> rfl) | (simp [*, errW_none, errW_some] <;> rfl), by repeat (first | (with_reducible first | exact HB.out | apply below_alloc | apply pw_below_drewN | apply below_drew1 | refine below_set ?_ GE940.out | refine below_set ?_ GE941.out) | exact HB.out)⟩
      · replace c21 := Bool.eq_false_iff.mpr c21
        subst c21
        have H1 : (waveletref23_SameHeader.l0 kj2 0 a0_0 a0_1 a0_2 a0_3 a0_4 a0_5 l0_6 a1_0 a1_1 a1_2 a1_3 a1_4 a1_5 l1_6) = some r := by rw [if_neg (show ¬ (false = true) by decide)] at H; exact H
        clear H
        have H := H1
        clear H1
        have H' := Aside0.mk H
        clear H
        go_wp2
        repeat (go_quiet (fail); try go_wp2)
        go_loopg [5] kj2 (fun kq v5 w' => ∃ (x5_2 : Int), v5 = .int .i64 x5_2 ∧ Aside0 (waveletref23_SameHeader.l0 kq x5_2 a0_0 a0_1 a0_2 a0_3 a0_4 a0_5 l0_6 a1_0 a1_1 a1_2 a1_3 a1_4 a1_5 l1_6 = some r) ∧ Aside0 (kq ≤ kj2) ∧ Aside0 (w'.heap[gb940]? = some (.cells #[.int .i64 a0_0, .int .i64 a0_1, .int .i64 a0_2, .int .i64 a0_3, .int .i64 a0_4, .int .i64 a0_5, (.slice A0_6 l0_6.length c0_6)] 67 (0, 0))) ∧ Aside0 (w'.heap[gb941]? = some (.cells #[.int .i64 a1_0, .int .i64 a1_1, .int .i64 a1_2, .int .i64 a1_3, .int .i64 a1_4, .int .i64 a1_5, (.slice A1_6 l1_6.length c1_6)] 67 (0, 0))) ∧ Aside0 (Below w.heap.size w w'))
        case atStart => exact ⟨(0), (by first | rfl | (simp; done) | (simp [*]; done)), H', ⟨Nat.le_refl _⟩, ⟨by (with_reducible repeat (first | refine blk_drewN ?_ _ | refine blk_drew ?_ | refine blk_alloc ?_ _)); exact BK940.out⟩, ⟨by (with_reducible repeat (first | refine blk_drewN ?_ _ | refine blk_drew ?_ | refine blk_alloc ?_ _)); exact BK941.out⟩, ⟨by repeat (first | (with_reducible first | exact HB.out | apply below_alloc | apply pw_below_drewN | apply below_drew1 | refine below_set ?_ GE940.out | refine below_set ?_ GE941.out) | exact HB.out)⟩⟩
        case round =>
          clear H'
          try clear c1
          try clear c2
          try clear p2
          try clear c4
          try clear c6
          try clear c6b0
          try clear c7
          try clear c10
          try clear c10b0
          try clear c10b1
          try clear c11
          try clear c11b0
          try clear c11b1
          try clear c12
          try clear c15
          try clear c18
          try clear c21
          try clear hcz13_0
          try clear hcz13_1
          try clear hcz13_2
          try clear hcz13_3
          try clear hcz13_4
          try clear hcz13_5
          try clear hcz13_6
          try clear hcz14_0
          try clear hcz14_1
          try clear hcz14_2
          try clear hcz14_3
          try clear hcz14_4
          try clear hcz14_5
          try clear hcz14_6
          try clear hcz16_0
          try clear hcz16_1
          try clear hcz16_2
          try clear hcz16_3
          try clear hcz16_4
          try clear hcz16_5
          try clear hcz16_6
          try clear hcz17_0
          try clear hcz17_1
          try clear hcz17_2
          try clear hcz17_3
          try clear hcz17_4
          try clear hcz17_5
          try clear hcz17_6
          try clear hcz19_0
          try clear hcz19_1
          try clear hcz19_2
          try clear hcz19_3
          try clear hcz19_4
          try clear hcz19_5
          try clear hcz19_6
          try clear hcz20_0
          try clear hcz20_1
          try clear hcz20_2
          try clear hcz20_3
          try clear hcz20_4
          try clear hcz20_5
          try clear hcz20_6
          try clear hcz8_0
          try clear hcz8_1
          try clear hcz8_2
          try clear hcz8_3
          try clear hcz8_4
          try clear hcz8_5
          try clear hcz8_6
          try clear hcz9_0
          try clear hcz9_1
          try clear hcz9_2
          try clear hcz9_3
          try clear hcz9_4
          try clear hcz9_5
          try clear hcz9_6
          try clear hfz13_0
          try clear hfz13_1
          try clear hfz13_2
          try clear hfz13_3
          try clear hfz13_4
          try clear hfz13_5
          try clear hfz13_6
          try clear hfz14_0
          try clear hfz14_1
          try clear hfz14_2
          try clear hfz14_3
          try clear hfz14_4
          try clear hfz14_5
          try clear hfz14_6
          try clear hfz16_0
          try clear hfz16_1
          try clear hfz16_2
          try clear hfz16_3
          try clear hfz16_4
          try clear hfz16_5
          try clear hfz16_6
          try clear hfz17_0
          try clear hfz17_1
          try clear hfz17_2
          try clear hfz17_3
          try clear hfz17_4
          try clear hfz17_5
          try clear hfz17_6
          try clear hfz19_0
          try clear hfz19_1
          try clear hfz19_2
          try clear hfz19_3
          try clear hfz19_4
          try clear hfz19_5
          try clear hfz19_6
          try clear hfz20_0
          try clear hfz20_1
          try clear hfz20_2
          try clear hfz20_3
          try clear hfz20_4
          try clear hfz20_5
          try clear hfz20_6
          try clear hfz8_0
          try clear hfz8_1
          try clear hfz8_2
          try clear hfz8_3
          try clear hfz8_4
          try clear hfz8_5
          try clear hfz8_6
          try clear hfz9_0
          try clear hfz9_1
          try clear hfz9_2
          try clear hfz9_3
          try clear hfz9_4
          try clear hfz9_5
          try clear hfz9_6
          try clear p2
          obtain ⟨x5_2, rfl, HA, HK2, BK940, BK941, HB⟩ := hrel
          cases gk with
          | zero => exact absurd HA.out (by simp [waveletref23_SameHeader.l0])
          | succ k2 =>
            have H := HA.out
            clear HA
            simp only [waveletref23_SameHeader.l0] at H
            by_cases c22 : x5_2 < (l0_6.length : Int)
            · rw [if_pos c22] at H
              have c22b0 : decide (x5_2 < (l0_6.length : Int)) = true := decide_eq_true c22
              clear c22
              by_cases c23 : 0 ≤ x5_2
              · rw [if_pos c23] at H
                have c23b0 : decide (0 ≤ x5_2) = true := decide_eq_true c23
                clear c23
                by_cases c24 : x5_2 < (l1_6.length : Int)
                · rw [if_pos c24] at H
                  have c24b0 : decide (x5_2 < (l1_6.length : Int)) = true := decide_eq_true c24
                  clear c24
                  by_cases c25 : (!(((rd_T97 l0_6 x5_2).f0) == ((rd_T97 l1_6 x5_2).f0)) || (!(((rd_T97 l0_6 x5_2).f1) == ((rd_T97 l1_6 x5_2).f1)) || (!(((rd_T97 l0_6 x5_2).f2) == ((rd_T97 l1_6 x5_2).f2)) || (!(((rd_T97 l0_6 x5_2).f3) == ((rd_T97 l1_6 x5_2).f3)))))) = true
                  · rw [if_pos c25] at H
                    have c25b0 : (!(((rd_T97 l0_6 x5_2).f0) == ((rd_T97 l1_6 x5_2).f0)) || (!(((rd_T97 l0_6 x5_2).f1) == ((rd_T97 l1_6 x5_2).f1)) || (!(((rd_T97 l0_6 x5_2).f2) == ((rd_T97 l1_6 x5_2).f2)) || (!(((rd_T97 l0_6 x5_2).f3) == ((rd_T97 l1_6 x5_2).f3)))))) = true := c25
                    clear c25
                    obtain rfl := Option.some.inj H
                    have hnb26 := NB940_941.out
                    have hnc26 := NB941_940.out
                    have hcz27_0 : wr.cell? ⟨gb940, 0, none⟩ = some (.int .i64 a0_0) := bc BK940 0
                    have hcz27_1 : wr.cell? ⟨gb940, 1, none⟩ = some (.int .i64 a0_1) := bc BK940 1
                    have hcz27_2 : wr.cell? ⟨gb940, 2, none⟩ = some (.int .i64 a0_2) := bc BK940 2
                    have hcz27_3 : wr.cell? ⟨gb940, 3, none⟩ = some (.int .i64 a0_3) := bc BK940 3
                    have hcz27_4 : wr.cell? ⟨gb940, 4, none⟩ = some (.int .i64 a0_4) := bc BK940 4
                    have hcz27_5 : wr.cell? ⟨gb940, 5, none⟩ = some (.int .i64 a0_5) := bc BK940 5
                    have hcz27_6 : wr.cell? ⟨gb940, 6, none⟩ = some (.slice A0_6 l0_6.length c0_6) := bc BK940 6
                    have hfz27_0 := blk_frozen BK940.out 0
                    have hfz27_1 := blk_frozen BK940.out 1
                    have hfz27_2 := blk_frozen BK940.out 2
                    have hfz27_3 := blk_frozen BK940.out 3
                    have hfz27_4 := blk_frozen BK940.out 4
                    have hfz27_5 := blk_frozen BK940.out 5
                    have hfz27_6 := blk_frozen BK940.out 6
                    have p942 : 0 ≤ (x5_2 : Int) := of_decide_eq_true (by first | (with_reducible assumption) | assumption)
                    have q942 : x5_2 < (l0_6.length : Int) := of_decide_eq_true (by first | (with_reducible assumption) | assumption)
                    obtain ⟨ad942, e942, hx942_0, hx942_1, hx942_2, hx942_3⟩ := at_T97 HR0_6.out x5_2 p942 q942
                    cases e942
                    replace hx942_0 := hc HB hx942_0
                    replace hx942_1 := hc HB hx942_1
                    replace hx942_2 := hc HB hx942_2
                    replace hx942_3 := hc HB hx942_3
                    replace p942 := eq_true p942
                    replace q942 := eq_true q942
                    have hcz28_0 : wr.cell? ⟨gb941, 0, none⟩ = some (.int .i64 a1_0) := bc BK941 0
                    have hcz28_1 : wr.cell? ⟨gb941, 1, none⟩ = some (.int .i64 a1_1) := bc BK941 1
                    have hcz28_2 : wr.cell? ⟨gb941, 2, none⟩ = some (.int .i64 a1_2) := bc BK941 2
                    have hcz28_3 : wr.cell? ⟨gb941, 3, none⟩ = some (.int .i64 a1_3) := bc BK941 3
                    have hcz28_4 : wr.cell? ⟨gb941, 4, none⟩ = some (.int .i64 a1_4) := bc BK941 4
                    have hcz28_5 : wr.cell? ⟨gb941, 5, none⟩ = some (.int .i64 a1_5) := bc BK941 5
                    have hcz28_6 : wr.cell? ⟨gb941, 6, none⟩ = some (.slice A1_6 l1_6.length c1_6) := bc BK941 6
                    have hfz28_0 := blk_frozen BK941.out 0
                    have hfz28_1 := blk_frozen BK941.out 1
                    have hfz28_2 := blk_frozen BK941.out 2
                    have hfz28_3 := blk_frozen BK941.out 3
                    have hfz28_4 := blk_frozen BK941.out 4
                    have hfz28_5 := blk_frozen BK941.out 5
                    have hfz28_6 := blk_frozen BK941.out 6
                    have p943 : 0 ≤ (x5_2 : Int) := of_decide_eq_true (by first | (with_reducible assumption) | assumption)
                    have q943 : x5_2 < (l1_6.length : Int) := of_decide_eq_true (by first | (with_reducible assumption) | assumption)
                    obtain ⟨ad943, e943, hx943_0, hx943_1, hx943_2, hx943_3⟩ := at_T97 HR1_6.out x5_2 p943 q943
                    cases e943
                    replace hx943_0 := hc HB hx943_0
                    replace hx943_1 := hc HB hx943_1
                    replace hx943_2 := hc HB hx943_2
                    replace hx943_3 := hc HB hx943_3
                    replace p943 := eq_true p943
                    replace q943 := eq_true q943
                    go_wp2
                    repeat (go_quiet (fail); try go_wp2)
                    go_ret
                    exact ⟨by first | rfl | (simp [errW_none, errW_some] <;> rfl) | (simp [*, errW_none, errW_some] <;> rfl), by repeat (first | (with_reducible first | exact HB.out | apply below_alloc | apply pw_below_drewN | apply below_drew1 | refine below_set ?_ GE940.out | refine below_set ?_ GE941.out) | exact HB.out)⟩
                  · rw [if_neg c25] at H
                    have c25b0 : (!(((rd_T97 l0_6 x5_2).f0) == ((rd_T97 l1_6 x5_2).f0)) || (!(((rd_T97 l0_6 x5_2).f1) == ((rd_T97 l1_6 x5_2).f1)) || (!(((rd_T97 l0_6 x5_2).f2) == ((rd_T97 l1_6 x5_2).f2)) || (!(((rd_T97 l0_6 x5_2).f3) == ((rd_T97 l1_6 x5_2).f3)))))) = false := by simpa using c25
                    clear c25
                    have H' := Aside0.mk H
                    clear H
                    have hnb29 := NB940_941.out
                    have hnc29 := NB941_940.out
                    have hcz30_0 : wr.cell? ⟨gb940, 0, none⟩ = some (.int .i64 a0_0) := bc BK940 0
                    have hcz30_1 : wr.cell? ⟨gb940, 1, none⟩ = some (.int .i64 a0_1) := bc BK940 1
                    have hcz30_2 : wr.cell? ⟨gb940, 2, none⟩ = some (.int .i64 a0_2) := bc BK940 2
                    have hcz30_3 : wr.cell? ⟨gb940, 3, none⟩ = some (.int .i64 a0_3) := bc BK940 3
                    have hcz30_4 : wr.cell? ⟨gb940, 4, none⟩ = some (.int .i64 a0_4) := bc BK940 4
                    have hcz30_5 : wr.cell? ⟨gb940, 5, none⟩ = some (.int .i64 a0_5) := bc BK940 5
                    have hcz30_6 : wr.cell? ⟨gb940, 6, none⟩ = some (.slice A0_6 l0_6.length c0_6) := bc BK940 6
                    have hfz30_0 := blk_frozen BK940.out 0
                    have hfz30_1 := blk_frozen BK940.out 1
                    have hfz30_2 := blk_frozen BK940.out 2
                    have hfz30_3 := blk_frozen BK940.out 3
                    have hfz30_4 := blk_frozen BK940.out 4
                    have hfz30_5 := blk_frozen BK940.out 5
                    have hfz30_6 := blk_frozen BK940.out 6
                    have p942 : 0 ≤ (x5_2 : Int) := of_decide_eq_true (by first | (with_reducible assumption) | assumption)
                    have q942 : x5_2 < (l0_6.length : Int) := of_decide_eq_true (by first | (with_reducible assumption) | assumption)
                    obtain ⟨ad942, e942, hx942_0, hx942_1, hx942_2, hx942_3⟩ := at_T97 HR0_6.out x5_2 p942 q942
                    cases e942
                    replace hx942_0 := hc HB hx942_0
                    replace hx942_1 := hc HB hx942_1
                    replace hx942_2 := hc HB hx942_2
                    replace hx942_3 := hc HB hx942_3
                    replace p942 := eq_true p942
                    replace q942 := eq_true q942
                    have hcz31_0 : wr.cell? ⟨gb941, 0, none⟩ = some (.int .i64 a1_0) := bc BK941 0
                    have hcz31_1 : wr.cell? ⟨gb941, 1, none⟩ = some (.int .i64 a1_1) := bc BK941 1
                    have hcz31_2 : wr.cell? ⟨gb941, 2, none⟩ = some (.int .i64 a1_2) := bc BK941 2
                    have hcz31_3 : wr.cell? ⟨gb941, 3, none⟩ = some (.int .i64 a1_3) := bc BK941 3
                    have hcz31_4 : wr.cell? ⟨gb941, 4, none⟩ = some (.int .i64 a1_4) := bc BK941 4
                    have hcz31_5 : wr.cell? ⟨gb941, 5, none⟩ = some (.int .i64 a1_5) := bc BK941 5
                    have hcz31_6 : wr.cell? ⟨gb941, 6, none⟩ = some (.slice A1_6 l1_6.length c1_6) := bc BK941 6
                    have hfz31_0 := blk_frozen BK941.out 0
                    have hfz31_1 := blk_frozen BK941.out 1
                    have hfz31_2 := blk_frozen BK941.out 2
                    have hfz31_3 := blk_frozen BK941.out 3
                    have hfz31_4 := blk_frozen BK941.out 4
                    have hfz31_5 := blk_frozen BK941.out 5
                    have hfz31_6 := blk_frozen BK941.out 6
                    have p943 : 0 ≤ (x5_2 : Int) := of_decide_eq_true (by first | (with_reducible assumption) | assumption)
                    have q943 : x5_2 < (l1_6.length : Int) := of_decide_eq_true (by first | (with_reducible assumption) | assumption)
                    obtain ⟨ad943, e943, hx943_0, hx943_1, hx943_2, hx943_3⟩ := at_T97 HR1_6.out x5_2 p943 q943
                    cases e943
                    replace hx943_0 := hc HB hx943_0
                    replace hx943_1 := hc HB hx943_1
                    replace hx943_2 := hc HB hx943_2
                    replace hx943_3 := hc HB hx943_3
                    replace p943 := eq_true p943
                    replace q943 := eq_true q943
                    go_wp2
                    repeat (go_quiet (fail); try go_wp2)
                    go_roundg k2
                    case measure => have := HJ2.out; have := HK2.out; omega
                    case rel => exact ⟨(wrap64 (x5_2 + 1)), (by first | rfl | (simp; done) | (simp [*]; done)), H', ⟨by have := HJ2.out; have := HK2.out; omega⟩, ⟨by (with_reducible repeat (first | refine blk_drewN ?_ _ | refine blk_drew ?_ | refine blk_alloc ?_ _)); exact BK940.out⟩, ⟨by (with_reducible repeat (first | refine blk_drewN ?_ _ | refine blk_drew ?_ | refine blk_alloc ?_ _)); exact BK941.out⟩, ⟨by repeat (first | (with_reducible first | exact HB.out | apply below_alloc | apply pw_below_drewN | apply below_drew1 | refine below_set ?_ GE940.out | refine below_set ?_ GE941.out) | exact HB.out)⟩⟩
                · rw [if_neg c24] at H
                  exact absurd H (by simp)
              · rw [if_neg c23] at H
                exact absurd H (by simp)
            · rw [if_neg c22] at H
              have c22b0 : decide (x5_2 < (l0_6.length : Int)) = false := decide_eq_false c22
              clear c22
              obtain rfl := Option.some.inj H
              have hnb32 := NB940_941.out
              have hnc32 := NB941_940.out
              have hcz33_0 : wr.cell? ⟨gb940, 0, none⟩ = some (.int .i64 a0_0) := bc BK940 0
              have hcz33_1 : wr.cell? ⟨gb940, 1, none⟩ = some (.int .i64 a0_1) := bc BK940 1
              have hcz33_2 : wr.cell? ⟨gb940, 2, none⟩ = some (.int .i64 a0_2) := bc BK940 2
              have hcz33_3 : wr.cell? ⟨gb940, 3, none⟩ = some (.int .i64 a0_3) := bc BK940 3
              have hcz33_4 : wr.cell? ⟨gb940, 4, none⟩ = some (.int .i64 a0_4) := bc BK940 4
              have hcz33_5 : wr.cell? ⟨gb940, 5, none⟩ = some (.int .i64 a0_5) := bc BK940 5
              have hcz33_6 : wr.cell? ⟨gb940, 6, none⟩ = some (.slice A0_6 l0_6.length c0_6) := bc BK940 6
              have hfz33_0 := blk_frozen BK940.out 0
              have hfz33_1 := blk_frozen BK940.out 1
              have hfz33_2 := blk_frozen BK940.out 2
              have hfz33_3 := blk_frozen BK940.out 3
              have hfz33_4 := blk_frozen BK940.out 4
              have hfz33_5 := blk_frozen BK940.out 5
              have hfz33_6 := blk_frozen BK940.out 6
              go_wp2
              repeat (go_quiet (fail); try go_wp2)
              go_ret
              exact ⟨by first | rfl | (simp [errW_none, errW_some] <;> rfl) | (simp [*, errW_none, errW_some] <;> rfl), by repeat (first | (with_reducible first | exact HB.out | apply below_alloc | apply pw_below_drewN | apply below_drew1 | refine below_set ?_ GE940.out | refine below_set ?_ GE941.out) | exact HB.out)⟩

end Go.Proofs.Ytihfopblmjgfaaa.Q

/- The law function HeadsegRestores. Printed by wip/tools/genLawR.py of this session. -/
namespace Go.Proofs.Ytihfopblmjgfaaa.Q
open Go.RowKit Go.Proofs.YtihfopblmjgfaaaW.PrintWords Go.Proofs.YtihfopblmjgfaaaW.PrintLast Go.Proofs.YtihfopblmjgfaaaW.PrintMore
set_option linter.unusedVariables false
set_option linter.unusedSimpArgs false

open Classical in
noncomputable def restT (k : Nat) (a2_0 a2_1 a2_2 a2_3 : Int) : Option Bool :=
  (headseg_Tile.f k a2_0 a2_1 a2_2 a2_3).bind fun d => if d.2.2 = 0 then (headseg_ParseTile.f k d.1 d.2.1).bind fun v => if v = (a2_0, a2_1, a2_2, a2_3, 0) then waveletlaw29_awake.f k else none else waveletlaw29_awake.f k
open Classical in
noncomputable def restP (k : Nat) (a1_0 : Int) (a1_1 : Int) (a1_2 : Int) (a1_3 : Int) (a1_4 : Int) (l1_5 : List S89) (a1_6 : Int) (a1_7 : Int) (a1_8 : Bool) (a1_9 : Bool) (a1_10 : Bool) (a1_11 : Bool) (a1_12 : Bool) (a1_13 : Bool) (a1_14 : Bool) (a1_15 : Bool) (l1_16 : List Int) (a1_17 : Int) (a1_18 : Int) (a2_0 a2_1 a2_2 a2_3 : Int) : Option Bool :=
  (headseg_Coding.f k a1_0 a1_1 a1_2 a1_3 a1_4 l1_5 a1_6 a1_7 a1_8 a1_9 a1_10 a1_11 a1_12 a1_13 a1_14 a1_15 l1_16 a1_17 a1_18).bind fun b => (headseg_Quant.f k a1_0 a1_1 a1_2 a1_3 a1_4 l1_5 a1_6 a1_7 a1_8 a1_9 a1_10 a1_11 a1_12 a1_13 a1_14 a1_15 l1_16 a1_17 a1_18).bind fun c => if b.2.2 = 0 ∧ c.2.2 = 0 then (headseg_ParseCoding.f k b.1 b.2.1).bind fun q => if q.2.2.2.2.2.2.2.2.2.2.2.2.2.2.2.2.2.2.2 = 0 ∧ q.2.2.2.2.2.2.2.2.2.2.2.2.2.2.2.2.1 = [] ∧ q.2.2.2.2.2.2.2.2.2.2.2.2.2.2.2.2.2.1 = 0 then (headseg_ParseQuant.f k c.1 c.2.1 q.1 q.2.1 q.2.2.1 q.2.2.2.1 q.2.2.2.2.1 q.2.2.2.2.2.1 q.2.2.2.2.2.2.1 q.2.2.2.2.2.2.2.1 q.2.2.2.2.2.2.2.2.1 q.2.2.2.2.2.2.2.2.2.1 q.2.2.2.2.2.2.2.2.2.2.1 q.2.2.2.2.2.2.2.2.2.2.2.1 q.2.2.2.2.2.2.2.2.2.2.2.2.1 q.2.2.2.2.2.2.2.2.2.2.2.2.2.1 q.2.2.2.2.2.2.2.2.2.2.2.2.2.2.1 q.2.2.2.2.2.2.2.2.2.2.2.2.2.2.2.1 q.2.2.2.2.2.2.2.2.2.2.2.2.2.2.2.2.1 q.2.2.2.2.2.2.2.2.2.2.2.2.2.2.2.2.2.1 q.2.2.2.2.2.2.2.2.2.2.2.2.2.2.2.2.2.2.1).bind fun v => if v = (a1_0, a1_1, a1_2, a1_3, a1_4, l1_5, a1_6, a1_7, a1_8, a1_9, a1_10, a1_11, a1_12, a1_13, a1_14, a1_15, l1_16, a1_17, a1_18, 0) then restT k a2_0 a2_1 a2_2 a2_3 else none else none else restT k a2_0 a2_1 a2_2 a2_3
open Classical in
noncomputable def waveletlaw29_HeadsegRestores.f (k : Nat) (a0_0 : Int) (a0_1 : Int) (a0_2 : Int) (a0_3 : Int) (a0_4 : Int) (a0_5 : Int) (l0_6 : List (S97)) (a1_0 : Int) (a1_1 : Int) (a1_2 : Int) (a1_3 : Int) (a1_4 : Int) (l1_5 : List (S89)) (a1_6 : Int) (a1_7 : Int) (a1_8 : Bool) (a1_9 : Bool) (a1_10 : Bool) (a1_11 : Bool) (a1_12 : Bool) (a1_13 : Bool) (a1_14 : Bool) (a1_15 : Bool) (l1_16 : List Int) (a1_17 : Int) (a1_18 : Int) (a2_0 : Int) (a2_1 : Int) (a2_2 : Int) (a2_3 : Int) : Option (Bool) :=
  if (l0_6.length : Int) > 10 then waveletlaw29_awake.f k else if (l1_16.length : Int) > 40 then waveletlaw29_awake.f k else if (l1_5.length : Int) > 40 then waveletlaw29_awake.f k else
    (headseg_Size.f k a0_0 a0_1 a0_2 a0_3 a0_4 a0_5 l0_6).bind fun a => if a.2.2 = 0 then (headseg_ParseSize.f k a.1 a.2.1).bind fun g => if g = (a0_0, a0_1, a0_2, a0_3, a0_4, a0_5, l0_6, 0) then (waveletref23_SameHeader.f k a0_0 a0_1 a0_2 a0_3 a0_4 a0_5 l0_6 a0_0 a0_1 a0_2 a0_3 a0_4 a0_5 l0_6).bind fun t => if t = true then restP k a1_0 a1_1 a1_2 a1_3 a1_4 l1_5 a1_6 a1_7 a1_8 a1_9 a1_10 a1_11 a1_12 a1_13 a1_14 a1_15 l1_16 a1_17 a1_18 a2_0 a2_1 a2_2 a2_3 else none else none else restP k a1_0 a1_1 a1_2 a1_3 a1_4 l1_5 a1_6 a1_7 a1_8 a1_9 a1_10 a1_11 a1_12 a1_13 a1_14 a1_15 l1_16 a1_17 a1_18 a2_0 a2_1 a2_2 a2_3
theorem restT_h {k : Nat} {a2_0 a2_1 a2_2 a2_3 : Int} (h : restT k a2_0 a2_1 a2_2 a2_3 = some true) : ∃ d1 d2 d3, headseg_Tile.f k a2_0 a2_1 a2_2 a2_3 = some (d1, d2, d3) ∧ waveletlaw29_awake.f k = some true ∧ (d3 = 0 → headseg_ParseTile.f k d1 d2 = some (a2_0, a2_1, a2_2, a2_3, 0)) := by
  unfold restT at h
  obtain ⟨⟨d1, d2, d3⟩, hd, h⟩ := Option.bind_eq_some_iff.mp h
  refine ⟨d1, d2, d3, hd, ?_⟩
  by_cases e : d3 = 0
  · rw [if_pos e] at h
    obtain ⟨v, hv, h⟩ := Option.bind_eq_some_iff.mp h
    by_cases e2 : v = (a2_0, a2_1, a2_2, a2_3, 0)
    · rw [if_pos e2] at h
      exact ⟨h, fun _ => e2 ▸ hv⟩
    · rw [if_neg e2] at h; cases h
  · rw [if_neg e] at h
    exact ⟨h, fun e' => absurd e' e⟩
theorem restP_h {k : Nat} {a1_0 : Int} {a1_1 : Int} {a1_2 : Int} {a1_3 : Int} {a1_4 : Int} {l1_5 : List S89} {a1_6 : Int} {a1_7 : Int} {a1_8 : Bool} {a1_9 : Bool} {a1_10 : Bool} {a1_11 : Bool} {a1_12 : Bool} {a1_13 : Bool} {a1_14 : Bool} {a1_15 : Bool} {l1_16 : List Int} {a1_17 : Int} {a1_18 : Int} {a2_0 a2_1 a2_2 a2_3 : Int} (h : restP k a1_0 a1_1 a1_2 a1_3 a1_4 l1_5 a1_6 a1_7 a1_8 a1_9 a1_10 a1_11 a1_12 a1_13 a1_14 a1_15 l1_16 a1_17 a1_18 a2_0 a2_1 a2_2 a2_3 = some true) : ∃ b1 b2 b3 x1 x2 x3, headseg_Coding.f k a1_0 a1_1 a1_2 a1_3 a1_4 l1_5 a1_6 a1_7 a1_8 a1_9 a1_10 a1_11 a1_12 a1_13 a1_14 a1_15 l1_16 a1_17 a1_18 = some (b1, b2, b3) ∧ headseg_Quant.f k a1_0 a1_1 a1_2 a1_3 a1_4 l1_5 a1_6 a1_7 a1_8 a1_9 a1_10 a1_11 a1_12 a1_13 a1_14 a1_15 l1_16 a1_17 a1_18 = some (x1, x2, x3) ∧ restT k a2_0 a2_1 a2_2 a2_3 = some true ∧ (b3 = 0 ∧ x3 = 0 → ∃ s0 s1 s2 s3 s4 s5 s6 s7 s8 s9 s10 s11 s12 s13 s14 s15 s18, headseg_ParseCoding.f k b1 b2 = some (s0, s1, s2, s3, s4, s5, s6, s7, s8, s9, s10, s11, s12, s13, s14, s15, [], 0, s18, 0) ∧ headseg_ParseQuant.f k x1 x2 s0 s1 s2 s3 s4 s5 s6 s7 s8 s9 s10 s11 s12 s13 s14 s15 [] 0 s18 = some (a1_0, a1_1, a1_2, a1_3, a1_4, l1_5, a1_6, a1_7, a1_8, a1_9, a1_10, a1_11, a1_12, a1_13, a1_14, a1_15, l1_16, a1_17, a1_18, 0)) := by
  unfold restP at h
  obtain ⟨⟨b1, b2, b3⟩, hb, h⟩ := Option.bind_eq_some_iff.mp h
  obtain ⟨⟨x1, x2, x3⟩, hx, h⟩ := Option.bind_eq_some_iff.mp h
  refine ⟨b1, b2, b3, x1, x2, x3, hb, hx, ?_⟩
  by_cases e : b3 = 0 ∧ x3 = 0
  · rw [if_pos e] at h
    obtain ⟨⟨s0, s1, s2, s3, s4, s5, s6, s7, s8, s9, s10, s11, s12, s13, s14, s15, s16, s17, s18, se⟩, hq, h⟩ := Option.bind_eq_some_iff.mp h
    by_cases e2 : se = 0 ∧ s16 = [] ∧ s17 = 0
    · rw [if_pos e2] at h
      obtain ⟨rfl, rfl, rfl⟩ := e2
      obtain ⟨v, hv, h⟩ := Option.bind_eq_some_iff.mp h
      by_cases e3 : v = (a1_0, a1_1, a1_2, a1_3, a1_4, l1_5, a1_6, a1_7, a1_8, a1_9, a1_10, a1_11, a1_12, a1_13, a1_14, a1_15, l1_16, a1_17, a1_18, 0)
      · rw [if_pos e3] at h
        exact ⟨h, fun _ => ⟨_, _, _, _, _, _, _, _, _, _, _, _, _, _, _, _, _, hq, e3 ▸ hv⟩⟩
      · rw [if_neg e3] at h; cases h
    · rw [if_neg e2] at h; cases h
  · rw [if_neg e] at h
    exact ⟨h, fun e' => absurd e' e⟩
theorem rest_h {A : Option (Int × List Int × Int)} {G : Int → List Int → Option (Int × Int × Int × Int × Int × Int × List S97 × Int)} {v : Int × Int × Int × Int × Int × Int × List S97 × Int} {S p : Option Bool} {I : ∀ g, Decidable (g = v)} (h : (A.bind fun a => if a.2.2 = 0 then (G a.1 a.2.1).bind fun g => @ite _ (g = v) (I g) (S.bind fun t => if t = true then p else none) none else p) = some true) : ∃ q1 q2 q3, A = some (q1, q2, q3) ∧ p = some true ∧ (q3 = 0 → G q1 q2 = some v ∧ S = some true) := by
  obtain ⟨⟨q1, q2, q3⟩, ha, h⟩ := Option.bind_eq_some_iff.mp h
  refine ⟨q1, q2, q3, ha, ?_⟩
  by_cases e : q3 = 0
  · rw [if_pos e] at h
    obtain ⟨g, hg, h⟩ := Option.bind_eq_some_iff.mp h
    by_cases e2 : g = v
    · rw [if_pos e2] at h
      obtain ⟨t, ht, h⟩ := Option.bind_eq_some_iff.mp h
      cases t
      · simp at h
      · exact ⟨by simpa using h, fun _ => ⟨e2 ▸ hg, ht⟩⟩
    · rw [if_neg e2] at h; cases h
  · rw [if_neg e] at h
    exact ⟨h, fun e' => absurd e' e⟩
theorem Bks.tl' {n : Nat} {w0 W : World} {x : Nat × Nat × Array Value} {l : List (Nat × Nat × Array Value)} (h : Bks n w0 W (x :: l)) : Bks n w0 W l := h.tl
set_option maxHeartbeats 8000000 in
set_option maxRecDepth 100000 in
theorem waveletlaw29_HeadsegRestores.calls (k : Nat) (a0_0 : Int) (a0_1 : Int) (a0_2 : Int) (a0_3 : Int) (a0_4 : Int) (a0_5 : Int) (A0_6 : Option Addr) (c0_6 : Nat) (l0_6 : List (S97)) (a1_0 : Int) (a1_1 : Int) (a1_2 : Int) (a1_3 : Int) (a1_4 : Int) (A1_5 : Option Addr) (c1_5 : Nat) (l1_5 : List (S89)) (a1_6 : Int) (a1_7 : Int) (a1_8 : Bool) (a1_9 : Bool) (a1_10 : Bool) (a1_11 : Bool) (a1_12 : Bool) (a1_13 : Bool) (a1_14 : Bool) (a1_15 : Bool) (A1_16 : Option Addr) (c1_16 : Nat) (l1_16 : List Int) (a1_17 : Int) (a1_18 : Int) (a2_0 : Int) (a2_1 : Int) (a2_2 : Int) (a2_3 : Int) (r : Bool) (hr_ : r = true) (w : World) (hr0_6 : Kd.C k97 w A0_6 l0_6.length l0_6) (hc0_6 : l0_6.length ≤ c0_6) (hr1_5 : Kd.C k89 w A1_5 l1_5.length l1_5) (hc1_5 : l1_5.length ≤ c1_5) (hr1_16 : Kd.C (Kd.int .i64) w A1_16 l1_16.length l1_16) (hc1_16 : l1_16.length ≤ c1_16) (h : waveletlaw29_HeadsegRestores.f k a0_0 a0_1 a0_2 a0_3 a0_4 a0_5 l0_6 a1_0 a1_1 a1_2 a1_3 a1_4 l1_5 a1_6 a1_7 a1_8 a1_9 a1_10 a1_11 a1_12 a1_13 a1_14 a1_15 l1_16 a1_17 a1_18 a2_0 a2_1 a2_2 a2_3 = some r) :
    Calls Try.prog 9 #[.agg #[.int .i64 a0_0, .int .i64 a0_1, .int .i64 a0_2, .int .i64 a0_3, .int .i64 a0_4, .int .i64 a0_5, .slice A0_6 l0_6.length c0_6], .agg #[.int .i64 a1_0, .int .i64 a1_1, .int .i64 a1_2, .int .i64 a1_3, .int .i64 a1_4, .slice A1_5 l1_5.length c1_5, .int .i64 a1_6, .int .i64 a1_7, .bool a1_8, .bool a1_9, .bool a1_10, .bool a1_11, .bool a1_12, .bool a1_13, .bool a1_14, .bool a1_15, .slice A1_16 l1_16.length c1_16, .int .i64 a1_17, .int .i64 a1_18], .agg #[.int .i64 a2_0, .int .i64 a2_1, .int .i64 a2_2, .int .i64 a2_3]] w fun e w' => e = .returned (.bool r) ∧ Below w.heap.size w w' := by
  subst hr_
  have HR06 := Aside0.mk hr0_6
  have HR15 := Aside0.mk hr1_5
  have HR116 := Aside0.mk hr1_16
  have HC06 := Aside0.mk hc0_6
  have HC15 := Aside0.mk hc1_5
  have HC116 := Aside0.mk hc1_16
  clear hr0_6 hr1_5 hr1_16 hc0_6 hc1_5 hc1_16
  have K00 := Aside0.mk (Bks.nil w)
  go_enter Try.func9, Try.ntmps9
  unfold waveletlaw29_HeadsegRestores.f at h
  by_cases h0 : (l0_6.length : Int) > 10
  · rw [if_pos h0] at h
    have HA := Aside0.mk h
    clear h
    have d0 : decide (10 < (l0_6.length : Int)) = true := decide_eq_true (by omega)
    have e0 : decide (10 < l0_6.length) = true := decide_eq_true (by omega)
    clear h0
    go_wp2_with (first | ((with_reducible refine gate_dst (N := 3) rfl ?_); refine box_event ?hg (N := 3) ?hd (cs := #[.int .i64 a0_0, .int .i64 a0_1, .int .i64 a0_2, .int .i64 a0_3, .int .i64 a0_4, .int .i64 a0_5, .slice A0_6 l0_6.length c0_6]) (t := 67) ?hr ?_; (case hd => rfl); (case hg => rfl); (case hr => first | (go_simp; done) | (go_simp; rfl)); intro g3 hg W3 hbox hb; have K0 := Aside0.mk (K00.out.box (Nat.le_refl _) hg hbox hb); clear hg hbox hb K00) | ((with_reducible refine gate_dst (N := 4) rfl ?_); refine box_event ?hg (N := 4) ?hd (cs := #[.int .i64 a1_0, .int .i64 a1_1, .int .i64 a1_2, .int .i64 a1_3, .int .i64 a1_4, .slice A1_5 l1_5.length c1_5, .int .i64 a1_6, .int .i64 a1_7, .bool a1_8, .bool a1_9, .bool a1_10, .bool a1_11, .bool a1_12, .bool a1_13, .bool a1_14, .bool a1_15, .slice A1_16 l1_16.length c1_16, .int .i64 a1_17, .int .i64 a1_18]) (t := 55) ?hr ?_; (case hd => rfl); (case hg => rfl); (case hr => first | (go_simp; done) | (go_simp; rfl)); intro g4 hg W4 hbox hb; have K1 := Aside0.mk (K0.out.box (below_size K0.out.below) hg hbox hb); clear hg hbox hb K0) | ((with_reducible refine gate_dst (N := 5) rfl ?_); refine box_event ?hg (N := 5) ?hd (cs := #[.int .i64 a2_0, .int .i64 a2_1, .int .i64 a2_2, .int .i64 a2_3]) (t := 23) ?hr ?_; (case hd => rfl); (case hg => rfl); (case hr => first | (go_simp; done) | (go_simp; rfl)); intro g5 hg W5 hbox hb; have K := Aside0.mk (K1.out.box (below_size K1.out.below) hg hbox hb); clear hg hbox hb K1; have hz6 : W5.cell? ⟨g3, 6, none⟩ = some (.slice A0_6 l0_6.length c0_6) := K.out.cell 2 rfl 6 rfl; have hz16 : W5.cell? ⟨g4, 16, none⟩ = some (.slice A1_16 l1_16.length c1_16) := K.out.cell 1 rfl 16 rfl; have hz5 : W5.cell? ⟨g4, 5, none⟩ = some (.slice A1_5 l1_5.length c1_5) := K.out.cell 1 rfl 5 rfl) | (go_at_call 12; refine (waveletlaw29_awake.calls k true _ HA.out).mono ?_; rintro _ w' ⟨rfl, b⟩; have Kw := Aside0.mk (K.out.call (below_size K.out.below) b); clear b))
    go_ret
    exact ⟨rfl, Kw.out.below⟩
  rw [if_neg h0] at h
  by_cases h1 : (l1_16.length : Int) > 40
  · rw [if_pos h1] at h
    have HA := Aside0.mk h
    clear h
    have d0 : decide (10 < (l0_6.length : Int)) = false := decide_eq_false (by omega)
    have e0 : decide (10 < l0_6.length) = false := decide_eq_false (by omega)
    have d1 : decide (40 < (l1_16.length : Int)) = true := decide_eq_true (by omega)
    have e1 : decide (40 < l1_16.length) = true := decide_eq_true (by omega)
    clear h0 h1
    go_wp2_with (first | ((with_reducible refine gate_dst (N := 3) rfl ?_); refine box_event ?hg (N := 3) ?hd (cs := #[.int .i64 a0_0, .int .i64 a0_1, .int .i64 a0_2, .int .i64 a0_3, .int .i64 a0_4, .int .i64 a0_5, .slice A0_6 l0_6.length c0_6]) (t := 67) ?hr ?_; (case hd => rfl); (case hg => rfl); (case hr => first | (go_simp; done) | (go_simp; rfl)); intro g3 hg W3 hbox hb; have K0 := Aside0.mk (K00.out.box (Nat.le_refl _) hg hbox hb); clear hg hbox hb K00) | ((with_reducible refine gate_dst (N := 4) rfl ?_); refine box_event ?hg (N := 4) ?hd (cs := #[.int .i64 a1_0, .int .i64 a1_1, .int .i64 a1_2, .int .i64 a1_3, .int .i64 a1_4, .slice A1_5 l1_5.length c1_5, .int .i64 a1_6, .int .i64 a1_7, .bool a1_8, .bool a1_9, .bool a1_10, .bool a1_11, .bool a1_12, .bool a1_13, .bool a1_14, .bool a1_15, .slice A1_16 l1_16.length c1_16, .int .i64 a1_17, .int .i64 a1_18]) (t := 55) ?hr ?_; (case hd => rfl); (case hg => rfl); (case hr => first | (go_simp; done) | (go_simp; rfl)); intro g4 hg W4 hbox hb; have K1 := Aside0.mk (K0.out.box (below_size K0.out.below) hg hbox hb); clear hg hbox hb K0) | ((with_reducible refine gate_dst (N := 5) rfl ?_); refine box_event ?hg (N := 5) ?hd (cs := #[.int .i64 a2_0, .int .i64 a2_1, .int .i64 a2_2, .int .i64 a2_3]) (t := 23) ?hr ?_; (case hd => rfl); (case hg => rfl); (case hr => first | (go_simp; done) | (go_simp; rfl)); intro g5 hg W5 hbox hb; have K := Aside0.mk (K1.out.box (below_size K1.out.below) hg hbox hb); clear hg hbox hb K1; have hz6 : W5.cell? ⟨g3, 6, none⟩ = some (.slice A0_6 l0_6.length c0_6) := K.out.cell 2 rfl 6 rfl; have hz16 : W5.cell? ⟨g4, 16, none⟩ = some (.slice A1_16 l1_16.length c1_16) := K.out.cell 1 rfl 16 rfl; have hz5 : W5.cell? ⟨g4, 5, none⟩ = some (.slice A1_5 l1_5.length c1_5) := K.out.cell 1 rfl 5 rfl) | (go_at_call 12; refine (waveletlaw29_awake.calls k true _ HA.out).mono ?_; rintro _ w' ⟨rfl, b⟩; have Kw := Aside0.mk (K.out.call (below_size K.out.below) b); clear b))
    go_ret
    exact ⟨rfl, Kw.out.below⟩
  rw [if_neg h1] at h
  by_cases h2 : (l1_5.length : Int) > 40
  · rw [if_pos h2] at h
    have HA := Aside0.mk h
    clear h
    have d0 : decide (10 < (l0_6.length : Int)) = false := decide_eq_false (by omega)
    have e0 : decide (10 < l0_6.length) = false := decide_eq_false (by omega)
    have d1 : decide (40 < (l1_16.length : Int)) = false := decide_eq_false (by omega)
    have e1 : decide (40 < l1_16.length) = false := decide_eq_false (by omega)
    have d2 : decide (40 < (l1_5.length : Int)) = true := decide_eq_true (by omega)
    have e2 : decide (40 < l1_5.length) = true := decide_eq_true (by omega)
    clear h0 h1 h2
    go_wp2_with (first | ((with_reducible refine gate_dst (N := 3) rfl ?_); refine box_event ?hg (N := 3) ?hd (cs := #[.int .i64 a0_0, .int .i64 a0_1, .int .i64 a0_2, .int .i64 a0_3, .int .i64 a0_4, .int .i64 a0_5, .slice A0_6 l0_6.length c0_6]) (t := 67) ?hr ?_; (case hd => rfl); (case hg => rfl); (case hr => first | (go_simp; done) | (go_simp; rfl)); intro g3 hg W3 hbox hb; have K0 := Aside0.mk (K00.out.box (Nat.le_refl _) hg hbox hb); clear hg hbox hb K00) | ((with_reducible refine gate_dst (N := 4) rfl ?_); refine box_event ?hg (N := 4) ?hd (cs := #[.int .i64 a1_0, .int .i64 a1_1, .int .i64 a1_2, .int .i64 a1_3, .int .i64 a1_4, .slice A1_5 l1_5.length c1_5, .int .i64 a1_6, .int .i64 a1_7, .bool a1_8, .bool a1_9, .bool a1_10, .bool a1_11, .bool a1_12, .bool a1_13, .bool a1_14, .bool a1_15, .slice A1_16 l1_16.length c1_16, .int .i64 a1_17, .int .i64 a1_18]) (t := 55) ?hr ?_; (case hd => rfl); (case hg => rfl); (case hr => first | (go_simp; done) | (go_simp; rfl)); intro g4 hg W4 hbox hb; have K1 := Aside0.mk (K0.out.box (below_size K0.out.below) hg hbox hb); clear hg hbox hb K0) | ((with_reducible refine gate_dst (N := 5) rfl ?_); refine box_event ?hg (N := 5) ?hd (cs := #[.int .i64 a2_0, .int .i64 a2_1, .int .i64 a2_2, .int .i64 a2_3]) (t := 23) ?hr ?_; (case hd => rfl); (case hg => rfl); (case hr => first | (go_simp; done) | (go_simp; rfl)); intro g5 hg W5 hbox hb; have K := Aside0.mk (K1.out.box (below_size K1.out.below) hg hbox hb); clear hg hbox hb K1; have hz6 : W5.cell? ⟨g3, 6, none⟩ = some (.slice A0_6 l0_6.length c0_6) := K.out.cell 2 rfl 6 rfl; have hz16 : W5.cell? ⟨g4, 16, none⟩ = some (.slice A1_16 l1_16.length c1_16) := K.out.cell 1 rfl 16 rfl; have hz5 : W5.cell? ⟨g4, 5, none⟩ = some (.slice A1_5 l1_5.length c1_5) := K.out.cell 1 rfl 5 rfl) | (go_at_call 12; refine (waveletlaw29_awake.calls k true _ HA.out).mono ?_; rintro _ w' ⟨rfl, b⟩; have Kw := Aside0.mk (K.out.call (below_size K.out.below) b); clear b))
    go_ret
    exact ⟨rfl, Kw.out.below⟩
  rw [if_neg h2] at h
  have d0 : decide (10 < (l0_6.length : Int)) = false := decide_eq_false (by omega)
  have e0 : decide (10 < l0_6.length) = false := decide_eq_false (by omega)
  have d1 : decide (40 < (l1_16.length : Int)) = false := decide_eq_false (by omega)
  have e1 : decide (40 < l1_16.length) = false := decide_eq_false (by omega)
  have d2 : decide (40 < (l1_5.length : Int)) = false := decide_eq_false (by omega)
  have e2 : decide (40 < l1_5.length) = false := decide_eq_false (by omega)
  clear h0 h1 h2
  obtain ⟨q1, q2, q3, ha, hp, hg⟩ := rest_h h
  obtain ⟨b1, b2, b3, x1, x2, x3, hb, hx, ht, hq⟩ := restP_h hp
  obtain ⟨d1, d2, d3, hd, hA, hv⟩ := restT_h ht
  have Ha := Aside0.mk ha
  have Hg := Aside0.mk hg
  have Hb := Aside0.mk hb
  have Hx := Aside0.mk hx
  have Hq := Aside0.mk hq
  have Hd := Aside0.mk hd
  have HA := Aside0.mk hA
  have Hv := Aside0.mk hv
  clear h ha hp hg hb hx ht hq hd hA hv
  go_wp2_with (first | ((with_reducible refine gate_dst (N := 3) rfl ?_); refine box_event ?hg (N := 3) ?hd (cs := #[.int .i64 a0_0, .int .i64 a0_1, .int .i64 a0_2, .int .i64 a0_3, .int .i64 a0_4, .int .i64 a0_5, .slice A0_6 l0_6.length c0_6]) (t := 67) ?hr ?_; (case hd => rfl); (case hg => rfl); (case hr => first | (go_simp; done) | (go_simp; rfl)); intro g3 hg W3 hbox hb; have K0 := Aside0.mk (K00.out.box (Nat.le_refl _) hg hbox hb); clear hg hbox hb K00) | ((with_reducible refine gate_dst (N := 4) rfl ?_); refine box_event ?hg (N := 4) ?hd (cs := #[.int .i64 a1_0, .int .i64 a1_1, .int .i64 a1_2, .int .i64 a1_3, .int .i64 a1_4, .slice A1_5 l1_5.length c1_5, .int .i64 a1_6, .int .i64 a1_7, .bool a1_8, .bool a1_9, .bool a1_10, .bool a1_11, .bool a1_12, .bool a1_13, .bool a1_14, .bool a1_15, .slice A1_16 l1_16.length c1_16, .int .i64 a1_17, .int .i64 a1_18]) (t := 55) ?hr ?_; (case hd => rfl); (case hg => rfl); (case hr => first | (go_simp; done) | (go_simp; rfl)); intro g4 hg W4 hbox hb; have K1 := Aside0.mk (K0.out.box (below_size K0.out.below) hg hbox hb); clear hg hbox hb K0) | ((with_reducible refine gate_dst (N := 5) rfl ?_); refine box_event ?hg (N := 5) ?hd (cs := #[.int .i64 a2_0, .int .i64 a2_1, .int .i64 a2_2, .int .i64 a2_3]) (t := 23) ?hr ?_; (case hd => rfl); (case hg => rfl); (case hr => first | (go_simp; done) | (go_simp; rfl)); intro g5 hg W5 hbox hb; have K := Aside0.mk (K1.out.box (below_size K1.out.below) hg hbox hb); clear hg hbox hb K1; have hz6 : W5.cell? ⟨g3, 6, none⟩ = some (.slice A0_6 l0_6.length c0_6) := K.out.cell 2 rfl 6 rfl; have hz16 : W5.cell? ⟨g4, 16, none⟩ = some (.slice A1_16 l1_16.length c1_16) := K.out.cell 1 rfl 16 rfl; have hz5 : W5.cell? ⟨g4, 5, none⟩ = some (.slice A1_5 l1_5.length c1_5) := K.out.cell 1 rfl 5 rfl) | ((with_reducible refine gate_dst (N := 40) rfl ?_); refine load_ev rfl 67 (.tmp 3) rfl rfl (K.out.get 2 rfl) Try.underlying67 rfl ?_) | (go_at_call 37; fail))
  clear hz6 hz16 hz5
  refine (headseg_Size.calls k a0_0 a0_1 a0_2 a0_3 a0_4 a0_5 A0_6 c0_6 l0_6 q1 q2 q3 _ (Kd.C_below HR06.out K.out.below) HC06.out Ha.out).mono ?_
  rintro _ w3 ⟨v1, rfl, r1, b⟩
  obtain ⟨Aa, ca, rfl⟩ := Kd.R_slice r1
  have Ra := Aside0.mk (Kd.R_lower r1 (below_size K.out.below))
  have K' := Aside0.mk (K.out.call (below_size K.out.below) b)
  clear K
  have K := K'
  clear K'
  clear b r1
  go_upto_if 45 with (first | ((with_reducible refine gate_dst (N := 7) rfl ?_); refine box_event ?hg (N := 7) ?hd (cs := #[.int .i64 0, .slice none 0 0]) (t := 26) ?hr ?_; (case hd => rfl); (case hg => rfl); (case hr => first | (go_simp; done) | (go_simp; rfl)); intro g7 hg W7 hbox hb; have Ra' := Aside0.mk (Kd.R_below Ra.out hb); clear Ra; have Ra := Ra'; clear Ra'; have K' := Aside0.mk (K.out.box (below_size K.out.below) hg hbox hb); clear K; have K := K'; clear K'; clear hg hbox hb) | ((with_reducible refine gate_store (t := 26) (p := 7) (v := .tmp 42) rfl ?_); refine store_ev rfl rfl 26 (.tmp 7) (.tmp 42) rfl rfl rfl (K.out.get 0 rfl) rfl rfl (by first | (kernel_rfl) | (simp [Value.oneCell'])) ?_; intro S42 hs; have Ra' := Aside0.mk (row_stored Ra.out (K.out.get 0 rfl) (by decide) hs); clear Ra; have Ra := Ra'; clear Ra'; have K' := Aside0.mk (K.out.stored 0 rfl hs); clear K; have K := K'; clear K'; clear hs))
  go_cut [] (fun wc => Aside0 (Bks w.heap.size w wc [(g5, 23, #[.int .i64 a2_0, .int .i64 a2_1, .int .i64 a2_2, .int .i64 a2_3]), (g4, 55, #[.int .i64 a1_0, .int .i64 a1_1, .int .i64 a1_2, .int .i64 a1_3, .int .i64 a1_4, .slice A1_5 l1_5.length c1_5, .int .i64 a1_6, .int .i64 a1_7, .bool a1_8, .bool a1_9, .bool a1_10, .bool a1_11, .bool a1_12, .bool a1_13, .bool a1_14, .bool a1_15, .slice A1_16 l1_16.length c1_16, .int .i64 a1_17, .int .i64 a1_18]), (g3, 67, #[.int .i64 a0_0, .int .i64 a0_1, .int .i64 a0_2, .int .i64 a0_3, .int .i64 a0_4, .int .i64 a0_5, .slice A0_6 l0_6.length c0_6])]))
  case first =>
    by_cases he : q3 = 0
    rotate_left
    · have hb0 : (q3 == 0) = false := beq_eq_false_iff_ne.mpr he
      (try rw [hb0])
      go_wp2
      go_meet
      case rel => exact ⟨K.out.tl⟩
    obtain ⟨hG, hS⟩ := Hg.out he
    have HG := Aside0.mk hG
    have HS := Aside0.mk hS
    clear hG hS
    subst he
    go_wp2_with (first | ((with_reducible refine gate_dst (N := 47) rfl ?_); refine load_ev rfl 26 (.tmp 7) rfl rfl (K.out.get 0 rfl) Try.underlying26 rfl ?_) | (go_at_call 39; fail))
    refine (headseg_ParseSize.calls k q1 Aa ca q2 a0_0 a0_1 a0_2 a0_3 a0_4 a0_5 l0_6 0 _ (Kd.R_reads' Ra.out).2.2 (Kd.R_reads' Ra.out).2.1 HG.out).mono ?_
    rintro _ w4 ⟨v1, rfl, r1, b⟩
    obtain ⟨Ag, cg, rfl⟩ := Kd.R_slice r1
    have Ra' := Aside0.mk (Kd.R_below Ra.out b)
    clear Ra
    have Ra := Ra'
    clear Ra'
    have Rg := Aside0.mk (Kd.R_lower r1 (below_size K.out.below))
    have K' := Aside0.mk (K.out.call (below_size K.out.below) b)
    clear K
    have K := K'
    clear K'
    clear b r1
    go_wp2_with (first | ((with_reducible refine gate_dst (N := 9) rfl ?_); refine box_event ?hg (N := 9) ?hd (cs := #[.int .i64 0, .int .i64 0, .int .i64 0, .int .i64 0, .int .i64 0, .int .i64 0, .slice none 0 0]) (t := 67) ?hr ?_; (case hd => rfl); (case hg => rfl); (case hr => first | (go_simp; done) | (go_simp; rfl)); intro g9 hg W9 hbox hb; have Ra' := Aside0.mk (Kd.R_below Ra.out hb); clear Ra; have Ra := Ra'; clear Ra'; have Rg' := Aside0.mk (Kd.R_below Rg.out hb); clear Rg; have Rg := Rg'; clear Rg'; have K' := Aside0.mk (K.out.box (below_size K.out.below) hg hbox hb); clear K; have K := K'; clear K'; clear hg hbox hb) | ((with_reducible refine gate_store (t := 67) (p := 9) (v := .tmp 49) rfl ?_); refine store_ev rfl rfl 67 (.tmp 9) (.tmp 49) rfl rfl rfl (K.out.get 0 rfl) rfl rfl (by first | (kernel_rfl) | (simp [Value.oneCell'])) ?_; intro S49 hs; have Ra' := Aside0.mk (row_stored Ra.out (K.out.get 0 rfl) (by decide) hs); clear Ra; have Ra := Ra'; clear Ra'; have Rg' := Aside0.mk (row_stored Rg.out (K.out.get 0 rfl) (by decide) hs); clear Rg; have Rg := Rg'; clear Rg'; have K' := Aside0.mk (K.out.stored 0 rfl hs); clear K; have K := K'; clear K'; clear hs) | ((with_reducible refine gate_dst (N := 54) rfl ?_); (try (refine gate_guard (by rfl) ?_; dsimp only)); refine load_ev rfl 67 (.tmp 9) rfl rfl (K.out.get 0 rfl) Try.underlying67 rfl ?_) | ((with_reducible refine gate_dst (N := 55) rfl ?_); (try (refine gate_guard (by rfl) ?_; dsimp only)); refine load_ev rfl 67 (.tmp 3) rfl rfl (K.out.get 4 rfl) Try.underlying67 rfl ?_) | (go_at_call 41; fail))
    refine (waveletref23_SameHeader.calls k a0_0 a0_1 a0_2 a0_3 a0_4 a0_5 Ag cg l0_6 a0_0 a0_1 a0_2 a0_3 a0_4 a0_5 A0_6 c0_6 l0_6 true _ (Kd.R_reads' Rg.out).2.2 (Kd.R_reads' Rg.out).2.1 (Kd.C_below HR06.out K.out.below) HC06.out HS.out).mono ?_
    rintro _ w5 ⟨rfl, b⟩
    have Ra' := Aside0.mk (Kd.R_below Ra.out b)
    clear Ra
    have Ra := Ra'
    clear Ra'
    have Rg' := Aside0.mk (Kd.R_below Rg.out b)
    clear Rg
    have Rg := Rg'
    clear Rg'
    have K' := Aside0.mk (K.out.call (below_size K.out.below) b)
    clear K
    have K := K'
    clear K'
    clear b 
    go_wp2
    go_meet
    case rel => exact ⟨K.out.tl.tl⟩
  case rest =>
  clear K Ra Ha Hg
  have K := hcut
  clear hcut
  generalize wc = wA at *
  go_wp2_with (first | ((with_reducible refine gate_dst (N := 60) rfl ?_); refine load_ev rfl 55 (.tmp 4) rfl rfl (K.out.get 1 rfl) Try.underlying55 rfl ?_) | (go_at_call 33; fail))
  refine (headseg_Coding.calls k a1_0 a1_1 a1_2 a1_3 a1_4 A1_5 c1_5 l1_5 a1_6 a1_7 a1_8 a1_9 a1_10 a1_11 a1_12 a1_13 a1_14 a1_15 A1_16 c1_16 l1_16 a1_17 a1_18 b1 b2 b3 _ (Kd.C_below HR15.out K.out.below) HC15.out (Kd.C_below HR116.out K.out.below) HC116.out Hb.out).mono ?_
  rintro _ w6 ⟨v1, rfl, r1, b⟩
  obtain ⟨Ab, cb, rfl⟩ := Kd.R_slice r1
  have Rb := Aside0.mk (Kd.R_lower r1 (below_size K.out.below))
  have K' := Aside0.mk (K.out.call (below_size K.out.below) b)
  clear K
  have K := K'
  clear K'
  clear b r1
  go_wp2_with (first | ((with_reducible refine gate_dst (N := 11) rfl ?_); refine box_event ?hg (N := 11) ?hd (cs := #[.int .i64 0, .slice none 0 0]) (t := 26) ?hr ?_; (case hd => rfl); (case hg => rfl); (case hr => first | (go_simp; done) | (go_simp; rfl)); intro g11 hg W11 hbox hb; have Rb' := Aside0.mk (Kd.R_below Rb.out hb); clear Rb; have Rb := Rb'; clear Rb'; have K' := Aside0.mk (K.out.box (below_size K.out.below) hg hbox hb); clear K; have K := K'; clear K'; clear hg hbox hb) | ((with_reducible refine gate_store (t := 26) (p := 11) (v := .tmp 62) rfl ?_); refine store_ev rfl rfl 26 (.tmp 11) (.tmp 62) rfl rfl rfl (K.out.get 0 rfl) rfl rfl (by first | (kernel_rfl) | (simp [Value.oneCell'])) ?_; intro S62 hs; have Rb' := Aside0.mk (row_stored Rb.out (K.out.get 0 rfl) (by decide) hs); clear Rb; have Rb := Rb'; clear Rb'; have K' := Aside0.mk (K.out.stored 0 rfl hs); clear K; have K := K'; clear K'; clear hs) | ((with_reducible refine gate_dst (N := 65) rfl ?_); refine load_ev rfl 55 (.tmp 4) rfl rfl (K.out.get 2 rfl) Try.underlying55 rfl ?_) | (go_at_call 28; fail))
  refine (headseg_Quant.calls k a1_0 a1_1 a1_2 a1_3 a1_4 A1_5 c1_5 l1_5 a1_6 a1_7 a1_8 a1_9 a1_10 a1_11 a1_12 a1_13 a1_14 a1_15 A1_16 c1_16 l1_16 a1_17 a1_18 x1 x2 x3 _ (Kd.C_below HR15.out K.out.below) HC15.out (Kd.C_below HR116.out K.out.below) HC116.out Hx.out).mono ?_
  rintro _ w7 ⟨v1, rfl, r1, b⟩
  obtain ⟨Ax, cx, rfl⟩ := Kd.R_slice r1
  have Rb' := Aside0.mk (Kd.R_below Rb.out b)
  clear Rb
  have Rb := Rb'
  clear Rb'
  have Rx := Aside0.mk (Kd.R_lower r1 (below_size K.out.below))
  have K' := Aside0.mk (K.out.call (below_size K.out.below) b)
  clear K
  have K := K'
  clear K'
  clear b r1
  go_upto_region 10 with (first | ((with_reducible refine gate_dst (N := 12) rfl ?_); refine box_event ?hg (N := 12) ?hd (cs := #[.int .i64 0, .slice none 0 0]) (t := 26) ?hr ?_; (case hd => rfl); (case hg => rfl); (case hr => first | (go_simp; done) | (go_simp; rfl)); intro g12 hg W12 hbox hb; have Rb' := Aside0.mk (Kd.R_below Rb.out hb); clear Rb; have Rb := Rb'; clear Rb'; have Rx' := Aside0.mk (Kd.R_below Rx.out hb); clear Rx; have Rx := Rx'; clear Rx'; have K' := Aside0.mk (K.out.box (below_size K.out.below) hg hbox hb); clear K; have K := K'; clear K'; clear hg hbox hb) | ((with_reducible refine gate_store (t := 26) (p := 12) (v := .tmp 67) rfl ?_); refine store_ev rfl rfl 26 (.tmp 12) (.tmp 67) rfl rfl rfl (K.out.get 0 rfl) rfl rfl (by first | (kernel_rfl) | (simp [Value.oneCell'])) ?_; intro S67 hs; have Rb' := Aside0.mk (row_stored Rb.out (K.out.get 0 rfl) (by decide) hs); clear Rb; have Rb := Rb'; clear Rb'; have Rx' := Aside0.mk (row_stored Rx.out (K.out.get 0 rfl) (by decide) hs); clear Rx; have Rx := Rx'; clear Rx'; have K' := Aside0.mk (K.out.stored 0 rfl hs); clear K; have K := K'; clear K'; clear hs))
  go_cut [74] (fun v74 wc => v74 = .bool (decide (b3 = 0 ∧ x3 = 0)) ∧ wc = S67)
  case first =>
    by_cases h1 : b3 = 0
    · have hb0 : (b3 == 0) = true := beq_iff_eq.mpr h1
      by_cases h2 : x3 = 0
      · have hb1 : (x3 == 0) = true := beq_iff_eq.mpr h2
        go_wp2
        go_meet
        case rel => exact ⟨by simp [h1, h2], rfl⟩
      · have hb1 : (x3 == 0) = false := beq_eq_false_iff_ne.mpr h2
        go_wp2
        go_meet
        case rel => exact ⟨by simp [h1, h2], rfl⟩
    · have hb0 : (b3 == 0) = false := beq_eq_false_iff_ne.mpr h1
      go_wp2
      go_meet
      case rel => exact ⟨by simp [h1], rfl⟩
  case rest =>
  obtain ⟨rfl, rfl⟩ := hcut
  go_upto_if 74 with (fail)
  go_cut [] (fun wc => Aside0 (Bks w.heap.size w wc [(g5, 23, #[.int .i64 a2_0, .int .i64 a2_1, .int .i64 a2_2, .int .i64 a2_3]), (g4, 55, #[.int .i64 a1_0, .int .i64 a1_1, .int .i64 a1_2, .int .i64 a1_3, .int .i64 a1_4, .slice A1_5 l1_5.length c1_5, .int .i64 a1_6, .int .i64 a1_7, .bool a1_8, .bool a1_9, .bool a1_10, .bool a1_11, .bool a1_12, .bool a1_13, .bool a1_14, .bool a1_15, .slice A1_16 l1_16.length c1_16, .int .i64 a1_17, .int .i64 a1_18]), (g3, 67, #[.int .i64 a0_0, .int .i64 a0_1, .int .i64 a0_2, .int .i64 a0_3, .int .i64 a0_4, .int .i64 a0_5, .slice A0_6 l0_6.length c0_6])]))
  case first =>
    by_cases h3 : b3 = 0 ∧ x3 = 0
    rotate_left
    · rw [decide_eq_false h3]
      go_wp2
      go_meet
      case rel => exact ⟨K.out.tl.tl⟩
    rw [decide_eq_true h3]
    obtain ⟨s0, s1, s2, s3, s4, s5, s6, s7, s8, s9, s10, s11, s12, s13, s14, s15, s18, hq, hv⟩ := Hq.out h3
    obtain ⟨rfl, rfl⟩ := h3
    have Hq1 := Aside0.mk hq
    have Hv1 := Aside0.mk hv
    clear hq hv
    go_wp2_with (first | ((with_reducible refine gate_dst (N := 76) rfl ?_); refine load_ev rfl 26 (.tmp 11) rfl rfl (K.out.get 1 rfl) Try.underlying26 rfl ?_) | (go_at_call 35; fail))
    refine (headseg_ParseCoding.calls k b1 Ab cb b2 s0 s1 s2 s3 s4 s5 s6 s7 s8 s9 s10 s11 s12 s13 s14 s15 [] 0 s18 0 _ (Kd.R_reads' Rb.out).2.2 (Kd.R_reads' Rb.out).2.1 Hq1.out).mono ?_
    rintro _ w8 ⟨v5, v16, rfl, r5, r16, b⟩
    obtain ⟨Aq5, cq5, rfl⟩ := Kd.R_slice r5
    obtain ⟨Aq16, cq16, e16⟩ := Kd.R_slice r16
    replace e16 : v16 = .slice Aq16 0 cq16 := e16
    subst e16
    have Rb' := Aside0.mk (Kd.R_below Rb.out b)
    clear Rb
    have Rb := Rb'
    clear Rb'
    have Rx' := Aside0.mk (Kd.R_below Rx.out b)
    clear Rx
    have Rx := Rx'
    clear Rx'
    have Rq5 := Aside0.mk (Kd.R_lower r5 (below_size K.out.below))
    have Rq16 := Aside0.mk (Kd.R_lower r16 (below_size K.out.below))
    have K' := Aside0.mk (K.out.call (below_size K.out.below) b)
    clear K
    have K := K'
    clear K'
    clear b r5 r16
    go_wp2_with (first | ((with_reducible refine gate_dst (N := 14) rfl ?_); refine box_event ?hg (N := 14) ?hd (cs := #[.int .i64 0, .int .i64 0, .int .i64 0, .int .i64 0, .int .i64 0, .slice none 0 0, .int .i64 0, .int .i64 0, .bool false, .bool false, .bool false, .bool false, .bool false, .bool false, .bool false, .bool false, .slice none 0 0, .int .i64 0, .int .i64 0]) (t := 55) ?hr ?_; (case hd => rfl); (case hg => rfl); (case hr => first | (go_simp; done) | (go_simp; rfl)); intro g14 hg W14 hbox hb; have Rb' := Aside0.mk (Kd.R_below Rb.out hb); clear Rb; have Rb := Rb'; clear Rb'; have Rx' := Aside0.mk (Kd.R_below Rx.out hb); clear Rx; have Rx := Rx'; clear Rx'; have Rq5' := Aside0.mk (Kd.R_below Rq5.out hb); clear Rq5; have Rq5 := Rq5'; clear Rq5'; have Rq16' := Aside0.mk (Kd.R_below Rq16.out hb); clear Rq16; have Rq16 := Rq16'; clear Rq16'; have K' := Aside0.mk (K.out.box (below_size K.out.below) hg hbox hb); clear K; have K := K'; clear K'; clear hg hbox hb) | ((with_reducible refine gate_store (t := 55) (p := 14) (v := .tmp 78) rfl ?_); refine store_ev rfl rfl 55 (.tmp 14) (.tmp 78) rfl rfl rfl (K.out.get 0 rfl) rfl rfl (by first | (kernel_rfl) | (simp [Value.oneCell'])) ?_; intro S78 hs; have Rb' := Aside0.mk (row_stored Rb.out (K.out.get 0 rfl) (by decide) hs); clear Rb; have Rb := Rb'; clear Rb'; have Rx' := Aside0.mk (row_stored Rx.out (K.out.get 0 rfl) (by decide) hs); clear Rx; have Rx := Rx'; clear Rx'; have Rq5' := Aside0.mk (row_stored Rq5.out (K.out.get 0 rfl) (by decide) hs); clear Rq5; have Rq5 := Rq5'; clear Rq5'; have Rq16' := Aside0.mk (row_stored Rq16.out (K.out.get 0 rfl) (by decide) hs); clear Rq16; have Rq16 := Rq16'; clear Rq16'; have K' := Aside0.mk (K.out.stored 0 rfl hs); clear K; have K := K'; clear K'; clear hs; have z16 : S78.cell? ⟨g14, 16, none⟩ = some (.slice Aq16 0 cq16) := K.out.cell 0 rfl 16 rfl; have z17 : S78.cell? ⟨g14, 17, none⟩ = some (.int .i64 0) := K.out.cell 0 rfl 17 rfl) | ((with_reducible refine gate_dst (N := 94) rfl ?_); refine load_ev rfl 26 (.tmp 12) rfl rfl (K.out.get 1 rfl) Try.underlying26 rfl ?_) | ((with_reducible refine gate_dst (N := 95) rfl ?_); refine load_ev rfl 55 (.tmp 14) rfl rfl (K.out.get 0 rfl) Try.underlying55 rfl ?_) | (go_at_call 30; fail))
    clear z16 z17
    refine (headseg_ParseQuant.calls k x1 Ax cx x2 s0 s1 s2 s3 s4 Aq5 cq5 s5 s6 s7 s8 s9 s10 s11 s12 s13 s14 s15 Aq16 cq16 [] 0 s18 a1_0 a1_1 a1_2 a1_3 a1_4 l1_5 a1_6 a1_7 a1_8 a1_9 a1_10 a1_11 a1_12 a1_13 a1_14 a1_15 l1_16 a1_17 a1_18 0 _ (Kd.R_reads' Rx.out).2.2 (Kd.R_reads' Rx.out).2.1 (Kd.R_reads' Rq5.out).2.2 (Kd.R_reads' Rq5.out).2.1 (Kd.R_reads' Rq16.out).2.2 (Kd.R_reads' Rq16.out).2.1 Hv1.out).mono ?_
    rintro _ w9 ⟨v5, v16, rfl, r5, r16, b⟩
    obtain ⟨Av5, cv5, rfl⟩ := Kd.R_slice r5
    obtain ⟨Av16, cv16, rfl⟩ := Kd.R_slice r16
    have Rb' := Aside0.mk (Kd.R_below Rb.out b)
    clear Rb
    have Rb := Rb'
    clear Rb'
    have Rx' := Aside0.mk (Kd.R_below Rx.out b)
    clear Rx
    have Rx := Rx'
    clear Rx'
    have Rq5' := Aside0.mk (Kd.R_below Rq5.out b)
    clear Rq5
    have Rq5 := Rq5'
    clear Rq5'
    have Rq16' := Aside0.mk (Kd.R_below Rq16.out b)
    clear Rq16
    have Rq16 := Rq16'
    clear Rq16'
    have Rv5 := Aside0.mk (Kd.R_lower r5 (below_size K.out.below))
    have Rv16 := Aside0.mk (Kd.R_lower r16 (below_size K.out.below))
    have K' := Aside0.mk (K.out.call (below_size K.out.below) b)
    clear K
    have K := K'
    clear K'
    clear b r5 r16
    go_wp2_with (first | ((with_reducible refine gate_store (t := 55) (p := 14) (v := .tmp 97) rfl ?_); refine store_ev rfl rfl 55 (.tmp 14) (.tmp 97) rfl rfl rfl (K.out.get 0 rfl) rfl rfl (by first | (kernel_rfl) | (simp [Value.oneCell'])) ?_; intro S97 hs; have Rb' := Aside0.mk (row_stored Rb.out (K.out.get 0 rfl) (by decide) hs); clear Rb; have Rb := Rb'; clear Rb'; have Rx' := Aside0.mk (row_stored Rx.out (K.out.get 0 rfl) (by decide) hs); clear Rx; have Rx := Rx'; clear Rx'; have Rq5' := Aside0.mk (row_stored Rq5.out (K.out.get 0 rfl) (by decide) hs); clear Rq5; have Rq5 := Rq5'; clear Rq5'; have Rq16' := Aside0.mk (row_stored Rq16.out (K.out.get 0 rfl) (by decide) hs); clear Rq16; have Rq16 := Rq16'; clear Rq16'; have Rv5' := Aside0.mk (row_stored Rv5.out (K.out.get 0 rfl) (by decide) hs); clear Rv5; have Rv5 := Rv5'; clear Rv5'; have Rv16' := Aside0.mk (row_stored Rv16.out (K.out.get 0 rfl) (by decide) hs); clear Rv16; have Rv16 := Rv16'; clear Rv16'; have K' := Aside0.mk (K.out.stored 0 rfl hs); clear K; have K := K'; clear K'; clear hs) | ((with_reducible refine gate_dst (N := 102) rfl ?_); (try (refine gate_guard (by rfl) ?_; dsimp only)); refine load_ev rfl 55 (.tmp 14) rfl rfl (K.out.get 0 rfl) Try.underlying55 rfl ?_) | ((with_reducible refine gate_dst (N := 103) rfl ?_); (try (refine gate_guard (by rfl) ?_; dsimp only)); refine load_ev rfl 55 (.tmp 4) rfl rfl (K.out.get 4 rfl) Try.underlying55 rfl ?_) | (go_at_call 32; fail))
    refine (waveletref23_SameParams.same a1_0 a1_1 a1_2 a1_3 a1_4 l1_5 a1_6 a1_7 a1_8 a1_9 a1_10 a1_11 a1_12 a1_13 a1_14 a1_15 l1_16 a1_17 a1_18 Av5 cv5 Av16 cv16 A1_5 c1_5 A1_16 c1_16 _ (Kd.R_reads' Rv5.out).2.2 (Kd.R_reads' Rv16.out).2.2 (Kd.C_below HR15.out K.out.below) (Kd.C_below HR116.out K.out.below)).mono ?_
    rintro _ w10 ⟨rfl, b⟩
    have Rb' := Aside0.mk (Kd.R_below Rb.out b)
    clear Rb
    have Rb := Rb'
    clear Rb'
    have Rx' := Aside0.mk (Kd.R_below Rx.out b)
    clear Rx
    have Rx := Rx'
    clear Rx'
    have Rq5' := Aside0.mk (Kd.R_below Rq5.out b)
    clear Rq5
    have Rq5 := Rq5'
    clear Rq5'
    have Rq16' := Aside0.mk (Kd.R_below Rq16.out b)
    clear Rq16
    have Rq16 := Rq16'
    clear Rq16'
    have Rv5' := Aside0.mk (Kd.R_below Rv5.out b)
    clear Rv5
    have Rv5 := Rv5'
    clear Rv5'
    have Rv16' := Aside0.mk (Kd.R_below Rv16.out b)
    clear Rv16
    have Rv16 := Rv16'
    clear Rv16'
    have K' := Aside0.mk (K.out.call (below_size K.out.below) b)
    clear K
    have K := K'
    clear K'
    clear b 
    go_wp2
    go_meet
    case rel => exact ⟨K.out.tl.tl.tl⟩
  case rest =>
  clear K Rb Rx Hb Hx Hq
  have K := hcut
  clear hcut
  generalize wc = wB at *
  have n0 : wB.cell? ⟨g5, 0, none⟩ = some (.int .i64 a2_0) := K.out.cell 0 rfl 0 rfl
  have n1 : wB.cell? ⟨g5, 1, none⟩ = some (.int .i64 a2_1) := K.out.cell 0 rfl 1 rfl
  have n2 : wB.cell? ⟨g5, 2, none⟩ = some (.int .i64 a2_2) := K.out.cell 0 rfl 2 rfl
  have n3 : wB.cell? ⟨g5, 3, none⟩ = some (.int .i64 a2_3) := K.out.cell 0 rfl 3 rfl
  go_wp2_with (go_at_call 18; fail)
  clear n0 n1 n2 n3
  refine (headseg_Tile.calls k a2_0 a2_1 a2_2 a2_3 d1 d2 d3 _ Hd.out).mono ?_
  rintro _ w11 ⟨v1, rfl, r1, b⟩
  obtain ⟨Ad, cd, rfl⟩ := Kd.R_slice r1
  have Rd := Aside0.mk (Kd.R_lower r1 (below_size K.out.below))
  have K' := Aside0.mk (K.out.call (below_size K.out.below) b)
  clear K
  have K := K'
  clear K'
  clear b r1
  go_upto_if 120 with (first | ((with_reducible refine gate_dst (N := 16) rfl ?_); refine box_event ?hg (N := 16) ?hd (cs := #[.int .i64 0, .slice none 0 0]) (t := 26) ?hr ?_; (case hd => rfl); (case hg => rfl); (case hr => first | (go_simp; done) | (go_simp; rfl)); intro g16 hg W16 hbox hb; have Rd' := Aside0.mk (Kd.R_below Rd.out hb); clear Rd; have Rd := Rd'; clear Rd'; have K' := Aside0.mk (K.out.box (below_size K.out.below) hg hbox hb); clear K; have K := K'; clear K'; clear hg hbox hb) | ((with_reducible refine gate_store (t := 26) (p := 16) (v := .tmp 117) rfl ?_); refine store_ev rfl rfl 26 (.tmp 16) (.tmp 117) rfl rfl rfl (K.out.get 0 rfl) rfl rfl (by first | (kernel_rfl) | (simp [Value.oneCell'])) ?_; intro S117 hs; have Rd' := Aside0.mk (row_stored Rd.out (K.out.get 0 rfl) (by decide) hs); clear Rd; have Rd := Rd'; clear Rd'; have K' := Aside0.mk (K.out.stored 0 rfl hs); clear K; have K := K'; clear K'; clear hs))
  go_cut [] (fun wc => Aside0 (Bks w.heap.size w wc [(g5, 23, #[.int .i64 a2_0, .int .i64 a2_1, .int .i64 a2_2, .int .i64 a2_3]), (g4, 55, #[.int .i64 a1_0, .int .i64 a1_1, .int .i64 a1_2, .int .i64 a1_3, .int .i64 a1_4, .slice A1_5 l1_5.length c1_5, .int .i64 a1_6, .int .i64 a1_7, .bool a1_8, .bool a1_9, .bool a1_10, .bool a1_11, .bool a1_12, .bool a1_13, .bool a1_14, .bool a1_15, .slice A1_16 l1_16.length c1_16, .int .i64 a1_17, .int .i64 a1_18]), (g3, 67, #[.int .i64 a0_0, .int .i64 a0_1, .int .i64 a0_2, .int .i64 a0_3, .int .i64 a0_4, .int .i64 a0_5, .slice A0_6 l0_6.length c0_6])]))
  case first =>
    by_cases he : d3 = 0
    rotate_left
    · have hb0 : (d3 == 0) = false := beq_eq_false_iff_ne.mpr he
      (try rw [hb0])
      go_wp2
      go_meet
      case rel => exact ⟨K.out.tl⟩
    have Hv1 := Aside0.mk (Hv.out he)
    subst he
    go_wp2_with (first | ((with_reducible refine gate_dst (N := 122) rfl ?_); refine load_ev rfl 26 (.tmp 16) rfl rfl (K.out.get 0 rfl) Try.underlying26 rfl ?_) | (go_at_call 20; fail))
    refine (headseg_ParseTile.calls k d1 Ad cd d2 a2_0 a2_1 a2_2 a2_3 0 _ (Kd.R_reads' Rd.out).2.2 (Kd.R_reads' Rd.out).2.1 Hv1.out).mono ?_
    rintro _ w12 ⟨rfl, b⟩
    have Rd' := Aside0.mk (Kd.R_below Rd.out b)
    clear Rd
    have Rd := Rd'
    clear Rd'
    have K' := Aside0.mk (K.out.call (below_size K.out.below) b)
    clear K
    have K := K'
    clear K'
    clear b 
    go_wp2_with ((with_reducible refine gate_dst (N := 137) rfl ?_); (try (refine gate_guard (by rfl) ?_; dsimp only)); refine load_ev rfl 23 (.tmp 5) rfl rfl (K.out.get 1 rfl) Try.underlying23 rfl ?_)
    go_meet
    case rel => exact ⟨K.out.tl⟩
  case rest =>
  have K := hcut
  clear hcut
  go_wp2_with (go_at_call 12; refine (waveletlaw29_awake.calls k true _ HA.out).mono ?_; rintro _ w' ⟨rfl, b⟩; have Kw := Aside0.mk (K.out.call (below_size K.out.below) b); clear b)
  go_ret
  exact ⟨rfl, Kw.out.below⟩
end Go.Proofs.Ytihfopblmjgfaaa.Q

/- What the functions of chapter 29 compute, in plain lists and numbers: used by the pure laws of this chapter. -/
namespace Go.Proofs.Ytihfopblmjgfaaa.Pure
open Go.RowKit Go.Proofs.Ytihfopblmjgfaaa.Q Go.Proofs.YtihfopblmjgfaaaW.PrintWords
set_option linter.unusedVariables false

theorem awake_holds : ∃ k, waveletlaw29_awake.f k = some true := ⟨100, by kernel_rfl⟩
theorem wf_bd {a : Int} (h : (Lit.int .i64 a).wf = true) : -9223372036854775808 ≤ a ∧ a ≤ 9223372036854775807 := by
  simp [Lit.wf, IntKind.min, IntKind.max, IntKind.signed, IntKind.bits] at h
  omega
theorem wf_u8 {a : Int} (h : (Lit.int .u8 a).wf = true) : 0 ≤ a ∧ a ≤ 255 := by
  simp [Lit.wf, IntKind.min, IntKind.max, IntKind.signed, IntKind.bits] at h
  omega

/-- One byte more. -/
def step (v x : Int) : Int := Go.bits .or .i64 (wrap64 (v * 256)) (wrap64 x)
theorem step_eq {v x : Int} (h0 : 0 ≤ v) (h1 : v < 16777216) (h2 : 0 ≤ x) (h3 : x ≤ 255) : step v x = v * 256 + x := by
  unfold step
  rw [show wrap64 (v * 256) = v * 256 by unfold wrap64; omega, show wrap64 x = x by unfold wrap64; omega]
  exact bits_join .i64 40 (by decide) (fun n a b => by rw [IntKind.wrap_i64]; omega) 8 _ _ (by omega) (by omega) (by omega) h2 (by omega) (by omega)
/-- The number of some bytes. -/
def num (l : List Int) : Int := l.foldl step 0
/-- What ReadUint returns. -/
def RU (l : List Int) (at_ n : Int) : Int × Int :=
  if n < 1 ∨ 4 < n ∨ at_ < 0 ∨ (l.length : Int) < at_ then (0, 2) else if (l.length : Int) - at_ < n then (0, 7) else (num ((l.take (at_ + n).toNat).drop at_.toNat), 0)
theorem ru_loop (m : List Int) (hm : m.length ≤ 4) (d : Nat) : ∀ (k j : Nat) (v : Int), j + d = m.length → marker_ReadUint.l0 (k + d + 1) v m (m.length : Int) (j : Int) = some ((m.drop j).foldl step v, 0) := by
  induction d with
  | zero =>
    intro k j v hj
    rw [show k + 0 + 1 = k + 1 from rfl, marker_ReadUint.l0, if_neg (by omega), List.drop_eq_nil_of_le (by omega)]
    rfl
  | succ d ih =>
    intro k j v hj
    have hlt : j < m.length := by omega
    rw [show k + (d + 1) + 1 = (k + d + 1) + 1 by omega, marker_ReadUint.l0, if_pos (by omega), if_pos (by omega), if_pos (by omega), List.drop_eq_getElem_cons hlt]
    rw [show wrap64 ((j : Int) + 1) = ((j + 1 : Nat) : Int) by unfold wrap64; omega, ih k (j + 1) _ (by omega)]
    unfold rd
    rw [Int.toNat_natCast, List.getD_eq_getElem?_getD, List.getElem?_eq_getElem hlt]
    rfl
theorem ru_eq (l : List Int) (at_ n : Int) (hl : l.length ≤ 1000000) (hat : at_ ≤ 9223372036854775807) (k : Nat) : marker_ReadUint.f (k + 6) l at_ n = some (RU l at_ n) := by
  have hj : marker_ReadUint.j0 (k + 6) l at_ n true = some (0, 2) := by rw [show k + 6 = (k + 5) + 1 from rfl, marker_ReadUint.j0, if_pos rfl]
  unfold marker_ReadUint.f RU
  by_cases h1 : n < 1
  · rw [if_pos h1, if_pos (.inl h1), hj]
  rw [if_neg h1]
  by_cases h2 : n > 4
  · rw [if_pos h2, if_pos (.inr (.inl h2)), hj]
  rw [if_neg h2]
  by_cases h3 : at_ < 0
  · rw [if_pos h3, if_pos (.inr (.inr (.inl h3))), hj]
  rw [if_neg h3]
  by_cases h4 : (l.length : Int) < at_
  · rw [show decide (at_ > (l.length : Int)) = true from decide_eq_true h4, if_pos (.inr (.inr (.inr h4))), hj]
  rw [show decide (at_ > (l.length : Int)) = false from decide_eq_false h4, if_neg (by omega), show k + 6 = (k + 5) + 1 from rfl, marker_ReadUint.j0, if_neg (by simp)]
  rw [show wrap64 ((l.length : Int) - at_) = (l.length : Int) - at_ by unfold wrap64; omega, show wrap64 (at_ + n) = at_ + n by unfold wrap64; omega]
  by_cases h5 : (l.length : Int) - at_ < n
  · rw [if_pos h5, if_pos h5]
  rw [if_neg h5, if_neg h5, if_pos (by omega), if_pos (by omega), if_pos (by omega)]
  have hm : ((l.take (at_ + n).toNat).drop at_.toNat).length = n.toNat := by rw [List.length_drop, List.length_take]; omega
  have := ru_loop ((l.take (at_ + n).toNat).drop at_.toNat) (by omega) n.toNat (k + (4 - n.toNat)) 0 0 (by omega)
  rw [show k + (4 - n.toNat) + n.toNat + 1 = k + 5 by omega] at this
  rw [show (0 : Int) = ((0 : Nat) : Int) from rfl] at *
  rw [this]
  rfl
theorem shift_small (n : Nat) (h : n ≤ 4) : IntKind.u64.wrap (wrap64 (8 * (n : Int))) = ((8 * n : Nat) : Int) := by
  have : IntKind.u64.wrap (wrap64 (8 * (n : Int))) = wrap64 (8 * (n : Int)) % 18446744073709551616 := by simp [IntKind.wrap, IntKind.bits, IntKind.signed]
  rw [this]
  unfold wrap64
  omega

/-- The bytes of a number, the highest first. -/
def be (v : Int) : Nat → List Int
  | 0 => []
  | i + 1 => (v / 2 ^ (8 * i)) % 256 :: be v i
theorem be_length (v : Int) : ∀ n, (be v n).length = n
  | 0 => rfl
  | n + 1 => by simp [be, be_length v n]
theorem shr_eq (v : Int) (m : Nat) (hm : m ≤ 8) : shr .i64 v ((8 * m : Nat) : Int) = v / 2 ^ (8 * m) := by
  unfold shr
  rw [Int.toNat_natCast, Nat.min_eq_left (by show 8 * m ≤ 64; omega)]
theorem shift_eq (n : Nat) (h : n ≤ 8) : IntKind.u64.wrap (wrap64 (8 * (n : Int))) = ((8 * n : Nat) : Int) := by
  have : IntKind.u64.wrap (wrap64 (8 * (n : Int))) = wrap64 (8 * (n : Int)) % 18446744073709551616 := by simp [IntKind.wrap, IntKind.bits, IntKind.signed]
  rw [this]
  unfold wrap64
  omega
theorem put_loop (v : Int) (m : Nat) (hm : m ≤ 8) : ∀ (k : Nat) (acc : List Int), acc.length + m ≤ 140737488355328 → headseg_put.l0 (k + m + 1) acc v ((m : Int) - 1) = some (acc ++ be v m) := by
  induction m with
  | zero =>
    intro k acc ha
    rw [show k + 0 + 1 = k + 1 from rfl, headseg_put.l0, if_neg (by omega)]
    simp [be]
  | succ m ih =>
    intro k acc ha
    rw [show k + (m + 1) + 1 = (k + m + 1) + 1 by omega, headseg_put.l0, if_pos (by omega), show (((m + 1 : Nat) : Int) - 1) = (m : Int) by omega, shift_eq m (by omega), if_pos (by omega), if_pos (by omega), show wrap64 ((m : Int) - 1) = (m : Int) - 1 by unfold wrap64; omega]
    rw [shr_eq v m (by omega), ih (by omega) k _ (by simp; omega)]
    simp [be]
theorem put_eq (acc : List Int) (v : Int) (n : Nat) (hn : n ≤ 8) (ha : acc.length + n ≤ 140737488355328) (k : Nat) : headseg_put.f (k + 9) acc (n : Int) v = some (acc ++ be v n) := by
  unfold headseg_put.f
  rw [show wrap64 ((n : Int) - 1) = (n : Int) - 1 by unfold wrap64; omega]
  have := put_loop v n hn (k + (8 - n)) acc ha
  rwa [show k + (8 - n) + n + 1 = k + 9 by omega] at this
/-- What within returns. -/
def inside (lo hi : Int) (l : List Int) : Bool := l.all fun x => decide (lo ≤ x) && decide (x ≤ hi)
theorem within_loop (lo hi : Int) (l : List Int) (hl : l.length ≤ 9223372036854775807) (d : Nat) : ∀ (k j : Nat), j + d = l.length → headseg_within.l0 (k + d + 1) lo hi l (l.length : Int) (j : Int) = some (inside lo hi (l.drop j)) := by
  induction d with
  | zero =>
    intro k j hj
    rw [show k + 0 + 1 = k + 1 from rfl, headseg_within.l0, if_neg (by omega), List.drop_eq_nil_of_le (by omega)]
    rfl
  | succ d ih =>
    intro k j hj
    have hlt : j < l.length := by omega
    have hrd : rd l (j : Int) = l[j] := by
      unfold rd
      rw [Int.toNat_natCast, List.getD_eq_getElem?_getD, List.getElem?_eq_getElem hlt]
      rfl
    rw [show k + (d + 1) + 1 = (k + d + 1) + 1 by omega, headseg_within.l0, if_pos (by omega), if_pos (by omega), if_pos (by omega), hrd, List.drop_eq_getElem_cons hlt]
    rw [show wrap64 ((j : Int) + 1) = ((j + 1 : Nat) : Int) by unfold wrap64; omega, ih k (j + 1) (by omega)]
    unfold inside
    rw [List.all_cons]
    by_cases h1 : l[j] < lo
    · rw [if_pos h1, decide_eq_false (show ¬ lo ≤ l[j] by omega)]; rfl
    · rw [if_neg h1, decide_eq_true (show lo ≤ l[j] by omega)]
      by_cases h2 : l[j] > hi
      · rw [if_pos h2, decide_eq_false (show ¬ l[j] ≤ hi by omega)]; rfl
      · rw [if_neg h2, decide_eq_true (show l[j] ≤ hi by omega)]; rfl
theorem within_eq (lo hi : Int) (l : List Int) (hl : l.length ≤ 9223372036854775807) (k : Nat) : headseg_within.f (k + l.length + 1) lo hi l = some (inside lo hi l) := by
  have := within_loop lo hi l hl l.length k 0 (by omega)
  simpa [headseg_within.f] using this
end Go.Proofs.Ytihfopblmjgfaaa.Pure

/- Printed walk, shortened (wip/tools/unmerge.py). -/
namespace Go.Proofs.Ytihfopblmjgfaaa.Q
open Go.RowKit Go.Proofs.YtihfopblmjgfaaaW.PrintWords Go.Proofs.YtihfopblmjgfaaaW.PrintLast Go.Proofs.YtihfopblmjgfaaaW.PrintMore
attribute [local go_sem] max2_int min2_int max_two min_two max_three min_three max_four min_four   -- for this text's walks alone
set_option linter.unusedVariables false
set_option linter.unusedSimpArgs false

/-! ### waveletref29_framed: function 50 -/
def waveletref29_framed.f (a0_0 : Int) (l0_1 : List Int) (a1 : Int) (a2 : Int) : Option (Int) := if a0_0 = a1 then (if (l0_1.length : Int) < a2 then (some 7) else (if (l0_1.length : Int) > a2 then (some 9) else (some 0))) else (some 11)
set_option maxHeartbeats 8000000 in
set_option maxRecDepth 100000 in
theorem waveletref29_framed.calls (a0_0 : Int) (A0_1 : Option Addr) (c0_1 : Nat) (l0_1 : List Int) (a1 : Int) (a2 : Int) (r : Int) (w : World) (hr0_1 : Kd.C (Kd.int .u8) w A0_1 l0_1.length l0_1) (hc0_1 : l0_1.length ≤ c0_1) (h : waveletref29_framed.f a0_0 l0_1 a1 a2 = some r) :
    Calls Try.prog 50 #[.agg #[.int .i64 a0_0, .slice A0_1 l0_1.length c0_1], .int .i64 a1, .int .i64 a2] w fun e w' => e = .returned (.int .i64 r) ∧ Below w.heap.size w w' := by
  have hu26 := Try.underlying26
  have HR0_1 := Aside0.mk hr0_1
  have HC0_1 := Aside0.mk hc0_1
  clear hr0_1 hc0_1
  have HB := Aside0.mk (Below.refl w.heap.size w)
  have H : (if a0_0 = a1 then (if (l0_1.length : Int) < a2 then (some 7) else (if (l0_1.length : Int) > a2 then (some 9) else (some 0))) else (some 11)) = some r := h
  clear h
  by_cases c4 : a0_0 = a1
  · rw [if_pos c4] at H
    have c4b0 : (a0_0 == a1) = true := beq_iff_eq.mpr c4
    have c4b1 : (a0_0 != a1) = false := bne_eq_false_iff_eq.mpr c4
    clear c4
    by_cases c5 : (l0_1.length : Int) < a2
    · rw [if_pos c5] at H
      have c5b0 : decide ((l0_1.length : Int) < a2) = true := decide_eq_true c5
      clear c5
      obtain rfl := Option.some.inj H
      go_enter Try.func50, Try.ntmps50
      go_wp2_with (first | ((with_reducible refine gate_dst (N := 3) rfl ?_); refine box_event ?hg (N := 3) ?hd (cs := #[.int .i64 a0_0, .slice A0_1 l0_1.length c0_1]) (t := 26) ?hr ?_; (case hd => rfl); (case hg => rfl); (case hr => first | (go_simp; done) | (go_simp; rfl)); intro gb131 hg w6 hbox hb; have BK131 := Aside0.mk (hbox); have GW131 := Aside0.mk ((by rw [hg]; exact (below_size (upB HB.out)) : w.heap.size ≤ gb131)); have GE131 := Aside0.mk ((by rw [hg]; exact (below_size (upB HB.out)) : w.heap.size ≤ gb131)); replace HB := Aside0.mk (below_step (upB HB.out) hb); clear hb hbox hg; have hcz7_0 : w6.cell? ⟨gb131, 0, none⟩ = some (.int .i64 a0_0) := bc BK131 0; have hcz7_1 : w6.cell? ⟨gb131, 1, none⟩ = some (.slice A0_1 l0_1.length c0_1) := bc BK131 1; have hfz7_0 := blk_frozen BK131.out 0; have hfz7_1 := blk_frozen BK131.out 1))
      go_ret
      exact ⟨by first | rfl | (simp [errW_none, errW_some] <;> rfl) | (simp [*, errW_none, errW_some] <;> rfl), by repeat (first | (with_reducible first | exact HB.out | apply below_alloc | apply pw_below_drewN | apply below_drew1 | refine below_set ?_ GE131.out) | exact HB.out)⟩
    · rw [if_neg c5] at H
      have c5b0 : decide ((l0_1.length : Int) < a2) = false := decide_eq_false c5
      clear c5
      by_cases c8 : (l0_1.length : Int) > a2
      · rw [if_pos c8] at H
        have c8b0 : decide (a2 < (l0_1.length : Int)) = true := decide_eq_true c8
        clear c8
        obtain rfl := Option.some.inj H
        go_enter Try.func50, Try.ntmps50
        go_wp2_with (first | ((with_reducible refine gate_dst (N := 3) rfl ?_); refine box_event ?hg (N := 3) ?hd (cs := #[.int .i64 a0_0, .slice A0_1 l0_1.length c0_1]) (t := 26) ?hr ?_; (case hd => rfl); (case hg => rfl); (case hr => first | (go_simp; done) | (go_simp; rfl)); intro gb131 hg w9 hbox hb; have BK131 := Aside0.mk (hbox); have GW131 := Aside0.mk ((by rw [hg]; exact (below_size (upB HB.out)) : w.heap.size ≤ gb131)); have GE131 := Aside0.mk ((by rw [hg]; exact (below_size (upB HB.out)) : w.heap.size ≤ gb131)); replace HB := Aside0.mk (below_step (upB HB.out) hb); clear hb hbox hg; have hcz10_0 : w9.cell? ⟨gb131, 0, none⟩ = some (.int .i64 a0_0) := bc BK131 0; have hcz10_1 : w9.cell? ⟨gb131, 1, none⟩ = some (.slice A0_1 l0_1.length c0_1) := bc BK131 1; have hfz10_0 := blk_frozen BK131.out 0; have hfz10_1 := blk_frozen BK131.out 1))
        go_ret
        exact ⟨by first | rfl | (simp [errW_none, errW_some] <;> rfl) | (simp [*, errW_none, errW_some] <;> rfl), by repeat (first | (with_reducible first | exact HB.out | apply below_alloc | apply pw_below_drewN | apply below_drew1 | refine below_set ?_ GE131.out) | exact HB.out)⟩
      · rw [if_neg c8] at H
        have c8b0 : decide (a2 < (l0_1.length : Int)) = false := decide_eq_false c8
        clear c8
        obtain rfl := Option.some.inj H
        go_enter Try.func50, Try.ntmps50
        go_wp2_with (first | ((with_reducible refine gate_dst (N := 3) rfl ?_); refine box_event ?hg (N := 3) ?hd (cs := #[.int .i64 a0_0, .slice A0_1 l0_1.length c0_1]) (t := 26) ?hr ?_; (case hd => rfl); (case hg => rfl); (case hr => first | (go_simp; done) | (go_simp; rfl)); intro gb131 hg w11 hbox hb; have BK131 := Aside0.mk (hbox); have GW131 := Aside0.mk ((by rw [hg]; exact (below_size (upB HB.out)) : w.heap.size ≤ gb131)); have GE131 := Aside0.mk ((by rw [hg]; exact (below_size (upB HB.out)) : w.heap.size ≤ gb131)); replace HB := Aside0.mk (below_step (upB HB.out) hb); clear hb hbox hg; have hcz12_0 : w11.cell? ⟨gb131, 0, none⟩ = some (.int .i64 a0_0) := bc BK131 0; have hcz12_1 : w11.cell? ⟨gb131, 1, none⟩ = some (.slice A0_1 l0_1.length c0_1) := bc BK131 1; have hfz12_0 := blk_frozen BK131.out 0; have hfz12_1 := blk_frozen BK131.out 1))
        go_ret
        exact ⟨by first | rfl | (simp [errW_none, errW_some] <;> rfl) | (simp [*, errW_none, errW_some] <;> rfl), by repeat (first | (with_reducible first | exact HB.out | apply below_alloc | apply pw_below_drewN | apply below_drew1 | refine below_set ?_ GE131.out) | exact HB.out)⟩
  · rw [if_neg c4] at H
    have c4b0 : (a0_0 == a1) = false := beq_eq_false_iff_ne.mpr c4
    have c4b1 : (a0_0 != a1) = true := bne_iff_ne.mpr c4
    obtain rfl := Option.some.inj H
    go_enter Try.func50, Try.ntmps50
    go_wp2_with (first | ((with_reducible refine gate_dst (N := 3) rfl ?_); refine box_event ?hg (N := 3) ?hd (cs := #[.int .i64 a0_0, .slice A0_1 l0_1.length c0_1]) (t := 26) ?hr ?_; (case hd => rfl); (case hg => rfl); (case hr => first | (go_simp; done) | (go_simp; rfl)); intro gb131 hg w13 hbox hb; have BK131 := Aside0.mk (hbox); have GW131 := Aside0.mk ((by rw [hg]; exact (below_size (upB HB.out)) : w.heap.size ≤ gb131)); have GE131 := Aside0.mk ((by rw [hg]; exact (below_size (upB HB.out)) : w.heap.size ≤ gb131)); replace HB := Aside0.mk (below_step (upB HB.out) hb); clear hb hbox hg; have hcz14_0 : w13.cell? ⟨gb131, 0, none⟩ = some (.int .i64 a0_0) := bc BK131 0; have hcz14_1 : w13.cell? ⟨gb131, 1, none⟩ = some (.slice A0_1 l0_1.length c0_1) := bc BK131 1; have hfz14_0 := blk_frozen BK131.out 0; have hfz14_1 := blk_frozen BK131.out 1))
    go_ret
    exact ⟨by first | rfl | (simp [errW_none, errW_some] <;> rfl) | (simp [*, errW_none, errW_some] <;> rfl), by repeat (first | (with_reducible first | exact HB.out | apply below_alloc | apply pw_below_drewN | apply below_drew1 | refine below_set ?_ GE131.out) | exact HB.out)⟩

end Go.Proofs.Ytihfopblmjgfaaa.Q

/- Printed walk, shortened (wip/tools/unmerge.py). -/
namespace Go.Proofs.Ytihfopblmjgfaaa.Q
open Go.RowKit Go.Proofs.YtihfopblmjgfaaaW.PrintWords Go.Proofs.YtihfopblmjgfaaaW.PrintLast Go.Proofs.YtihfopblmjgfaaaW.PrintMore
attribute [local go_sem] max2_int min2_int max_two min_two max_three min_three max_four min_four   -- for this text's walks alone
set_option linter.unusedVariables false
set_option linter.unusedSimpArgs false

/-! ### waveletref29_get: function 51 -/
def waveletref29_get.l0 : Nat → List Int → Int → Int → Int → Int → Option (Int)
  | 0, _, _, _, _, _ => none
  | k + 1, x0, x1, x2, x7, x8 => if x8 < x2 then (if 0 ≤ (wrap64 (x1 + x8)) then (if (wrap64 (x1 + x8)) < (x0.length : Int) then (waveletref29_get.l0 k x0 x1 x2 (wrap64 ((wrap64 (256 * x7)) + (wrap64 (rd x0 (wrap64 (x1 + x8)))))) (wrap64 (x8 + 1))) else (none)) else (none)) else (some x7)
def waveletref29_get.f (k : Nat) (l0 : List Int) (a1 : Int) (a2 : Int) : Option (Int) := waveletref29_get.l0 k l0 a1 a2 0 0
theorem waveletref29_get.mono_l : ∀ k, (∀ y0 y1 y2 y3 y4, LeO (waveletref29_get.l0 k y0 y1 y2 y3 y4) (waveletref29_get.l0 (k + 1) y0 y1 y2 y3 y4))
  | 0 => fun _ _ _ _ _ r h => by simp [waveletref29_get.l0] at h
  | k + 1 => by
    have ih0 := waveletref29_get.mono_l k
    · intro y0 y1 y2 y3 y4
      unfold waveletref29_get.l0
      repeat' first
      | (with_reducible exact ih0 _ _ _ _ _)
      | (with_reducible exact LeO.refl _)
      | (with_reducible exact LeO.none _)
      | (with_reducible refine LeO.ite ?_ ?_)
      | (with_reducible refine LeO.bind ?_ (fun _ => ?_))
      | exact ih0 _ _ _ _ _
      | exact LeO.none _
      | refine LeO.ite ?_ ?_
      | refine LeO.bind ?_ (fun _ => ?_)
theorem waveletref29_get.mono : ∀ a0 a1 a2 k, LeO (waveletref29_get.f k a0 a1 a2) (waveletref29_get.f (k + 1) a0 a1 a2) := by
  intro a0 a1 a2 k
  have ih0 := waveletref29_get.mono_l k
  unfold waveletref29_get.f
  repeat' first
      | (with_reducible exact ih0 _ _ _ _ _)
      | (with_reducible exact LeO.refl _)
      | (with_reducible exact LeO.none _)
      | (with_reducible refine LeO.ite ?_ ?_)
      | (with_reducible refine LeO.bind ?_ (fun _ => ?_))
      | exact ih0 _ _ _ _ _
      | exact LeO.none _
      | refine LeO.ite ?_ ?_
      | refine LeO.bind ?_ (fun _ => ?_)
set_option maxHeartbeats 8000000 in
set_option maxRecDepth 100000 in
theorem waveletref29_get.calls (k : Nat) (A0 : Option Addr) (c0 : Nat) (l0 : List Int) (a1 : Int) (a2 : Int) (r : Int) (w : World) (hr0 : Kd.C (Kd.int .u8) w A0 l0.length l0) (hc0 : l0.length ≤ c0) (h : waveletref29_get.f k l0 a1 a2 = some r) :
    Calls Try.prog 51 #[.slice A0 l0.length c0, .int .i64 a1, .int .i64 a2] w fun e w' => e = .returned (.int .i64 r) ∧ Drawn0 w w' := by
  have HR0 := Aside0.mk hr0
  have HC0 := Aside0.mk hc0
  clear hr0 hc0
  have H : (waveletref29_get.l0 k l0 a1 a2 0 0) = some r := h
  clear h
  have H' := Aside0.mk H
  clear H
  go_enter Try.func51, Try.ntmps51
  go_wp2
  go_loopg [7, 8] k (fun kq v7 v8 w' => ∃ (x7_1 : Int) (x8_1 : Int), v7 = .int .i64 x7_1 ∧ v8 = .int .i64 x8_1 ∧ Aside0 (waveletref29_get.l0 kq l0 a1 a2 x7_1 x8_1 = some r) ∧ Aside0 (kq ≤ k) ∧ Drawn0 w w')
  case atStart => exact ⟨(0), (0), (by first | rfl | (simp; done) | (simp [*]; done)), (by first | rfl | (simp; done) | (simp [*]; done)), H', ⟨Nat.le_refl _⟩, by repeat (first | exact Drawn0.refl _ | apply Drawn0.step)⟩
  case round =>
    clear H'
    try clear p2
    obtain ⟨x7_1, x8_1, rfl, rfl, HA, HK1, ⟨m1, rfl⟩⟩ := hrel
    cases gk with
    | zero => exact absurd HA.out (by simp [waveletref29_get.l0])
    | succ k1 =>
      have H := HA.out
      clear HA
      simp only [waveletref29_get.l0] at H
      by_cases c4 : x8_1 < a2
      · rw [if_pos c4] at H
        have c4b0 : decide (x8_1 < a2) = true := decide_eq_true c4
        clear c4
        obtain ⟨ji5, hji5⟩ : ∃ j_ : Int, (wrap64 (a1 + x8_1)) = j_ := ⟨_, rfl⟩
        replace H : (if 0 ≤ (ji5) then (if (ji5) < (l0.length : Int) then (waveletref29_get.l0 k1 l0 a1 a2 (wrap64 ((wrap64 (256 * x7_1)) + (wrap64 (rd l0 (ji5))))) (wrap64 (x8_1 + 1))) else (none)) else (none)) = some r := by first | (rw [hji5] at H; exact H) | (simp only [hji5] at H ⊢; exact H)
        have hji5w : (IntKind.i64.wrap (a1 + x8_1)) = ji5 := (i64_w _).trans hji5
        by_cases c6 : 0 ≤ (ji5)
        · rw [if_pos c6] at H
          have c6b0 : decide (0 ≤ (ji5)) = true := decide_eq_true c6
          clear c6
          by_cases c7 : (ji5) < (l0.length : Int)
          · rw [if_pos c7] at H
            have c7b0 : decide ((ji5) < (l0.length : Int)) = true := decide_eq_true c7
            clear c7
            have H' := Aside0.mk H
            clear H
            have p132 : 0 ≤ ((ji5) : Int) := of_decide_eq_true (by first | (with_reducible assumption) | assumption)
            have q132 : (ji5) < (l0.length : Int) := of_decide_eq_true (by first | (with_reducible assumption) | assumption)
            obtain ⟨ad132, e132, hx132_0⟩ := Kd.at_int HR0.out (ji5) p132 q132
            cases e132
            replace p132 := eq_true p132
            replace q132 := eq_true q132
            go_wp2
            go_roundg k1
            case measure => have := HK1.out; omega
            case rel => exact ⟨(wrap64 ((wrap64 (256 * x7_1)) + (wrap64 (rd l0 (ji5))))), (wrap64 (x8_1 + 1)), (by first | rfl | (simp; done) | (simp only [← hji5] <;> (first | rfl | simp)) | (simp [*]; done)), (by first | rfl | (simp; done) | (simp [*]; done)), H', ⟨by have := HK1.out; omega⟩, by repeat (first | exact Drawn0.refl _ | apply Drawn0.step)⟩
          · rw [if_neg c7] at H
            exact absurd H (by simp)
        · rw [if_neg c6] at H
          exact absurd H (by simp)
      · rw [if_neg c4] at H
        have c4b0 : decide (x8_1 < a2) = false := decide_eq_false c4
        clear c4
        obtain rfl := Option.some.inj H
        go_wp2
        go_ret
        exact ⟨by first | rfl | (simp; done) | (simp [*]; done), by repeat (first | exact Drawn0.refl _ | apply Drawn0.step)⟩

end Go.Proofs.Ytihfopblmjgfaaa.Q

/- Printed walk, shortened (wip/tools/unmerge.py). -/
namespace Go.Proofs.Ytihfopblmjgfaaa.Q
open Go.RowKit Go.Proofs.YtihfopblmjgfaaaW.PrintWords Go.Proofs.YtihfopblmjgfaaaW.PrintLast Go.Proofs.YtihfopblmjgfaaaW.PrintMore
attribute [local go_sem] max2_int min2_int max_two min_two max_three min_three max_four min_four   -- for this text's walks alone
set_option linter.unusedVariables false
set_option linter.unusedSimpArgs false

/-! ### waveletlaw29_sameSegment: function 17 -/
def waveletlaw29_sameSegment.f (k : Nat) (a0_0 : Int) (l0_1 : List Int) (a1_0 : Int) (l1_1 : List Int) : Option (Bool) := if a0_0 = a1_0 then ((waveletlaw29_same.f k l0_1 l1_1).bind fun t216 => (some t216)) else (some false)
theorem waveletlaw29_sameSegment.mono : ∀ a0 a1 a2 a3 k, LeO (waveletlaw29_sameSegment.f k a0 a1 a2 a3) (waveletlaw29_sameSegment.f (k + 1) a0 a1 a2 a3) := by
  intro a0 a1 a2 a3 k
  unfold waveletlaw29_sameSegment.f
  repeat' first
      | (with_reducible exact waveletlaw29_same.mono _ _ _)
      | (with_reducible exact LeO.refl _)
      | (with_reducible exact LeO.none _)
      | (with_reducible refine LeO.ite ?_ ?_)
      | (with_reducible refine LeO.bind ?_ (fun _ => ?_))
      | exact waveletlaw29_same.mono _ _ _
      | exact LeO.none _
      | refine LeO.ite ?_ ?_
      | refine LeO.bind ?_ (fun _ => ?_)
set_option maxHeartbeats 8000000 in
set_option maxRecDepth 100000 in
theorem waveletlaw29_sameSegment.calls (k : Nat) (a0_0 : Int) (A0_1 : Option Addr) (c0_1 : Nat) (l0_1 : List Int) (a1_0 : Int) (A1_1 : Option Addr) (c1_1 : Nat) (l1_1 : List Int) (r : Bool) (w : World) (hr0_1 : Kd.C (Kd.int .u8) w A0_1 l0_1.length l0_1) (hc0_1 : l0_1.length ≤ c0_1) (hr1_1 : Kd.C (Kd.int .u8) w A1_1 l1_1.length l1_1) (hc1_1 : l1_1.length ≤ c1_1) (h : waveletlaw29_sameSegment.f k a0_0 l0_1 a1_0 l1_1 = some r) :
    Calls Try.prog 17 #[.agg #[.int .i64 a0_0, .slice A0_1 l0_1.length c0_1], .agg #[.int .i64 a1_0, .slice A1_1 l1_1.length c1_1]] w fun e w' => e = .returned (.bool r) ∧ Below w.heap.size w w' := by
  have hu26 := Try.underlying26
  have HR0_1 := Aside0.mk hr0_1
  have HC0_1 := Aside0.mk hc0_1
  clear hr0_1 hc0_1
  have HR1_1 := Aside0.mk hr1_1
  have HC1_1 := Aside0.mk hc1_1
  clear hr1_1 hc1_1
  have HB := Aside0.mk (Below.refl w.heap.size w)
  have H : (if a0_0 = a1_0 then ((waveletlaw29_same.f k l0_1 l1_1).bind fun t216 => (some t216)) else (some false)) = some r := h
  clear h
  by_cases c3 : a0_0 = a1_0
  · rw [if_pos c3] at H
    have c3b0 : (a0_0 == a1_0) = true := beq_iff_eq.mpr c3
    have c3b1 : (a0_0 != a1_0) = false := bne_eq_false_iff_eq.mpr c3
    clear c3
    replace H := Option.bind_eq_some_iff.mp H
    obtain ⟨t216, A40, H⟩ := H
    replace H : (some t216) = some r := H
    have A4 := Aside0.mk A40
    clear A40
    obtain rfl := Option.some.inj H
    go_enter Try.func17, Try.ntmps17
    go_wp2_with (first | ((with_reducible refine gate_dst (N := 2) rfl ?_); refine box_event ?hg (N := 2) ?hd (cs := #[.int .i64 a0_0, .slice A0_1 l0_1.length c0_1]) (t := 26) ?hr ?_; (case hd => rfl); (case hg => rfl); (case hr => first | (go_simp; done) | (go_simp; rfl)); intro gb214 hg w5 hbox hb; have BK214 := Aside0.mk (hbox); have GW214 := Aside0.mk ((by rw [hg]; exact (below_size (upB HB.out)) : w.heap.size ≤ gb214)); have GE214 := Aside0.mk ((by rw [hg]; exact (below_size (upB HB.out)) : w.heap.size ≤ gb214)); replace HB := Aside0.mk (below_step (upB HB.out) hb); clear hb hbox hg) | ((with_reducible refine gate_dst (N := 3) rfl ?_); refine box_event ?hg (N := 3) ?hd (cs := #[.int .i64 a1_0, .slice A1_1 l1_1.length c1_1]) (t := 26) ?hr ?_; (case hd => rfl); (case hg => rfl); (case hr => first | (go_simp; done) | (go_simp; rfl)); intro gb215 hg w6 hbox hb; have BK215 := Aside0.mk (hbox); have GW215 := Aside0.mk ((by rw [hg]; exact (below_size (upB HB.out)) : w.heap.size ≤ gb215)); have GE215 := Aside0.mk ((by rw [hg]; exact (below_size (upB HB.out)) : w.heap.size ≤ gb215)); replace HB := Aside0.mk (below_step (upB HB.out) hb); have NB214_215 := Aside0.mk ((by rw [hg]; exact Nat.ne_of_lt (blk_lt (upK BK214.out)) : gb214 ≠ gb215)); have NB215_214 := Aside0.mk ((by rw [hg]; exact Nat.ne_of_gt (blk_lt (upK BK214.out)) : gb215 ≠ gb214)); replace BK214 := Aside0.mk (blk_below (g := gb214) (o := .cells #[.int .i64 a0_0, .slice A0_1 l0_1.length c0_1] 26 (0, 0)) (upK BK214.out) hb); clear hb hbox hg; have hnb7 := NB214_215.out; have hnc7 := NB215_214.out; have hcz8_0 : w6.cell? ⟨gb214, 0, none⟩ = some (.int .i64 a0_0) := bc BK214 0; have hcz8_1 : w6.cell? ⟨gb214, 1, none⟩ = some (.slice A0_1 l0_1.length c0_1) := bc BK214 1; have hfz8_0 := blk_frozen BK214.out 0; have hfz8_1 := blk_frozen BK214.out 1; have hcz9_0 : w6.cell? ⟨gb215, 0, none⟩ = some (.int .i64 a1_0) := bc BK215 0; have hcz9_1 : w6.cell? ⟨gb215, 1, none⟩ = some (.slice A1_1 l1_1.length c1_1) := bc BK215 1; have hfz9_0 := blk_frozen BK215.out 0; have hfz9_1 := blk_frozen BK215.out 1) | (go_at_call 42; (with_reducible refine (waveletlaw29_same.calls k _ _ l0_1 _ _ l1_1 t216 _ ?side1 ?side2 ?side3 ?side4 A4.out).mono ?_); (case side1 => repeat (first | exact (Kd.C_below HR0_1.out HB.out) | (with_reducible refine Kd.C_alloc ?_ _) | (with_reducible refine Kd.C_drewN ?_ _) | (with_reducible refine Kd.C_drew ?_))); (case side2 => exact HC0_1.out); (case side3 => repeat (first | exact (Kd.C_below HR1_1.out HB.out) | (with_reducible refine Kd.C_alloc ?_ _) | (with_reducible refine Kd.C_drewN ?_ _) | (with_reducible refine Kd.C_drew ?_))); (case side4 => exact HC1_1.out); rintro e w' ⟨rfl, ⟨nd, rfl⟩⟩))
    go_ret
    exact ⟨by first | rfl | (simp [errW_none, errW_some] <;> rfl) | (simp [*, errW_none, errW_some] <;> rfl), by repeat (first | (with_reducible first | exact HB.out | apply below_alloc | apply pw_below_drewN | apply below_drew1 | refine below_set ?_ GE214.out | refine below_set ?_ GE215.out) | exact HB.out)⟩
  · rw [if_neg c3] at H
    have c3b0 : (a0_0 == a1_0) = false := beq_eq_false_iff_ne.mpr c3
    have c3b1 : (a0_0 != a1_0) = true := bne_iff_ne.mpr c3
    obtain rfl := Option.some.inj H
    go_enter Try.func17, Try.ntmps17
    go_wp2_with (first | ((with_reducible refine gate_dst (N := 2) rfl ?_); refine box_event ?hg (N := 2) ?hd (cs := #[.int .i64 a0_0, .slice A0_1 l0_1.length c0_1]) (t := 26) ?hr ?_; (case hd => rfl); (case hg => rfl); (case hr => first | (go_simp; done) | (go_simp; rfl)); intro gb214 hg w10 hbox hb; have BK214 := Aside0.mk (hbox); have GW214 := Aside0.mk ((by rw [hg]; exact (below_size (upB HB.out)) : w.heap.size ≤ gb214)); have GE214 := Aside0.mk ((by rw [hg]; exact (below_size (upB HB.out)) : w.heap.size ≤ gb214)); replace HB := Aside0.mk (below_step (upB HB.out) hb); clear hb hbox hg) | ((with_reducible refine gate_dst (N := 3) rfl ?_); refine box_event ?hg (N := 3) ?hd (cs := #[.int .i64 a1_0, .slice A1_1 l1_1.length c1_1]) (t := 26) ?hr ?_; (case hd => rfl); (case hg => rfl); (case hr => first | (go_simp; done) | (go_simp; rfl)); intro gb215 hg w11 hbox hb; have BK215 := Aside0.mk (hbox); have GW215 := Aside0.mk ((by rw [hg]; exact (below_size (upB HB.out)) : w.heap.size ≤ gb215)); have GE215 := Aside0.mk ((by rw [hg]; exact (below_size (upB HB.out)) : w.heap.size ≤ gb215)); replace HB := Aside0.mk (below_step (upB HB.out) hb); have NB214_215 := Aside0.mk ((by rw [hg]; exact Nat.ne_of_lt (blk_lt (upK BK214.out)) : gb214 ≠ gb215)); have NB215_214 := Aside0.mk ((by rw [hg]; exact Nat.ne_of_gt (blk_lt (upK BK214.out)) : gb215 ≠ gb214)); replace BK214 := Aside0.mk (blk_below (g := gb214) (o := .cells #[.int .i64 a0_0, .slice A0_1 l0_1.length c0_1] 26 (0, 0)) (upK BK214.out) hb); clear hb hbox hg; have hnb12 := NB214_215.out; have hnc12 := NB215_214.out; have hcz13_0 : w11.cell? ⟨gb214, 0, none⟩ = some (.int .i64 a0_0) := bc BK214 0; have hcz13_1 : w11.cell? ⟨gb214, 1, none⟩ = some (.slice A0_1 l0_1.length c0_1) := bc BK214 1; have hfz13_0 := blk_frozen BK214.out 0; have hfz13_1 := blk_frozen BK214.out 1; have hcz14_0 : w11.cell? ⟨gb215, 0, none⟩ = some (.int .i64 a1_0) := bc BK215 0; have hcz14_1 : w11.cell? ⟨gb215, 1, none⟩ = some (.slice A1_1 l1_1.length c1_1) := bc BK215 1; have hfz14_0 := blk_frozen BK215.out 0; have hfz14_1 := blk_frozen BK215.out 1))
    go_ret
    exact ⟨by first | rfl | (simp [errW_none, errW_some] <;> rfl) | (simp [*, errW_none, errW_some] <;> rfl), by repeat (first | (with_reducible first | exact HB.out | apply below_alloc | apply pw_below_drewN | apply below_drew1 | refine below_set ?_ GE214.out | refine below_set ?_ GE215.out) | exact HB.out)⟩

end Go.Proofs.Ytihfopblmjgfaaa.Q

/- Printed walk, shortened (wip/tools/unmerge.py). -/
namespace Go.Proofs.Ytihfopblmjgfaaa.Q
open Go.RowKit Go.Proofs.YtihfopblmjgfaaaW.PrintWords Go.Proofs.YtihfopblmjgfaaaW.PrintLast Go.Proofs.YtihfopblmjgfaaaW.PrintMore
attribute [local go_sem] max2_int min2_int max_two min_two max_three min_three max_four min_four   -- for this text's walks alone
set_option linter.unusedVariables false
set_option linter.unusedSimpArgs false

/-! ### waveletref29_in: function 45 -/
def waveletref29_in.f (a0 : Int) (a1 : Int) (a2 : Int) : Option (Bool) := if a1 ≤ a0 then (some (decide (a0 ≤ a2))) else (some false)
set_option maxHeartbeats 8000000 in
set_option maxRecDepth 100000 in
theorem waveletref29_in.calls (a0 : Int) (a1 : Int) (a2 : Int) (r : Bool) (w : World) (h : waveletref29_in.f a0 a1 a2 = some r) :
    Calls Try.prog 45 #[.int .i64 a0, .int .i64 a1, .int .i64 a2] w fun e w' => e = .returned (.bool r) ∧ Drawn0 w w' := by
  have H : (if a1 ≤ a0 then (some (decide (a0 ≤ a2))) else (some false)) = some r := h
  clear h
  by_cases c4 : a1 ≤ a0
  · rw [if_pos c4] at H
    have c4b0 : decide (a1 ≤ a0) = true := decide_eq_true c4
    clear c4
    obtain rfl := Option.some.inj H
    go_enter Try.func45, Try.ntmps45
    go_wp2
    go_ret
    exact ⟨by first | rfl | (simp; done) | (simp [*]; done), by repeat (first | exact Drawn0.refl _ | apply Drawn0.step)⟩
  · rw [if_neg c4] at H
    have c4b0 : decide (a1 ≤ a0) = false := decide_eq_false c4
    clear c4
    obtain rfl := Option.some.inj H
    go_enter Try.func45, Try.ntmps45
    go_wp2
    go_ret
    exact ⟨by first | rfl | (simp; done) | (simp [*]; done), by repeat (first | exact Drawn0.refl _ | apply Drawn0.step)⟩

end Go.Proofs.Ytihfopblmjgfaaa.Q
