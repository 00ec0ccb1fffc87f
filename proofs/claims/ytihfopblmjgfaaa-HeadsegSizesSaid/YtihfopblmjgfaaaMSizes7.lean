/- Texts of this session (words and printed walks, merged by wip/tools/merge.py) for the statement of the claim. -/
import Derived.Test.YtihfopblmjgfaaaMSizes1
import Derived.Test.YtihfopblmjgfaaaMSizes5
import Derived.Test.YtihfopblmjgfaaaMSizes6
namespace Go.Proofs.Ytihfopblmjgfaaa.Q
open Go.RowKit Go.Proofs.YtihfopblmjgfaaaW.PrintWords Go.Proofs.YtihfopblmjgfaaaW.PrintLast Go.Proofs.YtihfopblmjgfaaaW.PrintMore
attribute [local go_sem] max2_int min2_int max_two min_two max_three min_three max_four min_four   -- for this text's walks alone
set_option linter.unusedVariables false
set_option linter.unusedSimpArgs false

/-! ### waveletref23_Header: function 61 -/
mutual
def waveletref23_Header.j0 : Nat → Bool → Int → Int → Int → Int → Int → Int → List (S97) → Option (Int)
  | 0, _, _, _, _, _, _, _, _ => none
  | k + 1, x34, x843000, x843001, x843002, x843003, x843004, x843005, x843006 => if x34 = true then (some 12) else (waveletref23_Header.l0 k 0 x843000 x843001 x843002 x843003 x843004 x843005 x843006)
def waveletref23_Header.l0 : Nat → Int → Int → Int → Int → Int → Int → Int → List (S97) → Option (Int)
  | 0, _, _, _, _, _, _, _, _ => none
  | k + 1, x3, x843000, x843001, x843002, x843003, x843004, x843005, x843006 => if x3 < (x843006.length : Int) then (if 0 ≤ x3 then ((waveletref23_in.f ((rd_T97 x843006 x3).f0) 1 16).bind fun t850 => (if t850 = true then ((waveletref23_in.f ((rd_T97 x843006 x3).f2) 1 4).bind fun t851 => (if t851 = true then ((waveletref23_in.f ((rd_T97 x843006 x3).f3) 1 4).bind fun t852 => (if t852 = true then ((waveletref01_Reduce.f k x843000 x843001 x843002 x843003 ((rd_T97 x843006 x3).f2) ((rd_T97 x843006 x3).f3)).bind fun bt853 => ((waveletref01_Empty.f bt853.1 bt853.2.1 bt853.2.2.1 bt853.2.2.2).bind fun t857 => (if t857 = true then (some 12) else (waveletref23_Header.l0 k (wrap64 (x3 + 1)) x843000 x843001 x843002 x843003 x843004 x843005 x843006)))) else (some 12))) else (some 12))) else (some 12))) else (none)) else ((waveletref23_tiles.f x843000 x843001 x843002 x843003 x843004 x843005 x843006).bind fun t858 => (if t858 > 1024 then (some 5) else (waveletref23_Header.l1 k 0 x843000 x843001 x843002 x843003 x843004 x843005 x843006)))
def waveletref23_Header.l1 : Nat → Int → Int → Int → Int → Int → Int → Int → List (S97) → Option (Int)
  | 0, _, _, _, _, _, _, _, _ => none
  | k + 1, x5, x843000, x843001, x843002, x843003, x843004, x843005, x843006 => if x5 < (x843006.length : Int) then (if 0 ≤ x5 then ((waveletref01_Reduce.f k x843000 x843001 x843002 x843003 ((rd_T97 x843006 x5).f2) ((rd_T97 x843006 x5).f3)).bind fun bt861 => ((waveletref01_Area.f bt861.1 bt861.2.1 bt861.2.2.1 bt861.2.2.2).bind fun t865 => (if t865 > 1048576 then (some 5) else (waveletref23_Header.l1 k (wrap64 (x5 + 1)) x843000 x843001 x843002 x843003 x843004 x843005 x843006)))) else (none)) else (some 0)
end
def waveletref23_Header.f (k : Nat) (a0_0 : Int) (a0_1 : Int) (a0_2 : Int) (a0_3 : Int) (a0_4 : Int) (a0_5 : Int) (l0_6 : List (S97)) : Option (Int) := (waveletref01_Valid.f a0_0 a0_1 a0_2 a0_3).bind fun t843 => (if t843 = true then ((waveletref01_Empty.f a0_0 a0_1 a0_2 a0_3).bind fun t844 => (if t844 = true then (waveletref23_Header.j0 k true a0_0 a0_1 a0_2 a0_3 a0_4 a0_5 l0_6) else ((waveletref23_in.f a0_4 1 4096).bind fun t845 => (if t845 = true then ((waveletref23_in.f a0_5 1 4096).bind fun t846 => (if t846 = true then ((waveletref23_in.f (l0_6.length : Int) 1 4).bind fun t847 => (waveletref23_Header.j0 k (!t847) a0_0 a0_1 a0_2 a0_3 a0_4 a0_5 l0_6)) else (waveletref23_Header.j0 k true a0_0 a0_1 a0_2 a0_3 a0_4 a0_5 l0_6))) else (waveletref23_Header.j0 k true a0_0 a0_1 a0_2 a0_3 a0_4 a0_5 l0_6))))) else (waveletref23_Header.j0 k true a0_0 a0_1 a0_2 a0_3 a0_4 a0_5 l0_6))
theorem waveletref23_Header.mono_l : ∀ k, (∀ y0 y1 y2 y3 y4 y5 y6 y7, LeO (waveletref23_Header.j0 k y0 y1 y2 y3 y4 y5 y6 y7) (waveletref23_Header.j0 (k + 1) y0 y1 y2 y3 y4 y5 y6 y7)) ∧ (∀ y0 y1 y2 y3 y4 y5 y6 y7, LeO (waveletref23_Header.l0 k y0 y1 y2 y3 y4 y5 y6 y7) (waveletref23_Header.l0 (k + 1) y0 y1 y2 y3 y4 y5 y6 y7)) ∧ (∀ y0 y1 y2 y3 y4 y5 y6 y7, LeO (waveletref23_Header.l1 k y0 y1 y2 y3 y4 y5 y6 y7) (waveletref23_Header.l1 (k + 1) y0 y1 y2 y3 y4 y5 y6 y7))
  | 0 => ⟨fun _ _ _ _ _ _ _ _ r h => by simp [waveletref23_Header.j0] at h, fun _ _ _ _ _ _ _ _ r h => by simp [waveletref23_Header.l0] at h, fun _ _ _ _ _ _ _ _ r h => by simp [waveletref23_Header.l1] at h⟩
  | k + 1 => by
    obtain ⟨ih0, ih1, ih2⟩ := waveletref23_Header.mono_l k
    refine ⟨?_, ?_, ?_⟩
    · intro y0 y1 y2 y3 y4 y5 y6 y7
      unfold waveletref23_Header.j0
      repeat' first
      | (with_reducible exact ih0 _ _ _ _ _ _ _ _)
      | (with_reducible exact ih1 _ _ _ _ _ _ _ _)
      | (with_reducible exact ih2 _ _ _ _ _ _ _ _)
      | (with_reducible exact waveletref01_Reduce.mono _ _ _ _ _ _ _)
      | (with_reducible exact LeO.refl _)
      | (with_reducible exact LeO.none _)
      | (with_reducible refine LeO.ite ?_ ?_)
      | (with_reducible refine LeO.bind ?_ (fun _ => ?_))
      | exact ih0 _ _ _ _ _ _ _ _
      | exact ih1 _ _ _ _ _ _ _ _
      | exact ih2 _ _ _ _ _ _ _ _
      | exact waveletref01_Reduce.mono _ _ _ _ _ _ _
      | exact LeO.none _
      | refine LeO.ite ?_ ?_
      | refine LeO.bind ?_ (fun _ => ?_)
    · intro y0 y1 y2 y3 y4 y5 y6 y7
      unfold waveletref23_Header.l0
      repeat' first
      | (with_reducible exact ih0 _ _ _ _ _ _ _ _)
      | (with_reducible exact ih1 _ _ _ _ _ _ _ _)
      | (with_reducible exact ih2 _ _ _ _ _ _ _ _)
      | (with_reducible exact waveletref01_Reduce.mono _ _ _ _ _ _ _)
      | (with_reducible exact LeO.refl _)
      | (with_reducible exact LeO.none _)
      | (with_reducible refine LeO.ite ?_ ?_)
      | (with_reducible refine LeO.bind ?_ (fun _ => ?_))
      | exact ih0 _ _ _ _ _ _ _ _
      | exact ih1 _ _ _ _ _ _ _ _
      | exact ih2 _ _ _ _ _ _ _ _
      | exact waveletref01_Reduce.mono _ _ _ _ _ _ _
      | exact LeO.none _
      | refine LeO.ite ?_ ?_
      | refine LeO.bind ?_ (fun _ => ?_)
    · intro y0 y1 y2 y3 y4 y5 y6 y7
      unfold waveletref23_Header.l1
      repeat' first
      | (with_reducible exact ih0 _ _ _ _ _ _ _ _)
      | (with_reducible exact ih1 _ _ _ _ _ _ _ _)
      | (with_reducible exact ih2 _ _ _ _ _ _ _ _)
      | (with_reducible exact waveletref01_Reduce.mono _ _ _ _ _ _ _)
      | (with_reducible exact LeO.refl _)
      | (with_reducible exact LeO.none _)
      | (with_reducible refine LeO.ite ?_ ?_)
      | (with_reducible refine LeO.bind ?_ (fun _ => ?_))
      | exact ih0 _ _ _ _ _ _ _ _
      | exact ih1 _ _ _ _ _ _ _ _
      | exact ih2 _ _ _ _ _ _ _ _
      | exact waveletref01_Reduce.mono _ _ _ _ _ _ _
      | exact LeO.none _
      | refine LeO.ite ?_ ?_
      | refine LeO.bind ?_ (fun _ => ?_)
theorem waveletref23_Header.mono : ∀ a0 a1 a2 a3 a4 a5 a6 k, LeO (waveletref23_Header.f k a0 a1 a2 a3 a4 a5 a6) (waveletref23_Header.f (k + 1) a0 a1 a2 a3 a4 a5 a6) := by
  intro a0 a1 a2 a3 a4 a5 a6 k
  obtain ⟨ih0, ih1, ih2⟩ := waveletref23_Header.mono_l k
  unfold waveletref23_Header.f
  repeat' first
      | (with_reducible exact ih0 _ _ _ _ _ _ _ _)
      | (with_reducible exact ih1 _ _ _ _ _ _ _ _)
      | (with_reducible exact ih2 _ _ _ _ _ _ _ _)
      | (with_reducible exact waveletref01_Reduce.mono _ _ _ _ _ _ _)
      | (with_reducible exact LeO.refl _)
      | (with_reducible exact LeO.none _)
      | (with_reducible refine LeO.ite ?_ ?_)
      | (with_reducible refine LeO.bind ?_ (fun _ => ?_))
      | exact ih0 _ _ _ _ _ _ _ _
      | exact ih1 _ _ _ _ _ _ _ _
      | exact ih2 _ _ _ _ _ _ _ _
      | exact waveletref01_Reduce.mono _ _ _ _ _ _ _
      | exact LeO.none _
      | refine LeO.ite ?_ ?_
      | refine LeO.bind ?_ (fun _ => ?_)
set_option maxHeartbeats 8000000 in
set_option maxRecDepth 100000 in
theorem waveletref23_Header.calls (k : Nat) (a0_0 : Int) (a0_1 : Int) (a0_2 : Int) (a0_3 : Int) (a0_4 : Int) (a0_5 : Int) (A0_6 : Option Addr) (c0_6 : Nat) (l0_6 : List (S97)) (r : Int) (w : World) (hr0_6 : Kd.C k97 w A0_6 l0_6.length l0_6) (hc0_6 : l0_6.length ≤ c0_6) (h : waveletref23_Header.f k a0_0 a0_1 a0_2 a0_3 a0_4 a0_5 l0_6 = some r) :
    Calls Try.prog 61 #[.agg #[.int .i64 a0_0, .int .i64 a0_1, .int .i64 a0_2, .int .i64 a0_3, .int .i64 a0_4, .int .i64 a0_5, .slice A0_6 l0_6.length c0_6]] w fun e w' => e = .returned (.int .i64 r) ∧ Below w.heap.size w w' := by
  have hu67 := Try.underlying67
  have hu64 := Try.underlying64
  have hu97 := Try.underlying97
  have HR0_6 := Aside0.mk hr0_6
  have HC0_6 := Aside0.mk hc0_6
  clear hr0_6 hc0_6
  have HB := Aside0.mk (Below.refl w.heap.size w)
  have H : ((waveletref01_Valid.f a0_0 a0_1 a0_2 a0_3).bind fun t843 => (if t843 = true then ((waveletref01_Empty.f a0_0 a0_1 a0_2 a0_3).bind fun t844 => (if t844 = true then (waveletref23_Header.j0 k true a0_0 a0_1 a0_2 a0_3 a0_4 a0_5 l0_6) else ((waveletref23_in.f a0_4 1 4096).bind fun t845 => (if t845 = true then ((waveletref23_in.f a0_5 1 4096).bind fun t846 => (if t846 = true then ((waveletref23_in.f (l0_6.length : Int) 1 4).bind fun t847 => (waveletref23_Header.j0 k (!t847) a0_0 a0_1 a0_2 a0_3 a0_4 a0_5 l0_6)) else (waveletref23_Header.j0 k true a0_0 a0_1 a0_2 a0_3 a0_4 a0_5 l0_6))) else (waveletref23_Header.j0 k true a0_0 a0_1 a0_2 a0_3 a0_4 a0_5 l0_6))))) else (waveletref23_Header.j0 k true a0_0 a0_1 a0_2 a0_3 a0_4 a0_5 l0_6))) = some r := h
  clear h
  have HC2 := Aside0.mk H
  clear H
  go_enter Try.func61, Try.ntmps61
  go_upto_region 1 with (first | ((with_reducible refine gate_dst (N := 1) rfl ?_); (try (refine gate_guard (by rfl) ?_; dsimp only)); refine box_event ?hg (N := 1) ?hd (cs := #[.int .i64 a0_0, .int .i64 a0_1, .int .i64 a0_2, .int .i64 a0_3, .int .i64 a0_4, .int .i64 a0_5, .slice A0_6 l0_6.length c0_6]) (t := 67) ?hr ?_; (case hd => rfl); (case hg => rfl); (case hr => first | (go_simp; done) | (go_simp; rfl)); intro gb842 hg w3 hbox hb; have BK842 := Aside0.mk (hbox); have GW842 := Aside0.mk ((by rw [hg]; exact (below_size (upB HB.out)) : w.heap.size ≤ gb842)); have GE842 := Aside0.mk ((by rw [hg]; exact (below_size (upB HB.out)) : w.heap.size ≤ gb842)); replace HB := Aside0.mk (below_step (upB HB.out) hb); clear hb hbox hg))
  (try simp only [Act.put, List.setIfInBounds_toArray, List.set_cons_zero, List.set_cons_succ])
  go_cut [34] (fun v34 wc => ∃ (kq : Nat) (x34_1 : Bool), v34 = .bool x34_1 ∧ Aside0 (waveletref23_Header.j0 kq x34_1 a0_0 a0_1 a0_2 a0_3 a0_4 a0_5 l0_6 = some r) ∧ Aside0 (kq ≤ k) ∧ Aside0 (wc.heap[gb842]? = some (.cells #[.int .i64 a0_0, .int .i64 a0_1, .int .i64 a0_2, .int .i64 a0_3, .int .i64 a0_4, .int .i64 a0_5, (.slice A0_6 l0_6.length c0_6)] 67 (0, 0))) ∧ Aside0 (Below w.heap.size w wc))
  case first =>
    have H := HC2.out
    clear HC2
    replace H := Option.bind_eq_some_iff.mp H
    obtain ⟨t843, A40, H⟩ := H
    replace H : (if t843 = true then ((waveletref01_Empty.f a0_0 a0_1 a0_2 a0_3).bind fun t844 => (if t844 = true then (waveletref23_Header.j0 k true a0_0 a0_1 a0_2 a0_3 a0_4 a0_5 l0_6) else ((waveletref23_in.f a0_4 1 4096).bind fun t845 => (if t845 = true then ((waveletref23_in.f a0_5 1 4096).bind fun t846 => (if t846 = true then ((waveletref23_in.f (l0_6.length : Int) 1 4).bind fun t847 => (waveletref23_Header.j0 k (!t847) a0_0 a0_1 a0_2 a0_3 a0_4 a0_5 l0_6)) else (waveletref23_Header.j0 k true a0_0 a0_1 a0_2 a0_3 a0_4 a0_5 l0_6))) else (waveletref23_Header.j0 k true a0_0 a0_1 a0_2 a0_3 a0_4 a0_5 l0_6))))) else (waveletref23_Header.j0 k true a0_0 a0_1 a0_2 a0_3 a0_4 a0_5 l0_6)) = some r := H
    have A4 := Aside0.mk A40
    clear A40
    by_cases c5 : t843 = true
    · subst c5
      have H1 : ((waveletref01_Empty.f a0_0 a0_1 a0_2 a0_3).bind fun t844 => (if t844 = true then (waveletref23_Header.j0 k true a0_0 a0_1 a0_2 a0_3 a0_4 a0_5 l0_6) else ((waveletref23_in.f a0_4 1 4096).bind fun t845 => (if t845 = true then ((waveletref23_in.f a0_5 1 4096).bind fun t846 => (if t846 = true then ((waveletref23_in.f (l0_6.length : Int) 1 4).bind fun t847 => (waveletref23_Header.j0 k (!t847) a0_0 a0_1 a0_2 a0_3 a0_4 a0_5 l0_6)) else (waveletref23_Header.j0 k true a0_0 a0_1 a0_2 a0_3 a0_4 a0_5 l0_6))) else (waveletref23_Header.j0 k true a0_0 a0_1 a0_2 a0_3 a0_4 a0_5 l0_6))))) = some r := by rw [if_pos rfl] at H; exact H
      clear H
      have H := H1
      clear H1
      replace H := Option.bind_eq_some_iff.mp H
      obtain ⟨t844, A60, H⟩ := H
      replace H : (if t844 = true then (waveletref23_Header.j0 k true a0_0 a0_1 a0_2 a0_3 a0_4 a0_5 l0_6) else ((waveletref23_in.f a0_4 1 4096).bind fun t845 => (if t845 = true then ((waveletref23_in.f a0_5 1 4096).bind fun t846 => (if t846 = true then ((waveletref23_in.f (l0_6.length : Int) 1 4).bind fun t847 => (waveletref23_Header.j0 k (!t847) a0_0 a0_1 a0_2 a0_3 a0_4 a0_5 l0_6)) else (waveletref23_Header.j0 k true a0_0 a0_1 a0_2 a0_3 a0_4 a0_5 l0_6))) else (waveletref23_Header.j0 k true a0_0 a0_1 a0_2 a0_3 a0_4 a0_5 l0_6)))) = some r := H
      have A6 := Aside0.mk A60
      clear A60
      by_cases c7 : t844 = true
      · subst c7
        have H1 : (waveletref23_Header.j0 k true a0_0 a0_1 a0_2 a0_3 a0_4 a0_5 l0_6) = some r := by rw [if_pos rfl] at H; exact H
        clear H
        have H := H1
        clear H1
        have H' := Aside0.mk H
        clear H
        have hcz8_0 : w3.cell? ⟨gb842, 0, none⟩ = some (.int .i64 a0_0) := bc BK842 0
        have hcz8_1 : w3.cell? ⟨gb842, 1, none⟩ = some (.int .i64 a0_1) := bc BK842 1
        have hcz8_2 : w3.cell? ⟨gb842, 2, none⟩ = some (.int .i64 a0_2) := bc BK842 2
        have hcz8_3 : w3.cell? ⟨gb842, 3, none⟩ = some (.int .i64 a0_3) := bc BK842 3
        have hcz8_4 : w3.cell? ⟨gb842, 4, none⟩ = some (.int .i64 a0_4) := bc BK842 4
        have hcz8_5 : w3.cell? ⟨gb842, 5, none⟩ = some (.int .i64 a0_5) := bc BK842 5
        have hcz8_6 : w3.cell? ⟨gb842, 6, none⟩ = some (.slice A0_6 l0_6.length c0_6) := bc BK842 6
        have hfz8_0 := blk_frozen BK842.out 0
        have hfz8_1 := blk_frozen BK842.out 1
        have hfz8_2 := blk_frozen BK842.out 2
        have hfz8_3 := blk_frozen BK842.out 3
        have hfz8_4 := blk_frozen BK842.out 4
        have hfz8_5 := blk_frozen BK842.out 5
        have hfz8_6 := blk_frozen BK842.out 6
        go_wp2_with (first | ((with_reducible refine gate_callee (f := 74) rfl ?_); refine goesL_ (some 9) rfl rfl Try.func74 (by kernel_rfl) rfl #[.agg #[.int .i64 a0_0, .int .i64 a0_1, .int .i64 a0_2, .int .i64 a0_3]] rfl upL ?_; (with_reducible refine (waveletref01_Valid.calls a0_0 a0_1 a0_2 a0_3 true _ A4.out).mono ?_); rintro e w9 ⟨rfl, hb⟩; refine ⟨_, rfl, ?_⟩; replace BK842 := Aside0.mk (blk_below (g := gb842) (o := .cells #[.int .i64 a0_0, .int .i64 a0_1, .int .i64 a0_2, .int .i64 a0_3, .int .i64 a0_4, .int .i64 a0_5, .slice A0_6 l0_6.length c0_6] 67 (0, 0)) (upK BK842.out) hb); replace HB := Aside0.mk (below_step (upB HB.out) hb); (try clear hb; try clear hb2; try clear hk; try clear hi); have hcz10_0 : w9.cell? ⟨gb842, 0, none⟩ = some (.int .i64 a0_0) := bc BK842 0; have hcz10_1 : w9.cell? ⟨gb842, 1, none⟩ = some (.int .i64 a0_1) := bc BK842 1; have hcz10_2 : w9.cell? ⟨gb842, 2, none⟩ = some (.int .i64 a0_2) := bc BK842 2; have hcz10_3 : w9.cell? ⟨gb842, 3, none⟩ = some (.int .i64 a0_3) := bc BK842 3; have hcz10_4 : w9.cell? ⟨gb842, 4, none⟩ = some (.int .i64 a0_4) := bc BK842 4; have hcz10_5 : w9.cell? ⟨gb842, 5, none⟩ = some (.int .i64 a0_5) := bc BK842 5; have hcz10_6 : w9.cell? ⟨gb842, 6, none⟩ = some (.slice A0_6 l0_6.length c0_6) := bc BK842 6; have hfz10_0 := blk_frozen BK842.out 0; have hfz10_1 := blk_frozen BK842.out 1; have hfz10_2 := blk_frozen BK842.out 2; have hfz10_3 := blk_frozen BK842.out 3; have hfz10_4 := blk_frozen BK842.out 4; have hfz10_5 := blk_frozen BK842.out 5; have hfz10_6 := blk_frozen BK842.out 6) | (go_at_call 75; (with_reducible refine (waveletref01_Empty.calls a0_0 a0_1 a0_2 a0_3 true _ A6.out).mono ?_); rintro e w11 ⟨rfl, hb⟩; replace BK842 := Aside0.mk (blk_below (g := gb842) (o := .cells #[.int .i64 a0_0, .int .i64 a0_1, .int .i64 a0_2, .int .i64 a0_3, .int .i64 a0_4, .int .i64 a0_5, .slice A0_6 l0_6.length c0_6] 67 (0, 0)) (upK BK842.out) hb); replace HB := Aside0.mk (below_step (upB HB.out) hb); (try clear hb; try clear hb2; try clear hk; try clear hi)))
        go_meet
        case rel => exact ⟨_, (true), (by first | rfl | (simp; done) | (simp [*]; done)), H', ⟨by first | omega | exact Nat.le_refl _⟩, ⟨by (with_reducible repeat (first | refine blk_drewN ?_ _ | refine blk_drew ?_ | refine blk_alloc ?_ _)); exact BK842.out⟩, ⟨by repeat (first | (with_reducible first | exact HB.out | apply below_alloc | apply pw_below_drewN | apply below_drew1 | refine below_set ?_ GE842.out) | exact HB.out)⟩⟩
      · replace c7 := Bool.eq_false_iff.mpr c7
        subst c7
        have H1 : ((waveletref23_in.f a0_4 1 4096).bind fun t845 => (if t845 = true then ((waveletref23_in.f a0_5 1 4096).bind fun t846 => (if t846 = true then ((waveletref23_in.f (l0_6.length : Int) 1 4).bind fun t847 => (waveletref23_Header.j0 k (!t847) a0_0 a0_1 a0_2 a0_3 a0_4 a0_5 l0_6)) else (waveletref23_Header.j0 k true a0_0 a0_1 a0_2 a0_3 a0_4 a0_5 l0_6))) else (waveletref23_Header.j0 k true a0_0 a0_1 a0_2 a0_3 a0_4 a0_5 l0_6))) = some r := by rw [if_neg (show ¬ (false = true) by decide)] at H; exact H
        clear H
        have H := H1
        clear H1
        replace H := Option.bind_eq_some_iff.mp H
        obtain ⟨t845, A120, H⟩ := H
        replace H : (if t845 = true then ((waveletref23_in.f a0_5 1 4096).bind fun t846 => (if t846 = true then ((waveletref23_in.f (l0_6.length : Int) 1 4).bind fun t847 => (waveletref23_Header.j0 k (!t847) a0_0 a0_1 a0_2 a0_3 a0_4 a0_5 l0_6)) else (waveletref23_Header.j0 k true a0_0 a0_1 a0_2 a0_3 a0_4 a0_5 l0_6))) else (waveletref23_Header.j0 k true a0_0 a0_1 a0_2 a0_3 a0_4 a0_5 l0_6)) = some r := H
        have A12 := Aside0.mk A120
        clear A120
        by_cases c13 : t845 = true
        · subst c13
          have H1 : ((waveletref23_in.f a0_5 1 4096).bind fun t846 => (if t846 = true then ((waveletref23_in.f (l0_6.length : Int) 1 4).bind fun t847 => (waveletref23_Header.j0 k (!t847) a0_0 a0_1 a0_2 a0_3 a0_4 a0_5 l0_6)) else (waveletref23_Header.j0 k true a0_0 a0_1 a0_2 a0_3 a0_4 a0_5 l0_6))) = some r := by rw [if_pos rfl] at H; exact H
          clear H
          have H := H1
          clear H1
          replace H := Option.bind_eq_some_iff.mp H
          obtain ⟨t846, A140, H⟩ := H
          replace H : (if t846 = true then ((waveletref23_in.f (l0_6.length : Int) 1 4).bind fun t847 => (waveletref23_Header.j0 k (!t847) a0_0 a0_1 a0_2 a0_3 a0_4 a0_5 l0_6)) else (waveletref23_Header.j0 k true a0_0 a0_1 a0_2 a0_3 a0_4 a0_5 l0_6)) = some r := H
          have A14 := Aside0.mk A140
          clear A140
          by_cases c15 : t846 = true
          · subst c15
            have H1 : ((waveletref23_in.f (l0_6.length : Int) 1 4).bind fun t847 => (waveletref23_Header.j0 k (!t847) a0_0 a0_1 a0_2 a0_3 a0_4 a0_5 l0_6)) = some r := by rw [if_pos rfl] at H; exact H
            clear H
            have H := H1
            clear H1
            replace H := Option.bind_eq_some_iff.mp H
            obtain ⟨t847, A160, H⟩ := H
            replace H : (waveletref23_Header.j0 k (!t847) a0_0 a0_1 a0_2 a0_3 a0_4 a0_5 l0_6) = some r := H
            have A16 := Aside0.mk A160
            clear A160
            have H' := Aside0.mk H
            clear H
            have hcz17_0 : w3.cell? ⟨gb842, 0, none⟩ = some (.int .i64 a0_0) := bc BK842 0
            have hcz17_1 : w3.cell? ⟨gb842, 1, none⟩ = some (.int .i64 a0_1) := bc BK842 1
            have hcz17_2 : w3.cell? ⟨gb842, 2, none⟩ = some (.int .i64 a0_2) := bc BK842 2
            have hcz17_3 : w3.cell? ⟨gb842, 3, none⟩ = some (.int .i64 a0_3) := bc BK842 3
            have hcz17_4 : w3.cell? ⟨gb842, 4, none⟩ = some (.int .i64 a0_4) := bc BK842 4
            have hcz17_5 : w3.cell? ⟨gb842, 5, none⟩ = some (.int .i64 a0_5) := bc BK842 5
            have hcz17_6 : w3.cell? ⟨gb842, 6, none⟩ = some (.slice A0_6 l0_6.length c0_6) := bc BK842 6
            have hfz17_0 := blk_frozen BK842.out 0
            have hfz17_1 := blk_frozen BK842.out 1
            have hfz17_2 := blk_frozen BK842.out 2
            have hfz17_3 := blk_frozen BK842.out 3
            have hfz17_4 := blk_frozen BK842.out 4
            have hfz17_5 := blk_frozen BK842.out 5
            have hfz17_6 := blk_frozen BK842.out 6
            go_wp2_with (first | ((with_reducible refine gate_callee (f := 74) rfl ?_); refine goesL_ (some 9) rfl rfl Try.func74 (by kernel_rfl) rfl #[.agg #[.int .i64 a0_0, .int .i64 a0_1, .int .i64 a0_2, .int .i64 a0_3]] rfl upL ?_; (with_reducible refine (waveletref01_Valid.calls a0_0 a0_1 a0_2 a0_3 true _ A4.out).mono ?_); rintro e w18 ⟨rfl, hb⟩; refine ⟨_, rfl, ?_⟩; replace BK842 := Aside0.mk (blk_below (g := gb842) (o := .cells #[.int .i64 a0_0, .int .i64 a0_1, .int .i64 a0_2, .int .i64 a0_3, .int .i64 a0_4, .int .i64 a0_5, .slice A0_6 l0_6.length c0_6] 67 (0, 0)) (upK BK842.out) hb); replace HB := Aside0.mk (below_step (upB HB.out) hb); (try clear hb; try clear hb2; try clear hk; try clear hi); have hcz19_0 : w18.cell? ⟨gb842, 0, none⟩ = some (.int .i64 a0_0) := bc BK842 0; have hcz19_1 : w18.cell? ⟨gb842, 1, none⟩ = some (.int .i64 a0_1) := bc BK842 1; have hcz19_2 : w18.cell? ⟨gb842, 2, none⟩ = some (.int .i64 a0_2) := bc BK842 2; have hcz19_3 : w18.cell? ⟨gb842, 3, none⟩ = some (.int .i64 a0_3) := bc BK842 3; have hcz19_4 : w18.cell? ⟨gb842, 4, none⟩ = some (.int .i64 a0_4) := bc BK842 4; have hcz19_5 : w18.cell? ⟨gb842, 5, none⟩ = some (.int .i64 a0_5) := bc BK842 5; have hcz19_6 : w18.cell? ⟨gb842, 6, none⟩ = some (.slice A0_6 l0_6.length c0_6) := bc BK842 6; have hfz19_0 := blk_frozen BK842.out 0; have hfz19_1 := blk_frozen BK842.out 1; have hfz19_2 := blk_frozen BK842.out 2; have hfz19_3 := blk_frozen BK842.out 3; have hfz19_4 := blk_frozen BK842.out 4; have hfz19_5 := blk_frozen BK842.out 5; have hfz19_6 := blk_frozen BK842.out 6) | (go_at_call 75; (with_reducible refine (waveletref01_Empty.calls a0_0 a0_1 a0_2 a0_3 false _ A6.out).mono ?_); rintro e w20 ⟨rfl, hb⟩; replace BK842 := Aside0.mk (blk_below (g := gb842) (o := .cells #[.int .i64 a0_0, .int .i64 a0_1, .int .i64 a0_2, .int .i64 a0_3, .int .i64 a0_4, .int .i64 a0_5, .slice A0_6 l0_6.length c0_6] 67 (0, 0)) (upK BK842.out) hb); replace HB := Aside0.mk (below_step (upB HB.out) hb); (try clear hb; try clear hb2; try clear hk; try clear hi); have hcz21_0 : w20.cell? ⟨gb842, 0, none⟩ = some (.int .i64 a0_0) := bc BK842 0; have hcz21_1 : w20.cell? ⟨gb842, 1, none⟩ = some (.int .i64 a0_1) := bc BK842 1; have hcz21_2 : w20.cell? ⟨gb842, 2, none⟩ = some (.int .i64 a0_2) := bc BK842 2; have hcz21_3 : w20.cell? ⟨gb842, 3, none⟩ = some (.int .i64 a0_3) := bc BK842 3; have hcz21_4 : w20.cell? ⟨gb842, 4, none⟩ = some (.int .i64 a0_4) := bc BK842 4; have hcz21_5 : w20.cell? ⟨gb842, 5, none⟩ = some (.int .i64 a0_5) := bc BK842 5; have hcz21_6 : w20.cell? ⟨gb842, 6, none⟩ = some (.slice A0_6 l0_6.length c0_6) := bc BK842 6; have hfz21_0 := blk_frozen BK842.out 0; have hfz21_1 := blk_frozen BK842.out 1; have hfz21_2 := blk_frozen BK842.out 2; have hfz21_3 := blk_frozen BK842.out 3; have hfz21_4 := blk_frozen BK842.out 4; have hfz21_5 := blk_frozen BK842.out 5; have hfz21_6 := blk_frozen BK842.out 6) | (go_at_call 76; (with_reducible refine (waveletref23_in.calls a0_4 1 4096 true _ A12.out).mono ?_); rintro e w' ⟨rfl, ⟨nd, rfl⟩⟩) | (go_at_call 76; (with_reducible refine (waveletref23_in.calls a0_5 1 4096 true _ A14.out).mono ?_); rintro e w' ⟨rfl, ⟨nd, rfl⟩⟩) | (go_at_call 76; (with_reducible refine (waveletref23_in.calls (l0_6.length : Int) 1 4 t847 _ A16.out).mono ?_); rintro e w' ⟨rfl, ⟨nd, rfl⟩⟩))
            go_meet
            case rel => exact ⟨_, (!t847), (by first | rfl | (simp; done) | (simp [*]; done)), H', ⟨by first | omega | exact Nat.le_refl _⟩, ⟨by (with_reducible repeat (first | refine blk_drewN ?_ _ | refine blk_drew ?_ | refine blk_alloc ?_ _)); exact BK842.out⟩, ⟨by repeat (first | (with_reducible first | exact HB.out | apply below_alloc | apply pw_below_drewN | apply below_drew1 | refine below_set ?_ GE842.out) | exact HB.out)⟩⟩
          · replace c15 := Bool.eq_false_iff.mpr c15
            subst c15
            have H1 : (waveletref23_Header.j0 k true a0_0 a0_1 a0_2 a0_3 a0_4 a0_5 l0_6) = some r := by rw [if_neg (show ¬ (false = true) by decide)] at H; exact H
            clear H
            have H := H1
            clear H1
            have H' := Aside0.mk H
            clear H
            have hcz22_0 : w3.cell? ⟨gb842, 0, none⟩ = some (.int .i64 a0_0) := bc BK842 0
            have hcz22_1 : w3.cell? ⟨gb842, 1, none⟩ = some (.int .i64 a0_1) := bc BK842 1
            have hcz22_2 : w3.cell? ⟨gb842, 2, none⟩ = some (.int .i64 a0_2) := bc BK842 2
            have hcz22_3 : w3.cell? ⟨gb842, 3, none⟩ = some (.int .i64 a0_3) := bc BK842 3
            have hcz22_4 : w3.cell? ⟨gb842, 4, none⟩ = some (.int .i64 a0_4) := bc BK842 4
            have hcz22_5 : w3.cell? ⟨gb842, 5, none⟩ = some (.int .i64 a0_5) := bc BK842 5
            have hcz22_6 : w3.cell? ⟨gb842, 6, none⟩ = some (.slice A0_6 l0_6.length c0_6) := bc BK842 6
            have hfz22_0 := blk_frozen BK842.out 0
            have hfz22_1 := blk_frozen BK842.out 1
            have hfz22_2 := blk_frozen BK842.out 2
            have hfz22_3 := blk_frozen BK842.out 3
            have hfz22_4 := blk_frozen BK842.out 4
            have hfz22_5 := blk_frozen BK842.out 5
            have hfz22_6 := blk_frozen BK842.out 6
            go_wp2_with (first | ((with_reducible refine gate_callee (f := 74) rfl ?_); refine goesL_ (some 9) rfl rfl Try.func74 (by kernel_rfl) rfl #[.agg #[.int .i64 a0_0, .int .i64 a0_1, .int .i64 a0_2, .int .i64 a0_3]] rfl upL ?_; (with_reducible refine (waveletref01_Valid.calls a0_0 a0_1 a0_2 a0_3 true _ A4.out).mono ?_); rintro e w23 ⟨rfl, hb⟩; refine ⟨_, rfl, ?_⟩; replace BK842 := Aside0.mk (blk_below (g := gb842) (o := .cells #[.int .i64 a0_0, .int .i64 a0_1, .int .i64 a0_2, .int .i64 a0_3, .int .i64 a0_4, .int .i64 a0_5, .slice A0_6 l0_6.length c0_6] 67 (0, 0)) (upK BK842.out) hb); replace HB := Aside0.mk (below_step (upB HB.out) hb); (try clear hb; try clear hb2; try clear hk; try clear hi); have hcz24_0 : w23.cell? ⟨gb842, 0, none⟩ = some (.int .i64 a0_0) := bc BK842 0; have hcz24_1 : w23.cell? ⟨gb842, 1, none⟩ = some (.int .i64 a0_1) := bc BK842 1; have hcz24_2 : w23.cell? ⟨gb842, 2, none⟩ = some (.int .i64 a0_2) := bc BK842 2; have hcz24_3 : w23.cell? ⟨gb842, 3, none⟩ = some (.int .i64 a0_3) := bc BK842 3; have hcz24_4 : w23.cell? ⟨gb842, 4, none⟩ = some (.int .i64 a0_4) := bc BK842 4; have hcz24_5 : w23.cell? ⟨gb842, 5, none⟩ = some (.int .i64 a0_5) := bc BK842 5; have hcz24_6 : w23.cell? ⟨gb842, 6, none⟩ = some (.slice A0_6 l0_6.length c0_6) := bc BK842 6; have hfz24_0 := blk_frozen BK842.out 0; have hfz24_1 := blk_frozen BK842.out 1; have hfz24_2 := blk_frozen BK842.out 2; have hfz24_3 := blk_frozen BK842.out 3; have hfz24_4 := blk_frozen BK842.out 4; have hfz24_5 := blk_frozen BK842.out 5; have hfz24_6 := blk_frozen BK842.out 6) | (go_at_call 75; (with_reducible refine (waveletref01_Empty.calls a0_0 a0_1 a0_2 a0_3 false _ A6.out).mono ?_); rintro e w25 ⟨rfl, hb⟩; replace BK842 := Aside0.mk (blk_below (g := gb842) (o := .cells #[.int .i64 a0_0, .int .i64 a0_1, .int .i64 a0_2, .int .i64 a0_3, .int .i64 a0_4, .int .i64 a0_5, .slice A0_6 l0_6.length c0_6] 67 (0, 0)) (upK BK842.out) hb); replace HB := Aside0.mk (below_step (upB HB.out) hb); (try clear hb; try clear hb2; try clear hk; try clear hi); have hcz26_0 : w25.cell? ⟨gb842, 0, none⟩ = some (.int .i64 a0_0) := bc BK842 0; have hcz26_1 : w25.cell? ⟨gb842, 1, none⟩ = some (.int .i64 a0_1) := bc BK842 1; have hcz26_2 : w25.cell? ⟨gb842, 2, none⟩ = some (.int .i64 a0_2) := bc BK842 2; have hcz26_3 : w25.cell? ⟨gb842, 3, none⟩ = some (.int .i64 a0_3) := bc BK842 3; have hcz26_4 : w25.cell? ⟨gb842, 4, none⟩ = some (.int .i64 a0_4) := bc BK842 4; have hcz26_5 : w25.cell? ⟨gb842, 5, none⟩ = some (.int .i64 a0_5) := bc BK842 5; have hcz26_6 : w25.cell? ⟨gb842, 6, none⟩ = some (.slice A0_6 l0_6.length c0_6) := bc BK842 6; have hfz26_0 := blk_frozen BK842.out 0; have hfz26_1 := blk_frozen BK842.out 1; have hfz26_2 := blk_frozen BK842.out 2; have hfz26_3 := blk_frozen BK842.out 3; have hfz26_4 := blk_frozen BK842.out 4; have hfz26_5 := blk_frozen BK842.out 5; have hfz26_6 := blk_frozen BK842.out 6) | (go_at_call 76; (with_reducible refine (waveletref23_in.calls a0_4 1 4096 true _ A12.out).mono ?_); rintro e w' ⟨rfl, ⟨nd, rfl⟩⟩) | (go_at_call 76; (with_reducible refine (waveletref23_in.calls a0_5 1 4096 false _ A14.out).mono ?_); rintro e w' ⟨rfl, ⟨nd, rfl⟩⟩))
            go_meet
            case rel => exact ⟨_, (true), (by first | rfl | (simp; done) | (simp [*]; done)), H', ⟨by first | omega | exact Nat.le_refl _⟩, ⟨by (with_reducible repeat (first | refine blk_drewN ?_ _ | refine blk_drew ?_ | refine blk_alloc ?_ _)); exact BK842.out⟩, ⟨by repeat (first | (with_reducible first | exact HB.out | apply below_alloc | apply pw_below_drewN | apply below_drew1 | refine below_set ?_ GE842.out) | exact HB.out)⟩⟩
        · replace c13 := Bool.eq_false_iff.mpr c13
          subst c13
          have H1 : (waveletref23_Header.j0 k true a0_0 a0_1 a0_2 a0_3 a0_4 a0_5 l0_6) = some r := by rw [if_neg (show ¬ (false = true) by decide)] at H; exact H
          clear H
          have H := H1
          clear H1
          have H' := Aside0.mk H
          clear H
          have hcz27_0 : w3.cell? ⟨gb842, 0, none⟩ = some (.int .i64 a0_0) := bc BK842 0
          have hcz27_1 : w3.cell? ⟨gb842, 1, none⟩ = some (.int .i64 a0_1) := bc BK842 1
          have hcz27_2 : w3.cell? ⟨gb842, 2, none⟩ = some (.int .i64 a0_2) := bc BK842 2
          have hcz27_3 : w3.cell? ⟨gb842, 3, none⟩ = some (.int .i64 a0_3) := bc BK842 3
          have hcz27_4 : w3.cell? ⟨gb842, 4, none⟩ = some (.int .i64 a0_4) := bc BK842 4
          have hcz27_5 : w3.cell? ⟨gb842, 5, none⟩ = some (.int .i64 a0_5) := bc BK842 5
          have hcz27_6 : w3.cell? ⟨gb842, 6, none⟩ = some (.slice A0_6 l0_6.length c0_6) := bc BK842 6
          have hfz27_0 := blk_frozen BK842.out 0
          have hfz27_1 := blk_frozen BK842.out 1
          have hfz27_2 := blk_frozen BK842.out 2
          have hfz27_3 := blk_frozen BK842.out 3
          have hfz27_4 := blk_frozen BK842.out 4
          have hfz27_5 := blk_frozen BK842.out 5
          have hfz27_6 := blk_frozen BK842.out 6
          go_wp2_with (first | ((with_reducible refine gate_callee (f := 74) rfl ?_); refine goesL_ (some 9) rfl rfl Try.func74 (by kernel_rfl) rfl #[.agg #[.int .i64 a0_0, .int .i64 a0_1, .int .i64 a0_2, .int .i64 a0_3]] rfl upL ?_; (with_reducible refine (waveletref01_Valid.calls a0_0 a0_1 a0_2 a0_3 true _ A4.out).mono ?_); rintro e w28 ⟨rfl, hb⟩; refine ⟨_, rfl, ?_⟩; replace BK842 := Aside0.mk (blk_below (g := gb842) (o := .cells #[.int .i64 a0_0, .int .i64 a0_1, .int .i64 a0_2, .int .i64 a0_3, .int .i64 a0_4, .int .i64 a0_5, .slice A0_6 l0_6.length c0_6] 67 (0, 0)) (upK BK842.out) hb); replace HB := Aside0.mk (below_step (upB HB.out) hb); (try clear hb; try clear hb2; try clear hk; try clear hi); have hcz29_0 : w28.cell? ⟨gb842, 0, none⟩ = some (.int .i64 a0_0) := bc BK842 0; have hcz29_1 : w28.cell? ⟨gb842, 1, none⟩ = some (.int .i64 a0_1) := bc BK842 1; have hcz29_2 : w28.cell? ⟨gb842, 2, none⟩ = some (.int .i64 a0_2) := bc BK842 2; have hcz29_3 : w28.cell? ⟨gb842, 3, none⟩ = some (.int .i64 a0_3) := bc BK842 3; have hcz29_4 : w28.cell? ⟨gb842, 4, none⟩ = some (.int .i64 a0_4) := bc BK842 4; have hcz29_5 : w28.cell? ⟨gb842, 5, none⟩ = some (.int .i64 a0_5) := bc BK842 5; have hcz29_6 : w28.cell? ⟨gb842, 6, none⟩ = some (.slice A0_6 l0_6.length c0_6) := bc BK842 6; have hfz29_0 := blk_frozen BK842.out 0; have hfz29_1 := blk_frozen BK842.out 1; have hfz29_2 := blk_frozen BK842.out 2; have hfz29_3 := blk_frozen BK842.out 3; have hfz29_4 := blk_frozen BK842.out 4; have hfz29_5 := blk_frozen BK842.out 5; have hfz29_6 := blk_frozen BK842.out 6) | (go_at_call 75; (with_reducible refine (waveletref01_Empty.calls a0_0 a0_1 a0_2 a0_3 false _ A6.out).mono ?_); rintro e w30 ⟨rfl, hb⟩; replace BK842 := Aside0.mk (blk_below (g := gb842) (o := .cells #[.int .i64 a0_0, .int .i64 a0_1, .int .i64 a0_2, .int .i64 a0_3, .int .i64 a0_4, .int .i64 a0_5, .slice A0_6 l0_6.length c0_6] 67 (0, 0)) (upK BK842.out) hb); replace HB := Aside0.mk (below_step (upB HB.out) hb); (try clear hb; try clear hb2; try clear hk; try clear hi); have hcz31_0 : w30.cell? ⟨gb842, 0, none⟩ = some (.int .i64 a0_0) := bc BK842 0; have hcz31_1 : w30.cell? ⟨gb842, 1, none⟩ = some (.int .i64 a0_1) := bc BK842 1; have hcz31_2 : w30.cell? ⟨gb842, 2, none⟩ = some (.int .i64 a0_2) := bc BK842 2; have hcz31_3 : w30.cell? ⟨gb842, 3, none⟩ = some (.int .i64 a0_3) := bc BK842 3; have hcz31_4 : w30.cell? ⟨gb842, 4, none⟩ = some (.int .i64 a0_4) := bc BK842 4; have hcz31_5 : w30.cell? ⟨gb842, 5, none⟩ = some (.int .i64 a0_5) := bc BK842 5; have hcz31_6 : w30.cell? ⟨gb842, 6, none⟩ = some (.slice A0_6 l0_6.length c0_6) := bc BK842 6; have hfz31_0 := blk_frozen BK842.out 0; have hfz31_1 := blk_frozen BK842.out 1; have hfz31_2 := blk_frozen BK842.out 2; have hfz31_3 := blk_frozen BK842.out 3; have hfz31_4 := blk_frozen BK842.out 4; have hfz31_5 := blk_frozen BK842.out 5; have hfz31_6 := blk_frozen BK842.out 6) | (go_at_call 76; (with_reducible refine (waveletref23_in.calls a0_4 1 4096 false _ A12.out).mono ?_); rintro e w' ⟨rfl, ⟨nd, rfl⟩⟩))
          go_meet
          case rel => exact ⟨_, (true), (by first | rfl | (simp; done) | (simp [*]; done)), H', ⟨by first | omega | exact Nat.le_refl _⟩, ⟨by (with_reducible repeat (first | refine blk_drewN ?_ _ | refine blk_drew ?_ | refine blk_alloc ?_ _)); exact BK842.out⟩, ⟨by repeat (first | (with_reducible first | exact HB.out | apply below_alloc | apply pw_below_drewN | apply below_drew1 | refine below_set ?_ GE842.out) | exact HB.out)⟩⟩
    · replace c5 := Bool.eq_false_iff.mpr c5
      subst c5
      have H1 : (waveletref23_Header.j0 k true a0_0 a0_1 a0_2 a0_3 a0_4 a0_5 l0_6) = some r := by rw [if_neg (show ¬ (false = true) by decide)] at H; exact H
      clear H
      have H := H1
      clear H1
      have H' := Aside0.mk H
      clear H
      have hcz32_0 : w3.cell? ⟨gb842, 0, none⟩ = some (.int .i64 a0_0) := bc BK842 0
      have hcz32_1 : w3.cell? ⟨gb842, 1, none⟩ = some (.int .i64 a0_1) := bc BK842 1
      have hcz32_2 : w3.cell? ⟨gb842, 2, none⟩ = some (.int .i64 a0_2) := bc BK842 2
      have hcz32_3 : w3.cell? ⟨gb842, 3, none⟩ = some (.int .i64 a0_3) := bc BK842 3
      have hcz32_4 : w3.cell? ⟨gb842, 4, none⟩ = some (.int .i64 a0_4) := bc BK842 4
      have hcz32_5 : w3.cell? ⟨gb842, 5, none⟩ = some (.int .i64 a0_5) := bc BK842 5
      have hcz32_6 : w3.cell? ⟨gb842, 6, none⟩ = some (.slice A0_6 l0_6.length c0_6) := bc BK842 6
      have hfz32_0 := blk_frozen BK842.out 0
      have hfz32_1 := blk_frozen BK842.out 1
      have hfz32_2 := blk_frozen BK842.out 2
      have hfz32_3 := blk_frozen BK842.out 3
      have hfz32_4 := blk_frozen BK842.out 4
      have hfz32_5 := blk_frozen BK842.out 5
      have hfz32_6 := blk_frozen BK842.out 6
      go_wp2_with (first | ((with_reducible refine gate_callee (f := 74) rfl ?_); refine goesL_ (some 9) rfl rfl Try.func74 (by kernel_rfl) rfl #[.agg #[.int .i64 a0_0, .int .i64 a0_1, .int .i64 a0_2, .int .i64 a0_3]] rfl upL ?_; (with_reducible refine (waveletref01_Valid.calls a0_0 a0_1 a0_2 a0_3 false _ A4.out).mono ?_); rintro e w33 ⟨rfl, hb⟩; refine ⟨_, rfl, ?_⟩; replace BK842 := Aside0.mk (blk_below (g := gb842) (o := .cells #[.int .i64 a0_0, .int .i64 a0_1, .int .i64 a0_2, .int .i64 a0_3, .int .i64 a0_4, .int .i64 a0_5, .slice A0_6 l0_6.length c0_6] 67 (0, 0)) (upK BK842.out) hb); replace HB := Aside0.mk (below_step (upB HB.out) hb); (try clear hb; try clear hb2; try clear hk; try clear hi)))
      go_meet
      case rel => exact ⟨_, (true), (by first | rfl | (simp; done) | (simp [*]; done)), H', ⟨by first | omega | exact Nat.le_refl _⟩, ⟨by (with_reducible repeat (first | refine blk_drewN ?_ _ | refine blk_drew ?_ | refine blk_alloc ?_ _)); exact BK842.out⟩, ⟨by repeat (first | (with_reducible first | exact HB.out | apply below_alloc | apply pw_below_drewN | apply below_drew1 | refine below_set ?_ GE842.out) | exact HB.out)⟩⟩
  case rest =>
    clear HC2
    try clear c1
    try clear p2
    try clear c5
    try clear c6
    try clear c7
    try clear c13
    try clear c15
    try clear hcz10_0
    try clear hcz10_1
    try clear hcz10_2
    try clear hcz10_3
    try clear hcz10_4
    try clear hcz10_5
    try clear hcz10_6
    try clear hcz17_0
    try clear hcz17_1
    try clear hcz17_2
    try clear hcz17_3
    try clear hcz17_4
    try clear hcz17_5
    try clear hcz17_6
    try clear hcz19_0
    try clear hcz19_1
    try clear hcz19_2
    try clear hcz19_3
    try clear hcz19_4
    try clear hcz19_5
    try clear hcz19_6
    try clear hcz21_0
    try clear hcz21_1
    try clear hcz21_2
    try clear hcz21_3
    try clear hcz21_4
    try clear hcz21_5
    try clear hcz21_6
    try clear hcz22_0
    try clear hcz22_1
    try clear hcz22_2
    try clear hcz22_3
    try clear hcz22_4
    try clear hcz22_5
    try clear hcz22_6
    try clear hcz24_0
    try clear hcz24_1
    try clear hcz24_2
    try clear hcz24_3
    try clear hcz24_4
    try clear hcz24_5
    try clear hcz24_6
    try clear hcz26_0
    try clear hcz26_1
    try clear hcz26_2
    try clear hcz26_3
    try clear hcz26_4
    try clear hcz26_5
    try clear hcz26_6
    try clear hcz27_0
    try clear hcz27_1
    try clear hcz27_2
    try clear hcz27_3
    try clear hcz27_4
    try clear hcz27_5
    try clear hcz27_6
    try clear hcz29_0
    try clear hcz29_1
    try clear hcz29_2
    try clear hcz29_3
    try clear hcz29_4
    try clear hcz29_5
    try clear hcz29_6
    try clear hcz31_0
    try clear hcz31_1
    try clear hcz31_2
    try clear hcz31_3
    try clear hcz31_4
    try clear hcz31_5
    try clear hcz31_6
    try clear hcz32_0
    try clear hcz32_1
    try clear hcz32_2
    try clear hcz32_3
    try clear hcz32_4
    try clear hcz32_5
    try clear hcz32_6
    try clear hcz8_0
    try clear hcz8_1
    try clear hcz8_2
    try clear hcz8_3
    try clear hcz8_4
    try clear hcz8_5
    try clear hcz8_6
    try clear hfz10_0
    try clear hfz10_1
    try clear hfz10_2
    try clear hfz10_3
    try clear hfz10_4
    try clear hfz10_5
    try clear hfz10_6
    try clear hfz17_0
    try clear hfz17_1
    try clear hfz17_2
    try clear hfz17_3
    try clear hfz17_4
    try clear hfz17_5
    try clear hfz17_6
    try clear hfz19_0
    try clear hfz19_1
    try clear hfz19_2
    try clear hfz19_3
    try clear hfz19_4
    try clear hfz19_5
    try clear hfz19_6
    try clear hfz21_0
    try clear hfz21_1
    try clear hfz21_2
    try clear hfz21_3
    try clear hfz21_4
    try clear hfz21_5
    try clear hfz21_6
    try clear hfz22_0
    try clear hfz22_1
    try clear hfz22_2
    try clear hfz22_3
    try clear hfz22_4
    try clear hfz22_5
    try clear hfz22_6
    try clear hfz24_0
    try clear hfz24_1
    try clear hfz24_2
    try clear hfz24_3
    try clear hfz24_4
    try clear hfz24_5
    try clear hfz24_6
    try clear hfz26_0
    try clear hfz26_1
    try clear hfz26_2
    try clear hfz26_3
    try clear hfz26_4
    try clear hfz26_5
    try clear hfz26_6
    try clear hfz27_0
    try clear hfz27_1
    try clear hfz27_2
    try clear hfz27_3
    try clear hfz27_4
    try clear hfz27_5
    try clear hfz27_6
    try clear hfz29_0
    try clear hfz29_1
    try clear hfz29_2
    try clear hfz29_3
    try clear hfz29_4
    try clear hfz29_5
    try clear hfz29_6
    try clear hfz31_0
    try clear hfz31_1
    try clear hfz31_2
    try clear hfz31_3
    try clear hfz31_4
    try clear hfz31_5
    try clear hfz31_6
    try clear hfz32_0
    try clear hfz32_1
    try clear hfz32_2
    try clear hfz32_3
    try clear hfz32_4
    try clear hfz32_5
    try clear hfz32_6
    try clear hfz8_0
    try clear hfz8_1
    try clear hfz8_2
    try clear hfz8_3
    try clear hfz8_4
    try clear hfz8_5
    try clear hfz8_6
    obtain ⟨kq, x34_1, rfl, HA, HJ1, BK842, HB⟩ := hcut
    cases kq with
    | zero => exact absurd HA.out (by simp [waveletref23_Header.j0])
    | succ kj1 =>
      have H := HA.out
      clear HA
      simp only [waveletref23_Header.j0] at H
      by_cases c34 : x34_1 = true
      · subst c34
        have H1 : (some 12) = some r := by rw [if_pos rfl] at H; exact H
        clear H
        have H := H1
        clear H1
        obtain rfl := Option.some.inj H
        go_wp2
        go_ret
        exact ⟨by first | rfl | (simp [errW_none, errW_some] <;> rfl) | (simp [*, errW_none, errW_some] <;> rfl), by repeat (first | (with_reducible first | exact HB.out | apply below_alloc | apply pw_below_drewN | apply below_drew1 | refine below_set ?_ GE842.out) | exact HB.out)⟩
      · replace c34 := Bool.eq_false_iff.mpr c34
        subst c34
        have H1 : (waveletref23_Header.l0 kj1 0 a0_0 a0_1 a0_2 a0_3 a0_4 a0_5 l0_6) = some r := by rw [if_neg (show ¬ (false = true) by decide)] at H; exact H
        clear H
        have H := H1
        clear H1
        have H' := Aside0.mk H
        clear H
        go_wp2
        go_loopg [3] kj1 (fun kq v3 w' => ∃ (x3_2 : Int), v3 = .int .i64 x3_2 ∧ Aside0 (waveletref23_Header.l0 kq x3_2 a0_0 a0_1 a0_2 a0_3 a0_4 a0_5 l0_6 = some r) ∧ Aside0 (kq ≤ kj1) ∧ Aside0 (w'.heap[gb842]? = some (.cells #[.int .i64 a0_0, .int .i64 a0_1, .int .i64 a0_2, .int .i64 a0_3, .int .i64 a0_4, .int .i64 a0_5, (.slice A0_6 l0_6.length c0_6)] 67 (0, 0))) ∧ Aside0 (Below w.heap.size w w'))
        case atStart => exact ⟨(0), (by first | rfl | (simp; done) | (simp [*]; done)), H', ⟨Nat.le_refl _⟩, ⟨by (with_reducible repeat (first | refine blk_drewN ?_ _ | refine blk_drew ?_ | refine blk_alloc ?_ _)); exact BK842.out⟩, ⟨by repeat (first | (with_reducible first | exact HB.out | apply below_alloc | apply pw_below_drewN | apply below_drew1 | refine below_set ?_ GE842.out) | exact HB.out)⟩⟩
        case round =>
          clear H'
          try clear c1
          try clear p2
          try clear c3
          try clear c5
          try clear c6
          try clear c7
          try clear c13
          try clear c15
          try clear c34
          try clear hcz10_0
          try clear hcz10_1
          try clear hcz10_2
          try clear hcz10_3
          try clear hcz10_4
          try clear hcz10_5
          try clear hcz10_6
          try clear hcz17_0
          try clear hcz17_1
          try clear hcz17_2
          try clear hcz17_3
          try clear hcz17_4
          try clear hcz17_5
          try clear hcz17_6
          try clear hcz19_0
          try clear hcz19_1
          try clear hcz19_2
          try clear hcz19_3
          try clear hcz19_4
          try clear hcz19_5
          try clear hcz19_6
          try clear hcz21_0
          try clear hcz21_1
          try clear hcz21_2
          try clear hcz21_3
          try clear hcz21_4
          try clear hcz21_5
          try clear hcz21_6
          try clear hcz22_0
          try clear hcz22_1
          try clear hcz22_2
          try clear hcz22_3
          try clear hcz22_4
          try clear hcz22_5
          try clear hcz22_6
          try clear hcz24_0
          try clear hcz24_1
          try clear hcz24_2
          try clear hcz24_3
          try clear hcz24_4
          try clear hcz24_5
          try clear hcz24_6
          try clear hcz26_0
          try clear hcz26_1
          try clear hcz26_2
          try clear hcz26_3
          try clear hcz26_4
          try clear hcz26_5
          try clear hcz26_6
          try clear hcz27_0
          try clear hcz27_1
          try clear hcz27_2
          try clear hcz27_3
          try clear hcz27_4
          try clear hcz27_5
          try clear hcz27_6
          try clear hcz29_0
          try clear hcz29_1
          try clear hcz29_2
          try clear hcz29_3
          try clear hcz29_4
          try clear hcz29_5
          try clear hcz29_6
          try clear hcz31_0
          try clear hcz31_1
          try clear hcz31_2
          try clear hcz31_3
          try clear hcz31_4
          try clear hcz31_5
          try clear hcz31_6
          try clear hcz32_0
          try clear hcz32_1
          try clear hcz32_2
          try clear hcz32_3
          try clear hcz32_4
          try clear hcz32_5
          try clear hcz32_6
          try clear hcz8_0
          try clear hcz8_1
          try clear hcz8_2
          try clear hcz8_3
          try clear hcz8_4
          try clear hcz8_5
          try clear hcz8_6
          try clear hfz10_0
          try clear hfz10_1
          try clear hfz10_2
          try clear hfz10_3
          try clear hfz10_4
          try clear hfz10_5
          try clear hfz10_6
          try clear hfz17_0
          try clear hfz17_1
          try clear hfz17_2
          try clear hfz17_3
          try clear hfz17_4
          try clear hfz17_5
          try clear hfz17_6
          try clear hfz19_0
          try clear hfz19_1
          try clear hfz19_2
          try clear hfz19_3
          try clear hfz19_4
          try clear hfz19_5
          try clear hfz19_6
          try clear hfz21_0
          try clear hfz21_1
          try clear hfz21_2
          try clear hfz21_3
          try clear hfz21_4
          try clear hfz21_5
          try clear hfz21_6
          try clear hfz22_0
          try clear hfz22_1
          try clear hfz22_2
          try clear hfz22_3
          try clear hfz22_4
          try clear hfz22_5
          try clear hfz22_6
          try clear hfz24_0
          try clear hfz24_1
          try clear hfz24_2
          try clear hfz24_3
          try clear hfz24_4
          try clear hfz24_5
          try clear hfz24_6
          try clear hfz26_0
          try clear hfz26_1
          try clear hfz26_2
          try clear hfz26_3
          try clear hfz26_4
          try clear hfz26_5
          try clear hfz26_6
          try clear hfz27_0
          try clear hfz27_1
          try clear hfz27_2
          try clear hfz27_3
          try clear hfz27_4
          try clear hfz27_5
          try clear hfz27_6
          try clear hfz29_0
          try clear hfz29_1
          try clear hfz29_2
          try clear hfz29_3
          try clear hfz29_4
          try clear hfz29_5
          try clear hfz29_6
          try clear hfz31_0
          try clear hfz31_1
          try clear hfz31_2
          try clear hfz31_3
          try clear hfz31_4
          try clear hfz31_5
          try clear hfz31_6
          try clear hfz32_0
          try clear hfz32_1
          try clear hfz32_2
          try clear hfz32_3
          try clear hfz32_4
          try clear hfz32_5
          try clear hfz32_6
          try clear hfz8_0
          try clear hfz8_1
          try clear hfz8_2
          try clear hfz8_3
          try clear hfz8_4
          try clear hfz8_5
          try clear hfz8_6
          try clear p2
          obtain ⟨x3_2, rfl, HA, HK2, BK842, HB⟩ := hrel
          cases gk with
          | zero => exact absurd HA.out (by simp [waveletref23_Header.l0])
          | succ k2 =>
            have H := HA.out
            clear HA
            simp only [waveletref23_Header.l0] at H
            by_cases c35 : x3_2 < (l0_6.length : Int)
            · rw [if_pos c35] at H
              have c35b0 : decide (x3_2 < (l0_6.length : Int)) = true := decide_eq_true c35
              clear c35
              by_cases c36 : 0 ≤ x3_2
              · rw [if_pos c36] at H
                have c36b0 : decide (0 ≤ x3_2) = true := decide_eq_true c36
                clear c36
                replace H := Option.bind_eq_some_iff.mp H
                obtain ⟨t850, A370, H⟩ := H
                replace H : (if t850 = true then ((waveletref23_in.f ((rd_T97 l0_6 x3_2).f2) 1 4).bind fun t851 => (if t851 = true then ((waveletref23_in.f ((rd_T97 l0_6 x3_2).f3) 1 4).bind fun t852 => (if t852 = true then ((waveletref01_Reduce.f k2 a0_0 a0_1 a0_2 a0_3 ((rd_T97 l0_6 x3_2).f2) ((rd_T97 l0_6 x3_2).f3)).bind fun bt853 => ((waveletref01_Empty.f bt853.1 bt853.2.1 bt853.2.2.1 bt853.2.2.2).bind fun t857 => (if t857 = true then (some 12) else (waveletref23_Header.l0 k2 (wrap64 (x3_2 + 1)) a0_0 a0_1 a0_2 a0_3 a0_4 a0_5 l0_6)))) else (some 12))) else (some 12))) else (some 12)) = some r := H
                have A37 := Aside0.mk A370
                clear A370
                by_cases c38 : t850 = true
                · subst c38
                  have H1 : ((waveletref23_in.f ((rd_T97 l0_6 x3_2).f2) 1 4).bind fun t851 => (if t851 = true then ((waveletref23_in.f ((rd_T97 l0_6 x3_2).f3) 1 4).bind fun t852 => (if t852 = true then ((waveletref01_Reduce.f k2 a0_0 a0_1 a0_2 a0_3 ((rd_T97 l0_6 x3_2).f2) ((rd_T97 l0_6 x3_2).f3)).bind fun bt853 => ((waveletref01_Empty.f bt853.1 bt853.2.1 bt853.2.2.1 bt853.2.2.2).bind fun t857 => (if t857 = true then (some 12) else (waveletref23_Header.l0 k2 (wrap64 (x3_2 + 1)) a0_0 a0_1 a0_2 a0_3 a0_4 a0_5 l0_6)))) else (some 12))) else (some 12))) = some r := by rw [if_pos rfl] at H; exact H
                  clear H
                  have H := H1
                  clear H1
                  replace H := Option.bind_eq_some_iff.mp H
                  obtain ⟨t851, A390, H⟩ := H
                  replace H : (if t851 = true then ((waveletref23_in.f ((rd_T97 l0_6 x3_2).f3) 1 4).bind fun t852 => (if t852 = true then ((waveletref01_Reduce.f k2 a0_0 a0_1 a0_2 a0_3 ((rd_T97 l0_6 x3_2).f2) ((rd_T97 l0_6 x3_2).f3)).bind fun bt853 => ((waveletref01_Empty.f bt853.1 bt853.2.1 bt853.2.2.1 bt853.2.2.2).bind fun t857 => (if t857 = true then (some 12) else (waveletref23_Header.l0 k2 (wrap64 (x3_2 + 1)) a0_0 a0_1 a0_2 a0_3 a0_4 a0_5 l0_6)))) else (some 12))) else (some 12)) = some r := H
                  have A39 := Aside0.mk A390
                  clear A390
                  by_cases c40 : t851 = true
                  · subst c40
                    have H1 : ((waveletref23_in.f ((rd_T97 l0_6 x3_2).f3) 1 4).bind fun t852 => (if t852 = true then ((waveletref01_Reduce.f k2 a0_0 a0_1 a0_2 a0_3 ((rd_T97 l0_6 x3_2).f2) ((rd_T97 l0_6 x3_2).f3)).bind fun bt853 => ((waveletref01_Empty.f bt853.1 bt853.2.1 bt853.2.2.1 bt853.2.2.2).bind fun t857 => (if t857 = true then (some 12) else (waveletref23_Header.l0 k2 (wrap64 (x3_2 + 1)) a0_0 a0_1 a0_2 a0_3 a0_4 a0_5 l0_6)))) else (some 12))) = some r := by rw [if_pos rfl] at H; exact H
                    clear H
                    have H := H1
                    clear H1
                    replace H := Option.bind_eq_some_iff.mp H
                    obtain ⟨t852, A410, H⟩ := H
                    replace H : (if t852 = true then ((waveletref01_Reduce.f k2 a0_0 a0_1 a0_2 a0_3 ((rd_T97 l0_6 x3_2).f2) ((rd_T97 l0_6 x3_2).f3)).bind fun bt853 => ((waveletref01_Empty.f bt853.1 bt853.2.1 bt853.2.2.1 bt853.2.2.2).bind fun t857 => (if t857 = true then (some 12) else (waveletref23_Header.l0 k2 (wrap64 (x3_2 + 1)) a0_0 a0_1 a0_2 a0_3 a0_4 a0_5 l0_6)))) else (some 12)) = some r := H
                    have A41 := Aside0.mk A410
                    clear A410
                    by_cases c42 : t852 = true
                    · subst c42
                      have H1 : ((waveletref01_Reduce.f k2 a0_0 a0_1 a0_2 a0_3 ((rd_T97 l0_6 x3_2).f2) ((rd_T97 l0_6 x3_2).f3)).bind fun bt853 => ((waveletref01_Empty.f bt853.1 bt853.2.1 bt853.2.2.1 bt853.2.2.2).bind fun t857 => (if t857 = true then (some 12) else (waveletref23_Header.l0 k2 (wrap64 (x3_2 + 1)) a0_0 a0_1 a0_2 a0_3 a0_4 a0_5 l0_6)))) = some r := by rw [if_pos rfl] at H; exact H
                      clear H
                      have H := H1
                      clear H1
                      replace H := Option.bind_eq_some_iff.mp H
                      obtain ⟨⟨t853, t854, t855, t856⟩, A430, H⟩ := H
                      replace H : ((waveletref01_Empty.f t853 t854 t855 t856).bind fun t857 => (if t857 = true then (some 12) else (waveletref23_Header.l0 k2 (wrap64 (x3_2 + 1)) a0_0 a0_1 a0_2 a0_3 a0_4 a0_5 l0_6))) = some r := H
                      have A43 := Aside0.mk A430
                      clear A430
                      replace H := Option.bind_eq_some_iff.mp H
                      obtain ⟨t857, A440, H⟩ := H
                      replace H : (if t857 = true then (some 12) else (waveletref23_Header.l0 k2 (wrap64 (x3_2 + 1)) a0_0 a0_1 a0_2 a0_3 a0_4 a0_5 l0_6)) = some r := H
                      have A44 := Aside0.mk A440
                      clear A440
                      by_cases c45 : t857 = true
                      · subst c45
                        have H1 : (some 12) = some r := by rw [if_pos rfl] at H; exact H
                        clear H
                        have H := H1
                        clear H1
                        obtain rfl := Option.some.inj H
                        have hcz46_0 : wr.cell? ⟨gb842, 0, none⟩ = some (.int .i64 a0_0) := bc BK842 0
                        have hcz46_1 : wr.cell? ⟨gb842, 1, none⟩ = some (.int .i64 a0_1) := bc BK842 1
                        have hcz46_2 : wr.cell? ⟨gb842, 2, none⟩ = some (.int .i64 a0_2) := bc BK842 2
                        have hcz46_3 : wr.cell? ⟨gb842, 3, none⟩ = some (.int .i64 a0_3) := bc BK842 3
                        have hcz46_4 : wr.cell? ⟨gb842, 4, none⟩ = some (.int .i64 a0_4) := bc BK842 4
                        have hcz46_5 : wr.cell? ⟨gb842, 5, none⟩ = some (.int .i64 a0_5) := bc BK842 5
                        have hcz46_6 : wr.cell? ⟨gb842, 6, none⟩ = some (.slice A0_6 l0_6.length c0_6) := bc BK842 6
                        have hfz46_0 := blk_frozen BK842.out 0
                        have hfz46_1 := blk_frozen BK842.out 1
                        have hfz46_2 := blk_frozen BK842.out 2
                        have hfz46_3 := blk_frozen BK842.out 3
                        have hfz46_4 := blk_frozen BK842.out 4
                        have hfz46_5 := blk_frozen BK842.out 5
                        have hfz46_6 := blk_frozen BK842.out 6
                        have p848 : 0 ≤ (x3_2 : Int) := of_decide_eq_true (by first | (with_reducible assumption) | assumption)
                        have q848 : x3_2 < (l0_6.length : Int) := of_decide_eq_true (by first | (with_reducible assumption) | assumption)
                        obtain ⟨ad848, e848, hx848_0, hx848_1, hx848_2, hx848_3⟩ := at_T97 HR0_6.out x3_2 p848 q848
                        cases e848
                        replace hx848_0 := hc HB hx848_0
                        replace hx848_1 := hc HB hx848_1
                        replace hx848_2 := hc HB hx848_2
                        replace hx848_3 := hc HB hx848_3
                        replace p848 := eq_true p848
                        replace q848 := eq_true q848
                        go_wp2_with (first | ((with_reducible refine gate_dst (N := 4) rfl ?_); (try (refine gate_guard (by rfl) ?_; dsimp only)); refine box_event ?hg (N := 4) ?hd (cs := #[.int .i64 0, .bool false, .int .i64 0, .int .i64 0]) (t := 97) ?hr ?_; (case hd => rfl); (case hg => rfl); (case hr => first | (go_simp; done) | (go_simp; rfl)); intro gb849 hg w47 hbox hb; have BK849 := Aside0.mk (hbox); have GW849 := Aside0.mk ((by rw [hg]; exact (below_size (upB HB.out)) : w.heap.size ≤ gb849)); have GE849 := Aside0.mk ((by rw [hg]; exact (below_size (upB HB.out)) : w.heap.size ≤ gb849)); replace HB := Aside0.mk (below_step (upB HB.out) hb); have NB842_849 := Aside0.mk ((by rw [hg]; exact Nat.ne_of_lt (blk_lt (upK BK842.out)) : gb842 ≠ gb849)); have NB849_842 := Aside0.mk ((by rw [hg]; exact Nat.ne_of_gt (blk_lt (upK BK842.out)) : gb849 ≠ gb842)); replace BK842 := Aside0.mk (blk_below (g := gb842) (o := .cells #[.int .i64 a0_0, .int .i64 a0_1, .int .i64 a0_2, .int .i64 a0_3, .int .i64 a0_4, .int .i64 a0_5, .slice (some ad848) l0_6.length c0_6] 67 (0, 0)) (upK BK842.out) hb); clear hb hbox hg; have hnb48 := NB849_842.out; have hnc48 := NB842_849.out; have hcz49_0 : w47.cell? ⟨gb849, 0, none⟩ = some (.int .i64 0) := bc BK849 0; have hcz49_1 : w47.cell? ⟨gb849, 1, none⟩ = some (.bool false) := bc BK849 1; have hcz49_2 : w47.cell? ⟨gb849, 2, none⟩ = some (.int .i64 0) := bc BK849 2; have hcz49_3 : w47.cell? ⟨gb849, 3, none⟩ = some (.int .i64 0) := bc BK849 3; have hfz49_0 := blk_frozen BK849.out 0; have hfz49_1 := blk_frozen BK849.out 1; have hfz49_2 := blk_frozen BK849.out 2; have hfz49_3 := blk_frozen BK849.out 3) | ((with_reducible refine gate_callee (f := 76) rfl ?_); refine goesL_ (some 49) rfl rfl Try.func76 (by kernel_rfl) rfl #[.int .i64 ((rd_T97 l0_6 x3_2).f0), .int .i64 1, .int .i64 16] rfl upL ?_; (with_reducible refine (waveletref23_in.calls ((rd_T97 l0_6 x3_2).f0) 1 16 true _ A37.out).mono ?_); rintro e w' ⟨rfl, ⟨nd, rfl⟩⟩; refine ⟨_, rfl, ?_⟩) | (go_at_call 76; (with_reducible refine (waveletref23_in.calls ((rd_T97 l0_6 x3_2).f2) 1 4 true _ A39.out).mono ?_); rintro e w' ⟨rfl, ⟨nd, rfl⟩⟩) | (go_at_call 76; (with_reducible refine (waveletref23_in.calls ((rd_T97 l0_6 x3_2).f3) 1 4 true _ A41.out).mono ?_); rintro e w' ⟨rfl, ⟨nd, rfl⟩⟩; have hcz50_0 : w47.cell? ⟨gb842, 0, none⟩ = some (.int .i64 a0_0) := bc BK842 0; have hcz50_1 : w47.cell? ⟨gb842, 1, none⟩ = some (.int .i64 a0_1) := bc BK842 1; have hcz50_2 : w47.cell? ⟨gb842, 2, none⟩ = some (.int .i64 a0_2) := bc BK842 2; have hcz50_3 : w47.cell? ⟨gb842, 3, none⟩ = some (.int .i64 a0_3) := bc BK842 3; have hcz50_4 : w47.cell? ⟨gb842, 4, none⟩ = some (.int .i64 a0_4) := bc BK842 4; have hcz50_5 : w47.cell? ⟨gb842, 5, none⟩ = some (.int .i64 a0_5) := bc BK842 5; have hcz50_6 : w47.cell? ⟨gb842, 6, none⟩ = some (.slice (some ad848) l0_6.length c0_6) := bc BK842 6; have hfz50_0 := blk_frozen BK842.out 0; have hfz50_1 := blk_frozen BK842.out 1; have hfz50_2 := blk_frozen BK842.out 2; have hfz50_3 := blk_frozen BK842.out 3; have hfz50_4 := blk_frozen BK842.out 4; have hfz50_5 := blk_frozen BK842.out 5; have hfz50_6 := blk_frozen BK842.out 6) | (go_at_call 77; (with_reducible refine (waveletref01_Reduce.calls k2 a0_0 a0_1 a0_2 a0_3 ((rd_T97 l0_6 x3_2).f2) ((rd_T97 l0_6 x3_2).f3) t853 t854 t855 t856 _ A43.out).mono ?_); rintro e w51 ⟨rfl, hb⟩; replace BK842 := Aside0.mk (blk_below (g := gb842) (o := .cells #[.int .i64 a0_0, .int .i64 a0_1, .int .i64 a0_2, .int .i64 a0_3, .int .i64 a0_4, .int .i64 a0_5, .slice (some ad848) l0_6.length c0_6] 67 (0, 0)) (by (with_reducible repeat (first | refine blk_far ?_ NB842_849.out _ | refine blk_drewN ?_ _ | refine blk_drew ?_ | refine blk_alloc ?_ _)); exact BK842.out) hb); replace BK849 := Aside0.mk (blk_below (g := gb849) (o := .cells #[.int .i64 ((rd_T97 l0_6 x3_2).f0), .bool ((rd_T97 l0_6 x3_2).f1), .int .i64 ((rd_T97 l0_6 x3_2).f2), .int .i64 ((rd_T97 l0_6 x3_2).f3)] 97 (0, 0)) (by (with_reducible repeat (first | refine blk_drewN ?_ _ | refine blk_drew ?_ | refine blk_alloc ?_ _)); refine blk_put (cs := #[.int .i64 ((rd_T97 l0_6 x3_2).f0), .bool ((rd_T97 l0_6 x3_2).f1), .int .i64 ((rd_T97 l0_6 x3_2).f2), .int .i64 0]) ?_ 3 _ rfl; (with_reducible repeat (first | refine blk_drewN ?_ _ | refine blk_drew ?_ | refine blk_alloc ?_ _)); refine blk_put (cs := #[.int .i64 ((rd_T97 l0_6 x3_2).f0), .bool ((rd_T97 l0_6 x3_2).f1), .int .i64 0, .int .i64 0]) ?_ 2 _ rfl; (with_reducible repeat (first | refine blk_drewN ?_ _ | refine blk_drew ?_ | refine blk_alloc ?_ _)); refine blk_put (cs := #[.int .i64 ((rd_T97 l0_6 x3_2).f0), .bool false, .int .i64 0, .int .i64 0]) ?_ 1 _ rfl; (with_reducible repeat (first | refine blk_drewN ?_ _ | refine blk_drew ?_ | refine blk_alloc ?_ _)); refine blk_put (cs := #[.int .i64 0, .bool false, .int .i64 0, .int .i64 0]) ?_ 0 _ rfl; (with_reducible repeat (first | refine blk_drewN ?_ _ | refine blk_drew ?_ | refine blk_alloc ?_ _)); exact BK849.out) hb); replace HB := Aside0.mk (below_step (upB HB.out) hb); (try clear hb; try clear hb2; try clear hk; try clear hi)) | (go_at_call 75; (with_reducible refine (waveletref01_Empty.calls t853 t854 t855 t856 true _ A44.out).mono ?_); rintro e w52 ⟨rfl, hb⟩; replace BK842 := Aside0.mk (blk_below (g := gb842) (o := .cells #[.int .i64 a0_0, .int .i64 a0_1, .int .i64 a0_2, .int .i64 a0_3, .int .i64 a0_4, .int .i64 a0_5, .slice (some ad848) l0_6.length c0_6] 67 (0, 0)) (upK BK842.out) hb); replace BK849 := Aside0.mk (blk_below (g := gb849) (o := .cells #[.int .i64 ((rd_T97 l0_6 x3_2).f0), .bool ((rd_T97 l0_6 x3_2).f1), .int .i64 ((rd_T97 l0_6 x3_2).f2), .int .i64 ((rd_T97 l0_6 x3_2).f3)] 97 (0, 0)) (upK BK849.out) hb); replace HB := Aside0.mk (below_step (upB HB.out) hb); (try clear hb; try clear hb2; try clear hk; try clear hi)))
                        go_ret
                        exact ⟨by first | rfl | (simp [errW_none, errW_some] <;> rfl) | (simp [*, errW_none, errW_some] <;> rfl), by repeat (first | (with_reducible first | exact HB.out | apply below_alloc | apply pw_below_drewN | apply below_drew1 | refine below_set ?_ GE842.out | refine below_set ?_ GE849.out) | exact HB.out)⟩
                      · replace c45 := Bool.eq_false_iff.mpr c45
                        subst c45
                        have H1 : (waveletref23_Header.l0 k2 (wrap64 (x3_2 + 1)) a0_0 a0_1 a0_2 a0_3 a0_4 a0_5 l0_6) = some r := by rw [if_neg (show ¬ (false = true) by decide)] at H; exact H
                        clear H
                        have H := H1
                        clear H1
                        have H' := Aside0.mk H
                        clear H
                        have hcz53_0 : wr.cell? ⟨gb842, 0, none⟩ = some (.int .i64 a0_0) := bc BK842 0
                        have hcz53_1 : wr.cell? ⟨gb842, 1, none⟩ = some (.int .i64 a0_1) := bc BK842 1
                        have hcz53_2 : wr.cell? ⟨gb842, 2, none⟩ = some (.int .i64 a0_2) := bc BK842 2
                        have hcz53_3 : wr.cell? ⟨gb842, 3, none⟩ = some (.int .i64 a0_3) := bc BK842 3
                        have hcz53_4 : wr.cell? ⟨gb842, 4, none⟩ = some (.int .i64 a0_4) := bc BK842 4
                        have hcz53_5 : wr.cell? ⟨gb842, 5, none⟩ = some (.int .i64 a0_5) := bc BK842 5
                        have hcz53_6 : wr.cell? ⟨gb842, 6, none⟩ = some (.slice A0_6 l0_6.length c0_6) := bc BK842 6
                        have hfz53_0 := blk_frozen BK842.out 0
                        have hfz53_1 := blk_frozen BK842.out 1
                        have hfz53_2 := blk_frozen BK842.out 2
                        have hfz53_3 := blk_frozen BK842.out 3
                        have hfz53_4 := blk_frozen BK842.out 4
                        have hfz53_5 := blk_frozen BK842.out 5
                        have hfz53_6 := blk_frozen BK842.out 6
                        have p848 : 0 ≤ (x3_2 : Int) := of_decide_eq_true (by first | (with_reducible assumption) | assumption)
                        have q848 : x3_2 < (l0_6.length : Int) := of_decide_eq_true (by first | (with_reducible assumption) | assumption)
                        obtain ⟨ad848, e848, hx848_0, hx848_1, hx848_2, hx848_3⟩ := at_T97 HR0_6.out x3_2 p848 q848
                        cases e848
                        replace hx848_0 := hc HB hx848_0
                        replace hx848_1 := hc HB hx848_1
                        replace hx848_2 := hc HB hx848_2
                        replace hx848_3 := hc HB hx848_3
                        replace p848 := eq_true p848
                        replace q848 := eq_true q848
                        go_wp2_with (first | ((with_reducible refine gate_dst (N := 4) rfl ?_); (try (refine gate_guard (by rfl) ?_; dsimp only)); refine box_event ?hg (N := 4) ?hd (cs := #[.int .i64 0, .bool false, .int .i64 0, .int .i64 0]) (t := 97) ?hr ?_; (case hd => rfl); (case hg => rfl); (case hr => first | (go_simp; done) | (go_simp; rfl)); intro gb849 hg w54 hbox hb; have BK849 := Aside0.mk (hbox); have GW849 := Aside0.mk ((by rw [hg]; exact (below_size (upB HB.out)) : w.heap.size ≤ gb849)); have GE849 := Aside0.mk ((by rw [hg]; exact (below_size (upB HB.out)) : w.heap.size ≤ gb849)); replace HB := Aside0.mk (below_step (upB HB.out) hb); have NB842_849 := Aside0.mk ((by rw [hg]; exact Nat.ne_of_lt (blk_lt (upK BK842.out)) : gb842 ≠ gb849)); have NB849_842 := Aside0.mk ((by rw [hg]; exact Nat.ne_of_gt (blk_lt (upK BK842.out)) : gb849 ≠ gb842)); replace BK842 := Aside0.mk (blk_below (g := gb842) (o := .cells #[.int .i64 a0_0, .int .i64 a0_1, .int .i64 a0_2, .int .i64 a0_3, .int .i64 a0_4, .int .i64 a0_5, .slice (some ad848) l0_6.length c0_6] 67 (0, 0)) (upK BK842.out) hb); clear hb hbox hg; have hnb55 := NB849_842.out; have hnc55 := NB842_849.out; have hcz56_0 : w54.cell? ⟨gb849, 0, none⟩ = some (.int .i64 0) := bc BK849 0; have hcz56_1 : w54.cell? ⟨gb849, 1, none⟩ = some (.bool false) := bc BK849 1; have hcz56_2 : w54.cell? ⟨gb849, 2, none⟩ = some (.int .i64 0) := bc BK849 2; have hcz56_3 : w54.cell? ⟨gb849, 3, none⟩ = some (.int .i64 0) := bc BK849 3; have hfz56_0 := blk_frozen BK849.out 0; have hfz56_1 := blk_frozen BK849.out 1; have hfz56_2 := blk_frozen BK849.out 2; have hfz56_3 := blk_frozen BK849.out 3) | ((with_reducible refine gate_callee (f := 76) rfl ?_); refine goesL_ (some 49) rfl rfl Try.func76 (by kernel_rfl) rfl #[.int .i64 ((rd_T97 l0_6 x3_2).f0), .int .i64 1, .int .i64 16] rfl upL ?_; (with_reducible refine (waveletref23_in.calls ((rd_T97 l0_6 x3_2).f0) 1 16 true _ A37.out).mono ?_); rintro e w' ⟨rfl, ⟨nd, rfl⟩⟩; refine ⟨_, rfl, ?_⟩) | (go_at_call 76; (with_reducible refine (waveletref23_in.calls ((rd_T97 l0_6 x3_2).f2) 1 4 true _ A39.out).mono ?_); rintro e w' ⟨rfl, ⟨nd, rfl⟩⟩) | (go_at_call 76; (with_reducible refine (waveletref23_in.calls ((rd_T97 l0_6 x3_2).f3) 1 4 true _ A41.out).mono ?_); rintro e w' ⟨rfl, ⟨nd, rfl⟩⟩; have hcz57_0 : w54.cell? ⟨gb842, 0, none⟩ = some (.int .i64 a0_0) := bc BK842 0; have hcz57_1 : w54.cell? ⟨gb842, 1, none⟩ = some (.int .i64 a0_1) := bc BK842 1; have hcz57_2 : w54.cell? ⟨gb842, 2, none⟩ = some (.int .i64 a0_2) := bc BK842 2; have hcz57_3 : w54.cell? ⟨gb842, 3, none⟩ = some (.int .i64 a0_3) := bc BK842 3; have hcz57_4 : w54.cell? ⟨gb842, 4, none⟩ = some (.int .i64 a0_4) := bc BK842 4; have hcz57_5 : w54.cell? ⟨gb842, 5, none⟩ = some (.int .i64 a0_5) := bc BK842 5; have hcz57_6 : w54.cell? ⟨gb842, 6, none⟩ = some (.slice (some ad848) l0_6.length c0_6) := bc BK842 6; have hfz57_0 := blk_frozen BK842.out 0; have hfz57_1 := blk_frozen BK842.out 1; have hfz57_2 := blk_frozen BK842.out 2; have hfz57_3 := blk_frozen BK842.out 3; have hfz57_4 := blk_frozen BK842.out 4; have hfz57_5 := blk_frozen BK842.out 5; have hfz57_6 := blk_frozen BK842.out 6) | (go_at_call 77; (with_reducible refine (waveletref01_Reduce.calls k2 a0_0 a0_1 a0_2 a0_3 ((rd_T97 l0_6 x3_2).f2) ((rd_T97 l0_6 x3_2).f3) t853 t854 t855 t856 _ A43.out).mono ?_); rintro e w58 ⟨rfl, hb⟩; replace BK842 := Aside0.mk (blk_below (g := gb842) (o := .cells #[.int .i64 a0_0, .int .i64 a0_1, .int .i64 a0_2, .int .i64 a0_3, .int .i64 a0_4, .int .i64 a0_5, .slice (some ad848) l0_6.length c0_6] 67 (0, 0)) (by (with_reducible repeat (first | refine blk_far ?_ NB842_849.out _ | refine blk_drewN ?_ _ | refine blk_drew ?_ | refine blk_alloc ?_ _)); exact BK842.out) hb); replace BK849 := Aside0.mk (blk_below (g := gb849) (o := .cells #[.int .i64 ((rd_T97 l0_6 x3_2).f0), .bool ((rd_T97 l0_6 x3_2).f1), .int .i64 ((rd_T97 l0_6 x3_2).f2), .int .i64 ((rd_T97 l0_6 x3_2).f3)] 97 (0, 0)) (by (with_reducible repeat (first | refine blk_drewN ?_ _ | refine blk_drew ?_ | refine blk_alloc ?_ _)); refine blk_put (cs := #[.int .i64 ((rd_T97 l0_6 x3_2).f0), .bool ((rd_T97 l0_6 x3_2).f1), .int .i64 ((rd_T97 l0_6 x3_2).f2), .int .i64 0]) ?_ 3 _ rfl; (with_reducible repeat (first | refine blk_drewN ?_ _ | refine blk_drew ?_ | refine blk_alloc ?_ _)); refine blk_put (cs := #[.int .i64 ((rd_T97 l0_6 x3_2).f0), .bool ((rd_T97 l0_6 x3_2).f1), .int .i64 0, .int .i64 0]) ?_ 2 _ rfl; (with_reducible repeat (first | refine blk_drewN ?_ _ | refine blk_drew ?_ | refine blk_alloc ?_ _)); refine blk_put (cs := #[.int .i64 ((rd_T97 l0_6 x3_2).f0), .bool false, .int .i64 0, .int .i64 0]) ?_ 1 _ rfl; (with_reducible repeat (first | refine blk_drewN ?_ _ | refine blk_drew ?_ | refine blk_alloc ?_ _)); refine blk_put (cs := #[.int .i64 0, .bool false, .int .i64 0, .int .i64 0]) ?_ 0 _ rfl; (with_reducible repeat (first | refine blk_drewN ?_ _ | refine blk_drew ?_ | refine blk_alloc ?_ _)); exact BK849.out) hb); replace HB := Aside0.mk (below_step (upB HB.out) hb); (try clear hb; try clear hb2; try clear hk; try clear hi)) | (go_at_call 75; (with_reducible refine (waveletref01_Empty.calls t853 t854 t855 t856 false _ A44.out).mono ?_); rintro e w59 ⟨rfl, hb⟩; replace BK842 := Aside0.mk (blk_below (g := gb842) (o := .cells #[.int .i64 a0_0, .int .i64 a0_1, .int .i64 a0_2, .int .i64 a0_3, .int .i64 a0_4, .int .i64 a0_5, .slice (some ad848) l0_6.length c0_6] 67 (0, 0)) (upK BK842.out) hb); replace BK849 := Aside0.mk (blk_below (g := gb849) (o := .cells #[.int .i64 ((rd_T97 l0_6 x3_2).f0), .bool ((rd_T97 l0_6 x3_2).f1), .int .i64 ((rd_T97 l0_6 x3_2).f2), .int .i64 ((rd_T97 l0_6 x3_2).f3)] 97 (0, 0)) (upK BK849.out) hb); replace HB := Aside0.mk (below_step (upB HB.out) hb); (try clear hb; try clear hb2; try clear hk; try clear hi)))
                        go_roundg k2
                        case measure => have := HJ1.out; have := HK2.out; omega
                        case rel => exact ⟨(wrap64 (x3_2 + 1)), (by first | rfl | (simp; done) | (simp [*]; done)), H', ⟨by have := HJ1.out; have := HK2.out; omega⟩, ⟨by (with_reducible repeat (first | refine blk_drewN ?_ _ | refine blk_drew ?_ | refine blk_alloc ?_ _)); exact BK842.out⟩, ⟨by repeat (first | (with_reducible first | exact HB.out | apply below_alloc | apply pw_below_drewN | apply below_drew1 | refine below_set ?_ GE842.out | refine below_set ?_ GE849.out) | exact HB.out)⟩⟩
                    · replace c42 := Bool.eq_false_iff.mpr c42
                      subst c42
                      have H1 : (some 12) = some r := by rw [if_neg (show ¬ (false = true) by decide)] at H; exact H
                      clear H
                      have H := H1
                      clear H1
                      obtain rfl := Option.some.inj H
                      have hcz60_0 : wr.cell? ⟨gb842, 0, none⟩ = some (.int .i64 a0_0) := bc BK842 0
                      have hcz60_1 : wr.cell? ⟨gb842, 1, none⟩ = some (.int .i64 a0_1) := bc BK842 1
                      have hcz60_2 : wr.cell? ⟨gb842, 2, none⟩ = some (.int .i64 a0_2) := bc BK842 2
                      have hcz60_3 : wr.cell? ⟨gb842, 3, none⟩ = some (.int .i64 a0_3) := bc BK842 3
                      have hcz60_4 : wr.cell? ⟨gb842, 4, none⟩ = some (.int .i64 a0_4) := bc BK842 4
                      have hcz60_5 : wr.cell? ⟨gb842, 5, none⟩ = some (.int .i64 a0_5) := bc BK842 5
                      have hcz60_6 : wr.cell? ⟨gb842, 6, none⟩ = some (.slice A0_6 l0_6.length c0_6) := bc BK842 6
                      have hfz60_0 := blk_frozen BK842.out 0
                      have hfz60_1 := blk_frozen BK842.out 1
                      have hfz60_2 := blk_frozen BK842.out 2
                      have hfz60_3 := blk_frozen BK842.out 3
                      have hfz60_4 := blk_frozen BK842.out 4
                      have hfz60_5 := blk_frozen BK842.out 5
                      have hfz60_6 := blk_frozen BK842.out 6
                      have p848 : 0 ≤ (x3_2 : Int) := of_decide_eq_true (by first | (with_reducible assumption) | assumption)
                      have q848 : x3_2 < (l0_6.length : Int) := of_decide_eq_true (by first | (with_reducible assumption) | assumption)
                      obtain ⟨ad848, e848, hx848_0, hx848_1, hx848_2, hx848_3⟩ := at_T97 HR0_6.out x3_2 p848 q848
                      cases e848
                      replace hx848_0 := hc HB hx848_0
                      replace hx848_1 := hc HB hx848_1
                      replace hx848_2 := hc HB hx848_2
                      replace hx848_3 := hc HB hx848_3
                      replace p848 := eq_true p848
                      replace q848 := eq_true q848
                      go_wp2_with (first | ((with_reducible refine gate_dst (N := 4) rfl ?_); (try (refine gate_guard (by rfl) ?_; dsimp only)); refine box_event ?hg (N := 4) ?hd (cs := #[.int .i64 0, .bool false, .int .i64 0, .int .i64 0]) (t := 97) ?hr ?_; (case hd => rfl); (case hg => rfl); (case hr => first | (go_simp; done) | (go_simp; rfl)); intro gb849 hg w61 hbox hb; have BK849 := Aside0.mk (hbox); have GW849 := Aside0.mk ((by rw [hg]; exact (below_size (upB HB.out)) : w.heap.size ≤ gb849)); have GE849 := Aside0.mk ((by rw [hg]; exact (below_size (upB HB.out)) : w.heap.size ≤ gb849)); replace HB := Aside0.mk (below_step (upB HB.out) hb); have NB842_849 := Aside0.mk ((by rw [hg]; exact Nat.ne_of_lt (blk_lt (upK BK842.out)) : gb842 ≠ gb849)); have NB849_842 := Aside0.mk ((by rw [hg]; exact Nat.ne_of_gt (blk_lt (upK BK842.out)) : gb849 ≠ gb842)); replace BK842 := Aside0.mk (blk_below (g := gb842) (o := .cells #[.int .i64 a0_0, .int .i64 a0_1, .int .i64 a0_2, .int .i64 a0_3, .int .i64 a0_4, .int .i64 a0_5, .slice (some ad848) l0_6.length c0_6] 67 (0, 0)) (upK BK842.out) hb); clear hb hbox hg; have hnb62 := NB849_842.out; have hnc62 := NB842_849.out; have hcz63_0 : w61.cell? ⟨gb849, 0, none⟩ = some (.int .i64 0) := bc BK849 0; have hcz63_1 : w61.cell? ⟨gb849, 1, none⟩ = some (.bool false) := bc BK849 1; have hcz63_2 : w61.cell? ⟨gb849, 2, none⟩ = some (.int .i64 0) := bc BK849 2; have hcz63_3 : w61.cell? ⟨gb849, 3, none⟩ = some (.int .i64 0) := bc BK849 3; have hfz63_0 := blk_frozen BK849.out 0; have hfz63_1 := blk_frozen BK849.out 1; have hfz63_2 := blk_frozen BK849.out 2; have hfz63_3 := blk_frozen BK849.out 3) | ((with_reducible refine gate_callee (f := 76) rfl ?_); refine goesL_ (some 49) rfl rfl Try.func76 (by kernel_rfl) rfl #[.int .i64 ((rd_T97 l0_6 x3_2).f0), .int .i64 1, .int .i64 16] rfl upL ?_; (with_reducible refine (waveletref23_in.calls ((rd_T97 l0_6 x3_2).f0) 1 16 true _ A37.out).mono ?_); rintro e w' ⟨rfl, ⟨nd, rfl⟩⟩; refine ⟨_, rfl, ?_⟩) | (go_at_call 76; (with_reducible refine (waveletref23_in.calls ((rd_T97 l0_6 x3_2).f2) 1 4 true _ A39.out).mono ?_); rintro e w' ⟨rfl, ⟨nd, rfl⟩⟩) | (go_at_call 76; (with_reducible refine (waveletref23_in.calls ((rd_T97 l0_6 x3_2).f3) 1 4 false _ A41.out).mono ?_); rintro e w' ⟨rfl, ⟨nd, rfl⟩⟩))
                      go_ret
                      exact ⟨by first | rfl | (simp [errW_none, errW_some] <;> rfl) | (simp [*, errW_none, errW_some] <;> rfl), by repeat (first | (with_reducible first | exact HB.out | apply below_alloc | apply pw_below_drewN | apply below_drew1 | refine below_set ?_ GE842.out | refine below_set ?_ GE849.out) | exact HB.out)⟩
                  · replace c40 := Bool.eq_false_iff.mpr c40
                    subst c40
                    have H1 : (some 12) = some r := by rw [if_neg (show ¬ (false = true) by decide)] at H; exact H
                    clear H
                    have H := H1
                    clear H1
                    obtain rfl := Option.some.inj H
                    have hcz64_0 : wr.cell? ⟨gb842, 0, none⟩ = some (.int .i64 a0_0) := bc BK842 0
                    have hcz64_1 : wr.cell? ⟨gb842, 1, none⟩ = some (.int .i64 a0_1) := bc BK842 1
                    have hcz64_2 : wr.cell? ⟨gb842, 2, none⟩ = some (.int .i64 a0_2) := bc BK842 2
                    have hcz64_3 : wr.cell? ⟨gb842, 3, none⟩ = some (.int .i64 a0_3) := bc BK842 3
                    have hcz64_4 : wr.cell? ⟨gb842, 4, none⟩ = some (.int .i64 a0_4) := bc BK842 4
                    have hcz64_5 : wr.cell? ⟨gb842, 5, none⟩ = some (.int .i64 a0_5) := bc BK842 5
                    have hcz64_6 : wr.cell? ⟨gb842, 6, none⟩ = some (.slice A0_6 l0_6.length c0_6) := bc BK842 6
                    have hfz64_0 := blk_frozen BK842.out 0
                    have hfz64_1 := blk_frozen BK842.out 1
                    have hfz64_2 := blk_frozen BK842.out 2
                    have hfz64_3 := blk_frozen BK842.out 3
                    have hfz64_4 := blk_frozen BK842.out 4
                    have hfz64_5 := blk_frozen BK842.out 5
                    have hfz64_6 := blk_frozen BK842.out 6
                    have p848 : 0 ≤ (x3_2 : Int) := of_decide_eq_true (by first | (with_reducible assumption) | assumption)
                    have q848 : x3_2 < (l0_6.length : Int) := of_decide_eq_true (by first | (with_reducible assumption) | assumption)
                    obtain ⟨ad848, e848, hx848_0, hx848_1, hx848_2, hx848_3⟩ := at_T97 HR0_6.out x3_2 p848 q848
                    cases e848
                    replace hx848_0 := hc HB hx848_0
                    replace hx848_1 := hc HB hx848_1
                    replace hx848_2 := hc HB hx848_2
                    replace hx848_3 := hc HB hx848_3
                    replace p848 := eq_true p848
                    replace q848 := eq_true q848
                    go_wp2_with (first | ((with_reducible refine gate_dst (N := 4) rfl ?_); (try (refine gate_guard (by rfl) ?_; dsimp only)); refine box_event ?hg (N := 4) ?hd (cs := #[.int .i64 0, .bool false, .int .i64 0, .int .i64 0]) (t := 97) ?hr ?_; (case hd => rfl); (case hg => rfl); (case hr => first | (go_simp; done) | (go_simp; rfl)); intro gb849 hg w65 hbox hb; have BK849 := Aside0.mk (hbox); have GW849 := Aside0.mk ((by rw [hg]; exact (below_size (upB HB.out)) : w.heap.size ≤ gb849)); have GE849 := Aside0.mk ((by rw [hg]; exact (below_size (upB HB.out)) : w.heap.size ≤ gb849)); replace HB := Aside0.mk (below_step (upB HB.out) hb); have NB842_849 := Aside0.mk ((by rw [hg]; exact Nat.ne_of_lt (blk_lt (upK BK842.out)) : gb842 ≠ gb849)); have NB849_842 := Aside0.mk ((by rw [hg]; exact Nat.ne_of_gt (blk_lt (upK BK842.out)) : gb849 ≠ gb842)); replace BK842 := Aside0.mk (blk_below (g := gb842) (o := .cells #[.int .i64 a0_0, .int .i64 a0_1, .int .i64 a0_2, .int .i64 a0_3, .int .i64 a0_4, .int .i64 a0_5, .slice (some ad848) l0_6.length c0_6] 67 (0, 0)) (upK BK842.out) hb); clear hb hbox hg; have hnb66 := NB849_842.out; have hnc66 := NB842_849.out; have hcz67_0 : w65.cell? ⟨gb849, 0, none⟩ = some (.int .i64 0) := bc BK849 0; have hcz67_1 : w65.cell? ⟨gb849, 1, none⟩ = some (.bool false) := bc BK849 1; have hcz67_2 : w65.cell? ⟨gb849, 2, none⟩ = some (.int .i64 0) := bc BK849 2; have hcz67_3 : w65.cell? ⟨gb849, 3, none⟩ = some (.int .i64 0) := bc BK849 3; have hfz67_0 := blk_frozen BK849.out 0; have hfz67_1 := blk_frozen BK849.out 1; have hfz67_2 := blk_frozen BK849.out 2; have hfz67_3 := blk_frozen BK849.out 3) | ((with_reducible refine gate_callee (f := 76) rfl ?_); refine goesL_ (some 49) rfl rfl Try.func76 (by kernel_rfl) rfl #[.int .i64 ((rd_T97 l0_6 x3_2).f0), .int .i64 1, .int .i64 16] rfl upL ?_; (with_reducible refine (waveletref23_in.calls ((rd_T97 l0_6 x3_2).f0) 1 16 true _ A37.out).mono ?_); rintro e w' ⟨rfl, ⟨nd, rfl⟩⟩; refine ⟨_, rfl, ?_⟩) | (go_at_call 76; (with_reducible refine (waveletref23_in.calls ((rd_T97 l0_6 x3_2).f2) 1 4 false _ A39.out).mono ?_); rintro e w' ⟨rfl, ⟨nd, rfl⟩⟩))
                    go_ret
                    exact ⟨by first | rfl | (simp [errW_none, errW_some] <;> rfl) | (simp [*, errW_none, errW_some] <;> rfl), by repeat (first | (with_reducible first | exact HB.out | apply below_alloc | apply pw_below_drewN | apply below_drew1 | refine below_set ?_ GE842.out | refine below_set ?_ GE849.out) | exact HB.out)⟩
                · replace c38 := Bool.eq_false_iff.mpr c38
                  subst c38
                  have H1 : (some 12) = some r := by rw [if_neg (show ¬ (false = true) by decide)] at H; exact H
                  clear H
                  have H := H1
                  clear H1
                  obtain rfl := Option.some.inj H
                  have hcz68_0 : wr.cell? ⟨gb842, 0, none⟩ = some (.int .i64 a0_0) := bc BK842 0
                  have hcz68_1 : wr.cell? ⟨gb842, 1, none⟩ = some (.int .i64 a0_1) := bc BK842 1
                  have hcz68_2 : wr.cell? ⟨gb842, 2, none⟩ = some (.int .i64 a0_2) := bc BK842 2
                  have hcz68_3 : wr.cell? ⟨gb842, 3, none⟩ = some (.int .i64 a0_3) := bc BK842 3
                  have hcz68_4 : wr.cell? ⟨gb842, 4, none⟩ = some (.int .i64 a0_4) := bc BK842 4
                  have hcz68_5 : wr.cell? ⟨gb842, 5, none⟩ = some (.int .i64 a0_5) := bc BK842 5
                  have hcz68_6 : wr.cell? ⟨gb842, 6, none⟩ = some (.slice A0_6 l0_6.length c0_6) := bc BK842 6
                  have hfz68_0 := blk_frozen BK842.out 0
                  have hfz68_1 := blk_frozen BK842.out 1
                  have hfz68_2 := blk_frozen BK842.out 2
                  have hfz68_3 := blk_frozen BK842.out 3
                  have hfz68_4 := blk_frozen BK842.out 4
                  have hfz68_5 := blk_frozen BK842.out 5
                  have hfz68_6 := blk_frozen BK842.out 6
                  have p848 : 0 ≤ (x3_2 : Int) := of_decide_eq_true (by first | (with_reducible assumption) | assumption)
                  have q848 : x3_2 < (l0_6.length : Int) := of_decide_eq_true (by first | (with_reducible assumption) | assumption)
                  obtain ⟨ad848, e848, hx848_0, hx848_1, hx848_2, hx848_3⟩ := at_T97 HR0_6.out x3_2 p848 q848
                  cases e848
                  replace hx848_0 := hc HB hx848_0
                  replace hx848_1 := hc HB hx848_1
                  replace hx848_2 := hc HB hx848_2
                  replace hx848_3 := hc HB hx848_3
                  replace p848 := eq_true p848
                  replace q848 := eq_true q848
                  go_wp2_with (first | ((with_reducible refine gate_dst (N := 4) rfl ?_); (try (refine gate_guard (by rfl) ?_; dsimp only)); refine box_event ?hg (N := 4) ?hd (cs := #[.int .i64 0, .bool false, .int .i64 0, .int .i64 0]) (t := 97) ?hr ?_; (case hd => rfl); (case hg => rfl); (case hr => first | (go_simp; done) | (go_simp; rfl)); intro gb849 hg w69 hbox hb; have BK849 := Aside0.mk (hbox); have GW849 := Aside0.mk ((by rw [hg]; exact (below_size (upB HB.out)) : w.heap.size ≤ gb849)); have GE849 := Aside0.mk ((by rw [hg]; exact (below_size (upB HB.out)) : w.heap.size ≤ gb849)); replace HB := Aside0.mk (below_step (upB HB.out) hb); have NB842_849 := Aside0.mk ((by rw [hg]; exact Nat.ne_of_lt (blk_lt (upK BK842.out)) : gb842 ≠ gb849)); have NB849_842 := Aside0.mk ((by rw [hg]; exact Nat.ne_of_gt (blk_lt (upK BK842.out)) : gb849 ≠ gb842)); replace BK842 := Aside0.mk (blk_below (g := gb842) (o := .cells #[.int .i64 a0_0, .int .i64 a0_1, .int .i64 a0_2, .int .i64 a0_3, .int .i64 a0_4, .int .i64 a0_5, .slice (some ad848) l0_6.length c0_6] 67 (0, 0)) (upK BK842.out) hb); clear hb hbox hg; have hnb70 := NB849_842.out; have hnc70 := NB842_849.out; have hcz71_0 : w69.cell? ⟨gb849, 0, none⟩ = some (.int .i64 0) := bc BK849 0; have hcz71_1 : w69.cell? ⟨gb849, 1, none⟩ = some (.bool false) := bc BK849 1; have hcz71_2 : w69.cell? ⟨gb849, 2, none⟩ = some (.int .i64 0) := bc BK849 2; have hcz71_3 : w69.cell? ⟨gb849, 3, none⟩ = some (.int .i64 0) := bc BK849 3; have hfz71_0 := blk_frozen BK849.out 0; have hfz71_1 := blk_frozen BK849.out 1; have hfz71_2 := blk_frozen BK849.out 2; have hfz71_3 := blk_frozen BK849.out 3) | ((with_reducible refine gate_callee (f := 76) rfl ?_); refine goesL_ (some 49) rfl rfl Try.func76 (by kernel_rfl) rfl #[.int .i64 ((rd_T97 l0_6 x3_2).f0), .int .i64 1, .int .i64 16] rfl upL ?_; (with_reducible refine (waveletref23_in.calls ((rd_T97 l0_6 x3_2).f0) 1 16 false _ A37.out).mono ?_); rintro e w' ⟨rfl, ⟨nd, rfl⟩⟩; refine ⟨_, rfl, ?_⟩))
                  go_ret
                  exact ⟨by first | rfl | (simp [errW_none, errW_some] <;> rfl) | (simp [*, errW_none, errW_some] <;> rfl), by repeat (first | (with_reducible first | exact HB.out | apply below_alloc | apply pw_below_drewN | apply below_drew1 | refine below_set ?_ GE842.out | refine below_set ?_ GE849.out) | exact HB.out)⟩
              · rw [if_neg c36] at H
                exact absurd H (by simp)
            · rw [if_neg c35] at H
              have c35b0 : decide (x3_2 < (l0_6.length : Int)) = false := decide_eq_false c35
              clear c35
              replace H := Option.bind_eq_some_iff.mp H
              obtain ⟨t858, A720, H⟩ := H
              replace H : (if t858 > 1024 then (some 5) else (waveletref23_Header.l1 k2 0 a0_0 a0_1 a0_2 a0_3 a0_4 a0_5 l0_6)) = some r := H
              have A72 := Aside0.mk A720
              clear A720
              by_cases c73 : t858 > 1024
              · rw [if_pos c73] at H
                have c73b0 : decide (1024 < t858) = true := decide_eq_true c73
                clear c73
                obtain rfl := Option.some.inj H
                have hcz74_0 : wr.cell? ⟨gb842, 0, none⟩ = some (.int .i64 a0_0) := bc BK842 0
                have hcz74_1 : wr.cell? ⟨gb842, 1, none⟩ = some (.int .i64 a0_1) := bc BK842 1
                have hcz74_2 : wr.cell? ⟨gb842, 2, none⟩ = some (.int .i64 a0_2) := bc BK842 2
                have hcz74_3 : wr.cell? ⟨gb842, 3, none⟩ = some (.int .i64 a0_3) := bc BK842 3
                have hcz74_4 : wr.cell? ⟨gb842, 4, none⟩ = some (.int .i64 a0_4) := bc BK842 4
                have hcz74_5 : wr.cell? ⟨gb842, 5, none⟩ = some (.int .i64 a0_5) := bc BK842 5
                have hcz74_6 : wr.cell? ⟨gb842, 6, none⟩ = some (.slice A0_6 l0_6.length c0_6) := bc BK842 6
                have hfz74_0 := blk_frozen BK842.out 0
                have hfz74_1 := blk_frozen BK842.out 1
                have hfz74_2 := blk_frozen BK842.out 2
                have hfz74_3 := blk_frozen BK842.out 3
                have hfz74_4 := blk_frozen BK842.out 4
                have hfz74_5 := blk_frozen BK842.out 5
                have hfz74_6 := blk_frozen BK842.out 6
                go_wp2_with (first | ((with_reducible refine gate_callee (f := 78) rfl ?_); refine goesL_ (some 74) rfl rfl Try.func78 (by kernel_rfl) rfl #[.agg #[.int .i64 a0_0, .int .i64 a0_1, .int .i64 a0_2, .int .i64 a0_3, .int .i64 a0_4, .int .i64 a0_5, .slice A0_6 l0_6.length c0_6]] rfl upL ?_; (with_reducible refine (waveletref23_tiles.calls a0_0 a0_1 a0_2 a0_3 a0_4 a0_5 _ _ l0_6 t858 _ ?side1 ?side2 A72.out).mono ?_); (case side1 => repeat (first | exact (Kd.C_below HR0_6.out HB.out) | (with_reducible refine Kd.C_alloc ?_ _) | (with_reducible refine Kd.C_drewN ?_ _) | (with_reducible refine Kd.C_drew ?_))); (case side2 => exact HC0_6.out); rintro e w75 ⟨rfl, hb⟩; refine ⟨_, rfl, ?_⟩; replace BK842 := Aside0.mk (blk_below (g := gb842) (o := .cells #[.int .i64 a0_0, .int .i64 a0_1, .int .i64 a0_2, .int .i64 a0_3, .int .i64 a0_4, .int .i64 a0_5, .slice A0_6 l0_6.length c0_6] 67 (0, 0)) (upK BK842.out) hb); replace HB := Aside0.mk (below_step (upB HB.out) hb); (try clear hb; try clear hb2; try clear hk; try clear hi)))
                go_ret
                exact ⟨by first | rfl | (simp [errW_none, errW_some] <;> rfl) | (simp [*, errW_none, errW_some] <;> rfl), by repeat (first | (with_reducible first | exact HB.out | apply below_alloc | apply pw_below_drewN | apply below_drew1 | refine below_set ?_ GE842.out) | exact HB.out)⟩
              · rw [if_neg c73] at H
                have c73b0 : decide (1024 < t858) = false := decide_eq_false c73
                clear c73
                have H' := Aside0.mk H
                clear H
                have hcz76_0 : wr.cell? ⟨gb842, 0, none⟩ = some (.int .i64 a0_0) := bc BK842 0
                have hcz76_1 : wr.cell? ⟨gb842, 1, none⟩ = some (.int .i64 a0_1) := bc BK842 1
                have hcz76_2 : wr.cell? ⟨gb842, 2, none⟩ = some (.int .i64 a0_2) := bc BK842 2
                have hcz76_3 : wr.cell? ⟨gb842, 3, none⟩ = some (.int .i64 a0_3) := bc BK842 3
                have hcz76_4 : wr.cell? ⟨gb842, 4, none⟩ = some (.int .i64 a0_4) := bc BK842 4
                have hcz76_5 : wr.cell? ⟨gb842, 5, none⟩ = some (.int .i64 a0_5) := bc BK842 5
                have hcz76_6 : wr.cell? ⟨gb842, 6, none⟩ = some (.slice A0_6 l0_6.length c0_6) := bc BK842 6
                have hfz76_0 := blk_frozen BK842.out 0
                have hfz76_1 := blk_frozen BK842.out 1
                have hfz76_2 := blk_frozen BK842.out 2
                have hfz76_3 := blk_frozen BK842.out 3
                have hfz76_4 := blk_frozen BK842.out 4
                have hfz76_5 := blk_frozen BK842.out 5
                have hfz76_6 := blk_frozen BK842.out 6
                go_wp2_with (first | ((with_reducible refine gate_callee (f := 78) rfl ?_); refine goesL_ (some 74) rfl rfl Try.func78 (by kernel_rfl) rfl #[.agg #[.int .i64 a0_0, .int .i64 a0_1, .int .i64 a0_2, .int .i64 a0_3, .int .i64 a0_4, .int .i64 a0_5, .slice A0_6 l0_6.length c0_6]] rfl upL ?_; (with_reducible refine (waveletref23_tiles.calls a0_0 a0_1 a0_2 a0_3 a0_4 a0_5 _ _ l0_6 t858 _ ?side1 ?side2 A72.out).mono ?_); (case side1 => repeat (first | exact (Kd.C_below HR0_6.out HB.out) | (with_reducible refine Kd.C_alloc ?_ _) | (with_reducible refine Kd.C_drewN ?_ _) | (with_reducible refine Kd.C_drew ?_))); (case side2 => exact HC0_6.out); rintro e w77 ⟨rfl, hb⟩; refine ⟨_, rfl, ?_⟩; replace BK842 := Aside0.mk (blk_below (g := gb842) (o := .cells #[.int .i64 a0_0, .int .i64 a0_1, .int .i64 a0_2, .int .i64 a0_3, .int .i64 a0_4, .int .i64 a0_5, .slice A0_6 l0_6.length c0_6] 67 (0, 0)) (upK BK842.out) hb); replace HB := Aside0.mk (below_step (upB HB.out) hb); (try clear hb; try clear hb2; try clear hk; try clear hi)))
                go_loopg [5] k2 (fun kq v5 w' => ∃ (x5_3 : Int), v5 = .int .i64 x5_3 ∧ Aside0 (waveletref23_Header.l1 kq x5_3 a0_0 a0_1 a0_2 a0_3 a0_4 a0_5 l0_6 = some r) ∧ Aside0 (kq ≤ k2) ∧ Aside0 (w'.heap[gb842]? = some (.cells #[.int .i64 a0_0, .int .i64 a0_1, .int .i64 a0_2, .int .i64 a0_3, .int .i64 a0_4, .int .i64 a0_5, (.slice A0_6 l0_6.length c0_6)] 67 (0, 0))) ∧ Aside0 (Below w.heap.size w w'))
                case atStart => exact ⟨(0), (by first | rfl | (simp; done) | (simp [*]; done)), H', ⟨Nat.le_refl _⟩, ⟨by (with_reducible repeat (first | refine blk_drewN ?_ _ | refine blk_drew ?_ | refine blk_alloc ?_ _)); exact BK842.out⟩, ⟨by repeat (first | (with_reducible first | exact HB.out | apply below_alloc | apply pw_below_drewN | apply below_drew1 | refine below_set ?_ GE842.out) | exact HB.out)⟩⟩
                case round =>
                  clear H'
                  try clear c1
                  try clear p2
                  try clear c3
                  try clear c4
                  try clear c5
                  try clear c6
                  try clear p6
                  try clear c7
                  try clear p8
                  try clear q8
                  try clear hx8
                  try clear c13
                  try clear c15
                  try clear c34
                  try clear c35
                  try clear c35b0
                  try clear c36
                  try clear c36b0
                  try clear c38
                  try clear c40
                  try clear c42
                  try clear c45
                  try clear c48
                  try clear c55
                  try clear c62
                  try clear p64
                  try clear c66
                  try clear c70
                  try clear c73
                  try clear c73b0
                  try clear c76
                  try clear hcz10_0
                  try clear hcz10_1
                  try clear hcz10_2
                  try clear hcz10_3
                  try clear hcz10_4
                  try clear hcz10_5
                  try clear hcz10_6
                  try clear hcz17_0
                  try clear hcz17_1
                  try clear hcz17_2
                  try clear hcz17_3
                  try clear hcz17_4
                  try clear hcz17_5
                  try clear hcz17_6
                  try clear hcz19_0
                  try clear hcz19_1
                  try clear hcz19_2
                  try clear hcz19_3
                  try clear hcz19_4
                  try clear hcz19_5
                  try clear hcz19_6
                  try clear hcz21_0
                  try clear hcz21_1
                  try clear hcz21_2
                  try clear hcz21_3
                  try clear hcz21_4
                  try clear hcz21_5
                  try clear hcz21_6
                  try clear hcz22_0
                  try clear hcz22_1
                  try clear hcz22_2
                  try clear hcz22_3
                  try clear hcz22_4
                  try clear hcz22_5
                  try clear hcz22_6
                  try clear hcz24_0
                  try clear hcz24_1
                  try clear hcz24_2
                  try clear hcz24_3
                  try clear hcz24_4
                  try clear hcz24_5
                  try clear hcz24_6
                  try clear hcz26_0
                  try clear hcz26_1
                  try clear hcz26_2
                  try clear hcz26_3
                  try clear hcz26_4
                  try clear hcz26_5
                  try clear hcz26_6
                  try clear hcz27_0
                  try clear hcz27_1
                  try clear hcz27_2
                  try clear hcz27_3
                  try clear hcz27_4
                  try clear hcz27_5
                  try clear hcz27_6
                  try clear hcz29_0
                  try clear hcz29_1
                  try clear hcz29_2
                  try clear hcz29_3
                  try clear hcz29_4
                  try clear hcz29_5
                  try clear hcz29_6
                  try clear hcz31_0
                  try clear hcz31_1
                  try clear hcz31_2
                  try clear hcz31_3
                  try clear hcz31_4
                  try clear hcz31_5
                  try clear hcz31_6
                  try clear hcz32_0
                  try clear hcz32_1
                  try clear hcz32_2
                  try clear hcz32_3
                  try clear hcz32_4
                  try clear hcz32_5
                  try clear hcz32_6
                  try clear hcz46_0
                  try clear hcz46_1
                  try clear hcz46_2
                  try clear hcz46_3
                  try clear hcz46_4
                  try clear hcz46_5
                  try clear hcz46_6
                  try clear hcz49_0
                  try clear hcz49_1
                  try clear hcz49_2
                  try clear hcz49_3
                  try clear hcz50_0
                  try clear hcz50_1
                  try clear hcz50_2
                  try clear hcz50_3
                  try clear hcz50_4
                  try clear hcz50_5
                  try clear hcz50_6
                  try clear hcz53_0
                  try clear hcz53_1
                  try clear hcz53_2
                  try clear hcz53_3
                  try clear hcz53_4
                  try clear hcz53_5
                  try clear hcz53_6
                  try clear hcz56_0
                  try clear hcz56_1
                  try clear hcz56_2
                  try clear hcz56_3
                  try clear hcz57_0
                  try clear hcz57_1
                  try clear hcz57_2
                  try clear hcz57_3
                  try clear hcz57_4
                  try clear hcz57_5
                  try clear hcz57_6
                  try clear hcz60_0
                  try clear hcz60_1
                  try clear hcz60_2
                  try clear hcz60_3
                  try clear hcz60_4
                  try clear hcz60_5
                  try clear hcz60_6
                  try clear hcz63_0
                  try clear hcz63_1
                  try clear hcz63_2
                  try clear hcz63_3
                  try clear hcz64_0
                  try clear hcz64_1
                  try clear hcz64_2
                  try clear hcz64_3
                  try clear hcz64_4
                  try clear hcz64_5
                  try clear hcz64_6
                  try clear hcz67_0
                  try clear hcz67_1
                  try clear hcz67_2
                  try clear hcz67_3
                  try clear hcz68_0
                  try clear hcz68_1
                  try clear hcz68_2
                  try clear hcz68_3
                  try clear hcz68_4
                  try clear hcz68_5
                  try clear hcz68_6
                  try clear hcz71_0
                  try clear hcz71_1
                  try clear hcz71_2
                  try clear hcz71_3
                  try clear hcz74_0
                  try clear hcz74_1
                  try clear hcz74_2
                  try clear hcz74_3
                  try clear hcz74_4
                  try clear hcz74_5
                  try clear hcz74_6
                  try clear hcz76_0
                  try clear hcz76_1
                  try clear hcz76_2
                  try clear hcz76_3
                  try clear hcz76_4
                  try clear hcz76_5
                  try clear hcz76_6
                  try clear hcz8_0
                  try clear hcz8_1
                  try clear hcz8_2
                  try clear hcz8_3
                  try clear hcz8_4
                  try clear hcz8_5
                  try clear hcz8_6
                  try clear hfz10_0
                  try clear hfz10_1
                  try clear hfz10_2
                  try clear hfz10_3
                  try clear hfz10_4
                  try clear hfz10_5
                  try clear hfz10_6
                  try clear hfz17_0
                  try clear hfz17_1
                  try clear hfz17_2
                  try clear hfz17_3
                  try clear hfz17_4
                  try clear hfz17_5
                  try clear hfz17_6
                  try clear hfz19_0
                  try clear hfz19_1
                  try clear hfz19_2
                  try clear hfz19_3
                  try clear hfz19_4
                  try clear hfz19_5
                  try clear hfz19_6
                  try clear hfz21_0
                  try clear hfz21_1
                  try clear hfz21_2
                  try clear hfz21_3
                  try clear hfz21_4
                  try clear hfz21_5
                  try clear hfz21_6
                  try clear hfz22_0
                  try clear hfz22_1
                  try clear hfz22_2
                  try clear hfz22_3
                  try clear hfz22_4
                  try clear hfz22_5
                  try clear hfz22_6
                  try clear hfz24_0
                  try clear hfz24_1
                  try clear hfz24_2
                  try clear hfz24_3
                  try clear hfz24_4
                  try clear hfz24_5
                  try clear hfz24_6
                  try clear hfz26_0
                  try clear hfz26_1
                  try clear hfz26_2
                  try clear hfz26_3
                  try clear hfz26_4
                  try clear hfz26_5
                  try clear hfz26_6
                  try clear hfz27_0
                  try clear hfz27_1
                  try clear hfz27_2
                  try clear hfz27_3
                  try clear hfz27_4
                  try clear hfz27_5
                  try clear hfz27_6
                  try clear hfz29_0
                  try clear hfz29_1
                  try clear hfz29_2
                  try clear hfz29_3
                  try clear hfz29_4
                  try clear hfz29_5
                  try clear hfz29_6
                  try clear hfz31_0
                  try clear hfz31_1
                  try clear hfz31_2
                  try clear hfz31_3
                  try clear hfz31_4
                  try clear hfz31_5
                  try clear hfz31_6
                  try clear hfz32_0
                  try clear hfz32_1
                  try clear hfz32_2
                  try clear hfz32_3
                  try clear hfz32_4
                  try clear hfz32_5
                  try clear hfz32_6
                  try clear hfz46_0
                  try clear hfz46_1
                  try clear hfz46_2
                  try clear hfz46_3
                  try clear hfz46_4
                  try clear hfz46_5
                  try clear hfz46_6
                  try clear hfz49_0
                  try clear hfz49_1
                  try clear hfz49_2
                  try clear hfz49_3
                  try clear hfz50_0
                  try clear hfz50_1
                  try clear hfz50_2
                  try clear hfz50_3
                  try clear hfz50_4
                  try clear hfz50_5
                  try clear hfz50_6
                  try clear hfz53_0
                  try clear hfz53_1
                  try clear hfz53_2
                  try clear hfz53_3
                  try clear hfz53_4
                  try clear hfz53_5
                  try clear hfz53_6
                  try clear hfz56_0
                  try clear hfz56_1
                  try clear hfz56_2
                  try clear hfz56_3
                  try clear hfz57_0
                  try clear hfz57_1
                  try clear hfz57_2
                  try clear hfz57_3
                  try clear hfz57_4
                  try clear hfz57_5
                  try clear hfz57_6
                  try clear hfz60_0
                  try clear hfz60_1
                  try clear hfz60_2
                  try clear hfz60_3
                  try clear hfz60_4
                  try clear hfz60_5
                  try clear hfz60_6
                  try clear hfz63_0
                  try clear hfz63_1
                  try clear hfz63_2
                  try clear hfz63_3
                  try clear hfz64_0
                  try clear hfz64_1
                  try clear hfz64_2
                  try clear hfz64_3
                  try clear hfz64_4
                  try clear hfz64_5
                  try clear hfz64_6
                  try clear hfz67_0
                  try clear hfz67_1
                  try clear hfz67_2
                  try clear hfz67_3
                  try clear hfz68_0
                  try clear hfz68_1
                  try clear hfz68_2
                  try clear hfz68_3
                  try clear hfz68_4
                  try clear hfz68_5
                  try clear hfz68_6
                  try clear hfz71_0
                  try clear hfz71_1
                  try clear hfz71_2
                  try clear hfz71_3
                  try clear hfz74_0
                  try clear hfz74_1
                  try clear hfz74_2
                  try clear hfz74_3
                  try clear hfz74_4
                  try clear hfz74_5
                  try clear hfz74_6
                  try clear hfz76_0
                  try clear hfz76_1
                  try clear hfz76_2
                  try clear hfz76_3
                  try clear hfz76_4
                  try clear hfz76_5
                  try clear hfz76_6
                  try clear hfz8_0
                  try clear hfz8_1
                  try clear hfz8_2
                  try clear hfz8_3
                  try clear hfz8_4
                  try clear hfz8_5
                  try clear hfz8_6
                  try clear hx848_0
                  try clear hx848_1
                  try clear hx848_2
                  try clear hx848_3
                  try clear p2
                  try clear p848
                  try clear q848
                  obtain ⟨x5_3, rfl, HA, HK3, BK842, HB⟩ := hrel
                  cases gk with
                  | zero => exact absurd HA.out (by simp [waveletref23_Header.l1])
                  | succ k3 =>
                    have H := HA.out
                    clear HA
                    simp only [waveletref23_Header.l1] at H
                    by_cases c78 : x5_3 < (l0_6.length : Int)
                    · rw [if_pos c78] at H
                      have c78b0 : decide (x5_3 < (l0_6.length : Int)) = true := decide_eq_true c78
                      clear c78
                      by_cases c79 : 0 ≤ x5_3
                      · rw [if_pos c79] at H
                        have c79b0 : decide (0 ≤ x5_3) = true := decide_eq_true c79
                        clear c79
                        replace H := Option.bind_eq_some_iff.mp H
                        obtain ⟨⟨t861, t862, t863, t864⟩, A800, H⟩ := H
                        replace H : ((waveletref01_Area.f t861 t862 t863 t864).bind fun t865 => (if t865 > 1048576 then (some 5) else (waveletref23_Header.l1 k3 (wrap64 (x5_3 + 1)) a0_0 a0_1 a0_2 a0_3 a0_4 a0_5 l0_6))) = some r := H
                        have A80 := Aside0.mk A800
                        clear A800
                        replace H := Option.bind_eq_some_iff.mp H
                        obtain ⟨t865, A810, H⟩ := H
                        replace H : (if t865 > 1048576 then (some 5) else (waveletref23_Header.l1 k3 (wrap64 (x5_3 + 1)) a0_0 a0_1 a0_2 a0_3 a0_4 a0_5 l0_6)) = some r := H
                        have A81 := Aside0.mk A810
                        clear A810
                        by_cases c82 : t865 > 1048576
                        · rw [if_pos c82] at H
                          have c82b0 : decide (1048576 < t865) = true := decide_eq_true c82
                          clear c82
                          obtain rfl := Option.some.inj H
                          have hcz83_0 : wr.cell? ⟨gb842, 0, none⟩ = some (.int .i64 a0_0) := bc BK842 0
                          have hcz83_1 : wr.cell? ⟨gb842, 1, none⟩ = some (.int .i64 a0_1) := bc BK842 1
                          have hcz83_2 : wr.cell? ⟨gb842, 2, none⟩ = some (.int .i64 a0_2) := bc BK842 2
                          have hcz83_3 : wr.cell? ⟨gb842, 3, none⟩ = some (.int .i64 a0_3) := bc BK842 3
                          have hcz83_4 : wr.cell? ⟨gb842, 4, none⟩ = some (.int .i64 a0_4) := bc BK842 4
                          have hcz83_5 : wr.cell? ⟨gb842, 5, none⟩ = some (.int .i64 a0_5) := bc BK842 5
                          have hcz83_6 : wr.cell? ⟨gb842, 6, none⟩ = some (.slice A0_6 l0_6.length c0_6) := bc BK842 6
                          have hfz83_0 := blk_frozen BK842.out 0
                          have hfz83_1 := blk_frozen BK842.out 1
                          have hfz83_2 := blk_frozen BK842.out 2
                          have hfz83_3 := blk_frozen BK842.out 3
                          have hfz83_4 := blk_frozen BK842.out 4
                          have hfz83_5 := blk_frozen BK842.out 5
                          have hfz83_6 := blk_frozen BK842.out 6
                          have p859 : 0 ≤ (x5_3 : Int) := of_decide_eq_true (by first | (with_reducible assumption) | assumption)
                          have q859 : x5_3 < (l0_6.length : Int) := of_decide_eq_true (by first | (with_reducible assumption) | assumption)
                          obtain ⟨ad859, e859, hx859_0, hx859_1, hx859_2, hx859_3⟩ := at_T97 HR0_6.out x5_3 p859 q859
                          cases e859
                          replace hx859_0 := hc HB hx859_0
                          replace hx859_1 := hc HB hx859_1
                          replace hx859_2 := hc HB hx859_2
                          replace hx859_3 := hc HB hx859_3
                          replace p859 := eq_true p859
                          replace q859 := eq_true q859
                          go_wp2_with (first | ((with_reducible refine gate_dst (N := 6) rfl ?_); (try (refine gate_guard (by rfl) ?_; dsimp only)); refine box_event ?hg (N := 6) ?hd (cs := #[.int .i64 0, .bool false, .int .i64 0, .int .i64 0]) (t := 97) ?hr ?_; (case hd => rfl); (case hg => rfl); (case hr => first | (go_simp; done) | (go_simp; rfl)); intro gb860 hg w84 hbox hb; have BK860 := Aside0.mk (hbox); have GW860 := Aside0.mk ((by rw [hg]; exact (below_size (upB HB.out)) : w.heap.size ≤ gb860)); have GE860 := Aside0.mk ((by rw [hg]; exact (below_size (upB HB.out)) : w.heap.size ≤ gb860)); replace HB := Aside0.mk (below_step (upB HB.out) hb); have NB842_860 := Aside0.mk ((by rw [hg]; exact Nat.ne_of_lt (blk_lt (upK BK842.out)) : gb842 ≠ gb860)); have NB860_842 := Aside0.mk ((by rw [hg]; exact Nat.ne_of_gt (blk_lt (upK BK842.out)) : gb860 ≠ gb842)); replace BK842 := Aside0.mk (blk_below (g := gb842) (o := .cells #[.int .i64 a0_0, .int .i64 a0_1, .int .i64 a0_2, .int .i64 a0_3, .int .i64 a0_4, .int .i64 a0_5, .slice (some ad859) l0_6.length c0_6] 67 (0, 0)) (upK BK842.out) hb); clear hb hbox hg; have hnb85 := NB860_842.out; have hnc85 := NB842_860.out; have hcz86_0 : w84.cell? ⟨gb860, 0, none⟩ = some (.int .i64 0) := bc BK860 0; have hcz86_1 : w84.cell? ⟨gb860, 1, none⟩ = some (.bool false) := bc BK860 1; have hcz86_2 : w84.cell? ⟨gb860, 2, none⟩ = some (.int .i64 0) := bc BK860 2; have hcz86_3 : w84.cell? ⟨gb860, 3, none⟩ = some (.int .i64 0) := bc BK860 3; have hfz86_0 := blk_frozen BK860.out 0; have hfz86_1 := blk_frozen BK860.out 1; have hfz86_2 := blk_frozen BK860.out 2; have hfz86_3 := blk_frozen BK860.out 3; have hcz87_0 : w84.cell? ⟨gb842, 0, none⟩ = some (.int .i64 a0_0) := bc BK842 0; have hcz87_1 : w84.cell? ⟨gb842, 1, none⟩ = some (.int .i64 a0_1) := bc BK842 1; have hcz87_2 : w84.cell? ⟨gb842, 2, none⟩ = some (.int .i64 a0_2) := bc BK842 2; have hcz87_3 : w84.cell? ⟨gb842, 3, none⟩ = some (.int .i64 a0_3) := bc BK842 3; have hcz87_4 : w84.cell? ⟨gb842, 4, none⟩ = some (.int .i64 a0_4) := bc BK842 4; have hcz87_5 : w84.cell? ⟨gb842, 5, none⟩ = some (.int .i64 a0_5) := bc BK842 5; have hcz87_6 : w84.cell? ⟨gb842, 6, none⟩ = some (.slice (some ad859) l0_6.length c0_6) := bc BK842 6; have hfz87_0 := blk_frozen BK842.out 0; have hfz87_1 := blk_frozen BK842.out 1; have hfz87_2 := blk_frozen BK842.out 2; have hfz87_3 := blk_frozen BK842.out 3; have hfz87_4 := blk_frozen BK842.out 4; have hfz87_5 := blk_frozen BK842.out 5; have hfz87_6 := blk_frozen BK842.out 6) | ((with_reducible refine gate_callee (f := 77) rfl ?_); refine goesL_ (some 94) rfl rfl Try.func77 (by kernel_rfl) rfl #[.agg #[.int .i64 a0_0, .int .i64 a0_1, .int .i64 a0_2, .int .i64 a0_3], .int .i64 ((rd_T97 l0_6 x5_3).f2), .int .i64 ((rd_T97 l0_6 x5_3).f3)] rfl upL ?_; (with_reducible refine (waveletref01_Reduce.calls k3 a0_0 a0_1 a0_2 a0_3 ((rd_T97 l0_6 x5_3).f2) ((rd_T97 l0_6 x5_3).f3) t861 t862 t863 t864 _ A80.out).mono ?_); rintro e w88 ⟨rfl, hb⟩; refine ⟨_, rfl, ?_⟩; replace BK842 := Aside0.mk (blk_below (g := gb842) (o := .cells #[.int .i64 a0_0, .int .i64 a0_1, .int .i64 a0_2, .int .i64 a0_3, .int .i64 a0_4, .int .i64 a0_5, .slice (some ad859) l0_6.length c0_6] 67 (0, 0)) (by (with_reducible repeat (first | refine blk_far ?_ NB842_860.out _ | refine blk_drewN ?_ _ | refine blk_drew ?_ | refine blk_alloc ?_ _)); exact BK842.out) hb); replace BK860 := Aside0.mk (blk_below (g := gb860) (o := .cells #[.int .i64 ((rd_T97 l0_6 x5_3).f0), .bool ((rd_T97 l0_6 x5_3).f1), .int .i64 ((rd_T97 l0_6 x5_3).f2), .int .i64 ((rd_T97 l0_6 x5_3).f3)] 97 (0, 0)) (by (with_reducible repeat (first | refine blk_drewN ?_ _ | refine blk_drew ?_ | refine blk_alloc ?_ _)); refine blk_put (cs := #[.int .i64 ((rd_T97 l0_6 x5_3).f0), .bool ((rd_T97 l0_6 x5_3).f1), .int .i64 ((rd_T97 l0_6 x5_3).f2), .int .i64 0]) ?_ 3 _ rfl; (with_reducible repeat (first | refine blk_drewN ?_ _ | refine blk_drew ?_ | refine blk_alloc ?_ _)); refine blk_put (cs := #[.int .i64 ((rd_T97 l0_6 x5_3).f0), .bool ((rd_T97 l0_6 x5_3).f1), .int .i64 0, .int .i64 0]) ?_ 2 _ rfl; (with_reducible repeat (first | refine blk_drewN ?_ _ | refine blk_drew ?_ | refine blk_alloc ?_ _)); refine blk_put (cs := #[.int .i64 ((rd_T97 l0_6 x5_3).f0), .bool false, .int .i64 0, .int .i64 0]) ?_ 1 _ rfl; (with_reducible repeat (first | refine blk_drewN ?_ _ | refine blk_drew ?_ | refine blk_alloc ?_ _)); refine blk_put (cs := #[.int .i64 0, .bool false, .int .i64 0, .int .i64 0]) ?_ 0 _ rfl; (with_reducible repeat (first | refine blk_drewN ?_ _ | refine blk_drew ?_ | refine blk_alloc ?_ _)); exact BK860.out) hb); replace HB := Aside0.mk (below_step (upB HB.out) hb); (try clear hb; try clear hb2; try clear hk; try clear hi)) | ((with_reducible refine gate_callee (f := 79) rfl ?_); refine goesL_ (some 95) rfl rfl Try.func79 (by kernel_rfl) rfl #[.agg #[.int .i64 t861, .int .i64 t862, .int .i64 t863, .int .i64 t864]] rfl upL ?_; (with_reducible refine (waveletref01_Area.calls t861 t862 t863 t864 t865 _ A81.out).mono ?_); rintro e w89 ⟨rfl, hb⟩; refine ⟨_, rfl, ?_⟩; replace BK842 := Aside0.mk (blk_below (g := gb842) (o := .cells #[.int .i64 a0_0, .int .i64 a0_1, .int .i64 a0_2, .int .i64 a0_3, .int .i64 a0_4, .int .i64 a0_5, .slice (some ad859) l0_6.length c0_6] 67 (0, 0)) (upK BK842.out) hb); replace BK860 := Aside0.mk (blk_below (g := gb860) (o := .cells #[.int .i64 ((rd_T97 l0_6 x5_3).f0), .bool ((rd_T97 l0_6 x5_3).f1), .int .i64 ((rd_T97 l0_6 x5_3).f2), .int .i64 ((rd_T97 l0_6 x5_3).f3)] 97 (0, 0)) (upK BK860.out) hb); replace HB := Aside0.mk (below_step (upB HB.out) hb); (try clear hb; try clear hb2; try clear hk; try clear hi)))
                          go_ret
                          exact ⟨by first | rfl | (simp [errW_none, errW_some] <;> rfl) | (simp [*, errW_none, errW_some] <;> rfl), by repeat (first | (with_reducible first | exact HB.out | apply below_alloc | apply pw_below_drewN | apply below_drew1 | refine below_set ?_ GE842.out | refine below_set ?_ GE860.out) | exact HB.out)⟩
                        · rw [if_neg c82] at H
                          have c82b0 : decide (1048576 < t865) = false := decide_eq_false c82
                          clear c82
                          have H' := Aside0.mk H
                          clear H
                          have hcz90_0 : wr.cell? ⟨gb842, 0, none⟩ = some (.int .i64 a0_0) := bc BK842 0
                          have hcz90_1 : wr.cell? ⟨gb842, 1, none⟩ = some (.int .i64 a0_1) := bc BK842 1
                          have hcz90_2 : wr.cell? ⟨gb842, 2, none⟩ = some (.int .i64 a0_2) := bc BK842 2
                          have hcz90_3 : wr.cell? ⟨gb842, 3, none⟩ = some (.int .i64 a0_3) := bc BK842 3
                          have hcz90_4 : wr.cell? ⟨gb842, 4, none⟩ = some (.int .i64 a0_4) := bc BK842 4
                          have hcz90_5 : wr.cell? ⟨gb842, 5, none⟩ = some (.int .i64 a0_5) := bc BK842 5
                          have hcz90_6 : wr.cell? ⟨gb842, 6, none⟩ = some (.slice A0_6 l0_6.length c0_6) := bc BK842 6
                          have hfz90_0 := blk_frozen BK842.out 0
                          have hfz90_1 := blk_frozen BK842.out 1
                          have hfz90_2 := blk_frozen BK842.out 2
                          have hfz90_3 := blk_frozen BK842.out 3
                          have hfz90_4 := blk_frozen BK842.out 4
                          have hfz90_5 := blk_frozen BK842.out 5
                          have hfz90_6 := blk_frozen BK842.out 6
                          have p859 : 0 ≤ (x5_3 : Int) := of_decide_eq_true (by first | (with_reducible assumption) | assumption)
                          have q859 : x5_3 < (l0_6.length : Int) := of_decide_eq_true (by first | (with_reducible assumption) | assumption)
                          obtain ⟨ad859, e859, hx859_0, hx859_1, hx859_2, hx859_3⟩ := at_T97 HR0_6.out x5_3 p859 q859
                          cases e859
                          replace hx859_0 := hc HB hx859_0
                          replace hx859_1 := hc HB hx859_1
                          replace hx859_2 := hc HB hx859_2
                          replace hx859_3 := hc HB hx859_3
                          replace p859 := eq_true p859
                          replace q859 := eq_true q859
                          go_wp2_with (first | ((with_reducible refine gate_dst (N := 6) rfl ?_); (try (refine gate_guard (by rfl) ?_; dsimp only)); refine box_event ?hg (N := 6) ?hd (cs := #[.int .i64 0, .bool false, .int .i64 0, .int .i64 0]) (t := 97) ?hr ?_; (case hd => rfl); (case hg => rfl); (case hr => first | (go_simp; done) | (go_simp; rfl)); intro gb860 hg w91 hbox hb; have BK860 := Aside0.mk (hbox); have GW860 := Aside0.mk ((by rw [hg]; exact (below_size (upB HB.out)) : w.heap.size ≤ gb860)); have GE860 := Aside0.mk ((by rw [hg]; exact (below_size (upB HB.out)) : w.heap.size ≤ gb860)); replace HB := Aside0.mk (below_step (upB HB.out) hb); have NB842_860 := Aside0.mk ((by rw [hg]; exact Nat.ne_of_lt (blk_lt (upK BK842.out)) : gb842 ≠ gb860)); have NB860_842 := Aside0.mk ((by rw [hg]; exact Nat.ne_of_gt (blk_lt (upK BK842.out)) : gb860 ≠ gb842)); replace BK842 := Aside0.mk (blk_below (g := gb842) (o := .cells #[.int .i64 a0_0, .int .i64 a0_1, .int .i64 a0_2, .int .i64 a0_3, .int .i64 a0_4, .int .i64 a0_5, .slice (some ad859) l0_6.length c0_6] 67 (0, 0)) (upK BK842.out) hb); clear hb hbox hg; have hnb92 := NB860_842.out; have hnc92 := NB842_860.out; have hcz93_0 : w91.cell? ⟨gb860, 0, none⟩ = some (.int .i64 0) := bc BK860 0; have hcz93_1 : w91.cell? ⟨gb860, 1, none⟩ = some (.bool false) := bc BK860 1; have hcz93_2 : w91.cell? ⟨gb860, 2, none⟩ = some (.int .i64 0) := bc BK860 2; have hcz93_3 : w91.cell? ⟨gb860, 3, none⟩ = some (.int .i64 0) := bc BK860 3; have hfz93_0 := blk_frozen BK860.out 0; have hfz93_1 := blk_frozen BK860.out 1; have hfz93_2 := blk_frozen BK860.out 2; have hfz93_3 := blk_frozen BK860.out 3; have hcz94_0 : w91.cell? ⟨gb842, 0, none⟩ = some (.int .i64 a0_0) := bc BK842 0; have hcz94_1 : w91.cell? ⟨gb842, 1, none⟩ = some (.int .i64 a0_1) := bc BK842 1; have hcz94_2 : w91.cell? ⟨gb842, 2, none⟩ = some (.int .i64 a0_2) := bc BK842 2; have hcz94_3 : w91.cell? ⟨gb842, 3, none⟩ = some (.int .i64 a0_3) := bc BK842 3; have hcz94_4 : w91.cell? ⟨gb842, 4, none⟩ = some (.int .i64 a0_4) := bc BK842 4; have hcz94_5 : w91.cell? ⟨gb842, 5, none⟩ = some (.int .i64 a0_5) := bc BK842 5; have hcz94_6 : w91.cell? ⟨gb842, 6, none⟩ = some (.slice (some ad859) l0_6.length c0_6) := bc BK842 6; have hfz94_0 := blk_frozen BK842.out 0; have hfz94_1 := blk_frozen BK842.out 1; have hfz94_2 := blk_frozen BK842.out 2; have hfz94_3 := blk_frozen BK842.out 3; have hfz94_4 := blk_frozen BK842.out 4; have hfz94_5 := blk_frozen BK842.out 5; have hfz94_6 := blk_frozen BK842.out 6) | ((with_reducible refine gate_callee (f := 77) rfl ?_); refine goesL_ (some 94) rfl rfl Try.func77 (by kernel_rfl) rfl #[.agg #[.int .i64 a0_0, .int .i64 a0_1, .int .i64 a0_2, .int .i64 a0_3], .int .i64 ((rd_T97 l0_6 x5_3).f2), .int .i64 ((rd_T97 l0_6 x5_3).f3)] rfl upL ?_; (with_reducible refine (waveletref01_Reduce.calls k3 a0_0 a0_1 a0_2 a0_3 ((rd_T97 l0_6 x5_3).f2) ((rd_T97 l0_6 x5_3).f3) t861 t862 t863 t864 _ A80.out).mono ?_); rintro e w95 ⟨rfl, hb⟩; refine ⟨_, rfl, ?_⟩; replace BK842 := Aside0.mk (blk_below (g := gb842) (o := .cells #[.int .i64 a0_0, .int .i64 a0_1, .int .i64 a0_2, .int .i64 a0_3, .int .i64 a0_4, .int .i64 a0_5, .slice (some ad859) l0_6.length c0_6] 67 (0, 0)) (by (with_reducible repeat (first | refine blk_far ?_ NB842_860.out _ | refine blk_drewN ?_ _ | refine blk_drew ?_ | refine blk_alloc ?_ _)); exact BK842.out) hb); replace BK860 := Aside0.mk (blk_below (g := gb860) (o := .cells #[.int .i64 ((rd_T97 l0_6 x5_3).f0), .bool ((rd_T97 l0_6 x5_3).f1), .int .i64 ((rd_T97 l0_6 x5_3).f2), .int .i64 ((rd_T97 l0_6 x5_3).f3)] 97 (0, 0)) (by (with_reducible repeat (first | refine blk_drewN ?_ _ | refine blk_drew ?_ | refine blk_alloc ?_ _)); refine blk_put (cs := #[.int .i64 ((rd_T97 l0_6 x5_3).f0), .bool ((rd_T97 l0_6 x5_3).f1), .int .i64 ((rd_T97 l0_6 x5_3).f2), .int .i64 0]) ?_ 3 _ rfl; (with_reducible repeat (first | refine blk_drewN ?_ _ | refine blk_drew ?_ | refine blk_alloc ?_ _)); refine blk_put (cs := #[.int .i64 ((rd_T97 l0_6 x5_3).f0), .bool ((rd_T97 l0_6 x5_3).f1), .int .i64 0, .int .i64 0]) ?_ 2 _ rfl; (with_reducible repeat (first | refine blk_drewN ?_ _ | refine blk_drew ?_ | refine blk_alloc ?_ _)); refine blk_put (cs := #[.int .i64 ((rd_T97 l0_6 x5_3).f0), .bool false, .int .i64 0, .int .i64 0]) ?_ 1 _ rfl; (with_reducible repeat (first | refine blk_drewN ?_ _ | refine blk_drew ?_ | refine blk_alloc ?_ _)); refine blk_put (cs := #[.int .i64 0, .bool false, .int .i64 0, .int .i64 0]) ?_ 0 _ rfl; (with_reducible repeat (first | refine blk_drewN ?_ _ | refine blk_drew ?_ | refine blk_alloc ?_ _)); exact BK860.out) hb); replace HB := Aside0.mk (below_step (upB HB.out) hb); (try clear hb; try clear hb2; try clear hk; try clear hi)) | ((with_reducible refine gate_callee (f := 79) rfl ?_); refine goesL_ (some 95) rfl rfl Try.func79 (by kernel_rfl) rfl #[.agg #[.int .i64 t861, .int .i64 t862, .int .i64 t863, .int .i64 t864]] rfl upL ?_; (with_reducible refine (waveletref01_Area.calls t861 t862 t863 t864 t865 _ A81.out).mono ?_); rintro e w96 ⟨rfl, hb⟩; refine ⟨_, rfl, ?_⟩; replace BK842 := Aside0.mk (blk_below (g := gb842) (o := .cells #[.int .i64 a0_0, .int .i64 a0_1, .int .i64 a0_2, .int .i64 a0_3, .int .i64 a0_4, .int .i64 a0_5, .slice (some ad859) l0_6.length c0_6] 67 (0, 0)) (upK BK842.out) hb); replace BK860 := Aside0.mk (blk_below (g := gb860) (o := .cells #[.int .i64 ((rd_T97 l0_6 x5_3).f0), .bool ((rd_T97 l0_6 x5_3).f1), .int .i64 ((rd_T97 l0_6 x5_3).f2), .int .i64 ((rd_T97 l0_6 x5_3).f3)] 97 (0, 0)) (upK BK860.out) hb); replace HB := Aside0.mk (below_step (upB HB.out) hb); (try clear hb; try clear hb2; try clear hk; try clear hi)))
                          go_roundg k3
                          case measure => have := HJ1.out; have := HK2.out; have := HK3.out; omega
                          case rel => exact ⟨(wrap64 (x5_3 + 1)), (by first | rfl | (simp; done) | (simp [*]; done)), H', ⟨by have := HJ1.out; have := HK2.out; have := HK3.out; omega⟩, ⟨by (with_reducible repeat (first | refine blk_drewN ?_ _ | refine blk_drew ?_ | refine blk_alloc ?_ _)); exact BK842.out⟩, ⟨by repeat (first | (with_reducible first | exact HB.out | apply below_alloc | apply pw_below_drewN | apply below_drew1 | refine below_set ?_ GE842.out | refine below_set ?_ GE860.out) | exact HB.out)⟩⟩
                      · rw [if_neg c79] at H
                        exact absurd H (by simp)
                    · rw [if_neg c78] at H
                      have c78b0 : decide (x5_3 < (l0_6.length : Int)) = false := decide_eq_false c78
                      clear c78
                      obtain rfl := Option.some.inj H
                      have hcz97_0 : wr.cell? ⟨gb842, 0, none⟩ = some (.int .i64 a0_0) := bc BK842 0
                      have hcz97_1 : wr.cell? ⟨gb842, 1, none⟩ = some (.int .i64 a0_1) := bc BK842 1
                      have hcz97_2 : wr.cell? ⟨gb842, 2, none⟩ = some (.int .i64 a0_2) := bc BK842 2
                      have hcz97_3 : wr.cell? ⟨gb842, 3, none⟩ = some (.int .i64 a0_3) := bc BK842 3
                      have hcz97_4 : wr.cell? ⟨gb842, 4, none⟩ = some (.int .i64 a0_4) := bc BK842 4
                      have hcz97_5 : wr.cell? ⟨gb842, 5, none⟩ = some (.int .i64 a0_5) := bc BK842 5
                      have hcz97_6 : wr.cell? ⟨gb842, 6, none⟩ = some (.slice A0_6 l0_6.length c0_6) := bc BK842 6
                      have hfz97_0 := blk_frozen BK842.out 0
                      have hfz97_1 := blk_frozen BK842.out 1
                      have hfz97_2 := blk_frozen BK842.out 2
                      have hfz97_3 := blk_frozen BK842.out 3
                      have hfz97_4 := blk_frozen BK842.out 4
                      have hfz97_5 := blk_frozen BK842.out 5
                      have hfz97_6 := blk_frozen BK842.out 6
                      go_wp2
                      go_ret
                      exact ⟨by first | rfl | (simp [errW_none, errW_some] <;> rfl) | (simp [*, errW_none, errW_some] <;> rfl), by repeat (first | (with_reducible first | exact HB.out | apply below_alloc | apply pw_below_drewN | apply below_drew1 | refine below_set ?_ GE842.out) | exact HB.out)⟩

end Go.Proofs.Ytihfopblmjgfaaa.Q
