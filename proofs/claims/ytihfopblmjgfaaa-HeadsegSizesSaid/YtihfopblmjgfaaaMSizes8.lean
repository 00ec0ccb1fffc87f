/- Texts of this session (words and printed walks, merged by wip/tools/merge.py) for the statement of the claim. -/
import Derived.Test.YtihfopblmjgfaaaMSizes1
import Derived.Test.YtihfopblmjgfaaaMSizes5
import Derived.Test.YtihfopblmjgfaaaMSizes7
namespace Go.Proofs.Ytihfopblmjgfaaa.Q
open Go.RowKit Go.Proofs.YtihfopblmjgfaaaW.PrintWords Go.Proofs.YtihfopblmjgfaaaW.PrintLast Go.Proofs.YtihfopblmjgfaaaW.PrintMore
attribute [local go_sem] max2_int min2_int max_two min_two max_three min_three max_four min_four   -- for this text's walks alone
set_option linter.unusedVariables false
set_option linter.unusedSimpArgs false

/-! ### waveletref29_Size: function 38 -/
mutual
def waveletref29_Size.l0 : Nat → List Int → List Int → Int → Int → Int → Int → Int → Int → Int → List (S97) → Option (Int × List Int × Int)
  | 0, _, _, _, _, _, _, _, _, _, _ => none
  | k + 1, x5, x6, x7, x867000, x867001, x867002, x867003, x867004, x867005, x867006 => if x7 < (x6.length : Int) then (if 0 ≤ x7 then ((waveletref29_put.f k x5 (rd x6 x7) 2).bind fun t876 => (waveletref29_Size.l0 k t876 x6 (wrap64 (x7 + 1)) x867000 x867001 x867002 x867003 x867004 x867005 x867006)) else (none)) else ((waveletref29_put.f k x5 (x867006.length : Int) 1).bind fun t879 => (waveletref29_Size.l1 k t879 0 x867000 x867001 x867002 x867003 x867004 x867005 x867006))
def waveletref29_Size.l1 : Nat → List Int → Int → Int → Int → Int → Int → Int → Int → List (S97) → Option (Int × List Int × Int)
  | 0, _, _, _, _, _, _, _, _, _ => none
  | k + 1, x5, x8, x867000, x867001, x867002, x867003, x867004, x867005, x867006 => if x8 < (x867006.length : Int) then (if 0 ≤ x8 then (if (rd_T97 x867006 x8).f1 = true then ((waveletref29_put.f k x5 (wrap64 ((wrap64 (((rd_T97 x867006 x8).f0) - 1)) + 128)) 1).bind fun t884 => ((waveletref29_put.f k t884 ((rd_T97 x867006 x8).f2) 1).bind fun t887 => ((waveletref29_put.f k t887 ((rd_T97 x867006 x8).f3) 1).bind fun t890 => (waveletref29_Size.l1 k t890 (wrap64 (x8 + 1)) x867000 x867001 x867002 x867003 x867004 x867005 x867006)))) else ((waveletref29_put.f k x5 (wrap64 (((rd_T97 x867006 x8).f0) - 1)) 1).bind fun t893 => ((waveletref29_put.f k t893 ((rd_T97 x867006 x8).f2) 1).bind fun t896 => ((waveletref29_put.f k t896 ((rd_T97 x867006 x8).f3) 1).bind fun t899 => (waveletref29_Size.l1 k t899 (wrap64 (x8 + 1)) x867000 x867001 x867002 x867003 x867004 x867005 x867006))))) else (none)) else (some (65441, x5, 0))
end
def waveletref29_Size.f (k : Nat) (a0_0 : Int) (a0_1 : Int) (a0_2 : Int) (a0_3 : Int) (a0_4 : Int) (a0_5 : Int) (l0_6 : List (S97)) : Option (Int × List Int × Int) := (waveletref23_Header.f k a0_0 a0_1 a0_2 a0_3 a0_4 a0_5 l0_6).bind fun t868 => (if t868 = 0 then (waveletref29_Size.l0 k (([] : List Int)) (([a0_0, a0_1, a0_2, a0_3, a0_4, a0_5] : List Int)) 0 a0_0 a0_1 a0_2 a0_3 a0_4 a0_5 l0_6) else (some (0, ([] : List Int), t868)))
theorem waveletref29_Size.mono_l : ∀ k, (∀ y0 y1 y2 y3 y4 y5 y6 y7 y8 y9, LeO (waveletref29_Size.l0 k y0 y1 y2 y3 y4 y5 y6 y7 y8 y9) (waveletref29_Size.l0 (k + 1) y0 y1 y2 y3 y4 y5 y6 y7 y8 y9)) ∧ (∀ y0 y1 y2 y3 y4 y5 y6 y7 y8, LeO (waveletref29_Size.l1 k y0 y1 y2 y3 y4 y5 y6 y7 y8) (waveletref29_Size.l1 (k + 1) y0 y1 y2 y3 y4 y5 y6 y7 y8))
  | 0 => ⟨fun _ _ _ _ _ _ _ _ _ _ r h => by simp [waveletref29_Size.l0] at h, fun _ _ _ _ _ _ _ _ _ r h => by simp [waveletref29_Size.l1] at h⟩
  | k + 1 => by
    obtain ⟨ih0, ih1⟩ := waveletref29_Size.mono_l k
    refine ⟨?_, ?_⟩
    · intro y0 y1 y2 y3 y4 y5 y6 y7 y8 y9
      unfold waveletref29_Size.l0
      repeat' first
      | (with_reducible exact ih0 _ _ _ _ _ _ _ _ _ _)
      | (with_reducible exact ih1 _ _ _ _ _ _ _ _ _)
      | (with_reducible exact waveletref23_Header.mono _ _ _ _ _ _ _ _)
      | (with_reducible exact waveletref29_put.mono _ _ _ _)
      | (with_reducible exact LeO.refl _)
      | (with_reducible exact LeO.none _)
      | (with_reducible refine LeO.ite ?_ ?_)
      | (with_reducible refine LeO.bind ?_ (fun _ => ?_))
      | exact ih0 _ _ _ _ _ _ _ _ _ _
      | exact ih1 _ _ _ _ _ _ _ _ _
      | exact waveletref23_Header.mono _ _ _ _ _ _ _ _
      | exact waveletref29_put.mono _ _ _ _
      | exact LeO.none _
      | refine LeO.ite ?_ ?_
      | refine LeO.bind ?_ (fun _ => ?_)
    · intro y0 y1 y2 y3 y4 y5 y6 y7 y8
      unfold waveletref29_Size.l1
      repeat' first
      | (with_reducible exact ih0 _ _ _ _ _ _ _ _ _ _)
      | (with_reducible exact ih1 _ _ _ _ _ _ _ _ _)
      | (with_reducible exact waveletref23_Header.mono _ _ _ _ _ _ _ _)
      | (with_reducible exact waveletref29_put.mono _ _ _ _)
      | (with_reducible exact LeO.refl _)
      | (with_reducible exact LeO.none _)
      | (with_reducible refine LeO.ite ?_ ?_)
      | (with_reducible refine LeO.bind ?_ (fun _ => ?_))
      | exact ih0 _ _ _ _ _ _ _ _ _ _
      | exact ih1 _ _ _ _ _ _ _ _ _
      | exact waveletref23_Header.mono _ _ _ _ _ _ _ _
      | exact waveletref29_put.mono _ _ _ _
      | exact LeO.none _
      | refine LeO.ite ?_ ?_
      | refine LeO.bind ?_ (fun _ => ?_)
theorem waveletref29_Size.mono : ∀ a0 a1 a2 a3 a4 a5 a6 k, LeO (waveletref29_Size.f k a0 a1 a2 a3 a4 a5 a6) (waveletref29_Size.f (k + 1) a0 a1 a2 a3 a4 a5 a6) := by
  intro a0 a1 a2 a3 a4 a5 a6 k
  obtain ⟨ih0, ih1⟩ := waveletref29_Size.mono_l k
  unfold waveletref29_Size.f
  repeat' first
      | (with_reducible exact ih0 _ _ _ _ _ _ _ _ _ _)
      | (with_reducible exact ih1 _ _ _ _ _ _ _ _ _)
      | (with_reducible exact waveletref23_Header.mono _ _ _ _ _ _ _ _)
      | (with_reducible exact waveletref29_put.mono _ _ _ _)
      | (with_reducible exact LeO.refl _)
      | (with_reducible exact LeO.none _)
      | (with_reducible refine LeO.ite ?_ ?_)
      | (with_reducible refine LeO.bind ?_ (fun _ => ?_))
      | exact ih0 _ _ _ _ _ _ _ _ _ _
      | exact ih1 _ _ _ _ _ _ _ _ _
      | exact waveletref23_Header.mono _ _ _ _ _ _ _ _
      | exact waveletref29_put.mono _ _ _ _
      | exact LeO.none _
      | refine LeO.ite ?_ ?_
      | refine LeO.bind ?_ (fun _ => ?_)
def waveletref29_Size.T18 : Bool × List (List Nat × List Nat) := (true, [([], []), ([], []), ([0, 1], [0, 1]), ([], []), ([3], [3]), ([2, 4, 2], [2, 4]), ([], []), ([6], [6]), ([5, 7, 5], [5, 7]), ([8, 8, 0, 1, 2, 3, 4, 5, 6, 7, 8], [0, 8])])
def waveletref29_Size.B18 : List Nat := [0, 0, 3, 0, 8, 31, 0, 64, 255, 511]
theorem waveletref29_Size.tab18 : rtab .any (opsOf Try.f38 18) = waveletref29_Size.T18 := by kernel_rfl
theorem waveletref29_Size.bits18 : waitsOk waveletref29_Size.T18.2 waveletref29_Size.B18 = true := by kernel_rfl
set_option maxHeartbeats 8000000 in
set_option maxRecDepth 100000 in
theorem waveletref29_Size.calls (k : Nat) (a0_0 : Int) (a0_1 : Int) (a0_2 : Int) (a0_3 : Int) (a0_4 : Int) (a0_5 : Int) (A0_6 : Option Addr) (c0_6 : Nat) (l0_6 : List (S97)) (r1 : Int) (r2 : List Int) (r3 : Int) (w : World) (hr0_6 : Kd.C k97 w A0_6 l0_6.length l0_6) (hc0_6 : l0_6.length ≤ c0_6) (h : waveletref29_Size.f k a0_0 a0_1 a0_2 a0_3 a0_4 a0_5 l0_6 = some (r1, r2, r3)) :
    Calls Try.prog 38 #[.agg #[.int .i64 a0_0, .int .i64 a0_1, .int .i64 a0_2, .int .i64 a0_3, .int .i64 a0_4, .int .i64 a0_5, .slice A0_6 l0_6.length c0_6]] w fun e w' => ∃ v1_ : Value, e = .returned (.tuple #[.agg #[.int .i64 r1, v1_], .int .i64 r3]) ∧ Kd.R (Kd.int .u8) 5 w' w.heap.size (fun _ => True) v1_ r2 ∧ Below w.heap.size w w' := by
  have hu67 := Try.underlying67
  have hu26 := Try.underlying26
  have hu97 := Try.underlying97
  have HR0_6 := Aside0.mk hr0_6
  have HC0_6 := Aside0.mk hc0_6
  clear hr0_6 hc0_6
  have HB := Aside0.mk (Below.refl w.heap.size w)
  have H : ((waveletref23_Header.f k a0_0 a0_1 a0_2 a0_3 a0_4 a0_5 l0_6).bind fun t868 => (if t868 = 0 then (waveletref29_Size.l0 k (([] : List Int)) (([a0_0, a0_1, a0_2, a0_3, a0_4, a0_5] : List Int)) 0 a0_0 a0_1 a0_2 a0_3 a0_4 a0_5 l0_6) else (some (0, ([] : List Int), t868)))) = some (r1, r2, r3) := h
  clear h
  replace H := Option.bind_eq_some_iff.mp H
  obtain ⟨t868, A20, H⟩ := H
  replace H : (if t868 = 0 then (waveletref29_Size.l0 k (([] : List Int)) (([a0_0, a0_1, a0_2, a0_3, a0_4, a0_5] : List Int)) 0 a0_0 a0_1 a0_2 a0_3 a0_4 a0_5 l0_6) else (some (0, ([] : List Int), t868))) = some (r1, r2, r3) := H
  have A2 := Aside0.mk A20
  clear A20
  by_cases c3 : t868 = 0
  · rw [if_pos c3] at H
    have c3b0 : (t868 == 0) = true := beq_iff_eq.mpr c3
    have c3b1 : (t868 != 0) = false := bne_eq_false_iff_eq.mpr c3
    clear c3
    obtain ⟨y869, hy869⟩ : ∃ y_ : List Int, y_ = (([] : List Int)) := ⟨_, rfl⟩
    replace H : (waveletref29_Size.l0 k y869 (([a0_0, a0_1, a0_2, a0_3, a0_4, a0_5] : List Int)) 0 a0_0 a0_1 a0_2 a0_3 a0_4 a0_5 l0_6) = some (r1, r2, r3) := by first | (rw [hy869]; with_reducible exact H) | (have H2_ := (Option.bind_some _ _).symm.trans H; rw [hy869]; with_reducible exact H2_) | (have H2_ := (Option.bind_some _ _).symm.trans H; with_reducible exact H2_) | with_reducible exact H | (rw [hy869]; exact H) | exact H
    have Ny869 := Aside0.mk hy869
    clear hy869
    obtain ⟨y872, hy872⟩ : ∃ y_ : List Int, y_ = (([a0_0, a0_1, a0_2, a0_3, a0_4, a0_5] : List Int)) := ⟨_, rfl⟩
    replace H : (waveletref29_Size.l0 k y869 y872 0 a0_0 a0_1 a0_2 a0_3 a0_4 a0_5 l0_6) = some (r1, r2, r3) := by first | (rw [hy872]; with_reducible exact H) | (have H2_ := (Option.bind_some _ _).symm.trans H; rw [hy872]; with_reducible exact H2_) | (have H2_ := (Option.bind_some _ _).symm.trans H; with_reducible exact H2_) | with_reducible exact H | (rw [hy872]; exact H) | exact H
    have Ny872 := Aside0.mk hy872
    clear hy872
    have H' := Aside0.mk H
    clear H
    go_enter Try.func38, Try.ntmps38
    go_wp2_with (first | ((with_reducible refine gate_dst (N := 1) rfl ?_); refine box_event ?hg (N := 1) ?hd (cs := #[.int .i64 a0_0, .int .i64 a0_1, .int .i64 a0_2, .int .i64 a0_3, .int .i64 a0_4, .int .i64 a0_5, .slice A0_6 l0_6.length c0_6]) (t := 67) ?hr ?_; (case hd => rfl); (case hg => rfl); (case hr => first | (go_simp; done) | (go_simp; rfl)); intro gb866 hg w4 hbox hb; have BK866 := Aside0.mk (hbox); have GW866 := Aside0.mk ((by rw [hg]; exact (below_size (upB HB.out)) : w.heap.size ≤ gb866)); have GE866 := Aside0.mk ((by rw [hg]; exact (below_size (upB HB.out)) : w.heap.size ≤ gb866)); replace HB := Aside0.mk (below_step (upB HB.out) hb); clear hb hbox hg) | ((with_reducible refine gate_dst (N := 2) rfl ?_); refine box_event ?hg (N := 2) ?hd (cs := #[.int .i64 0, .slice none 0 0]) (t := 26) ?hr ?_; (case hd => rfl); (case hg => rfl); (case hr => first | (go_simp; done) | (go_simp; rfl)); intro gb867 hg w5 hbox hb; have BK867 := Aside0.mk (hbox); have GW867 := Aside0.mk ((by rw [hg]; exact (below_size (upB HB.out)) : w.heap.size ≤ gb867)); have GE867 := Aside0.mk ((by rw [hg]; exact (below_size (upB HB.out)) : w.heap.size ≤ gb867)); replace HB := Aside0.mk (below_step (upB HB.out) hb); have NB866_867 := Aside0.mk ((by rw [hg]; exact Nat.ne_of_lt (blk_lt (upK BK866.out)) : gb866 ≠ gb867)); have NB867_866 := Aside0.mk ((by rw [hg]; exact Nat.ne_of_gt (blk_lt (upK BK866.out)) : gb867 ≠ gb866)); replace BK866 := Aside0.mk (blk_below (g := gb866) (o := .cells #[.int .i64 a0_0, .int .i64 a0_1, .int .i64 a0_2, .int .i64 a0_3, .int .i64 a0_4, .int .i64 a0_5, .slice A0_6 l0_6.length c0_6] 67 (0, 0)) (upK BK866.out) hb); clear hb hbox hg; have hnb6 := NB866_867.out; have hnc6 := NB867_866.out; have hcz7_0 : w5.cell? ⟨gb866, 0, none⟩ = some (.int .i64 a0_0) := bc BK866 0; have hcz7_1 : w5.cell? ⟨gb866, 1, none⟩ = some (.int .i64 a0_1) := bc BK866 1; have hcz7_2 : w5.cell? ⟨gb866, 2, none⟩ = some (.int .i64 a0_2) := bc BK866 2; have hcz7_3 : w5.cell? ⟨gb866, 3, none⟩ = some (.int .i64 a0_3) := bc BK866 3; have hcz7_4 : w5.cell? ⟨gb866, 4, none⟩ = some (.int .i64 a0_4) := bc BK866 4; have hcz7_5 : w5.cell? ⟨gb866, 5, none⟩ = some (.int .i64 a0_5) := bc BK866 5; have hcz7_6 : w5.cell? ⟨gb866, 6, none⟩ = some (.slice A0_6 l0_6.length c0_6) := bc BK866 6; have hfz7_0 := blk_frozen BK866.out 0; have hfz7_1 := blk_frozen BK866.out 1; have hfz7_2 := blk_frozen BK866.out 2; have hfz7_3 := blk_frozen BK866.out 3; have hfz7_4 := blk_frozen BK866.out 4; have hfz7_5 := blk_frozen BK866.out 5; have hfz7_6 := blk_frozen BK866.out 6) | ((with_reducible refine gate_callee (f := 61) rfl ?_); refine goesL_ (some 12) rfl rfl Try.func61 (by kernel_rfl) rfl #[.agg #[.int .i64 a0_0, .int .i64 a0_1, .int .i64 a0_2, .int .i64 a0_3, .int .i64 a0_4, .int .i64 a0_5, .slice A0_6 l0_6.length c0_6]] rfl upL ?_; (with_reducible refine (waveletref23_Header.calls k a0_0 a0_1 a0_2 a0_3 a0_4 a0_5 _ _ l0_6 t868 _ ?side1 ?side2 A2.out).mono ?_); (case side1 => repeat (first | exact (Kd.C_below HR0_6.out HB.out) | (with_reducible refine Kd.C_alloc ?_ _) | (with_reducible refine Kd.C_drewN ?_ _) | (with_reducible refine Kd.C_drew ?_))); (case side2 => exact HC0_6.out); rintro e w8 ⟨rfl, hb⟩; refine ⟨_, rfl, ?_⟩; replace BK866 := Aside0.mk (blk_below (g := gb866) (o := .cells #[.int .i64 a0_0, .int .i64 a0_1, .int .i64 a0_2, .int .i64 a0_3, .int .i64 a0_4, .int .i64 a0_5, .slice A0_6 l0_6.length c0_6] 67 (0, 0)) (upK BK866.out) hb); replace BK867 := Aside0.mk (blk_below (g := gb867) (o := .cells #[.int .i64 0, .slice none 0 0] 26 (0, 0)) (upK BK867.out) hb); replace HB := Aside0.mk (below_step (upB HB.out) hb); (try clear hb; try clear hb2; try clear hk; try clear hi)) | ((with_reducible refine gate_dst (N := 17) rfl ?_); refine Kd.R_lit (Kd.int .u8) _ 5 ?hg (N := 17) ?hd (xs := ([] : List Int)) (inner := []) (ok := fun _ => True) (okp := fun _ => True) ?hr ?hp (fun _ hk => hk) trivial (Below.refl _ _) (Nat.le_refl _) (by simp) ?_; (case hd => rfl); (case hg => rfl); (case hr => first | (go_simp; done) | (go_simp; rfl)); (case hp => exact (Reps.none _ _)); intro v870 w9 ho10 hb hg_ hnew_; clear hg_ hnew_; (first | rw [← Ny869.out] at ho10 | (simp only [Int.reduceToNat] at ho10; rw [← Ny869.out] at ho10)); have HO871 := Aside0.mk (Kd.R_lower ho10 (below_size (upB HB.out))); replace BK866 := Aside0.mk (blk_below (g := gb866) (o := .cells #[.int .i64 a0_0, .int .i64 a0_1, .int .i64 a0_2, .int .i64 a0_3, .int .i64 a0_4, .int .i64 a0_5, .slice A0_6 l0_6.length c0_6] 67 (0, 0)) (upK BK866.out) hb); replace BK867 := Aside0.mk (blk_below (g := gb867) (o := .cells #[.int .i64 0, .slice none 0 0] 26 (0, 0)) (upK BK867.out) hb); replace HB := Aside0.mk (below_step (upB HB.out) hb); clear hb ho10; have hcz11_0 : w9.cell? ⟨gb866, 0, none⟩ = some (.int .i64 a0_0) := bc BK866 0; have hcz11_1 : w9.cell? ⟨gb866, 1, none⟩ = some (.int .i64 a0_1) := bc BK866 1; have hcz11_2 : w9.cell? ⟨gb866, 2, none⟩ = some (.int .i64 a0_2) := bc BK866 2; have hcz11_3 : w9.cell? ⟨gb866, 3, none⟩ = some (.int .i64 a0_3) := bc BK866 3; have hcz11_4 : w9.cell? ⟨gb866, 4, none⟩ = some (.int .i64 a0_4) := bc BK866 4; have hcz11_5 : w9.cell? ⟨gb866, 5, none⟩ = some (.int .i64 a0_5) := bc BK866 5; have hcz11_6 : w9.cell? ⟨gb866, 6, none⟩ = some (.slice A0_6 l0_6.length c0_6) := bc BK866 6; have hfz11_0 := blk_frozen BK866.out 0; have hfz11_1 := blk_frozen BK866.out 1; have hfz11_2 := blk_frozen BK866.out 2; have hfz11_3 := blk_frozen BK866.out 3; have hfz11_4 := blk_frozen BK866.out 4; have hfz11_5 := blk_frozen BK866.out 5; have hfz11_6 := blk_frozen BK866.out 6) | ((with_reducible refine gate_dst (N := 34) rfl ?_); refine Kd.R_lit (Kd.int .i64) _ 3 ?hg (N := 34) ?hd (xs := ([a0_0, a0_1, a0_2, a0_3, a0_4, a0_5] : List Int)) (inner := [.int .i64 a0_0, .int .i64 a0_1, .int .i64 a0_2, .int .i64 a0_3, .int .i64 a0_4, .int .i64 a0_5]) (ok := fun _ => True) (okp := fun _ => True) ?hr ?hp (fun _ hk => hk) trivial (Below.refl _ _) (Nat.le_refl _) (by simp) ?_; (case hd => rfl); (case hg => rfl); (case hr => first | (go_simp; done) | (go_simp; rfl)); (case hp => exact (Reps.one (show Kd.M (Kd.int .i64) _ _ _ a0_0 [.int .i64 a0_0] from rfl) (Reps.one (show Kd.M (Kd.int .i64) _ _ _ a0_1 [.int .i64 a0_1] from rfl) (Reps.one (show Kd.M (Kd.int .i64) _ _ _ a0_2 [.int .i64 a0_2] from rfl) (Reps.one (show Kd.M (Kd.int .i64) _ _ _ a0_3 [.int .i64 a0_3] from rfl) (Reps.one (show Kd.M (Kd.int .i64) _ _ _ a0_4 [.int .i64 a0_4] from rfl) (Reps.one (show Kd.M (Kd.int .i64) _ _ _ a0_5 [.int .i64 a0_5] from rfl) (Reps.none _ _)))))))); intro v873 w12 ho13 hb hg_ hnew_; clear hg_ hnew_; (first | rw [← Ny872.out] at ho13 | (simp only [Int.reduceToNat] at ho13; rw [← Ny872.out] at ho13)); replace HO871 := Aside0.mk (Kd.R_below (upR HO871.out) hb); have HO874 := Aside0.mk (Kd.R_lower ho13 (below_size (upB HB.out))); replace BK866 := Aside0.mk (blk_below (g := gb866) (o := .cells #[.int .i64 a0_0, .int .i64 a0_1, .int .i64 a0_2, .int .i64 a0_3, .int .i64 a0_4, .int .i64 a0_5, .slice A0_6 l0_6.length c0_6] 67 (0, 0)) (upK BK866.out) hb); replace BK867 := Aside0.mk (blk_below (g := gb867) (o := .cells #[.int .i64 0, .slice none 0 0] 26 (0, 0)) (upK BK867.out) hb); replace HB := Aside0.mk (below_step (upB HB.out) hb); clear hb ho13))
    go_loopg [5, 7] k (fun kq v5 v7 w' => ∃ (x5_1 : List Int) (x7_1 : Int), v7 = .int .i64 x7_1 ∧ Aside0 (waveletref29_Size.l0 kq x5_1 y872 x7_1 a0_0 a0_1 a0_2 a0_3 a0_4 a0_5 l0_6 = some (r1, r2, r3)) ∧ Aside0 (kq ≤ k) ∧ Aside0 (Kd.R (Kd.int .u8) 5 w' w.heap.size (fun _ => True) v5 x5_1) ∧ Aside0 (Kd.R (Kd.int .i64) 3 w' w.heap.size (fun _ => True) v873 y872) ∧ Aside0 (w'.heap[gb866]? = some (.cells #[.int .i64 a0_0, .int .i64 a0_1, .int .i64 a0_2, .int .i64 a0_3, .int .i64 a0_4, .int .i64 a0_5, (.slice A0_6 l0_6.length c0_6)] 67 (0, 0))) ∧ Aside0 (w'.heap[gb867]? = some (.cells #[.int .i64 0, (.slice none 0 0)] 26 (0, 0))) ∧ Aside0 (Below w.heap.size w w'))
    case atStart => exact ⟨(y869), (0), (by first | rfl | (simp; done) | (simp [*]; done)), H', ⟨Nat.le_refl _⟩, ⟨by (with_reducible repeat (first | apply Kd.R_alloc | apply Kd.R_drewN | apply Kd.R_drew)); exact HO871.out⟩, ⟨by (with_reducible repeat (first | apply Kd.R_alloc | apply Kd.R_drewN | apply Kd.R_drew)); exact HO874.out⟩, ⟨by (with_reducible repeat (first | refine blk_drewN ?_ _ | refine blk_drew ?_ | refine blk_alloc ?_ _)); exact BK866.out⟩, ⟨by (with_reducible repeat (first | refine blk_drewN ?_ _ | refine blk_drew ?_ | refine blk_alloc ?_ _)); exact BK867.out⟩, ⟨by repeat (first | (with_reducible first | exact HB.out | apply below_alloc | apply pw_below_drewN | apply below_drew1 | refine below_set ?_ GE866.out | refine below_set ?_ GE867.out) | exact HB.out)⟩⟩
    case round =>
      clear H'
      try clear p2
      try clear c3
      try clear c3b0
      try clear c3b1
      try clear c6
      try clear hcz11_0
      try clear hcz11_1
      try clear hcz11_2
      try clear hcz11_3
      try clear hcz11_4
      try clear hcz11_5
      try clear hcz11_6
      try clear hcz7_0
      try clear hcz7_1
      try clear hcz7_2
      try clear hcz7_3
      try clear hcz7_4
      try clear hcz7_5
      try clear hcz7_6
      try clear hfz11_0
      try clear hfz11_1
      try clear hfz11_2
      try clear hfz11_3
      try clear hfz11_4
      try clear hfz11_5
      try clear hfz11_6
      try clear hfz7_0
      try clear hfz7_1
      try clear hfz7_2
      try clear hfz7_3
      try clear hfz7_4
      try clear hfz7_5
      try clear hfz7_6
      obtain ⟨x5_1, x7_1, rfl, HA, HK1, HO_5, HO_6, BK866, BK867, HB⟩ := hrel
      cases gk with
      | zero => exact absurd HA.out (by simp [waveletref29_Size.l0])
      | succ k1 =>
        have H := HA.out
        clear HA
        simp only [waveletref29_Size.l0] at H
        by_cases c14 : x7_1 < (y872.length : Int)
        · rw [if_pos c14] at H
          have c14b0 : decide (x7_1 < (y872.length : Int)) = true := decide_eq_true c14
          clear c14
          by_cases c15 : 0 ≤ x7_1
          · rw [if_pos c15] at H
            have c15b0 : decide (0 ≤ x7_1) = true := decide_eq_true c15
            clear c15
            replace H := Option.bind_eq_some_iff.mp H
            obtain ⟨t876, A160, H⟩ := H
            replace H : (waveletref29_Size.l0 k1 t876 y872 (wrap64 (x7_1 + 1)) a0_0 a0_1 a0_2 a0_3 a0_4 a0_5 l0_6) = some (r1, r2, r3) := H
            have A16 := Aside0.mk A160
            clear A160
            have H' := Aside0.mk H
            clear H
            obtain ⟨Ao17, co17, eo17⟩ := Kd.R_slice HO_6.out
            subst eo17
            have p875 : 0 ≤ (x7_1 : Int) := of_decide_eq_true (by first | (with_reducible assumption) | assumption)
            have q875 : x7_1 < (y872.length : Int) := of_decide_eq_true (by first | (with_reducible assumption) | assumption)
            obtain ⟨ad875, e875, hx875_0⟩ := Kd.at_int (Kd.R_reads' HO_6.out).2.2 x7_1 p875 q875
            cases e875
            replace p875 := eq_true p875
            replace q875 := eq_true q875
            obtain ⟨Ao18, co18, eo18⟩ := Kd.R_slice HO_5.out
            subst eo18
            go_wp2_with (first | ((with_reducible refine gate_callee (f := 46) rfl ?_); refine goesL_ (some 46) rfl rfl Try.func46 (by kernel_rfl) rfl #[.slice Ao18 x5_1.length co18, .int .i64 (rd y872 x7_1), .int .i64 2] rfl upL ?_; (with_reducible refine (waveletref29_put.calls k1 (fun k_ => some k_ = (.slice Ao18 x5_1.length co18 : Value).ownBlock) (.slice Ao18 x5_1.length co18) x5_1 (rd y872 x7_1) 2 t876 w _ ?side1 ?side2 A16.out).mono ?_); (case side1 => repeat (first | (with_reducible first | exact HB.out | apply below_alloc | apply pw_below_drewN | apply below_drew1 | refine below_set ?_ GE866.out | refine below_set ?_ GE867.out) | exact HB.out)); (case side2 => exact Kd.R_tight rfl HO_5.out); rintro e w19 ⟨v877, rfl, ho0, hb, hkp⟩; refine ⟨_, rfl, ?_⟩; have n0_ := Aside0.mk (Kd.R_mono (ok' := fun k_ => True) (Kd.R_keptB ((Kd.R_apart' HO_6.out (Kd.R_typed HO_5.out) (by decide))) hkp (fun k_ hk_ hs_ => (hk_.2) hs_)) (fun k_ hk_ => trivial)); have n1_ := Aside0.mk (blk_kept (upK BK866.out) hkp (fun hs_ => (fun e_ => (Kd.R_ne HO_5.out BK866.out (by decide)) e_) hs_)); have n2_ := Aside0.mk (blk_kept (upK BK867.out) hkp (fun hs_ => (fun e_ => (Kd.R_ne HO_5.out BK867.out (by decide)) e_) hs_)); have n3_ := Aside0.mk (Kd.R_mono (ok' := fun k_ => True) ho0 (fun k_ hk_ => trivial)); have n4_ := Aside0.mk (hb); clear HO_6 BK866 BK867 HB HO_5; have HO_6 := n0_; have BK866 := n1_; have BK867 := n2_; have HO878 := n3_; have HB := n4_; clear n0_ n1_ n2_ n3_ n4_; (try clear hb; try clear hkp; try clear ho0)))
            go_roundg k1
            case measure => have := HK1.out; omega
            case rel => exact ⟨(t876), (wrap64 (x7_1 + 1)), (by first | rfl | (simp; done) | (simp [*]; done)), H', ⟨by have := HK1.out; omega⟩, ⟨by (with_reducible repeat (first | apply Kd.R_alloc | apply Kd.R_drewN | apply Kd.R_drew)); exact HO878.out⟩, ⟨by (with_reducible repeat (first | apply Kd.R_alloc | apply Kd.R_drewN | apply Kd.R_drew)); exact HO_6.out⟩, ⟨by (with_reducible repeat (first | refine blk_drewN ?_ _ | refine blk_drew ?_ | refine blk_alloc ?_ _)); exact BK866.out⟩, ⟨by (with_reducible repeat (first | refine blk_drewN ?_ _ | refine blk_drew ?_ | refine blk_alloc ?_ _)); exact BK867.out⟩, ⟨by repeat (first | (with_reducible first | exact HB.out | apply below_alloc | apply pw_below_drewN | apply below_drew1 | refine below_set ?_ GE866.out | refine below_set ?_ GE867.out) | exact HB.out)⟩⟩
          · rw [if_neg c15] at H
            exact absurd H (by simp)
        · rw [if_neg c14] at H
          have c14b0 : decide (x7_1 < (y872.length : Int)) = false := decide_eq_false c14
          clear c14
          replace H := Option.bind_eq_some_iff.mp H
          obtain ⟨t879, A200, H⟩ := H
          replace H : (waveletref29_Size.l1 k1 t879 0 a0_0 a0_1 a0_2 a0_3 a0_4 a0_5 l0_6) = some (r1, r2, r3) := H
          have A20 := Aside0.mk A200
          clear A200
          have H' := Aside0.mk H
          clear H
          obtain ⟨Ao21, co21, eo21⟩ := Kd.R_slice HO_6.out
          subst eo21
          have hnb22 := NB866_867.out
          have hnc22 := NB867_866.out
          have hcz23_0 : wr.cell? ⟨gb866, 0, none⟩ = some (.int .i64 a0_0) := bc BK866 0
          have hcz23_1 : wr.cell? ⟨gb866, 1, none⟩ = some (.int .i64 a0_1) := bc BK866 1
          have hcz23_2 : wr.cell? ⟨gb866, 2, none⟩ = some (.int .i64 a0_2) := bc BK866 2
          have hcz23_3 : wr.cell? ⟨gb866, 3, none⟩ = some (.int .i64 a0_3) := bc BK866 3
          have hcz23_4 : wr.cell? ⟨gb866, 4, none⟩ = some (.int .i64 a0_4) := bc BK866 4
          have hcz23_5 : wr.cell? ⟨gb866, 5, none⟩ = some (.int .i64 a0_5) := bc BK866 5
          have hcz23_6 : wr.cell? ⟨gb866, 6, none⟩ = some (.slice A0_6 l0_6.length c0_6) := bc BK866 6
          have hfz23_0 := blk_frozen BK866.out 0
          have hfz23_1 := blk_frozen BK866.out 1
          have hfz23_2 := blk_frozen BK866.out 2
          have hfz23_3 := blk_frozen BK866.out 3
          have hfz23_4 := blk_frozen BK866.out 4
          have hfz23_5 := blk_frozen BK866.out 5
          have hfz23_6 := blk_frozen BK866.out 6
          obtain ⟨Ao24, co24, eo24⟩ := Kd.R_slice HO_5.out
          subst eo24
          go_wp2_with (first | ((with_reducible refine gate_callee (f := 46) rfl ?_); refine goesL_ (some 51) rfl rfl Try.func46 (by kernel_rfl) rfl #[.slice Ao24 x5_1.length co24, .int .i64 (l0_6.length : Int), .int .i64 1] rfl upL ?_; (with_reducible refine (waveletref29_put.calls k1 (fun k_ => some k_ = (.slice Ao24 x5_1.length co24 : Value).ownBlock) (.slice Ao24 x5_1.length co24) x5_1 (l0_6.length : Int) 1 t879 w _ ?side1 ?side2 A20.out).mono ?_); (case side1 => repeat (first | (with_reducible first | exact HB.out | apply below_alloc | apply pw_below_drewN | apply below_drew1 | refine below_set ?_ GE866.out | refine below_set ?_ GE867.out) | exact HB.out)); (case side2 => exact Kd.R_tight rfl HO_5.out); rintro e w25 ⟨v880, rfl, ho0, hb, hkp⟩; refine ⟨_, rfl, ?_⟩; have n0_ := Aside0.mk (Kd.R_mono (ok' := fun k_ => True) (Kd.R_keptB ((Kd.R_apart' HO_6.out (Kd.R_typed HO_5.out) (by decide))) hkp (fun k_ hk_ hs_ => (hk_.2) hs_)) (fun k_ hk_ => trivial)); have n1_ := Aside0.mk (blk_kept (upK BK866.out) hkp (fun hs_ => (fun e_ => (Kd.R_ne HO_5.out BK866.out (by decide)) e_) hs_)); have n2_ := Aside0.mk (blk_kept (upK BK867.out) hkp (fun hs_ => (fun e_ => (Kd.R_ne HO_5.out BK867.out (by decide)) e_) hs_)); have n3_ := Aside0.mk (Kd.R_mono (ok' := fun k_ => True) ho0 (fun k_ hk_ => trivial)); have n4_ := Aside0.mk (hb); clear HO_6 BK866 BK867 HB HO_5; have HO_6 := n0_; have BK866 := n1_; have BK867 := n2_; have HO881 := n3_; have HB := n4_; clear n0_ n1_ n2_ n3_ n4_; (try clear hb; try clear hkp; try clear ho0)))
          go_loopg [5, 8] k1 (fun kq v5 v8 w' => ∃ (x5_2 : List Int) (x8_2 : Int), v8 = .int .i64 x8_2 ∧ Aside0 (waveletref29_Size.l1 kq x5_2 x8_2 a0_0 a0_1 a0_2 a0_3 a0_4 a0_5 l0_6 = some (r1, r2, r3)) ∧ Aside0 (kq ≤ k1) ∧ Aside0 (Kd.R (Kd.int .u8) 5 w' w.heap.size (fun _ => True) v5 x5_2) ∧ Aside0 (w'.heap[gb866]? = some (.cells #[.int .i64 a0_0, .int .i64 a0_1, .int .i64 a0_2, .int .i64 a0_3, .int .i64 a0_4, .int .i64 a0_5, (.slice A0_6 l0_6.length c0_6)] 67 (0, 0))) ∧ Aside0 (w'.heap[gb867]? = some (.cells #[.int .i64 0, (.slice none 0 0)] 26 (0, 0))) ∧ Aside0 (Below w.heap.size w w'))
          case atStart => exact ⟨(t879), (0), (by first | rfl | (simp; done) | (simp [*]; done)), H', ⟨Nat.le_refl _⟩, ⟨by (with_reducible repeat (first | apply Kd.R_alloc | apply Kd.R_drewN | apply Kd.R_drew)); exact HO881.out⟩, ⟨by (with_reducible repeat (first | refine blk_drewN ?_ _ | refine blk_drew ?_ | refine blk_alloc ?_ _)); exact BK866.out⟩, ⟨by (with_reducible repeat (first | refine blk_drewN ?_ _ | refine blk_drew ?_ | refine blk_alloc ?_ _)); exact BK867.out⟩, ⟨by repeat (first | (with_reducible first | exact HB.out | apply below_alloc | apply pw_below_drewN | apply below_drew1 | refine below_set ?_ GE866.out | refine below_set ?_ GE867.out) | exact HB.out)⟩⟩
          case round =>
            clear H'
            try clear c1
            try clear c2
            try clear p2
            try clear c3
            try clear c3b0
            try clear c3b1
            try clear c4
            try clear c6
            try clear p6
            try clear p8
            try clear q8
            try clear hx8
            try clear c14
            try clear c14b0
            try clear c15
            try clear c15b0
            try clear c22
            try clear hcz11_0
            try clear hcz11_1
            try clear hcz11_2
            try clear hcz11_3
            try clear hcz11_4
            try clear hcz11_5
            try clear hcz11_6
            try clear hcz23_0
            try clear hcz23_1
            try clear hcz23_2
            try clear hcz23_3
            try clear hcz23_4
            try clear hcz23_5
            try clear hcz23_6
            try clear hcz7_0
            try clear hcz7_1
            try clear hcz7_2
            try clear hcz7_3
            try clear hcz7_4
            try clear hcz7_5
            try clear hcz7_6
            try clear hfz11_0
            try clear hfz11_1
            try clear hfz11_2
            try clear hfz11_3
            try clear hfz11_4
            try clear hfz11_5
            try clear hfz11_6
            try clear hfz23_0
            try clear hfz23_1
            try clear hfz23_2
            try clear hfz23_3
            try clear hfz23_4
            try clear hfz23_5
            try clear hfz23_6
            try clear hfz7_0
            try clear hfz7_1
            try clear hfz7_2
            try clear hfz7_3
            try clear hfz7_4
            try clear hfz7_5
            try clear hfz7_6
            try clear hx875_0
            try clear p2
            try clear p875
            try clear q875
            obtain ⟨x5_2, x8_2, rfl, HA, HK2, HO_5, BK866, BK867, HB⟩ := hrel
            cases gk with
            | zero => exact absurd HA.out (by simp [waveletref29_Size.l1])
            | succ k2 =>
              have H := HA.out
              clear HA
              simp only [waveletref29_Size.l1] at H
              by_cases c26 : x8_2 < (l0_6.length : Int)
              · rw [if_pos c26] at H
                have c26b0 : decide (x8_2 < (l0_6.length : Int)) = true := decide_eq_true c26
                clear c26
                by_cases c27 : 0 ≤ x8_2
                · rw [if_pos c27] at H
                  have c27b0 : decide (0 ≤ x8_2) = true := decide_eq_true c27
                  clear c27
                  obtain ⟨bq28, hbq28⟩ : ∃ b_ : Bool, b_ = ((rd_T97 l0_6 x8_2).f1) := ⟨_, rfl⟩
                  replace H : (if bq28 = true then ((waveletref29_put.f k2 x5_2 (wrap64 ((wrap64 (((rd_T97 l0_6 x8_2).f0) - 1)) + 128)) 1).bind fun t884 => ((waveletref29_put.f k2 t884 ((rd_T97 l0_6 x8_2).f2) 1).bind fun t887 => ((waveletref29_put.f k2 t887 ((rd_T97 l0_6 x8_2).f3) 1).bind fun t890 => (waveletref29_Size.l1 k2 t890 (wrap64 (x8_2 + 1)) a0_0 a0_1 a0_2 a0_3 a0_4 a0_5 l0_6)))) else ((waveletref29_put.f k2 x5_2 (wrap64 (((rd_T97 l0_6 x8_2).f0) - 1)) 1).bind fun t893 => ((waveletref29_put.f k2 t893 ((rd_T97 l0_6 x8_2).f2) 1).bind fun t896 => ((waveletref29_put.f k2 t896 ((rd_T97 l0_6 x8_2).f3) 1).bind fun t899 => (waveletref29_Size.l1 k2 t899 (wrap64 (x8_2 + 1)) a0_0 a0_1 a0_2 a0_3 a0_4 a0_5 l0_6))))) = some (r1, r2, r3) := by rw [← hbq28] at H; exact H
                  have Nbq28 := Aside0.mk hbq28
                  clear hbq28
                  by_cases c29 : bq28 = true
                  · subst c29
                    have H1 : ((waveletref29_put.f k2 x5_2 (wrap64 ((wrap64 (((rd_T97 l0_6 x8_2).f0) - 1)) + 128)) 1).bind fun t884 => ((waveletref29_put.f k2 t884 ((rd_T97 l0_6 x8_2).f2) 1).bind fun t887 => ((waveletref29_put.f k2 t887 ((rd_T97 l0_6 x8_2).f3) 1).bind fun t890 => (waveletref29_Size.l1 k2 t890 (wrap64 (x8_2 + 1)) a0_0 a0_1 a0_2 a0_3 a0_4 a0_5 l0_6)))) = some (r1, r2, r3) := by rw [if_pos rfl] at H; exact H
                    clear H
                    have H := H1
                    clear H1
                    replace H := Option.bind_eq_some_iff.mp H
                    obtain ⟨t884, A300, H⟩ := H
                    replace H : ((waveletref29_put.f k2 t884 ((rd_T97 l0_6 x8_2).f2) 1).bind fun t887 => ((waveletref29_put.f k2 t887 ((rd_T97 l0_6 x8_2).f3) 1).bind fun t890 => (waveletref29_Size.l1 k2 t890 (wrap64 (x8_2 + 1)) a0_0 a0_1 a0_2 a0_3 a0_4 a0_5 l0_6))) = some (r1, r2, r3) := H
                    have A30 := Aside0.mk A300
                    clear A300
                    replace H := Option.bind_eq_some_iff.mp H
                    obtain ⟨t887, A310, H⟩ := H
                    replace H : ((waveletref29_put.f k2 t887 ((rd_T97 l0_6 x8_2).f3) 1).bind fun t890 => (waveletref29_Size.l1 k2 t890 (wrap64 (x8_2 + 1)) a0_0 a0_1 a0_2 a0_3 a0_4 a0_5 l0_6)) = some (r1, r2, r3) := H
                    have A31 := Aside0.mk A310
                    clear A310
                    replace H := Option.bind_eq_some_iff.mp H
                    obtain ⟨t890, A320, H⟩ := H
                    replace H : (waveletref29_Size.l1 k2 t890 (wrap64 (x8_2 + 1)) a0_0 a0_1 a0_2 a0_3 a0_4 a0_5 l0_6) = some (r1, r2, r3) := H
                    have A32 := Aside0.mk A320
                    clear A320
                    have H' := Aside0.mk H
                    clear H
                    have hnb33 := NB866_867.out
                    have hnc33 := NB867_866.out
                    have hcz34_0 : wr.cell? ⟨gb866, 0, none⟩ = some (.int .i64 a0_0) := bc BK866 0
                    have hcz34_1 : wr.cell? ⟨gb866, 1, none⟩ = some (.int .i64 a0_1) := bc BK866 1
                    have hcz34_2 : wr.cell? ⟨gb866, 2, none⟩ = some (.int .i64 a0_2) := bc BK866 2
                    have hcz34_3 : wr.cell? ⟨gb866, 3, none⟩ = some (.int .i64 a0_3) := bc BK866 3
                    have hcz34_4 : wr.cell? ⟨gb866, 4, none⟩ = some (.int .i64 a0_4) := bc BK866 4
                    have hcz34_5 : wr.cell? ⟨gb866, 5, none⟩ = some (.int .i64 a0_5) := bc BK866 5
                    have hcz34_6 : wr.cell? ⟨gb866, 6, none⟩ = some (.slice A0_6 l0_6.length c0_6) := bc BK866 6
                    have hfz34_0 := blk_frozen BK866.out 0
                    have hfz34_1 := blk_frozen BK866.out 1
                    have hfz34_2 := blk_frozen BK866.out 2
                    have hfz34_3 := blk_frozen BK866.out 3
                    have hfz34_4 := blk_frozen BK866.out 4
                    have hfz34_5 := blk_frozen BK866.out 5
                    have hfz34_6 := blk_frozen BK866.out 6
                    have p882 : 0 ≤ (x8_2 : Int) := of_decide_eq_true (by first | (with_reducible assumption) | assumption)
                    have q882 : x8_2 < (l0_6.length : Int) := of_decide_eq_true (by first | (with_reducible assumption) | assumption)
                    obtain ⟨ad882, e882, hx882_0, hx882_1, hx882_2, hx882_3⟩ := at_T97 HR0_6.out x8_2 p882 q882
                    (try rw [← Nbq28.out] at hx882_1)
                    cases e882
                    replace hx882_0 := hc HB hx882_0
                    replace hx882_1 := hc HB hx882_1
                    replace hx882_2 := hc HB hx882_2
                    replace hx882_3 := hc HB hx882_3
                    replace p882 := eq_true p882
                    replace q882 := eq_true q882
                    try go_wp2_with (first | ((with_reducible refine gate_dst (N := 9) rfl ?_); refine box_event ?hg (N := 9) ?hd (cs := #[.int .i64 0, .bool false, .int .i64 0, .int .i64 0]) (t := 97) ?hr ?_; (case hd => rfl); (case hg => rfl); (case hr => first | (go_simp; done) | (go_simp; rfl)); intro gb883 hg w35 hbox hb; replace HO_5 := Aside0.mk (Kd.R_below (upR HO_5.out) hb); have BK883 := Aside0.mk (hbox); have GW883 := Aside0.mk ((by rw [hg]; exact (below_size (upB HB.out)) : w.heap.size ≤ gb883)); have GE883 := Aside0.mk ((by rw [hg]; exact (below_size (upB HB.out)) : w.heap.size ≤ gb883)); replace HB := Aside0.mk (below_step (upB HB.out) hb); have NB866_883 := Aside0.mk ((by rw [hg]; exact Nat.ne_of_lt (blk_lt (upK BK866.out)) : gb866 ≠ gb883)); have NB883_866 := Aside0.mk ((by rw [hg]; exact Nat.ne_of_gt (blk_lt (upK BK866.out)) : gb883 ≠ gb866)); replace BK866 := Aside0.mk (blk_below (g := gb866) (o := .cells #[.int .i64 a0_0, .int .i64 a0_1, .int .i64 a0_2, .int .i64 a0_3, .int .i64 a0_4, .int .i64 a0_5, .slice (some ad882) l0_6.length c0_6] 67 (0, 0)) (upK BK866.out) hb); have NB867_883 := Aside0.mk ((by rw [hg]; exact Nat.ne_of_lt (blk_lt (upK BK867.out)) : gb867 ≠ gb883)); have NB883_867 := Aside0.mk ((by rw [hg]; exact Nat.ne_of_gt (blk_lt (upK BK867.out)) : gb883 ≠ gb867)); replace BK867 := Aside0.mk (blk_below (g := gb867) (o := .cells #[.int .i64 0, .slice none 0 0] 26 (0, 0)) (upK BK867.out) hb); clear hb hbox hg; have hnb36 := NB883_866.out; have hnc36 := NB866_883.out; have hnb37 := NB883_867.out; have hnc37 := NB867_883.out; have hcz38_0 : w35.cell? ⟨gb883, 0, none⟩ = some (.int .i64 0) := bc BK883 0; have hcz38_1 : w35.cell? ⟨gb883, 1, none⟩ = some (.bool false) := bc BK883 1; have hcz38_2 : w35.cell? ⟨gb883, 2, none⟩ = some (.int .i64 0) := bc BK883 2; have hcz38_3 : w35.cell? ⟨gb883, 3, none⟩ = some (.int .i64 0) := bc BK883 3; have hfz38_0 := blk_frozen BK883.out 0; have hfz38_1 := blk_frozen BK883.out 1; have hfz38_2 := blk_frozen BK883.out 2; have hfz38_3 := blk_frozen BK883.out 3))
                    have n0_ : Aside0 (Kd.R (Kd.int .u8) 5 ((((w35.setCell ⟨gb883, 0, none⟩ (.int .i64 ((rd_T97 l0_6 x8_2).f0))).setCell ⟨gb883, 1, none⟩ (.bool true)).setCell ⟨gb883, 2, none⟩ (.int .i64 ((rd_T97 l0_6 x8_2).f2))).setCell ⟨gb883, 3, none⟩ (.int .i64 ((rd_T97 l0_6 x8_2).f3))) w.heap.size (fun _ => True) u5 x5_2) := ⟨by (with_reducible repeat (first | apply Kd.R_alloc | apply Kd.R_drewN | apply Kd.R_drew)); exact Kd.R_mono (Kd.R_far (Kd.R_far (Kd.R_far (Kd.R_far (Kd.R_types HO_5.out BK883.out (by decide)) (fun _ hk => hk.2) (.int .i64 ((rd_T97 l0_6 x8_2).f0))) (fun _ hk => hk.2) _) (fun _ hk => hk.2) (.int .i64 ((rd_T97 l0_6 x8_2).f2))) (fun _ hk => hk.2) (.int .i64 ((rd_T97 l0_6 x8_2).f3))) (fun _ hk => trivial)⟩
                    have n1_ : Aside0 (((((w35.setCell ⟨gb883, 0, none⟩ (.int .i64 ((rd_T97 l0_6 x8_2).f0))).setCell ⟨gb883, 1, none⟩ (.bool true)).setCell ⟨gb883, 2, none⟩ (.int .i64 ((rd_T97 l0_6 x8_2).f2))).setCell ⟨gb883, 3, none⟩ (.int .i64 ((rd_T97 l0_6 x8_2).f3))).heap[gb866]? = some (.cells #[.int .i64 a0_0, .int .i64 a0_1, .int .i64 a0_2, .int .i64 a0_3, .int .i64 a0_4, .int .i64 a0_5, .slice (some ad882) l0_6.length c0_6] 67 (0, 0))) := ⟨by (with_reducible repeat (first | refine blk_far ?_ NB866_883.out _ | refine blk_drewN ?_ _ | refine blk_drew ?_ | refine blk_alloc ?_ _)); exact BK866.out⟩
                    have n2_ : Aside0 (((((w35.setCell ⟨gb883, 0, none⟩ (.int .i64 ((rd_T97 l0_6 x8_2).f0))).setCell ⟨gb883, 1, none⟩ (.bool true)).setCell ⟨gb883, 2, none⟩ (.int .i64 ((rd_T97 l0_6 x8_2).f2))).setCell ⟨gb883, 3, none⟩ (.int .i64 ((rd_T97 l0_6 x8_2).f3))).heap[gb867]? = some (.cells #[.int .i64 0, .slice none 0 0] 26 (0, 0))) := ⟨by (with_reducible repeat (first | refine blk_far ?_ NB867_883.out _ | refine blk_drewN ?_ _ | refine blk_drew ?_ | refine blk_alloc ?_ _)); exact BK867.out⟩
                    have n3_ : Aside0 (((((w35.setCell ⟨gb883, 0, none⟩ (.int .i64 ((rd_T97 l0_6 x8_2).f0))).setCell ⟨gb883, 1, none⟩ (.bool true)).setCell ⟨gb883, 2, none⟩ (.int .i64 ((rd_T97 l0_6 x8_2).f2))).setCell ⟨gb883, 3, none⟩ (.int .i64 ((rd_T97 l0_6 x8_2).f3))).heap[gb883]? = some (.cells #[.int .i64 ((rd_T97 l0_6 x8_2).f0), .bool true, .int .i64 ((rd_T97 l0_6 x8_2).f2), .int .i64 ((rd_T97 l0_6 x8_2).f3)] 97 (0, 0))) := ⟨by (with_reducible repeat (first | refine blk_drewN ?_ _ | refine blk_drew ?_ | refine blk_alloc ?_ _)); refine blk_put (cs := #[.int .i64 ((rd_T97 l0_6 x8_2).f0), .bool true, .int .i64 ((rd_T97 l0_6 x8_2).f2), .int .i64 0]) ?_ 3 _ rfl; (with_reducible repeat (first | refine blk_drewN ?_ _ | refine blk_drew ?_ | refine blk_alloc ?_ _)); refine blk_put (cs := #[.int .i64 ((rd_T97 l0_6 x8_2).f0), .bool true, .int .i64 0, .int .i64 0]) ?_ 2 _ rfl; (with_reducible repeat (first | refine blk_drewN ?_ _ | refine blk_drew ?_ | refine blk_alloc ?_ _)); refine blk_put (cs := #[.int .i64 ((rd_T97 l0_6 x8_2).f0), .bool false, .int .i64 0, .int .i64 0]) ?_ 1 _ rfl; (with_reducible repeat (first | refine blk_drewN ?_ _ | refine blk_drew ?_ | refine blk_alloc ?_ _)); refine blk_put (cs := #[.int .i64 0, .bool false, .int .i64 0, .int .i64 0]) ?_ 0 _ rfl; (with_reducible repeat (first | refine blk_drewN ?_ _ | refine blk_drew ?_ | refine blk_alloc ?_ _)); exact BK883.out⟩
                    have n4_ : Aside0 (Below w.heap.size w ((((w35.setCell ⟨gb883, 0, none⟩ (.int .i64 ((rd_T97 l0_6 x8_2).f0))).setCell ⟨gb883, 1, none⟩ (.bool true)).setCell ⟨gb883, 2, none⟩ (.int .i64 ((rd_T97 l0_6 x8_2).f2))).setCell ⟨gb883, 3, none⟩ (.int .i64 ((rd_T97 l0_6 x8_2).f3)))) := ⟨by repeat (first | (with_reducible first | exact HB.out | apply below_alloc | apply pw_below_drewN | apply below_drew1 | refine below_set ?_ GE866.out | refine below_set ?_ GE867.out | refine below_set ?_ GE883.out) | exact HB.out)⟩
                    (try clear HO_5); (try clear BK866); (try clear BK867); (try clear BK883); (try clear HB)
                    generalize ((((w35.setCell ⟨gb883, 0, none⟩ (.int .i64 ((rd_T97 l0_6 x8_2).f0))).setCell ⟨gb883, 1, none⟩ (.bool true)).setCell ⟨gb883, 2, none⟩ (.int .i64 ((rd_T97 l0_6 x8_2).f2))).setCell ⟨gb883, 3, none⟩ (.int .i64 ((rd_T97 l0_6 x8_2).f3))) = w39 at n0_ n1_ n2_ n3_ n4_ ⊢
                    have HO_5 := n0_
                    have BK866 := n1_
                    have BK867 := n2_
                    have BK883 := n3_
                    have HB := n4_
                    clear n0_ n1_ n2_ n3_ n4_
                    replace HO_5 := Aside0.mk (Kd.R_drew HO_5.out)
                    replace BK866 := Aside0.mk (blk_drew BK866.out)
                    replace BK867 := Aside0.mk (blk_drew BK867.out)
                    replace BK883 := Aside0.mk (blk_drew BK883.out)
                    replace HB := Aside0.mk (below_drew1 HB.out)
                    obtain ⟨Ao41, co41, eo41⟩ := Kd.R_slice HO_5.out
                    (first | subst eo41 | (injection eo41 with f1_ f2_ f3_; have f4_ := f1_.symm; have f5_ := f3_.symm; clear f1_ f2_ f3_; subst f4_; subst f5_))
                    refine start_ (n := 10) (S := fun w' => w'.cell? ⟨gb883, 0, none⟩ = some (.int .i64 ((rd_T97 l0_6 x8_2).f0)) ∧ w'.cell? ⟨gb883, 1, none⟩ = some (.bool true) ∧ w'.cell? ⟨gb883, 2, none⟩ = some (.int .i64 ((rd_T97 l0_6 x8_2).f2)) ∧ w'.cell? ⟨gb883, 3, none⟩ = some (.int .i64 ((rd_T97 l0_6 x8_2).f3))) (ds := []) #[false, false, false, false, false, false, false, false, false, false] (by kernel_rfl) rfl rfl ⟨bc BK883 0, bc BK883 1, bc BK883 2, bc BK883 3⟩ (fun hHeld => ?_); refine with_tabW waveletref29_Size.tab18 waveletref29_Size.bits18 (fun HT_ HW_ => ?_)
                    generalize w39.drew = w40 at HO_5 BK866 BK867 BK883 HB hHeld ⊢
                    refine puX 0 71 (MK [1, 9]) HT_.out ?_
                    refine puX 1 72 (MK [2, 8]) HT_.out ?_
                    refine puX 3 74 (MK [2, 1, 1, 6]) HT_.out ?_
                    refine puX 6 77 (MK [2, 1, 1, 2, 1, 3]) HT_.out ?_
                    refine taX 4 75 (MK [2, 1, 2, 1, 1, 3]) HT_.out HW_.out hHeld ?_
                    refine taX 7 78 (MK [2, 1, 2, 1, 2, 2]) HT_.out HW_.out hHeld ?_
                    refine onX 2 73 (MK [5, 1, 2, 2]) HT_.out (fun K hK => ?_)
                    refine goes_ Try.func46 (by kernel_rfl) rfl #[.slice Ao41 x5_2.length co41, .int .i64 (wrap64 ((wrap64 (((rd_T97 l0_6 x8_2).f0) - 1)) + 128)), .int .i64 1] (by rfl) rfl rfl upL ?_
                    with_reducible refine (waveletref29_put.calls k2 (fun k_ => some k_ = (.slice Ao41 x5_2.length co41 : Value).ownBlock) (.slice Ao41 x5_2.length co41) x5_2 (wrap64 ((wrap64 (((rd_T97 l0_6 x8_2).f0) - 1)) + 128)) 1 t884 w _ ?side1 ?side2 A30.out).mono ?_
                    (case side1 => repeat (first | (with_reducible first | exact HB.out | apply below_alloc | apply pw_below_drewN | apply below_drew1 | refine below_set ?_ GE866.out | refine below_set ?_ GE867.out | refine below_set ?_ GE883.out) | exact HB.out))
                    (case side2 => exact Kd.R_tight rfl HO_5.out)
                    rintro e w42 ⟨v885, rfl, ho0, hb, hkp⟩
                    refine ⟨_, rfl, ?_⟩
                    have n0_ := Aside0.mk (blk_kept (upK BK866.out) hkp (fun hs_ => (fun e_ => (Kd.R_ne HO_5.out BK866.out (by decide)) e_) hs_))
                    have n1_ := Aside0.mk (blk_kept (upK BK867.out) hkp (fun hs_ => (fun e_ => (Kd.R_ne HO_5.out BK867.out (by decide)) e_) hs_))
                    have n2_ := Aside0.mk (blk_kept (upK BK883.out) hkp (fun hs_ => (fun e_ => (Kd.R_ne HO_5.out BK883.out (by decide)) e_) hs_))
                    have n3_ := Aside0.mk (Kd.R_mono (ok' := fun k_ => True) ho0 (fun k_ hk_ => trivial))
                    have n4_ := Aside0.mk (hb)
                    clear BK866
                    clear BK867
                    clear BK883
                    clear HB
                    clear HO_5
                    have BK866 := n0_
                    have BK867 := n1_
                    have BK883 := n2_
                    have HO886 := n3_
                    have HB := n4_
                    clear n0_ n1_ n2_ n3_ n4_
                    (try clear hb); (try clear hkp); (try clear ho0)
                    obtain ⟨Ao43, co43, eo43⟩ := Kd.R_slice HO886.out
                    (first | subst eo43 | (injection eo43 with f1_ f2_ f3_; have f4_ := f1_.symm; have f5_ := f3_.symm; clear f1_ f2_ f3_; subst f4_; subst f5_))
                    refine hK.out _ _ ⟨bc BK883 0, bc BK883 1, bc BK883 2, bc BK883 3⟩ (fun hHeld => ?_)
                    clear hK K
                    refine noX ?_
                    refine onX 5 76 (MK [8, 2]) HT_.out (fun K hK => ?_)
                    refine goes_ Try.func46 (by kernel_rfl) rfl #[.slice Ao43 t884.length co43, .int .i64 ((rd_T97 l0_6 x8_2).f2), .int .i64 1] (by rfl) rfl rfl upL ?_
                    with_reducible refine (waveletref29_put.calls k2 (fun k_ => some k_ = (.slice Ao43 t884.length co43 : Value).ownBlock) (.slice Ao43 t884.length co43) t884 ((rd_T97 l0_6 x8_2).f2) 1 t887 w _ ?side1 ?side2 A31.out).mono ?_
                    (case side1 => repeat (first | (with_reducible first | exact HB.out | apply below_alloc | apply pw_below_drewN | apply below_drew1 | refine below_set ?_ GE866.out | refine below_set ?_ GE867.out | refine below_set ?_ GE883.out) | exact HB.out))
                    (case side2 => exact Kd.R_tight rfl HO886.out)
                    rintro e w44 ⟨v888, rfl, ho0, hb, hkp⟩
                    refine ⟨_, rfl, ?_⟩
                    have n0_ := Aside0.mk (blk_kept (upK BK866.out) hkp (fun hs_ => (fun e_ => (Kd.R_ne HO886.out BK866.out (by decide)) e_) hs_))
                    have n1_ := Aside0.mk (blk_kept (upK BK867.out) hkp (fun hs_ => (fun e_ => (Kd.R_ne HO886.out BK867.out (by decide)) e_) hs_))
                    have n2_ := Aside0.mk (blk_kept (upK BK883.out) hkp (fun hs_ => (fun e_ => (Kd.R_ne HO886.out BK883.out (by decide)) e_) hs_))
                    have n3_ := Aside0.mk (Kd.R_mono (ok' := fun k_ => True) ho0 (fun k_ hk_ => trivial))
                    have n4_ := Aside0.mk (hb)
                    clear BK866
                    clear BK867
                    clear BK883
                    clear HB
                    clear HO886
                    have BK866 := n0_
                    have BK867 := n1_
                    have BK883 := n2_
                    have HO889 := n3_
                    have HB := n4_
                    clear n0_ n1_ n2_ n3_ n4_
                    (try clear hb); (try clear hkp); (try clear ho0)
                    obtain ⟨Ao45, co45, eo45⟩ := Kd.R_slice HO889.out
                    (first | subst eo45 | (injection eo45 with f1_ f2_ f3_; have f4_ := f1_.symm; have f5_ := f3_.symm; clear f1_ f2_ f3_; subst f4_; subst f5_))
                    refine hK.out _ _ ⟨bc BK883 0, bc BK883 1, bc BK883 2, bc BK883 3⟩ (fun hHeld => ?_)
                    clear hK K
                    refine noX ?_
                    refine onX 8 79 (MK [9, 1]) HT_.out (fun K hK => ?_)
                    refine goes_ Try.func46 (by kernel_rfl) rfl #[.slice Ao45 t887.length co45, .int .i64 ((rd_T97 l0_6 x8_2).f3), .int .i64 1] (by rfl) rfl rfl upL ?_
                    with_reducible refine (waveletref29_put.calls k2 (fun k_ => some k_ = (.slice Ao45 t887.length co45 : Value).ownBlock) (.slice Ao45 t887.length co45) t887 ((rd_T97 l0_6 x8_2).f3) 1 t890 w _ ?side1 ?side2 A32.out).mono ?_
                    (case side1 => repeat (first | (with_reducible first | exact HB.out | apply below_alloc | apply pw_below_drewN | apply below_drew1 | refine below_set ?_ GE866.out | refine below_set ?_ GE867.out | refine below_set ?_ GE883.out) | exact HB.out))
                    (case side2 => exact Kd.R_tight rfl HO889.out)
                    rintro e w46 ⟨v891, rfl, ho0, hb, hkp⟩
                    refine ⟨_, rfl, ?_⟩
                    have n0_ := Aside0.mk (blk_kept (upK BK866.out) hkp (fun hs_ => (fun e_ => (Kd.R_ne HO889.out BK866.out (by decide)) e_) hs_))
                    have n1_ := Aside0.mk (blk_kept (upK BK867.out) hkp (fun hs_ => (fun e_ => (Kd.R_ne HO889.out BK867.out (by decide)) e_) hs_))
                    have n2_ := Aside0.mk (blk_kept (upK BK883.out) hkp (fun hs_ => (fun e_ => (Kd.R_ne HO889.out BK883.out (by decide)) e_) hs_))
                    have n3_ := Aside0.mk (Kd.R_mono (ok' := fun k_ => True) ho0 (fun k_ hk_ => trivial))
                    have n4_ := Aside0.mk (hb)
                    clear BK866
                    clear BK867
                    clear BK883
                    clear HB
                    clear HO889
                    have BK866 := n0_
                    have BK867 := n1_
                    have BK883 := n2_
                    have HO892 := n3_
                    have HB := n4_
                    clear n0_ n1_ n2_ n3_ n4_
                    (try clear hb); (try clear hkp); (try clear ho0)
                    refine hK.out _ _ ⟨bc BK883 0, bc BK883 1, bc BK883 2, bc BK883 3⟩ (fun hHeld => ?_)
                    clear hK K
                    refine noX ?_
                    refine puX 9 5 (MK [10]) HT_.out ?_
                    refine done_ (done_of HT_.out (by kernel_rfl)) ?_
                    try go_wp2
                    go_roundg k2
                    case measure => have := HK1.out; have := HK2.out; omega
                    case rel => exact ⟨(t890), (wrap64 (x8_2 + 1)), (by first | rfl | (simp; done) | (simp [*]; done)), H', ⟨by have := HK1.out; have := HK2.out; omega⟩, ⟨by (with_reducible repeat (first | apply Kd.R_alloc | apply Kd.R_drewN | apply Kd.R_drew)); exact HO892.out⟩, ⟨by (with_reducible repeat (first | refine blk_drewN ?_ _ | refine blk_drew ?_ | refine blk_alloc ?_ _)); exact BK866.out⟩, ⟨by (with_reducible repeat (first | refine blk_drewN ?_ _ | refine blk_drew ?_ | refine blk_alloc ?_ _)); exact BK867.out⟩, ⟨by repeat (first | (with_reducible first | exact HB.out | apply below_alloc | apply pw_below_drewN | apply below_drew1 | refine below_set ?_ GE866.out | refine below_set ?_ GE867.out | refine below_set ?_ GE883.out) | exact HB.out)⟩⟩
                  · replace c29 := Bool.eq_false_iff.mpr c29
                    subst c29
                    have H1 : ((waveletref29_put.f k2 x5_2 (wrap64 (((rd_T97 l0_6 x8_2).f0) - 1)) 1).bind fun t893 => ((waveletref29_put.f k2 t893 ((rd_T97 l0_6 x8_2).f2) 1).bind fun t896 => ((waveletref29_put.f k2 t896 ((rd_T97 l0_6 x8_2).f3) 1).bind fun t899 => (waveletref29_Size.l1 k2 t899 (wrap64 (x8_2 + 1)) a0_0 a0_1 a0_2 a0_3 a0_4 a0_5 l0_6)))) = some (r1, r2, r3) := by rw [if_neg (show ¬ (false = true) by decide)] at H; exact H
                    clear H
                    have H := H1
                    clear H1
                    replace H := Option.bind_eq_some_iff.mp H
                    obtain ⟨t893, A470, H⟩ := H
                    replace H : ((waveletref29_put.f k2 t893 ((rd_T97 l0_6 x8_2).f2) 1).bind fun t896 => ((waveletref29_put.f k2 t896 ((rd_T97 l0_6 x8_2).f3) 1).bind fun t899 => (waveletref29_Size.l1 k2 t899 (wrap64 (x8_2 + 1)) a0_0 a0_1 a0_2 a0_3 a0_4 a0_5 l0_6))) = some (r1, r2, r3) := H
                    have A47 := Aside0.mk A470
                    clear A470
                    replace H := Option.bind_eq_some_iff.mp H
                    obtain ⟨t896, A480, H⟩ := H
                    replace H : ((waveletref29_put.f k2 t896 ((rd_T97 l0_6 x8_2).f3) 1).bind fun t899 => (waveletref29_Size.l1 k2 t899 (wrap64 (x8_2 + 1)) a0_0 a0_1 a0_2 a0_3 a0_4 a0_5 l0_6)) = some (r1, r2, r3) := H
                    have A48 := Aside0.mk A480
                    clear A480
                    replace H := Option.bind_eq_some_iff.mp H
                    obtain ⟨t899, A490, H⟩ := H
                    replace H : (waveletref29_Size.l1 k2 t899 (wrap64 (x8_2 + 1)) a0_0 a0_1 a0_2 a0_3 a0_4 a0_5 l0_6) = some (r1, r2, r3) := H
                    have A49 := Aside0.mk A490
                    clear A490
                    have H' := Aside0.mk H
                    clear H
                    have hnb50 := NB866_867.out
                    have hnc50 := NB867_866.out
                    have hcz51_0 : wr.cell? ⟨gb866, 0, none⟩ = some (.int .i64 a0_0) := bc BK866 0
                    have hcz51_1 : wr.cell? ⟨gb866, 1, none⟩ = some (.int .i64 a0_1) := bc BK866 1
                    have hcz51_2 : wr.cell? ⟨gb866, 2, none⟩ = some (.int .i64 a0_2) := bc BK866 2
                    have hcz51_3 : wr.cell? ⟨gb866, 3, none⟩ = some (.int .i64 a0_3) := bc BK866 3
                    have hcz51_4 : wr.cell? ⟨gb866, 4, none⟩ = some (.int .i64 a0_4) := bc BK866 4
                    have hcz51_5 : wr.cell? ⟨gb866, 5, none⟩ = some (.int .i64 a0_5) := bc BK866 5
                    have hcz51_6 : wr.cell? ⟨gb866, 6, none⟩ = some (.slice A0_6 l0_6.length c0_6) := bc BK866 6
                    have hfz51_0 := blk_frozen BK866.out 0
                    have hfz51_1 := blk_frozen BK866.out 1
                    have hfz51_2 := blk_frozen BK866.out 2
                    have hfz51_3 := blk_frozen BK866.out 3
                    have hfz51_4 := blk_frozen BK866.out 4
                    have hfz51_5 := blk_frozen BK866.out 5
                    have hfz51_6 := blk_frozen BK866.out 6
                    have p882 : 0 ≤ (x8_2 : Int) := of_decide_eq_true (by first | (with_reducible assumption) | assumption)
                    have q882 : x8_2 < (l0_6.length : Int) := of_decide_eq_true (by first | (with_reducible assumption) | assumption)
                    obtain ⟨ad882, e882, hx882_0, hx882_1, hx882_2, hx882_3⟩ := at_T97 HR0_6.out x8_2 p882 q882
                    (try rw [← Nbq28.out] at hx882_1)
                    cases e882
                    replace hx882_0 := hc HB hx882_0
                    replace hx882_1 := hc HB hx882_1
                    replace hx882_2 := hc HB hx882_2
                    replace hx882_3 := hc HB hx882_3
                    replace p882 := eq_true p882
                    replace q882 := eq_true q882
                    try go_wp2_with (first | ((with_reducible refine gate_dst (N := 9) rfl ?_); refine box_event ?hg (N := 9) ?hd (cs := #[.int .i64 0, .bool false, .int .i64 0, .int .i64 0]) (t := 97) ?hr ?_; (case hd => rfl); (case hg => rfl); (case hr => first | (go_simp; done) | (go_simp; rfl)); intro gb883 hg w52 hbox hb; replace HO_5 := Aside0.mk (Kd.R_below (upR HO_5.out) hb); have BK883 := Aside0.mk (hbox); have GW883 := Aside0.mk ((by rw [hg]; exact (below_size (upB HB.out)) : w.heap.size ≤ gb883)); have GE883 := Aside0.mk ((by rw [hg]; exact (below_size (upB HB.out)) : w.heap.size ≤ gb883)); replace HB := Aside0.mk (below_step (upB HB.out) hb); have NB866_883 := Aside0.mk ((by rw [hg]; exact Nat.ne_of_lt (blk_lt (upK BK866.out)) : gb866 ≠ gb883)); have NB883_866 := Aside0.mk ((by rw [hg]; exact Nat.ne_of_gt (blk_lt (upK BK866.out)) : gb883 ≠ gb866)); replace BK866 := Aside0.mk (blk_below (g := gb866) (o := .cells #[.int .i64 a0_0, .int .i64 a0_1, .int .i64 a0_2, .int .i64 a0_3, .int .i64 a0_4, .int .i64 a0_5, .slice (some ad882) l0_6.length c0_6] 67 (0, 0)) (upK BK866.out) hb); have NB867_883 := Aside0.mk ((by rw [hg]; exact Nat.ne_of_lt (blk_lt (upK BK867.out)) : gb867 ≠ gb883)); have NB883_867 := Aside0.mk ((by rw [hg]; exact Nat.ne_of_gt (blk_lt (upK BK867.out)) : gb883 ≠ gb867)); replace BK867 := Aside0.mk (blk_below (g := gb867) (o := .cells #[.int .i64 0, .slice none 0 0] 26 (0, 0)) (upK BK867.out) hb); clear hb hbox hg; have hnb53 := NB883_866.out; have hnc53 := NB866_883.out; have hnb54 := NB883_867.out; have hnc54 := NB867_883.out; have hcz55_0 : w52.cell? ⟨gb883, 0, none⟩ = some (.int .i64 0) := bc BK883 0; have hcz55_1 : w52.cell? ⟨gb883, 1, none⟩ = some (.bool false) := bc BK883 1; have hcz55_2 : w52.cell? ⟨gb883, 2, none⟩ = some (.int .i64 0) := bc BK883 2; have hcz55_3 : w52.cell? ⟨gb883, 3, none⟩ = some (.int .i64 0) := bc BK883 3; have hfz55_0 := blk_frozen BK883.out 0; have hfz55_1 := blk_frozen BK883.out 1; have hfz55_2 := blk_frozen BK883.out 2; have hfz55_3 := blk_frozen BK883.out 3))
                    have n0_ : Aside0 (Kd.R (Kd.int .u8) 5 ((((w52.setCell ⟨gb883, 0, none⟩ (.int .i64 ((rd_T97 l0_6 x8_2).f0))).setCell ⟨gb883, 1, none⟩ (.bool false)).setCell ⟨gb883, 2, none⟩ (.int .i64 ((rd_T97 l0_6 x8_2).f2))).setCell ⟨gb883, 3, none⟩ (.int .i64 ((rd_T97 l0_6 x8_2).f3))) w.heap.size (fun _ => True) u5 x5_2) := ⟨by (with_reducible repeat (first | apply Kd.R_alloc | apply Kd.R_drewN | apply Kd.R_drew)); exact Kd.R_mono (Kd.R_far (Kd.R_far (Kd.R_far (Kd.R_far (Kd.R_types HO_5.out BK883.out (by decide)) (fun _ hk => hk.2) (.int .i64 ((rd_T97 l0_6 x8_2).f0))) (fun _ hk => hk.2) _) (fun _ hk => hk.2) (.int .i64 ((rd_T97 l0_6 x8_2).f2))) (fun _ hk => hk.2) (.int .i64 ((rd_T97 l0_6 x8_2).f3))) (fun _ hk => trivial)⟩
                    have n1_ : Aside0 (((((w52.setCell ⟨gb883, 0, none⟩ (.int .i64 ((rd_T97 l0_6 x8_2).f0))).setCell ⟨gb883, 1, none⟩ (.bool false)).setCell ⟨gb883, 2, none⟩ (.int .i64 ((rd_T97 l0_6 x8_2).f2))).setCell ⟨gb883, 3, none⟩ (.int .i64 ((rd_T97 l0_6 x8_2).f3))).heap[gb866]? = some (.cells #[.int .i64 a0_0, .int .i64 a0_1, .int .i64 a0_2, .int .i64 a0_3, .int .i64 a0_4, .int .i64 a0_5, .slice (some ad882) l0_6.length c0_6] 67 (0, 0))) := ⟨by (with_reducible repeat (first | refine blk_far ?_ NB866_883.out _ | refine blk_drewN ?_ _ | refine blk_drew ?_ | refine blk_alloc ?_ _)); exact BK866.out⟩
                    have n2_ : Aside0 (((((w52.setCell ⟨gb883, 0, none⟩ (.int .i64 ((rd_T97 l0_6 x8_2).f0))).setCell ⟨gb883, 1, none⟩ (.bool false)).setCell ⟨gb883, 2, none⟩ (.int .i64 ((rd_T97 l0_6 x8_2).f2))).setCell ⟨gb883, 3, none⟩ (.int .i64 ((rd_T97 l0_6 x8_2).f3))).heap[gb867]? = some (.cells #[.int .i64 0, .slice none 0 0] 26 (0, 0))) := ⟨by (with_reducible repeat (first | refine blk_far ?_ NB867_883.out _ | refine blk_drewN ?_ _ | refine blk_drew ?_ | refine blk_alloc ?_ _)); exact BK867.out⟩
                    have n3_ : Aside0 (((((w52.setCell ⟨gb883, 0, none⟩ (.int .i64 ((rd_T97 l0_6 x8_2).f0))).setCell ⟨gb883, 1, none⟩ (.bool false)).setCell ⟨gb883, 2, none⟩ (.int .i64 ((rd_T97 l0_6 x8_2).f2))).setCell ⟨gb883, 3, none⟩ (.int .i64 ((rd_T97 l0_6 x8_2).f3))).heap[gb883]? = some (.cells #[.int .i64 ((rd_T97 l0_6 x8_2).f0), .bool false, .int .i64 ((rd_T97 l0_6 x8_2).f2), .int .i64 ((rd_T97 l0_6 x8_2).f3)] 97 (0, 0))) := ⟨by (with_reducible repeat (first | refine blk_drewN ?_ _ | refine blk_drew ?_ | refine blk_alloc ?_ _)); refine blk_put (cs := #[.int .i64 ((rd_T97 l0_6 x8_2).f0), .bool false, .int .i64 ((rd_T97 l0_6 x8_2).f2), .int .i64 0]) ?_ 3 _ rfl; (with_reducible repeat (first | refine blk_drewN ?_ _ | refine blk_drew ?_ | refine blk_alloc ?_ _)); refine blk_put (cs := #[.int .i64 ((rd_T97 l0_6 x8_2).f0), .bool false, .int .i64 0, .int .i64 0]) ?_ 2 _ rfl; (with_reducible repeat (first | refine blk_drewN ?_ _ | refine blk_drew ?_ | refine blk_alloc ?_ _)); refine blk_put (cs := #[.int .i64 ((rd_T97 l0_6 x8_2).f0), .bool false, .int .i64 0, .int .i64 0]) ?_ 1 _ rfl; (with_reducible repeat (first | refine blk_drewN ?_ _ | refine blk_drew ?_ | refine blk_alloc ?_ _)); refine blk_put (cs := #[.int .i64 0, .bool false, .int .i64 0, .int .i64 0]) ?_ 0 _ rfl; (with_reducible repeat (first | refine blk_drewN ?_ _ | refine blk_drew ?_ | refine blk_alloc ?_ _)); exact BK883.out⟩
                    have n4_ : Aside0 (Below w.heap.size w ((((w52.setCell ⟨gb883, 0, none⟩ (.int .i64 ((rd_T97 l0_6 x8_2).f0))).setCell ⟨gb883, 1, none⟩ (.bool false)).setCell ⟨gb883, 2, none⟩ (.int .i64 ((rd_T97 l0_6 x8_2).f2))).setCell ⟨gb883, 3, none⟩ (.int .i64 ((rd_T97 l0_6 x8_2).f3)))) := ⟨by repeat (first | (with_reducible first | exact HB.out | apply below_alloc | apply pw_below_drewN | apply below_drew1 | refine below_set ?_ GE866.out | refine below_set ?_ GE867.out | refine below_set ?_ GE883.out) | exact HB.out)⟩
                    (try clear HO_5); (try clear BK866); (try clear BK867); (try clear BK883); (try clear HB)
                    generalize ((((w52.setCell ⟨gb883, 0, none⟩ (.int .i64 ((rd_T97 l0_6 x8_2).f0))).setCell ⟨gb883, 1, none⟩ (.bool false)).setCell ⟨gb883, 2, none⟩ (.int .i64 ((rd_T97 l0_6 x8_2).f2))).setCell ⟨gb883, 3, none⟩ (.int .i64 ((rd_T97 l0_6 x8_2).f3))) = w56 at n0_ n1_ n2_ n3_ n4_ ⊢
                    have HO_5 := n0_
                    have BK866 := n1_
                    have BK867 := n2_
                    have BK883 := n3_
                    have HB := n4_
                    clear n0_ n1_ n2_ n3_ n4_
                    replace HO_5 := Aside0.mk (Kd.R_drew HO_5.out)
                    replace BK866 := Aside0.mk (blk_drew BK866.out)
                    replace BK867 := Aside0.mk (blk_drew BK867.out)
                    replace BK883 := Aside0.mk (blk_drew BK883.out)
                    replace HB := Aside0.mk (below_drew1 HB.out)
                    obtain ⟨Ao58, co58, eo58⟩ := Kd.R_slice HO_5.out
                    (first | subst eo58 | (injection eo58 with f1_ f2_ f3_; have f4_ := f1_.symm; have f5_ := f3_.symm; clear f1_ f2_ f3_; subst f4_; subst f5_))
                    refine start_ (n := 10) (S := fun w' => w'.cell? ⟨gb883, 0, none⟩ = some (.int .i64 ((rd_T97 l0_6 x8_2).f0)) ∧ w'.cell? ⟨gb883, 1, none⟩ = some (.bool false) ∧ w'.cell? ⟨gb883, 2, none⟩ = some (.int .i64 ((rd_T97 l0_6 x8_2).f2)) ∧ w'.cell? ⟨gb883, 3, none⟩ = some (.int .i64 ((rd_T97 l0_6 x8_2).f3))) (ds := []) #[false, false, false, false, false, false, false, false, false, false] (by kernel_rfl) rfl rfl ⟨bc BK883 0, bc BK883 1, bc BK883 2, bc BK883 3⟩ (fun hHeld => ?_); refine with_tabW waveletref29_Size.tab18 waveletref29_Size.bits18 (fun HT_ HW_ => ?_)
                    generalize w56.drew = w57 at HO_5 BK866 BK867 BK883 HB hHeld ⊢
                    refine puX 0 71 (MK [1, 9]) HT_.out ?_
                    refine puX 1 72 (MK [2, 8]) HT_.out ?_
                    refine puX 3 74 (MK [2, 1, 1, 6]) HT_.out ?_
                    refine puX 6 77 (MK [2, 1, 1, 2, 1, 3]) HT_.out ?_
                    refine taX 4 75 (MK [2, 1, 2, 1, 1, 3]) HT_.out HW_.out hHeld ?_
                    refine taX 7 78 (MK [2, 1, 2, 1, 2, 2]) HT_.out HW_.out hHeld ?_
                    refine onX 2 73 (MK [5, 1, 2, 2]) HT_.out (fun K hK => ?_)
                    refine goes_ Try.func46 (by kernel_rfl) rfl #[.slice Ao58 x5_2.length co58, .int .i64 (wrap64 (((rd_T97 l0_6 x8_2).f0) - 1)), .int .i64 1] (by rfl) rfl rfl upL ?_
                    with_reducible refine (waveletref29_put.calls k2 (fun k_ => some k_ = (.slice Ao58 x5_2.length co58 : Value).ownBlock) (.slice Ao58 x5_2.length co58) x5_2 (wrap64 (((rd_T97 l0_6 x8_2).f0) - 1)) 1 t893 w _ ?side1 ?side2 A47.out).mono ?_
                    (case side1 => repeat (first | (with_reducible first | exact HB.out | apply below_alloc | apply pw_below_drewN | apply below_drew1 | refine below_set ?_ GE866.out | refine below_set ?_ GE867.out | refine below_set ?_ GE883.out) | exact HB.out))
                    (case side2 => exact Kd.R_tight rfl HO_5.out)
                    rintro e w59 ⟨v894, rfl, ho0, hb, hkp⟩
                    refine ⟨_, rfl, ?_⟩
                    have n0_ := Aside0.mk (blk_kept (upK BK866.out) hkp (fun hs_ => (fun e_ => (Kd.R_ne HO_5.out BK866.out (by decide)) e_) hs_))
                    have n1_ := Aside0.mk (blk_kept (upK BK867.out) hkp (fun hs_ => (fun e_ => (Kd.R_ne HO_5.out BK867.out (by decide)) e_) hs_))
                    have n2_ := Aside0.mk (blk_kept (upK BK883.out) hkp (fun hs_ => (fun e_ => (Kd.R_ne HO_5.out BK883.out (by decide)) e_) hs_))
                    have n3_ := Aside0.mk (Kd.R_mono (ok' := fun k_ => True) ho0 (fun k_ hk_ => trivial))
                    have n4_ := Aside0.mk (hb)
                    clear BK866
                    clear BK867
                    clear BK883
                    clear HB
                    clear HO_5
                    have BK866 := n0_
                    have BK867 := n1_
                    have BK883 := n2_
                    have HO895 := n3_
                    have HB := n4_
                    clear n0_ n1_ n2_ n3_ n4_
                    (try clear hb); (try clear hkp); (try clear ho0)
                    obtain ⟨Ao60, co60, eo60⟩ := Kd.R_slice HO895.out
                    (first | subst eo60 | (injection eo60 with f1_ f2_ f3_; have f4_ := f1_.symm; have f5_ := f3_.symm; clear f1_ f2_ f3_; subst f4_; subst f5_))
                    refine hK.out _ _ ⟨bc BK883 0, bc BK883 1, bc BK883 2, bc BK883 3⟩ (fun hHeld => ?_)
                    clear hK K
                    refine noX ?_
                    refine onX 5 76 (MK [8, 2]) HT_.out (fun K hK => ?_)
                    refine goes_ Try.func46 (by kernel_rfl) rfl #[.slice Ao60 t893.length co60, .int .i64 ((rd_T97 l0_6 x8_2).f2), .int .i64 1] (by rfl) rfl rfl upL ?_
                    with_reducible refine (waveletref29_put.calls k2 (fun k_ => some k_ = (.slice Ao60 t893.length co60 : Value).ownBlock) (.slice Ao60 t893.length co60) t893 ((rd_T97 l0_6 x8_2).f2) 1 t896 w _ ?side1 ?side2 A48.out).mono ?_
                    (case side1 => repeat (first | (with_reducible first | exact HB.out | apply below_alloc | apply pw_below_drewN | apply below_drew1 | refine below_set ?_ GE866.out | refine below_set ?_ GE867.out | refine below_set ?_ GE883.out) | exact HB.out))
                    (case side2 => exact Kd.R_tight rfl HO895.out)
                    rintro e w61 ⟨v897, rfl, ho0, hb, hkp⟩
                    refine ⟨_, rfl, ?_⟩
                    have n0_ := Aside0.mk (blk_kept (upK BK866.out) hkp (fun hs_ => (fun e_ => (Kd.R_ne HO895.out BK866.out (by decide)) e_) hs_))
                    have n1_ := Aside0.mk (blk_kept (upK BK867.out) hkp (fun hs_ => (fun e_ => (Kd.R_ne HO895.out BK867.out (by decide)) e_) hs_))
                    have n2_ := Aside0.mk (blk_kept (upK BK883.out) hkp (fun hs_ => (fun e_ => (Kd.R_ne HO895.out BK883.out (by decide)) e_) hs_))
                    have n3_ := Aside0.mk (Kd.R_mono (ok' := fun k_ => True) ho0 (fun k_ hk_ => trivial))
                    have n4_ := Aside0.mk (hb)
                    clear BK866
                    clear BK867
                    clear BK883
                    clear HB
                    clear HO895
                    have BK866 := n0_
                    have BK867 := n1_
                    have BK883 := n2_
                    have HO898 := n3_
                    have HB := n4_
                    clear n0_ n1_ n2_ n3_ n4_
                    (try clear hb); (try clear hkp); (try clear ho0)
                    obtain ⟨Ao62, co62, eo62⟩ := Kd.R_slice HO898.out
                    (first | subst eo62 | (injection eo62 with f1_ f2_ f3_; have f4_ := f1_.symm; have f5_ := f3_.symm; clear f1_ f2_ f3_; subst f4_; subst f5_))
                    refine hK.out _ _ ⟨bc BK883 0, bc BK883 1, bc BK883 2, bc BK883 3⟩ (fun hHeld => ?_)
                    clear hK K
                    refine noX ?_
                    refine onX 8 79 (MK [9, 1]) HT_.out (fun K hK => ?_)
                    refine goes_ Try.func46 (by kernel_rfl) rfl #[.slice Ao62 t896.length co62, .int .i64 ((rd_T97 l0_6 x8_2).f3), .int .i64 1] (by rfl) rfl rfl upL ?_
                    with_reducible refine (waveletref29_put.calls k2 (fun k_ => some k_ = (.slice Ao62 t896.length co62 : Value).ownBlock) (.slice Ao62 t896.length co62) t896 ((rd_T97 l0_6 x8_2).f3) 1 t899 w _ ?side1 ?side2 A49.out).mono ?_
                    (case side1 => repeat (first | (with_reducible first | exact HB.out | apply below_alloc | apply pw_below_drewN | apply below_drew1 | refine below_set ?_ GE866.out | refine below_set ?_ GE867.out | refine below_set ?_ GE883.out) | exact HB.out))
                    (case side2 => exact Kd.R_tight rfl HO898.out)
                    rintro e w63 ⟨v900, rfl, ho0, hb, hkp⟩
                    refine ⟨_, rfl, ?_⟩
                    have n0_ := Aside0.mk (blk_kept (upK BK866.out) hkp (fun hs_ => (fun e_ => (Kd.R_ne HO898.out BK866.out (by decide)) e_) hs_))
                    have n1_ := Aside0.mk (blk_kept (upK BK867.out) hkp (fun hs_ => (fun e_ => (Kd.R_ne HO898.out BK867.out (by decide)) e_) hs_))
                    have n2_ := Aside0.mk (blk_kept (upK BK883.out) hkp (fun hs_ => (fun e_ => (Kd.R_ne HO898.out BK883.out (by decide)) e_) hs_))
                    have n3_ := Aside0.mk (Kd.R_mono (ok' := fun k_ => True) ho0 (fun k_ hk_ => trivial))
                    have n4_ := Aside0.mk (hb)
                    clear BK866
                    clear BK867
                    clear BK883
                    clear HB
                    clear HO898
                    have BK866 := n0_
                    have BK867 := n1_
                    have BK883 := n2_
                    have HO901 := n3_
                    have HB := n4_
                    clear n0_ n1_ n2_ n3_ n4_
                    (try clear hb); (try clear hkp); (try clear ho0)
                    refine hK.out _ _ ⟨bc BK883 0, bc BK883 1, bc BK883 2, bc BK883 3⟩ (fun hHeld => ?_)
                    clear hK K
                    refine noX ?_
                    refine puX 9 5 (MK [10]) HT_.out ?_
                    refine done_ (done_of HT_.out (by kernel_rfl)) ?_
                    try go_wp2
                    go_roundg k2
                    case measure => have := HK1.out; have := HK2.out; omega
                    case rel => exact ⟨(t899), (wrap64 (x8_2 + 1)), (by first | rfl | (simp; done) | (simp [*]; done)), H', ⟨by have := HK1.out; have := HK2.out; omega⟩, ⟨by (with_reducible repeat (first | apply Kd.R_alloc | apply Kd.R_drewN | apply Kd.R_drew)); exact HO901.out⟩, ⟨by (with_reducible repeat (first | refine blk_drewN ?_ _ | refine blk_drew ?_ | refine blk_alloc ?_ _)); exact BK866.out⟩, ⟨by (with_reducible repeat (first | refine blk_drewN ?_ _ | refine blk_drew ?_ | refine blk_alloc ?_ _)); exact BK867.out⟩, ⟨by repeat (first | (with_reducible first | exact HB.out | apply below_alloc | apply pw_below_drewN | apply below_drew1 | refine below_set ?_ GE866.out | refine below_set ?_ GE867.out | refine below_set ?_ GE883.out) | exact HB.out)⟩⟩
                · rw [if_neg c27] at H
                  exact absurd H (by simp)
              · rw [if_neg c26] at H
                have c26b0 : decide (x8_2 < (l0_6.length : Int)) = false := decide_eq_false c26
                clear c26
                simp only [Option.some.injEq, Prod.mk.injEq] at H
                obtain ⟨rfl, rfl, rfl⟩ := H
                have hnb64 := NB866_867.out
                have hnc64 := NB867_866.out
                have hcz65_0 : wr.cell? ⟨gb866, 0, none⟩ = some (.int .i64 a0_0) := bc BK866 0
                have hcz65_1 : wr.cell? ⟨gb866, 1, none⟩ = some (.int .i64 a0_1) := bc BK866 1
                have hcz65_2 : wr.cell? ⟨gb866, 2, none⟩ = some (.int .i64 a0_2) := bc BK866 2
                have hcz65_3 : wr.cell? ⟨gb866, 3, none⟩ = some (.int .i64 a0_3) := bc BK866 3
                have hcz65_4 : wr.cell? ⟨gb866, 4, none⟩ = some (.int .i64 a0_4) := bc BK866 4
                have hcz65_5 : wr.cell? ⟨gb866, 5, none⟩ = some (.int .i64 a0_5) := bc BK866 5
                have hcz65_6 : wr.cell? ⟨gb866, 6, none⟩ = some (.slice A0_6 l0_6.length c0_6) := bc BK866 6
                have hfz65_0 := blk_frozen BK866.out 0
                have hfz65_1 := blk_frozen BK866.out 1
                have hfz65_2 := blk_frozen BK866.out 2
                have hfz65_3 := blk_frozen BK866.out 3
                have hfz65_4 := blk_frozen BK866.out 4
                have hfz65_5 := blk_frozen BK866.out 5
                have hfz65_6 := blk_frozen BK866.out 6
                obtain ⟨Ao66, co66, eo66⟩ := Kd.R_slice HO_5.out
                subst eo66
                have hcz67_0 : wr.cell? ⟨gb867, 0, none⟩ = some (.int .i64 0) := bc BK867 0
                have hcz67_1 : wr.cell? ⟨gb867, 1, none⟩ = some (.slice none 0 0) := bc BK867 1
                have hfz67_0 := blk_frozen BK867.out 0
                have hfz67_1 := blk_frozen BK867.out 1
                go_wp2
                refine bodyPost_ret (results_ct rfl _ _ gb867 26 #[.int .i64 65441, .slice Ao66 x5_2.length co66] (0, 0) _ rfl (by (with_reducible repeat (first | refine blk_drewN ?_ _ | refine blk_drew ?_ | refine blk_alloc ?_ _)); refine blk_put (cs := #[.int .i64 65441, .slice none 0 0]) ?_ 1 _ rfl; (with_reducible repeat (first | refine blk_drewN ?_ _ | refine blk_drew ?_ | refine blk_alloc ?_ _)); refine blk_put (cs := #[.int .i64 0, .slice none 0 0]) ?_ 0 _ rfl; (with_reducible repeat (first | refine blk_drewN ?_ _ | refine blk_drew ?_ | refine blk_alloc ?_ _)); exact BK867.out) Try.underlying26 rfl (by kernel_rfl)) rfl ?_
                exact ⟨_, by first | rfl | (simp [errW_none, errW_some] <;> rfl) | (simp [*, errW_none, errW_some] <;> rfl), by (with_reducible repeat (first | apply Kd.R_alloc | apply Kd.R_drewN | apply Kd.R_drew)); exact Kd.R_mono (Kd.R_far (Kd.R_far (Kd.R_types HO_5.out BK867.out (by decide)) (fun _ hk => hk.2) _) (fun _ hk => hk.2) _) (fun _ hk => trivial), by repeat (first | (with_reducible first | exact HB.out | apply below_alloc | apply pw_below_drewN | apply below_drew1 | refine below_set ?_ GE866.out | refine below_set ?_ GE867.out) | exact HB.out)⟩
  · rw [if_neg c3] at H
    have c3b0 : (t868 == 0) = false := beq_eq_false_iff_ne.mpr c3
    have c3b1 : (t868 != 0) = true := bne_iff_ne.mpr c3
    simp only [Option.some.injEq, Prod.mk.injEq] at H
    obtain ⟨rfl, rfl, rfl⟩ := H
    go_enter Try.func38, Try.ntmps38
    go_wp2_with (first | ((with_reducible refine gate_dst (N := 1) rfl ?_); refine box_event ?hg (N := 1) ?hd (cs := #[.int .i64 a0_0, .int .i64 a0_1, .int .i64 a0_2, .int .i64 a0_3, .int .i64 a0_4, .int .i64 a0_5, .slice A0_6 l0_6.length c0_6]) (t := 67) ?hr ?_; (case hd => rfl); (case hg => rfl); (case hr => first | (go_simp; done) | (go_simp; rfl)); intro gb866 hg w68 hbox hb; have BK866 := Aside0.mk (hbox); have GW866 := Aside0.mk ((by rw [hg]; exact (below_size (upB HB.out)) : w.heap.size ≤ gb866)); have GE866 := Aside0.mk ((by rw [hg]; exact (below_size (upB HB.out)) : w.heap.size ≤ gb866)); replace HB := Aside0.mk (below_step (upB HB.out) hb); clear hb hbox hg) | ((with_reducible refine gate_dst (N := 2) rfl ?_); refine box_event ?hg (N := 2) ?hd (cs := #[.int .i64 0, .slice none 0 0]) (t := 26) ?hr ?_; (case hd => rfl); (case hg => rfl); (case hr => first | (go_simp; done) | (go_simp; rfl)); intro gb867 hg w69 hbox hb; have BK867 := Aside0.mk (hbox); have GW867 := Aside0.mk ((by rw [hg]; exact (below_size (upB HB.out)) : w.heap.size ≤ gb867)); have GE867 := Aside0.mk ((by rw [hg]; exact (below_size (upB HB.out)) : w.heap.size ≤ gb867)); replace HB := Aside0.mk (below_step (upB HB.out) hb); have NB866_867 := Aside0.mk ((by rw [hg]; exact Nat.ne_of_lt (blk_lt (upK BK866.out)) : gb866 ≠ gb867)); have NB867_866 := Aside0.mk ((by rw [hg]; exact Nat.ne_of_gt (blk_lt (upK BK866.out)) : gb867 ≠ gb866)); replace BK866 := Aside0.mk (blk_below (g := gb866) (o := .cells #[.int .i64 a0_0, .int .i64 a0_1, .int .i64 a0_2, .int .i64 a0_3, .int .i64 a0_4, .int .i64 a0_5, .slice A0_6 l0_6.length c0_6] 67 (0, 0)) (upK BK866.out) hb); clear hb hbox hg; have hnb70 := NB866_867.out; have hnc70 := NB867_866.out; have hcz71_0 : w69.cell? ⟨gb866, 0, none⟩ = some (.int .i64 a0_0) := bc BK866 0; have hcz71_1 : w69.cell? ⟨gb866, 1, none⟩ = some (.int .i64 a0_1) := bc BK866 1; have hcz71_2 : w69.cell? ⟨gb866, 2, none⟩ = some (.int .i64 a0_2) := bc BK866 2; have hcz71_3 : w69.cell? ⟨gb866, 3, none⟩ = some (.int .i64 a0_3) := bc BK866 3; have hcz71_4 : w69.cell? ⟨gb866, 4, none⟩ = some (.int .i64 a0_4) := bc BK866 4; have hcz71_5 : w69.cell? ⟨gb866, 5, none⟩ = some (.int .i64 a0_5) := bc BK866 5; have hcz71_6 : w69.cell? ⟨gb866, 6, none⟩ = some (.slice A0_6 l0_6.length c0_6) := bc BK866 6; have hfz71_0 := blk_frozen BK866.out 0; have hfz71_1 := blk_frozen BK866.out 1; have hfz71_2 := blk_frozen BK866.out 2; have hfz71_3 := blk_frozen BK866.out 3; have hfz71_4 := blk_frozen BK866.out 4; have hfz71_5 := blk_frozen BK866.out 5; have hfz71_6 := blk_frozen BK866.out 6) | ((with_reducible refine gate_callee (f := 61) rfl ?_); refine goesL_ (some 12) rfl rfl Try.func61 (by kernel_rfl) rfl #[.agg #[.int .i64 a0_0, .int .i64 a0_1, .int .i64 a0_2, .int .i64 a0_3, .int .i64 a0_4, .int .i64 a0_5, .slice A0_6 l0_6.length c0_6]] rfl upL ?_; (with_reducible refine (waveletref23_Header.calls k a0_0 a0_1 a0_2 a0_3 a0_4 a0_5 _ _ l0_6 t868 _ ?side1 ?side2 A2.out).mono ?_); (case side1 => repeat (first | exact (Kd.C_below HR0_6.out HB.out) | (with_reducible refine Kd.C_alloc ?_ _) | (with_reducible refine Kd.C_drewN ?_ _) | (with_reducible refine Kd.C_drew ?_))); (case side2 => exact HC0_6.out); rintro e w72 ⟨rfl, hb⟩; refine ⟨_, rfl, ?_⟩; replace BK866 := Aside0.mk (blk_below (g := gb866) (o := .cells #[.int .i64 a0_0, .int .i64 a0_1, .int .i64 a0_2, .int .i64 a0_3, .int .i64 a0_4, .int .i64 a0_5, .slice A0_6 l0_6.length c0_6] 67 (0, 0)) (upK BK866.out) hb); replace BK867 := Aside0.mk (blk_below (g := gb867) (o := .cells #[.int .i64 0, .slice none 0 0] 26 (0, 0)) (upK BK867.out) hb); replace HB := Aside0.mk (below_step (upB HB.out) hb); (try clear hb; try clear hb2; try clear hk; try clear hi); have hcz73_0 : w72.cell? ⟨gb867, 0, none⟩ = some (.int .i64 0) := bc BK867 0; have hcz73_1 : w72.cell? ⟨gb867, 1, none⟩ = some (.slice none 0 0) := bc BK867 1; have hfz73_0 := blk_frozen BK867.out 0; have hfz73_1 := blk_frozen BK867.out 1))
    refine bodyPost_ret (results_ct rfl _ _ gb867 26 #[.int .i64 0, .slice none 0 0] (0, 0) _ rfl (by (with_reducible repeat (first | refine blk_drewN ?_ _ | refine blk_drew ?_ | refine blk_alloc ?_ _)); refine blk_put (cs := #[.int .i64 0, .slice none 0 0]) ?_ 1 _ rfl; (with_reducible repeat (first | refine blk_drewN ?_ _ | refine blk_drew ?_ | refine blk_alloc ?_ _)); refine blk_put (cs := #[.int .i64 0, .slice none 0 0]) ?_ 0 _ rfl; (with_reducible repeat (first | refine blk_drewN ?_ _ | refine blk_drew ?_ | refine blk_alloc ?_ _)); exact BK867.out) Try.underlying26 rfl (by kernel_rfl)) rfl ?_
    exact ⟨_, by first | rfl | (simp [errW_none, errW_some] <;> rfl) | (simp [*, errW_none, errW_some] <;> rfl), by first | exact Kd.R_nil _ _ _ _ _ | exact Kd.N_nil _ _ _ _ _ | exact Kd.V_nil _ _ _ _ _ | exact Kd.Q_nil _ _ _ _ _ | exact Kd.S_nil _ _ _ _ _, by repeat (first | (with_reducible first | exact HB.out | apply below_alloc | apply pw_below_drewN | apply below_drew1 | refine below_set ?_ GE866.out | refine below_set ?_ GE867.out) | exact HB.out)⟩

end Go.Proofs.Ytihfopblmjgfaaa.Q
