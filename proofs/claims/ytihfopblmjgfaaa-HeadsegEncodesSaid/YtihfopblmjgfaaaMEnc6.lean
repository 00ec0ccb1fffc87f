/- Texts of this session (words and printed walks, merged by wip/tools/merge.py) for the statement of the claim. -/
import Derived.Test.YtihfopblmjgfaaaMEnc1
import Derived.Test.YtihfopblmjgfaaaMEnc5
/- Printed walk, shortened (wip/tools/unmerge.py). -/
namespace Go.Proofs.Ytihfopblmjgfaaa.Q
open Go.RowKit Go.Proofs.YtihfopblmjgfaaaW.PrintWords Go.Proofs.YtihfopblmjgfaaaW.PrintLast Go.Proofs.YtihfopblmjgfaaaW.PrintMore
attribute [local go_sem] max2_int min2_int max_two min_two max_three min_three max_four min_four   -- for this text's walks alone
set_option linter.unusedVariables false
set_option linter.unusedSimpArgs false

/-! ### headseg_Tile: function 18 -/
def headseg_Tile.j0 : Nat → Int → Int → Int → Int → Bool → Option (Int × List Int × Int)
  | 0, _, _, _, _, _ => none
  | k + 1, x0, x1, x2, x3, x27 => if x27 = true then (some (0, ([] : List Int), 2)) else ((headseg_put.f k ([] : List Int) 2 x0).bind fun t119 => ((some (([(x1) % 256, (x2) % 256] : List Int) : List Int)).bind fun y122 => (if t119.length + y122.length < 140737488355328 then ((headseg_put.f k (t119 ++ y122) 4 x3).bind fun t128 => (some (65456, t128, 0))) else (none))))
def headseg_Tile.f (k : Nat) (a0 : Int) (a1 : Int) (a2 : Int) (a3 : Int) : Option (Int × List Int × Int) := (headseg_within.f k 0 65535 (([a0] : List Int))).bind fun t110 => (if t110 = true then ((headseg_within.f k 0 255 (([a1, a2] : List Int))).bind fun t114 => (if t114 = true then ((headseg_within.f k 0 4294967295 (([a3] : List Int))).bind fun t118 => (headseg_Tile.j0 k a0 a1 a2 a3 (!t118))) else (headseg_Tile.j0 k a0 a1 a2 a3 true))) else (headseg_Tile.j0 k a0 a1 a2 a3 true))
theorem headseg_Tile.mono_l : ∀ k, (∀ y0 y1 y2 y3 y4, LeO (headseg_Tile.j0 k y0 y1 y2 y3 y4) (headseg_Tile.j0 (k + 1) y0 y1 y2 y3 y4))
  | 0 => fun _ _ _ _ _ r h => by simp [headseg_Tile.j0] at h
  | k + 1 => by
    have ih0 := headseg_Tile.mono_l k
    · intro y0 y1 y2 y3 y4
      unfold headseg_Tile.j0
      repeat' first
      | (with_reducible exact ih0 _ _ _ _ _)
      | (with_reducible exact headseg_put.mono _ _ _ _)
      | (with_reducible exact headseg_within.mono _ _ _ _)
      | (with_reducible exact LeO.refl _)
      | (with_reducible exact LeO.none _)
      | (with_reducible refine LeO.ite ?_ ?_)
      | (with_reducible refine LeO.bind ?_ (fun _ => ?_))
      | exact ih0 _ _ _ _ _
      | exact headseg_put.mono _ _ _ _
      | exact headseg_within.mono _ _ _ _
      | exact LeO.none _
      | refine LeO.ite ?_ ?_
      | refine LeO.bind ?_ (fun _ => ?_)
theorem headseg_Tile.mono : ∀ a0 a1 a2 a3 k, LeO (headseg_Tile.f k a0 a1 a2 a3) (headseg_Tile.f (k + 1) a0 a1 a2 a3) := by
  intro a0 a1 a2 a3 k
  have ih0 := headseg_Tile.mono_l k
  unfold headseg_Tile.f
  repeat' first
      | (with_reducible exact ih0 _ _ _ _ _)
      | (with_reducible exact headseg_put.mono _ _ _ _)
      | (with_reducible exact headseg_within.mono _ _ _ _)
      | (with_reducible exact LeO.refl _)
      | (with_reducible exact LeO.none _)
      | (with_reducible refine LeO.ite ?_ ?_)
      | (with_reducible refine LeO.bind ?_ (fun _ => ?_))
      | exact ih0 _ _ _ _ _
      | exact headseg_put.mono _ _ _ _
      | exact headseg_within.mono _ _ _ _
      | exact LeO.none _
      | refine LeO.ite ?_ ?_
      | refine LeO.bind ?_ (fun _ => ?_)
set_option maxHeartbeats 8000000 in
set_option maxRecDepth 100000 in
theorem headseg_Tile.calls (k : Nat) (a0 : Int) (a1 : Int) (a2 : Int) (a3 : Int) (r1 : Int) (r2 : List Int) (r3 : Int) (w : World) (h : headseg_Tile.f k a0 a1 a2 a3 = some (r1, r2, r3)) :
    Calls Try.prog 18 #[.int .i64 a0, .int .i64 a1, .int .i64 a2, .int .i64 a3] w fun e w' => ∃ v1_ : Value, e = .returned (.tuple #[.agg #[.int .i64 r1, v1_], .int .i64 r3]) ∧ Kd.R (Kd.int .u8) 5 w' w.heap.size (fun _ => True) v1_ r2 ∧ Below w.heap.size w w' := by
  have hu26 := Try.underlying26
  have HB := Aside0.mk (Below.refl w.heap.size w)
  have H : ((headseg_within.f k 0 65535 (([a0] : List Int))).bind fun t110 => (if t110 = true then ((headseg_within.f k 0 255 (([a1, a2] : List Int))).bind fun t114 => (if t114 = true then ((headseg_within.f k 0 4294967295 (([a3] : List Int))).bind fun t118 => (headseg_Tile.j0 k a0 a1 a2 a3 (!t118))) else (headseg_Tile.j0 k a0 a1 a2 a3 true))) else (headseg_Tile.j0 k a0 a1 a2 a3 true))) = some (r1, r2, r3) := h
  clear h
  have HC5 := Aside0.mk H
  clear H
  go_enter Try.func18, Try.ntmps18
  go_upto_region 1 with (first | ((with_reducible refine gate_dst (N := 8) rfl ?_); (try (refine gate_guard (by rfl) ?_; dsimp only)); refine box_event ?hg (N := 8) ?hd (cs := #[.int .i64 0, .slice none 0 0]) (t := 26) ?hr ?_; (case hd => rfl); (case hg => rfl); (case hr => first | (go_simp; done) | (go_simp; rfl)); intro gb106 hg w6 hbox hb; have BK106 := Aside0.mk (hbox); have GW106 := Aside0.mk ((by rw [hg]; exact (below_size (upB HB.out)) : w.heap.size ≤ gb106)); have GE106 := Aside0.mk ((by rw [hg]; exact (below_size (upB HB.out)) : w.heap.size ≤ gb106)); replace HB := Aside0.mk (below_step (upB HB.out) hb); clear hb hbox hg))
  (try simp only [Act.put, List.setIfInBounds_toArray, List.set_cons_zero, List.set_cons_succ])
  go_cut [27] (fun v27 wc => ∃ (kq : Nat) (x27_4 : Bool), v27 = .bool x27_4 ∧ Aside0 (headseg_Tile.j0 kq a0 a1 a2 a3 x27_4 = some (r1, r2, r3)) ∧ Aside0 (kq ≤ k) ∧ Aside0 (wc.heap[gb106]? = some (.cells #[.int .i64 0, (.slice none 0 0)] 26 (0, 0))) ∧ Aside0 (Below w.heap.size w wc))
  case first =>
    have H := HC5.out
    clear HC5
    obtain ⟨y107, hy107⟩ : ∃ y_ : List Int, y_ = (([a0] : List Int)) := ⟨_, rfl⟩
    replace H : ((headseg_within.f k 0 65535 y107).bind fun t110 => (if t110 = true then ((headseg_within.f k 0 255 (([a1, a2] : List Int))).bind fun t114 => (if t114 = true then ((headseg_within.f k 0 4294967295 (([a3] : List Int))).bind fun t118 => (headseg_Tile.j0 k a0 a1 a2 a3 (!t118))) else (headseg_Tile.j0 k a0 a1 a2 a3 true))) else (headseg_Tile.j0 k a0 a1 a2 a3 true))) = some (r1, r2, r3) := by first | (rw [hy107]; with_reducible exact H) | (have H2_ := (Option.bind_some _ _).symm.trans H; rw [hy107]; with_reducible exact H2_) | (have H2_ := (Option.bind_some _ _).symm.trans H; with_reducible exact H2_) | with_reducible exact H | (rw [hy107]; exact H) | exact H
    have Ny107 := Aside0.mk hy107
    clear hy107
    replace H := Option.bind_eq_some_iff.mp H
    obtain ⟨t110, A70, H⟩ := H
    replace H : (if t110 = true then ((headseg_within.f k 0 255 (([a1, a2] : List Int))).bind fun t114 => (if t114 = true then ((headseg_within.f k 0 4294967295 (([a3] : List Int))).bind fun t118 => (headseg_Tile.j0 k a0 a1 a2 a3 (!t118))) else (headseg_Tile.j0 k a0 a1 a2 a3 true))) else (headseg_Tile.j0 k a0 a1 a2 a3 true)) = some (r1, r2, r3) := H
    have A7 := Aside0.mk A70
    clear A70
    by_cases c8 : t110 = true
    · subst c8
      have H1 : ((headseg_within.f k 0 255 (([a1, a2] : List Int))).bind fun t114 => (if t114 = true then ((headseg_within.f k 0 4294967295 (([a3] : List Int))).bind fun t118 => (headseg_Tile.j0 k a0 a1 a2 a3 (!t118))) else (headseg_Tile.j0 k a0 a1 a2 a3 true))) = some (r1, r2, r3) := by rw [if_pos rfl] at H; exact H
      clear H
      have H := H1
      clear H1
      obtain ⟨y111, hy111⟩ : ∃ y_ : List Int, y_ = (([a1, a2] : List Int)) := ⟨_, rfl⟩
      replace H : ((headseg_within.f k 0 255 y111).bind fun t114 => (if t114 = true then ((headseg_within.f k 0 4294967295 (([a3] : List Int))).bind fun t118 => (headseg_Tile.j0 k a0 a1 a2 a3 (!t118))) else (headseg_Tile.j0 k a0 a1 a2 a3 true))) = some (r1, r2, r3) := by first | (rw [hy111]; with_reducible exact H) | (have H2_ := (Option.bind_some _ _).symm.trans H; rw [hy111]; with_reducible exact H2_) | (have H2_ := (Option.bind_some _ _).symm.trans H; with_reducible exact H2_) | with_reducible exact H | (rw [hy111]; exact H) | exact H
      have Ny111 := Aside0.mk hy111
      clear hy111
      replace H := Option.bind_eq_some_iff.mp H
      obtain ⟨t114, A90, H⟩ := H
      replace H : (if t114 = true then ((headseg_within.f k 0 4294967295 (([a3] : List Int))).bind fun t118 => (headseg_Tile.j0 k a0 a1 a2 a3 (!t118))) else (headseg_Tile.j0 k a0 a1 a2 a3 true)) = some (r1, r2, r3) := H
      have A9 := Aside0.mk A90
      clear A90
      by_cases c10 : t114 = true
      · subst c10
        have H1 : ((headseg_within.f k 0 4294967295 (([a3] : List Int))).bind fun t118 => (headseg_Tile.j0 k a0 a1 a2 a3 (!t118))) = some (r1, r2, r3) := by rw [if_pos rfl] at H; exact H
        clear H
        have H := H1
        clear H1
        obtain ⟨y115, hy115⟩ : ∃ y_ : List Int, y_ = (([a3] : List Int)) := ⟨_, rfl⟩
        replace H : ((headseg_within.f k 0 4294967295 y115).bind fun t118 => (headseg_Tile.j0 k a0 a1 a2 a3 (!t118))) = some (r1, r2, r3) := by first | (rw [hy115]; with_reducible exact H) | (have H2_ := (Option.bind_some _ _).symm.trans H; rw [hy115]; with_reducible exact H2_) | (have H2_ := (Option.bind_some _ _).symm.trans H; with_reducible exact H2_) | with_reducible exact H | (rw [hy115]; exact H) | exact H
        have Ny115 := Aside0.mk hy115
        clear hy115
        replace H := Option.bind_eq_some_iff.mp H
        obtain ⟨t118, A110, H⟩ := H
        replace H : (headseg_Tile.j0 k a0 a1 a2 a3 (!t118)) = some (r1, r2, r3) := H
        have A11 := Aside0.mk A110
        clear A110
        have H' := Aside0.mk H
        clear H
        go_wp2_with (first | ((with_reducible refine gate_dst (N := 12) rfl ?_); (try (refine gate_guard (by rfl) ?_; dsimp only)); refine Kd.R_lit (Kd.int .i64) _ 3 ?hg (N := 12) ?hd (xs := ([a0] : List Int)) (inner := [.int .i64 a0]) (ok := fun _ => True) (okp := fun _ => True) ?hr ?hp (fun _ hk => hk) trivial (Below.refl _ _) (Nat.le_refl _) (by simp) ?_; (case hd => rfl); (case hg => rfl); (case hr => first | (go_simp; done) | (go_simp; rfl)); (case hp => exact (Reps.one (show Kd.M (Kd.int .i64) _ _ _ a0 [.int .i64 a0] from rfl) (Reps.none _ _))); intro v108 w12 ho13 hb hg_ hnew_; clear hg_ hnew_; (first | rw [← Ny107.out] at ho13 | (simp only [Int.reduceToNat] at ho13; rw [← Ny107.out] at ho13)); have HO109 := Aside0.mk (Kd.R_lower ho13 (below_size (upB HB.out))); replace BK106 := Aside0.mk (blk_below (g := gb106) (o := .cells #[.int .i64 0, .slice none 0 0] 26 (0, 0)) (upK BK106.out) hb); replace HB := Aside0.mk (below_step (upB HB.out) hb); clear hb ho13; obtain ⟨Ao14, co14, eo14⟩ := Kd.R_slice HO109.out; subst eo14) | ((with_reducible refine gate_callee (f := 43) rfl ?_); refine goesL_ (some 13) rfl rfl Try.func43 (by kernel_rfl) rfl #[.int .i64 0, .int .i64 65535, .slice Ao14 y107.length co14] rfl upL ?_; (with_reducible refine (headseg_within.calls k 0 65535 _ _ y107 true _ ?side1 ?side2 A7.out).mono ?_); (case side1 => repeat (first | exact (Kd.R_reads' HO109.out).2.2 | (with_reducible refine Kd.C_alloc ?_ _) | (with_reducible refine Kd.C_drewN ?_ _) | (with_reducible refine Kd.C_drew ?_))); (case side2 => exact (Kd.R_reads' HO109.out).2.1); rintro e w' ⟨rfl, ⟨nd, rfl⟩⟩; refine ⟨_, rfl, ?_⟩) | ((with_reducible refine gate_dst (N := 18) rfl ?_); (try (refine gate_guard (by rfl) ?_; dsimp only)); refine Kd.R_lit (Kd.int .i64) _ 3 ?hg (N := 18) ?hd (xs := ([a1, a2] : List Int)) (inner := [.int .i64 a1, .int .i64 a2]) (ok := fun _ => True) (okp := fun _ => True) ?hr ?hp (fun _ hk => hk) trivial (Below.refl _ _) (Nat.le_refl _) (by simp) ?_; (case hd => rfl); (case hg => rfl); (case hr => first | (go_simp; done) | (go_simp; rfl)); (case hp => exact (Reps.one (show Kd.M (Kd.int .i64) _ _ _ a1 [.int .i64 a1] from rfl) (Reps.one (show Kd.M (Kd.int .i64) _ _ _ a2 [.int .i64 a2] from rfl) (Reps.none _ _)))); intro v112 w15 ho16 hb hg_ hnew_; clear hg_ hnew_; (first | rw [← Ny111.out] at ho16 | (simp only [Int.reduceToNat] at ho16; rw [← Ny111.out] at ho16)); have HO113 := Aside0.mk (Kd.R_lower (Kd.R_new' ho16 (Kd.R_lt (upR HO109.out))) (below_size (upB HB.out))); replace HO109 := Aside0.mk (Kd.R_elder' (upR HO109.out) (Kd.R_base ho16) hb); replace BK106 := Aside0.mk (blk_below (g := gb106) (o := .cells #[.int .i64 0, .slice none 0 0] 26 (0, 0)) (upK BK106.out) hb); replace HB := Aside0.mk (below_step (upB HB.out) hb); clear hb ho16; obtain ⟨Ao17, co17, eo17⟩ := Kd.R_slice HO113.out; subst eo17) | (go_at_call 43; (with_reducible refine (headseg_within.calls k 0 255 _ _ y111 true _ ?side1 ?side2 A9.out).mono ?_); (case side1 => repeat (first | exact (Kd.R_reads' HO113.out).2.2 | (with_reducible refine Kd.C_alloc ?_ _) | (with_reducible refine Kd.C_drewN ?_ _) | (with_reducible refine Kd.C_drew ?_))); (case side2 => exact (Kd.R_reads' HO113.out).2.1); rintro e w' ⟨rfl, ⟨nd, rfl⟩⟩) | ((with_reducible refine gate_dst (N := 24) rfl ?_); (try (refine gate_guard (by rfl) ?_; dsimp only)); refine Kd.R_lit (Kd.int .i64) _ 3 ?hg (N := 24) ?hd (xs := ([a3] : List Int)) (inner := [.int .i64 a3]) (ok := fun _ => True) (okp := fun _ => True) ?hr ?hp (fun _ hk => hk) trivial (Below.refl _ _) (Nat.le_refl _) (by simp) ?_; (case hd => rfl); (case hg => rfl); (case hr => first | (go_simp; done) | (go_simp; rfl)); (case hp => exact (Reps.one (show Kd.M (Kd.int .i64) _ _ _ a3 [.int .i64 a3] from rfl) (Reps.none _ _))); intro v116 w18 ho19 hb hg_ hnew_; clear hg_ hnew_; (first | rw [← Ny115.out] at ho19 | (simp only [Int.reduceToNat] at ho19; rw [← Ny115.out] at ho19)); have HO117 := Aside0.mk (Kd.R_lower (Kd.R_new' (Kd.R_new' ho19 (Kd.R_lt (upR HO109.out))) (Kd.R_lt (upR HO113.out))) (below_size (upB HB.out))); replace HO109 := Aside0.mk (Kd.R_elder' (upR HO109.out) (Kd.R_base ho19) hb); replace HO113 := Aside0.mk (Kd.R_elder' (upR HO113.out) (Kd.R_base ho19) hb); replace BK106 := Aside0.mk (blk_below (g := gb106) (o := .cells #[.int .i64 0, .slice none 0 0] 26 (0, 0)) (upK BK106.out) hb); replace HB := Aside0.mk (below_step (upB HB.out) hb); clear hb ho19; obtain ⟨Ao20, co20, eo20⟩ := Kd.R_slice HO117.out; subst eo20) | (go_at_call 43; (with_reducible refine (headseg_within.calls k 0 4294967295 _ _ y115 t118 _ ?side1 ?side2 A11.out).mono ?_); (case side1 => repeat (first | exact (Kd.R_reads' HO117.out).2.2 | (with_reducible refine Kd.C_alloc ?_ _) | (with_reducible refine Kd.C_drewN ?_ _) | (with_reducible refine Kd.C_drew ?_))); (case side2 => exact (Kd.R_reads' HO117.out).2.1); rintro e w' ⟨rfl, ⟨nd, rfl⟩⟩))
        go_meet
        case rel => exact ⟨_, (!t118), (by first | rfl | (simp; done) | (simp [*]; done)), H', ⟨by first | omega | exact Nat.le_refl _⟩, ⟨by (with_reducible repeat (first | refine blk_drewN ?_ _ | refine blk_drew ?_ | refine blk_alloc ?_ _)); exact BK106.out⟩, ⟨by repeat (first | (with_reducible first | exact HB.out | apply below_alloc | apply pw_below_drewN | apply below_drew1 | refine below_set ?_ GE106.out) | exact HB.out)⟩⟩
      · replace c10 := Bool.eq_false_iff.mpr c10
        subst c10
        have H1 : (headseg_Tile.j0 k a0 a1 a2 a3 true) = some (r1, r2, r3) := by rw [if_neg (show ¬ (false = true) by decide)] at H; exact H
        clear H
        have H := H1
        clear H1
        have H' := Aside0.mk H
        clear H
        go_wp2_with (first | ((with_reducible refine gate_dst (N := 12) rfl ?_); (try (refine gate_guard (by rfl) ?_; dsimp only)); refine Kd.R_lit (Kd.int .i64) _ 3 ?hg (N := 12) ?hd (xs := ([a0] : List Int)) (inner := [.int .i64 a0]) (ok := fun _ => True) (okp := fun _ => True) ?hr ?hp (fun _ hk => hk) trivial (Below.refl _ _) (Nat.le_refl _) (by simp) ?_; (case hd => rfl); (case hg => rfl); (case hr => first | (go_simp; done) | (go_simp; rfl)); (case hp => exact (Reps.one (show Kd.M (Kd.int .i64) _ _ _ a0 [.int .i64 a0] from rfl) (Reps.none _ _))); intro v108 w21 ho22 hb hg_ hnew_; clear hg_ hnew_; (first | rw [← Ny107.out] at ho22 | (simp only [Int.reduceToNat] at ho22; rw [← Ny107.out] at ho22)); have HO109 := Aside0.mk (Kd.R_lower ho22 (below_size (upB HB.out))); replace BK106 := Aside0.mk (blk_below (g := gb106) (o := .cells #[.int .i64 0, .slice none 0 0] 26 (0, 0)) (upK BK106.out) hb); replace HB := Aside0.mk (below_step (upB HB.out) hb); clear hb ho22; obtain ⟨Ao23, co23, eo23⟩ := Kd.R_slice HO109.out; subst eo23) | ((with_reducible refine gate_callee (f := 43) rfl ?_); refine goesL_ (some 13) rfl rfl Try.func43 (by kernel_rfl) rfl #[.int .i64 0, .int .i64 65535, .slice Ao23 y107.length co23] rfl upL ?_; (with_reducible refine (headseg_within.calls k 0 65535 _ _ y107 true _ ?side1 ?side2 A7.out).mono ?_); (case side1 => repeat (first | exact (Kd.R_reads' HO109.out).2.2 | (with_reducible refine Kd.C_alloc ?_ _) | (with_reducible refine Kd.C_drewN ?_ _) | (with_reducible refine Kd.C_drew ?_))); (case side2 => exact (Kd.R_reads' HO109.out).2.1); rintro e w' ⟨rfl, ⟨nd, rfl⟩⟩; refine ⟨_, rfl, ?_⟩) | ((with_reducible refine gate_dst (N := 18) rfl ?_); (try (refine gate_guard (by rfl) ?_; dsimp only)); refine Kd.R_lit (Kd.int .i64) _ 3 ?hg (N := 18) ?hd (xs := ([a1, a2] : List Int)) (inner := [.int .i64 a1, .int .i64 a2]) (ok := fun _ => True) (okp := fun _ => True) ?hr ?hp (fun _ hk => hk) trivial (Below.refl _ _) (Nat.le_refl _) (by simp) ?_; (case hd => rfl); (case hg => rfl); (case hr => first | (go_simp; done) | (go_simp; rfl)); (case hp => exact (Reps.one (show Kd.M (Kd.int .i64) _ _ _ a1 [.int .i64 a1] from rfl) (Reps.one (show Kd.M (Kd.int .i64) _ _ _ a2 [.int .i64 a2] from rfl) (Reps.none _ _)))); intro v112 w24 ho25 hb hg_ hnew_; clear hg_ hnew_; (first | rw [← Ny111.out] at ho25 | (simp only [Int.reduceToNat] at ho25; rw [← Ny111.out] at ho25)); have HO113 := Aside0.mk (Kd.R_lower (Kd.R_new' ho25 (Kd.R_lt (upR HO109.out))) (below_size (upB HB.out))); replace HO109 := Aside0.mk (Kd.R_elder' (upR HO109.out) (Kd.R_base ho25) hb); replace BK106 := Aside0.mk (blk_below (g := gb106) (o := .cells #[.int .i64 0, .slice none 0 0] 26 (0, 0)) (upK BK106.out) hb); replace HB := Aside0.mk (below_step (upB HB.out) hb); clear hb ho25; obtain ⟨Ao26, co26, eo26⟩ := Kd.R_slice HO113.out; subst eo26) | (go_at_call 43; (with_reducible refine (headseg_within.calls k 0 255 _ _ y111 false _ ?side1 ?side2 A9.out).mono ?_); (case side1 => repeat (first | exact (Kd.R_reads' HO113.out).2.2 | (with_reducible refine Kd.C_alloc ?_ _) | (with_reducible refine Kd.C_drewN ?_ _) | (with_reducible refine Kd.C_drew ?_))); (case side2 => exact (Kd.R_reads' HO113.out).2.1); rintro e w' ⟨rfl, ⟨nd, rfl⟩⟩))
        go_meet
        case rel => exact ⟨_, (true), (by first | rfl | (simp; done) | (simp [*]; done)), H', ⟨by first | omega | exact Nat.le_refl _⟩, ⟨by (with_reducible repeat (first | refine blk_drewN ?_ _ | refine blk_drew ?_ | refine blk_alloc ?_ _)); exact BK106.out⟩, ⟨by repeat (first | (with_reducible first | exact HB.out | apply below_alloc | apply pw_below_drewN | apply below_drew1 | refine below_set ?_ GE106.out) | exact HB.out)⟩⟩
    · replace c8 := Bool.eq_false_iff.mpr c8
      subst c8
      have H1 : (headseg_Tile.j0 k a0 a1 a2 a3 true) = some (r1, r2, r3) := by rw [if_neg (show ¬ (false = true) by decide)] at H; exact H
      clear H
      have H := H1
      clear H1
      have H' := Aside0.mk H
      clear H
      go_wp2_with (first | ((with_reducible refine gate_dst (N := 12) rfl ?_); (try (refine gate_guard (by rfl) ?_; dsimp only)); refine Kd.R_lit (Kd.int .i64) _ 3 ?hg (N := 12) ?hd (xs := ([a0] : List Int)) (inner := [.int .i64 a0]) (ok := fun _ => True) (okp := fun _ => True) ?hr ?hp (fun _ hk => hk) trivial (Below.refl _ _) (Nat.le_refl _) (by simp) ?_; (case hd => rfl); (case hg => rfl); (case hr => first | (go_simp; done) | (go_simp; rfl)); (case hp => exact (Reps.one (show Kd.M (Kd.int .i64) _ _ _ a0 [.int .i64 a0] from rfl) (Reps.none _ _))); intro v108 w27 ho28 hb hg_ hnew_; clear hg_ hnew_; (first | rw [← Ny107.out] at ho28 | (simp only [Int.reduceToNat] at ho28; rw [← Ny107.out] at ho28)); have HO109 := Aside0.mk (Kd.R_lower ho28 (below_size (upB HB.out))); replace BK106 := Aside0.mk (blk_below (g := gb106) (o := .cells #[.int .i64 0, .slice none 0 0] 26 (0, 0)) (upK BK106.out) hb); replace HB := Aside0.mk (below_step (upB HB.out) hb); clear hb ho28; obtain ⟨Ao29, co29, eo29⟩ := Kd.R_slice HO109.out; subst eo29) | ((with_reducible refine gate_callee (f := 43) rfl ?_); refine goesL_ (some 13) rfl rfl Try.func43 (by kernel_rfl) rfl #[.int .i64 0, .int .i64 65535, .slice Ao29 y107.length co29] rfl upL ?_; (with_reducible refine (headseg_within.calls k 0 65535 _ _ y107 false _ ?side1 ?side2 A7.out).mono ?_); (case side1 => repeat (first | exact (Kd.R_reads' HO109.out).2.2 | (with_reducible refine Kd.C_alloc ?_ _) | (with_reducible refine Kd.C_drewN ?_ _) | (with_reducible refine Kd.C_drew ?_))); (case side2 => exact (Kd.R_reads' HO109.out).2.1); rintro e w' ⟨rfl, ⟨nd, rfl⟩⟩; refine ⟨_, rfl, ?_⟩))
      go_meet
      case rel => exact ⟨_, (true), (by first | rfl | (simp; done) | (simp [*]; done)), H', ⟨by first | omega | exact Nat.le_refl _⟩, ⟨by (with_reducible repeat (first | refine blk_drewN ?_ _ | refine blk_drew ?_ | refine blk_alloc ?_ _)); exact BK106.out⟩, ⟨by repeat (first | (with_reducible first | exact HB.out | apply below_alloc | apply pw_below_drewN | apply below_drew1 | refine below_set ?_ GE106.out) | exact HB.out)⟩⟩
  case rest =>
    clear HC5
    try clear c1
    try clear p2
    try clear c4
    try clear c8
    try clear c10
    try clear c18
    obtain ⟨kq, x27_4, rfl, HA, HJ4, BK106, HB⟩ := hcut
    cases kq with
    | zero => exact absurd HA.out (by simp [headseg_Tile.j0])
    | succ kj4 =>
      have H := HA.out
      clear HA
      simp only [headseg_Tile.j0] at H
      by_cases c30 : x27_4 = true
      · subst c30
        have H1 : (some (0, ([] : List Int), 2)) = some (r1, r2, r3) := by rw [if_pos rfl] at H; exact H
        clear H
        have H := H1
        clear H1
        simp only [Option.some.injEq, Prod.mk.injEq] at H
        obtain ⟨rfl, rfl, rfl⟩ := H
        have hcz31_0 : wc.cell? ⟨gb106, 0, none⟩ = some (.int .i64 0) := bc BK106 0
        have hcz31_1 : wc.cell? ⟨gb106, 1, none⟩ = some (.slice none 0 0) := bc BK106 1
        have hfz31_0 := blk_frozen BK106.out 0
        have hfz31_1 := blk_frozen BK106.out 1
        go_wp2
        refine bodyPost_ret (results_ct rfl _ _ gb106 26 #[.int .i64 0, .slice none 0 0] (0, 0) _ rfl (by (with_reducible repeat (first | refine blk_drewN ?_ _ | refine blk_drew ?_ | refine blk_alloc ?_ _)); refine blk_put (cs := #[.int .i64 0, .slice none 0 0]) ?_ 1 _ rfl; (with_reducible repeat (first | refine blk_drewN ?_ _ | refine blk_drew ?_ | refine blk_alloc ?_ _)); refine blk_put (cs := #[.int .i64 0, .slice none 0 0]) ?_ 0 _ rfl; (with_reducible repeat (first | refine blk_drewN ?_ _ | refine blk_drew ?_ | refine blk_alloc ?_ _)); exact BK106.out) Try.underlying26 rfl (by kernel_rfl)) rfl ?_
        exact ⟨_, by first | rfl | (simp [errW_none, errW_some] <;> rfl) | (simp [*, errW_none, errW_some] <;> rfl), by first | exact Kd.R_nil _ _ _ _ _ | exact Kd.N_nil _ _ _ _ _ | exact Kd.V_nil _ _ _ _ _ | exact Kd.Q_nil _ _ _ _ _ | exact Kd.S_nil _ _ _ _ _, by repeat (first | (with_reducible first | exact HB.out | apply below_alloc | apply pw_below_drewN | apply below_drew1 | refine below_set ?_ GE106.out) | exact HB.out)⟩
      · replace c30 := Bool.eq_false_iff.mpr c30
        subst c30
        have H1 : ((headseg_put.f kj4 ([] : List Int) 2 a0).bind fun t119 => ((some (([(a1) % 256, (a2) % 256] : List Int) : List Int)).bind fun y122 => (if t119.length + y122.length < 140737488355328 then ((headseg_put.f kj4 (t119 ++ y122) 4 a3).bind fun t128 => (some (65456, t128, 0))) else (none)))) = some (r1, r2, r3) := by rw [if_neg (show ¬ (false = true) by decide)] at H; exact H
        clear H
        have H := H1
        clear H1
        replace H := Option.bind_eq_some_iff.mp H
        obtain ⟨t119, A320, H⟩ := H
        replace H : ((some (([(a1) % 256, (a2) % 256] : List Int) : List Int)).bind fun y122 => (if t119.length + y122.length < 140737488355328 then ((headseg_put.f kj4 (t119 ++ y122) 4 a3).bind fun t128 => (some (65456, t128, 0))) else (none))) = some (r1, r2, r3) := H
        have A32 := Aside0.mk A320
        clear A320
        obtain ⟨y122, hy122⟩ : ∃ y_ : List Int, y_ = (([(a1) % 256, (a2) % 256] : List Int)) := ⟨_, rfl⟩
        replace H : (if t119.length + y122.length < 140737488355328 then ((headseg_put.f kj4 (t119 ++ y122) 4 a3).bind fun t128 => (some (65456, t128, 0))) else (none)) = some (r1, r2, r3) := by first | (rw [hy122]; with_reducible exact H) | (have H2_ := (Option.bind_some _ _).symm.trans H; rw [hy122]; with_reducible exact H2_) | (have H2_ := (Option.bind_some _ _).symm.trans H; with_reducible exact H2_) | with_reducible exact H | (rw [hy122]; exact H) | exact H
        have Ny122 := Aside0.mk hy122
        clear hy122
        by_cases c33 : t119.length + y122.length < 140737488355328
        · rw [if_pos c33] at H
          have LMc33 := Aside0.mk c33
          clear c33
          obtain ⟨y125, hy125⟩ : ∃ y_ : List Int, y_ = (t119 ++ y122) := ⟨_, rfl⟩
          replace H : ((headseg_put.f kj4 y125 4 a3).bind fun t128 => (some (65456, t128, 0))) = some (r1, r2, r3) := by first | (rw [hy125]; with_reducible exact H) | (have H2_ := (Option.bind_some _ _).symm.trans H; rw [hy125]; with_reducible exact H2_) | (have H2_ := (Option.bind_some _ _).symm.trans H; with_reducible exact H2_) | with_reducible exact H | (rw [hy125]; exact H) | exact H
          have Ny125 := Aside0.mk hy125
          clear hy125
          replace H := Option.bind_eq_some_iff.mp H
          obtain ⟨t128, A340, H⟩ := H
          replace H : (some (65456, t128, 0)) = some (r1, r2, r3) := H
          have A34 := Aside0.mk A340
          clear A340
          simp only [Option.some.injEq, Prod.mk.injEq] at H
          obtain ⟨rfl, rfl, rfl⟩ := H
          go_wp2_with (first | ((with_reducible refine gate_callee (f := 44) rfl ?_); refine goesL_ (some 30) rfl rfl Try.func44 (by kernel_rfl) rfl #[.slice none 0 0, .int .i64 2, .int .i64 a0] rfl upL ?_; (refine (headseg_put.calls kj4 (fun k_ => some k_ = (.slice none 0 0 : Value).ownBlock) (.slice none 0 0) ([] : List Int) 2 a0 t119 w _ ?side1 ?side2 A32.out).mono ?_); (case side1 => repeat (first | (with_reducible first | exact HB.out | apply below_alloc | apply pw_below_drewN | apply below_drew1 | refine below_set ?_ GE106.out) | exact HB.out)); (case side2 => exact Kd.R_nil _ _ _ _ _); rintro e w35 ⟨v120, rfl, ho0, hb, hkp⟩; refine ⟨_, rfl, ?_⟩; replace BK106 := Aside0.mk (blk_kept (upK BK106.out) hkp (fun hs_ => (fun e_ => by simp [Value.ownBlock] at e_) hs_)); have HO121 := Aside0.mk (Kd.R_mono (ok' := fun k_ => True) ho0 (fun k_ hk_ => trivial)); replace HB := Aside0.mk (hb); (try clear hb; try clear hkp; try clear ho0)) | ((with_reducible refine gate_dst (N := 36) rfl ?_); (try (refine gate_guard (by rfl) ?_; dsimp only)); refine Kd.R_lit (Kd.int .u8) _ 5 ?hg (N := 36) ?hd (xs := ([(a1) % 256, (a2) % 256] : List Int)) (inner := [.int .u8 ((a1) % 256), .int .u8 ((a2) % 256)]) (ok := fun _ => True) (okp := fun _ => True) ?hr ?hp (fun _ hk => hk) trivial (Below.refl _ _) (Nat.le_refl _) (by simp) ?_; (case hd => rfl); (case hg => rfl); (case hr => first | (go_simp; done) | (go_simp; rfl)); (case hp => exact (Reps.one (show Kd.M (Kd.int .u8) _ _ _ ((a1) % 256) [.int .u8 ((a1) % 256)] from rfl) (Reps.one (show Kd.M (Kd.int .u8) _ _ _ ((a2) % 256) [.int .u8 ((a2) % 256)] from rfl) (Reps.none _ _)))); intro v123 w36 ho37 hb hg_ hnew_; clear hg_ hnew_; (first | rw [← Ny122.out] at ho37 | (simp only [Int.reduceToNat] at ho37; rw [← Ny122.out] at ho37)); have HO124 := Aside0.mk (Kd.R_lower (Kd.R_new' ho37 (Kd.R_lt (upR HO121.out))) (below_size (upB HB.out))); replace HO121 := Aside0.mk (Kd.R_elder' (upR HO121.out) (Kd.R_base ho37) hb); replace BK106 := Aside0.mk (blk_below (g := gb106) (o := .cells #[.int .i64 0, .slice none 0 0] 26 (0, 0)) (upK BK106.out) hb); replace HB := Aside0.mk (below_step (upB HB.out) hb); clear hb ho37; obtain ⟨Ao39, co39, eo39⟩ := Kd.R_slice HO124.out; subst eo39) | ((with_reducible refine gate_builtin (b := .append) (xs := #[.tmp 31, .tmp 36]) rfl ?_); (try (refine gate_guard (by rfl) ?_; dsimp only)); at_builtin; refine Kd.R_append_rows (Kd.int .u8) (w0 := w) w.heap.size rfl (.tmp 31) (.tmp 36) 24 5 (.int .u8 0) 1 rfl Try.underlying24 info5 rfl (by decide) (by omega) v120 t119 y122 _ _ _ (fun k_ => some k_ ≠ (.slice Ao39 y122.length co39 : Value).ownBlock) (fun _ => False) rfl rfl ?aO ?aR (fun _ _ h => h) (fun _ h => h.elim) ?aF ?aB ?aS ?aL ?_; (case aR => repeat (first | exact (Kd.R_reads' HO124.out).2.2 | (with_reducible refine Kd.C_alloc ?_ _) | (with_reducible refine Kd.C_drewN ?_ _) | (with_reducible refine Kd.C_drew ?_))); (case aB => exact (upB HB.out)); (case aF => exact (fun k_ hk => Kd.fresh' (Kd.R_lt (upR HO124.out)) k_ hk)); (case aO => exact (by (with_reducible repeat (first | apply Kd.R_alloc | apply Kd.R_drewN | apply Kd.R_drew)); exact Kd.R_mono HO121.out (fun _ hk => hk.2))); (case aS => exact (below_size (upB HB.out))); (case aL => have := LMc33.out; omega); intro v126 w38 ho hb hg hat; rw [← Ny125.out] at ho; have n0_ := Aside0.mk (blk_grown (g := gb106) (o := .cells #[.int .i64 0, .slice none 0 0] 26 (0, 0)) (upK BK106.out) hg (Kd.R_ne HO121.out BK106.out (by decide))); have n1_ := Aside0.mk (Kd.R_after (ok := (fun _ => True)) (upR HO124.out) hg hat); have n2_ := Aside0.mk (hb); have n3_ := Aside0.mk (ho); clear BK106 HO124 HB HO121; have BK106 := n0_; have HO124 := n1_; have HB := n2_; have HO127 := n3_; clear n0_ n1_ n2_ n3_; clear ho hb hg hat; obtain ⟨Ao40, co40, eo40⟩ := Kd.R_slice HO127.out; subst eo40) | ((with_reducible refine gate_callee (f := 44) rfl ?_); refine goesL_ (some 40) rfl rfl Try.func44 (by kernel_rfl) rfl #[.slice Ao40 y125.length co40, .int .i64 4, .int .i64 a3] rfl upL ?_; (with_reducible refine (headseg_put.calls kj4 (fun k_ => some k_ = (.slice Ao40 y125.length co40 : Value).ownBlock) (.slice Ao40 y125.length co40) y125 4 a3 t128 w _ ?side1 ?side2 A34.out).mono ?_); (case side1 => repeat (first | (with_reducible first | exact HB.out | apply below_alloc | apply pw_below_drewN | apply below_drew1 | refine below_set ?_ GE106.out) | exact HB.out)); (case side2 => exact Kd.R_tight rfl HO127.out); rintro e w41 ⟨v129, rfl, ho0, hb, hkp⟩; refine ⟨_, rfl, ?_⟩; have n0_ := Aside0.mk (blk_kept (upK BK106.out) hkp (fun hs_ => (fun e_ => (Kd.R_ne HO127.out BK106.out (by decide)) e_) hs_)); have n1_ := Aside0.mk (Kd.R_mono (ok' := fun k_ => some k_ ≠ (v129 : Value).ownBlock) (Kd.R_keptB (HO124.out) hkp (fun k_ hk_ hs_ => (hk_.2) hs_)) (fun k_ hk_ => fun e_ => Or.elim (ho0.1 k_ e_.symm) (fun hs_ => hk_.2.1 hs_) (fun hn_ => Nat.not_le.2 hk_.2.2 hn_))); have n2_ := Aside0.mk (Kd.R_mono (ok' := fun k_ => some k_ ≠ (.slice Ao39 y122.length co39 : Value).ownBlock) ho0 (fun k_ hk_ => Or.elim hk_ (fun hs_ => fun e_ => (((HO124.out).1 k_ e_.symm).2) hs_) (fun hn_ => (Kd.fresh' (Kd.R_lt (upR HO124.out)) k_ hn_)))); have n3_ := Aside0.mk (hb); clear BK106 HO124 HB HO127; have BK106 := n0_; have HO124 := n1_; have HO130 := n2_; have HB := n3_; clear n0_ n1_ n2_ n3_; (try clear hb; try clear hkp; try clear ho0); obtain ⟨Ao42, co42, eo42⟩ := Kd.R_slice HO130.out; subst eo42; have hcz43_0 : w41.cell? ⟨gb106, 0, none⟩ = some (.int .i64 0) := bc BK106 0; have hcz43_1 : w41.cell? ⟨gb106, 1, none⟩ = some (.slice none 0 0) := bc BK106 1; have hfz43_0 := blk_frozen BK106.out 0; have hfz43_1 := blk_frozen BK106.out 1))
          refine bodyPost_ret (results_ct rfl _ _ gb106 26 #[.int .i64 65456, .slice Ao42 t128.length co42] (0, 0) _ rfl (by (with_reducible repeat (first | refine blk_drewN ?_ _ | refine blk_drew ?_ | refine blk_alloc ?_ _)); refine blk_put (cs := #[.int .i64 65456, .slice none 0 0]) ?_ 1 _ rfl; (with_reducible repeat (first | refine blk_drewN ?_ _ | refine blk_drew ?_ | refine blk_alloc ?_ _)); refine blk_put (cs := #[.int .i64 0, .slice none 0 0]) ?_ 0 _ rfl; (with_reducible repeat (first | refine blk_drewN ?_ _ | refine blk_drew ?_ | refine blk_alloc ?_ _)); exact BK106.out) Try.underlying26 rfl (by kernel_rfl)) rfl ?_
          exact ⟨_, by first | rfl | (simp [errW_none, errW_some] <;> rfl) | (simp [*, errW_none, errW_some] <;> rfl), by (with_reducible repeat (first | apply Kd.R_alloc | apply Kd.R_drewN | apply Kd.R_drew)); exact Kd.R_mono (Kd.R_far (Kd.R_far (Kd.R_types HO130.out BK106.out (by decide)) (fun _ hk => hk.2) _) (fun _ hk => hk.2) _) (fun _ hk => trivial), by repeat (first | (with_reducible first | exact HB.out | apply below_alloc | apply pw_below_drewN | apply below_drew1 | refine below_set ?_ GE106.out) | exact HB.out)⟩
        · rw [if_neg c33] at H
          exact absurd H (by simp)

end Go.Proofs.Ytihfopblmjgfaaa.Q

/- Printed walk, shortened (wip/tools/unmerge.py). -/
namespace Go.Proofs.Ytihfopblmjgfaaa.Q
open Go.RowKit Go.Proofs.YtihfopblmjgfaaaW.PrintWords Go.Proofs.YtihfopblmjgfaaaW.PrintLast Go.Proofs.YtihfopblmjgfaaaW.PrintMore
attribute [local go_sem] max2_int min2_int max_two min_two max_three min_three max_four min_four   -- for this text's walks alone
set_option linter.unusedVariables false
set_option linter.unusedSimpArgs false

/-! ### headseg_Lengths: function 22 -/
mutual
def headseg_Lengths.j0 : Nat → Int → List Int → Bool → Option ((List (S26)) × Int)
  | 0, _, _, _ => none
  | k + 1, x0, x1, x16 => if x16 = true then (some (([] : List (S26)), 3)) else (if (x1.length : Int) > 4096000 then (some (([] : List (S26)), 5)) else ((headseg_within.f k 0 4294967295 x1).bind fun t139 => (if t139 = true then (headseg_Lengths.l0 k x0 x1 ([] : List (S26)) 0) else (some (([] : List (S26)), 2)))))
def headseg_Lengths.l0 : Nat → Int → List Int → List (S26) → Int → Option ((List (S26)) × Int)
  | 0, _, _, _, _ => none
  | k + 1, x0, x1, x6, x7 => if x7 = 0 then (headseg_Lengths.j2 k x0 x1 x6 x7 true) else (headseg_Lengths.j2 k x0 x1 x6 x7 (decide (x7 < (x1.length : Int))))
def headseg_Lengths.j2 : Nat → Int → List Int → List (S26) → Int → Bool → Option ((List (S26)) × Int)
  | 0, _, _, _, _, _ => none
  | k + 1, x0, x1, x6, x7, x30 => if x30 = true then (if 0 ≤ x7 then (if x7 ≤ (mn (wrap64 (x7 + 16000)) (x1.length : Int)) then (if (mn (wrap64 (x7 + 16000)) (x1.length : Int)) ≤ (x1.length : Int) then (headseg_Lengths.l1 k x0 x1 x6 x7 (([(wrap64 (Int.tdiv x7 16000)) % 256] : List Int)) ((x1.take ((mn (wrap64 (x7 + 16000)) (x1.length : Int)) : Int).toNat).drop (x7 : Int).toNat) (((x1.take ((mn (wrap64 (x7 + 16000)) (x1.length : Int)) : Int).toNat).drop (x7 : Int).toNat).length : Int) 0) else (none)) else (none)) else (none)) else (some (x6, 0))
def headseg_Lengths.l1 : Nat → Int → List Int → List (S26) → Int → List Int → List Int → Int → Int → Option ((List (S26)) × Int)
  | 0, _, _, _, _, _, _, _, _ => none
  | k + 1, x0, x1, x6, x7, x8, x44, x45, x46 => if x46 < x45 then (if 0 ≤ x46 then (if x46 < (x44.length : Int) then ((headseg_put.f k x8 4 (rd x44 x46)).bind fun t145 => (headseg_Lengths.l1 k x0 x1 x6 x7 t145 x44 x45 (wrap64 (x46 + 1)))) else (none)) else (none)) else (if x6.length < 4398046511104 then (headseg_Lengths.l0 k x0 x1 (x6 ++ [(⟨x0, x8⟩ : S26)]) (wrap64 (x7 + 16000))) else (none))
end
def headseg_Lengths.f (k : Nat) (a0 : Int) (l1 : List Int) : Option ((List (S26)) × Int) := if a0 = 65445 then (headseg_Lengths.j0 k a0 l1 false) else (headseg_Lengths.j0 k a0 l1 (a0 != 65457))
theorem headseg_Lengths.mono_l : ∀ k, (∀ y0 y1 y2, LeO (headseg_Lengths.j0 k y0 y1 y2) (headseg_Lengths.j0 (k + 1) y0 y1 y2)) ∧ (∀ y0 y1 y2 y3, LeO (headseg_Lengths.l0 k y0 y1 y2 y3) (headseg_Lengths.l0 (k + 1) y0 y1 y2 y3)) ∧ (∀ y0 y1 y2 y3 y4, LeO (headseg_Lengths.j2 k y0 y1 y2 y3 y4) (headseg_Lengths.j2 (k + 1) y0 y1 y2 y3 y4)) ∧ (∀ y0 y1 y2 y3 y4 y5 y6 y7, LeO (headseg_Lengths.l1 k y0 y1 y2 y3 y4 y5 y6 y7) (headseg_Lengths.l1 (k + 1) y0 y1 y2 y3 y4 y5 y6 y7))
  | 0 => ⟨fun _ _ _ r h => by simp [headseg_Lengths.j0] at h, fun _ _ _ _ r h => by simp [headseg_Lengths.l0] at h, fun _ _ _ _ _ r h => by simp [headseg_Lengths.j2] at h, fun _ _ _ _ _ _ _ _ r h => by simp [headseg_Lengths.l1] at h⟩
  | k + 1 => by
    obtain ⟨ih0, ih1, ih2, ih3⟩ := headseg_Lengths.mono_l k
    refine ⟨?_, ?_, ?_, ?_⟩
    · intro y0 y1 y2
      unfold headseg_Lengths.j0
      repeat' first
      | (with_reducible exact ih0 _ _ _)
      | (with_reducible exact ih1 _ _ _ _)
      | (with_reducible exact ih2 _ _ _ _ _)
      | (with_reducible exact ih3 _ _ _ _ _ _ _ _)
      | (with_reducible exact headseg_put.mono _ _ _ _)
      | (with_reducible exact headseg_within.mono _ _ _ _)
      | (with_reducible exact LeO.refl _)
      | (with_reducible exact LeO.none _)
      | (with_reducible refine LeO.ite ?_ ?_)
      | (with_reducible refine LeO.bind ?_ (fun _ => ?_))
      | exact ih0 _ _ _
      | exact ih1 _ _ _ _
      | exact ih2 _ _ _ _ _
      | exact ih3 _ _ _ _ _ _ _ _
      | exact headseg_put.mono _ _ _ _
      | exact headseg_within.mono _ _ _ _
      | exact LeO.none _
      | refine LeO.ite ?_ ?_
      | refine LeO.bind ?_ (fun _ => ?_)
    · intro y0 y1 y2 y3
      unfold headseg_Lengths.l0
      repeat' first
      | (with_reducible exact ih0 _ _ _)
      | (with_reducible exact ih1 _ _ _ _)
      | (with_reducible exact ih2 _ _ _ _ _)
      | (with_reducible exact ih3 _ _ _ _ _ _ _ _)
      | (with_reducible exact headseg_put.mono _ _ _ _)
      | (with_reducible exact headseg_within.mono _ _ _ _)
      | (with_reducible exact LeO.refl _)
      | (with_reducible exact LeO.none _)
      | (with_reducible refine LeO.ite ?_ ?_)
      | (with_reducible refine LeO.bind ?_ (fun _ => ?_))
      | exact ih0 _ _ _
      | exact ih1 _ _ _ _
      | exact ih2 _ _ _ _ _
      | exact ih3 _ _ _ _ _ _ _ _
      | exact headseg_put.mono _ _ _ _
      | exact headseg_within.mono _ _ _ _
      | exact LeO.none _
      | refine LeO.ite ?_ ?_
      | refine LeO.bind ?_ (fun _ => ?_)
    · intro y0 y1 y2 y3 y4
      unfold headseg_Lengths.j2
      repeat' first
      | (with_reducible exact ih0 _ _ _)
      | (with_reducible exact ih1 _ _ _ _)
      | (with_reducible exact ih2 _ _ _ _ _)
      | (with_reducible exact ih3 _ _ _ _ _ _ _ _)
      | (with_reducible exact headseg_put.mono _ _ _ _)
      | (with_reducible exact headseg_within.mono _ _ _ _)
      | (with_reducible exact LeO.refl _)
      | (with_reducible exact LeO.none _)
      | (with_reducible refine LeO.ite ?_ ?_)
      | (with_reducible refine LeO.bind ?_ (fun _ => ?_))
      | exact ih0 _ _ _
      | exact ih1 _ _ _ _
      | exact ih2 _ _ _ _ _
      | exact ih3 _ _ _ _ _ _ _ _
      | exact headseg_put.mono _ _ _ _
      | exact headseg_within.mono _ _ _ _
      | exact LeO.none _
      | refine LeO.ite ?_ ?_
      | refine LeO.bind ?_ (fun _ => ?_)
    · intro y0 y1 y2 y3 y4 y5 y6 y7
      unfold headseg_Lengths.l1
      repeat' first
      | (with_reducible exact ih0 _ _ _)
      | (with_reducible exact ih1 _ _ _ _)
      | (with_reducible exact ih2 _ _ _ _ _)
      | (with_reducible exact ih3 _ _ _ _ _ _ _ _)
      | (with_reducible exact headseg_put.mono _ _ _ _)
      | (with_reducible exact headseg_within.mono _ _ _ _)
      | (with_reducible exact LeO.refl _)
      | (with_reducible exact LeO.none _)
      | (with_reducible refine LeO.ite ?_ ?_)
      | (with_reducible refine LeO.bind ?_ (fun _ => ?_))
      | exact ih0 _ _ _
      | exact ih1 _ _ _ _
      | exact ih2 _ _ _ _ _
      | exact ih3 _ _ _ _ _ _ _ _
      | exact headseg_put.mono _ _ _ _
      | exact headseg_within.mono _ _ _ _
      | exact LeO.none _
      | refine LeO.ite ?_ ?_
      | refine LeO.bind ?_ (fun _ => ?_)
theorem headseg_Lengths.mono : ∀ a0 a1 k, LeO (headseg_Lengths.f k a0 a1) (headseg_Lengths.f (k + 1) a0 a1) := by
  intro a0 a1 k
  obtain ⟨ih0, ih1, ih2, ih3⟩ := headseg_Lengths.mono_l k
  unfold headseg_Lengths.f
  repeat' first
      | (with_reducible exact ih0 _ _ _)
      | (with_reducible exact ih1 _ _ _ _)
      | (with_reducible exact ih2 _ _ _ _ _)
      | (with_reducible exact ih3 _ _ _ _ _ _ _ _)
      | (with_reducible exact headseg_put.mono _ _ _ _)
      | (with_reducible exact headseg_within.mono _ _ _ _)
      | (with_reducible exact LeO.refl _)
      | (with_reducible exact LeO.none _)
      | (with_reducible refine LeO.ite ?_ ?_)
      | (with_reducible refine LeO.bind ?_ (fun _ => ?_))
      | exact ih0 _ _ _
      | exact ih1 _ _ _ _
      | exact ih2 _ _ _ _ _
      | exact ih3 _ _ _ _ _ _ _ _
      | exact headseg_put.mono _ _ _ _
      | exact headseg_within.mono _ _ _ _
      | exact LeO.none _
      | refine LeO.ite ?_ ?_
      | refine LeO.bind ?_ (fun _ => ?_)
set_option maxHeartbeats 8000000 in
set_option maxRecDepth 100000 in
theorem headseg_Lengths.calls (k : Nat) (a0 : Int) (A1 : Option Addr) (c1 : Nat) (l1 : List Int) (r1 : List (S26)) (r2 : Int) (w : World) (hr1 : Kd.C (Kd.int .i64) w A1 l1.length l1) (hc1 : l1.length ≤ c1) (h : headseg_Lengths.f k a0 l1 = some (r1, r2)) :
    Calls Try.prog 22 #[.int .i64 a0, .slice A1 l1.length c1] w fun e w' => ∃ v0_ : Value, e = .returned (.tuple #[v0_, .int .i64 r2]) ∧ Kd.S k26 26 w' w.heap.size (fun _ => True) v0_ r1 ∧ Below w.heap.size w w' := by
  have hu26 := Try.underlying26
  have HR1 := Aside0.mk hr1
  have HC1 := Aside0.mk hc1
  clear hr1 hc1
  have HB := Aside0.mk (Below.refl w.heap.size w)
  have H : (if a0 = 65445 then (headseg_Lengths.j0 k a0 l1 false) else (headseg_Lengths.j0 k a0 l1 (a0 != 65457))) = some (r1, r2) := h
  clear h
  have HC3 := Aside0.mk H
  clear H
  go_enter Try.func22, Try.ntmps22
  go_upto_region 1 with (fail)
  go_cut [16] (fun v16 wc => ∃ (kq : Nat) (x16_2 : Bool), v16 = .bool x16_2 ∧ Aside0 (headseg_Lengths.j0 kq a0 l1 x16_2 = some (r1, r2)) ∧ Aside0 (kq ≤ k) ∧ Aside0 (Below w.heap.size w wc))
  case first =>
    have H := HC3.out
    clear HC3
    by_cases c4 : a0 = 65445
    · rw [if_pos c4] at H
      have c4b0 : (a0 == 65445) = true := beq_iff_eq.mpr c4
      have c4b1 : (a0 != 65445) = false := bne_eq_false_iff_eq.mpr c4
      clear c4
      (first | rw [c4b0] | (simp only [i64_w, i32_w]; rw [c4b0]) | skip)
      have H' := Aside0.mk H
      clear H
      go_wp2
      go_meet
      case rel => exact ⟨_, (false), (by first | rfl | (simp; done) | (simp [*]; done)), H', ⟨by first | omega | exact Nat.le_refl _⟩, ⟨by repeat (first | (with_reducible first | exact HB.out | apply below_alloc | apply pw_below_drewN | apply below_drew1) | exact HB.out)⟩⟩
    · rw [if_neg c4] at H
      have c4b0 : (a0 == 65445) = false := beq_eq_false_iff_ne.mpr c4
      have c4b1 : (a0 != 65445) = true := bne_iff_ne.mpr c4
      (first | rw [c4b0] | (simp only [i64_w, i32_w]; rw [c4b0]) | skip)
      have H' := Aside0.mk H
      clear H
      go_wp2
      go_meet
      case rel => exact ⟨_, ((a0 != 65457)), (by first | rfl | (simp; done) | (simp [*]; done)), H', ⟨by first | omega | exact Nat.le_refl _⟩, ⟨by repeat (first | (with_reducible first | exact HB.out | apply below_alloc | apply pw_below_drewN | apply below_drew1) | exact HB.out)⟩⟩
  case rest =>
    clear HC3
    try clear c1
    try clear c2
    try clear p2
    try clear c4
    try clear c4b0
    try clear c4b1
    obtain ⟨kq, x16_2, rfl, HA, HJ2, HB⟩ := hcut
    cases kq with
    | zero => exact absurd HA.out (by simp [headseg_Lengths.j0])
    | succ kj2 =>
      have H := HA.out
      clear HA
      simp only [headseg_Lengths.j0] at H
      by_cases c5 : x16_2 = true
      · subst c5
        have H1 : (some (([] : List (S26)), 3)) = some (r1, r2) := by rw [if_pos rfl] at H; exact H
        clear H
        have H := H1
        clear H1
        simp only [Option.some.injEq, Prod.mk.injEq] at H
        obtain ⟨rfl, rfl⟩ := H
        go_wp2
        go_ret2
        exact ⟨_, by first | rfl | (simp [errW_none, errW_some] <;> rfl) | (simp [*, errW_none, errW_some] <;> rfl), by first | exact Kd.S_nil _ _ _ _ _ | exact Kd.N_nil _ _ _ _ _ | exact Kd.V_nil _ _ _ _ _ | exact Kd.Q_nil _ _ _ _ _ | exact Kd.R_nil _ _ _ _ _, by repeat (first | (with_reducible first | exact HB.out | apply below_alloc | apply pw_below_drewN | apply below_drew1) | exact HB.out)⟩
      · replace c5 := Bool.eq_false_iff.mpr c5
        subst c5
        have H1 : (if (l1.length : Int) > 4096000 then (some (([] : List (S26)), 5)) else ((headseg_within.f kj2 0 4294967295 l1).bind fun t139 => (if t139 = true then (headseg_Lengths.l0 kj2 a0 l1 ([] : List (S26)) 0) else (some (([] : List (S26)), 2))))) = some (r1, r2) := by rw [if_neg (show ¬ (false = true) by decide)] at H; exact H
        clear H
        have H := H1
        clear H1
        by_cases c6 : (l1.length : Int) > 4096000
        · rw [if_pos c6] at H
          have c6b0 : decide (4096000 < (l1.length : Int)) = true := decide_eq_true c6
          have c6b1 : decide (4096000 < l1.length) = true := decide_eq_true (by omega)
          clear c6
          simp only [Option.some.injEq, Prod.mk.injEq] at H
          obtain ⟨rfl, rfl⟩ := H
          go_wp2
          go_ret2
          exact ⟨_, by first | rfl | (simp [errW_none, errW_some] <;> rfl) | (simp [*, errW_none, errW_some] <;> rfl), by first | exact Kd.S_nil _ _ _ _ _ | exact Kd.N_nil _ _ _ _ _ | exact Kd.V_nil _ _ _ _ _ | exact Kd.Q_nil _ _ _ _ _ | exact Kd.R_nil _ _ _ _ _, by repeat (first | (with_reducible first | exact HB.out | apply below_alloc | apply pw_below_drewN | apply below_drew1) | exact HB.out)⟩
        · rw [if_neg c6] at H
          have c6b0 : decide (4096000 < (l1.length : Int)) = false := decide_eq_false c6
          have c6b1 : decide (4096000 < l1.length) = false := decide_eq_false (by omega)
          clear c6
          replace H := Option.bind_eq_some_iff.mp H
          obtain ⟨t139, A70, H⟩ := H
          replace H : (if t139 = true then (headseg_Lengths.l0 kj2 a0 l1 ([] : List (S26)) 0) else (some (([] : List (S26)), 2))) = some (r1, r2) := H
          have A7 := Aside0.mk A70
          clear A70
          by_cases c8 : t139 = true
          · subst c8
            have H1 : (headseg_Lengths.l0 kj2 a0 l1 ([] : List (S26)) 0) = some (r1, r2) := by rw [if_pos rfl] at H; exact H
            clear H
            have H := H1
            clear H1
            have H' := Aside0.mk H
            clear H
            go_wp2_with (first | ((with_reducible refine gate_callee (f := 43) rfl ?_); refine goesL_ (some 21) rfl rfl Try.func43 (by kernel_rfl) rfl #[.int .i64 0, .int .i64 4294967295, .slice A1 l1.length c1] rfl upL ?_; (with_reducible refine (headseg_within.calls kj2 0 4294967295 _ _ l1 true _ ?side1 ?side2 A7.out).mono ?_); (case side1 => repeat (first | exact (Kd.C_below HR1.out HB.out) | (with_reducible refine Kd.C_alloc ?_ _) | (with_reducible refine Kd.C_drewN ?_ _) | (with_reducible refine Kd.C_drew ?_))); (case side2 => exact HC1.out); rintro e w' ⟨rfl, ⟨nd, rfl⟩⟩; refine ⟨_, rfl, ?_⟩))
            go_loopg [6, 7] kj2 (fun kq v6 v7 w' => ∃ (x6_2 : List (S26)) (x7_2 : Int), v7 = .int .i64 x7_2 ∧ Aside0 (headseg_Lengths.l0 kq a0 l1 x6_2 x7_2 = some (r1, r2)) ∧ Aside0 (kq ≤ kj2) ∧ Aside0 (Kd.S k26 26 w' w.heap.size (fun _ => True) v6 x6_2) ∧ Aside0 (Below w.heap.size w w'))
            case atStart => exact ⟨(([] : List (S26))), (0), (by first | rfl | (simp; done) | (simp [*]; done)), H', ⟨Nat.le_refl _⟩, ⟨by first | exact Kd.S_nil _ _ _ _ _ | exact Kd.N_nil _ _ _ _ _ | exact Kd.V_nil _ _ _ _ _ | exact Kd.Q_nil _ _ _ _ _ | exact Kd.R_nil _ _ _ _ _⟩, ⟨by repeat (first | (with_reducible first | exact HB.out | apply below_alloc | apply pw_below_drewN | apply below_drew1) | exact HB.out)⟩⟩
            case round =>
              clear H'
              try clear c1
              try clear c2
              try clear p2
              try clear c4
              try clear c4b0
              try clear c4b1
              try clear c5
              try clear c6
              try clear c6b0
              try clear c6b1
              try clear c8
              try clear p2
              obtain ⟨x6_2, x7_2, rfl, HA, HK2, HO_6, HB⟩ := hrel
              cases gk with
              | zero => exact absurd HA.out (by simp [headseg_Lengths.l0])
              | succ k2 =>
                have H := HA.out
                clear HA
                simp only [headseg_Lengths.l0] at H
                have HC9 := Aside0.mk H
                clear H
                go_upto_region 9 with (fail)
                go_cut [30] (fun v30 wc => ∃ (kq : Nat) (x30_8 : Bool), v30 = .bool x30_8 ∧ Aside0 (headseg_Lengths.j2 kq a0 l1 x6_2 x7_2 x30_8 = some (r1, r2)) ∧ Aside0 (kq ≤ k2) ∧ Aside0 (Kd.S k26 26 wc w.heap.size (fun _ => True) u6 x6_2) ∧ Aside0 (Below w.heap.size w wc))
                case first =>
                  have H := HC9.out
                  clear HC9
                  by_cases c10 : x7_2 = 0
                  · rw [if_pos c10] at H
                    have c10b0 : (x7_2 == 0) = true := beq_iff_eq.mpr c10
                    have c10b1 : (x7_2 != 0) = false := bne_eq_false_iff_eq.mpr c10
                    clear c10
                    (first | rw [c10b0] | (simp only [i64_w, i32_w]; rw [c10b0]) | skip)
                    have H' := Aside0.mk H
                    clear H
                    go_wp2
                    go_meet
                    case rel => exact ⟨_, (true), (by first | rfl | (simp; done) | (simp [*]; done)), H', ⟨by have := HJ2.out; have := HK2.out; first | omega | exact Nat.le_refl _⟩, ⟨by (with_reducible repeat (first | apply Kd.S_alloc | apply Kd.S_drewN | apply Kd.S_drew)); exact HO_6.out⟩, ⟨by repeat (first | (with_reducible first | exact HB.out | apply below_alloc | apply pw_below_drewN | apply below_drew1) | exact HB.out)⟩⟩
                  · rw [if_neg c10] at H
                    have c10b0 : (x7_2 == 0) = false := beq_eq_false_iff_ne.mpr c10
                    have c10b1 : (x7_2 != 0) = true := bne_iff_ne.mpr c10
                    (first | rw [c10b0] | (simp only [i64_w, i32_w]; rw [c10b0]) | skip)
                    have H' := Aside0.mk H
                    clear H
                    go_wp2
                    go_meet
                    case rel => exact ⟨_, (decide (x7_2 < (l1.length : Int))), (by first | rfl | (simp; done) | (simp [*]; done)), H', ⟨by have := HJ2.out; have := HK2.out; first | omega | exact Nat.le_refl _⟩, ⟨by (with_reducible repeat (first | apply Kd.S_alloc | apply Kd.S_drewN | apply Kd.S_drew)); exact HO_6.out⟩, ⟨by repeat (first | (with_reducible first | exact HB.out | apply below_alloc | apply pw_below_drewN | apply below_drew1) | exact HB.out)⟩⟩
                case rest =>
                  clear HC9
                  try clear c1
                  try clear c2
                  try clear p2
                  try clear c4
                  try clear c4b0
                  try clear c4b1
                  try clear c5
                  try clear c6
                  try clear c6b0
                  try clear c6b1
                  try clear c8
                  try clear c10
                  try clear c10b0
                  try clear c10b1
                  try clear p2
                  obtain ⟨kq, x30_8, rfl, HA, HJ8, HO_6, HB⟩ := hcut
                  cases kq with
                  | zero => exact absurd HA.out (by simp [headseg_Lengths.j2])
                  | succ kj8 =>
                    have H := HA.out
                    clear HA
                    simp only [headseg_Lengths.j2] at H
                    by_cases c11 : x30_8 = true
                    · subst c11
                      have H1 : (if 0 ≤ x7_2 then (if x7_2 ≤ (mn (wrap64 (x7_2 + 16000)) (l1.length : Int)) then (if (mn (wrap64 (x7_2 + 16000)) (l1.length : Int)) ≤ (l1.length : Int) then (headseg_Lengths.l1 kj8 a0 l1 x6_2 x7_2 (([(wrap64 (Int.tdiv x7_2 16000)) % 256] : List Int)) ((l1.take ((mn (wrap64 (x7_2 + 16000)) (l1.length : Int)) : Int).toNat).drop (x7_2 : Int).toNat) (((l1.take ((mn (wrap64 (x7_2 + 16000)) (l1.length : Int)) : Int).toNat).drop (x7_2 : Int).toNat).length : Int) 0) else (none)) else (none)) else (none)) = some (r1, r2) := by rw [if_pos rfl] at H; exact H
                      clear H
                      have H := H1
                      clear H1
                      obtain ⟨y140, hy140⟩ : ∃ y_ : List Int, y_ = (([(wrap64 (Int.tdiv x7_2 16000)) % 256] : List Int)) := ⟨_, rfl⟩
                      replace H : (if 0 ≤ x7_2 then (if x7_2 ≤ (mn (wrap64 (x7_2 + 16000)) (l1.length : Int)) then (if (mn (wrap64 (x7_2 + 16000)) (l1.length : Int)) ≤ (l1.length : Int) then (headseg_Lengths.l1 kj8 a0 l1 x6_2 x7_2 y140 ((l1.take ((mn (wrap64 (x7_2 + 16000)) (l1.length : Int)) : Int).toNat).drop (x7_2 : Int).toNat) (((l1.take ((mn (wrap64 (x7_2 + 16000)) (l1.length : Int)) : Int).toNat).drop (x7_2 : Int).toNat).length : Int) 0) else (none)) else (none)) else (none)) = some (r1, r2) := by first | (rw [hy140]; with_reducible exact H) | (have H2_ := (Option.bind_some _ _).symm.trans H; rw [hy140]; with_reducible exact H2_) | (have H2_ := (Option.bind_some _ _).symm.trans H; with_reducible exact H2_) | with_reducible exact H | (rw [hy140]; exact H) | exact H
                      have Ny140 := Aside0.mk hy140
                      clear hy140
                      obtain ⟨ji12, hji12⟩ : ∃ j_ : Int, (mn (wrap64 (x7_2 + 16000)) (l1.length : Int)) = j_ := ⟨_, rfl⟩
                      replace H : (if 0 ≤ x7_2 then (if x7_2 ≤ (ji12) then (if (ji12) ≤ (l1.length : Int) then (headseg_Lengths.l1 kj8 a0 l1 x6_2 x7_2 y140 ((l1.take ((ji12) : Int).toNat).drop (x7_2 : Int).toNat) (((l1.take ((ji12) : Int).toNat).drop (x7_2 : Int).toNat).length : Int) 0) else (none)) else (none)) else (none)) = some (r1, r2) := by first | (rw [hji12] at H; exact H) | (simp only [hji12] at H ⊢; exact H)
                      have hji12_ : (if (l1.length : Int) < (wrap64 (x7_2 + 16000)) then (l1.length : Int) else (wrap64 (x7_2 + 16000))) = ji12 := hji12
                      by_cases c13 : 0 ≤ x7_2
                      · rw [if_pos c13] at H
                        have c13b0 := eq_true c13
                        have c13b1 : decide (0 ≤ x7_2) = true := decide_eq_true c13
                        clear c13
                        by_cases c14 : x7_2 ≤ (ji12)
                        · rw [if_pos c14] at H
                          have c14b0 := eq_true c14
                          have c14b1 : decide (x7_2 ≤ (ji12)) = true := decide_eq_true c14
                          clear c14
                          by_cases c15 : (ji12) ≤ (l1.length : Int)
                          · rw [if_pos c15] at H
                            have c15b0 := eq_true c15
                            have c15b1 : decide ((ji12) ≤ (l1.length : Int)) = true := decide_eq_true c15
                            clear c15
                            have H' := Aside0.mk H
                            clear H
                            go_wp2_with (first | ((with_reducible refine gate_dst (N := 36) rfl ?_); (try (refine gate_guard (by rfl) ?_; dsimp only)); refine Kd.R_lit (Kd.int .u8) _ 5 ?hg (N := 36) ?hd (xs := ([(wrap64 (Int.tdiv x7_2 16000)) % 256] : List Int)) (inner := [.int .u8 ((wrap64 (Int.tdiv x7_2 16000)) % 256)]) (ok := fun _ => True) (okp := fun _ => True) ?hr ?hp (fun _ hk => hk) trivial (Below.refl _ _) (Nat.le_refl _) (by simp) ?_; (case hd => rfl); (case hg => rfl); (case hr => first | (go_simp; done) | (go_simp; rfl)); (case hp => exact (Reps.one (show Kd.M (Kd.int .u8) _ _ _ ((wrap64 (Int.tdiv x7_2 16000)) % 256) [.int .u8 ((wrap64 (Int.tdiv x7_2 16000)) % 256)] from rfl) (Reps.none _ _))); intro v141 w16 ho17 hb hg_ hnew_; clear hg_ hnew_; (first | rw [← Ny140.out] at ho17 | (simp only [Int.reduceToNat] at ho17; rw [← Ny140.out] at ho17)); replace HO_6 := Aside0.mk (Kd.S_elder' (by (with_reducible repeat (first | apply Kd.S_alloc | apply Kd.S_drewN | apply Kd.S_drew)); exact HO_6.out) (Kd.R_base ho17) hb); have HO142 := Aside0.mk (Kd.R_lower ho17 (below_size (upB HB.out))); replace HB := Aside0.mk (below_step (upB HB.out) hb); clear hb ho17; obtain ⟨i018, hi018, _, hsz18, _⟩ := info_parts info3; obtain ⟨A18, hcut18, hA18, hC18⟩ := print_mid_of (P := Try.prog) (Value.int .i64) 0 39 3 .i64 .i64 Try.underlying39 hi018 hsz18 A1 c1 l1 x7_2 (ji12) (of_decide_eq_true (by first | (with_reducible assumption) | assumption)) (by first | omega | exact of_decide_eq_true (by first | (with_reducible assumption) | assumption)) (of_decide_eq_true (by first | (with_reducible assumption) | assumption)) HC1.out; have HR143 := Aside0.mk (Kd.C_of_reads (h1 := fun _ => rfl) (hA18 _ (Kd.reads_of_C HR1.out))); have HC143 := Aside0.mk hC18; clear hA18 hC18 hi018 hsz18; (try (have HX18 := Aside0.mk (show ((l1.take (ji12 : Int).toNat).drop (x7_2 : Int).toNat).length = (ji12 : Int).toNat - (x7_2 : Int).toNat from (by have h_ : (ji12 : Int) ≤ (l1.length : Int) := of_decide_eq_true (by first | (with_reducible assumption) | assumption); rw [List.length_drop, List.length_take]; omega))))))
                            go_loopg [8, 46] kj8 (fun kq v8 v46 w' => ∃ (x8_4 : List Int) (x46_4 : Int), v46 = .int .i64 x46_4 ∧ Aside0 (headseg_Lengths.l1 kq a0 l1 x6_2 x7_2 x8_4 ((l1.take ((ji12) : Int).toNat).drop (x7_2 : Int).toNat) (((l1.take ((ji12) : Int).toNat).drop (x7_2 : Int).toNat).length : Int) x46_4 = some (r1, r2)) ∧ Aside0 (kq ≤ kj8) ∧ Aside0 (Kd.S k26 26 w' w.heap.size (fun k_ => some k_ ≠ (v8 : Value).ownBlock) u6 x6_2) ∧ Aside0 (Kd.R (Kd.int .u8) 5 w' w.heap.size (fun _ => True) v8 x8_4) ∧ Aside0 (Below w.heap.size w w'))
                            case atStart => exact ⟨(y140), (0), (by first | rfl | (simp; done) | (simp [*]; done)), H', ⟨Nat.le_refl _⟩, ⟨by (with_reducible repeat (first | apply Kd.S_alloc | apply Kd.S_drewN | apply Kd.S_drew)); exact Kd.S_mono HO_6.out (fun _ hk => hk.2)⟩, ⟨by (with_reducible repeat (first | apply Kd.R_alloc | apply Kd.R_drewN | apply Kd.R_drew)); exact HO142.out⟩, ⟨by repeat (first | (with_reducible first | exact HB.out | apply below_alloc | apply pw_below_drewN | apply below_drew1) | exact HB.out)⟩⟩
                            case round =>
                              clear H'
                              try clear c1
                              try clear c2
                              try clear p2
                              try clear c4
                              try clear c4b0
                              try clear c4b1
                              try clear c5
                              try clear c6
                              try clear c6b0
                              try clear c6b1
                              try clear p6
                              try clear c8
                              try clear c10
                              try clear c10b0
                              try clear c10b1
                              try clear c11
                              try clear c13
                              try clear c13b0
                              try clear c13b1
                              try clear c14
                              try clear c14b0
                              try clear c14b1
                              try clear c15
                              try clear c15b0
                              try clear c15b1
                              try clear p2
                              obtain ⟨x8_4, x46_4, rfl, HA, HK4, HO_6, HO_8, HB⟩ := hrel
                              cases gk with
                              | zero => exact absurd HA.out (by simp [headseg_Lengths.l1])
                              | succ k4 =>
                                have H := HA.out
                                clear HA
                                simp only [headseg_Lengths.l1] at H
                                by_cases c19 : x46_4 < (((l1.take ((ji12) : Int).toNat).drop (x7_2 : Int).toNat).length : Int)
                                · rw [if_pos c19] at H
                                  have c19b0 : decide (x46_4 < (((l1.take ((ji12) : Int).toNat).drop (x7_2 : Int).toNat).length : Int)) = true := decide_eq_true c19
                                  (try (have c19b9 : decide (x46_4 < (((ji12 : Int).toNat - (x7_2 : Int).toNat : Nat) : Int)) = true := (by rw [← HX18.out]; exact c19b0)))
                                  clear c19
                                  by_cases c20 : 0 ≤ x46_4
                                  · rw [if_pos c20] at H
                                    have c20b0 : decide (0 ≤ x46_4) = true := decide_eq_true c20
                                    clear c20
                                    by_cases c21 : x46_4 < (((l1.take ((ji12) : Int).toNat).drop (x7_2 : Int).toNat).length : Int)
                                    · rw [if_pos c21] at H
                                      have c21b0 : decide (x46_4 < (((l1.take ((ji12) : Int).toNat).drop (x7_2 : Int).toNat).length : Int)) = true := decide_eq_true c21
                                      (try (have c21b9 : decide (x46_4 < (((ji12 : Int).toNat - (x7_2 : Int).toNat : Nat) : Int)) = true := (by rw [← HX18.out]; exact c21b0)))
                                      clear c21
                                      replace H := Option.bind_eq_some_iff.mp H
                                      obtain ⟨t145, A220, H⟩ := H
                                      replace H : (headseg_Lengths.l1 k4 a0 l1 x6_2 x7_2 t145 ((l1.take ((ji12) : Int).toNat).drop (x7_2 : Int).toNat) (((l1.take ((ji12) : Int).toNat).drop (x7_2 : Int).toNat).length : Int) (wrap64 (x46_4 + 1))) = some (r1, r2) := H
                                      have A22 := Aside0.mk A220
                                      clear A220
                                      have H' := Aside0.mk H
                                      clear H
                                      have p144 : 0 ≤ (x46_4 : Int) := of_decide_eq_true (by first | (with_reducible assumption) | assumption)
                                      have q144 : x46_4 < (((l1.take ((ji12) : Int).toNat).drop (x7_2 : Int).toNat).length : Int) := of_decide_eq_true (by first | (with_reducible assumption) | assumption)
                                      obtain ⟨ad144, e144, hx144_0⟩ := Kd.at_int HR143.out x46_4 p144 q144
                                      cases e144
                                      replace hx144_0 := hc HB hx144_0
                                      replace p144 := eq_true p144
                                      replace q144 := eq_true q144
                                      (try (have q144x : (x46_4 < (((ji12 : Int).toNat - (x7_2 : Int).toNat : Nat) : Int)) = True := (by rw [← HX18.out]; exact q144)))
                                      obtain ⟨Ao23, co23, eo23⟩ := Kd.R_slice HO_8.out
                                      subst eo23
                                      go_wp2_with (first | ((with_reducible refine gate_callee (f := 44) rfl ?_); refine goesL_ (some 52) rfl rfl Try.func44 (by kernel_rfl) rfl #[.slice Ao23 x8_4.length co23, .int .i64 4, .int .i64 (rd ((l1.take ((ji12) : Int).toNat).drop (x7_2 : Int).toNat) x46_4)] rfl (by (try simp only [List.map_toArray, List.map_cons, List.map_nil]); first | done | (simp only [hji12]; rfl) | rfl | (simp only [List.length_drop, List.length_take]; rfl)) ?_; (with_reducible refine (headseg_put.calls k4 (fun k_ => some k_ = (.slice Ao23 x8_4.length co23 : Value).ownBlock) (.slice Ao23 x8_4.length co23) x8_4 4 (rd ((l1.take ((ji12) : Int).toNat).drop (x7_2 : Int).toNat) x46_4) t145 w _ ?side1 ?side2 A22.out).mono ?_); (case side1 => repeat (first | (with_reducible first | exact HB.out | apply below_alloc | apply pw_below_drewN | apply below_drew1) | exact HB.out)); (case side2 => exact Kd.R_tight rfl HO_8.out); rintro e w24 ⟨v146, rfl, ho0, hb, hkp⟩; refine ⟨_, rfl, ?_⟩; have n0_ := Aside0.mk (Kd.S_mono (ok' := fun k_ => some k_ ≠ (v146 : Value).ownBlock) (Kd.S_keptB (HO_6.out) hkp (fun k_ hk_ hs_ => (hk_) hs_)) (fun k_ hk_ => fun e_ => Or.elim (ho0.1 k_ e_.symm) (fun hs_ => hk_.2.1 hs_) (fun hn_ => Nat.not_le.2 hk_.2.2 hn_))); have n1_ := Aside0.mk (Kd.R_mono (ok' := fun k_ => True) ho0 (fun k_ hk_ => trivial)); have n2_ := Aside0.mk (hb); clear HO_6 HB HO_8; have HO_6 := n0_; have HO147 := n1_; have HB := n2_; clear n0_ n1_ n2_; (try clear hb; try clear hkp; try clear ho0)))
                                      go_roundg k4
                                      case measure => have := HJ2.out; have := HK2.out; have := HJ8.out; have := HK4.out; omega
                                      case rel => exact ⟨(t145), (wrap64 (x46_4 + 1)), (by first | rfl | (simp; done) | (simp [*]; done)), H', ⟨by have := HJ2.out; have := HK2.out; have := HJ8.out; have := HK4.out; omega⟩, ⟨by (with_reducible repeat (first | apply Kd.S_alloc | apply Kd.S_drewN | apply Kd.S_drew)); exact HO_6.out⟩, ⟨by (with_reducible repeat (first | apply Kd.R_alloc | apply Kd.R_drewN | apply Kd.R_drew)); exact HO147.out⟩, ⟨by repeat (first | (with_reducible first | exact HB.out | apply below_alloc | apply pw_below_drewN | apply below_drew1) | exact HB.out)⟩⟩
                                    · rw [if_neg c21] at H
                                      exact absurd H (by simp)
                                  · rw [if_neg c20] at H
                                    exact absurd H (by simp)
                                · rw [if_neg c19] at H
                                  have c19b0 : decide (x46_4 < (((l1.take ((ji12) : Int).toNat).drop (x7_2 : Int).toNat).length : Int)) = false := decide_eq_false c19
                                  (try (have c19b9 : decide (x46_4 < (((ji12 : Int).toNat - (x7_2 : Int).toNat : Nat) : Int)) = false := (by rw [← HX18.out]; exact c19b0)))
                                  clear c19
                                  by_cases c25 : x6_2.length < 4398046511104
                                  · rw [if_pos c25] at H
                                    have LMc25 := Aside0.mk c25
                                    clear c25
                                    obtain ⟨y148, hy148⟩ : ∃ y_ : List (S26), y_ = (x6_2 ++ [(⟨a0, x8_4⟩ : S26)]) := ⟨_, rfl⟩
                                    replace H : (headseg_Lengths.l0 k4 a0 l1 y148 (wrap64 (x7_2 + 16000))) = some (r1, r2) := by first | (rw [hy148]; with_reducible exact H) | (have H2_ := (Option.bind_some _ _).symm.trans H; rw [hy148]; with_reducible exact H2_) | (have H2_ := (Option.bind_some _ _).symm.trans H; with_reducible exact H2_) | with_reducible exact H | (rw [hy148]; exact H) | exact H
                                    have Ny148 := Aside0.mk hy148
                                    clear hy148
                                    have H' := Aside0.mk H
                                    clear H
                                    obtain ⟨Ao26, co26, eo26⟩ := Kd.R_slice HO_8.out
                                    subst eo26
                                    go_wp2_with (first | ((with_reducible refine gate_builtin (b := .append) (xs := #[.tmp 54, .tmp 58]) rfl ?_); (try (refine gate_guard (by rfl) ?_; dsimp only)); at_builtin; refine Kd.S_append k26 (w0 := w) w.heap.size rfl (.tmp 54) (.tmp 58) 40 26 (.agg #[(.int .i64 0), (.slice none 0 0)]) 32 rfl Try.underlying40 info26 rfl (by decide) (by omega) u6 x6_2 (⟨a0, x8_4⟩ : S26) [.int .i64 a0, .slice Ao26 x8_4.length co26] (fun _ => True) (fun k_ => some k_ = (.slice Ao26 x8_4.length co26 : Value).ownBlock) rfl rfl ?aP (fun k_ hk_ => ((Kd.R_mono (ok' := fun k_ => ((fun _ => True)) k_ ∧ some k_ ≠ (u6 : Value).ownBlock) (Kd.R_apart' (HO_8.out) (Kd.S_typed HO_6.out) (by decide)) (fun k_ hk => ⟨trivial, hk.2⟩))).1 k_ hk_.symm) ?aF ?aO ?aB ?aS ?aL ?_; (case aP => exact k26_mkM _ _ _ (⟨a0, x8_4⟩ : S26) (Kd.R_mono (Kd.R_tight rfl (Kd.R_mono (ok' := fun k_ => ((fun _ => True)) k_ ∧ some k_ ≠ (u6 : Value).ownBlock) (Kd.R_apart' (HO_8.out) (Kd.S_typed HO_6.out) (by decide)) (fun k_ hk => ⟨trivial, hk.2⟩))) (fun _ h_ => h_))); (case aB => exact (upB HB.out)); (case aF => exact (fun _ _ => trivial)); (case aO => exact (by (with_reducible repeat (first | apply Kd.S_alloc | apply Kd.S_drewN | apply Kd.S_drew)); exact Kd.S_mono HO_6.out (fun k_ hk => ⟨trivial, fun e_ => hk e_⟩))); (case aS => exact (below_size (upB HB.out))); (case aL => have := LMc25.out; omega); intro v149 w27 ho hb hg hat; rw [← Ny148.out] at ho; have n0_ := Aside0.mk (hb); have n1_ := Aside0.mk (ho); clear HB HO_6 HO_8; have HB := n0_; have HO150 := n1_; clear n0_ n1_; clear ho hb hg hat))
                                    go_roundg k4
                                    case measure => have := HJ2.out; have := HK2.out; have := HJ8.out; have := HK4.out; omega
                                    case rel => exact ⟨(y148), (wrap64 (x7_2 + 16000)), (by first | rfl | (simp; done) | (simp [*]; done)), H', ⟨by have := HJ2.out; have := HK2.out; have := HJ8.out; have := HK4.out; omega⟩, ⟨by (with_reducible repeat (first | apply Kd.S_alloc | apply Kd.S_drewN | apply Kd.S_drew)); exact HO150.out⟩, ⟨by repeat (first | (with_reducible first | exact HB.out | apply below_alloc | apply pw_below_drewN | apply below_drew1) | exact HB.out)⟩⟩
                                  · rw [if_neg c25] at H
                                    exact absurd H (by simp)
                          · rw [if_neg c15] at H
                            exact absurd H (by simp)
                        · rw [if_neg c14] at H
                          exact absurd H (by simp)
                      · rw [if_neg c13] at H
                        exact absurd H (by simp)
                    · replace c11 := Bool.eq_false_iff.mpr c11
                      subst c11
                      have H1 : (some (x6_2, 0)) = some (r1, r2) := by rw [if_neg (show ¬ (false = true) by decide)] at H; exact H
                      clear H
                      have H := H1
                      clear H1
                      simp only [Option.some.injEq, Prod.mk.injEq] at H
                      obtain ⟨rfl, rfl⟩ := H
                      go_wp2
                      go_ret2
                      exact ⟨_, by first | rfl | (simp [errW_none, errW_some] <;> rfl) | (simp [*, errW_none, errW_some] <;> rfl), by (with_reducible repeat (first | apply Kd.S_alloc | apply Kd.S_drewN | apply Kd.S_drew)); exact HO_6.out, by repeat (first | (with_reducible first | exact HB.out | apply below_alloc | apply pw_below_drewN | apply below_drew1) | exact HB.out)⟩
          · replace c8 := Bool.eq_false_iff.mpr c8
            subst c8
            have H1 : (some (([] : List (S26)), 2)) = some (r1, r2) := by rw [if_neg (show ¬ (false = true) by decide)] at H; exact H
            clear H
            have H := H1
            clear H1
            simp only [Option.some.injEq, Prod.mk.injEq] at H
            obtain ⟨rfl, rfl⟩ := H
            go_wp2_with (first | ((with_reducible refine gate_callee (f := 43) rfl ?_); refine goesL_ (some 21) rfl rfl Try.func43 (by kernel_rfl) rfl #[.int .i64 0, .int .i64 4294967295, .slice A1 l1.length c1] rfl upL ?_; (with_reducible refine (headseg_within.calls kj2 0 4294967295 _ _ l1 false _ ?side1 ?side2 A7.out).mono ?_); (case side1 => repeat (first | exact (Kd.C_below HR1.out HB.out) | (with_reducible refine Kd.C_alloc ?_ _) | (with_reducible refine Kd.C_drewN ?_ _) | (with_reducible refine Kd.C_drew ?_))); (case side2 => exact HC1.out); rintro e w' ⟨rfl, ⟨nd, rfl⟩⟩; refine ⟨_, rfl, ?_⟩))
            go_ret2
            exact ⟨_, by first | rfl | (simp [errW_none, errW_some] <;> rfl) | (simp [*, errW_none, errW_some] <;> rfl), by first | exact Kd.S_nil _ _ _ _ _ | exact Kd.N_nil _ _ _ _ _ | exact Kd.V_nil _ _ _ _ _ | exact Kd.Q_nil _ _ _ _ _ | exact Kd.R_nil _ _ _ _ _, by repeat (first | (with_reducible first | exact HB.out | apply below_alloc | apply pw_below_drewN | apply below_drew1) | exact HB.out)⟩

end Go.Proofs.Ytihfopblmjgfaaa.Q

/- Printed walk, shortened (wip/tools/unmerge.py). -/
namespace Go.Proofs.Ytihfopblmjgfaaa.Q
open Go.RowKit Go.Proofs.YtihfopblmjgfaaaW.PrintWords Go.Proofs.YtihfopblmjgfaaaW.PrintLast Go.Proofs.YtihfopblmjgfaaaW.PrintMore
attribute [local go_sem] max2_int min2_int max_two min_two max_three min_three max_four min_four   -- for this text's walks alone
set_option linter.unusedVariables false
set_option linter.unusedSimpArgs false

/-! ### headseg_Quant: function 28 -/
mutual
def headseg_Quant.j0 : Nat → Bool → Int → Int → Int → Int → Int → List (S89) → Int → Int → Bool → Bool → Bool → Bool → Bool → Bool → Bool → Bool → List Int → Int → Int → Option (Int × List Int × Int)
  | 0, _, _, _, _, _, _, _, _, _, _, _, _, _, _, _, _, _, _, _, _ => none
  | k + 1, x20, x152000, x152001, x152002, x152003, x152004, x152005, x152006, x152007, x152008, x152009, x152010, x152011, x152012, x152013, x152014, x152015, x152016, x152017, x152018 => if x20 = true then (some (0, ([] : List Int), 2)) else (headseg_Quant.l0 k (([(x152017) % 256, ((x152016.length : Int)) % 256] : List Int)) x152016 (x152016.length : Int) 0)
def headseg_Quant.l0 : Nat → List Int → List Int → Int → Int → Option (Int × List Int × Int)
  | 0, _, _, _, _ => none
  | k + 1, x4, x31, x32, x33 => if x33 < x32 then (if 0 ≤ x33 then (if x33 < (x31.length : Int) then ((headseg_put.f k x4 2 (wrap64 ((rd x31 x33) - 1))).bind fun t162 => (headseg_Quant.l0 k t162 x31 x32 (wrap64 (x33 + 1)))) else (none)) else (none)) else (some (65443, x4, 0))
end
def headseg_Quant.f (k : Nat) (a0_0 : Int) (a0_1 : Int) (a0_2 : Int) (a0_3 : Int) (a0_4 : Int) (l0_5 : List (S89)) (a0_6 : Int) (a0_7 : Int) (a0_8 : Bool) (a0_9 : Bool) (a0_10 : Bool) (a0_11 : Bool) (a0_12 : Bool) (a0_13 : Bool) (a0_14 : Bool) (a0_15 : Bool) (l0_16 : List Int) (a0_17 : Int) (a0_18 : Int) : Option (Int × List Int × Int) := (headseg_within.f k 0 255 (([a0_17, (l0_16.length : Int)] : List Int))).bind fun t156 => (if t156 = true then ((headseg_within.f k 1 65536 l0_16).bind fun t157 => (headseg_Quant.j0 k (!t157) a0_0 a0_1 a0_2 a0_3 a0_4 l0_5 a0_6 a0_7 a0_8 a0_9 a0_10 a0_11 a0_12 a0_13 a0_14 a0_15 l0_16 a0_17 a0_18)) else (headseg_Quant.j0 k true a0_0 a0_1 a0_2 a0_3 a0_4 l0_5 a0_6 a0_7 a0_8 a0_9 a0_10 a0_11 a0_12 a0_13 a0_14 a0_15 l0_16 a0_17 a0_18))
theorem headseg_Quant.mono_l : ∀ k, (∀ y0 y1 y2 y3 y4 y5 y6 y7 y8 y9 y10 y11 y12 y13 y14 y15 y16 y17 y18 y19, LeO (headseg_Quant.j0 k y0 y1 y2 y3 y4 y5 y6 y7 y8 y9 y10 y11 y12 y13 y14 y15 y16 y17 y18 y19) (headseg_Quant.j0 (k + 1) y0 y1 y2 y3 y4 y5 y6 y7 y8 y9 y10 y11 y12 y13 y14 y15 y16 y17 y18 y19)) ∧ (∀ y0 y1 y2 y3, LeO (headseg_Quant.l0 k y0 y1 y2 y3) (headseg_Quant.l0 (k + 1) y0 y1 y2 y3))
  | 0 => ⟨fun _ _ _ _ _ _ _ _ _ _ _ _ _ _ _ _ _ _ _ _ r h => by simp [headseg_Quant.j0] at h, fun _ _ _ _ r h => by simp [headseg_Quant.l0] at h⟩
  | k + 1 => by
    obtain ⟨ih0, ih1⟩ := headseg_Quant.mono_l k
    refine ⟨?_, ?_⟩
    · intro y0 y1 y2 y3 y4 y5 y6 y7 y8 y9 y10 y11 y12 y13 y14 y15 y16 y17 y18 y19
      unfold headseg_Quant.j0
      repeat' first
      | (with_reducible exact ih0 _ _ _ _ _ _ _ _ _ _ _ _ _ _ _ _ _ _ _ _)
      | (with_reducible exact ih1 _ _ _ _)
      | (with_reducible exact headseg_put.mono _ _ _ _)
      | (with_reducible exact headseg_within.mono _ _ _ _)
      | (with_reducible exact LeO.refl _)
      | (with_reducible exact LeO.none _)
      | (with_reducible refine LeO.ite ?_ ?_)
      | (with_reducible refine LeO.bind ?_ (fun _ => ?_))
      | exact ih0 _ _ _ _ _ _ _ _ _ _ _ _ _ _ _ _ _ _ _ _
      | exact ih1 _ _ _ _
      | exact headseg_put.mono _ _ _ _
      | exact headseg_within.mono _ _ _ _
      | exact LeO.none _
      | refine LeO.ite ?_ ?_
      | refine LeO.bind ?_ (fun _ => ?_)
    · intro y0 y1 y2 y3
      unfold headseg_Quant.l0
      repeat' first
      | (with_reducible exact ih0 _ _ _ _ _ _ _ _ _ _ _ _ _ _ _ _ _ _ _ _)
      | (with_reducible exact ih1 _ _ _ _)
      | (with_reducible exact headseg_put.mono _ _ _ _)
      | (with_reducible exact headseg_within.mono _ _ _ _)
      | (with_reducible exact LeO.refl _)
      | (with_reducible exact LeO.none _)
      | (with_reducible refine LeO.ite ?_ ?_)
      | (with_reducible refine LeO.bind ?_ (fun _ => ?_))
      | exact ih0 _ _ _ _ _ _ _ _ _ _ _ _ _ _ _ _ _ _ _ _
      | exact ih1 _ _ _ _
      | exact headseg_put.mono _ _ _ _
      | exact headseg_within.mono _ _ _ _
      | exact LeO.none _
      | refine LeO.ite ?_ ?_
      | refine LeO.bind ?_ (fun _ => ?_)
theorem headseg_Quant.mono : ∀ a0 a1 a2 a3 a4 a5 a6 a7 a8 a9 a10 a11 a12 a13 a14 a15 a16 a17 a18 k, LeO (headseg_Quant.f k a0 a1 a2 a3 a4 a5 a6 a7 a8 a9 a10 a11 a12 a13 a14 a15 a16 a17 a18) (headseg_Quant.f (k + 1) a0 a1 a2 a3 a4 a5 a6 a7 a8 a9 a10 a11 a12 a13 a14 a15 a16 a17 a18) := by
  intro a0 a1 a2 a3 a4 a5 a6 a7 a8 a9 a10 a11 a12 a13 a14 a15 a16 a17 a18 k
  obtain ⟨ih0, ih1⟩ := headseg_Quant.mono_l k
  unfold headseg_Quant.f
  repeat' first
      | (with_reducible exact ih0 _ _ _ _ _ _ _ _ _ _ _ _ _ _ _ _ _ _ _ _)
      | (with_reducible exact ih1 _ _ _ _)
      | (with_reducible exact headseg_put.mono _ _ _ _)
      | (with_reducible exact headseg_within.mono _ _ _ _)
      | (with_reducible exact LeO.refl _)
      | (with_reducible exact LeO.none _)
      | (with_reducible refine LeO.ite ?_ ?_)
      | (with_reducible refine LeO.bind ?_ (fun _ => ?_))
      | exact ih0 _ _ _ _ _ _ _ _ _ _ _ _ _ _ _ _ _ _ _ _
      | exact ih1 _ _ _ _
      | exact headseg_put.mono _ _ _ _
      | exact headseg_within.mono _ _ _ _
      | exact LeO.none _
      | refine LeO.ite ?_ ?_
      | refine LeO.bind ?_ (fun _ => ?_)
set_option maxHeartbeats 8000000 in
set_option maxRecDepth 100000 in
theorem headseg_Quant.calls (k : Nat) (a0_0 : Int) (a0_1 : Int) (a0_2 : Int) (a0_3 : Int) (a0_4 : Int) (A0_5 : Option Addr) (c0_5 : Nat) (l0_5 : List (S89)) (a0_6 : Int) (a0_7 : Int) (a0_8 : Bool) (a0_9 : Bool) (a0_10 : Bool) (a0_11 : Bool) (a0_12 : Bool) (a0_13 : Bool) (a0_14 : Bool) (a0_15 : Bool) (A0_16 : Option Addr) (c0_16 : Nat) (l0_16 : List Int) (a0_17 : Int) (a0_18 : Int) (r1 : Int) (r2 : List Int) (r3 : Int) (w : World) (hr0_5 : Kd.C k89 w A0_5 l0_5.length l0_5) (hc0_5 : l0_5.length ≤ c0_5) (hr0_16 : Kd.C (Kd.int .i64) w A0_16 l0_16.length l0_16) (hc0_16 : l0_16.length ≤ c0_16) (h : headseg_Quant.f k a0_0 a0_1 a0_2 a0_3 a0_4 l0_5 a0_6 a0_7 a0_8 a0_9 a0_10 a0_11 a0_12 a0_13 a0_14 a0_15 l0_16 a0_17 a0_18 = some (r1, r2, r3)) :
    Calls Try.prog 28 #[.agg #[.int .i64 a0_0, .int .i64 a0_1, .int .i64 a0_2, .int .i64 a0_3, .int .i64 a0_4, .slice A0_5 l0_5.length c0_5, .int .i64 a0_6, .int .i64 a0_7, .bool a0_8, .bool a0_9, .bool a0_10, .bool a0_11, .bool a0_12, .bool a0_13, .bool a0_14, .bool a0_15, .slice A0_16 l0_16.length c0_16, .int .i64 a0_17, .int .i64 a0_18]] w fun e w' => ∃ v1_ : Value, e = .returned (.tuple #[.agg #[.int .i64 r1, v1_], .int .i64 r3]) ∧ Kd.R (Kd.int .u8) 5 w' w.heap.size (fun _ => True) v1_ r2 ∧ Below w.heap.size w w' := by
  have hu55 := Try.underlying55
  have hu26 := Try.underlying26
  have HR0_5 := Aside0.mk hr0_5
  have HC0_5 := Aside0.mk hc0_5
  clear hr0_5 hc0_5
  have HR0_16 := Aside0.mk hr0_16
  have HC0_16 := Aside0.mk hc0_16
  clear hr0_16 hc0_16
  have HB := Aside0.mk (Below.refl w.heap.size w)
  have H : ((headseg_within.f k 0 255 (([a0_17, (l0_16.length : Int)] : List Int))).bind fun t156 => (if t156 = true then ((headseg_within.f k 1 65536 l0_16).bind fun t157 => (headseg_Quant.j0 k (!t157) a0_0 a0_1 a0_2 a0_3 a0_4 l0_5 a0_6 a0_7 a0_8 a0_9 a0_10 a0_11 a0_12 a0_13 a0_14 a0_15 l0_16 a0_17 a0_18)) else (headseg_Quant.j0 k true a0_0 a0_1 a0_2 a0_3 a0_4 l0_5 a0_6 a0_7 a0_8 a0_9 a0_10 a0_11 a0_12 a0_13 a0_14 a0_15 l0_16 a0_17 a0_18))) = some (r1, r2, r3) := h
  clear h
  have HC2 := Aside0.mk H
  clear H
  go_enter Try.func28, Try.ntmps28
  go_upto_region 1 with (first | ((with_reducible refine gate_dst (N := 1) rfl ?_); refine box_event ?hg (N := 1) ?hd (cs := #[.int .i64 a0_0, .int .i64 a0_1, .int .i64 a0_2, .int .i64 a0_3, .int .i64 a0_4, .slice A0_5 l0_5.length c0_5, .int .i64 a0_6, .int .i64 a0_7, .bool a0_8, .bool a0_9, .bool a0_10, .bool a0_11, .bool a0_12, .bool a0_13, .bool a0_14, .bool a0_15, .slice A0_16 l0_16.length c0_16, .int .i64 a0_17, .int .i64 a0_18]) (t := 55) ?hr ?_; (case hd => rfl); (case hg => rfl); (case hr => first | (go_simp; done) | (go_simp; rfl)); intro gb151 hg w3 hbox hb; have BK151 := Aside0.mk (hbox); have GW151 := Aside0.mk ((by rw [hg]; exact (below_size (upB HB.out)) : w.heap.size ≤ gb151)); have GE151 := Aside0.mk ((by rw [hg]; exact (below_size (upB HB.out)) : w.heap.size ≤ gb151)); replace HB := Aside0.mk (below_step (upB HB.out) hb); clear hb hbox hg) | ((with_reducible refine gate_dst (N := 2) rfl ?_); refine box_event ?hg (N := 2) ?hd (cs := #[.int .i64 0, .slice none 0 0]) (t := 26) ?hr ?_; (case hd => rfl); (case hg => rfl); (case hr => first | (go_simp; done) | (go_simp; rfl)); intro gb152 hg w4 hbox hb; have BK152 := Aside0.mk (hbox); have GW152 := Aside0.mk ((by rw [hg]; exact (below_size (upB HB.out)) : w.heap.size ≤ gb152)); have GE152 := Aside0.mk ((by rw [hg]; exact (below_size (upB HB.out)) : w.heap.size ≤ gb152)); replace HB := Aside0.mk (below_step (upB HB.out) hb); have NB151_152 := Aside0.mk ((by rw [hg]; exact Nat.ne_of_lt (blk_lt (upK BK151.out)) : gb151 ≠ gb152)); have NB152_151 := Aside0.mk ((by rw [hg]; exact Nat.ne_of_gt (blk_lt (upK BK151.out)) : gb152 ≠ gb151)); replace BK151 := Aside0.mk (blk_below (g := gb151) (o := .cells #[.int .i64 a0_0, .int .i64 a0_1, .int .i64 a0_2, .int .i64 a0_3, .int .i64 a0_4, .slice A0_5 l0_5.length c0_5, .int .i64 a0_6, .int .i64 a0_7, .bool a0_8, .bool a0_9, .bool a0_10, .bool a0_11, .bool a0_12, .bool a0_13, .bool a0_14, .bool a0_15, .slice A0_16 l0_16.length c0_16, .int .i64 a0_17, .int .i64 a0_18] 55 (0, 0)) (upK BK151.out) hb); clear hb hbox hg))
  (try simp only [Act.put, List.setIfInBounds_toArray, List.set_cons_zero, List.set_cons_succ])
  go_cut [20] (fun v20 wc => ∃ (kq : Nat) (x20_1 : Bool), v20 = .bool x20_1 ∧ Aside0 (headseg_Quant.j0 kq x20_1 a0_0 a0_1 a0_2 a0_3 a0_4 l0_5 a0_6 a0_7 a0_8 a0_9 a0_10 a0_11 a0_12 a0_13 a0_14 a0_15 l0_16 a0_17 a0_18 = some (r1, r2, r3)) ∧ Aside0 (kq ≤ k) ∧ Aside0 (wc.heap[gb151]? = some (.cells #[.int .i64 a0_0, .int .i64 a0_1, .int .i64 a0_2, .int .i64 a0_3, .int .i64 a0_4, (.slice A0_5 l0_5.length c0_5), .int .i64 a0_6, .int .i64 a0_7, .bool a0_8, .bool a0_9, .bool a0_10, .bool a0_11, .bool a0_12, .bool a0_13, .bool a0_14, .bool a0_15, (.slice A0_16 l0_16.length c0_16), .int .i64 a0_17, .int .i64 a0_18] 55 (0, 0))) ∧ Aside0 (wc.heap[gb152]? = some (.cells #[.int .i64 0, (.slice none 0 0)] 26 (0, 0))) ∧ Aside0 (Below w.heap.size w wc))
  case first =>
    have H := HC2.out
    clear HC2
    obtain ⟨y153, hy153⟩ : ∃ y_ : List Int, y_ = (([a0_17, (l0_16.length : Int)] : List Int)) := ⟨_, rfl⟩
    replace H : ((headseg_within.f k 0 255 y153).bind fun t156 => (if t156 = true then ((headseg_within.f k 1 65536 l0_16).bind fun t157 => (headseg_Quant.j0 k (!t157) a0_0 a0_1 a0_2 a0_3 a0_4 l0_5 a0_6 a0_7 a0_8 a0_9 a0_10 a0_11 a0_12 a0_13 a0_14 a0_15 l0_16 a0_17 a0_18)) else (headseg_Quant.j0 k true a0_0 a0_1 a0_2 a0_3 a0_4 l0_5 a0_6 a0_7 a0_8 a0_9 a0_10 a0_11 a0_12 a0_13 a0_14 a0_15 l0_16 a0_17 a0_18))) = some (r1, r2, r3) := by first | (rw [hy153]; with_reducible exact H) | (have H2_ := (Option.bind_some _ _).symm.trans H; rw [hy153]; with_reducible exact H2_) | (have H2_ := (Option.bind_some _ _).symm.trans H; with_reducible exact H2_) | with_reducible exact H | (rw [hy153]; exact H) | exact H
    have Ny153 := Aside0.mk hy153
    clear hy153
    replace H := Option.bind_eq_some_iff.mp H
    obtain ⟨t156, A50, H⟩ := H
    replace H : (if t156 = true then ((headseg_within.f k 1 65536 l0_16).bind fun t157 => (headseg_Quant.j0 k (!t157) a0_0 a0_1 a0_2 a0_3 a0_4 l0_5 a0_6 a0_7 a0_8 a0_9 a0_10 a0_11 a0_12 a0_13 a0_14 a0_15 l0_16 a0_17 a0_18)) else (headseg_Quant.j0 k true a0_0 a0_1 a0_2 a0_3 a0_4 l0_5 a0_6 a0_7 a0_8 a0_9 a0_10 a0_11 a0_12 a0_13 a0_14 a0_15 l0_16 a0_17 a0_18)) = some (r1, r2, r3) := H
    have A5 := Aside0.mk A50
    clear A50
    by_cases c6 : t156 = true
    · subst c6
      have H1 : ((headseg_within.f k 1 65536 l0_16).bind fun t157 => (headseg_Quant.j0 k (!t157) a0_0 a0_1 a0_2 a0_3 a0_4 l0_5 a0_6 a0_7 a0_8 a0_9 a0_10 a0_11 a0_12 a0_13 a0_14 a0_15 l0_16 a0_17 a0_18)) = some (r1, r2, r3) := by rw [if_pos rfl] at H; exact H
      clear H
      have H := H1
      clear H1
      replace H := Option.bind_eq_some_iff.mp H
      obtain ⟨t157, A70, H⟩ := H
      replace H : (headseg_Quant.j0 k (!t157) a0_0 a0_1 a0_2 a0_3 a0_4 l0_5 a0_6 a0_7 a0_8 a0_9 a0_10 a0_11 a0_12 a0_13 a0_14 a0_15 l0_16 a0_17 a0_18) = some (r1, r2, r3) := H
      have A7 := Aside0.mk A70
      clear A70
      have H' := Aside0.mk H
      clear H
      have hnb8 := NB151_152.out
      have hnc8 := NB152_151.out
      have hcz9_0 : w4.cell? ⟨gb151, 0, none⟩ = some (.int .i64 a0_0) := bc BK151 0
      have hcz9_1 : w4.cell? ⟨gb151, 1, none⟩ = some (.int .i64 a0_1) := bc BK151 1
      have hcz9_2 : w4.cell? ⟨gb151, 2, none⟩ = some (.int .i64 a0_2) := bc BK151 2
      have hcz9_3 : w4.cell? ⟨gb151, 3, none⟩ = some (.int .i64 a0_3) := bc BK151 3
      have hcz9_4 : w4.cell? ⟨gb151, 4, none⟩ = some (.int .i64 a0_4) := bc BK151 4
      have hcz9_5 : w4.cell? ⟨gb151, 5, none⟩ = some (.slice A0_5 l0_5.length c0_5) := bc BK151 5
      have hcz9_6 : w4.cell? ⟨gb151, 6, none⟩ = some (.int .i64 a0_6) := bc BK151 6
      have hcz9_7 : w4.cell? ⟨gb151, 7, none⟩ = some (.int .i64 a0_7) := bc BK151 7
      have hcz9_8 : w4.cell? ⟨gb151, 8, none⟩ = some (.bool a0_8) := bc BK151 8
      have hcz9_9 : w4.cell? ⟨gb151, 9, none⟩ = some (.bool a0_9) := bc BK151 9
      have hcz9_10 : w4.cell? ⟨gb151, 10, none⟩ = some (.bool a0_10) := bc BK151 10
      have hcz9_11 : w4.cell? ⟨gb151, 11, none⟩ = some (.bool a0_11) := bc BK151 11
      have hcz9_12 : w4.cell? ⟨gb151, 12, none⟩ = some (.bool a0_12) := bc BK151 12
      have hcz9_13 : w4.cell? ⟨gb151, 13, none⟩ = some (.bool a0_13) := bc BK151 13
      have hcz9_14 : w4.cell? ⟨gb151, 14, none⟩ = some (.bool a0_14) := bc BK151 14
      have hcz9_15 : w4.cell? ⟨gb151, 15, none⟩ = some (.bool a0_15) := bc BK151 15
      have hcz9_16 : w4.cell? ⟨gb151, 16, none⟩ = some (.slice A0_16 l0_16.length c0_16) := bc BK151 16
      have hcz9_17 : w4.cell? ⟨gb151, 17, none⟩ = some (.int .i64 a0_17) := bc BK151 17
      have hcz9_18 : w4.cell? ⟨gb151, 18, none⟩ = some (.int .i64 a0_18) := bc BK151 18
      have hfz9_0 := blk_frozen BK151.out 0
      have hfz9_1 := blk_frozen BK151.out 1
      have hfz9_2 := blk_frozen BK151.out 2
      have hfz9_3 := blk_frozen BK151.out 3
      have hfz9_4 := blk_frozen BK151.out 4
      have hfz9_5 := blk_frozen BK151.out 5
      have hfz9_6 := blk_frozen BK151.out 6
      have hfz9_7 := blk_frozen BK151.out 7
      have hfz9_8 := blk_frozen BK151.out 8
      have hfz9_9 := blk_frozen BK151.out 9
      have hfz9_10 := blk_frozen BK151.out 10
      have hfz9_11 := blk_frozen BK151.out 11
      have hfz9_12 := blk_frozen BK151.out 12
      have hfz9_13 := blk_frozen BK151.out 13
      have hfz9_14 := blk_frozen BK151.out 14
      have hfz9_15 := blk_frozen BK151.out 15
      have hfz9_16 := blk_frozen BK151.out 16
      have hfz9_17 := blk_frozen BK151.out 17
      have hfz9_18 := blk_frozen BK151.out 18
      go_wp2_with (first | ((with_reducible refine gate_dst (N := 12) rfl ?_); refine Kd.R_lit (Kd.int .i64) _ 3 ?hg (N := 12) ?hd (xs := ([a0_17, (l0_16.length : Int)] : List Int)) (inner := [.int .i64 a0_17, .int .i64 (l0_16.length : Int)]) (ok := fun _ => True) (okp := fun _ => True) ?hr ?hp (fun _ hk => hk) trivial (Below.refl _ _) (Nat.le_refl _) (by simp) ?_; (case hd => rfl); (case hg => rfl); (case hr => first | (go_simp; done) | (go_simp; rfl)); (case hp => exact (Reps.one (show Kd.M (Kd.int .i64) _ _ _ a0_17 [.int .i64 a0_17] from rfl) (Reps.one (show Kd.M (Kd.int .i64) _ _ _ (l0_16.length : Int) [.int .i64 (l0_16.length : Int)] from rfl) (Reps.none _ _)))); intro v154 w10 ho11 hb hg_ hnew_; clear hg_ hnew_; (first | rw [← Ny153.out] at ho11 | (simp only [Int.reduceToNat] at ho11; rw [← Ny153.out] at ho11)); have HO155 := Aside0.mk (Kd.R_lower ho11 (below_size (upB HB.out))); replace BK151 := Aside0.mk (blk_below (g := gb151) (o := .cells #[.int .i64 a0_0, .int .i64 a0_1, .int .i64 a0_2, .int .i64 a0_3, .int .i64 a0_4, .slice A0_5 l0_5.length c0_5, .int .i64 a0_6, .int .i64 a0_7, .bool a0_8, .bool a0_9, .bool a0_10, .bool a0_11, .bool a0_12, .bool a0_13, .bool a0_14, .bool a0_15, .slice A0_16 l0_16.length c0_16, .int .i64 a0_17, .int .i64 a0_18] 55 (0, 0)) (upK BK151.out) hb); replace BK152 := Aside0.mk (blk_below (g := gb152) (o := .cells #[.int .i64 0, .slice none 0 0] 26 (0, 0)) (upK BK152.out) hb); replace HB := Aside0.mk (below_step (upB HB.out) hb); clear hb ho11; obtain ⟨Ao12, co12, eo12⟩ := Kd.R_slice HO155.out; subst eo12) | ((with_reducible refine gate_callee (f := 43) rfl ?_); refine goesL_ (some 13) rfl rfl Try.func43 (by kernel_rfl) rfl #[.int .i64 0, .int .i64 255, .slice Ao12 y153.length co12] rfl upL ?_; (with_reducible refine (headseg_within.calls k 0 255 _ _ y153 true _ ?side1 ?side2 A5.out).mono ?_); (case side1 => repeat (first | exact (Kd.R_reads' HO155.out).2.2 | (with_reducible refine Kd.C_alloc ?_ _) | (with_reducible refine Kd.C_drewN ?_ _) | (with_reducible refine Kd.C_drew ?_))); (case side2 => exact (Kd.R_reads' HO155.out).2.1); rintro e w' ⟨rfl, ⟨nd, rfl⟩⟩; refine ⟨_, rfl, ?_⟩; have hcz13_0 : w10.cell? ⟨gb151, 0, none⟩ = some (.int .i64 a0_0) := bc BK151 0; have hcz13_1 : w10.cell? ⟨gb151, 1, none⟩ = some (.int .i64 a0_1) := bc BK151 1; have hcz13_2 : w10.cell? ⟨gb151, 2, none⟩ = some (.int .i64 a0_2) := bc BK151 2; have hcz13_3 : w10.cell? ⟨gb151, 3, none⟩ = some (.int .i64 a0_3) := bc BK151 3; have hcz13_4 : w10.cell? ⟨gb151, 4, none⟩ = some (.int .i64 a0_4) := bc BK151 4; have hcz13_5 : w10.cell? ⟨gb151, 5, none⟩ = some (.slice A0_5 l0_5.length c0_5) := bc BK151 5; have hcz13_6 : w10.cell? ⟨gb151, 6, none⟩ = some (.int .i64 a0_6) := bc BK151 6; have hcz13_7 : w10.cell? ⟨gb151, 7, none⟩ = some (.int .i64 a0_7) := bc BK151 7; have hcz13_8 : w10.cell? ⟨gb151, 8, none⟩ = some (.bool a0_8) := bc BK151 8; have hcz13_9 : w10.cell? ⟨gb151, 9, none⟩ = some (.bool a0_9) := bc BK151 9; have hcz13_10 : w10.cell? ⟨gb151, 10, none⟩ = some (.bool a0_10) := bc BK151 10; have hcz13_11 : w10.cell? ⟨gb151, 11, none⟩ = some (.bool a0_11) := bc BK151 11; have hcz13_12 : w10.cell? ⟨gb151, 12, none⟩ = some (.bool a0_12) := bc BK151 12; have hcz13_13 : w10.cell? ⟨gb151, 13, none⟩ = some (.bool a0_13) := bc BK151 13; have hcz13_14 : w10.cell? ⟨gb151, 14, none⟩ = some (.bool a0_14) := bc BK151 14; have hcz13_15 : w10.cell? ⟨gb151, 15, none⟩ = some (.bool a0_15) := bc BK151 15; have hcz13_16 : w10.cell? ⟨gb151, 16, none⟩ = some (.slice A0_16 l0_16.length c0_16) := bc BK151 16; have hcz13_17 : w10.cell? ⟨gb151, 17, none⟩ = some (.int .i64 a0_17) := bc BK151 17; have hcz13_18 : w10.cell? ⟨gb151, 18, none⟩ = some (.int .i64 a0_18) := bc BK151 18; have hfz13_0 := blk_frozen BK151.out 0; have hfz13_1 := blk_frozen BK151.out 1; have hfz13_2 := blk_frozen BK151.out 2; have hfz13_3 := blk_frozen BK151.out 3; have hfz13_4 := blk_frozen BK151.out 4; have hfz13_5 := blk_frozen BK151.out 5; have hfz13_6 := blk_frozen BK151.out 6; have hfz13_7 := blk_frozen BK151.out 7; have hfz13_8 := blk_frozen BK151.out 8; have hfz13_9 := blk_frozen BK151.out 9; have hfz13_10 := blk_frozen BK151.out 10; have hfz13_11 := blk_frozen BK151.out 11; have hfz13_12 := blk_frozen BK151.out 12; have hfz13_13 := blk_frozen BK151.out 13; have hfz13_14 := blk_frozen BK151.out 14; have hfz13_15 := blk_frozen BK151.out 15; have hfz13_16 := blk_frozen BK151.out 16; have hfz13_17 := blk_frozen BK151.out 17; have hfz13_18 := blk_frozen BK151.out 18) | (go_at_call 43; (with_reducible refine (headseg_within.calls k 1 65536 _ _ l0_16 t157 _ ?side1 ?side2 A7.out).mono ?_); (case side1 => repeat (first | exact (Kd.C_below HR0_16.out (upB HB.out)) | (with_reducible refine Kd.C_alloc ?_ _) | (with_reducible refine Kd.C_drewN ?_ _) | (with_reducible refine Kd.C_drew ?_))); (case side2 => exact HC0_16.out); rintro e w' ⟨rfl, ⟨nd, rfl⟩⟩))
      go_meet
      case rel => exact ⟨_, (!t157), (by first | rfl | (simp; done) | (simp [*]; done)), H', ⟨by first | omega | exact Nat.le_refl _⟩, ⟨by (with_reducible repeat (first | refine blk_drewN ?_ _ | refine blk_drew ?_ | refine blk_alloc ?_ _)); exact BK151.out⟩, ⟨by (with_reducible repeat (first | refine blk_drewN ?_ _ | refine blk_drew ?_ | refine blk_alloc ?_ _)); exact BK152.out⟩, ⟨by repeat (first | (with_reducible first | exact HB.out | apply below_alloc | apply pw_below_drewN | apply below_drew1 | refine below_set ?_ GE151.out | refine below_set ?_ GE152.out) | exact HB.out)⟩⟩
    · replace c6 := Bool.eq_false_iff.mpr c6
      subst c6
      have H1 : (headseg_Quant.j0 k true a0_0 a0_1 a0_2 a0_3 a0_4 l0_5 a0_6 a0_7 a0_8 a0_9 a0_10 a0_11 a0_12 a0_13 a0_14 a0_15 l0_16 a0_17 a0_18) = some (r1, r2, r3) := by rw [if_neg (show ¬ (false = true) by decide)] at H; exact H
      clear H
      have H := H1
      clear H1
      have H' := Aside0.mk H
      clear H
      have hnb14 := NB151_152.out
      have hnc14 := NB152_151.out
      have hcz15_0 : w4.cell? ⟨gb151, 0, none⟩ = some (.int .i64 a0_0) := bc BK151 0
      have hcz15_1 : w4.cell? ⟨gb151, 1, none⟩ = some (.int .i64 a0_1) := bc BK151 1
      have hcz15_2 : w4.cell? ⟨gb151, 2, none⟩ = some (.int .i64 a0_2) := bc BK151 2
      have hcz15_3 : w4.cell? ⟨gb151, 3, none⟩ = some (.int .i64 a0_3) := bc BK151 3
      have hcz15_4 : w4.cell? ⟨gb151, 4, none⟩ = some (.int .i64 a0_4) := bc BK151 4
      have hcz15_5 : w4.cell? ⟨gb151, 5, none⟩ = some (.slice A0_5 l0_5.length c0_5) := bc BK151 5
      have hcz15_6 : w4.cell? ⟨gb151, 6, none⟩ = some (.int .i64 a0_6) := bc BK151 6
      have hcz15_7 : w4.cell? ⟨gb151, 7, none⟩ = some (.int .i64 a0_7) := bc BK151 7
      have hcz15_8 : w4.cell? ⟨gb151, 8, none⟩ = some (.bool a0_8) := bc BK151 8
      have hcz15_9 : w4.cell? ⟨gb151, 9, none⟩ = some (.bool a0_9) := bc BK151 9
      have hcz15_10 : w4.cell? ⟨gb151, 10, none⟩ = some (.bool a0_10) := bc BK151 10
      have hcz15_11 : w4.cell? ⟨gb151, 11, none⟩ = some (.bool a0_11) := bc BK151 11
      have hcz15_12 : w4.cell? ⟨gb151, 12, none⟩ = some (.bool a0_12) := bc BK151 12
      have hcz15_13 : w4.cell? ⟨gb151, 13, none⟩ = some (.bool a0_13) := bc BK151 13
      have hcz15_14 : w4.cell? ⟨gb151, 14, none⟩ = some (.bool a0_14) := bc BK151 14
      have hcz15_15 : w4.cell? ⟨gb151, 15, none⟩ = some (.bool a0_15) := bc BK151 15
      have hcz15_16 : w4.cell? ⟨gb151, 16, none⟩ = some (.slice A0_16 l0_16.length c0_16) := bc BK151 16
      have hcz15_17 : w4.cell? ⟨gb151, 17, none⟩ = some (.int .i64 a0_17) := bc BK151 17
      have hcz15_18 : w4.cell? ⟨gb151, 18, none⟩ = some (.int .i64 a0_18) := bc BK151 18
      have hfz15_0 := blk_frozen BK151.out 0
      have hfz15_1 := blk_frozen BK151.out 1
      have hfz15_2 := blk_frozen BK151.out 2
      have hfz15_3 := blk_frozen BK151.out 3
      have hfz15_4 := blk_frozen BK151.out 4
      have hfz15_5 := blk_frozen BK151.out 5
      have hfz15_6 := blk_frozen BK151.out 6
      have hfz15_7 := blk_frozen BK151.out 7
      have hfz15_8 := blk_frozen BK151.out 8
      have hfz15_9 := blk_frozen BK151.out 9
      have hfz15_10 := blk_frozen BK151.out 10
      have hfz15_11 := blk_frozen BK151.out 11
      have hfz15_12 := blk_frozen BK151.out 12
      have hfz15_13 := blk_frozen BK151.out 13
      have hfz15_14 := blk_frozen BK151.out 14
      have hfz15_15 := blk_frozen BK151.out 15
      have hfz15_16 := blk_frozen BK151.out 16
      have hfz15_17 := blk_frozen BK151.out 17
      have hfz15_18 := blk_frozen BK151.out 18
      go_wp2_with (first | ((with_reducible refine gate_dst (N := 12) rfl ?_); refine Kd.R_lit (Kd.int .i64) _ 3 ?hg (N := 12) ?hd (xs := ([a0_17, (l0_16.length : Int)] : List Int)) (inner := [.int .i64 a0_17, .int .i64 (l0_16.length : Int)]) (ok := fun _ => True) (okp := fun _ => True) ?hr ?hp (fun _ hk => hk) trivial (Below.refl _ _) (Nat.le_refl _) (by simp) ?_; (case hd => rfl); (case hg => rfl); (case hr => first | (go_simp; done) | (go_simp; rfl)); (case hp => exact (Reps.one (show Kd.M (Kd.int .i64) _ _ _ a0_17 [.int .i64 a0_17] from rfl) (Reps.one (show Kd.M (Kd.int .i64) _ _ _ (l0_16.length : Int) [.int .i64 (l0_16.length : Int)] from rfl) (Reps.none _ _)))); intro v154 w16 ho17 hb hg_ hnew_; clear hg_ hnew_; (first | rw [← Ny153.out] at ho17 | (simp only [Int.reduceToNat] at ho17; rw [← Ny153.out] at ho17)); have HO155 := Aside0.mk (Kd.R_lower ho17 (below_size (upB HB.out))); replace BK151 := Aside0.mk (blk_below (g := gb151) (o := .cells #[.int .i64 a0_0, .int .i64 a0_1, .int .i64 a0_2, .int .i64 a0_3, .int .i64 a0_4, .slice A0_5 l0_5.length c0_5, .int .i64 a0_6, .int .i64 a0_7, .bool a0_8, .bool a0_9, .bool a0_10, .bool a0_11, .bool a0_12, .bool a0_13, .bool a0_14, .bool a0_15, .slice A0_16 l0_16.length c0_16, .int .i64 a0_17, .int .i64 a0_18] 55 (0, 0)) (upK BK151.out) hb); replace BK152 := Aside0.mk (blk_below (g := gb152) (o := .cells #[.int .i64 0, .slice none 0 0] 26 (0, 0)) (upK BK152.out) hb); replace HB := Aside0.mk (below_step (upB HB.out) hb); clear hb ho17; obtain ⟨Ao18, co18, eo18⟩ := Kd.R_slice HO155.out; subst eo18) | ((with_reducible refine gate_callee (f := 43) rfl ?_); refine goesL_ (some 13) rfl rfl Try.func43 (by kernel_rfl) rfl #[.int .i64 0, .int .i64 255, .slice Ao18 y153.length co18] rfl upL ?_; (with_reducible refine (headseg_within.calls k 0 255 _ _ y153 false _ ?side1 ?side2 A5.out).mono ?_); (case side1 => repeat (first | exact (Kd.R_reads' HO155.out).2.2 | (with_reducible refine Kd.C_alloc ?_ _) | (with_reducible refine Kd.C_drewN ?_ _) | (with_reducible refine Kd.C_drew ?_))); (case side2 => exact (Kd.R_reads' HO155.out).2.1); rintro e w' ⟨rfl, ⟨nd, rfl⟩⟩; refine ⟨_, rfl, ?_⟩))
      go_meet
      case rel => exact ⟨_, (true), (by first | rfl | (simp; done) | (simp [*]; done)), H', ⟨by first | omega | exact Nat.le_refl _⟩, ⟨by (with_reducible repeat (first | refine blk_drewN ?_ _ | refine blk_drew ?_ | refine blk_alloc ?_ _)); exact BK151.out⟩, ⟨by (with_reducible repeat (first | refine blk_drewN ?_ _ | refine blk_drew ?_ | refine blk_alloc ?_ _)); exact BK152.out⟩, ⟨by repeat (first | (with_reducible first | exact HB.out | apply below_alloc | apply pw_below_drewN | apply below_drew1 | refine below_set ?_ GE151.out | refine below_set ?_ GE152.out) | exact HB.out)⟩⟩
  case rest =>
    clear HC2
    try clear c1
    try clear c2
    try clear p2
    try clear c4
    try clear c6
    try clear c8
    try clear c14
    try clear hcz13_0
    try clear hcz13_1
    try clear hcz13_10
    try clear hcz13_11
    try clear hcz13_12
    try clear hcz13_13
    try clear hcz13_14
    try clear hcz13_15
    try clear hcz13_16
    try clear hcz13_17
    try clear hcz13_18
    try clear hcz13_2
    try clear hcz13_3
    try clear hcz13_4
    try clear hcz13_5
    try clear hcz13_6
    try clear hcz13_7
    try clear hcz13_8
    try clear hcz13_9
    try clear hcz15_0
    try clear hcz15_1
    try clear hcz15_10
    try clear hcz15_11
    try clear hcz15_12
    try clear hcz15_13
    try clear hcz15_14
    try clear hcz15_15
    try clear hcz15_16
    try clear hcz15_17
    try clear hcz15_18
    try clear hcz15_2
    try clear hcz15_3
    try clear hcz15_4
    try clear hcz15_5
    try clear hcz15_6
    try clear hcz15_7
    try clear hcz15_8
    try clear hcz15_9
    try clear hcz9_0
    try clear hcz9_1
    try clear hcz9_10
    try clear hcz9_11
    try clear hcz9_12
    try clear hcz9_13
    try clear hcz9_14
    try clear hcz9_15
    try clear hcz9_16
    try clear hcz9_17
    try clear hcz9_18
    try clear hcz9_2
    try clear hcz9_3
    try clear hcz9_4
    try clear hcz9_5
    try clear hcz9_6
    try clear hcz9_7
    try clear hcz9_8
    try clear hcz9_9
    try clear hfz13_0
    try clear hfz13_1
    try clear hfz13_10
    try clear hfz13_11
    try clear hfz13_12
    try clear hfz13_13
    try clear hfz13_14
    try clear hfz13_15
    try clear hfz13_16
    try clear hfz13_17
    try clear hfz13_18
    try clear hfz13_2
    try clear hfz13_3
    try clear hfz13_4
    try clear hfz13_5
    try clear hfz13_6
    try clear hfz13_7
    try clear hfz13_8
    try clear hfz13_9
    try clear hfz15_0
    try clear hfz15_1
    try clear hfz15_10
    try clear hfz15_11
    try clear hfz15_12
    try clear hfz15_13
    try clear hfz15_14
    try clear hfz15_15
    try clear hfz15_16
    try clear hfz15_17
    try clear hfz15_18
    try clear hfz15_2
    try clear hfz15_3
    try clear hfz15_4
    try clear hfz15_5
    try clear hfz15_6
    try clear hfz15_7
    try clear hfz15_8
    try clear hfz15_9
    try clear hfz9_0
    try clear hfz9_1
    try clear hfz9_10
    try clear hfz9_11
    try clear hfz9_12
    try clear hfz9_13
    try clear hfz9_14
    try clear hfz9_15
    try clear hfz9_16
    try clear hfz9_17
    try clear hfz9_18
    try clear hfz9_2
    try clear hfz9_3
    try clear hfz9_4
    try clear hfz9_5
    try clear hfz9_6
    try clear hfz9_7
    try clear hfz9_8
    try clear hfz9_9
    obtain ⟨kq, x20_1, rfl, HA, HJ1, BK151, BK152, HB⟩ := hcut
    cases kq with
    | zero => exact absurd HA.out (by simp [headseg_Quant.j0])
    | succ kj1 =>
      have H := HA.out
      clear HA
      simp only [headseg_Quant.j0] at H
      by_cases c19 : x20_1 = true
      · subst c19
        have H1 : (some (0, ([] : List Int), 2)) = some (r1, r2, r3) := by rw [if_pos rfl] at H; exact H
        clear H
        have H := H1
        clear H1
        simp only [Option.some.injEq, Prod.mk.injEq] at H
        obtain ⟨rfl, rfl, rfl⟩ := H
        have hnb20 := NB152_151.out
        have hnc20 := NB151_152.out
        have hcz21_0 : wc.cell? ⟨gb152, 0, none⟩ = some (.int .i64 0) := bc BK152 0
        have hcz21_1 : wc.cell? ⟨gb152, 1, none⟩ = some (.slice none 0 0) := bc BK152 1
        have hfz21_0 := blk_frozen BK152.out 0
        have hfz21_1 := blk_frozen BK152.out 1
        go_wp2
        refine bodyPost_ret (results_ct rfl _ _ gb152 26 #[.int .i64 0, .slice none 0 0] (0, 0) _ rfl (by (with_reducible repeat (first | refine blk_drewN ?_ _ | refine blk_drew ?_ | refine blk_alloc ?_ _)); refine blk_put (cs := #[.int .i64 0, .slice none 0 0]) ?_ 1 _ rfl; (with_reducible repeat (first | refine blk_drewN ?_ _ | refine blk_drew ?_ | refine blk_alloc ?_ _)); refine blk_put (cs := #[.int .i64 0, .slice none 0 0]) ?_ 0 _ rfl; (with_reducible repeat (first | refine blk_drewN ?_ _ | refine blk_drew ?_ | refine blk_alloc ?_ _)); exact BK152.out) Try.underlying26 rfl (by kernel_rfl)) rfl ?_
        exact ⟨_, by first | rfl | (simp [errW_none, errW_some] <;> rfl) | (simp [*, errW_none, errW_some] <;> rfl), by first | exact Kd.R_nil _ _ _ _ _ | exact Kd.N_nil _ _ _ _ _ | exact Kd.V_nil _ _ _ _ _ | exact Kd.Q_nil _ _ _ _ _ | exact Kd.S_nil _ _ _ _ _, by repeat (first | (with_reducible first | exact HB.out | apply below_alloc | apply pw_below_drewN | apply below_drew1 | refine below_set ?_ GE151.out | refine below_set ?_ GE152.out) | exact HB.out)⟩
      · replace c19 := Bool.eq_false_iff.mpr c19
        subst c19
        have H1 : (headseg_Quant.l0 kj1 (([(a0_17) % 256, ((l0_16.length : Int)) % 256] : List Int)) l0_16 (l0_16.length : Int) 0) = some (r1, r2, r3) := by rw [if_neg (show ¬ (false = true) by decide)] at H; exact H
        clear H
        have H := H1
        clear H1
        obtain ⟨y158, hy158⟩ : ∃ y_ : List Int, y_ = (([(a0_17) % 256, ((l0_16.length : Int)) % 256] : List Int)) := ⟨_, rfl⟩
        replace H : (headseg_Quant.l0 kj1 y158 l0_16 (l0_16.length : Int) 0) = some (r1, r2, r3) := by first | (rw [hy158]; with_reducible exact H) | (have H2_ := (Option.bind_some _ _).symm.trans H; rw [hy158]; with_reducible exact H2_) | (have H2_ := (Option.bind_some _ _).symm.trans H; with_reducible exact H2_) | with_reducible exact H | (rw [hy158]; exact H) | exact H
        have Ny158 := Aside0.mk hy158
        clear hy158
        have H' := Aside0.mk H
        clear H
        have hnb22 := NB151_152.out
        have hnc22 := NB152_151.out
        have hcz23_0 : wc.cell? ⟨gb151, 0, none⟩ = some (.int .i64 a0_0) := bc BK151 0
        have hcz23_1 : wc.cell? ⟨gb151, 1, none⟩ = some (.int .i64 a0_1) := bc BK151 1
        have hcz23_2 : wc.cell? ⟨gb151, 2, none⟩ = some (.int .i64 a0_2) := bc BK151 2
        have hcz23_3 : wc.cell? ⟨gb151, 3, none⟩ = some (.int .i64 a0_3) := bc BK151 3
        have hcz23_4 : wc.cell? ⟨gb151, 4, none⟩ = some (.int .i64 a0_4) := bc BK151 4
        have hcz23_5 : wc.cell? ⟨gb151, 5, none⟩ = some (.slice A0_5 l0_5.length c0_5) := bc BK151 5
        have hcz23_6 : wc.cell? ⟨gb151, 6, none⟩ = some (.int .i64 a0_6) := bc BK151 6
        have hcz23_7 : wc.cell? ⟨gb151, 7, none⟩ = some (.int .i64 a0_7) := bc BK151 7
        have hcz23_8 : wc.cell? ⟨gb151, 8, none⟩ = some (.bool a0_8) := bc BK151 8
        have hcz23_9 : wc.cell? ⟨gb151, 9, none⟩ = some (.bool a0_9) := bc BK151 9
        have hcz23_10 : wc.cell? ⟨gb151, 10, none⟩ = some (.bool a0_10) := bc BK151 10
        have hcz23_11 : wc.cell? ⟨gb151, 11, none⟩ = some (.bool a0_11) := bc BK151 11
        have hcz23_12 : wc.cell? ⟨gb151, 12, none⟩ = some (.bool a0_12) := bc BK151 12
        have hcz23_13 : wc.cell? ⟨gb151, 13, none⟩ = some (.bool a0_13) := bc BK151 13
        have hcz23_14 : wc.cell? ⟨gb151, 14, none⟩ = some (.bool a0_14) := bc BK151 14
        have hcz23_15 : wc.cell? ⟨gb151, 15, none⟩ = some (.bool a0_15) := bc BK151 15
        have hcz23_16 : wc.cell? ⟨gb151, 16, none⟩ = some (.slice A0_16 l0_16.length c0_16) := bc BK151 16
        have hcz23_17 : wc.cell? ⟨gb151, 17, none⟩ = some (.int .i64 a0_17) := bc BK151 17
        have hcz23_18 : wc.cell? ⟨gb151, 18, none⟩ = some (.int .i64 a0_18) := bc BK151 18
        have hfz23_0 := blk_frozen BK151.out 0
        have hfz23_1 := blk_frozen BK151.out 1
        have hfz23_2 := blk_frozen BK151.out 2
        have hfz23_3 := blk_frozen BK151.out 3
        have hfz23_4 := blk_frozen BK151.out 4
        have hfz23_5 := blk_frozen BK151.out 5
        have hfz23_6 := blk_frozen BK151.out 6
        have hfz23_7 := blk_frozen BK151.out 7
        have hfz23_8 := blk_frozen BK151.out 8
        have hfz23_9 := blk_frozen BK151.out 9
        have hfz23_10 := blk_frozen BK151.out 10
        have hfz23_11 := blk_frozen BK151.out 11
        have hfz23_12 := blk_frozen BK151.out 12
        have hfz23_13 := blk_frozen BK151.out 13
        have hfz23_14 := blk_frozen BK151.out 14
        have hfz23_15 := blk_frozen BK151.out 15
        have hfz23_16 := blk_frozen BK151.out 16
        have hfz23_17 := blk_frozen BK151.out 17
        have hfz23_18 := blk_frozen BK151.out 18
        go_wp2_with (first | ((with_reducible refine gate_dst (N := 29) rfl ?_); refine Kd.R_lit (Kd.int .u8) _ 5 ?hg (N := 29) ?hd (xs := ([(a0_17) % 256, ((l0_16.length : Int)) % 256] : List Int)) (inner := [.int .u8 ((a0_17) % 256), .int .u8 (((l0_16.length : Int)) % 256)]) (ok := fun _ => True) (okp := fun _ => True) ?hr ?hp (fun _ hk => hk) trivial (Below.refl _ _) (Nat.le_refl _) (by simp) ?_; (case hd => rfl); (case hg => rfl); (case hr => first | (go_simp; done) | (go_simp; rfl)); (case hp => exact (Reps.one (show Kd.M (Kd.int .u8) _ _ _ ((a0_17) % 256) [.int .u8 ((a0_17) % 256)] from rfl) (Reps.one (show Kd.M (Kd.int .u8) _ _ _ (((l0_16.length : Int)) % 256) [.int .u8 (((l0_16.length : Int)) % 256)] from rfl) (Reps.none _ _)))); intro v159 w24 ho25 hb hg_ hnew_; clear hg_ hnew_; (first | rw [← Ny158.out] at ho25 | (simp only [Int.reduceToNat] at ho25; rw [← Ny158.out] at ho25)); have HO160 := Aside0.mk (Kd.R_lower ho25 (below_size (upB HB.out))); replace BK151 := Aside0.mk (blk_below (g := gb151) (o := .cells #[.int .i64 a0_0, .int .i64 a0_1, .int .i64 a0_2, .int .i64 a0_3, .int .i64 a0_4, .slice A0_5 l0_5.length c0_5, .int .i64 a0_6, .int .i64 a0_7, .bool a0_8, .bool a0_9, .bool a0_10, .bool a0_11, .bool a0_12, .bool a0_13, .bool a0_14, .bool a0_15, .slice A0_16 l0_16.length c0_16, .int .i64 a0_17, .int .i64 a0_18] 55 (0, 0)) (upK BK151.out) hb); replace BK152 := Aside0.mk (blk_below (g := gb152) (o := .cells #[.int .i64 0, .slice none 0 0] 26 (0, 0)) (upK BK152.out) hb); replace HB := Aside0.mk (below_step (upB HB.out) hb); clear hb ho25; have hcz26_0 : w24.cell? ⟨gb151, 0, none⟩ = some (.int .i64 a0_0) := bc BK151 0; have hcz26_1 : w24.cell? ⟨gb151, 1, none⟩ = some (.int .i64 a0_1) := bc BK151 1; have hcz26_2 : w24.cell? ⟨gb151, 2, none⟩ = some (.int .i64 a0_2) := bc BK151 2; have hcz26_3 : w24.cell? ⟨gb151, 3, none⟩ = some (.int .i64 a0_3) := bc BK151 3; have hcz26_4 : w24.cell? ⟨gb151, 4, none⟩ = some (.int .i64 a0_4) := bc BK151 4; have hcz26_5 : w24.cell? ⟨gb151, 5, none⟩ = some (.slice A0_5 l0_5.length c0_5) := bc BK151 5; have hcz26_6 : w24.cell? ⟨gb151, 6, none⟩ = some (.int .i64 a0_6) := bc BK151 6; have hcz26_7 : w24.cell? ⟨gb151, 7, none⟩ = some (.int .i64 a0_7) := bc BK151 7; have hcz26_8 : w24.cell? ⟨gb151, 8, none⟩ = some (.bool a0_8) := bc BK151 8; have hcz26_9 : w24.cell? ⟨gb151, 9, none⟩ = some (.bool a0_9) := bc BK151 9; have hcz26_10 : w24.cell? ⟨gb151, 10, none⟩ = some (.bool a0_10) := bc BK151 10; have hcz26_11 : w24.cell? ⟨gb151, 11, none⟩ = some (.bool a0_11) := bc BK151 11; have hcz26_12 : w24.cell? ⟨gb151, 12, none⟩ = some (.bool a0_12) := bc BK151 12; have hcz26_13 : w24.cell? ⟨gb151, 13, none⟩ = some (.bool a0_13) := bc BK151 13; have hcz26_14 : w24.cell? ⟨gb151, 14, none⟩ = some (.bool a0_14) := bc BK151 14; have hcz26_15 : w24.cell? ⟨gb151, 15, none⟩ = some (.bool a0_15) := bc BK151 15; have hcz26_16 : w24.cell? ⟨gb151, 16, none⟩ = some (.slice A0_16 l0_16.length c0_16) := bc BK151 16; have hcz26_17 : w24.cell? ⟨gb151, 17, none⟩ = some (.int .i64 a0_17) := bc BK151 17; have hcz26_18 : w24.cell? ⟨gb151, 18, none⟩ = some (.int .i64 a0_18) := bc BK151 18; have hfz26_0 := blk_frozen BK151.out 0; have hfz26_1 := blk_frozen BK151.out 1; have hfz26_2 := blk_frozen BK151.out 2; have hfz26_3 := blk_frozen BK151.out 3; have hfz26_4 := blk_frozen BK151.out 4; have hfz26_5 := blk_frozen BK151.out 5; have hfz26_6 := blk_frozen BK151.out 6; have hfz26_7 := blk_frozen BK151.out 7; have hfz26_8 := blk_frozen BK151.out 8; have hfz26_9 := blk_frozen BK151.out 9; have hfz26_10 := blk_frozen BK151.out 10; have hfz26_11 := blk_frozen BK151.out 11; have hfz26_12 := blk_frozen BK151.out 12; have hfz26_13 := blk_frozen BK151.out 13; have hfz26_14 := blk_frozen BK151.out 14; have hfz26_15 := blk_frozen BK151.out 15; have hfz26_16 := blk_frozen BK151.out 16; have hfz26_17 := blk_frozen BK151.out 17; have hfz26_18 := blk_frozen BK151.out 18))
        go_loopg [4, 33] kj1 (fun kq v4 v33 w' => ∃ (x4_2 : List Int) (x33_2 : Int), v33 = .int .i64 x33_2 ∧ Aside0 (headseg_Quant.l0 kq x4_2 l0_16 (l0_16.length : Int) x33_2 = some (r1, r2, r3)) ∧ Aside0 (kq ≤ kj1) ∧ Aside0 (Kd.R (Kd.int .u8) 5 w' w.heap.size (fun _ => True) v4 x4_2) ∧ Aside0 (w'.heap[gb151]? = some (.cells #[.int .i64 a0_0, .int .i64 a0_1, .int .i64 a0_2, .int .i64 a0_3, .int .i64 a0_4, (.slice A0_5 l0_5.length c0_5), .int .i64 a0_6, .int .i64 a0_7, .bool a0_8, .bool a0_9, .bool a0_10, .bool a0_11, .bool a0_12, .bool a0_13, .bool a0_14, .bool a0_15, (.slice A0_16 l0_16.length c0_16), .int .i64 a0_17, .int .i64 a0_18] 55 (0, 0))) ∧ Aside0 (w'.heap[gb152]? = some (.cells #[.int .i64 0, (.slice none 0 0)] 26 (0, 0))) ∧ Aside0 (Below w.heap.size w w'))
        case atStart => exact ⟨(y158), (0), (by first | rfl | (simp; done) | (simp [*]; done)), H', ⟨Nat.le_refl _⟩, ⟨by (with_reducible repeat (first | apply Kd.R_alloc | apply Kd.R_drewN | apply Kd.R_drew)); exact HO160.out⟩, ⟨by (with_reducible repeat (first | refine blk_drewN ?_ _ | refine blk_drew ?_ | refine blk_alloc ?_ _)); exact BK151.out⟩, ⟨by (with_reducible repeat (first | refine blk_drewN ?_ _ | refine blk_drew ?_ | refine blk_alloc ?_ _)); exact BK152.out⟩, ⟨by repeat (first | (with_reducible first | exact HB.out | apply below_alloc | apply pw_below_drewN | apply below_drew1 | refine below_set ?_ GE151.out | refine below_set ?_ GE152.out) | exact HB.out)⟩⟩
        case round =>
          clear H'
          try clear c1
          try clear c2
          try clear p2
          try clear c4
          try clear c6
          try clear c8
          try clear c14
          try clear c19
          try clear c20
          try clear c22
          try clear hcz13_0
          try clear hcz13_1
          try clear hcz13_10
          try clear hcz13_11
          try clear hcz13_12
          try clear hcz13_13
          try clear hcz13_14
          try clear hcz13_15
          try clear hcz13_16
          try clear hcz13_17
          try clear hcz13_18
          try clear hcz13_2
          try clear hcz13_3
          try clear hcz13_4
          try clear hcz13_5
          try clear hcz13_6
          try clear hcz13_7
          try clear hcz13_8
          try clear hcz13_9
          try clear hcz15_0
          try clear hcz15_1
          try clear hcz15_10
          try clear hcz15_11
          try clear hcz15_12
          try clear hcz15_13
          try clear hcz15_14
          try clear hcz15_15
          try clear hcz15_16
          try clear hcz15_17
          try clear hcz15_18
          try clear hcz15_2
          try clear hcz15_3
          try clear hcz15_4
          try clear hcz15_5
          try clear hcz15_6
          try clear hcz15_7
          try clear hcz15_8
          try clear hcz15_9
          try clear hcz21_0
          try clear hcz21_1
          try clear hcz23_0
          try clear hcz23_1
          try clear hcz23_10
          try clear hcz23_11
          try clear hcz23_12
          try clear hcz23_13
          try clear hcz23_14
          try clear hcz23_15
          try clear hcz23_16
          try clear hcz23_17
          try clear hcz23_18
          try clear hcz23_2
          try clear hcz23_3
          try clear hcz23_4
          try clear hcz23_5
          try clear hcz23_6
          try clear hcz23_7
          try clear hcz23_8
          try clear hcz23_9
          try clear hcz26_0
          try clear hcz26_1
          try clear hcz26_10
          try clear hcz26_11
          try clear hcz26_12
          try clear hcz26_13
          try clear hcz26_14
          try clear hcz26_15
          try clear hcz26_16
          try clear hcz26_17
          try clear hcz26_18
          try clear hcz26_2
          try clear hcz26_3
          try clear hcz26_4
          try clear hcz26_5
          try clear hcz26_6
          try clear hcz26_7
          try clear hcz26_8
          try clear hcz26_9
          try clear hcz9_0
          try clear hcz9_1
          try clear hcz9_10
          try clear hcz9_11
          try clear hcz9_12
          try clear hcz9_13
          try clear hcz9_14
          try clear hcz9_15
          try clear hcz9_16
          try clear hcz9_17
          try clear hcz9_18
          try clear hcz9_2
          try clear hcz9_3
          try clear hcz9_4
          try clear hcz9_5
          try clear hcz9_6
          try clear hcz9_7
          try clear hcz9_8
          try clear hcz9_9
          try clear hfz13_0
          try clear hfz13_1
          try clear hfz13_10
          try clear hfz13_11
          try clear hfz13_12
          try clear hfz13_13
          try clear hfz13_14
          try clear hfz13_15
          try clear hfz13_16
          try clear hfz13_17
          try clear hfz13_18
          try clear hfz13_2
          try clear hfz13_3
          try clear hfz13_4
          try clear hfz13_5
          try clear hfz13_6
          try clear hfz13_7
          try clear hfz13_8
          try clear hfz13_9
          try clear hfz15_0
          try clear hfz15_1
          try clear hfz15_10
          try clear hfz15_11
          try clear hfz15_12
          try clear hfz15_13
          try clear hfz15_14
          try clear hfz15_15
          try clear hfz15_16
          try clear hfz15_17
          try clear hfz15_18
          try clear hfz15_2
          try clear hfz15_3
          try clear hfz15_4
          try clear hfz15_5
          try clear hfz15_6
          try clear hfz15_7
          try clear hfz15_8
          try clear hfz15_9
          try clear hfz21_0
          try clear hfz21_1
          try clear hfz23_0
          try clear hfz23_1
          try clear hfz23_10
          try clear hfz23_11
          try clear hfz23_12
          try clear hfz23_13
          try clear hfz23_14
          try clear hfz23_15
          try clear hfz23_16
          try clear hfz23_17
          try clear hfz23_18
          try clear hfz23_2
          try clear hfz23_3
          try clear hfz23_4
          try clear hfz23_5
          try clear hfz23_6
          try clear hfz23_7
          try clear hfz23_8
          try clear hfz23_9
          try clear hfz26_0
          try clear hfz26_1
          try clear hfz26_10
          try clear hfz26_11
          try clear hfz26_12
          try clear hfz26_13
          try clear hfz26_14
          try clear hfz26_15
          try clear hfz26_16
          try clear hfz26_17
          try clear hfz26_18
          try clear hfz26_2
          try clear hfz26_3
          try clear hfz26_4
          try clear hfz26_5
          try clear hfz26_6
          try clear hfz26_7
          try clear hfz26_8
          try clear hfz26_9
          try clear hfz9_0
          try clear hfz9_1
          try clear hfz9_10
          try clear hfz9_11
          try clear hfz9_12
          try clear hfz9_13
          try clear hfz9_14
          try clear hfz9_15
          try clear hfz9_16
          try clear hfz9_17
          try clear hfz9_18
          try clear hfz9_2
          try clear hfz9_3
          try clear hfz9_4
          try clear hfz9_5
          try clear hfz9_6
          try clear hfz9_7
          try clear hfz9_8
          try clear hfz9_9
          try clear p2
          obtain ⟨x4_2, x33_2, rfl, HA, HK2, HO_4, BK151, BK152, HB⟩ := hrel
          cases gk with
          | zero => exact absurd HA.out (by simp [headseg_Quant.l0])
          | succ k2 =>
            have H := HA.out
            clear HA
            simp only [headseg_Quant.l0] at H
            by_cases c27 : x33_2 < (l0_16.length : Int)
            · rw [if_pos c27] at H
              have c27b0 : decide (x33_2 < (l0_16.length : Int)) = true := decide_eq_true c27
              clear c27
              by_cases c28 : 0 ≤ x33_2
              · rw [if_pos c28] at H
                have c28b0 : decide (0 ≤ x33_2) = true := decide_eq_true c28
                clear c28
                by_cases c29 : x33_2 < (l0_16.length : Int)
                · rw [if_pos c29] at H
                  have c29b0 : decide (x33_2 < (l0_16.length : Int)) = true := decide_eq_true c29
                  clear c29
                  replace H := Option.bind_eq_some_iff.mp H
                  obtain ⟨t162, A300, H⟩ := H
                  replace H : (headseg_Quant.l0 k2 t162 l0_16 (l0_16.length : Int) (wrap64 (x33_2 + 1))) = some (r1, r2, r3) := H
                  have A30 := Aside0.mk A300
                  clear A300
                  have H' := Aside0.mk H
                  clear H
                  have p161 : 0 ≤ (x33_2 : Int) := of_decide_eq_true (by first | (with_reducible assumption) | assumption)
                  have q161 : x33_2 < (l0_16.length : Int) := of_decide_eq_true (by first | (with_reducible assumption) | assumption)
                  obtain ⟨ad161, e161, hx161_0⟩ := Kd.at_int HR0_16.out x33_2 p161 q161
                  cases e161
                  replace hx161_0 := hc HB hx161_0
                  replace p161 := eq_true p161
                  replace q161 := eq_true q161
                  obtain ⟨Ao31, co31, eo31⟩ := Kd.R_slice HO_4.out
                  subst eo31
                  go_wp2_with (first | ((with_reducible refine gate_callee (f := 44) rfl ?_); refine goesL_ (some 40) rfl rfl Try.func44 (by kernel_rfl) rfl #[.slice Ao31 x4_2.length co31, .int .i64 2, .int .i64 (wrap64 ((rd l0_16 x33_2) - 1))] rfl upL ?_; (with_reducible refine (headseg_put.calls k2 (fun k_ => some k_ = (.slice Ao31 x4_2.length co31 : Value).ownBlock) (.slice Ao31 x4_2.length co31) x4_2 2 (wrap64 ((rd l0_16 x33_2) - 1)) t162 w _ ?side1 ?side2 A30.out).mono ?_); (case side1 => repeat (first | (with_reducible first | exact HB.out | apply below_alloc | apply pw_below_drewN | apply below_drew1 | refine below_set ?_ GE151.out | refine below_set ?_ GE152.out) | exact HB.out)); (case side2 => exact Kd.R_tight rfl HO_4.out); rintro e w32 ⟨v163, rfl, ho0, hb, hkp⟩; refine ⟨_, rfl, ?_⟩; have n0_ := Aside0.mk (blk_kept (upK BK151.out) hkp (fun hs_ => (fun e_ => (Kd.R_ne HO_4.out BK151.out (by decide)) e_) hs_)); have n1_ := Aside0.mk (blk_kept (upK BK152.out) hkp (fun hs_ => (fun e_ => (Kd.R_ne HO_4.out BK152.out (by decide)) e_) hs_)); have n2_ := Aside0.mk (Kd.R_mono (ok' := fun k_ => True) ho0 (fun k_ hk_ => trivial)); have n3_ := Aside0.mk (hb); clear BK151 BK152 HB HO_4; have BK151 := n0_; have BK152 := n1_; have HO164 := n2_; have HB := n3_; clear n0_ n1_ n2_ n3_; (try clear hb; try clear hkp; try clear ho0)))
                  go_roundg k2
                  case measure => have := HJ1.out; have := HK2.out; omega
                  case rel => exact ⟨(t162), (wrap64 (x33_2 + 1)), (by first | rfl | (simp; done) | (simp [*]; done)), H', ⟨by have := HJ1.out; have := HK2.out; omega⟩, ⟨by (with_reducible repeat (first | apply Kd.R_alloc | apply Kd.R_drewN | apply Kd.R_drew)); exact HO164.out⟩, ⟨by (with_reducible repeat (first | refine blk_drewN ?_ _ | refine blk_drew ?_ | refine blk_alloc ?_ _)); exact BK151.out⟩, ⟨by (with_reducible repeat (first | refine blk_drewN ?_ _ | refine blk_drew ?_ | refine blk_alloc ?_ _)); exact BK152.out⟩, ⟨by repeat (first | (with_reducible first | exact HB.out | apply below_alloc | apply pw_below_drewN | apply below_drew1 | refine below_set ?_ GE151.out | refine below_set ?_ GE152.out) | exact HB.out)⟩⟩
                · rw [if_neg c29] at H
                  exact absurd H (by simp)
              · rw [if_neg c28] at H
                exact absurd H (by simp)
            · rw [if_neg c27] at H
              have c27b0 : decide (x33_2 < (l0_16.length : Int)) = false := decide_eq_false c27
              clear c27
              simp only [Option.some.injEq, Prod.mk.injEq] at H
              obtain ⟨rfl, rfl, rfl⟩ := H
              obtain ⟨Ao33, co33, eo33⟩ := Kd.R_slice HO_4.out
              subst eo33
              have hnb34 := NB152_151.out
              have hnc34 := NB151_152.out
              have hcz35_0 : wr.cell? ⟨gb152, 0, none⟩ = some (.int .i64 0) := bc BK152 0
              have hcz35_1 : wr.cell? ⟨gb152, 1, none⟩ = some (.slice none 0 0) := bc BK152 1
              have hfz35_0 := blk_frozen BK152.out 0
              have hfz35_1 := blk_frozen BK152.out 1
              go_wp2
              refine bodyPost_ret (results_ct rfl _ _ gb152 26 #[.int .i64 65443, .slice Ao33 x4_2.length co33] (0, 0) _ rfl (by (with_reducible repeat (first | refine blk_drewN ?_ _ | refine blk_drew ?_ | refine blk_alloc ?_ _)); refine blk_put (cs := #[.int .i64 65443, .slice none 0 0]) ?_ 1 _ rfl; (with_reducible repeat (first | refine blk_drewN ?_ _ | refine blk_drew ?_ | refine blk_alloc ?_ _)); refine blk_put (cs := #[.int .i64 0, .slice none 0 0]) ?_ 0 _ rfl; (with_reducible repeat (first | refine blk_drewN ?_ _ | refine blk_drew ?_ | refine blk_alloc ?_ _)); exact BK152.out) Try.underlying26 rfl (by kernel_rfl)) rfl ?_
              exact ⟨_, by first | rfl | (simp [errW_none, errW_some] <;> rfl) | (simp [*, errW_none, errW_some] <;> rfl), by (with_reducible repeat (first | apply Kd.R_alloc | apply Kd.R_drewN | apply Kd.R_drew)); exact Kd.R_mono (Kd.R_far (Kd.R_far (Kd.R_types HO_4.out BK152.out (by decide)) (fun _ hk => hk.2) _) (fun _ hk => hk.2) _) (fun _ hk => trivial), by repeat (first | (with_reducible first | exact HB.out | apply below_alloc | apply pw_below_drewN | apply below_drew1 | refine below_set ?_ GE151.out | refine below_set ?_ GE152.out) | exact HB.out)⟩

end Go.Proofs.Ytihfopblmjgfaaa.Q
