-- By a program of this session (wip/tools/mk.py), out of the kit's print of the translation; Lean checks it.
import Derived.Test.YthemchggmlpdhaaShort
import Derived.Test.YthemchggmlpdhaaUp2
import Derived.Test.YthemchggmlpdhaaUp
import Derived.Test.YthemchggmlpdhaaQ0
import Derived.Test.YthemchggmlpdhaaQ9
namespace Go.Proofs.Ythemchggmlpdhaa.Q
open Go.RowKit Go.Proofs.YthemchggmlpdhaaW.PrintWords Go.Proofs.YthemchggmlpdhaaW.PrintLast Go.Proofs.YthemchggmlpdhaaW.PrintMore
attribute [local go_sem] max2_int min2_int max_two min_two max_three min_three max_four min_four   -- for this text's walks alone
set_option linter.unusedVariables false
set_option linter.unusedSimpArgs false

/-! ### plane_Clip: function 31 -/
def plane_Clip.l0 : Nat → Int → Int → List Int → Int → Int → Int → Int → Int → Int → List Int → Option (Int × Int × Int × Int × List Int × Int)
 | 0, _, _, _, _, _, _, _, _, _, _ => none
 | k + 1, x1, x2, x27, x28, x29, x208000, x208001, x208002, x208003, x208004 => if x29 < x28 then (if 0 ≤ x29 then (if x29 < (x27.length : Int) then (if x29 < (x208004.length : Int) then (plane_Clip.l0 k x1 x2 x27 x28 (wrap64 (x29 + 1)) x208000 x208001 x208002 x208003 (x208004.set (x29 : Int).toNat (mn (mx (rd x27 x29) x1) x2))) else (none)) else (none)) else (none)) else (some (x208000, x208001, x208002, x208003, x208004, 0))
def plane_Clip.f (k : Nat) (a0_0 : Int) (a0_1 : Int) (a0_2 : Int) (a0_3 : Int) (l0_4 : List Int) (a1 : Int) (a2 : Int) : Option (Int × Int × Int × Int × List Int × Int) := (plane_Valid.f a0_0 a0_1 a0_2 a0_3 l0_4).bind fun t203 => (if t203 = true then (if a1 > a2 then (some (0, 0, 0, 0, ([] : List Int), 2)) else (if 0 ≤ (l0_4.length : Int) then (if ((l0_4.length : Int) : Int).toNat ≤ 35184372088832 then (plane_Clip.l0 k a1 a2 l0_4 (l0_4.length : Int) 0 a0_0 a0_1 a0_2 a0_3 (List.replicate ((l0_4.length : Int) : Int).toNat 0)) else (none)) else (none))) else (some (0, 0, 0, 0, ([] : List Int), 1)))
theorem plane_Clip.mono_l : ∀ k, (∀ y0 y1 y2 y3 y4 y5 y6 y7 y8 y9, LeO (plane_Clip.l0 k y0 y1 y2 y3 y4 y5 y6 y7 y8 y9) (plane_Clip.l0 (k + 1) y0 y1 y2 y3 y4 y5 y6 y7 y8 y9))
 | 0 => fun _ _ _ _ _ _ _ _ _ _ r h => by simp [plane_Clip.l0] at h
 | k + 1 => by
  have ih0 := plane_Clip.mono_l k
  ·intro y0 y1 y2 y3 y4 y5 y6 y7 y8 y9
   unfold plane_Clip.l0
   repeat' first
   | (with_reducible exact ih0 _ _ _ _ _ _ _ _ _ _)
   | (with_reducible exact LeO.refl _)
   | (with_reducible exact LeO.none _)
   | (with_reducible refine LeO.ite ?_ ?_)
   | (with_reducible refine LeO.bind ?_ (fun _ => ?_))
   | exact ih0 _ _ _ _ _ _ _ _ _ _
   | exact LeO.none _
   | refine LeO.ite ?_ ?_
   | refine LeO.bind ?_ (fun _ => ?_)
theorem plane_Clip.mono : ∀ a0 a1 a2 a3 a4 a5 a6 k, LeO (plane_Clip.f k a0 a1 a2 a3 a4 a5 a6) (plane_Clip.f (k + 1) a0 a1 a2 a3 a4 a5 a6) := by
 intro a0 a1 a2 a3 a4 a5 a6 k
 have ih0 := plane_Clip.mono_l k
 unfold plane_Clip.f
 repeat' first
   | (with_reducible exact ih0 _ _ _ _ _ _ _ _ _ _)
   | (with_reducible exact LeO.refl _)
   | (with_reducible exact LeO.none _)
   | (with_reducible refine LeO.ite ?_ ?_)
   | (with_reducible refine LeO.bind ?_ (fun _ => ?_))
   | exact ih0 _ _ _ _ _ _ _ _ _ _
   | exact LeO.none _
   | refine LeO.ite ?_ ?_
   | refine LeO.bind ?_ (fun _ => ?_)
def plane_Clip.T5 : Bool × List (List Nat × List Nat) := (true, [([], []), ([0], [0]), ([], []), ([2], [2]), ([3], [3]), ([4, 4], [4]), ([1, 5], [1, 5]), ([], []), ([7, 6, 0, 1, 2, 3, 4, 5, 6, 7], [6, 7])])
def plane_Clip.B5 : List Nat := [0, 1, 0, 4, 12, 28, 63, 0, 255]
theorem plane_Clip.tab5 : rtab .any (opsOf Try.f31 5) = plane_Clip.T5 := by kernel_rfl
theorem plane_Clip.bits5 : waitsOk plane_Clip.T5.2 plane_Clip.B5 = true := by kernel_rfl
set_option maxHeartbeats 8000000 in
set_option maxRecDepth 100000 in
theorem plane_Clip.calls (k : Nat) (a0_0 : Int) (a0_1 : Int) (a0_2 : Int) (a0_3 : Int) (A0_4 : Option Addr) (c0_4 : Nat) (l0_4 : List Int) (a1 : Int) (a2 : Int) (r1 : Int) (r2 : Int) (r3 : Int) (r4 : Int) (r5 : List Int) (r6 : Int) (w : World) (hr0_4 : Kd.C (Kd.int .i64) w A0_4 l0_4.length l0_4) (hc0_4 : l0_4.length ≤ c0_4) (h : plane_Clip.f k a0_0 a0_1 a0_2 a0_3 l0_4 a1 a2 = some (r1, r2, r3, r4, r5, r6)) :
  Calls Try.prog 31 #[.agg #[.int .i64 a0_0, .int .i64 a0_1, .int .i64 a0_2, .int .i64 a0_3, .slice A0_4 l0_4.length c0_4], .int .i64 a1, .int .i64 a2] w fun e w' => ∃ v4_ : Value, e = .returned (.tuple #[.agg #[.int .i64 r1, .int .i64 r2, .int .i64 r3, .int .i64 r4, v4_], .int .i64 r6]) ∧ Kd.R (Kd.int .i64) 3 w' w.heap.size (fun _ => True) v4_ r5 ∧ Below w.heap.size w w' := by
 have hu26 := Try.underlying26
 have hu23 := Try.underlying23
 have HR0_4 := AS hr0_4
 have HC0_4 := AS hc0_4
 clear hr0_4 hc0_4
 have HB := AS (Below.refl w.heap.size w)
 have H : ((plane_Valid.f a0_0 a0_1 a0_2 a0_3 l0_4).bind fun t203 => (if t203 = true then (if a1 > a2 then (some (0, 0, 0, 0, ([] : List Int), 2)) else (if 0 ≤ (l0_4.length : Int) then (if ((l0_4.length : Int) : Int).toNat ≤ 35184372088832 then (plane_Clip.l0 k a1 a2 l0_4 (l0_4.length : Int) 0 a0_0 a0_1 a0_2 a0_3 (List.replicate ((l0_4.length : Int) : Int).toNat 0)) else (none)) else (none))) else (some (0, 0, 0, 0, ([] : List Int), 1)))) = some (r1, r2, r3, r4, r5, r6) := h
 clear h
 replace H := Option.bind_eq_some_iff.mp H
 obtain ⟨t203, A40, H⟩ := H
 replace H : (if t203 = true then (if a1 > a2 then (some (0, 0, 0, 0, ([] : List Int), 2)) else (if 0 ≤ (l0_4.length : Int) then (if ((l0_4.length : Int) : Int).toNat ≤ 35184372088832 then (plane_Clip.l0 k a1 a2 l0_4 (l0_4.length : Int) 0 a0_0 a0_1 a0_2 a0_3 (List.replicate ((l0_4.length : Int) : Int).toNat 0)) else (none)) else (none))) else (some (0, 0, 0, 0, ([] : List Int), 1))) = some (r1, r2, r3, r4, r5, r6) := H
 have A4 := AS A40
 clear A40
 by_cases c5 : t203 = true
 ·subst c5
  have H1 : (if a1 > a2 then (some (0, 0, 0, 0, ([] : List Int), 2)) else (if 0 ≤ (l0_4.length : Int) then (if ((l0_4.length : Int) : Int).toNat ≤ 35184372088832 then (plane_Clip.l0 k a1 a2 l0_4 (l0_4.length : Int) 0 a0_0 a0_1 a0_2 a0_3 (List.replicate ((l0_4.length : Int) : Int).toNat 0)) else (none)) else (none))) = some (r1, r2, r3, r4, r5, r6) := by rw [if_pos rfl] at H; exact H
  clear H
  have H := H1
  clear H1
  by_cases c6 : a1 > a2
  ·rw [if_pos c6] at H
   have c6b0 : decide (a2 < a1) = true := decide_eq_true c6
   clear c6
   simp only [Option.some.injEq, Prod.mk.injEq] at H
   obtain ⟨rfl, rfl, rfl, rfl, rfl, rfl⟩ := H
   go_enter Try.func31, Try.ntmps31
   go_wp2_with (first | ((with_reducible refine gate_dst (N := 3) rfl ?_); refine box_event ?hg (N := 3) ?hd (cs := #[.int .i64 a0_0, .int .i64 a0_1, .int .i64 a0_2, .int .i64 a0_3, .slice A0_4 l0_4.length c0_4]) (t := 26) ?hr ?_; (case hd => rfl); (case hg => rfl); (case hr => first | (go_simp; done) | (go_simp; rfl)); intro gb201 hg w7 hbox hb; have BK201 := AS (hbox); have GW201 := AS ((by rw [hg]; exact (below_size (upB HB.out)) : w.heap.size ≤ gb201)); have GE201 := AS ((by rw [hg]; exact (below_size (upB HB.out)) : w.heap.size ≤ gb201)); replace HB := AS (below_step (upB HB.out) hb); clear hb hbox hg) | ((with_reducible refine gate_dst (N := 6) rfl ?_); refine box_event ?hg (N := 6) ?hd (cs := #[.int .i64 0, .int .i64 0, .int .i64 0, .int .i64 0, .slice none 0 0]) (t := 26) ?hr ?_; (case hd => rfl); (case hg => rfl); (case hr => first | (go_simp; done) | (go_simp; rfl)); intro gb202 hg w8 hbox hb; have BK202 := AS (hbox); have GW202 := AS ((by rw [hg]; exact (below_size (upB HB.out)) : w.heap.size ≤ gb202)); have GE202 := AS ((by rw [hg]; exact (below_size (upB HB.out)) : w.heap.size ≤ gb202)); replace HB := AS (below_step (upB HB.out) hb); have NB201_202 := AS ((by rw [hg]; exact Nat.ne_of_lt (blk_lt (upK BK201.out)) : gb201 ≠ gb202)); have NB202_201 := AS ((by rw [hg]; exact Nat.ne_of_gt (blk_lt (upK BK201.out)) : gb202 ≠ gb201)); replace BK201 := AS (blk_below (g := gb201) (o := .cells #[.int .i64 a0_0, .int .i64 a0_1, .int .i64 a0_2, .int .i64 a0_3, .slice A0_4 l0_4.length c0_4] 26) (upK BK201.out) hb); clear hb hbox hg; have hnb9 := NB201_202.out; have hnc9 := NB202_201.out; have hcz10_0 : w8.cell? ⟨gb201, 0, none⟩ = some (.int .i64 a0_0) := bc BK201 0; have hcz10_1 : w8.cell? ⟨gb201, 1, none⟩ = some (.int .i64 a0_1) := bc BK201 1; have hcz10_2 : w8.cell? ⟨gb201, 2, none⟩ = some (.int .i64 a0_2) := bc BK201 2; have hcz10_3 : w8.cell? ⟨gb201, 3, none⟩ = some (.int .i64 a0_3) := bc BK201 3; have hcz10_4 : w8.cell? ⟨gb201, 4, none⟩ = some (.slice A0_4 l0_4.length c0_4) := bc BK201 4; have hfz10_0 := blk_frozen BK201.out 0; have hfz10_1 := blk_frozen BK201.out 1; have hfz10_2 := blk_frozen BK201.out 2; have hfz10_3 := blk_frozen BK201.out 3; have hfz10_4 := blk_frozen BK201.out 4) | ((with_reducible refine gate_callee (f := 20) rfl ?_); refine goesL_ (some 12) rfl rfl Try.func20 (by kernel_rfl) rfl #[.agg #[.int .i64 a0_0, .int .i64 a0_1, .int .i64 a0_2, .int .i64 a0_3, .slice A0_4 l0_4.length c0_4]] rfl upL ?_; (with_reducible refine (plane_Valid.calls a0_0 a0_1 a0_2 a0_3 _ _ l0_4 true _ ?side1 ?side2 A4.out).mono ?_); (case side1 => repeat (first | exact (Kd.C_below HR0_4.out HB.out) | (with_reducible refine Kd.C_alloc ?_ _) | (with_reducible refine Kd.C_drewN ?_ _) | (with_reducible refine Kd.C_drew ?_))); (case side2 => exact HC0_4.out); rintro e w11 ⟨rfl, hb⟩; refine ⟨_, rfl, ?_⟩; replace BK201 := AS (blk_below (g := gb201) (o := .cells #[.int .i64 a0_0, .int .i64 a0_1, .int .i64 a0_2, .int .i64 a0_3, .slice A0_4 l0_4.length c0_4] 26) (upK BK201.out) hb); replace BK202 := AS (blk_below (g := gb202) (o := .cells #[.int .i64 0, .int .i64 0, .int .i64 0, .int .i64 0, .slice none 0 0] 26) (upK BK202.out) hb); replace HB := AS (below_step (upB HB.out) hb); (try clear hb; try clear hb2; try clear hk; try clear hi); have hcz12_0 : w11.cell? ⟨gb202, 0, none⟩ = some (.int .i64 0) := bc BK202 0; have hcz12_1 : w11.cell? ⟨gb202, 1, none⟩ = some (.int .i64 0) := bc BK202 1; have hcz12_2 : w11.cell? ⟨gb202, 2, none⟩ = some (.int .i64 0) := bc BK202 2; have hcz12_3 : w11.cell? ⟨gb202, 3, none⟩ = some (.int .i64 0) := bc BK202 3; have hcz12_4 : w11.cell? ⟨gb202, 4, none⟩ = some (.slice none 0 0) := bc BK202 4; have hfz12_0 := blk_frozen BK202.out 0; have hfz12_1 := blk_frozen BK202.out 1; have hfz12_2 := blk_frozen BK202.out 2; have hfz12_3 := blk_frozen BK202.out 3; have hfz12_4 := blk_frozen BK202.out 4))
   refine bodyPost_ret (results_ct rfl _ _ gb202 26 #[.int .i64 0, .int .i64 0, .int .i64 0, .int .i64 0, .slice none 0 0] (0, 0) _ rfl (by (with_reducible repeat (first | refine blk_drewN ?_ _ | refine blk_drew ?_ | refine blk_alloc ?_ _)); refine blk_put (cs := #[.int .i64 0, .int .i64 0, .int .i64 0, .int .i64 0, .slice none 0 0]) ?_ 4 _ rfl; (with_reducible repeat (first | refine blk_drewN ?_ _ | refine blk_drew ?_ | refine blk_alloc ?_ _)); refine blk_put (cs := #[.int .i64 0, .int .i64 0, .int .i64 0, .int .i64 0, .slice none 0 0]) ?_ 3 _ rfl; (with_reducible repeat (first | refine blk_drewN ?_ _ | refine blk_drew ?_ | refine blk_alloc ?_ _)); refine blk_put (cs := #[.int .i64 0, .int .i64 0, .int .i64 0, .int .i64 0, .slice none 0 0]) ?_ 2 _ rfl; (with_reducible repeat (first | refine blk_drewN ?_ _ | refine blk_drew ?_ | refine blk_alloc ?_ _)); refine blk_put (cs := #[.int .i64 0, .int .i64 0, .int .i64 0, .int .i64 0, .slice none 0 0]) ?_ 1 _ rfl; (with_reducible repeat (first | refine blk_drewN ?_ _ | refine blk_drew ?_ | refine blk_alloc ?_ _)); refine blk_put (cs := #[.int .i64 0, .int .i64 0, .int .i64 0, .int .i64 0, .slice none 0 0]) ?_ 0 _ rfl; (with_reducible repeat (first | refine blk_drewN ?_ _ | refine blk_drew ?_ | refine blk_alloc ?_ _)); exact BK202.out) Try.underlying26 rfl (by kernel_rfl)) rfl ?_
   exact ⟨_, by first | rfl | (simp [errW_none, errW_some] <;> rfl) | (simp [*, errW_none, errW_some] <;> rfl), by first | exact Kd.R_nil _ _ _ _ _ | exact Kd.N_nil _ _ _ _ _ | exact Kd.V_nil _ _ _ _ _ | exact Kd.Q_nil _ _ _ _ _ | exact Kd.S_nil _ _ _ _ _, by repeat (first | (with_reducible first | exact HB.out | apply below_alloc | apply pw_below_drewN | apply below_drew1 | refine below_set ?_ GE201.out | refine below_set ?_ GE202.out) | exact HB.out)⟩
  ·rw [if_neg c6] at H
   have c6b0 : decide (a2 < a1) = false := decide_eq_false c6
   clear c6
   by_cases c13 : 0 ≤ (l0_4.length : Int)
   ·rw [if_pos c13] at H
    have c13b0 := eq_true c13
    have c13b1 : decide (0 ≤ (l0_4.length : Int)) = true := decide_eq_true c13
    clear c13
    by_cases c14 : ((l0_4.length : Int) : Int).toNat ≤ 35184372088832
    ·rw [if_pos c14] at H
     have c14b0 := eq_true c14
     have c14b1 : decide (((l0_4.length : Int) : Int).toNat ≤ 35184372088832) = true := decide_eq_true c14
     clear c14
     obtain ⟨y204, hy204⟩ : ∃ y_ : List Int, y_ = (List.replicate ((l0_4.length : Int) : Int).toNat 0) := ⟨_, rfl⟩
     replace H : (plane_Clip.l0 k a1 a2 l0_4 (l0_4.length : Int) 0 a0_0 a0_1 a0_2 a0_3 y204) = some (r1, r2, r3, r4, r5, r6) := by first | (rw [hy204]; with_reducible exact H) | (have H2_ := (Option.bind_some _ _).symm.trans H; rw [hy204]; with_reducible exact H2_) | (have H2_ := (Option.bind_some _ _).symm.trans H; with_reducible exact H2_) | with_reducible exact H | (rw [hy204]; exact H) | exact H
     have Ny204 := AS hy204
     clear hy204
     have H' := AS H
     clear H
     go_enter Try.func31, Try.ntmps31
     try go_wp2_with (first | ((with_reducible refine gate_dst (N := 3) rfl ?_); refine box_event ?hg (N := 3) ?hd (cs := #[.int .i64 a0_0, .int .i64 a0_1, .int .i64 a0_2, .int .i64 a0_3, .slice A0_4 l0_4.length c0_4]) (t := 26) ?hr ?_; (case hd => rfl); (case hg => rfl); (case hr => first | (go_simp; done) | (go_simp; rfl)); intro gb201 hg w15 hbox hb; have BK201 := AS (hbox); have GW201 := AS ((by rw [hg]; exact (below_size (upB HB.out)) : w.heap.size ≤ gb201)); have GE201 := AS ((by rw [hg]; exact (below_size (upB HB.out)) : w.heap.size ≤ gb201)); replace HB := AS (below_step (upB HB.out) hb); clear hb hbox hg) | ((with_reducible refine gate_dst (N := 6) rfl ?_); refine box_event ?hg (N := 6) ?hd (cs := #[.int .i64 0, .int .i64 0, .int .i64 0, .int .i64 0, .slice none 0 0]) (t := 26) ?hr ?_; (case hd => rfl); (case hg => rfl); (case hr => first | (go_simp; done) | (go_simp; rfl)); intro gb202 hg w16 hbox hb; have BK202 := AS (hbox); have GW202 := AS ((by rw [hg]; exact (below_size (upB HB.out)) : w.heap.size ≤ gb202)); have GE202 := AS ((by rw [hg]; exact (below_size (upB HB.out)) : w.heap.size ≤ gb202)); replace HB := AS (below_step (upB HB.out) hb); have NB201_202 := AS ((by rw [hg]; exact Nat.ne_of_lt (blk_lt (upK BK201.out)) : gb201 ≠ gb202)); have NB202_201 := AS ((by rw [hg]; exact Nat.ne_of_gt (blk_lt (upK BK201.out)) : gb202 ≠ gb201)); replace BK201 := AS (blk_below (g := gb201) (o := .cells #[.int .i64 a0_0, .int .i64 a0_1, .int .i64 a0_2, .int .i64 a0_3, .slice A0_4 l0_4.length c0_4] 26) (upK BK201.out) hb); clear hb hbox hg; have hnb17 := NB201_202.out; have hnc17 := NB202_201.out; have hcz18_0 : w16.cell? ⟨gb201, 0, none⟩ = some (.int .i64 a0_0) := bc BK201 0; have hcz18_1 : w16.cell? ⟨gb201, 1, none⟩ = some (.int .i64 a0_1) := bc BK201 1; have hcz18_2 : w16.cell? ⟨gb201, 2, none⟩ = some (.int .i64 a0_2) := bc BK201 2; have hcz18_3 : w16.cell? ⟨gb201, 3, none⟩ = some (.int .i64 a0_3) := bc BK201 3; have hcz18_4 : w16.cell? ⟨gb201, 4, none⟩ = some (.slice A0_4 l0_4.length c0_4) := bc BK201 4; have hfz18_0 := blk_frozen BK201.out 0; have hfz18_1 := blk_frozen BK201.out 1; have hfz18_2 := blk_frozen BK201.out 2; have hfz18_3 := blk_frozen BK201.out 3; have hfz18_4 := blk_frozen BK201.out 4) | ((with_reducible refine gate_callee (f := 20) rfl ?_); refine goesL_ (some 12) rfl rfl Try.func20 (by kernel_rfl) rfl #[.agg #[.int .i64 a0_0, .int .i64 a0_1, .int .i64 a0_2, .int .i64 a0_3, .slice A0_4 l0_4.length c0_4]] rfl upL ?_; (with_reducible refine (plane_Valid.calls a0_0 a0_1 a0_2 a0_3 _ _ l0_4 true _ ?side1 ?side2 A4.out).mono ?_); (case side1 => repeat (first | exact (Kd.C_below HR0_4.out HB.out) | (with_reducible refine Kd.C_alloc ?_ _) | (with_reducible refine Kd.C_drewN ?_ _) | (with_reducible refine Kd.C_drew ?_))); (case side2 => exact HC0_4.out); rintro e w19 ⟨rfl, hb⟩; refine ⟨_, rfl, ?_⟩; replace BK201 := AS (blk_below (g := gb201) (o := .cells #[.int .i64 a0_0, .int .i64 a0_1, .int .i64 a0_2, .int .i64 a0_3, .slice A0_4 l0_4.length c0_4] 26) (upK BK201.out) hb); replace BK202 := AS (blk_below (g := gb202) (o := .cells #[.int .i64 0, .int .i64 0, .int .i64 0, .int .i64 0, .slice none 0 0] 26) (upK BK202.out) hb); replace HB := AS (below_step (upB HB.out) hb); (try clear hb; try clear hb2; try clear hk; try clear hi)))
     replace BK201 := AS (blk_drew BK201.out)
     replace BK202 := AS (blk_drew BK202.out)
     replace HB := AS (below_drew1 HB.out)
     refine start_ (n := 9) (S := fun w' => ce w' gb201 0 (.int .i64 a0_0) ∧ ce w' gb201 1 (.int .i64 a0_1) ∧ ce w' gb201 2 (.int .i64 a0_2) ∧ ce w' gb201 3 (.int .i64 a0_3) ∧ ce w' gb201 4 (.slice A0_4 l0_4.length c0_4)) (ds := []) #[false, false, false, false, false, false, false, false, false] (by kernel_rfl) rfl rfl ⟨bc BK201 0, bc BK201 1, bc BK201 2, bc BK201 3, bc BK201 4⟩ (fun hHeld => ?_); refine with_tabW plane_Clip.tab5 plane_Clip.bits5 (fun HT_ HW_ => ?_)
     generalize w19.drew = w20 at BK201 BK202 HB hHeld ⊢
     refine puX 0 19 (MK [1, 8]) HT_.out ?_
     refine puX 2 21 (MK [1, 1, 1, 6]) HT_.out ?_
     refine taX 1 20 (MK [3, 6]) HT_.out HW_.out hHeld ?_
     refine taX 3 22 (MK [4, 5]) HT_.out HW_.out hHeld ?_
     refine puX 4 23 (MK [5, 4]) HT_.out ?_
     refine join_ (σ := Value × Nat) 1 #[true, true, true, true, true, true, true, true, false] (fun s_ => [(24, s_.1), (8, .pointer (some ⟨s_.2, 0, none⟩)), (25, .agg #[.int .i64 a0_0, .int .i64 a0_1, .int .i64 a0_2, .int .i64 a0_3, s_.1])]) (fun s_ w' => (ce w' gb201 0 (.int .i64 a0_0) ∧ ce w' gb201 1 (.int .i64 a0_1) ∧ ce w' gb201 2 (.int .i64 a0_2) ∧ ce w' gb201 3 (.int .i64 a0_3) ∧ ce w' gb201 4 (.slice A0_4 l0_4.length c0_4)) ∧ (Kd.R (Kd.int .i64) 3 w' w.heap.size (fun _ => True) s_.1 y204) ∧ (w'.heap[gb201]? = some (.cells #[.int .i64 a0_0, .int .i64 a0_1, .int .i64 a0_2, .int .i64 a0_3, .slice A0_4 l0_4.length c0_4] 26 (0, 0))) ∧ (w'.heap[gb202]? = some (.cells #[.int .i64 0, .int .i64 0, .int .i64 0, .int .i64 0, .slice none 0 0] 26 (0, 0))) ∧ (w'.heap[s_.2]? = some (.cells #[.int .i64 0, .int .i64 0, .int .i64 0, .int .i64 0, .slice none 0 0] 26 (0, 0))) ∧ (w.heap.size ≤ s_.2) ∧ (w.heap.size ≤ s_.2) ∧ (gb201 ≠ s_.2) ∧ (s_.2 ≠ gb201) ∧ (gb202 ≠ s_.2) ∧ (s_.2 ≠ gb202) ∧ (Below w.heap.size w w')) ?_ ?_
     rotate_left
     ·intro hCont
      refine two_ (i := 5) (j := 7) (Ni := some 24) (Nj := some 8) #[true, true, true, true, true, true, false, false, false] #[true, true, true, true, true, false, false, true, false] rfl rfl rfl rfl (two_of HT_.out (by kernel_rfl)) (by decide) (by decide) (fun K hK => ?_) (fun K hK => ?_)
      ·skip
       refine Kd.R_make_step (Kd.int .i64) _ 3 (by rfl) (N := 24) rfl 24 _ _ rfl (l0_4.length : Int) rfl rfl Try.underlying24 (.int .i64 0) 8 info3 rfl (by decide) (by omega) 0 (ok := fun _ => True) (okp := fun _ => True) rfl (fun _ hk => hk) trivial (of_decide_eq_true (by first | (with_reducible assumption) | assumption)) (Nat.le_trans (Nat.mul_le_mul_right _ (of_decide_eq_true (by first | (with_reducible assumption) | assumption) : (l0_4.length : Int).toNat ≤ 35184372088832)) (by omega)) (Below.refl _ _) (Nat.le_refl _) ?_
       intro v205 w21 ho22 hb hg_ hnew_
       clear hg_ hnew_
       (first | rw [← Ny204.out] at ho22 | (simp only [Int.reduceToNat] at ho22; rw [← Ny204.out] at ho22))
       have HO206 := AS (Kd.R_lower ho22 (below_size (upB HB.out)))
       replace BK201 := AS (blk_below (g := gb201) (o := .cells #[.int .i64 a0_0, .int .i64 a0_1, .int .i64 a0_2, .int .i64 a0_3, .slice A0_4 l0_4.length c0_4] 26) (upK BK201.out) hb)
       replace BK202 := AS (blk_below (g := gb202) (o := .cells #[.int .i64 0, .int .i64 0, .int .i64 0, .int .i64 0, .slice none 0 0] 26) (upK BK202.out) hb)
       replace HB := AS (below_step (upB HB.out) hb)
       clear hb ho22
       obtain ⟨Ao23, co23, eo23⟩ := Kd.R_slice HO206.out
       (first | subst eo23 | (injection eo23 with f1_ f2_ f3_; have f4_ := f1_.symm; have f5_ := f3_.symm; clear f1_ f2_ f3_; subst f4_; subst f5_))
       refine hK.out _ _ ⟨bc BK201 0, bc BK201 1, bc BK201 2, bc BK201 3, bc BK201 4⟩ (fun hHeld => ?_)
       clear hK K
       refine noX ?_
       refine puX 6 25 (MK [7, 2]) HT_.out ?_
       refine onX 7 8 (MK [8, 1]) HT_.out (fun K hK => ?_)
       refine box_step ?hg (N := 8) ?hd (cs := #[.int .i64 0, .int .i64 0, .int .i64 0, .int .i64 0, .slice none 0 0]) (t := 26) ?hr ?_; (case hd => rfl); (case hg => rfl); (case hr => first | (go_simp; done) | (go_simp; rfl))
       intro gb207 hg w24 hbox hb
       replace HO206 := AS (Kd.R_below (upR HO206.out) hb)
       have BK207 := AS (hbox)
       have GW207 := AS ((by rw [hg]; exact (below_size (upB HB.out)) : w.heap.size ≤ gb207))
       have GE207 := AS ((by rw [hg]; exact (below_size (upB HB.out)) : w.heap.size ≤ gb207))
       replace HB := AS (below_step (upB HB.out) hb)
       have NB201_207 := AS ((by rw [hg]; exact Nat.ne_of_lt (blk_lt (upK BK201.out)) : gb201 ≠ gb207))
       have NB207_201 := AS ((by rw [hg]; exact Nat.ne_of_gt (blk_lt (upK BK201.out)) : gb207 ≠ gb201))
       replace BK201 := AS (blk_below (g := gb201) (o := .cells #[.int .i64 a0_0, .int .i64 a0_1, .int .i64 a0_2, .int .i64 a0_3, .slice A0_4 l0_4.length c0_4] 26) (upK BK201.out) hb)
       have NB202_207 := AS ((by rw [hg]; exact Nat.ne_of_lt (blk_lt (upK BK202.out)) : gb202 ≠ gb207))
       have NB207_202 := AS ((by rw [hg]; exact Nat.ne_of_gt (blk_lt (upK BK202.out)) : gb207 ≠ gb202))
       replace BK202 := AS (blk_below (g := gb202) (o := .cells #[.int .i64 0, .int .i64 0, .int .i64 0, .int .i64 0, .slice none 0 0] 26) (upK BK202.out) hb)
       clear hb hbox hg
       refine hK.out _ _ ⟨bc BK201 0, bc BK201 1, bc BK201 2, bc BK201 3, bc BK201 4⟩ (fun hHeld => ?_)
       clear hK K
       refine noX ?_
       exact norm_ (by simp only [putAll, Act.put, List.setIfInBounds_toArray, List.set_cons_zero, List.set_cons_succ]) (hCont (.slice Ao23 y204.length co23, gb207) _ ⟨hHeld, (upR HO206.out), (upK BK201.out), (upK BK202.out), (upK BK207.out), GW207.out, GE207.out, NB201_207.out, NB207_201.out, NB202_207.out, NB207_202.out, (upB HB.out)⟩)
      ·skip
       refine box_step ?hg (N := 8) ?hd (cs := #[.int .i64 0, .int .i64 0, .int .i64 0, .int .i64 0, .slice none 0 0]) (t := 26) ?hr ?_; (case hd => rfl); (case hg => rfl); (case hr => first | (go_simp; done) | (go_simp; rfl))
       intro gb207 hg w21 hbox hb
       have BK207 := AS (hbox)
       have GW207 := AS ((by rw [hg]; exact (below_size (upB HB.out)) : w.heap.size ≤ gb207))
       have GE207 := AS ((by rw [hg]; exact (below_size (upB HB.out)) : w.heap.size ≤ gb207))
       replace HB := AS (below_step (upB HB.out) hb)
       have NB201_207 := AS ((by rw [hg]; exact Nat.ne_of_lt (blk_lt (upK BK201.out)) : gb201 ≠ gb207))
       have NB207_201 := AS ((by rw [hg]; exact Nat.ne_of_gt (blk_lt (upK BK201.out)) : gb207 ≠ gb201))
       replace BK201 := AS (blk_below (g := gb201) (o := .cells #[.int .i64 a0_0, .int .i64 a0_1, .int .i64 a0_2, .int .i64 a0_3, .slice A0_4 l0_4.length c0_4] 26) (upK BK201.out) hb)
       have NB202_207 := AS ((by rw [hg]; exact Nat.ne_of_lt (blk_lt (upK BK202.out)) : gb202 ≠ gb207))
       have NB207_202 := AS ((by rw [hg]; exact Nat.ne_of_gt (blk_lt (upK BK202.out)) : gb207 ≠ gb202))
       replace BK202 := AS (blk_below (g := gb202) (o := .cells #[.int .i64 0, .int .i64 0, .int .i64 0, .int .i64 0, .slice none 0 0] 26) (upK BK202.out) hb)
       clear hb hbox hg
       refine hK.out _ _ ⟨bc BK201 0, bc BK201 1, bc BK201 2, bc BK201 3, bc BK201 4⟩ (fun hHeld => ?_)
       clear hK K
       refine noX ?_
       refine onX 5 24 (MK [6, 1, 1, 1]) HT_.out (fun K hK => ?_)
       refine Kd.R_make_step (Kd.int .i64) _ 3 (by rfl) (N := 24) rfl 24 _ _ rfl (l0_4.length : Int) rfl rfl Try.underlying24 (.int .i64 0) 8 info3 rfl (by decide) (by omega) 0 (ok := fun _ => True) (okp := fun _ => True) rfl (fun _ hk => hk) trivial (of_decide_eq_true (by first | (with_reducible assumption) | assumption)) (Nat.le_trans (Nat.mul_le_mul_right _ (of_decide_eq_true (by first | (with_reducible assumption) | assumption) : (l0_4.length : Int).toNat ≤ 35184372088832)) (by omega)) (Below.refl _ _) (Nat.le_refl _) ?_
       intro v205 w22 ho23 hb hg_ hnew_
       clear hg_ hnew_
       (first | rw [← Ny204.out] at ho23 | (simp only [Int.reduceToNat] at ho23; rw [← Ny204.out] at ho23))
       have HO206 := AS (Kd.R_lower ho23 (below_size (upB HB.out)))
       replace BK201 := AS (blk_below (g := gb201) (o := .cells #[.int .i64 a0_0, .int .i64 a0_1, .int .i64 a0_2, .int .i64 a0_3, .slice A0_4 l0_4.length c0_4] 26) (upK BK201.out) hb)
       replace BK202 := AS (blk_below (g := gb202) (o := .cells #[.int .i64 0, .int .i64 0, .int .i64 0, .int .i64 0, .slice none 0 0] 26) (upK BK202.out) hb)
       replace BK207 := AS (blk_below (g := gb207) (o := .cells #[.int .i64 0, .int .i64 0, .int .i64 0, .int .i64 0, .slice none 0 0] 26) (upK BK207.out) hb)
       replace HB := AS (below_step (upB HB.out) hb)
       clear hb ho23
       obtain ⟨Ao24, co24, eo24⟩ := Kd.R_slice HO206.out
       (first | subst eo24 | (injection eo24 with f1_ f2_ f3_; have f4_ := f1_.symm; have f5_ := f3_.symm; clear f1_ f2_ f3_; subst f4_; subst f5_))
       refine hK.out _ _ ⟨bc BK201 0, bc BK201 1, bc BK201 2, bc BK201 3, bc BK201 4⟩ (fun hHeld => ?_)
       clear hK K
       refine noX ?_
       refine puX 6 25 (MK [8, 1]) HT_.out ?_
       exact norm_ (by simp only [putAll, Act.put, List.setIfInBounds_toArray, List.set_cons_zero, List.set_cons_succ]) (hCont (.slice Ao24 y204.length co24, gb207) _ ⟨hHeld, (upR HO206.out), (upK BK201.out), (upK BK202.out), (upK BK207.out), GW207.out, GE207.out, NB201_207.out, NB207_201.out, NB202_207.out, NB207_202.out, (upB HB.out)⟩)
     rintro ⟨v205, gb207⟩ w25 ⟨hS_, h0_, h1_, h2_, h3_, h4_, h5_, h6_, h7_, h8_, h9_, h10_⟩
     have n0_ : Aside0 (Kd.R (Kd.int .i64) 3 w25 w.heap.size (fun _ => True) v205 y204) := ⟨h0_⟩
     have n1_ : Aside0 (w25.heap[gb201]? = some (.cells #[.int .i64 a0_0, .int .i64 a0_1, .int .i64 a0_2, .int .i64 a0_3, .slice A0_4 l0_4.length c0_4] 26 (0, 0))) := ⟨h1_⟩
     have n2_ : Aside0 (w25.heap[gb202]? = some (.cells #[.int .i64 0, .int .i64 0, .int .i64 0, .int .i64 0, .slice none 0 0] 26 (0, 0))) := ⟨h2_⟩
     have n3_ : Aside0 (w25.heap[gb207]? = some (.cells #[.int .i64 0, .int .i64 0, .int .i64 0, .int .i64 0, .slice none 0 0] 26 (0, 0))) := ⟨h3_⟩
     have n4_ : Aside0 (w.heap.size ≤ gb207) := ⟨h4_⟩
     have n5_ : Aside0 (w.heap.size ≤ gb207) := ⟨h5_⟩
     have n6_ : Aside0 (gb201 ≠ gb207) := ⟨h6_⟩
     have n7_ : Aside0 (gb207 ≠ gb201) := ⟨h7_⟩
     have n8_ : Aside0 (gb202 ≠ gb207) := ⟨h8_⟩
     have n9_ : Aside0 (gb207 ≠ gb202) := ⟨h9_⟩
     have n10_ : Aside0 (Below w.heap.size w w25) := ⟨h10_⟩
     clear BK201
     clear BK202
     clear HB
     clear h0_ h1_ h2_ h3_ h4_ h5_ h6_ h7_ h8_ h9_ h10_
     have HO206 := n0_
     have BK201 := n1_
     have BK202 := n2_
     have BK207 := n3_
     have GW207 := n4_
     have GE207 := n5_
     have NB201_207 := n6_
     have NB207_201 := n7_
     have NB202_207 := n8_
     have NB207_202 := n9_
     have HB := n10_
     clear n0_ n1_ n2_ n3_ n4_ n5_ n6_ n7_ n8_ n9_ n10_
     have hHeld : w25.cell? ⟨gb201, 0, none⟩ = some (.int .i64 a0_0) ∧ w25.cell? ⟨gb201, 1, none⟩ = some (.int .i64 a0_1) ∧ w25.cell? ⟨gb201, 2, none⟩ = some (.int .i64 a0_2) ∧ w25.cell? ⟨gb201, 3, none⟩ = some (.int .i64 a0_3) ∧ w25.cell? ⟨gb201, 4, none⟩ = some (.slice A0_4 l0_4.length c0_4) := hS_
     obtain ⟨Ao26, co26, eo26⟩ := Kd.R_slice HO206.out
     (first | subst eo26 | (injection eo26 with f1_ f2_ f3_; have f4_ := f1_.symm; have f5_ := f3_.symm; clear f1_ f2_ f3_; subst f4_; subst f5_))
     refine norm_ (a' := ?_) ?_ ?_
     rotate_left
     ·simp only [putAll, Act.put, List.setIfInBounds_toArray, List.set_cons_zero, List.set_cons_succ]
      rfl
     refine one_ (i := 8) (N := none) #[true, true, true, true, true, true, true, true, true] rfl rfl (one_of HT_.out (by kernel_rfl)) (by decide) (fun K hK => ?_)
     have hs27 : w25.cell? ⟨gb207, 0, none⟩ = some (.int .i64 0) := bc BK207 0
     have hfs27 := blk_frozen BK207.out 0
     have hns27_0 := NB201_207.out
     have hns27_1 := NB202_207.out
     have hms27_0 := NB207_201.out
     have hms27_1 := NB207_202.out
     have hs28 : w25.cell? ⟨gb207, 1, none⟩ = some (.int .i64 0) := bc BK207 1
     have hfs28 := blk_frozen BK207.out 1
     have hns28_0 := NB201_207.out
     have hns28_1 := NB202_207.out
     have hms28_0 := NB207_201.out
     have hms28_1 := NB207_202.out
     have hs29 : w25.cell? ⟨gb207, 2, none⟩ = some (.int .i64 0) := bc BK207 2
     have hfs29 := blk_frozen BK207.out 2
     have hns29_0 := NB201_207.out
     have hns29_1 := NB202_207.out
     have hms29_0 := NB207_201.out
     have hms29_1 := NB207_202.out
     have hs30 : w25.cell? ⟨gb207, 3, none⟩ = some (.int .i64 0) := bc BK207 3
     have hfs30 := blk_frozen BK207.out 3
     have hns30_0 := NB201_207.out
     have hns30_1 := NB202_207.out
     have hms30_0 := NB207_201.out
     have hms30_1 := NB207_202.out
     have hs31 : w25.cell? ⟨gb207, 4, none⟩ = some (.slice none 0 0) := bc BK207 4
     have hfs31 := blk_frozen BK207.out 4
     have hns31_0 := NB201_207.out
     have hns31_1 := NB202_207.out
     have hms31_0 := NB207_201.out
     have hms31_1 := NB207_202.out
     refine skip_ (w1 := ?_) (by rfl) rfl ?_ ?_
     rotate_left
     ·go_simp
      rfl
     refine hK.out _ _ ⟨((cell_far (p := ⟨gb207, _, none⟩) NB201_207.out _).trans (((cell_far (p := ⟨gb207, _, none⟩) NB201_207.out _).trans (((cell_far (p := ⟨gb207, _, none⟩) NB201_207.out _).trans (((cell_far (p := ⟨gb207, _, none⟩) NB201_207.out _).trans (((cell_far (p := ⟨gb207, _, none⟩) NB201_207.out _).trans (hHeld.1)))))))))), ((cell_far (p := ⟨gb207, _, none⟩) NB201_207.out _).trans (((cell_far (p := ⟨gb207, _, none⟩) NB201_207.out _).trans (((cell_far (p := ⟨gb207, _, none⟩) NB201_207.out _).trans (((cell_far (p := ⟨gb207, _, none⟩) NB201_207.out _).trans (((cell_far (p := ⟨gb207, _, none⟩) NB201_207.out _).trans (hHeld.2.1)))))))))), ((cell_far (p := ⟨gb207, _, none⟩) NB201_207.out _).trans (((cell_far (p := ⟨gb207, _, none⟩) NB201_207.out _).trans (((cell_far (p := ⟨gb207, _, none⟩) NB201_207.out _).trans (((cell_far (p := ⟨gb207, _, none⟩) NB201_207.out _).trans (((cell_far (p := ⟨gb207, _, none⟩) NB201_207.out _).trans (hHeld.2.2.1)))))))))), ((cell_far (p := ⟨gb207, _, none⟩) NB201_207.out _).trans (((cell_far (p := ⟨gb207, _, none⟩) NB201_207.out _).trans (((cell_far (p := ⟨gb207, _, none⟩) NB201_207.out _).trans (((cell_far (p := ⟨gb207, _, none⟩) NB201_207.out _).trans (((cell_far (p := ⟨gb207, _, none⟩) NB201_207.out _).trans (hHeld.2.2.2.1)))))))))), ((cell_far (p := ⟨gb207, _, none⟩) NB201_207.out _).trans (((cell_far (p := ⟨gb207, _, none⟩) NB201_207.out _).trans (((cell_far (p := ⟨gb207, _, none⟩) NB201_207.out _).trans (((cell_far (p := ⟨gb207, _, none⟩) NB201_207.out _).trans (((cell_far (p := ⟨gb207, _, none⟩) NB201_207.out _).trans (hHeld.2.2.2.2))))))))))⟩ (fun hHeld => ?_)
     clear hK K
     refine done_ (done_of HT_.out (by kernel_rfl)) ?_
     have hnb32 := NB201_207.out
     have hnc32 := NB207_201.out
     have hcz33_0 : w25.cell? ⟨gb201, 0, none⟩ = some (.int .i64 a0_0) := bc BK201 0
     have hcz33_1 : w25.cell? ⟨gb201, 1, none⟩ = some (.int .i64 a0_1) := bc BK201 1
     have hcz33_2 : w25.cell? ⟨gb201, 2, none⟩ = some (.int .i64 a0_2) := bc BK201 2
     have hcz33_3 : w25.cell? ⟨gb201, 3, none⟩ = some (.int .i64 a0_3) := bc BK201 3
     have hcz33_4 : w25.cell? ⟨gb201, 4, none⟩ = some (.slice A0_4 l0_4.length c0_4) := bc BK201 4
     have hfz33_0 := blk_frozen BK201.out 0
     have hfz33_1 := blk_frozen BK201.out 1
     have hfz33_2 := blk_frozen BK201.out 2
     have hfz33_3 := blk_frozen BK201.out 3
     have hfz33_4 := blk_frozen BK201.out 4
     try go_wp2
     go_loopg [29] k (fun kq v29 w' => ∃ (x29_1 : Int) (x208004_1 : List Int) (u208004 : Value), v29 = .int .i64 x29_1 ∧ Aside0 (plane_Clip.l0 kq a1 a2 l0_4 (l0_4.length : Int) x29_1 a0_0 a0_1 a0_2 a0_3 x208004_1 = some (r1, r2, r3, r4, r5, r6)) ∧ Aside0 (kq ≤ k) ∧ Aside0 (Kd.R (Kd.int .i64) 3 w' w.heap.size (fun _ => True) u208004 x208004_1) ∧ Aside0 (w'.heap[gb201]? = some (.cells #[.int .i64 a0_0, .int .i64 a0_1, .int .i64 a0_2, .int .i64 a0_3, (.slice A0_4 l0_4.length c0_4)] 26 (0, 0))) ∧ Aside0 (w'.heap[gb202]? = some (.cells #[.int .i64 0, .int .i64 0, .int .i64 0, .int .i64 0, (.slice none 0 0)] 26 (0, 0))) ∧ Aside0 (w'.heap[gb207]? = some (.cells #[.int .i64 a0_0, .int .i64 a0_1, .int .i64 a0_2, .int .i64 a0_3, u208004] 26 (0, 0))) ∧ Aside0 (Below w.heap.size w w'))
     case atStart => exact ⟨(0), (y204), (.slice Ao26 y204.length co26), (by first | rfl | (simp; done) | (simp [*]; done)), H', ⟨Nat.le_refl _⟩, ⟨by (with_reducible repeat (first | apply Kd.R_alloc | apply Kd.R_drewN | apply Kd.R_drew)); exact Kd.R_mono (Kd.R_far (Kd.R_far (Kd.R_far (Kd.R_far (Kd.R_far (Kd.R_types HO206.out BK207.out (by decide)) (fun _ hk => hk.2) _) (fun _ hk => hk.2) _) (fun _ hk => hk.2) _) (fun _ hk => hk.2) _) (fun _ hk => hk.2) _) (fun _ hk => trivial)⟩, ⟨by (with_reducible repeat (first | refine blk_far ?_ NB201_207.out _ | refine blk_drewN ?_ _ | refine blk_drew ?_ | refine blk_alloc ?_ _)); exact BK201.out⟩, ⟨by (with_reducible repeat (first | refine blk_far ?_ NB202_207.out _ | refine blk_drewN ?_ _ | refine blk_drew ?_ | refine blk_alloc ?_ _)); exact BK202.out⟩, ⟨by (with_reducible repeat (first | refine blk_drewN ?_ _ | refine blk_drew ?_ | refine blk_alloc ?_ _)); refine blk_put (cs := #[.int .i64 a0_0, .int .i64 a0_1, .int .i64 a0_2, .int .i64 a0_3, .slice none 0 0]) ?_ 4 _ rfl; (with_reducible repeat (first | refine blk_drewN ?_ _ | refine blk_drew ?_ | refine blk_alloc ?_ _)); refine blk_put (cs := #[.int .i64 a0_0, .int .i64 a0_1, .int .i64 a0_2, .int .i64 0, .slice none 0 0]) ?_ 3 _ rfl; (with_reducible repeat (first | refine blk_drewN ?_ _ | refine blk_drew ?_ | refine blk_alloc ?_ _)); refine blk_put (cs := #[.int .i64 a0_0, .int .i64 a0_1, .int .i64 0, .int .i64 0, .slice none 0 0]) ?_ 2 _ rfl; (with_reducible repeat (first | refine blk_drewN ?_ _ | refine blk_drew ?_ | refine blk_alloc ?_ _)); refine blk_put (cs := #[.int .i64 a0_0, .int .i64 0, .int .i64 0, .int .i64 0, .slice none 0 0]) ?_ 1 _ rfl; (with_reducible repeat (first | refine blk_drewN ?_ _ | refine blk_drew ?_ | refine blk_alloc ?_ _)); refine blk_put (cs := #[.int .i64 0, .int .i64 0, .int .i64 0, .int .i64 0, .slice none 0 0]) ?_ 0 _ rfl; (with_reducible repeat (first | refine blk_drewN ?_ _ | refine blk_drew ?_ | refine blk_alloc ?_ _)); exact BK207.out⟩, ⟨by repeat (first | (with_reducible first | exact HB.out | apply below_alloc | apply pw_below_drewN | apply below_drew1 | refine below_set ?_ GE201.out | refine below_set ?_ GE202.out | refine below_set ?_ GE207.out) | exact HB.out)⟩⟩
     case round =>
      clear H'
      try clear c1; try clear c2; try clear p2; try clear c3; try clear c5; try clear c6; try clear c6b0; try clear c9; try clear c13; try clear c13b0; try clear c13b1; try clear c14; try clear c14b0; try clear c14b1; try clear c17; try clear c20; try clear c31; try clear c32; try clear hcz10_0; try clear hcz10_1; try clear hcz10_2; try clear hcz10_3; try clear hcz10_4; try clear hcz12_0; try clear hcz12_1; try clear hcz12_2; try clear hcz12_3; try clear hcz12_4; try clear hcz18_0; try clear hcz18_1; try clear hcz18_2; try clear hcz18_3; try clear hcz18_4; try clear hcz33_0; try clear hcz33_1; try clear hcz33_2; try clear hcz33_3; try clear hcz33_4; try clear hfz10_0; try clear hfz10_1; try clear hfz10_2; try clear hfz10_3; try clear hfz10_4; try clear hfz12_0; try clear hfz12_1; try clear hfz12_2; try clear hfz12_3; try clear hfz12_4; try clear hfz18_0; try clear hfz18_1; try clear hfz18_2; try clear hfz18_3; try clear hfz18_4; try clear hfz33_0; try clear hfz33_1; try clear hfz33_2; try clear hfz33_3; try clear hfz33_4
      obtain ⟨x29_1, x208004_1, u208004, rfl, HA, HK1, HO_208004, BK201, BK202, BK207, HB⟩ := hrel
      cases gk with
      | zero => exact absurd HA.out (by simp [plane_Clip.l0])
      | succ k1 =>
       have H := HA.out
       clear HA
       simp only [plane_Clip.l0] at H
       by_cases c34 : x29_1 < (l0_4.length : Int)
       ·rw [if_pos c34] at H
        have c34b0 : decide (x29_1 < (l0_4.length : Int)) = true := decide_eq_true c34
        clear c34
        by_cases c35 : 0 ≤ x29_1
        ·rw [if_pos c35] at H
         have c35b0 : decide (0 ≤ x29_1) = true := decide_eq_true c35
         clear c35
         by_cases c36 : x29_1 < (l0_4.length : Int)
         ·rw [if_pos c36] at H
          have c36b0 : decide (x29_1 < (l0_4.length : Int)) = true := decide_eq_true c36
          clear c36
          obtain ⟨ji37, hji37⟩ : ∃ j_ : Int, (mx (rd l0_4 x29_1) a1) = j_ := ⟨_, rfl⟩
          replace H : (if x29_1 < (x208004_1.length : Int) then (plane_Clip.l0 k1 a1 a2 l0_4 (l0_4.length : Int) (wrap64 (x29_1 + 1)) a0_0 a0_1 a0_2 a0_3 (x208004_1.set (x29_1 : Int).toNat (mn (ji37) a2))) else (none)) = some (r1, r2, r3, r4, r5, r6) := by first | (rw [hji37] at H; exact H) | (simp only [hji37] at H ⊢; exact H)
          have hji37_ : (if (rd l0_4 x29_1) < a1 then a1 else (rd l0_4 x29_1)) = ji37 := hji37
          obtain ⟨ji38, hji38⟩ : ∃ j_ : Int, (mn (ji37) a2) = j_ := ⟨_, rfl⟩
          replace H : (if x29_1 < (x208004_1.length : Int) then (plane_Clip.l0 k1 a1 a2 l0_4 (l0_4.length : Int) (wrap64 (x29_1 + 1)) a0_0 a0_1 a0_2 a0_3 (x208004_1.set (x29_1 : Int).toNat (ji38))) else (none)) = some (r1, r2, r3, r4, r5, r6) := by first | (rw [hji38] at H; exact H) | (simp only [hji38] at H ⊢; exact H)
          have hji38_ : (if a2 < (ji37) then a2 else (ji37)) = ji38 := hji38
          by_cases c39 : x29_1 < (x208004_1.length : Int)
          ·rw [if_pos c39] at H
           have c39b0 : decide (x29_1 < (x208004_1.length : Int)) = true := decide_eq_true c39
           clear c39
           obtain ⟨y209, hy209⟩ : ∃ y_ : List Int, y_ = (x208004_1.set (x29_1 : Int).toNat (ji38)) := ⟨_, rfl⟩
           replace H : (plane_Clip.l0 k1 a1 a2 l0_4 (l0_4.length : Int) (wrap64 (x29_1 + 1)) a0_0 a0_1 a0_2 a0_3 y209) = some (r1, r2, r3, r4, r5, r6) := by first | (rw [hy209]; with_reducible exact H) | (have H2_ := (Option.bind_some _ _).symm.trans H; rw [hy209]; with_reducible exact H2_) | (have H2_ := (Option.bind_some _ _).symm.trans H; with_reducible exact H2_) | with_reducible exact H | (rw [hy209]; exact H) | exact H
           have Ny209 := AS hy209
           clear hy209
           have H' := AS H
           clear H
           have p208 : 0 ≤ (x29_1 : Int) := of_decide_eq_true (by first | (with_reducible assumption) | assumption)
           have q208 : x29_1 < (l0_4.length : Int) := of_decide_eq_true (by first | (with_reducible assumption) | assumption)
           obtain ⟨ad208, e208, hx208_0⟩ := Kd.at_int HR0_4.out x29_1 p208 q208
           cases e208
           replace hx208_0 := hc HB hx208_0
           replace p208 := eq_true p208
           replace q208 := eq_true q208
           have hnb41 := NB207_201.out
           have hnc41 := NB201_207.out
           have hnb42 := NB207_202.out
           have hnc42 := NB202_207.out
           have hcz43_0 : wr.cell? ⟨gb207, 0, none⟩ = some (.int .i64 a0_0) := bc BK207 0
           have hcz43_1 : wr.cell? ⟨gb207, 1, none⟩ = some (.int .i64 a0_1) := bc BK207 1
           have hcz43_2 : wr.cell? ⟨gb207, 2, none⟩ = some (.int .i64 a0_2) := bc BK207 2
           have hcz43_3 : wr.cell? ⟨gb207, 3, none⟩ = some (.int .i64 a0_3) := bc BK207 3
           have hcz43_4 : wr.cell? ⟨gb207, 4, none⟩ = some (u208004) := bc BK207 4
           have hfz43_0 := blk_frozen BK207.out 0
           have hfz43_1 := blk_frozen BK207.out 1
           have hfz43_2 := blk_frozen BK207.out 2
           have hfz43_3 := blk_frozen BK207.out 3
           have hfz43_4 := blk_frozen BK207.out 4
           have p40 : 0 ≤ (x29_1 : Int) := of_decide_eq_true (by first | (with_reducible assumption) | assumption)
           have q40 : (x29_1 : Int) < ((x208004_1.length : Int) : Int) := of_decide_eq_true (by first | (with_reducible assumption) | assumption)
           obtain ⟨go40, co40, eo40, gb40, gl40, cl40, HG40⟩ := Kd.R_form HO_208004.out (by omega)
           (first | cases eo40 | (injection eo40 with ea_ en_ ec_; (first | subst ea_ | (injection ea_ with ea_; subst ea_)); subst ec_; clear en_))
           have GB40 := AS gb40
           have GG40 := AS HG40
           clear gb40 gl40 HG40
           obtain ⟨hx40_0, hf40_0⟩ := Kd.R_celln 0 HO_208004.out (x29_1 : Int) p40 q40
           replace p40 := eq_true p40
           replace q40 := eq_true q40
           have HP44 := Kd.R_putg HO_208004.out (x29_1 : Int) ji38
           go_wp2_with (first | ((with_reducible refine gate_store (t := 3) (p := 42) rfl ?_); refine store_event (t := 3) (p := 42) (v := ?vo_w45) (w1 := (wr.setCell ⟨go40, (x29_1 : Int).toNat, none⟩ (.int .i64 ji38))) ?hg ?ho ?hn ?hr ?_; (case ho => rfl); (case hg => rfl); (case hn => rfl); (case hr => first | (go_simp; done) | (go_simp; rfl)); intro w45 hw; have hg : wr.grownBy w45 (some go40) := (by rw [hw]; exact HP44.2); have hp_ : Kd.R (Kd.int .i64) 3 w45 w.heap.size (fun _ => True) (.slice (some ⟨go40, 0, none⟩) x208004_1.length co40) y209 := (by rw [hw, Ny209.out]; exact HP44.1); clear HP44; replace BK201 := AS (blk_grown (g := gb201) (o := .cells #[.int .i64 a0_0, .int .i64 a0_1, .int .i64 a0_2, .int .i64 a0_3, .slice (some ad208) l0_4.length c0_4] 26) (upK BK201.out) hg (Kd.R_ne HO_208004.out BK201.out (by decide))); replace BK202 := AS (blk_grown (g := gb202) (o := .cells #[.int .i64 0, .int .i64 0, .int .i64 0, .int .i64 0, .slice none 0 0] 26) (upK BK202.out) hg (Kd.R_ne HO_208004.out BK202.out (by decide))); replace BK207 := AS (blk_grown (g := gb207) (o := .cells #[.int .i64 a0_0, .int .i64 a0_1, .int .i64 a0_2, .int .i64 a0_3, .slice (some ⟨go40, 0, none⟩) x208004_1.length co40] 26) (upK BK207.out) hg (Kd.R_ne HO_208004.out BK207.out (by decide))); replace HO_208004 := AS (hp_); replace HB := AS ((by rw [hw]; exact below_set (HB.out) GB40.out : Below w.heap.size w w45)); clear hg hw hp_))
           go_roundg k1
           case measure => have := HK1.out; omega
           case rel => exact ⟨(wrap64 (x29_1 + 1)), (y209), (.slice (some ⟨go40, 0, none⟩) x208004_1.length co40), (by first | rfl | (simp; done) | (simp [*]; done)), H', ⟨by have := HK1.out; omega⟩, ⟨by (with_reducible repeat (first | apply Kd.R_alloc | apply Kd.R_drewN | apply Kd.R_drew)); exact HO_208004.out⟩, ⟨by (with_reducible repeat (first | refine blk_drewN ?_ _ | refine blk_drew ?_ | refine blk_alloc ?_ _)); exact BK201.out⟩, ⟨by (with_reducible repeat (first | refine blk_drewN ?_ _ | refine blk_drew ?_ | refine blk_alloc ?_ _)); exact BK202.out⟩, ⟨by (with_reducible repeat (first | refine blk_drewN ?_ _ | refine blk_drew ?_ | refine blk_alloc ?_ _)); exact BK207.out⟩, ⟨by repeat (first | (with_reducible first | exact HB.out | apply below_alloc | apply pw_below_drewN | apply below_drew1 | refine below_set ?_ GE201.out | refine below_set ?_ GE202.out | refine below_set ?_ GE207.out) | exact HB.out)⟩⟩
          ·rw [if_neg c39] at H
           exact absurd H (by simp)
         ·rw [if_neg c36] at H
          exact absurd H (by simp)
        ·rw [if_neg c35] at H
         exact absurd H (by simp)
       ·rw [if_neg c34] at H
        have c34b0 : decide (x29_1 < (l0_4.length : Int)) = false := decide_eq_false c34
        clear c34
        simp only [Option.some.injEq, Prod.mk.injEq] at H
        obtain ⟨rfl, rfl, rfl, rfl, rfl, rfl⟩ := H
        have hnb46 := NB207_201.out
        have hnc46 := NB201_207.out
        have hnb47 := NB207_202.out
        have hnc47 := NB202_207.out
        have hcz48_0 : wr.cell? ⟨gb207, 0, none⟩ = some (.int .i64 a0_0) := bc BK207 0
        have hcz48_1 : wr.cell? ⟨gb207, 1, none⟩ = some (.int .i64 a0_1) := bc BK207 1
        have hcz48_2 : wr.cell? ⟨gb207, 2, none⟩ = some (.int .i64 a0_2) := bc BK207 2
        have hcz48_3 : wr.cell? ⟨gb207, 3, none⟩ = some (.int .i64 a0_3) := bc BK207 3
        have hcz48_4 : wr.cell? ⟨gb207, 4, none⟩ = some (u208004) := bc BK207 4
        have hfz48_0 := blk_frozen BK207.out 0
        have hfz48_1 := blk_frozen BK207.out 1
        have hfz48_2 := blk_frozen BK207.out 2
        have hfz48_3 := blk_frozen BK207.out 3
        have hfz48_4 := blk_frozen BK207.out 4
        have hnb49 := NB202_201.out
        have hnc49 := NB201_202.out
        have hcz50_0 : wr.cell? ⟨gb202, 0, none⟩ = some (.int .i64 0) := bc BK202 0
        have hcz50_1 : wr.cell? ⟨gb202, 1, none⟩ = some (.int .i64 0) := bc BK202 1
        have hcz50_2 : wr.cell? ⟨gb202, 2, none⟩ = some (.int .i64 0) := bc BK202 2
        have hcz50_3 : wr.cell? ⟨gb202, 3, none⟩ = some (.int .i64 0) := bc BK202 3
        have hcz50_4 : wr.cell? ⟨gb202, 4, none⟩ = some (.slice none 0 0) := bc BK202 4
        have hfz50_0 := blk_frozen BK202.out 0
        have hfz50_1 := blk_frozen BK202.out 1
        have hfz50_2 := blk_frozen BK202.out 2
        have hfz50_3 := blk_frozen BK202.out 3
        have hfz50_4 := blk_frozen BK202.out 4
        obtain ⟨Ao51, co51, eo51⟩ := Kd.R_slice HO_208004.out
        subst eo51
        go_wp2
        refine bodyPost_ret (results_ct rfl _ _ gb202 26 #[.int .i64 a0_0, .int .i64 a0_1, .int .i64 a0_2, .int .i64 a0_3, .slice Ao51 x208004_1.length co51] (0, 0) _ rfl (by (with_reducible repeat (first | refine blk_drewN ?_ _ | refine blk_drew ?_ | refine blk_alloc ?_ _)); refine blk_put (cs := #[.int .i64 a0_0, .int .i64 a0_1, .int .i64 a0_2, .int .i64 a0_3, .slice none 0 0]) ?_ 4 _ rfl; (with_reducible repeat (first | refine blk_drewN ?_ _ | refine blk_drew ?_ | refine blk_alloc ?_ _)); refine blk_put (cs := #[.int .i64 a0_0, .int .i64 a0_1, .int .i64 a0_2, .int .i64 0, .slice none 0 0]) ?_ 3 _ rfl; (with_reducible repeat (first | refine blk_drewN ?_ _ | refine blk_drew ?_ | refine blk_alloc ?_ _)); refine blk_put (cs := #[.int .i64 a0_0, .int .i64 a0_1, .int .i64 0, .int .i64 0, .slice none 0 0]) ?_ 2 _ rfl; (with_reducible repeat (first | refine blk_drewN ?_ _ | refine blk_drew ?_ | refine blk_alloc ?_ _)); refine blk_put (cs := #[.int .i64 a0_0, .int .i64 0, .int .i64 0, .int .i64 0, .slice none 0 0]) ?_ 1 _ rfl; (with_reducible repeat (first | refine blk_drewN ?_ _ | refine blk_drew ?_ | refine blk_alloc ?_ _)); refine blk_put (cs := #[.int .i64 0, .int .i64 0, .int .i64 0, .int .i64 0, .slice none 0 0]) ?_ 0 _ rfl; (with_reducible repeat (first | refine blk_drewN ?_ _ | refine blk_drew ?_ | refine blk_alloc ?_ _)); exact BK202.out) Try.underlying26 rfl (by kernel_rfl)) rfl ?_
        exact ⟨_, by first | rfl | (simp [errW_none, errW_some] <;> rfl) | (simp [*, errW_none, errW_some] <;> rfl), by (with_reducible repeat (first | apply Kd.R_alloc | apply Kd.R_drewN | apply Kd.R_drew)); exact Kd.R_mono (Kd.R_far (Kd.R_far (Kd.R_far (Kd.R_far (Kd.R_far (Kd.R_types HO_208004.out BK202.out (by decide)) (fun _ hk => hk.2) _) (fun _ hk => hk.2) _) (fun _ hk => hk.2) _) (fun _ hk => hk.2) _) (fun _ hk => hk.2) _) (fun _ hk => trivial), by repeat (first | (with_reducible first | exact HB.out | apply below_alloc | apply pw_below_drewN | apply below_drew1 | refine below_set ?_ GE201.out | refine below_set ?_ GE202.out | refine below_set ?_ GE207.out) | exact HB.out)⟩
    ·rw [if_neg c14] at H
     exact absurd H (by simp)
   ·rw [if_neg c13] at H
    exact absurd H (by simp)
 ·replace c5 := Bool.eq_false_iff.mpr c5
  subst c5
  have H1 : (some (0, 0, 0, 0, ([] : List Int), 1)) = some (r1, r2, r3, r4, r5, r6) := by rw [if_neg (show ¬ (false = true) by decide)] at H; exact H
  clear H
  have H := H1
  clear H1
  simp only [Option.some.injEq, Prod.mk.injEq] at H
  obtain ⟨rfl, rfl, rfl, rfl, rfl, rfl⟩ := H
  go_enter Try.func31, Try.ntmps31
  go_wp2_with (first | ((with_reducible refine gate_dst (N := 3) rfl ?_); refine box_event ?hg (N := 3) ?hd (cs := #[.int .i64 a0_0, .int .i64 a0_1, .int .i64 a0_2, .int .i64 a0_3, .slice A0_4 l0_4.length c0_4]) (t := 26) ?hr ?_; (case hd => rfl); (case hg => rfl); (case hr => first | (go_simp; done) | (go_simp; rfl)); intro gb201 hg w52 hbox hb; have BK201 := AS (hbox); have GW201 := AS ((by rw [hg]; exact (below_size (upB HB.out)) : w.heap.size ≤ gb201)); have GE201 := AS ((by rw [hg]; exact (below_size (upB HB.out)) : w.heap.size ≤ gb201)); replace HB := AS (below_step (upB HB.out) hb); clear hb hbox hg) | ((with_reducible refine gate_dst (N := 6) rfl ?_); refine box_event ?hg (N := 6) ?hd (cs := #[.int .i64 0, .int .i64 0, .int .i64 0, .int .i64 0, .slice none 0 0]) (t := 26) ?hr ?_; (case hd => rfl); (case hg => rfl); (case hr => first | (go_simp; done) | (go_simp; rfl)); intro gb202 hg w53 hbox hb; have BK202 := AS (hbox); have GW202 := AS ((by rw [hg]; exact (below_size (upB HB.out)) : w.heap.size ≤ gb202)); have GE202 := AS ((by rw [hg]; exact (below_size (upB HB.out)) : w.heap.size ≤ gb202)); replace HB := AS (below_step (upB HB.out) hb); have NB201_202 := AS ((by rw [hg]; exact Nat.ne_of_lt (blk_lt (upK BK201.out)) : gb201 ≠ gb202)); have NB202_201 := AS ((by rw [hg]; exact Nat.ne_of_gt (blk_lt (upK BK201.out)) : gb202 ≠ gb201)); replace BK201 := AS (blk_below (g := gb201) (o := .cells #[.int .i64 a0_0, .int .i64 a0_1, .int .i64 a0_2, .int .i64 a0_3, .slice A0_4 l0_4.length c0_4] 26) (upK BK201.out) hb); clear hb hbox hg; have hnb54 := NB201_202.out; have hnc54 := NB202_201.out; have hcz55_0 : w53.cell? ⟨gb201, 0, none⟩ = some (.int .i64 a0_0) := bc BK201 0; have hcz55_1 : w53.cell? ⟨gb201, 1, none⟩ = some (.int .i64 a0_1) := bc BK201 1; have hcz55_2 : w53.cell? ⟨gb201, 2, none⟩ = some (.int .i64 a0_2) := bc BK201 2; have hcz55_3 : w53.cell? ⟨gb201, 3, none⟩ = some (.int .i64 a0_3) := bc BK201 3; have hcz55_4 : w53.cell? ⟨gb201, 4, none⟩ = some (.slice A0_4 l0_4.length c0_4) := bc BK201 4; have hfz55_0 := blk_frozen BK201.out 0; have hfz55_1 := blk_frozen BK201.out 1; have hfz55_2 := blk_frozen BK201.out 2; have hfz55_3 := blk_frozen BK201.out 3; have hfz55_4 := blk_frozen BK201.out 4) | ((with_reducible refine gate_callee (f := 20) rfl ?_); refine goesL_ (some 12) rfl rfl Try.func20 (by kernel_rfl) rfl #[.agg #[.int .i64 a0_0, .int .i64 a0_1, .int .i64 a0_2, .int .i64 a0_3, .slice A0_4 l0_4.length c0_4]] rfl upL ?_; (with_reducible refine (plane_Valid.calls a0_0 a0_1 a0_2 a0_3 _ _ l0_4 false _ ?side1 ?side2 A4.out).mono ?_); (case side1 => repeat (first | exact (Kd.C_below HR0_4.out HB.out) | (with_reducible refine Kd.C_alloc ?_ _) | (with_reducible refine Kd.C_drewN ?_ _) | (with_reducible refine Kd.C_drew ?_))); (case side2 => exact HC0_4.out); rintro e w56 ⟨rfl, hb⟩; refine ⟨_, rfl, ?_⟩; replace BK201 := AS (blk_below (g := gb201) (o := .cells #[.int .i64 a0_0, .int .i64 a0_1, .int .i64 a0_2, .int .i64 a0_3, .slice A0_4 l0_4.length c0_4] 26) (upK BK201.out) hb); replace BK202 := AS (blk_below (g := gb202) (o := .cells #[.int .i64 0, .int .i64 0, .int .i64 0, .int .i64 0, .slice none 0 0] 26) (upK BK202.out) hb); replace HB := AS (below_step (upB HB.out) hb); (try clear hb; try clear hb2; try clear hk; try clear hi); have hcz57_0 : w56.cell? ⟨gb202, 0, none⟩ = some (.int .i64 0) := bc BK202 0; have hcz57_1 : w56.cell? ⟨gb202, 1, none⟩ = some (.int .i64 0) := bc BK202 1; have hcz57_2 : w56.cell? ⟨gb202, 2, none⟩ = some (.int .i64 0) := bc BK202 2; have hcz57_3 : w56.cell? ⟨gb202, 3, none⟩ = some (.int .i64 0) := bc BK202 3; have hcz57_4 : w56.cell? ⟨gb202, 4, none⟩ = some (.slice none 0 0) := bc BK202 4; have hfz57_0 := blk_frozen BK202.out 0; have hfz57_1 := blk_frozen BK202.out 1; have hfz57_2 := blk_frozen BK202.out 2; have hfz57_3 := blk_frozen BK202.out 3; have hfz57_4 := blk_frozen BK202.out 4))
  refine bodyPost_ret (results_ct rfl _ _ gb202 26 #[.int .i64 0, .int .i64 0, .int .i64 0, .int .i64 0, .slice none 0 0] (0, 0) _ rfl (by (with_reducible repeat (first | refine blk_drewN ?_ _ | refine blk_drew ?_ | refine blk_alloc ?_ _)); refine blk_put (cs := #[.int .i64 0, .int .i64 0, .int .i64 0, .int .i64 0, .slice none 0 0]) ?_ 4 _ rfl; (with_reducible repeat (first | refine blk_drewN ?_ _ | refine blk_drew ?_ | refine blk_alloc ?_ _)); refine blk_put (cs := #[.int .i64 0, .int .i64 0, .int .i64 0, .int .i64 0, .slice none 0 0]) ?_ 3 _ rfl; (with_reducible repeat (first | refine blk_drewN ?_ _ | refine blk_drew ?_ | refine blk_alloc ?_ _)); refine blk_put (cs := #[.int .i64 0, .int .i64 0, .int .i64 0, .int .i64 0, .slice none 0 0]) ?_ 2 _ rfl; (with_reducible repeat (first | refine blk_drewN ?_ _ | refine blk_drew ?_ | refine blk_alloc ?_ _)); refine blk_put (cs := #[.int .i64 0, .int .i64 0, .int .i64 0, .int .i64 0, .slice none 0 0]) ?_ 1 _ rfl; (with_reducible repeat (first | refine blk_drewN ?_ _ | refine blk_drew ?_ | refine blk_alloc ?_ _)); refine blk_put (cs := #[.int .i64 0, .int .i64 0, .int .i64 0, .int .i64 0, .slice none 0 0]) ?_ 0 _ rfl; (with_reducible repeat (first | refine blk_drewN ?_ _ | refine blk_drew ?_ | refine blk_alloc ?_ _)); exact BK202.out) Try.underlying26 rfl (by kernel_rfl)) rfl ?_
  exact ⟨_, by first | rfl | (simp [errW_none, errW_some] <;> rfl) | (simp [*, errW_none, errW_some] <;> rfl), by first | exact Kd.R_nil _ _ _ _ _ | exact Kd.N_nil _ _ _ _ _ | exact Kd.V_nil _ _ _ _ _ | exact Kd.Q_nil _ _ _ _ _ | exact Kd.S_nil _ _ _ _ _, by repeat (first | (with_reducible first | exact HB.out | apply below_alloc | apply pw_below_drewN | apply below_drew1 | refine below_set ?_ GE201.out | refine below_set ?_ GE202.out) | exact HB.out)⟩

end Go.Proofs.Ythemchggmlpdhaa.Q
