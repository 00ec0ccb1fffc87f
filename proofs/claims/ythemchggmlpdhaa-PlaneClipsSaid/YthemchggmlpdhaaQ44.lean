-- By a program of this session (wip/tools/mk.py), out of the kit's print of the translation; Lean checks it.
import Derived.Test.YthemchggmlpdhaaUp2
import Derived.Test.YthemchggmlpdhaaUp
import Derived.Test.YthemchggmlpdhaaQ0
import Derived.Test.YthemchggmlpdhaaQ8
import Derived.Test.YthemchggmlpdhaaQ21
import Derived.Test.YthemchggmlpdhaaQ22
import Derived.Test.YthemchggmlpdhaaQ25
import Derived.Test.YthemchggmlpdhaaQ28
import Derived.Test.YthemchggmlpdhaaQ42
import Derived.Test.YthemchggmlpdhaaQ43
namespace Go.Proofs.Ythemchggmlpdhaa.Q
open Go.RowKit Go.Proofs.YthemchggmlpdhaaW.PrintWords Go.Proofs.YthemchggmlpdhaaW.PrintLast Go.Proofs.YthemchggmlpdhaaW.PrintMore
attribute [local go_sem] max2_int min2_int max_two min_two max_three min_three max_four min_four   -- for this text's walks alone
set_option linter.unusedVariables false
set_option linter.unusedSimpArgs false

/-! ### waveletlaw02_PlaneClips: function 7 -/
def waveletlaw02_PlaneClips.j0 : Nat → Bool → Int → Int → Int → Int → List Int → Option (Bool)
 | 0, _, _, _, _, _, _ => none
 | k + 1, x43, x541000, x541001, x541002, x541003, x541004 => if x43 = true then (some false) else ((plane_Limits.f k x541000 x541001 x541002 x541003 x541004).bind fun bt562 => ((waveletref02_Limits.f k x541000 x541001 x541002 x541003 x541004).bind fun bt565 => (if bt562.1 = bt565.1 then (if bt562.2.1 = bt565.2.1 then (if (bt562.2.2 == bt565.2.2) = true then ((waveletlaw02_exampleHolds.f k).bind fun t568 => (some t568)) else (some false)) else (some false)) else (some false))))
def waveletlaw02_PlaneClips.f (k : Nat) (a0_0 : Int) (a0_1 : Int) (a0_2 : Int) (a0_3 : Int) (l0_4 : List Int) (a1 : Int) (a2 : Int) : Option (Bool) := (waveletref02_Few.f a0_0 a0_1 a0_2 a0_3 l0_4).bind fun t541 => (if t541 = true then ((plane_Clip.f k a0_0 a0_1 a0_2 a0_3 l0_4 a1 a2).bind fun bt543 => ((waveletref02_Clip.f k a0_0 a0_1 a0_2 a0_3 l0_4 a1 a2).bind fun bt552 => (if bt543.2.2.2.2.2 = bt552.2.2.2.2.2 then ((waveletref02_Same.f k bt543.1 bt543.2.1 bt543.2.2.1 bt543.2.2.2.1 bt543.2.2.2.2.1 bt552.1 bt552.2.1 bt552.2.2.1 bt552.2.2.2.1 bt552.2.2.2.2.1).bind fun t561 => (waveletlaw02_PlaneClips.j0 k (!t561) a0_0 a0_1 a0_2 a0_3 l0_4)) else (waveletlaw02_PlaneClips.j0 k true a0_0 a0_1 a0_2 a0_3 l0_4)))) else ((waveletlaw02_exampleHolds.f k).bind fun t542 => (some t542)))
theorem waveletlaw02_PlaneClips.mono_l : ∀ k, (∀ y0 y1 y2 y3 y4 y5, LeO (waveletlaw02_PlaneClips.j0 k y0 y1 y2 y3 y4 y5) (waveletlaw02_PlaneClips.j0 (k + 1) y0 y1 y2 y3 y4 y5))
 | 0 => fun _ _ _ _ _ _ r h => by simp [waveletlaw02_PlaneClips.j0] at h
 | k + 1 => by
  have ih0 := waveletlaw02_PlaneClips.mono_l k
  ·intro y0 y1 y2 y3 y4 y5
   unfold waveletlaw02_PlaneClips.j0
   repeat' first
   | (with_reducible exact ih0 _ _ _ _ _ _)
   | (with_reducible exact plane_Clip.mono _ _ _ _ _ _ _ _)
   | (with_reducible exact plane_Limits.mono _ _ _ _ _ _)
   | (with_reducible exact waveletlaw02_exampleHolds.mono _)
   | (with_reducible exact waveletref02_Clip.mono _ _ _ _ _ _ _ _)
   | (with_reducible exact waveletref02_Limits.mono _ _ _ _ _ _)
   | (with_reducible exact waveletref02_Same.mono _ _ _ _ _ _ _ _ _ _ _)
   | (with_reducible exact LeO.refl _)
   | (with_reducible exact LeO.none _)
   | (with_reducible refine LeO.ite ?_ ?_)
   | (with_reducible refine LeO.bind ?_ (fun _ => ?_))
   | exact ih0 _ _ _ _ _ _
   | exact plane_Clip.mono _ _ _ _ _ _ _ _
   | exact plane_Limits.mono _ _ _ _ _ _
   | exact waveletlaw02_exampleHolds.mono _
   | exact waveletref02_Clip.mono _ _ _ _ _ _ _ _
   | exact waveletref02_Limits.mono _ _ _ _ _ _
   | exact waveletref02_Same.mono _ _ _ _ _ _ _ _ _ _ _
   | exact LeO.none _
   | refine LeO.ite ?_ ?_
   | refine LeO.bind ?_ (fun _ => ?_)
theorem waveletlaw02_PlaneClips.mono : ∀ a0 a1 a2 a3 a4 a5 a6 k, LeO (waveletlaw02_PlaneClips.f k a0 a1 a2 a3 a4 a5 a6) (waveletlaw02_PlaneClips.f (k + 1) a0 a1 a2 a3 a4 a5 a6) := by
 intro a0 a1 a2 a3 a4 a5 a6 k
 have ih0 := waveletlaw02_PlaneClips.mono_l k
 unfold waveletlaw02_PlaneClips.f
 repeat' first
   | (with_reducible exact ih0 _ _ _ _ _ _)
   | (with_reducible exact plane_Clip.mono _ _ _ _ _ _ _ _)
   | (with_reducible exact plane_Limits.mono _ _ _ _ _ _)
   | (with_reducible exact waveletlaw02_exampleHolds.mono _)
   | (with_reducible exact waveletref02_Clip.mono _ _ _ _ _ _ _ _)
   | (with_reducible exact waveletref02_Limits.mono _ _ _ _ _ _)
   | (with_reducible exact waveletref02_Same.mono _ _ _ _ _ _ _ _ _ _ _)
   | (with_reducible exact LeO.refl _)
   | (with_reducible exact LeO.none _)
   | (with_reducible refine LeO.ite ?_ ?_)
   | (with_reducible refine LeO.bind ?_ (fun _ => ?_))
   | exact ih0 _ _ _ _ _ _
   | exact plane_Clip.mono _ _ _ _ _ _ _ _
   | exact plane_Limits.mono _ _ _ _ _ _
   | exact waveletlaw02_exampleHolds.mono _
   | exact waveletref02_Clip.mono _ _ _ _ _ _ _ _
   | exact waveletref02_Limits.mono _ _ _ _ _ _
   | exact waveletref02_Same.mono _ _ _ _ _ _ _ _ _ _ _
   | exact LeO.none _
   | refine LeO.ite ?_ ?_
   | refine LeO.bind ?_ (fun _ => ?_)
set_option maxHeartbeats 8000000 in
set_option maxRecDepth 100000 in
theorem waveletlaw02_PlaneClips.calls (k : Nat) (a0_0 : Int) (a0_1 : Int) (a0_2 : Int) (a0_3 : Int) (A0_4 : Option Addr) (c0_4 : Nat) (l0_4 : List Int) (a1 : Int) (a2 : Int) (r : Bool) (hr_ : r = true) (w : World) (hr0_4 : Kd.C (Kd.int .i64) w A0_4 l0_4.length l0_4) (hc0_4 : l0_4.length ≤ c0_4) (h : waveletlaw02_PlaneClips.f k a0_0 a0_1 a0_2 a0_3 l0_4 a1 a2 = some r) :
  Calls Try.prog 7 #[.agg #[.int .i64 a0_0, .int .i64 a0_1, .int .i64 a0_2, .int .i64 a0_3, .slice A0_4 l0_4.length c0_4], .int .i64 a1, .int .i64 a2] w fun e w' => e = .returned (.bool r) ∧ Below w.heap.size w w' := by
 have hu26 := Try.underlying26
 have HR0_4 := Aside0.mk hr0_4
 have HC0_4 := Aside0.mk hc0_4
 clear hr0_4 hc0_4
 have HB := Aside0.mk (Below.refl w.heap.size w)
 have H : ((waveletref02_Few.f a0_0 a0_1 a0_2 a0_3 l0_4).bind fun t541 => (if t541 = true then ((plane_Clip.f k a0_0 a0_1 a0_2 a0_3 l0_4 a1 a2).bind fun bt543 => ((waveletref02_Clip.f k a0_0 a0_1 a0_2 a0_3 l0_4 a1 a2).bind fun bt552 => (if bt543.2.2.2.2.2 = bt552.2.2.2.2.2 then ((waveletref02_Same.f k bt543.1 bt543.2.1 bt543.2.2.1 bt543.2.2.2.1 bt543.2.2.2.2.1 bt552.1 bt552.2.1 bt552.2.2.1 bt552.2.2.2.1 bt552.2.2.2.2.1).bind fun t561 => (waveletlaw02_PlaneClips.j0 k (!t561) a0_0 a0_1 a0_2 a0_3 l0_4)) else (waveletlaw02_PlaneClips.j0 k true a0_0 a0_1 a0_2 a0_3 l0_4)))) else ((waveletlaw02_exampleHolds.f k).bind fun t542 => (some t542)))) = some r := h
 clear h
 replace H := Option.bind_eq_some_iff.mp H
 obtain ⟨t541, A40, H⟩ := H
 replace H : (if t541 = true then ((plane_Clip.f k a0_0 a0_1 a0_2 a0_3 l0_4 a1 a2).bind fun bt543 => ((waveletref02_Clip.f k a0_0 a0_1 a0_2 a0_3 l0_4 a1 a2).bind fun bt552 => (if bt543.2.2.2.2.2 = bt552.2.2.2.2.2 then ((waveletref02_Same.f k bt543.1 bt543.2.1 bt543.2.2.1 bt543.2.2.2.1 bt543.2.2.2.2.1 bt552.1 bt552.2.1 bt552.2.2.1 bt552.2.2.2.1 bt552.2.2.2.2.1).bind fun t561 => (waveletlaw02_PlaneClips.j0 k (!t561) a0_0 a0_1 a0_2 a0_3 l0_4)) else (waveletlaw02_PlaneClips.j0 k true a0_0 a0_1 a0_2 a0_3 l0_4)))) else ((waveletlaw02_exampleHolds.f k).bind fun t542 => (some t542))) = some r := H
 have A4 := Aside0.mk A40
 clear A40
 by_cases c5 : t541 = true
 ·subst c5
  rw [if_pos rfl] at H
  replace H := Option.bind_eq_some_iff.mp H
  obtain ⟨⟨t543, t544, t545, t546, t547, t550⟩, A60, H⟩ := H
  replace H : ((waveletref02_Clip.f k a0_0 a0_1 a0_2 a0_3 l0_4 a1 a2).bind fun bt552 => (if t550 = bt552.2.2.2.2.2 then ((waveletref02_Same.f k t543 t544 t545 t546 t547 bt552.1 bt552.2.1 bt552.2.2.1 bt552.2.2.2.1 bt552.2.2.2.2.1).bind fun t561 => (waveletlaw02_PlaneClips.j0 k (!t561) a0_0 a0_1 a0_2 a0_3 l0_4)) else (waveletlaw02_PlaneClips.j0 k true a0_0 a0_1 a0_2 a0_3 l0_4))) = some r := H
  have A6 := Aside0.mk A60
  clear A60
  replace H := Option.bind_eq_some_iff.mp H
  obtain ⟨⟨t552, t553, t554, t555, t556, t559⟩, A70, H⟩ := H
  replace H : (if t550 = t559 then ((waveletref02_Same.f k t543 t544 t545 t546 t547 t552 t553 t554 t555 t556).bind fun t561 => (waveletlaw02_PlaneClips.j0 k (!t561) a0_0 a0_1 a0_2 a0_3 l0_4)) else (waveletlaw02_PlaneClips.j0 k true a0_0 a0_1 a0_2 a0_3 l0_4)) = some r := H
  have A7 := Aside0.mk A70
  clear A70
  have HC8 := Aside0.mk H
  clear H
  go_enter Try.func7, Try.ntmps7
  go_upto_region 5 with (first | ((with_reducible refine gate_dst (N := 3) rfl ?_); refine box_event ?hg (N := 3) ?hd (cs := #[.int .i64 a0_0, .int .i64 a0_1, .int .i64 a0_2, .int .i64 a0_3, .slice A0_4 l0_4.length c0_4]) (t := 26) ?hr ?_; (case hd => rfl); (case hg => rfl); (case hr => first | (go_simp; done) | (go_simp; rfl)); intro gb540 hg w9 hbox hb; have BK540 := Aside0.mk (hbox); have GW540 := Aside0.mk ((by rw [hg]; exact (below_size (upB HB.out)) : w.heap.size ≤ gb540)); have GE540 := Aside0.mk ((by rw [hg]; exact (below_size (upB HB.out)) : w.heap.size ≤ gb540)); replace HB := Aside0.mk (below_step (upB HB.out) hb); clear hb hbox hg; have hcz10_0 : w9.cell? ⟨gb540, 0, none⟩ = some (.int .i64 a0_0) := bc BK540 0; have hcz10_1 : w9.cell? ⟨gb540, 1, none⟩ = some (.int .i64 a0_1) := bc BK540 1; have hcz10_2 : w9.cell? ⟨gb540, 2, none⟩ = some (.int .i64 a0_2) := bc BK540 2; have hcz10_3 : w9.cell? ⟨gb540, 3, none⟩ = some (.int .i64 a0_3) := bc BK540 3; have hcz10_4 : w9.cell? ⟨gb540, 4, none⟩ = some (.slice A0_4 l0_4.length c0_4) := bc BK540 4; have hfz10_0 := blk_frozen BK540.out 0; have hfz10_1 := blk_frozen BK540.out 1; have hfz10_2 := blk_frozen BK540.out 2; have hfz10_3 := blk_frozen BK540.out 3; have hfz10_4 := blk_frozen BK540.out 4) | ((with_reducible refine gate_callee (f := 17) rfl ?_); refine goesL_ (some 18) rfl rfl Try.func17 (by kernel_rfl) rfl #[.agg #[.int .i64 a0_0, .int .i64 a0_1, .int .i64 a0_2, .int .i64 a0_3, .slice A0_4 l0_4.length c0_4]] rfl upL ?_; (with_reducible refine (waveletref02_Few.calls a0_0 a0_1 a0_2 a0_3 _ _ l0_4 true _ ?side1 ?side2 A4.out).mono ?_); (case side1 => repeat (first | exact (Kd.C_below HR0_4.out HB.out) | (with_reducible refine Kd.C_alloc ?_ _) | (with_reducible refine Kd.C_drewN ?_ _) | (with_reducible refine Kd.C_drew ?_))); (case side2 => exact HC0_4.out); rintro e w11 ⟨rfl, hb⟩; refine ⟨_, rfl, ?_⟩; replace BK540 := Aside0.mk (blk_below (g := gb540) (o := .cells #[.int .i64 a0_0, .int .i64 a0_1, .int .i64 a0_2, .int .i64 a0_3, .slice A0_4 l0_4.length c0_4] 26 (0, 0)) (upK BK540.out) hb); replace HB := Aside0.mk (below_step (upB HB.out) hb); (try clear hb; try clear hb2; try clear hk; try clear hi); have hcz12_0 : w11.cell? ⟨gb540, 0, none⟩ = some (.int .i64 a0_0) := bc BK540 0; have hcz12_1 : w11.cell? ⟨gb540, 1, none⟩ = some (.int .i64 a0_1) := bc BK540 1; have hcz12_2 : w11.cell? ⟨gb540, 2, none⟩ = some (.int .i64 a0_2) := bc BK540 2; have hcz12_3 : w11.cell? ⟨gb540, 3, none⟩ = some (.int .i64 a0_3) := bc BK540 3; have hcz12_4 : w11.cell? ⟨gb540, 4, none⟩ = some (.slice A0_4 l0_4.length c0_4) := bc BK540 4; have hfz12_0 := blk_frozen BK540.out 0; have hfz12_1 := blk_frozen BK540.out 1; have hfz12_2 := blk_frozen BK540.out 2; have hfz12_3 := blk_frozen BK540.out 3; have hfz12_4 := blk_frozen BK540.out 4) | ((with_reducible refine gate_callee (f := 31) rfl ?_); refine goesL_ (some 25) rfl rfl Try.func31 (by kernel_rfl) rfl #[.agg #[.int .i64 a0_0, .int .i64 a0_1, .int .i64 a0_2, .int .i64 a0_3, .slice A0_4 l0_4.length c0_4], .int .i64 a1, .int .i64 a2] rfl upL ?_; (with_reducible refine (plane_Clip.calls k a0_0 a0_1 a0_2 a0_3 _ _ l0_4 a1 a2 t543 t544 t545 t546 t547 t550 _ ?side1 ?side2 A6.out).mono ?_); (case side1 => repeat (first | exact (Kd.C_below HR0_4.out HB.out) | (with_reducible refine Kd.C_alloc ?_ _) | (with_reducible refine Kd.C_drewN ?_ _) | (with_reducible refine Kd.C_drew ?_))); (case side2 => exact HC0_4.out); rintro e w13 ⟨v548, rfl, ho0, hb⟩; refine ⟨_, rfl, ?_⟩; have HO549 := Aside0.mk (Kd.R_lower ho0 (below_size (upB HB.out))); replace BK540 := Aside0.mk (blk_below (g := gb540) (o := .cells #[.int .i64 a0_0, .int .i64 a0_1, .int .i64 a0_2, .int .i64 a0_3, .slice A0_4 l0_4.length c0_4] 26 (0, 0)) (upK BK540.out) hb); replace HB := Aside0.mk (below_step (upB HB.out) hb); (try clear hb; try clear hb2; try clear hk; try clear hi; try clear ho0)) | ((with_reducible refine gate_dst (N := 7) rfl ?_); refine box_event ?hg (N := 7) ?hd (cs := #[.int .i64 0, .int .i64 0, .int .i64 0, .int .i64 0, .slice none 0 0]) (t := 26) ?hr ?_; (case hd => rfl); (case hg => rfl); (case hr => first | (go_simp; done) | (go_simp; rfl)); intro gb551 hg w14 hbox hb; replace HO549 := Aside0.mk (Kd.R_below (upR HO549.out) hb); have BK551 := Aside0.mk (hbox); have GW551 := Aside0.mk ((by rw [hg]; exact (below_size (upB HB.out)) : w.heap.size ≤ gb551)); have GE551 := Aside0.mk ((by rw [hg]; exact (below_size (upB HB.out)) : w.heap.size ≤ gb551)); replace HB := Aside0.mk (below_step (upB HB.out) hb); have NB540_551 := Aside0.mk ((by rw [hg]; exact Nat.ne_of_lt (blk_lt (g := gb540) (o := .cells #[.int .i64 a0_0, .int .i64 a0_1, .int .i64 a0_2, .int .i64 a0_3, .slice A0_4 l0_4.length c0_4] 26 (0, 0)) (upK BK540.out)) : gb540 ≠ gb551)); have NB551_540 := Aside0.mk ((by rw [hg]; exact Nat.ne_of_gt (blk_lt (g := gb540) (o := .cells #[.int .i64 a0_0, .int .i64 a0_1, .int .i64 a0_2, .int .i64 a0_3, .slice A0_4 l0_4.length c0_4] 26 (0, 0)) (upK BK540.out)) : gb551 ≠ gb540)); replace BK540 := Aside0.mk (blk_below (g := gb540) (o := .cells #[.int .i64 a0_0, .int .i64 a0_1, .int .i64 a0_2, .int .i64 a0_3, .slice A0_4 l0_4.length c0_4] 26 (0, 0)) (upK BK540.out) hb); clear hb hbox hg; have hnb15 := NB551_540.out; have hnc15 := NB540_551.out; have hcz16_0 : w14.cell? ⟨gb551, 0, none⟩ = some (.int .i64 0) := bc BK551 0; have hcz16_1 : w14.cell? ⟨gb551, 1, none⟩ = some (.int .i64 0) := bc BK551 1; have hcz16_2 : w14.cell? ⟨gb551, 2, none⟩ = some (.int .i64 0) := bc BK551 2; have hcz16_3 : w14.cell? ⟨gb551, 3, none⟩ = some (.int .i64 0) := bc BK551 3; have hcz16_4 : w14.cell? ⟨gb551, 4, none⟩ = some (.slice none 0 0) := bc BK551 4; have hfz16_0 := blk_frozen BK551.out 0; have hfz16_1 := blk_frozen BK551.out 1; have hfz16_2 := blk_frozen BK551.out 2; have hfz16_3 := blk_frozen BK551.out 3; have hfz16_4 := blk_frozen BK551.out 4; obtain ⟨Ao17, co17, eo17⟩ := Kd.R_slice HO549.out; subst eo17; have hcz18_0 : w14.cell? ⟨gb540, 0, none⟩ = some (.int .i64 a0_0) := bc BK540 0; have hcz18_1 : w14.cell? ⟨gb540, 1, none⟩ = some (.int .i64 a0_1) := bc BK540 1; have hcz18_2 : w14.cell? ⟨gb540, 2, none⟩ = some (.int .i64 a0_2) := bc BK540 2; have hcz18_3 : w14.cell? ⟨gb540, 3, none⟩ = some (.int .i64 a0_3) := bc BK540 3; have hcz18_4 : w14.cell? ⟨gb540, 4, none⟩ = some (.slice A0_4 l0_4.length c0_4) := bc BK540 4; have hfz18_0 := blk_frozen BK540.out 0; have hfz18_1 := blk_frozen BK540.out 1; have hfz18_2 := blk_frozen BK540.out 2; have hfz18_3 := blk_frozen BK540.out 3; have hfz18_4 := blk_frozen BK540.out 4) | ((with_reducible refine gate_callee (f := 32) rfl ?_); refine goesL_ (some 32) rfl rfl Try.func32 (by kernel_rfl) rfl #[.agg #[.int .i64 a0_0, .int .i64 a0_1, .int .i64 a0_2, .int .i64 a0_3, .slice A0_4 l0_4.length c0_4], .int .i64 a1, .int .i64 a2] rfl upL ?_; (with_reducible refine (waveletref02_Clip.calls k a0_0 a0_1 a0_2 a0_3 _ _ l0_4 a1 a2 t552 t553 t554 t555 t556 t559 _ ?side1 ?side2 A7.out).mono ?_); (case side1 => exact Kd.C_below HR0_4.out (upB HB.out)); (case side2 => exact HC0_4.out); rintro e w19 ⟨v557, rfl, ho0, hb⟩; refine ⟨_, rfl, ?_⟩; have HO558 := Aside0.mk (Kd.R_lower (Kd.R_new' ho0 (Kd.R_lt (by (with_reducible repeat (first | apply Kd.R_alloc | apply Kd.R_drewN | apply Kd.R_drew)); exact (Kd.R_mono (Kd.R_far (p := ⟨gb551, 4, none⟩) (Kd.R_far (p := ⟨gb551, 3, none⟩) (Kd.R_far (p := ⟨gb551, 2, none⟩) (Kd.R_far (p := ⟨gb551, 1, none⟩) (Kd.R_far (p := ⟨gb551, 0, none⟩) (Kd.R_types HO549.out BK551.out (by decide)) (fun _ hk => hk.2) (.int .i64 t543)) (fun _ hk => hk.2) (.int .i64 t544)) (fun _ hk => hk.2) (.int .i64 t545)) (fun _ hk => hk.2) (.int .i64 t546)) (fun _ hk => hk.2) (.slice Ao17 t547.length co17)) (fun _ h_ => h_.1))))) (below_size (upB HB.out))); replace HO549 := Aside0.mk (Kd.R_elder' (by (with_reducible repeat (first | apply Kd.R_alloc | apply Kd.R_drewN | apply Kd.R_drew)); exact (Kd.R_mono (Kd.R_far (p := ⟨gb551, 4, none⟩) (Kd.R_far (p := ⟨gb551, 3, none⟩) (Kd.R_far (p := ⟨gb551, 2, none⟩) (Kd.R_far (p := ⟨gb551, 1, none⟩) (Kd.R_far (p := ⟨gb551, 0, none⟩) (Kd.R_types HO549.out BK551.out (by decide)) (fun _ hk => hk.2) (.int .i64 t543)) (fun _ hk => hk.2) (.int .i64 t544)) (fun _ hk => hk.2) (.int .i64 t545)) (fun _ hk => hk.2) (.int .i64 t546)) (fun _ hk => hk.2) (.slice Ao17 t547.length co17)) (fun _ h_ => h_.1))) (Kd.R_base ho0) hb); replace BK540 := Aside0.mk (blk_below (g := gb540) (o := .cells #[.int .i64 a0_0, .int .i64 a0_1, .int .i64 a0_2, .int .i64 a0_3, .slice A0_4 l0_4.length c0_4] 26 (0, 0)) (by (with_reducible repeat (first | refine blk_drewN ?_ _ | refine blk_drew ?_ | refine blk_alloc ?_ _)); refine blk_far ?_ NB540_551.out _; (with_reducible repeat (first | refine blk_drewN ?_ _ | refine blk_drew ?_ | refine blk_alloc ?_ _)); refine blk_far ?_ NB540_551.out _; (with_reducible repeat (first | refine blk_drewN ?_ _ | refine blk_drew ?_ | refine blk_alloc ?_ _)); refine blk_far ?_ NB540_551.out _; (with_reducible repeat (first | refine blk_drewN ?_ _ | refine blk_drew ?_ | refine blk_alloc ?_ _)); refine blk_far ?_ NB540_551.out _; (with_reducible repeat (first | refine blk_drewN ?_ _ | refine blk_drew ?_ | refine blk_alloc ?_ _)); refine blk_far ?_ NB540_551.out _; (with_reducible repeat (first | refine blk_drewN ?_ _ | refine blk_drew ?_ | refine blk_alloc ?_ _)); exact BK540.out) hb); replace BK551 := Aside0.mk (blk_below (g := gb551) (o := .cells #[.int .i64 t543, .int .i64 t544, .int .i64 t545, .int .i64 t546, .slice Ao17 t547.length co17] 26 (0, 0)) (by (with_reducible repeat (first | refine blk_drewN ?_ _ | refine blk_drew ?_ | refine blk_alloc ?_ _)); refine blk_put (cs := #[.int .i64 t543, .int .i64 t544, .int .i64 t545, .int .i64 t546, .slice none 0 0]) ?_ 4 _ rfl; (with_reducible repeat (first | refine blk_drewN ?_ _ | refine blk_drew ?_ | refine blk_alloc ?_ _)); refine blk_put (cs := #[.int .i64 t543, .int .i64 t544, .int .i64 t545, .int .i64 0, .slice none 0 0]) ?_ 3 _ rfl; (with_reducible repeat (first | refine blk_drewN ?_ _ | refine blk_drew ?_ | refine blk_alloc ?_ _)); refine blk_put (cs := #[.int .i64 t543, .int .i64 t544, .int .i64 0, .int .i64 0, .slice none 0 0]) ?_ 2 _ rfl; (with_reducible repeat (first | refine blk_drewN ?_ _ | refine blk_drew ?_ | refine blk_alloc ?_ _)); refine blk_put (cs := #[.int .i64 t543, .int .i64 0, .int .i64 0, .int .i64 0, .slice none 0 0]) ?_ 1 _ rfl; (with_reducible repeat (first | refine blk_drewN ?_ _ | refine blk_drew ?_ | refine blk_alloc ?_ _)); refine blk_put (cs := #[.int .i64 0, .int .i64 0, .int .i64 0, .int .i64 0, .slice none 0 0]) ?_ 0 _ rfl; (with_reducible repeat (first | refine blk_drewN ?_ _ | refine blk_drew ?_ | refine blk_alloc ?_ _)); exact BK551.out) hb); replace HB := Aside0.mk (below_step (upB HB.out) hb); (try clear hb; try clear hb2; try clear hk; try clear hi; try clear ho0)) | ((with_reducible refine gate_dst (N := 9) rfl ?_); refine box_event ?hg (N := 9) ?hd (cs := #[.int .i64 0, .int .i64 0, .int .i64 0, .int .i64 0, .slice none 0 0]) (t := 26) ?hr ?_; (case hd => rfl); (case hg => rfl); (case hr => first | (go_simp; done) | (go_simp; rfl)); intro gb560 hg w20 hbox hb; replace HO549 := Aside0.mk (Kd.R_below (upR HO549.out) hb); replace HO558 := Aside0.mk (Kd.R_below (upR HO558.out) hb); have BK560 := Aside0.mk (hbox); have GW560 := Aside0.mk ((by rw [hg]; exact (below_size (upB HB.out)) : w.heap.size ≤ gb560)); have GE560 := Aside0.mk ((by rw [hg]; exact (below_size (upB HB.out)) : w.heap.size ≤ gb560)); replace HB := Aside0.mk (below_step (upB HB.out) hb); have NB540_560 := Aside0.mk ((by rw [hg]; exact Nat.ne_of_lt (blk_lt (g := gb540) (o := .cells #[.int .i64 a0_0, .int .i64 a0_1, .int .i64 a0_2, .int .i64 a0_3, .slice A0_4 l0_4.length c0_4] 26 (0, 0)) (upK BK540.out)) : gb540 ≠ gb560)); have NB560_540 := Aside0.mk ((by rw [hg]; exact Nat.ne_of_gt (blk_lt (g := gb540) (o := .cells #[.int .i64 a0_0, .int .i64 a0_1, .int .i64 a0_2, .int .i64 a0_3, .slice A0_4 l0_4.length c0_4] 26 (0, 0)) (upK BK540.out)) : gb560 ≠ gb540)); replace BK540 := Aside0.mk (blk_below (g := gb540) (o := .cells #[.int .i64 a0_0, .int .i64 a0_1, .int .i64 a0_2, .int .i64 a0_3, .slice A0_4 l0_4.length c0_4] 26 (0, 0)) (upK BK540.out) hb); have NB551_560 := Aside0.mk ((by rw [hg]; exact Nat.ne_of_lt (blk_lt (g := gb551) (o := .cells #[.int .i64 t543, .int .i64 t544, .int .i64 t545, .int .i64 t546, .slice Ao17 t547.length co17] 26 (0, 0)) (upK BK551.out)) : gb551 ≠ gb560)); have NB560_551 := Aside0.mk ((by rw [hg]; exact Nat.ne_of_gt (blk_lt (g := gb551) (o := .cells #[.int .i64 t543, .int .i64 t544, .int .i64 t545, .int .i64 t546, .slice Ao17 t547.length co17] 26 (0, 0)) (upK BK551.out)) : gb560 ≠ gb551)); replace BK551 := Aside0.mk (blk_below (g := gb551) (o := .cells #[.int .i64 t543, .int .i64 t544, .int .i64 t545, .int .i64 t546, .slice Ao17 t547.length co17] 26 (0, 0)) (upK BK551.out) hb); clear hb hbox hg; have hnb21 := NB560_540.out; have hnc21 := NB540_560.out; have hnb22 := NB560_551.out; have hnc22 := NB551_560.out; have hcz23_0 : w20.cell? ⟨gb560, 0, none⟩ = some (.int .i64 0) := bc BK560 0; have hcz23_1 : w20.cell? ⟨gb560, 1, none⟩ = some (.int .i64 0) := bc BK560 1; have hcz23_2 : w20.cell? ⟨gb560, 2, none⟩ = some (.int .i64 0) := bc BK560 2; have hcz23_3 : w20.cell? ⟨gb560, 3, none⟩ = some (.int .i64 0) := bc BK560 3; have hcz23_4 : w20.cell? ⟨gb560, 4, none⟩ = some (.slice none 0 0) := bc BK560 4; have hfz23_0 := blk_frozen BK560.out 0; have hfz23_1 := blk_frozen BK560.out 1; have hfz23_2 := blk_frozen BK560.out 2; have hfz23_3 := blk_frozen BK560.out 3; have hfz23_4 := blk_frozen BK560.out 4; obtain ⟨Ao24, co24, eo24⟩ := Kd.R_slice HO558.out; subst eo24))
  (try simp only [Act.put, List.setIfInBounds_toArray, List.set_cons_zero, List.set_cons_succ])
  go_cut [43] (fun v43 wc => ∃ (kq : Nat) (x43_7 : Bool), v43 = .bool x43_7 ∧ Aside0 (waveletlaw02_PlaneClips.j0 kq x43_7 a0_0 a0_1 a0_2 a0_3 l0_4 = some r) ∧ Aside0 (kq ≤ k) ∧ Aside0 (Kd.R (Kd.int .i64) 3 wc w.heap.size (fun k_ => some k_ ≠ ((.slice Ao24 t556.length co24) : Value).ownBlock) (.slice Ao17 t547.length co17) t547) ∧ Aside0 (Kd.R (Kd.int .i64) 3 wc w.heap.size (fun k_ => some k_ ≠ ((.slice Ao17 t547.length co17) : Value).ownBlock) (.slice Ao24 t556.length co24) t556) ∧ Aside0 (wc.heap[gb540]? = some (.cells #[.int .i64 a0_0, .int .i64 a0_1, .int .i64 a0_2, .int .i64 a0_3, (.slice A0_4 l0_4.length c0_4)] 26 (0, 0))) ∧ Aside0 (wc.heap[gb551]? = some (.cells #[.int .i64 t543, .int .i64 t544, .int .i64 t545, .int .i64 t546, (.slice Ao17 t547.length co17)] 26 (0, 0))) ∧ Aside0 (wc.heap[gb560]? = some (.cells #[.int .i64 t552, .int .i64 t553, .int .i64 t554, .int .i64 t555, (.slice Ao24 t556.length co24)] 26 (0, 0))) ∧ Aside0 (Below w.heap.size w wc))
  case first =>
   have H := HC8.out
   clear HC8
   by_cases c25 : t550 = t559
   ·rw [if_pos c25] at H
    have c25b0 : (t550 == t559) = true := beq_iff_eq.mpr c25
    have c25b1 : (t550 != t559) = false := bne_eq_false_iff_eq.mpr c25
    clear c25
    (first | rw [c25b0] | (simp only [i64_w, i32_w]; rw [c25b0]) | skip)
    replace H := Option.bind_eq_some_iff.mp H
    obtain ⟨t561, A260, H⟩ := H
    replace H : (waveletlaw02_PlaneClips.j0 k (!t561) a0_0 a0_1 a0_2 a0_3 l0_4) = some r := H
    have A26 := Aside0.mk A260
    clear A260
    have H' := Aside0.mk H
    clear H
    have hnb27 := NB551_540.out
    have hnc27 := NB540_551.out
    have hnb28 := NB551_560.out
    have hnc28 := NB560_551.out
    have hcz29_0 : w20.cell? ⟨gb551, 0, none⟩ = some (.int .i64 t543) := bc BK551 0
    have hcz29_1 : w20.cell? ⟨gb551, 1, none⟩ = some (.int .i64 t544) := bc BK551 1
    have hcz29_2 : w20.cell? ⟨gb551, 2, none⟩ = some (.int .i64 t545) := bc BK551 2
    have hcz29_3 : w20.cell? ⟨gb551, 3, none⟩ = some (.int .i64 t546) := bc BK551 3
    have hcz29_4 : w20.cell? ⟨gb551, 4, none⟩ = some (.slice Ao17 t547.length co17) := bc BK551 4
    have hfz29_0 := blk_frozen BK551.out 0
    have hfz29_1 := blk_frozen BK551.out 1
    have hfz29_2 := blk_frozen BK551.out 2
    have hfz29_3 := blk_frozen BK551.out 3
    have hfz29_4 := blk_frozen BK551.out 4
    have hnb30 := NB560_540.out
    have hnc30 := NB540_560.out
    have hcz31_0 : w20.cell? ⟨gb560, 0, none⟩ = some (.int .i64 0) := bc BK560 0
    have hcz31_1 : w20.cell? ⟨gb560, 1, none⟩ = some (.int .i64 0) := bc BK560 1
    have hcz31_2 : w20.cell? ⟨gb560, 2, none⟩ = some (.int .i64 0) := bc BK560 2
    have hcz31_3 : w20.cell? ⟨gb560, 3, none⟩ = some (.int .i64 0) := bc BK560 3
    have hcz31_4 : w20.cell? ⟨gb560, 4, none⟩ = some (.slice none 0 0) := bc BK560 4
    have hfz31_0 := blk_frozen BK560.out 0
    have hfz31_1 := blk_frozen BK560.out 1
    have hfz31_2 := blk_frozen BK560.out 2
    have hfz31_3 := blk_frozen BK560.out 3
    have hfz31_4 := blk_frozen BK560.out 4
    go_wp2_with (first | (go_at_call 16; (with_reducible refine (waveletref02_Same.calls k t543 t544 t545 t546 _ _ t547 t552 t553 t554 t555 _ _ t556 t561 _ ?side1 ?side2 ?side3 ?side4 A26.out).mono ?_); (case side1 => refine (Kd.R_reads' (e := 3) (base := w.heap.size) (ok := fun k_ => (True ∧ some k_ ≠ (.slice Ao24 t556.length co24 : Value).ownBlock)) (n := t547.length) (c := co17) ?_).2.2; exact (by (with_reducible repeat (first | apply Kd.R_alloc | apply Kd.R_drewN | apply Kd.R_drew)); exact (Kd.R_mono (Kd.R_far (p := ⟨gb560, 4, none⟩) (Kd.R_far (p := ⟨gb560, 3, none⟩) (Kd.R_far (p := ⟨gb560, 2, none⟩) (Kd.R_far (p := ⟨gb560, 1, none⟩) (Kd.R_far (p := ⟨gb560, 0, none⟩) (Kd.R_types HO549.out BK560.out (by decide)) (fun _ hk => hk.2) (.int .i64 t552)) (fun _ hk => hk.2) (.int .i64 t553)) (fun _ hk => hk.2) (.int .i64 t554)) (fun _ hk => hk.2) (.int .i64 t555)) (fun _ hk => hk.2) (.slice Ao24 t556.length co24)) (fun _ h_ => h_.1)))); (case side2 => exact (Kd.R_reads' HO549.out).2.1); (case side3 => refine (Kd.R_reads' (e := 3) (base := w.heap.size) (ok := fun k_ => (True ∧ some k_ ≠ (.slice Ao17 t547.length co17 : Value).ownBlock)) (n := t556.length) (c := co24) ?_).2.2; exact (by (with_reducible repeat (first | apply Kd.R_alloc | apply Kd.R_drewN | apply Kd.R_drew)); exact (Kd.R_mono (Kd.R_far (p := ⟨gb560, 4, none⟩) (Kd.R_far (p := ⟨gb560, 3, none⟩) (Kd.R_far (p := ⟨gb560, 2, none⟩) (Kd.R_far (p := ⟨gb560, 1, none⟩) (Kd.R_far (p := ⟨gb560, 0, none⟩) (Kd.R_types HO558.out BK560.out (by decide)) (fun _ hk => hk.2) (.int .i64 t552)) (fun _ hk => hk.2) (.int .i64 t553)) (fun _ hk => hk.2) (.int .i64 t554)) (fun _ hk => hk.2) (.int .i64 t555)) (fun _ hk => hk.2) (.slice Ao24 t556.length co24)) (fun _ h_ => h_.1)))); (case side4 => exact (Kd.R_reads' HO558.out).2.1); rintro e w32 ⟨rfl, hb⟩; replace HO549 := Aside0.mk (Kd.R_below (by (with_reducible repeat (first | apply Kd.R_alloc | apply Kd.R_drewN | apply Kd.R_drew)); exact (Kd.R_mono (Kd.R_far (p := ⟨gb560, 4, none⟩) (Kd.R_far (p := ⟨gb560, 3, none⟩) (Kd.R_far (p := ⟨gb560, 2, none⟩) (Kd.R_far (p := ⟨gb560, 1, none⟩) (Kd.R_far (p := ⟨gb560, 0, none⟩) (Kd.R_types HO549.out BK560.out (by decide)) (fun _ hk => hk.2) (.int .i64 t552)) (fun _ hk => hk.2) (.int .i64 t553)) (fun _ hk => hk.2) (.int .i64 t554)) (fun _ hk => hk.2) (.int .i64 t555)) (fun _ hk => hk.2) (.slice Ao24 t556.length co24)) (fun _ h_ => h_.1))) hb); replace HO558 := Aside0.mk (Kd.R_below (by (with_reducible repeat (first | apply Kd.R_alloc | apply Kd.R_drewN | apply Kd.R_drew)); exact (Kd.R_mono (Kd.R_far (p := ⟨gb560, 4, none⟩) (Kd.R_far (p := ⟨gb560, 3, none⟩) (Kd.R_far (p := ⟨gb560, 2, none⟩) (Kd.R_far (p := ⟨gb560, 1, none⟩) (Kd.R_far (p := ⟨gb560, 0, none⟩) (Kd.R_types HO558.out BK560.out (by decide)) (fun _ hk => hk.2) (.int .i64 t552)) (fun _ hk => hk.2) (.int .i64 t553)) (fun _ hk => hk.2) (.int .i64 t554)) (fun _ hk => hk.2) (.int .i64 t555)) (fun _ hk => hk.2) (.slice Ao24 t556.length co24)) (fun _ h_ => h_.1))) hb); replace BK540 := Aside0.mk (blk_below (g := gb540) (o := .cells #[.int .i64 a0_0, .int .i64 a0_1, .int .i64 a0_2, .int .i64 a0_3, .slice A0_4 l0_4.length c0_4] 26 (0, 0)) (by (with_reducible repeat (first | refine blk_drewN ?_ _ | refine blk_drew ?_ | refine blk_alloc ?_ _)); refine blk_far ?_ NB540_560.out _; (with_reducible repeat (first | refine blk_drewN ?_ _ | refine blk_drew ?_ | refine blk_alloc ?_ _)); refine blk_far ?_ NB540_560.out _; (with_reducible repeat (first | refine blk_drewN ?_ _ | refine blk_drew ?_ | refine blk_alloc ?_ _)); refine blk_far ?_ NB540_560.out _; (with_reducible repeat (first | refine blk_drewN ?_ _ | refine blk_drew ?_ | refine blk_alloc ?_ _)); refine blk_far ?_ NB540_560.out _; (with_reducible repeat (first | refine blk_drewN ?_ _ | refine blk_drew ?_ | refine blk_alloc ?_ _)); refine blk_far ?_ NB540_560.out _; (with_reducible repeat (first | refine blk_drewN ?_ _ | refine blk_drew ?_ | refine blk_alloc ?_ _)); exact BK540.out) hb); replace BK551 := Aside0.mk (blk_below (g := gb551) (o := .cells #[.int .i64 t543, .int .i64 t544, .int .i64 t545, .int .i64 t546, .slice Ao17 t547.length co17] 26 (0, 0)) (by (with_reducible repeat (first | refine blk_drewN ?_ _ | refine blk_drew ?_ | refine blk_alloc ?_ _)); refine blk_far ?_ NB551_560.out _; (with_reducible repeat (first | refine blk_drewN ?_ _ | refine blk_drew ?_ | refine blk_alloc ?_ _)); refine blk_far ?_ NB551_560.out _; (with_reducible repeat (first | refine blk_drewN ?_ _ | refine blk_drew ?_ | refine blk_alloc ?_ _)); refine blk_far ?_ NB551_560.out _; (with_reducible repeat (first | refine blk_drewN ?_ _ | refine blk_drew ?_ | refine blk_alloc ?_ _)); refine blk_far ?_ NB551_560.out _; (with_reducible repeat (first | refine blk_drewN ?_ _ | refine blk_drew ?_ | refine blk_alloc ?_ _)); refine blk_far ?_ NB551_560.out _; (with_reducible repeat (first | refine blk_drewN ?_ _ | refine blk_drew ?_ | refine blk_alloc ?_ _)); exact BK551.out) hb); replace BK560 := Aside0.mk (blk_below (g := gb560) (o := .cells #[.int .i64 t552, .int .i64 t553, .int .i64 t554, .int .i64 t555, .slice Ao24 t556.length co24] 26 (0, 0)) (by (with_reducible repeat (first | refine blk_drewN ?_ _ | refine blk_drew ?_ | refine blk_alloc ?_ _)); refine blk_put (cs := #[.int .i64 t552, .int .i64 t553, .int .i64 t554, .int .i64 t555, .slice none 0 0]) ?_ 4 _ rfl; (with_reducible repeat (first | refine blk_drewN ?_ _ | refine blk_drew ?_ | refine blk_alloc ?_ _)); refine blk_put (cs := #[.int .i64 t552, .int .i64 t553, .int .i64 t554, .int .i64 0, .slice none 0 0]) ?_ 3 _ rfl; (with_reducible repeat (first | refine blk_drewN ?_ _ | refine blk_drew ?_ | refine blk_alloc ?_ _)); refine blk_put (cs := #[.int .i64 t552, .int .i64 t553, .int .i64 0, .int .i64 0, .slice none 0 0]) ?_ 2 _ rfl; (with_reducible repeat (first | refine blk_drewN ?_ _ | refine blk_drew ?_ | refine blk_alloc ?_ _)); refine blk_put (cs := #[.int .i64 t552, .int .i64 0, .int .i64 0, .int .i64 0, .slice none 0 0]) ?_ 1 _ rfl; (with_reducible repeat (first | refine blk_drewN ?_ _ | refine blk_drew ?_ | refine blk_alloc ?_ _)); refine blk_put (cs := #[.int .i64 0, .int .i64 0, .int .i64 0, .int .i64 0, .slice none 0 0]) ?_ 0 _ rfl; (with_reducible repeat (first | refine blk_drewN ?_ _ | refine blk_drew ?_ | refine blk_alloc ?_ _)); exact BK560.out) hb); replace HB := Aside0.mk (below_step (upB HB.out) hb); (try clear hb; try clear hb2; try clear hk; try clear hi)))
    go_meet
    case rel => exact ⟨_, (!t561), (by first | rfl | (simp; done) | (simp [*]; done)), H', ⟨by first | omega | exact Nat.le_refl _⟩, ⟨by (with_reducible repeat (first | apply Kd.R_alloc | apply Kd.R_drewN | apply Kd.R_drew)); exact Kd.R_mono HO549.out (fun _ hk => hk.2)⟩, ⟨by (with_reducible repeat (first | apply Kd.R_alloc | apply Kd.R_drewN | apply Kd.R_drew)); exact Kd.R_mono HO558.out (fun _ hk => hk.2)⟩, ⟨by (with_reducible repeat (first | refine blk_drewN ?_ _ | refine blk_drew ?_ | refine blk_alloc ?_ _)); exact BK540.out⟩, ⟨by (with_reducible repeat (first | refine blk_drewN ?_ _ | refine blk_drew ?_ | refine blk_alloc ?_ _)); exact BK551.out⟩, ⟨by (with_reducible repeat (first | refine blk_drewN ?_ _ | refine blk_drew ?_ | refine blk_alloc ?_ _)); exact BK560.out⟩, ⟨by repeat (first | (with_reducible first | exact HB.out | apply below_alloc | apply pw_below_drewN | apply below_drew1 | refine below_set ?_ GE540.out | refine below_set ?_ GE551.out | refine below_set ?_ GE560.out) | exact HB.out)⟩⟩
   ·rw [if_neg c25] at H
    exact absurd H (by rw [hr_]; cases k <;> simp [waveletlaw02_PlaneClips.j0])
  case rest =>
   clear HC8
   try clear c1; try clear c2; try clear p2; try clear c3; try clear c5; try clear c7; try clear c15; try clear c17; try clear c21; try clear c22; try clear c25; try clear c25b0; try clear c25b1; try clear c27; try clear c28; try clear c30; try clear c31; try clear c32; try clear hcz10_0; try clear hcz10_1; try clear hcz10_2; try clear hcz10_3; try clear hcz10_4; try clear hcz12_0; try clear hcz12_1; try clear hcz12_2; try clear hcz12_3; try clear hcz12_4; try clear hcz16_0; try clear hcz16_1; try clear hcz16_2; try clear hcz16_3; try clear hcz16_4; try clear hcz18_0; try clear hcz18_1; try clear hcz18_2; try clear hcz18_3; try clear hcz18_4; try clear hcz23_0; try clear hcz23_1; try clear hcz23_2; try clear hcz23_3; try clear hcz23_4; try clear hcz29_0; try clear hcz29_1; try clear hcz29_2; try clear hcz29_3; try clear hcz29_4; try clear hcz31_0; try clear hcz31_1; try clear hcz31_2; try clear hcz31_3; try clear hcz31_4; try clear hfz10_0; try clear hfz10_1; try clear hfz10_2; try clear hfz10_3; try clear hfz10_4; try clear hfz12_0; try clear hfz12_1; try clear hfz12_2; try clear hfz12_3; try clear hfz12_4; try clear hfz16_0; try clear hfz16_1; try clear hfz16_2; try clear hfz16_3; try clear hfz16_4; try clear hfz18_0; try clear hfz18_1; try clear hfz18_2; try clear hfz18_3; try clear hfz18_4; try clear hfz23_0; try clear hfz23_1; try clear hfz23_2; try clear hfz23_3; try clear hfz23_4; try clear hfz29_0; try clear hfz29_1; try clear hfz29_2; try clear hfz29_3; try clear hfz29_4; try clear hfz31_0; try clear hfz31_1; try clear hfz31_2; try clear hfz31_3; try clear hfz31_4
   obtain ⟨kq, x43_7, rfl, HA, HJ7, HO_552004, HO_561004, BK540, BK551, BK560, HB⟩ := hcut
   cases kq with
   | zero => exact absurd HA.out (by simp [waveletlaw02_PlaneClips.j0])
   | succ kj7 =>
    have H := HA.out
    clear HA
    simp only [waveletlaw02_PlaneClips.j0] at H
    by_cases c33 : x43_7 = true
    ·subst c33
     have H1 : (some false) = some r := by rw [if_pos rfl] at H; exact H
     exact absurd (Option.some.inj H1) (by rw [hr_]; decide)
    ·replace c33 := Bool.eq_false_iff.mpr c33
     subst c33
     rw [if_neg (show ¬ (false = true) by decide)] at H
     replace H := Option.bind_eq_some_iff.mp H
     obtain ⟨⟨t562, t563, t564⟩, A340, H⟩ := H
     replace H : ((waveletref02_Limits.f kj7 a0_0 a0_1 a0_2 a0_3 l0_4).bind fun bt565 => (if t562 = bt565.1 then (if t563 = bt565.2.1 then (if (t564 == bt565.2.2) = true then ((waveletlaw02_exampleHolds.f kj7).bind fun t568 => (some t568)) else (some false)) else (some false)) else (some false))) = some r := H
     have A34 := Aside0.mk A340
     clear A340
     replace H := Option.bind_eq_some_iff.mp H
     obtain ⟨⟨t565, t566, t567⟩, A350, H⟩ := H
     replace H : (if t562 = t565 then (if t563 = t566 then (if (t564 == t567) = true then ((waveletlaw02_exampleHolds.f kj7).bind fun t568 => (some t568)) else (some false)) else (some false)) else (some false)) = some r := H
     have A35 := Aside0.mk A350
     clear A350
     by_cases c36 : t562 = t565
     ·rw [if_pos c36] at H
      have c36b0 : (t562 == t565) = true := beq_iff_eq.mpr c36
      have c36b1 : (t562 != t565) = false := bne_eq_false_iff_eq.mpr c36
      clear c36
      by_cases c37 : t563 = t566
      ·rw [if_pos c37] at H
       have c37b0 : (t563 == t566) = true := beq_iff_eq.mpr c37
       have c37b1 : (t563 != t566) = false := bne_eq_false_iff_eq.mpr c37
       clear c37
       by_cases c38 : (t564 == t567) = true
       ·rw [if_pos c38] at H
        have c38b0 : (t564 == t567) = true := c38
        (try (have c38b1 : decide (t564 = t567) = true := by simpa using c38))
        (try (have c38b2 : (t564 == t567) = true := by simpa using c38))
        clear c38
        replace H := Option.bind_eq_some_iff.mp H
        obtain ⟨t568, A390, H⟩ := H
        replace H : (some t568) = some r := H
        have A39 := Aside0.mk A390
        clear A390
        obtain rfl := Option.some.inj H
        have hnb40 := NB540_551.out
        have hnc40 := NB551_540.out
        have hnb41 := NB540_560.out
        have hnc41 := NB560_540.out
        have hcz42_0 : wc.cell? ⟨gb540, 0, none⟩ = some (.int .i64 a0_0) := bc BK540 0
        have hcz42_1 : wc.cell? ⟨gb540, 1, none⟩ = some (.int .i64 a0_1) := bc BK540 1
        have hcz42_2 : wc.cell? ⟨gb540, 2, none⟩ = some (.int .i64 a0_2) := bc BK540 2
        have hcz42_3 : wc.cell? ⟨gb540, 3, none⟩ = some (.int .i64 a0_3) := bc BK540 3
        have hcz42_4 : wc.cell? ⟨gb540, 4, none⟩ = some (.slice A0_4 l0_4.length c0_4) := bc BK540 4
        have hfz42_0 := blk_frozen BK540.out 0
        have hfz42_1 := blk_frozen BK540.out 1
        have hfz42_2 := blk_frozen BK540.out 2
        have hfz42_3 := blk_frozen BK540.out 3
        have hfz42_4 := blk_frozen BK540.out 4
        go_wp2_with (first | ((with_reducible refine gate_callee (f := 33) rfl ?_); refine goesL_ (some 46) rfl rfl Try.func33 (by kernel_rfl) rfl #[.agg #[.int .i64 a0_0, .int .i64 a0_1, .int .i64 a0_2, .int .i64 a0_3, .slice A0_4 l0_4.length c0_4]] rfl upL ?_; (with_reducible refine (plane_Limits.calls kj7 a0_0 a0_1 a0_2 a0_3 _ _ l0_4 t562 t563 t564 _ ?side1 ?side2 A34.out).mono ?_); (case side1 => repeat (first | exact (Kd.C_below HR0_4.out HB.out) | (with_reducible refine Kd.C_alloc ?_ _) | (with_reducible refine Kd.C_drewN ?_ _) | (with_reducible refine Kd.C_drew ?_))); (case side2 => exact HC0_4.out); rintro e w43 ⟨rfl, hb⟩; refine ⟨_, rfl, ?_⟩; replace HO_552004 := Aside0.mk (Kd.R_below (upR HO_552004.out) hb); replace HO_561004 := Aside0.mk (Kd.R_below (upR HO_561004.out) hb); replace BK540 := Aside0.mk (blk_below (g := gb540) (o := .cells #[.int .i64 a0_0, .int .i64 a0_1, .int .i64 a0_2, .int .i64 a0_3, .slice A0_4 l0_4.length c0_4] 26 (0, 0)) (upK BK540.out) hb); replace BK551 := Aside0.mk (blk_below (g := gb551) (o := .cells #[.int .i64 t543, .int .i64 t544, .int .i64 t545, .int .i64 t546, .slice Ao17 t547.length co17] 26 (0, 0)) (upK BK551.out) hb); replace BK560 := Aside0.mk (blk_below (g := gb560) (o := .cells #[.int .i64 t552, .int .i64 t553, .int .i64 t554, .int .i64 t555, .slice Ao24 t556.length co24] 26 (0, 0)) (upK BK560.out) hb); replace HB := Aside0.mk (below_step (upB HB.out) hb); (try clear hb; try clear hb2; try clear hk; try clear hi); have hcz44_0 : w43.cell? ⟨gb540, 0, none⟩ = some (.int .i64 a0_0) := bc BK540 0; have hcz44_1 : w43.cell? ⟨gb540, 1, none⟩ = some (.int .i64 a0_1) := bc BK540 1; have hcz44_2 : w43.cell? ⟨gb540, 2, none⟩ = some (.int .i64 a0_2) := bc BK540 2; have hcz44_3 : w43.cell? ⟨gb540, 3, none⟩ = some (.int .i64 a0_3) := bc BK540 3; have hcz44_4 : w43.cell? ⟨gb540, 4, none⟩ = some (.slice A0_4 l0_4.length c0_4) := bc BK540 4; have hfz44_0 := blk_frozen BK540.out 0; have hfz44_1 := blk_frozen BK540.out 1; have hfz44_2 := blk_frozen BK540.out 2; have hfz44_3 := blk_frozen BK540.out 3; have hfz44_4 := blk_frozen BK540.out 4) | ((with_reducible refine gate_callee (f := 34) rfl ?_); refine goesL_ (some 52) rfl rfl Try.func34 (by kernel_rfl) rfl #[.agg #[.int .i64 a0_0, .int .i64 a0_1, .int .i64 a0_2, .int .i64 a0_3, .slice A0_4 l0_4.length c0_4]] rfl upL ?_; (with_reducible refine (waveletref02_Limits.calls kj7 a0_0 a0_1 a0_2 a0_3 _ _ l0_4 t565 t566 t567 _ ?side1 ?side2 A35.out).mono ?_); (case side1 => repeat (first | exact (Kd.C_below HR0_4.out HB.out) | (with_reducible refine Kd.C_alloc ?_ _) | (with_reducible refine Kd.C_drewN ?_ _) | (with_reducible refine Kd.C_drew ?_))); (case side2 => exact HC0_4.out); rintro e w45 ⟨rfl, hb⟩; refine ⟨_, rfl, ?_⟩; replace HO_552004 := Aside0.mk (Kd.R_below (upR HO_552004.out) hb); replace HO_561004 := Aside0.mk (Kd.R_below (upR HO_561004.out) hb); replace BK540 := Aside0.mk (blk_below (g := gb540) (o := .cells #[.int .i64 a0_0, .int .i64 a0_1, .int .i64 a0_2, .int .i64 a0_3, .slice A0_4 l0_4.length c0_4] 26 (0, 0)) (upK BK540.out) hb); replace BK551 := Aside0.mk (blk_below (g := gb551) (o := .cells #[.int .i64 t543, .int .i64 t544, .int .i64 t545, .int .i64 t546, .slice Ao17 t547.length co17] 26 (0, 0)) (upK BK551.out) hb); replace BK560 := Aside0.mk (blk_below (g := gb560) (o := .cells #[.int .i64 t552, .int .i64 t553, .int .i64 t554, .int .i64 t555, .slice Ao24 t556.length co24] 26 (0, 0)) (upK BK560.out) hb); replace HB := Aside0.mk (below_step (upB HB.out) hb); (try clear hb; try clear hb2; try clear hk; try clear hi)) | (go_at_call 14; (with_reducible refine (waveletlaw02_exampleHolds.calls kj7  t568 _ A39.out).mono ?_); rintro e w46 ⟨rfl, hb⟩; replace HO_552004 := Aside0.mk (Kd.R_below (upR HO_552004.out) hb); replace HO_561004 := Aside0.mk (Kd.R_below (upR HO_561004.out) hb); replace BK540 := Aside0.mk (blk_below (g := gb540) (o := .cells #[.int .i64 a0_0, .int .i64 a0_1, .int .i64 a0_2, .int .i64 a0_3, .slice A0_4 l0_4.length c0_4] 26 (0, 0)) (upK BK540.out) hb); replace BK551 := Aside0.mk (blk_below (g := gb551) (o := .cells #[.int .i64 t543, .int .i64 t544, .int .i64 t545, .int .i64 t546, .slice Ao17 t547.length co17] 26 (0, 0)) (upK BK551.out) hb); replace BK560 := Aside0.mk (blk_below (g := gb560) (o := .cells #[.int .i64 t552, .int .i64 t553, .int .i64 t554, .int .i64 t555, .slice Ao24 t556.length co24] 26 (0, 0)) (upK BK560.out) hb); replace HB := Aside0.mk (below_step (upB HB.out) hb); (try clear hb; try clear hb2; try clear hk; try clear hi)))
        go_ret
        exact ⟨by first | rfl | (simp [errW_none, errW_some] <;> rfl) | (simp [*, errW_none, errW_some] <;> rfl), by repeat (first | (with_reducible first | exact HB.out | apply below_alloc | apply pw_below_drewN | apply below_drew1 | refine below_set ?_ GE540.out | refine below_set ?_ GE551.out | refine below_set ?_ GE560.out) | exact HB.out)⟩
       ·rw [if_neg c38] at H
        exact absurd (Option.some.inj H) (by rw [hr_]; decide)
      ·rw [if_neg c37] at H
       exact absurd (Option.some.inj H) (by rw [hr_]; decide)
     ·rw [if_neg c36] at H
      exact absurd (Option.some.inj H) (by rw [hr_]; decide)
 ·replace c5 := Bool.eq_false_iff.mpr c5
  subst c5
  rw [if_neg (show ¬ (false = true) by decide)] at H
  replace H := Option.bind_eq_some_iff.mp H
  obtain ⟨t542, A650, H⟩ := H
  replace H : (some t542) = some r := H
  have A65 := Aside0.mk A650
  clear A650
  obtain rfl := Option.some.inj H
  go_enter Try.func7, Try.ntmps7
  go_wp2_with (first | ((with_reducible refine gate_dst (N := 3) rfl ?_); refine box_event ?hg (N := 3) ?hd (cs := #[.int .i64 a0_0, .int .i64 a0_1, .int .i64 a0_2, .int .i64 a0_3, .slice A0_4 l0_4.length c0_4]) (t := 26) ?hr ?_; (case hd => rfl); (case hg => rfl); (case hr => first | (go_simp; done) | (go_simp; rfl)); intro gb540 hg w66 hbox hb; have BK540 := Aside0.mk (hbox); have GW540 := Aside0.mk ((by rw [hg]; exact (below_size (upB HB.out)) : w.heap.size ≤ gb540)); have GE540 := Aside0.mk ((by rw [hg]; exact (below_size (upB HB.out)) : w.heap.size ≤ gb540)); replace HB := Aside0.mk (below_step (upB HB.out) hb); clear hb hbox hg; have hcz67_0 : w66.cell? ⟨gb540, 0, none⟩ = some (.int .i64 a0_0) := bc BK540 0; have hcz67_1 : w66.cell? ⟨gb540, 1, none⟩ = some (.int .i64 a0_1) := bc BK540 1; have hcz67_2 : w66.cell? ⟨gb540, 2, none⟩ = some (.int .i64 a0_2) := bc BK540 2; have hcz67_3 : w66.cell? ⟨gb540, 3, none⟩ = some (.int .i64 a0_3) := bc BK540 3; have hcz67_4 : w66.cell? ⟨gb540, 4, none⟩ = some (.slice A0_4 l0_4.length c0_4) := bc BK540 4; have hfz67_0 := blk_frozen BK540.out 0; have hfz67_1 := blk_frozen BK540.out 1; have hfz67_2 := blk_frozen BK540.out 2; have hfz67_3 := blk_frozen BK540.out 3; have hfz67_4 := blk_frozen BK540.out 4) | ((with_reducible refine gate_callee (f := 17) rfl ?_); refine goesL_ (some 18) rfl rfl Try.func17 (by kernel_rfl) rfl #[.agg #[.int .i64 a0_0, .int .i64 a0_1, .int .i64 a0_2, .int .i64 a0_3, .slice A0_4 l0_4.length c0_4]] rfl upL ?_; (with_reducible refine (waveletref02_Few.calls a0_0 a0_1 a0_2 a0_3 _ _ l0_4 false _ ?side1 ?side2 A4.out).mono ?_); (case side1 => repeat (first | exact (Kd.C_below HR0_4.out HB.out) | (with_reducible refine Kd.C_alloc ?_ _) | (with_reducible refine Kd.C_drewN ?_ _) | (with_reducible refine Kd.C_drew ?_))); (case side2 => exact HC0_4.out); rintro e w68 ⟨rfl, hb⟩; refine ⟨_, rfl, ?_⟩; replace BK540 := Aside0.mk (blk_below (g := gb540) (o := .cells #[.int .i64 a0_0, .int .i64 a0_1, .int .i64 a0_2, .int .i64 a0_3, .slice A0_4 l0_4.length c0_4] 26 (0, 0)) (upK BK540.out) hb); replace HB := Aside0.mk (below_step (upB HB.out) hb); (try clear hb; try clear hb2; try clear hk; try clear hi)) | ((with_reducible refine gate_callee (f := 14) rfl ?_); refine goesL_ (some 20) rfl rfl Try.func14 (by kernel_rfl) rfl #[] rfl upL ?_; (with_reducible refine (waveletlaw02_exampleHolds.calls k  t542 _ A65.out).mono ?_); rintro e w69 ⟨rfl, hb⟩; refine ⟨_, rfl, ?_⟩; replace BK540 := Aside0.mk (blk_below (g := gb540) (o := .cells #[.int .i64 a0_0, .int .i64 a0_1, .int .i64 a0_2, .int .i64 a0_3, .slice A0_4 l0_4.length c0_4] 26 (0, 0)) (upK BK540.out) hb); replace HB := Aside0.mk (below_step (upB HB.out) hb); (try clear hb; try clear hb2; try clear hk; try clear hi)))
  go_ret
  exact ⟨by first | rfl | (simp [errW_none, errW_some] <;> rfl) | (simp [*, errW_none, errW_some] <;> rfl), by repeat (first | (with_reducible first | exact HB.out | apply below_alloc | apply pw_below_drewN | apply below_drew1 | refine below_set ?_ GE540.out) | exact HB.out)⟩

end Go.Proofs.Ythemchggmlpdhaa.Q
