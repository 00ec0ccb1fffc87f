-- By a program of this session (wip/tools/mk.py), out of the kit's print of the translation; Lean checks it.
import Derived.Test.YthemchggmlpdhaaUp2
import Derived.Test.YthemchggmlpdhaaUp
import Derived.Test.YthemchggmlpdhaaQ0
import Derived.Test.YthemchggmlpdhaaQ1
import Derived.Test.YthemchggmlpdhaaQ8
import Derived.Test.YthemchggmlpdhaaQ21
import Derived.Test.YthemchggmlpdhaaQ22
import Derived.Test.YthemchggmlpdhaaQ25
import Derived.Test.YthemchggmlpdhaaQ47
namespace Go.Proofs.Ythemchggmlpdhaa.Q
open Go.RowKit Go.Proofs.YthemchggmlpdhaaW.PrintWords Go.Proofs.YthemchggmlpdhaaW.PrintLast Go.Proofs.YthemchggmlpdhaaW.PrintMore
attribute [local go_sem] max2_int min2_int max_two min_two max_three min_three max_four min_four   -- for this text's walks alone
set_option linter.unusedVariables false
set_option linter.unusedSimpArgs false

attribute [local go_sem high] eqA23
/-! ### waveletlaw02_PlaneLimited: function 11 -/
mutual
def waveletlaw02_PlaneLimited.j0 : Nat → Int → Int → Bool → Int → Int → Int → Int → List Int → Option (Bool)
 | 0, _, _, _, _, _, _, _, _ => none
 | k + 1, x1, x2, x28, x606000, x606001, x606002, x606003, x606004 => if x28 = true then ((waveletlaw02_exampleHolds.f k).bind fun t607 => (some t607)) else ((plane_Clip.f k x606000 x606001 x606002 x606003 x606004 x1 x2).bind fun bt608 => ((plane_Clip.f k bt608.1 bt608.2.1 bt608.2.2.1 bt608.2.2.2.1 bt608.2.2.2.2.1 x1 x2).bind fun bt617 => (if bt608.2.2.2.2.2 = 0 then (if bt617.2.2.2.2.2 = 0 then ((waveletref02_Same.f k bt608.1 bt608.2.1 bt608.2.2.1 bt608.2.2.2.1 bt608.2.2.2.2.1 bt617.1 bt617.2.1 bt617.2.2.1 bt617.2.2.2.1 bt617.2.2.2.2.1).bind fun t626 => (if t626 = true then (if (!(bt608.1 == x606000) || (!(bt608.2.1 == x606001) || (!(bt608.2.2.1 == x606002) || (!(bt608.2.2.2.1 == x606003))))) = true then (waveletlaw02_PlaneLimited.j1 k x1 x2 true x606000 x606001 x606002 x606003 x606004 bt608.1 bt608.2.1 bt608.2.2.1 bt608.2.2.2.1 bt608.2.2.2.2.1) else (waveletlaw02_PlaneLimited.j1 k x1 x2 ((bt608.2.2.2.2.1.length : Int) != (x606004.length : Int)) x606000 x606001 x606002 x606003 x606004 bt608.1 bt608.2.1 bt608.2.2.1 bt608.2.2.2.1 bt608.2.2.2.2.1)) else (waveletlaw02_PlaneLimited.j1 k x1 x2 true x606000 x606001 x606002 x606003 x606004 bt608.1 bt608.2.1 bt608.2.2.1 bt608.2.2.2.1 bt608.2.2.2.2.1))) else (waveletlaw02_PlaneLimited.j1 k x1 x2 true x606000 x606001 x606002 x606003 x606004 bt608.1 bt608.2.1 bt608.2.2.1 bt608.2.2.2.1 bt608.2.2.2.2.1)) else (waveletlaw02_PlaneLimited.j1 k x1 x2 true x606000 x606001 x606002 x606003 x606004 bt608.1 bt608.2.1 bt608.2.2.1 bt608.2.2.2.1 bt608.2.2.2.2.1))))
def waveletlaw02_PlaneLimited.j1 : Nat → Int → Int → Bool → Int → Int → Int → Int → List Int → Int → Int → Int → Int → List Int → Option (Bool)
 | 0, _, _, _, _, _, _, _, _, _, _, _, _, _ => none
 | k + 1, x1, x2, x71, x606000, x606001, x606002, x606003, x606004, x617000, x617001, x617002, x617003, x617004 => if x71 = true then (some false) else (waveletlaw02_PlaneLimited.l0 k x1 x2 0 x606000 x606001 x606002 x606003 x606004 x617000 x617001 x617002 x617003 x617004)
def waveletlaw02_PlaneLimited.l0 : Nat → Int → Int → Int → Int → Int → Int → Int → List Int → Int → Int → Int → Int → List Int → Option (Bool)
 | 0, _, _, _, _, _, _, _, _, _, _, _, _, _ => none
 | k + 1, x1, x2, x11, x606000, x606001, x606002, x606003, x606004, x617000, x617001, x617002, x617003, x617004 => if x11 < (x617004.length : Int) then (if 0 ≤ x11 then (if x11 < (x606004.length : Int) then (if (rd x617004 x11) < x1 then (some false) else (if (rd x617004 x11) > x2 then (some false) else (if x1 ≤ (rd x606004 x11) then (if (rd x606004 x11) ≤ x2 then (if (rd x617004 x11) = (rd x606004 x11) then (if (rd x606004 x11) < x1 then (if (rd x617004 x11) = x1 then (if (rd x606004 x11) > x2 then (if (rd x617004 x11) = x2 then (waveletlaw02_PlaneLimited.l0 k x1 x2 (wrap64 (x11 + 1)) x606000 x606001 x606002 x606003 x606004 x617000 x617001 x617002 x617003 x617004) else (some false)) else (waveletlaw02_PlaneLimited.l0 k x1 x2 (wrap64 (x11 + 1)) x606000 x606001 x606002 x606003 x606004 x617000 x617001 x617002 x617003 x617004)) else (some false)) else (if (rd x606004 x11) > x2 then (if (rd x617004 x11) = x2 then (waveletlaw02_PlaneLimited.l0 k x1 x2 (wrap64 (x11 + 1)) x606000 x606001 x606002 x606003 x606004 x617000 x617001 x617002 x617003 x617004) else (some false)) else (waveletlaw02_PlaneLimited.l0 k x1 x2 (wrap64 (x11 + 1)) x606000 x606001 x606002 x606003 x606004 x617000 x617001 x617002 x617003 x617004))) else (some false)) else (if (rd x606004 x11) < x1 then (if (rd x617004 x11) = x1 then (if (rd x606004 x11) > x2 then (if (rd x617004 x11) = x2 then (waveletlaw02_PlaneLimited.l0 k x1 x2 (wrap64 (x11 + 1)) x606000 x606001 x606002 x606003 x606004 x617000 x617001 x617002 x617003 x617004) else (some false)) else (waveletlaw02_PlaneLimited.l0 k x1 x2 (wrap64 (x11 + 1)) x606000 x606001 x606002 x606003 x606004 x617000 x617001 x617002 x617003 x617004)) else (some false)) else (if (rd x606004 x11) > x2 then (if (rd x617004 x11) = x2 then (waveletlaw02_PlaneLimited.l0 k x1 x2 (wrap64 (x11 + 1)) x606000 x606001 x606002 x606003 x606004 x617000 x617001 x617002 x617003 x617004) else (some false)) else (waveletlaw02_PlaneLimited.l0 k x1 x2 (wrap64 (x11 + 1)) x606000 x606001 x606002 x606003 x606004 x617000 x617001 x617002 x617003 x617004)))) else (if (rd x606004 x11) < x1 then (if (rd x617004 x11) = x1 then (if (rd x606004 x11) > x2 then (if (rd x617004 x11) = x2 then (waveletlaw02_PlaneLimited.l0 k x1 x2 (wrap64 (x11 + 1)) x606000 x606001 x606002 x606003 x606004 x617000 x617001 x617002 x617003 x617004) else (some false)) else (waveletlaw02_PlaneLimited.l0 k x1 x2 (wrap64 (x11 + 1)) x606000 x606001 x606002 x606003 x606004 x617000 x617001 x617002 x617003 x617004)) else (some false)) else (if (rd x606004 x11) > x2 then (if (rd x617004 x11) = x2 then (waveletlaw02_PlaneLimited.l0 k x1 x2 (wrap64 (x11 + 1)) x606000 x606001 x606002 x606003 x606004 x617000 x617001 x617002 x617003 x617004) else (some false)) else (waveletlaw02_PlaneLimited.l0 k x1 x2 (wrap64 (x11 + 1)) x606000 x606001 x606002 x606003 x606004 x617000 x617001 x617002 x617003 x617004)))))) else (none)) else (none)) else ((plane_Limits.f k x606000 x606001 x606002 x606003 x606004).bind fun bt640 => (if bt640.2.2 = true then ((plane_Clip.f k x606000 x606001 x606002 x606003 x606004 bt640.1 bt640.2.1).bind fun bt644 => ((plane_Limits.f k x617000 x617001 x617002 x617003 x617004).bind fun bt653 => (if bt644.2.2.2.2.2 = 0 then ((waveletref02_Same.f k bt644.1 bt644.2.1 bt644.2.2.1 bt644.2.2.2.1 bt644.2.2.2.2.1 x606000 x606001 x606002 x606003 x606004).bind fun t656 => (if t656 = true then (if bt653.2.2 = true then (if x1 ≤ bt653.1 then (if bt653.2.1 ≤ x2 then ((waveletlaw02_exampleHolds.f k).bind fun t657 => (some t657)) else (some false)) else (some false)) else (some false)) else (some false))) else (some false)))) else (if (x606004.length : Int) = 0 then ((waveletlaw02_exampleHolds.f k).bind fun t643 => (some t643)) else (some false))))
end
def waveletlaw02_PlaneLimited.f (k : Nat) (a0_0 : Int) (a0_1 : Int) (a0_2 : Int) (a0_3 : Int) (l0_4 : List Int) (a1 : Int) (a2 : Int) : Option (Bool) := (waveletref02_ValidSmall.f a0_0 a0_1 a0_2 a0_3 l0_4).bind fun t606 => (if t606 = true then (waveletlaw02_PlaneLimited.j0 k a1 a2 (decide (a1 > a2)) a0_0 a0_1 a0_2 a0_3 l0_4) else (waveletlaw02_PlaneLimited.j0 k a1 a2 true a0_0 a0_1 a0_2 a0_3 l0_4))
theorem waveletlaw02_PlaneLimited.mono_l : ∀ k, (∀ y0 y1 y2 y3 y4 y5 y6 y7, LeO (waveletlaw02_PlaneLimited.j0 k y0 y1 y2 y3 y4 y5 y6 y7) (waveletlaw02_PlaneLimited.j0 (k + 1) y0 y1 y2 y3 y4 y5 y6 y7)) ∧ (∀ y0 y1 y2 y3 y4 y5 y6 y7 y8 y9 y10 y11 y12, LeO (waveletlaw02_PlaneLimited.j1 k y0 y1 y2 y3 y4 y5 y6 y7 y8 y9 y10 y11 y12) (waveletlaw02_PlaneLimited.j1 (k + 1) y0 y1 y2 y3 y4 y5 y6 y7 y8 y9 y10 y11 y12)) ∧ (∀ y0 y1 y2 y3 y4 y5 y6 y7 y8 y9 y10 y11 y12, LeO (waveletlaw02_PlaneLimited.l0 k y0 y1 y2 y3 y4 y5 y6 y7 y8 y9 y10 y11 y12) (waveletlaw02_PlaneLimited.l0 (k + 1) y0 y1 y2 y3 y4 y5 y6 y7 y8 y9 y10 y11 y12))
 | 0 => ⟨fun _ _ _ _ _ _ _ _ r h => by simp [waveletlaw02_PlaneLimited.j0] at h, fun _ _ _ _ _ _ _ _ _ _ _ _ _ r h => by simp [waveletlaw02_PlaneLimited.j1] at h, fun _ _ _ _ _ _ _ _ _ _ _ _ _ r h => by simp [waveletlaw02_PlaneLimited.l0] at h⟩
 | k + 1 => by
  obtain ⟨ih0, ih1, ih2⟩ := waveletlaw02_PlaneLimited.mono_l k
  refine ⟨?_, ?_, ?_⟩
  ·intro y0 y1 y2 y3 y4 y5 y6 y7
   unfold waveletlaw02_PlaneLimited.j0
   repeat' first
   | (with_reducible exact ih0 _ _ _ _ _ _ _ _)
   | (with_reducible exact ih1 _ _ _ _ _ _ _ _ _ _ _ _ _)
   | (with_reducible exact ih2 _ _ _ _ _ _ _ _ _ _ _ _ _)
   | (with_reducible exact plane_Clip.mono _ _ _ _ _ _ _ _)
   | (with_reducible exact plane_Limits.mono _ _ _ _ _ _)
   | (with_reducible exact waveletlaw02_exampleHolds.mono _)
   | (with_reducible exact waveletref02_Same.mono _ _ _ _ _ _ _ _ _ _ _)
   | (with_reducible exact LeO.refl _)
   | (with_reducible exact LeO.none _)
   | (with_reducible refine LeO.ite ?_ ?_)
   | (with_reducible refine LeO.bind ?_ (fun _ => ?_))
   | exact ih0 _ _ _ _ _ _ _ _
   | exact ih1 _ _ _ _ _ _ _ _ _ _ _ _ _
   | exact ih2 _ _ _ _ _ _ _ _ _ _ _ _ _
   | exact plane_Clip.mono _ _ _ _ _ _ _ _
   | exact plane_Limits.mono _ _ _ _ _ _
   | exact waveletlaw02_exampleHolds.mono _
   | exact waveletref02_Same.mono _ _ _ _ _ _ _ _ _ _ _
   | exact LeO.none _
   | refine LeO.ite ?_ ?_
   | refine LeO.bind ?_ (fun _ => ?_)
  ·intro y0 y1 y2 y3 y4 y5 y6 y7 y8 y9 y10 y11 y12
   unfold waveletlaw02_PlaneLimited.j1
   repeat' first
   | (with_reducible exact ih0 _ _ _ _ _ _ _ _)
   | (with_reducible exact ih1 _ _ _ _ _ _ _ _ _ _ _ _ _)
   | (with_reducible exact ih2 _ _ _ _ _ _ _ _ _ _ _ _ _)
   | (with_reducible exact plane_Clip.mono _ _ _ _ _ _ _ _)
   | (with_reducible exact plane_Limits.mono _ _ _ _ _ _)
   | (with_reducible exact waveletlaw02_exampleHolds.mono _)
   | (with_reducible exact waveletref02_Same.mono _ _ _ _ _ _ _ _ _ _ _)
   | (with_reducible exact LeO.refl _)
   | (with_reducible exact LeO.none _)
   | (with_reducible refine LeO.ite ?_ ?_)
   | (with_reducible refine LeO.bind ?_ (fun _ => ?_))
   | exact ih0 _ _ _ _ _ _ _ _
   | exact ih1 _ _ _ _ _ _ _ _ _ _ _ _ _
   | exact ih2 _ _ _ _ _ _ _ _ _ _ _ _ _
   | exact plane_Clip.mono _ _ _ _ _ _ _ _
   | exact plane_Limits.mono _ _ _ _ _ _
   | exact waveletlaw02_exampleHolds.mono _
   | exact waveletref02_Same.mono _ _ _ _ _ _ _ _ _ _ _
   | exact LeO.none _
   | refine LeO.ite ?_ ?_
   | refine LeO.bind ?_ (fun _ => ?_)
  ·intro y0 y1 y2 y3 y4 y5 y6 y7 y8 y9 y10 y11 y12
   unfold waveletlaw02_PlaneLimited.l0
   repeat' first
   | (with_reducible exact ih0 _ _ _ _ _ _ _ _)
   | (with_reducible exact ih1 _ _ _ _ _ _ _ _ _ _ _ _ _)
   | (with_reducible exact ih2 _ _ _ _ _ _ _ _ _ _ _ _ _)
   | (with_reducible exact plane_Clip.mono _ _ _ _ _ _ _ _)
   | (with_reducible exact plane_Limits.mono _ _ _ _ _ _)
   | (with_reducible exact waveletlaw02_exampleHolds.mono _)
   | (with_reducible exact waveletref02_Same.mono _ _ _ _ _ _ _ _ _ _ _)
   | (with_reducible exact LeO.refl _)
   | (with_reducible exact LeO.none _)
   | (with_reducible refine LeO.ite ?_ ?_)
   | (with_reducible refine LeO.bind ?_ (fun _ => ?_))
   | exact ih0 _ _ _ _ _ _ _ _
   | exact ih1 _ _ _ _ _ _ _ _ _ _ _ _ _
   | exact ih2 _ _ _ _ _ _ _ _ _ _ _ _ _
   | exact plane_Clip.mono _ _ _ _ _ _ _ _
   | exact plane_Limits.mono _ _ _ _ _ _
   | exact waveletlaw02_exampleHolds.mono _
   | exact waveletref02_Same.mono _ _ _ _ _ _ _ _ _ _ _
   | exact LeO.none _
   | refine LeO.ite ?_ ?_
   | refine LeO.bind ?_ (fun _ => ?_)
theorem waveletlaw02_PlaneLimited.mono : ∀ a0 a1 a2 a3 a4 a5 a6 k, LeO (waveletlaw02_PlaneLimited.f k a0 a1 a2 a3 a4 a5 a6) (waveletlaw02_PlaneLimited.f (k + 1) a0 a1 a2 a3 a4 a5 a6) := by
 intro a0 a1 a2 a3 a4 a5 a6 k
 obtain ⟨ih0, ih1, ih2⟩ := waveletlaw02_PlaneLimited.mono_l k
 unfold waveletlaw02_PlaneLimited.f
 repeat' first
   | (with_reducible exact ih0 _ _ _ _ _ _ _ _)
   | (with_reducible exact ih1 _ _ _ _ _ _ _ _ _ _ _ _ _)
   | (with_reducible exact ih2 _ _ _ _ _ _ _ _ _ _ _ _ _)
   | (with_reducible exact plane_Clip.mono _ _ _ _ _ _ _ _)
   | (with_reducible exact plane_Limits.mono _ _ _ _ _ _)
   | (with_reducible exact waveletlaw02_exampleHolds.mono _)
   | (with_reducible exact waveletref02_Same.mono _ _ _ _ _ _ _ _ _ _ _)
   | (with_reducible exact LeO.refl _)
   | (with_reducible exact LeO.none _)
   | (with_reducible refine LeO.ite ?_ ?_)
   | (with_reducible refine LeO.bind ?_ (fun _ => ?_))
   | exact ih0 _ _ _ _ _ _ _ _
   | exact ih1 _ _ _ _ _ _ _ _ _ _ _ _ _
   | exact ih2 _ _ _ _ _ _ _ _ _ _ _ _ _
   | exact plane_Clip.mono _ _ _ _ _ _ _ _
   | exact plane_Limits.mono _ _ _ _ _ _
   | exact waveletlaw02_exampleHolds.mono _
   | exact waveletref02_Same.mono _ _ _ _ _ _ _ _ _ _ _
   | exact LeO.none _
   | refine LeO.ite ?_ ?_
   | refine LeO.bind ?_ (fun _ => ?_)
set_option maxHeartbeats 8000000 in
set_option maxRecDepth 100000 in
theorem waveletlaw02_PlaneLimited.calls (k : Nat) (a0_0 : Int) (a0_1 : Int) (a0_2 : Int) (a0_3 : Int) (A0_4 : Option Addr) (c0_4 : Nat) (l0_4 : List Int) (a1 : Int) (a2 : Int) (r : Bool) (hr_ : r = true) (w : World) (hr0_4 : Kd.C (Kd.int .i64) w A0_4 l0_4.length l0_4) (hc0_4 : l0_4.length ≤ c0_4) (h : waveletlaw02_PlaneLimited.f k a0_0 a0_1 a0_2 a0_3 l0_4 a1 a2 = some r) :
  Calls Try.prog 11 #[.agg #[.int .i64 a0_0, .int .i64 a0_1, .int .i64 a0_2, .int .i64 a0_3, .slice A0_4 l0_4.length c0_4], .int .i64 a1, .int .i64 a2] w fun e w' => e = .returned (.bool r) ∧ Below w.heap.size w w' := by
 have hu26 := Try.underlying26
 have hu23 := Try.underlying23
 have HR0_4 := Aside0.mk hr0_4
 have HC0_4 := Aside0.mk hc0_4
 clear hr0_4 hc0_4
 have HB := Aside0.mk (Below.refl w.heap.size w)
 have H : ((waveletref02_ValidSmall.f a0_0 a0_1 a0_2 a0_3 l0_4).bind fun t606 => (if t606 = true then (waveletlaw02_PlaneLimited.j0 k a1 a2 (decide (a1 > a2)) a0_0 a0_1 a0_2 a0_3 l0_4) else (waveletlaw02_PlaneLimited.j0 k a1 a2 true a0_0 a0_1 a0_2 a0_3 l0_4))) = some r := h
 clear h
 have HC4 := Aside0.mk H
 clear H
 go_enter Try.func11, Try.ntmps11
 go_upto_region 1 with (first | ((with_reducible refine gate_dst (N := 3) rfl ?_); (try (refine gate_guard (by rfl) ?_; dsimp only)); refine box_event ?hg (N := 3) ?hd (cs := #[.int .i64 a0_0, .int .i64 a0_1, .int .i64 a0_2, .int .i64 a0_3, .slice A0_4 l0_4.length c0_4]) (t := 26) ?hr ?_; (case hd => rfl); (case hg => rfl); (case hr => first | (go_simp; done) | (go_simp; rfl)); intro gb605 hg w5 hbox hb; have BK605 := Aside0.mk (hbox); have GW605 := Aside0.mk ((by rw [hg]; exact (below_size (upB HB.out)) : w.heap.size ≤ gb605)); have GE605 := Aside0.mk ((by rw [hg]; exact (below_size (upB HB.out)) : w.heap.size ≤ gb605)); replace HB := Aside0.mk (below_step (upB HB.out) hb); clear hb hbox hg))
 (try simp only [Act.put, List.setIfInBounds_toArray, List.set_cons_zero, List.set_cons_succ])
 go_cut [28] (fun v28 wc => ∃ (kq : Nat) (x28_3 : Bool), v28 = .bool x28_3 ∧ Aside0 (waveletlaw02_PlaneLimited.j0 kq a1 a2 x28_3 a0_0 a0_1 a0_2 a0_3 l0_4 = some r) ∧ Aside0 (kq ≤ k) ∧ Aside0 (wc.heap[gb605]? = some (.cells #[.int .i64 a0_0, .int .i64 a0_1, .int .i64 a0_2, .int .i64 a0_3, (.slice A0_4 l0_4.length c0_4)] 26 (0, 0))) ∧ Aside0 (Below w.heap.size w wc))
 case first =>
  have H := HC4.out
  clear HC4
  replace H := Option.bind_eq_some_iff.mp H
  obtain ⟨t606, A60, H⟩ := H
  replace H : (if t606 = true then (waveletlaw02_PlaneLimited.j0 k a1 a2 (decide (a1 > a2)) a0_0 a0_1 a0_2 a0_3 l0_4) else (waveletlaw02_PlaneLimited.j0 k a1 a2 true a0_0 a0_1 a0_2 a0_3 l0_4)) = some r := H
  have A6 := Aside0.mk A60
  clear A60
  by_cases c7 : t606 = true
  ·subst c7
   rw [if_pos rfl] at H
   have H' := Aside0.mk H
   clear H
   have hcz8_0 : w5.cell? ⟨gb605, 0, none⟩ = some (.int .i64 a0_0) := bc BK605 0
   have hcz8_1 : w5.cell? ⟨gb605, 1, none⟩ = some (.int .i64 a0_1) := bc BK605 1
   have hcz8_2 : w5.cell? ⟨gb605, 2, none⟩ = some (.int .i64 a0_2) := bc BK605 2
   have hcz8_3 : w5.cell? ⟨gb605, 3, none⟩ = some (.int .i64 a0_3) := bc BK605 3
   have hcz8_4 : w5.cell? ⟨gb605, 4, none⟩ = some (.slice A0_4 l0_4.length c0_4) := bc BK605 4
   have hfz8_0 := blk_frozen BK605.out 0
   have hfz8_1 := blk_frozen BK605.out 1
   have hfz8_2 := blk_frozen BK605.out 2
   have hfz8_3 := blk_frozen BK605.out 3
   have hfz8_4 := blk_frozen BK605.out 4
   go_wp2_with (first | ((with_reducible refine gate_callee (f := 36) rfl ?_); refine goesL_ (some 22) rfl rfl Try.func36 (by kernel_rfl) rfl #[.agg #[.int .i64 a0_0, .int .i64 a0_1, .int .i64 a0_2, .int .i64 a0_3, .slice A0_4 l0_4.length c0_4]] rfl upL ?_; (with_reducible refine (waveletref02_ValidSmall.calls a0_0 a0_1 a0_2 a0_3 _ _ l0_4 true _ ?side1 ?side2 A6.out).mono ?_); (case side1 => repeat (first | exact (Kd.C_below HR0_4.out HB.out) | (with_reducible refine Kd.C_alloc ?_ _) | (with_reducible refine Kd.C_drewN ?_ _) | (with_reducible refine Kd.C_drew ?_))); (case side2 => exact HC0_4.out); rintro e w9 ⟨rfl, hb⟩; refine ⟨_, rfl, ?_⟩; replace BK605 := Aside0.mk (blk_below (g := gb605) (o := .cells #[.int .i64 a0_0, .int .i64 a0_1, .int .i64 a0_2, .int .i64 a0_3, .slice A0_4 l0_4.length c0_4] 26 (0, 0)) (upK BK605.out) hb); replace HB := Aside0.mk (below_step (upB HB.out) hb); (try clear hb; try clear hb2; try clear hk; try clear hi)))
   go_meet
   case rel => exact ⟨_, (decide (a1 > a2)), (by first | rfl | (simp; done) | (simp [*]; done)), H', ⟨by first | omega | exact Nat.le_refl _⟩, ⟨by (with_reducible repeat (first | refine blk_drewN ?_ _ | refine blk_drew ?_ | refine blk_alloc ?_ _)); exact BK605.out⟩, ⟨by repeat (first | (with_reducible first | exact HB.out | apply below_alloc | apply pw_below_drewN | apply below_drew1 | refine below_set ?_ GE605.out) | exact HB.out)⟩⟩
  ·replace c7 := Bool.eq_false_iff.mpr c7
   subst c7
   rw [if_neg (show ¬ (false = true) by decide)] at H
   have H' := Aside0.mk H
   clear H
   have hcz10_0 : w5.cell? ⟨gb605, 0, none⟩ = some (.int .i64 a0_0) := bc BK605 0
   have hcz10_1 : w5.cell? ⟨gb605, 1, none⟩ = some (.int .i64 a0_1) := bc BK605 1
   have hcz10_2 : w5.cell? ⟨gb605, 2, none⟩ = some (.int .i64 a0_2) := bc BK605 2
   have hcz10_3 : w5.cell? ⟨gb605, 3, none⟩ = some (.int .i64 a0_3) := bc BK605 3
   have hcz10_4 : w5.cell? ⟨gb605, 4, none⟩ = some (.slice A0_4 l0_4.length c0_4) := bc BK605 4
   have hfz10_0 := blk_frozen BK605.out 0
   have hfz10_1 := blk_frozen BK605.out 1
   have hfz10_2 := blk_frozen BK605.out 2
   have hfz10_3 := blk_frozen BK605.out 3
   have hfz10_4 := blk_frozen BK605.out 4
   go_wp2_with (first | ((with_reducible refine gate_callee (f := 36) rfl ?_); refine goesL_ (some 22) rfl rfl Try.func36 (by kernel_rfl) rfl #[.agg #[.int .i64 a0_0, .int .i64 a0_1, .int .i64 a0_2, .int .i64 a0_3, .slice A0_4 l0_4.length c0_4]] rfl upL ?_; (with_reducible refine (waveletref02_ValidSmall.calls a0_0 a0_1 a0_2 a0_3 _ _ l0_4 false _ ?side1 ?side2 A6.out).mono ?_); (case side1 => repeat (first | exact (Kd.C_below HR0_4.out HB.out) | (with_reducible refine Kd.C_alloc ?_ _) | (with_reducible refine Kd.C_drewN ?_ _) | (with_reducible refine Kd.C_drew ?_))); (case side2 => exact HC0_4.out); rintro e w11 ⟨rfl, hb⟩; refine ⟨_, rfl, ?_⟩; replace BK605 := Aside0.mk (blk_below (g := gb605) (o := .cells #[.int .i64 a0_0, .int .i64 a0_1, .int .i64 a0_2, .int .i64 a0_3, .slice A0_4 l0_4.length c0_4] 26 (0, 0)) (upK BK605.out) hb); replace HB := Aside0.mk (below_step (upB HB.out) hb); (try clear hb; try clear hb2; try clear hk; try clear hi)))
   go_meet
   case rel => exact ⟨_, (true), (by first | rfl | (simp; done) | (simp [*]; done)), H', ⟨by first | omega | exact Nat.le_refl _⟩, ⟨by (with_reducible repeat (first | refine blk_drewN ?_ _ | refine blk_drew ?_ | refine blk_alloc ?_ _)); exact BK605.out⟩, ⟨by repeat (first | (with_reducible first | exact HB.out | apply below_alloc | apply pw_below_drewN | apply below_drew1 | refine below_set ?_ GE605.out) | exact HB.out)⟩⟩
 case rest =>
  clear HC4
  try clear c1; try clear p2; try clear c3; try clear c7; try clear c11; try clear hcz10_0; try clear hcz10_1; try clear hcz10_2; try clear hcz10_3; try clear hcz10_4; try clear hcz8_0; try clear hcz8_1; try clear hcz8_2; try clear hcz8_3; try clear hcz8_4; try clear hfz10_0; try clear hfz10_1; try clear hfz10_2; try clear hfz10_3; try clear hfz10_4; try clear hfz8_0; try clear hfz8_1; try clear hfz8_2; try clear hfz8_3; try clear hfz8_4
  obtain ⟨kq, x28_3, rfl, HA, HJ3, BK605, HB⟩ := hcut
  cases kq with
  | zero => exact absurd HA.out (by simp [waveletlaw02_PlaneLimited.j0])
  | succ kj3 =>
   have H := HA.out
   clear HA
   simp only [waveletlaw02_PlaneLimited.j0] at H
   by_cases c12 : x28_3 = true
   ·subst c12
    rw [if_pos rfl] at H
    replace H := Option.bind_eq_some_iff.mp H
    obtain ⟨t607, A130, H⟩ := H
    replace H : (some t607) = some r := H
    have A13 := Aside0.mk A130
    clear A130
    obtain rfl := Option.some.inj H
    go_wp2_with (first | ((with_reducible refine gate_callee (f := 14) rfl ?_); refine goesL_ (some 29) rfl rfl Try.func14 (by kernel_rfl) rfl #[] rfl upL ?_; (with_reducible refine (waveletlaw02_exampleHolds.calls kj3  t607 _ A13.out).mono ?_); rintro e w14 ⟨rfl, hb⟩; refine ⟨_, rfl, ?_⟩; replace BK605 := Aside0.mk (blk_below (g := gb605) (o := .cells #[.int .i64 a0_0, .int .i64 a0_1, .int .i64 a0_2, .int .i64 a0_3, .slice A0_4 l0_4.length c0_4] 26 (0, 0)) (upK BK605.out) hb); replace HB := Aside0.mk (below_step (upB HB.out) hb); (try clear hb; try clear hb2; try clear hk; try clear hi)))
    go_ret
    exact ⟨by first | rfl | (simp [errW_none, errW_some] <;> rfl) | (simp [*, errW_none, errW_some] <;> rfl), by repeat (first | (with_reducible first | exact HB.out | apply below_alloc | apply pw_below_drewN | apply below_drew1 | refine below_set ?_ GE605.out) | exact HB.out)⟩
   ·replace c12 := Bool.eq_false_iff.mpr c12
    subst c12
    rw [if_neg (show ¬ (false = true) by decide)] at H
    replace H := Option.bind_eq_some_iff.mp H
    obtain ⟨⟨t608, t609, t610, t611, t612, t615⟩, A150, H⟩ := H
    replace H : ((plane_Clip.f kj3 t608 t609 t610 t611 t612 a1 a2).bind fun bt617 => (if t615 = 0 then (if bt617.2.2.2.2.2 = 0 then ((waveletref02_Same.f kj3 t608 t609 t610 t611 t612 bt617.1 bt617.2.1 bt617.2.2.1 bt617.2.2.2.1 bt617.2.2.2.2.1).bind fun t626 => (if t626 = true then (if (!(t608 == a0_0) || (!(t609 == a0_1) || (!(t610 == a0_2) || (!(t611 == a0_3))))) = true then (waveletlaw02_PlaneLimited.j1 kj3 a1 a2 true a0_0 a0_1 a0_2 a0_3 l0_4 t608 t609 t610 t611 t612) else (waveletlaw02_PlaneLimited.j1 kj3 a1 a2 ((t612.length : Int) != (l0_4.length : Int)) a0_0 a0_1 a0_2 a0_3 l0_4 t608 t609 t610 t611 t612)) else (waveletlaw02_PlaneLimited.j1 kj3 a1 a2 true a0_0 a0_1 a0_2 a0_3 l0_4 t608 t609 t610 t611 t612))) else (waveletlaw02_PlaneLimited.j1 kj3 a1 a2 true a0_0 a0_1 a0_2 a0_3 l0_4 t608 t609 t610 t611 t612)) else (waveletlaw02_PlaneLimited.j1 kj3 a1 a2 true a0_0 a0_1 a0_2 a0_3 l0_4 t608 t609 t610 t611 t612))) = some r := H
    have A15 := Aside0.mk A150
    clear A150
    replace H := Option.bind_eq_some_iff.mp H
    obtain ⟨⟨t617, t618, t619, t620, t621, t624⟩, A160, H⟩ := H
    replace H : (if t615 = 0 then (if t624 = 0 then ((waveletref02_Same.f kj3 t608 t609 t610 t611 t612 t617 t618 t619 t620 t621).bind fun t626 => (if t626 = true then (if (!(t608 == a0_0) || (!(t609 == a0_1) || (!(t610 == a0_2) || (!(t611 == a0_3))))) = true then (waveletlaw02_PlaneLimited.j1 kj3 a1 a2 true a0_0 a0_1 a0_2 a0_3 l0_4 t608 t609 t610 t611 t612) else (waveletlaw02_PlaneLimited.j1 kj3 a1 a2 ((t612.length : Int) != (l0_4.length : Int)) a0_0 a0_1 a0_2 a0_3 l0_4 t608 t609 t610 t611 t612)) else (waveletlaw02_PlaneLimited.j1 kj3 a1 a2 true a0_0 a0_1 a0_2 a0_3 l0_4 t608 t609 t610 t611 t612))) else (waveletlaw02_PlaneLimited.j1 kj3 a1 a2 true a0_0 a0_1 a0_2 a0_3 l0_4 t608 t609 t610 t611 t612)) else (waveletlaw02_PlaneLimited.j1 kj3 a1 a2 true a0_0 a0_1 a0_2 a0_3 l0_4 t608 t609 t610 t611 t612)) = some r := H
    have A16 := Aside0.mk A160
    clear A160
    have HC17 := Aside0.mk H
    clear H
    have hcz18_0 : wc.cell? ⟨gb605, 0, none⟩ = some (.int .i64 a0_0) := bc BK605 0
    have hcz18_1 : wc.cell? ⟨gb605, 1, none⟩ = some (.int .i64 a0_1) := bc BK605 1
    have hcz18_2 : wc.cell? ⟨gb605, 2, none⟩ = some (.int .i64 a0_2) := bc BK605 2
    have hcz18_3 : wc.cell? ⟨gb605, 3, none⟩ = some (.int .i64 a0_3) := bc BK605 3
    have hcz18_4 : wc.cell? ⟨gb605, 4, none⟩ = some (.slice A0_4 l0_4.length c0_4) := bc BK605 4
    have hfz18_0 := blk_frozen BK605.out 0
    have hfz18_1 := blk_frozen BK605.out 1
    have hfz18_2 := blk_frozen BK605.out 2
    have hfz18_3 := blk_frozen BK605.out 3
    have hfz18_4 := blk_frozen BK605.out 4
    go_upto_region 5 with (first | ((with_reducible refine gate_callee (f := 31) rfl ?_); refine goesL_ (some 34) rfl rfl Try.func31 (by kernel_rfl) rfl #[.agg #[.int .i64 a0_0, .int .i64 a0_1, .int .i64 a0_2, .int .i64 a0_3, .slice A0_4 l0_4.length c0_4], .int .i64 a1, .int .i64 a2] rfl upL ?_; (with_reducible refine (plane_Clip.calls kj3 a0_0 a0_1 a0_2 a0_3 _ _ l0_4 a1 a2 t608 t609 t610 t611 t612 t615 _ ?side1 ?side2 A15.out).mono ?_); (case side1 => repeat (first | exact (Kd.C_below HR0_4.out HB.out) | (with_reducible refine Kd.C_alloc ?_ _) | (with_reducible refine Kd.C_drewN ?_ _) | (with_reducible refine Kd.C_drew ?_))); (case side2 => exact HC0_4.out); rintro e w19 ⟨v613, rfl, ho0, hb⟩; refine ⟨_, rfl, ?_⟩; have HO614 := Aside0.mk (Kd.R_lower ho0 (below_size (upB HB.out))); replace BK605 := Aside0.mk (blk_below (g := gb605) (o := .cells #[.int .i64 a0_0, .int .i64 a0_1, .int .i64 a0_2, .int .i64 a0_3, .slice A0_4 l0_4.length c0_4] 26 (0, 0)) (upK BK605.out) hb); replace HB := Aside0.mk (below_step (upB HB.out) hb); (try clear hb; try clear hb2; try clear hk; try clear hi; try clear ho0)) | ((with_reducible refine gate_dst (N := 7) rfl ?_); (try (refine gate_guard (by rfl) ?_; dsimp only)); refine box_event ?hg (N := 7) ?hd (cs := #[.int .i64 0, .int .i64 0, .int .i64 0, .int .i64 0, .slice none 0 0]) (t := 26) ?hr ?_; (case hd => rfl); (case hg => rfl); (case hr => first | (go_simp; done) | (go_simp; rfl)); intro gb616 hg w20 hbox hb; replace HO614 := Aside0.mk (Kd.R_below (upR HO614.out) hb); have BK616 := Aside0.mk (hbox); have GW616 := Aside0.mk ((by rw [hg]; exact (below_size (upB HB.out)) : w.heap.size ≤ gb616)); have GE616 := Aside0.mk ((by rw [hg]; exact (below_size (upB HB.out)) : w.heap.size ≤ gb616)); replace HB := Aside0.mk (below_step (upB HB.out) hb); have NB605_616 := Aside0.mk ((by rw [hg]; exact Nat.ne_of_lt (blk_lt (g := gb605) (o := .cells #[.int .i64 a0_0, .int .i64 a0_1, .int .i64 a0_2, .int .i64 a0_3, .slice A0_4 l0_4.length c0_4] 26 (0, 0)) (upK BK605.out)) : gb605 ≠ gb616)); have NB616_605 := Aside0.mk ((by rw [hg]; exact Nat.ne_of_gt (blk_lt (g := gb605) (o := .cells #[.int .i64 a0_0, .int .i64 a0_1, .int .i64 a0_2, .int .i64 a0_3, .slice A0_4 l0_4.length c0_4] 26 (0, 0)) (upK BK605.out)) : gb616 ≠ gb605)); replace BK605 := Aside0.mk (blk_below (g := gb605) (o := .cells #[.int .i64 a0_0, .int .i64 a0_1, .int .i64 a0_2, .int .i64 a0_3, .slice A0_4 l0_4.length c0_4] 26 (0, 0)) (upK BK605.out) hb); clear hb hbox hg; have hnb21 := NB616_605.out; have hnc21 := NB605_616.out; have hcz22_0 : w20.cell? ⟨gb616, 0, none⟩ = some (.int .i64 0) := bc BK616 0; have hcz22_1 : w20.cell? ⟨gb616, 1, none⟩ = some (.int .i64 0) := bc BK616 1; have hcz22_2 : w20.cell? ⟨gb616, 2, none⟩ = some (.int .i64 0) := bc BK616 2; have hcz22_3 : w20.cell? ⟨gb616, 3, none⟩ = some (.int .i64 0) := bc BK616 3; have hcz22_4 : w20.cell? ⟨gb616, 4, none⟩ = some (.slice none 0 0) := bc BK616 4; have hfz22_0 := blk_frozen BK616.out 0; have hfz22_1 := blk_frozen BK616.out 1; have hfz22_2 := blk_frozen BK616.out 2; have hfz22_3 := blk_frozen BK616.out 3; have hfz22_4 := blk_frozen BK616.out 4; obtain ⟨Ao23, co23, eo23⟩ := Kd.R_slice HO614.out; subst eo23) | ((with_reducible refine gate_callee (f := 31) rfl ?_); refine goesL_ (some 41) rfl rfl Try.func31 (by kernel_rfl) rfl #[.agg #[.int .i64 t608, .int .i64 t609, .int .i64 t610, .int .i64 t611, .slice Ao23 t612.length co23], .int .i64 a1, .int .i64 a2] rfl upL ?_; (with_reducible refine (plane_Clip.calls kj3 t608 t609 t610 t611 _ _ t612 a1 a2 t617 t618 t619 t620 t621 t624 _ ?side1 ?side2 A16.out).mono ?_); (case side1 => refine (Kd.R_reads' (e := 3) (base := w.heap.size) (ok := fun k_ => True) (n := t612.length) (c := co23) ?_).2.2; exact (by (with_reducible repeat (first | apply Kd.R_alloc | apply Kd.R_drewN | apply Kd.R_drew)); exact (Kd.R_mono (Kd.R_far (p := ⟨gb616, 4, none⟩) (Kd.R_far (p := ⟨gb616, 3, none⟩) (Kd.R_far (p := ⟨gb616, 2, none⟩) (Kd.R_far (p := ⟨gb616, 1, none⟩) (Kd.R_far (p := ⟨gb616, 0, none⟩) (Kd.R_types HO614.out BK616.out (by decide)) (fun _ hk => hk.2) (.int .i64 t608)) (fun _ hk => hk.2) (.int .i64 t609)) (fun _ hk => hk.2) (.int .i64 t610)) (fun _ hk => hk.2) (.int .i64 t611)) (fun _ hk => hk.2) (.slice Ao23 t612.length co23)) (fun _ h_ => h_.1)))); (case side2 => exact (Kd.R_reads' HO614.out).2.1); rintro e w24 ⟨v622, rfl, ho0, hb⟩; refine ⟨_, rfl, ?_⟩; have HO623 := Aside0.mk (Kd.R_lower (Kd.R_new' ho0 (Kd.R_lt (by (with_reducible repeat (first | apply Kd.R_alloc | apply Kd.R_drewN | apply Kd.R_drew)); exact (Kd.R_mono (Kd.R_far (p := ⟨gb616, 4, none⟩) (Kd.R_far (p := ⟨gb616, 3, none⟩) (Kd.R_far (p := ⟨gb616, 2, none⟩) (Kd.R_far (p := ⟨gb616, 1, none⟩) (Kd.R_far (p := ⟨gb616, 0, none⟩) (Kd.R_types HO614.out BK616.out (by decide)) (fun _ hk => hk.2) (.int .i64 t608)) (fun _ hk => hk.2) (.int .i64 t609)) (fun _ hk => hk.2) (.int .i64 t610)) (fun _ hk => hk.2) (.int .i64 t611)) (fun _ hk => hk.2) (.slice Ao23 t612.length co23)) (fun _ h_ => h_.1))))) (below_size (upB HB.out))); replace HO614 := Aside0.mk (Kd.R_elder' (by (with_reducible repeat (first | apply Kd.R_alloc | apply Kd.R_drewN | apply Kd.R_drew)); exact (Kd.R_mono (Kd.R_far (p := ⟨gb616, 4, none⟩) (Kd.R_far (p := ⟨gb616, 3, none⟩) (Kd.R_far (p := ⟨gb616, 2, none⟩) (Kd.R_far (p := ⟨gb616, 1, none⟩) (Kd.R_far (p := ⟨gb616, 0, none⟩) (Kd.R_types HO614.out BK616.out (by decide)) (fun _ hk => hk.2) (.int .i64 t608)) (fun _ hk => hk.2) (.int .i64 t609)) (fun _ hk => hk.2) (.int .i64 t610)) (fun _ hk => hk.2) (.int .i64 t611)) (fun _ hk => hk.2) (.slice Ao23 t612.length co23)) (fun _ h_ => h_.1))) (Kd.R_base ho0) hb); replace BK605 := Aside0.mk (blk_below (g := gb605) (o := .cells #[.int .i64 a0_0, .int .i64 a0_1, .int .i64 a0_2, .int .i64 a0_3, .slice A0_4 l0_4.length c0_4] 26 (0, 0)) (by (with_reducible repeat (first | refine blk_drewN ?_ _ | refine blk_drew ?_ | refine blk_alloc ?_ _)); refine blk_far ?_ NB605_616.out _; (with_reducible repeat (first | refine blk_drewN ?_ _ | refine blk_drew ?_ | refine blk_alloc ?_ _)); refine blk_far ?_ NB605_616.out _; (with_reducible repeat (first | refine blk_drewN ?_ _ | refine blk_drew ?_ | refine blk_alloc ?_ _)); refine blk_far ?_ NB605_616.out _; (with_reducible repeat (first | refine blk_drewN ?_ _ | refine blk_drew ?_ | refine blk_alloc ?_ _)); refine blk_far ?_ NB605_616.out _; (with_reducible repeat (first | refine blk_drewN ?_ _ | refine blk_drew ?_ | refine blk_alloc ?_ _)); refine blk_far ?_ NB605_616.out _; (with_reducible repeat (first | refine blk_drewN ?_ _ | refine blk_drew ?_ | refine blk_alloc ?_ _)); exact BK605.out) hb); replace BK616 := Aside0.mk (blk_below (g := gb616) (o := .cells #[.int .i64 t608, .int .i64 t609, .int .i64 t610, .int .i64 t611, .slice Ao23 t612.length co23] 26 (0, 0)) (by (with_reducible repeat (first | refine blk_drewN ?_ _ | refine blk_drew ?_ | refine blk_alloc ?_ _)); refine blk_put (cs := #[.int .i64 t608, .int .i64 t609, .int .i64 t610, .int .i64 t611, .slice none 0 0]) ?_ 4 _ rfl; (with_reducible repeat (first | refine blk_drewN ?_ _ | refine blk_drew ?_ | refine blk_alloc ?_ _)); refine blk_put (cs := #[.int .i64 t608, .int .i64 t609, .int .i64 t610, .int .i64 0, .slice none 0 0]) ?_ 3 _ rfl; (with_reducible repeat (first | refine blk_drewN ?_ _ | refine blk_drew ?_ | refine blk_alloc ?_ _)); refine blk_put (cs := #[.int .i64 t608, .int .i64 t609, .int .i64 0, .int .i64 0, .slice none 0 0]) ?_ 2 _ rfl; (with_reducible repeat (first | refine blk_drewN ?_ _ | refine blk_drew ?_ | refine blk_alloc ?_ _)); refine blk_put (cs := #[.int .i64 t608, .int .i64 0, .int .i64 0, .int .i64 0, .slice none 0 0]) ?_ 1 _ rfl; (with_reducible repeat (first | refine blk_drewN ?_ _ | refine blk_drew ?_ | refine blk_alloc ?_ _)); refine blk_put (cs := #[.int .i64 0, .int .i64 0, .int .i64 0, .int .i64 0, .slice none 0 0]) ?_ 0 _ rfl; (with_reducible repeat (first | refine blk_drewN ?_ _ | refine blk_drew ?_ | refine blk_alloc ?_ _)); exact BK616.out) hb); replace HB := Aside0.mk (below_step (upB HB.out) hb); (try clear hb; try clear hb2; try clear hk; try clear hi; try clear ho0)) | ((with_reducible refine gate_dst (N := 9) rfl ?_); (try (refine gate_guard (by rfl) ?_; dsimp only)); refine box_event ?hg (N := 9) ?hd (cs := #[.int .i64 0, .int .i64 0, .int .i64 0, .int .i64 0, .slice none 0 0]) (t := 26) ?hr ?_; (case hd => rfl); (case hg => rfl); (case hr => first | (go_simp; done) | (go_simp; rfl)); intro gb625 hg w25 hbox hb; replace HO614 := Aside0.mk (Kd.R_below (upR HO614.out) hb); replace HO623 := Aside0.mk (Kd.R_below (upR HO623.out) hb); have BK625 := Aside0.mk (hbox); have GW625 := Aside0.mk ((by rw [hg]; exact (below_size (upB HB.out)) : w.heap.size ≤ gb625)); have GE625 := Aside0.mk ((by rw [hg]; exact (below_size (upB HB.out)) : w.heap.size ≤ gb625)); replace HB := Aside0.mk (below_step (upB HB.out) hb); have NB605_625 := Aside0.mk ((by rw [hg]; exact Nat.ne_of_lt (blk_lt (g := gb605) (o := .cells #[.int .i64 a0_0, .int .i64 a0_1, .int .i64 a0_2, .int .i64 a0_3, .slice A0_4 l0_4.length c0_4] 26 (0, 0)) (upK BK605.out)) : gb605 ≠ gb625)); have NB625_605 := Aside0.mk ((by rw [hg]; exact Nat.ne_of_gt (blk_lt (g := gb605) (o := .cells #[.int .i64 a0_0, .int .i64 a0_1, .int .i64 a0_2, .int .i64 a0_3, .slice A0_4 l0_4.length c0_4] 26 (0, 0)) (upK BK605.out)) : gb625 ≠ gb605)); replace BK605 := Aside0.mk (blk_below (g := gb605) (o := .cells #[.int .i64 a0_0, .int .i64 a0_1, .int .i64 a0_2, .int .i64 a0_3, .slice A0_4 l0_4.length c0_4] 26 (0, 0)) (upK BK605.out) hb); have NB616_625 := Aside0.mk ((by rw [hg]; exact Nat.ne_of_lt (blk_lt (g := gb616) (o := .cells #[.int .i64 t608, .int .i64 t609, .int .i64 t610, .int .i64 t611, .slice Ao23 t612.length co23] 26 (0, 0)) (upK BK616.out)) : gb616 ≠ gb625)); have NB625_616 := Aside0.mk ((by rw [hg]; exact Nat.ne_of_gt (blk_lt (g := gb616) (o := .cells #[.int .i64 t608, .int .i64 t609, .int .i64 t610, .int .i64 t611, .slice Ao23 t612.length co23] 26 (0, 0)) (upK BK616.out)) : gb625 ≠ gb616)); replace BK616 := Aside0.mk (blk_below (g := gb616) (o := .cells #[.int .i64 t608, .int .i64 t609, .int .i64 t610, .int .i64 t611, .slice Ao23 t612.length co23] 26 (0, 0)) (upK BK616.out) hb); clear hb hbox hg; have hnb26 := NB625_605.out; have hnc26 := NB605_625.out; have hnb27 := NB625_616.out; have hnc27 := NB616_625.out; have hcz28_0 : w25.cell? ⟨gb625, 0, none⟩ = some (.int .i64 0) := bc BK625 0; have hcz28_1 : w25.cell? ⟨gb625, 1, none⟩ = some (.int .i64 0) := bc BK625 1; have hcz28_2 : w25.cell? ⟨gb625, 2, none⟩ = some (.int .i64 0) := bc BK625 2; have hcz28_3 : w25.cell? ⟨gb625, 3, none⟩ = some (.int .i64 0) := bc BK625 3; have hcz28_4 : w25.cell? ⟨gb625, 4, none⟩ = some (.slice none 0 0) := bc BK625 4; have hfz28_0 := blk_frozen BK625.out 0; have hfz28_1 := blk_frozen BK625.out 1; have hfz28_2 := blk_frozen BK625.out 2; have hfz28_3 := blk_frozen BK625.out 3; have hfz28_4 := blk_frozen BK625.out 4; obtain ⟨Ao29, co29, eo29⟩ := Kd.R_slice HO623.out; subst eo29))
    (try simp only [Act.put, List.setIfInBounds_toArray, List.set_cons_zero, List.set_cons_succ])
    go_cut [71] (fun v71 wc => ∃ (kq : Nat) (x71_16 : Bool), v71 = .bool x71_16 ∧ Aside0 (waveletlaw02_PlaneLimited.j1 kq a1 a2 x71_16 a0_0 a0_1 a0_2 a0_3 l0_4 t608 t609 t610 t611 t612 = some r) ∧ Aside0 (kq ≤ kj3) ∧ Aside0 (Kd.R (Kd.int .i64) 3 wc w.heap.size (fun k_ => some k_ ≠ ((.slice Ao29 t621.length co29) : Value).ownBlock) (.slice Ao23 t612.length co23) t612) ∧ Aside0 (Kd.R (Kd.int .i64) 3 wc w.heap.size (fun k_ => some k_ ≠ ((.slice Ao23 t612.length co23) : Value).ownBlock) (.slice Ao29 t621.length co29) t621) ∧ Aside0 (wc.heap[gb605]? = some (.cells #[.int .i64 a0_0, .int .i64 a0_1, .int .i64 a0_2, .int .i64 a0_3, (.slice A0_4 l0_4.length c0_4)] 26 (0, 0))) ∧ Aside0 (wc.heap[gb616]? = some (.cells #[.int .i64 t608, .int .i64 t609, .int .i64 t610, .int .i64 t611, (.slice Ao23 t612.length co23)] 26 (0, 0))) ∧ Aside0 (wc.heap[gb625]? = some (.cells #[.int .i64 t617, .int .i64 t618, .int .i64 t619, .int .i64 t620, (.slice Ao29 t621.length co29)] 26 (0, 0))) ∧ Aside0 (Below w.heap.size w wc))
    case first =>
     have H := HC17.out
     clear HC17
     by_cases c30 : t615 = 0
     ·rw [if_pos c30] at H
      have c30b0 : (t615 == 0) = true := beq_iff_eq.mpr c30
      have c30b1 : (t615 != 0) = false := bne_eq_false_iff_eq.mpr c30
      clear c30
      (first | rw [c30b0] | (simp only [i64_w, i32_w]; rw [c30b0]) | skip)
      by_cases c31 : t624 = 0
      ·rw [if_pos c31] at H
       have c31b0 : (t624 == 0) = true := beq_iff_eq.mpr c31
       have c31b1 : (t624 != 0) = false := bne_eq_false_iff_eq.mpr c31
       clear c31
       replace H := Option.bind_eq_some_iff.mp H
       obtain ⟨t626, A320, H⟩ := H
       replace H : (if t626 = true then (if (!(t608 == a0_0) || (!(t609 == a0_1) || (!(t610 == a0_2) || (!(t611 == a0_3))))) = true then (waveletlaw02_PlaneLimited.j1 kj3 a1 a2 true a0_0 a0_1 a0_2 a0_3 l0_4 t608 t609 t610 t611 t612) else (waveletlaw02_PlaneLimited.j1 kj3 a1 a2 ((t612.length : Int) != (l0_4.length : Int)) a0_0 a0_1 a0_2 a0_3 l0_4 t608 t609 t610 t611 t612)) else (waveletlaw02_PlaneLimited.j1 kj3 a1 a2 true a0_0 a0_1 a0_2 a0_3 l0_4 t608 t609 t610 t611 t612)) = some r := H
       have A32 := Aside0.mk A320
       clear A320
       by_cases c33 : t626 = true
       ·subst c33
        rw [if_pos rfl] at H
        by_cases c34 : (!(t608 == a0_0) || (!(t609 == a0_1) || (!(t610 == a0_2) || (!(t611 == a0_3))))) = true
        ·rw [if_pos c34] at H
         exact absurd H (by rw [hr_]; cases kj3 <;> simp [waveletlaw02_PlaneLimited.j1])
        ·rw [if_neg c34] at H
         have c34b0 : (!(t608 == a0_0) || (!(t609 == a0_1) || (!(t610 == a0_2) || (!(t611 == a0_3))))) = false := by simpa using c34
         clear c34
         have H' := Aside0.mk H
         clear H
         have hnb43 := NB616_605.out
         have hnc43 := NB605_616.out
         have hnb44 := NB616_625.out
         have hnc44 := NB625_616.out
         have hcz45_0 : w25.cell? ⟨gb616, 0, none⟩ = some (.int .i64 t608) := bc BK616 0
         have hcz45_1 : w25.cell? ⟨gb616, 1, none⟩ = some (.int .i64 t609) := bc BK616 1
         have hcz45_2 : w25.cell? ⟨gb616, 2, none⟩ = some (.int .i64 t610) := bc BK616 2
         have hcz45_3 : w25.cell? ⟨gb616, 3, none⟩ = some (.int .i64 t611) := bc BK616 3
         have hcz45_4 : w25.cell? ⟨gb616, 4, none⟩ = some (.slice Ao23 t612.length co23) := bc BK616 4
         have hfz45_0 := blk_frozen BK616.out 0
         have hfz45_1 := blk_frozen BK616.out 1
         have hfz45_2 := blk_frozen BK616.out 2
         have hfz45_3 := blk_frozen BK616.out 3
         have hfz45_4 := blk_frozen BK616.out 4
         have hnb46 := NB625_605.out
         have hnc46 := NB605_625.out
         have hcz47_0 : w25.cell? ⟨gb625, 0, none⟩ = some (.int .i64 0) := bc BK625 0
         have hcz47_1 : w25.cell? ⟨gb625, 1, none⟩ = some (.int .i64 0) := bc BK625 1
         have hcz47_2 : w25.cell? ⟨gb625, 2, none⟩ = some (.int .i64 0) := bc BK625 2
         have hcz47_3 : w25.cell? ⟨gb625, 3, none⟩ = some (.int .i64 0) := bc BK625 3
         have hcz47_4 : w25.cell? ⟨gb625, 4, none⟩ = some (.slice none 0 0) := bc BK625 4
         have hfz47_0 := blk_frozen BK625.out 0
         have hfz47_1 := blk_frozen BK625.out 1
         have hfz47_2 := blk_frozen BK625.out 2
         have hfz47_3 := blk_frozen BK625.out 3
         have hfz47_4 := blk_frozen BK625.out 4
         go_wp2_with (first | (go_at_call 16; (with_reducible refine (waveletref02_Same.calls kj3 t608 t609 t610 t611 _ _ t612 t617 t618 t619 t620 _ _ t621 true _ ?side1 ?side2 ?side3 ?side4 A32.out).mono ?_); (case side1 => refine (Kd.R_reads' (e := 3) (base := w.heap.size) (ok := fun k_ => (True ∧ some k_ ≠ (.slice Ao29 t621.length co29 : Value).ownBlock)) (n := t612.length) (c := co23) ?_).2.2; exact (by (with_reducible repeat (first | apply Kd.R_alloc | apply Kd.R_drewN | apply Kd.R_drew)); exact (Kd.R_mono (Kd.R_far (p := ⟨gb625, 4, none⟩) (Kd.R_far (p := ⟨gb625, 3, none⟩) (Kd.R_far (p := ⟨gb625, 2, none⟩) (Kd.R_far (p := ⟨gb625, 1, none⟩) (Kd.R_far (p := ⟨gb625, 0, none⟩) (Kd.R_types HO614.out BK625.out (by decide)) (fun _ hk => hk.2) (.int .i64 t617)) (fun _ hk => hk.2) (.int .i64 t618)) (fun _ hk => hk.2) (.int .i64 t619)) (fun _ hk => hk.2) (.int .i64 t620)) (fun _ hk => hk.2) (.slice Ao29 t621.length co29)) (fun _ h_ => h_.1)))); (case side2 => exact (Kd.R_reads' HO614.out).2.1); (case side3 => refine (Kd.R_reads' (e := 3) (base := w.heap.size) (ok := fun k_ => (True ∧ some k_ ≠ (.slice Ao23 t612.length co23 : Value).ownBlock)) (n := t621.length) (c := co29) ?_).2.2; exact (by (with_reducible repeat (first | apply Kd.R_alloc | apply Kd.R_drewN | apply Kd.R_drew)); exact (Kd.R_mono (Kd.R_far (p := ⟨gb625, 4, none⟩) (Kd.R_far (p := ⟨gb625, 3, none⟩) (Kd.R_far (p := ⟨gb625, 2, none⟩) (Kd.R_far (p := ⟨gb625, 1, none⟩) (Kd.R_far (p := ⟨gb625, 0, none⟩) (Kd.R_types HO623.out BK625.out (by decide)) (fun _ hk => hk.2) (.int .i64 t617)) (fun _ hk => hk.2) (.int .i64 t618)) (fun _ hk => hk.2) (.int .i64 t619)) (fun _ hk => hk.2) (.int .i64 t620)) (fun _ hk => hk.2) (.slice Ao29 t621.length co29)) (fun _ h_ => h_.1)))); (case side4 => exact (Kd.R_reads' HO623.out).2.1); rintro e w48 ⟨rfl, hb⟩; replace HO614 := Aside0.mk (Kd.R_below (by (with_reducible repeat (first | apply Kd.R_alloc | apply Kd.R_drewN | apply Kd.R_drew)); exact (Kd.R_mono (Kd.R_far (p := ⟨gb625, 4, none⟩) (Kd.R_far (p := ⟨gb625, 3, none⟩) (Kd.R_far (p := ⟨gb625, 2, none⟩) (Kd.R_far (p := ⟨gb625, 1, none⟩) (Kd.R_far (p := ⟨gb625, 0, none⟩) (Kd.R_types HO614.out BK625.out (by decide)) (fun _ hk => hk.2) (.int .i64 t617)) (fun _ hk => hk.2) (.int .i64 t618)) (fun _ hk => hk.2) (.int .i64 t619)) (fun _ hk => hk.2) (.int .i64 t620)) (fun _ hk => hk.2) (.slice Ao29 t621.length co29)) (fun _ h_ => h_.1))) hb); replace HO623 := Aside0.mk (Kd.R_below (by (with_reducible repeat (first | apply Kd.R_alloc | apply Kd.R_drewN | apply Kd.R_drew)); exact (Kd.R_mono (Kd.R_far (p := ⟨gb625, 4, none⟩) (Kd.R_far (p := ⟨gb625, 3, none⟩) (Kd.R_far (p := ⟨gb625, 2, none⟩) (Kd.R_far (p := ⟨gb625, 1, none⟩) (Kd.R_far (p := ⟨gb625, 0, none⟩) (Kd.R_types HO623.out BK625.out (by decide)) (fun _ hk => hk.2) (.int .i64 t617)) (fun _ hk => hk.2) (.int .i64 t618)) (fun _ hk => hk.2) (.int .i64 t619)) (fun _ hk => hk.2) (.int .i64 t620)) (fun _ hk => hk.2) (.slice Ao29 t621.length co29)) (fun _ h_ => h_.1))) hb); replace BK605 := Aside0.mk (blk_below (g := gb605) (o := .cells #[.int .i64 a0_0, .int .i64 a0_1, .int .i64 a0_2, .int .i64 a0_3, .slice A0_4 l0_4.length c0_4] 26 (0, 0)) (by (with_reducible repeat (first | refine blk_drewN ?_ _ | refine blk_drew ?_ | refine blk_alloc ?_ _)); refine blk_far ?_ NB605_625.out _; (with_reducible repeat (first | refine blk_drewN ?_ _ | refine blk_drew ?_ | refine blk_alloc ?_ _)); refine blk_far ?_ NB605_625.out _; (with_reducible repeat (first | refine blk_drewN ?_ _ | refine blk_drew ?_ | refine blk_alloc ?_ _)); refine blk_far ?_ NB605_625.out _; (with_reducible repeat (first | refine blk_drewN ?_ _ | refine blk_drew ?_ | refine blk_alloc ?_ _)); refine blk_far ?_ NB605_625.out _; (with_reducible repeat (first | refine blk_drewN ?_ _ | refine blk_drew ?_ | refine blk_alloc ?_ _)); refine blk_far ?_ NB605_625.out _; (with_reducible repeat (first | refine blk_drewN ?_ _ | refine blk_drew ?_ | refine blk_alloc ?_ _)); exact BK605.out) hb); replace BK616 := Aside0.mk (blk_below (g := gb616) (o := .cells #[.int .i64 t608, .int .i64 t609, .int .i64 t610, .int .i64 t611, .slice Ao23 t612.length co23] 26 (0, 0)) (by (with_reducible repeat (first | refine blk_drewN ?_ _ | refine blk_drew ?_ | refine blk_alloc ?_ _)); refine blk_far ?_ NB616_625.out _; (with_reducible repeat (first | refine blk_drewN ?_ _ | refine blk_drew ?_ | refine blk_alloc ?_ _)); refine blk_far ?_ NB616_625.out _; (with_reducible repeat (first | refine blk_drewN ?_ _ | refine blk_drew ?_ | refine blk_alloc ?_ _)); refine blk_far ?_ NB616_625.out _; (with_reducible repeat (first | refine blk_drewN ?_ _ | refine blk_drew ?_ | refine blk_alloc ?_ _)); refine blk_far ?_ NB616_625.out _; (with_reducible repeat (first | refine blk_drewN ?_ _ | refine blk_drew ?_ | refine blk_alloc ?_ _)); refine blk_far ?_ NB616_625.out _; (with_reducible repeat (first | refine blk_drewN ?_ _ | refine blk_drew ?_ | refine blk_alloc ?_ _)); exact BK616.out) hb); replace BK625 := Aside0.mk (blk_below (g := gb625) (o := .cells #[.int .i64 t617, .int .i64 t618, .int .i64 t619, .int .i64 t620, .slice Ao29 t621.length co29] 26 (0, 0)) (by (with_reducible repeat (first | refine blk_drewN ?_ _ | refine blk_drew ?_ | refine blk_alloc ?_ _)); refine blk_put (cs := #[.int .i64 t617, .int .i64 t618, .int .i64 t619, .int .i64 t620, .slice none 0 0]) ?_ 4 _ rfl; (with_reducible repeat (first | refine blk_drewN ?_ _ | refine blk_drew ?_ | refine blk_alloc ?_ _)); refine blk_put (cs := #[.int .i64 t617, .int .i64 t618, .int .i64 t619, .int .i64 0, .slice none 0 0]) ?_ 3 _ rfl; (with_reducible repeat (first | refine blk_drewN ?_ _ | refine blk_drew ?_ | refine blk_alloc ?_ _)); refine blk_put (cs := #[.int .i64 t617, .int .i64 t618, .int .i64 0, .int .i64 0, .slice none 0 0]) ?_ 2 _ rfl; (with_reducible repeat (first | refine blk_drewN ?_ _ | refine blk_drew ?_ | refine blk_alloc ?_ _)); refine blk_put (cs := #[.int .i64 t617, .int .i64 0, .int .i64 0, .int .i64 0, .slice none 0 0]) ?_ 1 _ rfl; (with_reducible repeat (first | refine blk_drewN ?_ _ | refine blk_drew ?_ | refine blk_alloc ?_ _)); refine blk_put (cs := #[.int .i64 0, .int .i64 0, .int .i64 0, .int .i64 0, .slice none 0 0]) ?_ 0 _ rfl; (with_reducible repeat (first | refine blk_drewN ?_ _ | refine blk_drew ?_ | refine blk_alloc ?_ _)); exact BK625.out) hb); replace HB := Aside0.mk (below_step (upB HB.out) hb); (try clear hb; try clear hb2; try clear hk; try clear hi); have hcz49_0 : w48.cell? ⟨gb616, 0, none⟩ = some (.int .i64 t608) := bc BK616 0; have hcz49_1 : w48.cell? ⟨gb616, 1, none⟩ = some (.int .i64 t609) := bc BK616 1; have hcz49_2 : w48.cell? ⟨gb616, 2, none⟩ = some (.int .i64 t610) := bc BK616 2; have hcz49_3 : w48.cell? ⟨gb616, 3, none⟩ = some (.int .i64 t611) := bc BK616 3; have hcz49_4 : w48.cell? ⟨gb616, 4, none⟩ = some (.slice Ao23 t612.length co23) := bc BK616 4; have hfz49_0 := blk_frozen BK616.out 0; have hfz49_1 := blk_frozen BK616.out 1; have hfz49_2 := blk_frozen BK616.out 2; have hfz49_3 := blk_frozen BK616.out 3; have hfz49_4 := blk_frozen BK616.out 4; have hcz50_0 : w48.cell? ⟨gb605, 0, none⟩ = some (.int .i64 a0_0) := bc BK605 0; have hcz50_1 : w48.cell? ⟨gb605, 1, none⟩ = some (.int .i64 a0_1) := bc BK605 1; have hcz50_2 : w48.cell? ⟨gb605, 2, none⟩ = some (.int .i64 a0_2) := bc BK605 2; have hcz50_3 : w48.cell? ⟨gb605, 3, none⟩ = some (.int .i64 a0_3) := bc BK605 3; have hcz50_4 : w48.cell? ⟨gb605, 4, none⟩ = some (.slice A0_4 l0_4.length c0_4) := bc BK605 4; have hfz50_0 := blk_frozen BK605.out 0; have hfz50_1 := blk_frozen BK605.out 1; have hfz50_2 := blk_frozen BK605.out 2; have hfz50_3 := blk_frozen BK605.out 3; have hfz50_4 := blk_frozen BK605.out 4))
         go_meet
         case rel => exact ⟨_, (((t612.length : Int) != (l0_4.length : Int))), (by first | rfl | (simp; done) | (simp [*]; done)), H', ⟨by have := HJ3.out; first | omega | exact Nat.le_refl _⟩, ⟨by (with_reducible repeat (first | apply Kd.R_alloc | apply Kd.R_drewN | apply Kd.R_drew)); exact Kd.R_mono HO614.out (fun _ hk => hk.2)⟩, ⟨by (with_reducible repeat (first | apply Kd.R_alloc | apply Kd.R_drewN | apply Kd.R_drew)); exact Kd.R_mono HO623.out (fun _ hk => hk.2)⟩, ⟨by (with_reducible repeat (first | refine blk_drewN ?_ _ | refine blk_drew ?_ | refine blk_alloc ?_ _)); exact BK605.out⟩, ⟨by (with_reducible repeat (first | refine blk_drewN ?_ _ | refine blk_drew ?_ | refine blk_alloc ?_ _)); exact BK616.out⟩, ⟨by (with_reducible repeat (first | refine blk_drewN ?_ _ | refine blk_drew ?_ | refine blk_alloc ?_ _)); exact BK625.out⟩, ⟨by repeat (first | (with_reducible first | exact HB.out | apply below_alloc | apply pw_below_drewN | apply below_drew1 | refine below_set ?_ GE605.out | refine below_set ?_ GE616.out | refine below_set ?_ GE625.out) | exact HB.out)⟩⟩
       ·replace c33 := Bool.eq_false_iff.mpr c33
        subst c33
        have H1 : (waveletlaw02_PlaneLimited.j1 kj3 a1 a2 true a0_0 a0_1 a0_2 a0_3 l0_4 t608 t609 t610 t611 t612) = some r := by rw [if_neg (show ¬ (false = true) by decide)] at H; exact H
        exact absurd H1 (by rw [hr_]; cases kj3 <;> simp [waveletlaw02_PlaneLimited.j1])
      ·rw [if_neg c31] at H
       exact absurd H (by rw [hr_]; cases kj3 <;> simp [waveletlaw02_PlaneLimited.j1])
     ·rw [if_neg c30] at H
      exact absurd H (by rw [hr_]; cases kj3 <;> simp [waveletlaw02_PlaneLimited.j1])
    case rest =>
     clear HC17
     try clear c1; try clear c2; try clear p2; try clear c3; try clear c4; try clear c5; try clear c7; try clear c11; try clear c12; try clear c14; try clear c21; try clear c26; try clear c27; try clear c30; try clear c30b0; try clear c30b1; try clear c31; try clear c31b0; try clear c31b1; try clear c33; try clear c34; try clear c34b0; try clear c35; try clear c36; try clear c38; try clear c43; try clear c44; try clear c46; try clear c51; try clear c52; try clear c54; try clear hcz10_0; try clear hcz10_1; try clear hcz10_2; try clear hcz10_3; try clear hcz10_4; try clear hcz18_0; try clear hcz18_1; try clear hcz18_2; try clear hcz18_3; try clear hcz18_4; try clear hcz22_0; try clear hcz22_1; try clear hcz22_2; try clear hcz22_3; try clear hcz22_4; try clear hcz28_0; try clear hcz28_1; try clear hcz28_2; try clear hcz28_3; try clear hcz28_4; try clear hcz37_0; try clear hcz37_1; try clear hcz37_2; try clear hcz37_3; try clear hcz37_4; try clear hcz39_0; try clear hcz39_1; try clear hcz39_2; try clear hcz39_3; try clear hcz39_4; try clear hcz41_0; try clear hcz41_1; try clear hcz41_2; try clear hcz41_3; try clear hcz41_4; try clear hcz42_0; try clear hcz42_1; try clear hcz42_2; try clear hcz42_3; try clear hcz42_4; try clear hcz45_0; try clear hcz45_1; try clear hcz45_2; try clear hcz45_3; try clear hcz45_4; try clear hcz47_0; try clear hcz47_1; try clear hcz47_2; try clear hcz47_3; try clear hcz47_4; try clear hcz49_0; try clear hcz49_1; try clear hcz49_2; try clear hcz49_3; try clear hcz49_4; try clear hcz50_0; try clear hcz50_1; try clear hcz50_2; try clear hcz50_3; try clear hcz50_4; try clear hcz53_0; try clear hcz53_1; try clear hcz53_2; try clear hcz53_3; try clear hcz53_4; try clear hcz55_0; try clear hcz55_1; try clear hcz55_2; try clear hcz55_3; try clear hcz55_4; try clear hcz8_0; try clear hcz8_1; try clear hcz8_2; try clear hcz8_3; try clear hcz8_4; try clear hfz10_0; try clear hfz10_1; try clear hfz10_2; try clear hfz10_3; try clear hfz10_4; try clear hfz18_0; try clear hfz18_1; try clear hfz18_2; try clear hfz18_3; try clear hfz18_4; try clear hfz22_0; try clear hfz22_1; try clear hfz22_2; try clear hfz22_3; try clear hfz22_4; try clear hfz28_0; try clear hfz28_1; try clear hfz28_2; try clear hfz28_3; try clear hfz28_4; try clear hfz37_0; try clear hfz37_1; try clear hfz37_2; try clear hfz37_3; try clear hfz37_4; try clear hfz39_0; try clear hfz39_1; try clear hfz39_2; try clear hfz39_3; try clear hfz39_4; try clear hfz41_0; try clear hfz41_1; try clear hfz41_2; try clear hfz41_3; try clear hfz41_4; try clear hfz42_0; try clear hfz42_1; try clear hfz42_2; try clear hfz42_3; try clear hfz42_4; try clear hfz45_0; try clear hfz45_1; try clear hfz45_2; try clear hfz45_3; try clear hfz45_4; try clear hfz47_0; try clear hfz47_1; try clear hfz47_2; try clear hfz47_3; try clear hfz47_4; try clear hfz49_0; try clear hfz49_1; try clear hfz49_2; try clear hfz49_3; try clear hfz49_4; try clear hfz50_0; try clear hfz50_1; try clear hfz50_2; try clear hfz50_3; try clear hfz50_4; try clear hfz53_0; try clear hfz53_1; try clear hfz53_2; try clear hfz53_3; try clear hfz53_4; try clear hfz55_0; try clear hfz55_1; try clear hfz55_2; try clear hfz55_3; try clear hfz55_4; try clear hfz8_0; try clear hfz8_1; try clear hfz8_2; try clear hfz8_3; try clear hfz8_4; try clear p2
     obtain ⟨kq, x71_16, rfl, HA, HJ16, HO_617004, HO_626004, BK605, BK616, BK625, HB⟩ := hcut
     cases kq with
     | zero => exact absurd HA.out (by simp [waveletlaw02_PlaneLimited.j1])
     | succ kj16 =>
      have H := HA.out
      clear HA
      simp only [waveletlaw02_PlaneLimited.j1] at H
      by_cases c57 : x71_16 = true
      ·subst c57
       have H1 : (some false) = some r := by rw [if_pos rfl] at H; exact H
       exact absurd (Option.some.inj H1) (by rw [hr_]; decide)
      ·replace c57 := Bool.eq_false_iff.mpr c57
       subst c57
       rw [if_neg (show ¬ (false = true) by decide)] at H
       have H' := Aside0.mk H
       clear H
       go_wp2
       go_loopg [11] kj16 (fun kq v11 w' => ∃ (x11_3 : Int), v11 = .int .i64 x11_3 ∧ Aside0 (waveletlaw02_PlaneLimited.l0 kq a1 a2 x11_3 a0_0 a0_1 a0_2 a0_3 l0_4 t608 t609 t610 t611 t612 = some r) ∧ Aside0 (kq ≤ kj16) ∧ Aside0 (Kd.R (Kd.int .i64) 3 w' w.heap.size (fun k_ => some k_ ≠ ((.slice Ao29 t621.length co29) : Value).ownBlock) (.slice Ao23 t612.length co23) t612) ∧ Aside0 (Kd.R (Kd.int .i64) 3 w' w.heap.size (fun k_ => some k_ ≠ ((.slice Ao23 t612.length co23) : Value).ownBlock) (.slice Ao29 t621.length co29) t621) ∧ Aside0 (w'.heap[gb605]? = some (.cells #[.int .i64 a0_0, .int .i64 a0_1, .int .i64 a0_2, .int .i64 a0_3, (.slice A0_4 l0_4.length c0_4)] 26 (0, 0))) ∧ Aside0 (w'.heap[gb616]? = some (.cells #[.int .i64 t608, .int .i64 t609, .int .i64 t610, .int .i64 t611, (.slice Ao23 t612.length co23)] 26 (0, 0))) ∧ Aside0 (w'.heap[gb625]? = some (.cells #[.int .i64 t617, .int .i64 t618, .int .i64 t619, .int .i64 t620, (.slice Ao29 t621.length co29)] 26 (0, 0))) ∧ Aside0 (Below w.heap.size w w'))
       case atStart => exact ⟨(0), (by first | rfl | (simp; done) | (simp [*]; done)), H', ⟨Nat.le_refl _⟩, ⟨by (with_reducible repeat (first | apply Kd.R_alloc | apply Kd.R_drewN | apply Kd.R_drew)); exact HO_617004.out⟩, ⟨by (with_reducible repeat (first | apply Kd.R_alloc | apply Kd.R_drewN | apply Kd.R_drew)); exact HO_626004.out⟩, ⟨by (with_reducible repeat (first | refine blk_drewN ?_ _ | refine blk_drew ?_ | refine blk_alloc ?_ _)); exact BK605.out⟩, ⟨by (with_reducible repeat (first | refine blk_drewN ?_ _ | refine blk_drew ?_ | refine blk_alloc ?_ _)); exact BK616.out⟩, ⟨by (with_reducible repeat (first | refine blk_drewN ?_ _ | refine blk_drew ?_ | refine blk_alloc ?_ _)); exact BK625.out⟩, ⟨by repeat (first | (with_reducible first | exact HB.out | apply below_alloc | apply pw_below_drewN | apply below_drew1 | refine below_set ?_ GE605.out | refine below_set ?_ GE616.out | refine below_set ?_ GE625.out) | exact HB.out)⟩⟩
       case round =>
        clear H'
        try clear c1; try clear c2; try clear p2; try clear c3; try clear c4; try clear c5; try clear c7; try clear c11; try clear c12; try clear c14; try clear c21; try clear c26; try clear c27; try clear c30; try clear c30b0; try clear c30b1; try clear c31; try clear c31b0; try clear c31b1; try clear c33; try clear c34; try clear c34b0; try clear c35; try clear c36; try clear c38; try clear c43; try clear c44; try clear c46; try clear c51; try clear c52; try clear c54; try clear c57; try clear hcz10_0; try clear hcz10_1; try clear hcz10_2; try clear hcz10_3; try clear hcz10_4; try clear hcz18_0; try clear hcz18_1; try clear hcz18_2; try clear hcz18_3; try clear hcz18_4; try clear hcz22_0; try clear hcz22_1; try clear hcz22_2; try clear hcz22_3; try clear hcz22_4; try clear hcz28_0; try clear hcz28_1; try clear hcz28_2; try clear hcz28_3; try clear hcz28_4; try clear hcz37_0; try clear hcz37_1; try clear hcz37_2; try clear hcz37_3; try clear hcz37_4; try clear hcz39_0; try clear hcz39_1; try clear hcz39_2; try clear hcz39_3; try clear hcz39_4; try clear hcz41_0; try clear hcz41_1; try clear hcz41_2; try clear hcz41_3; try clear hcz41_4; try clear hcz42_0; try clear hcz42_1; try clear hcz42_2; try clear hcz42_3; try clear hcz42_4; try clear hcz45_0; try clear hcz45_1; try clear hcz45_2; try clear hcz45_3; try clear hcz45_4; try clear hcz47_0; try clear hcz47_1; try clear hcz47_2; try clear hcz47_3; try clear hcz47_4; try clear hcz49_0; try clear hcz49_1; try clear hcz49_2; try clear hcz49_3; try clear hcz49_4; try clear hcz50_0; try clear hcz50_1; try clear hcz50_2; try clear hcz50_3; try clear hcz50_4; try clear hcz53_0; try clear hcz53_1; try clear hcz53_2; try clear hcz53_3; try clear hcz53_4; try clear hcz55_0; try clear hcz55_1; try clear hcz55_2; try clear hcz55_3; try clear hcz55_4; try clear hcz8_0; try clear hcz8_1; try clear hcz8_2; try clear hcz8_3; try clear hcz8_4; try clear hfz10_0; try clear hfz10_1; try clear hfz10_2; try clear hfz10_3; try clear hfz10_4; try clear hfz18_0; try clear hfz18_1; try clear hfz18_2; try clear hfz18_3; try clear hfz18_4; try clear hfz22_0; try clear hfz22_1; try clear hfz22_2; try clear hfz22_3; try clear hfz22_4; try clear hfz28_0; try clear hfz28_1; try clear hfz28_2; try clear hfz28_3; try clear hfz28_4; try clear hfz37_0; try clear hfz37_1; try clear hfz37_2; try clear hfz37_3; try clear hfz37_4; try clear hfz39_0; try clear hfz39_1; try clear hfz39_2; try clear hfz39_3; try clear hfz39_4; try clear hfz41_0; try clear hfz41_1; try clear hfz41_2; try clear hfz41_3; try clear hfz41_4; try clear hfz42_0; try clear hfz42_1; try clear hfz42_2; try clear hfz42_3; try clear hfz42_4; try clear hfz45_0; try clear hfz45_1; try clear hfz45_2; try clear hfz45_3; try clear hfz45_4; try clear hfz47_0; try clear hfz47_1; try clear hfz47_2; try clear hfz47_3; try clear hfz47_4; try clear hfz49_0; try clear hfz49_1; try clear hfz49_2; try clear hfz49_3; try clear hfz49_4; try clear hfz50_0; try clear hfz50_1; try clear hfz50_2; try clear hfz50_3; try clear hfz50_4; try clear hfz53_0; try clear hfz53_1; try clear hfz53_2; try clear hfz53_3; try clear hfz53_4; try clear hfz55_0; try clear hfz55_1; try clear hfz55_2; try clear hfz55_3; try clear hfz55_4; try clear hfz8_0; try clear hfz8_1; try clear hfz8_2; try clear hfz8_3; try clear hfz8_4; try clear p2
        obtain ⟨x11_3, rfl, HA, HK3, HO_617004, HO_626004, BK605, BK616, BK625, HB⟩ := hrel
        cases gk with
        | zero => exact absurd HA.out (by simp [waveletlaw02_PlaneLimited.l0])
        | succ k3 =>
         have H := HA.out
         clear HA
         simp only [waveletlaw02_PlaneLimited.l0] at H
         by_cases c58 : x11_3 < (t612.length : Int)
         ·rw [if_pos c58] at H
          have c58b0 : decide (x11_3 < (t612.length : Int)) = true := decide_eq_true c58
          clear c58
          by_cases c59 : 0 ≤ x11_3
          ·rw [if_pos c59] at H
           have c59b0 : decide (0 ≤ x11_3) = true := decide_eq_true c59
           clear c59
           by_cases c60 : x11_3 < (l0_4.length : Int)
           ·rw [if_pos c60] at H
            have c60b0 : decide (x11_3 < (l0_4.length : Int)) = true := decide_eq_true c60
            clear c60
            by_cases c61 : (rd t612 x11_3) < a1
            ·rw [if_pos c61] at H
             exact absurd (Option.some.inj H) (by rw [hr_]; decide)
            ·rw [if_neg c61] at H
             have c61b0 : decide ((rd t612 x11_3) < a1) = false := decide_eq_false c61
             clear c61
             by_cases c67 : (rd t612 x11_3) > a2
             ·rw [if_pos c67] at H
              exact absurd (Option.some.inj H) (by rw [hr_]; decide)
             ·rw [if_neg c67] at H
              have c67b0 : decide (a2 < (rd t612 x11_3)) = false := decide_eq_false c67
              clear c67
              by_cases c73 : a1 ≤ (rd l0_4 x11_3)
              ·rw [if_pos c73] at H
               have c73b0 : decide (a1 ≤ (rd l0_4 x11_3)) = true := decide_eq_true c73
               clear c73
               by_cases c74 : (rd l0_4 x11_3) ≤ a2
               ·rw [if_pos c74] at H
                have c74b0 : decide ((rd l0_4 x11_3) ≤ a2) = true := decide_eq_true c74
                clear c74
                by_cases c75 : (rd t612 x11_3) = (rd l0_4 x11_3)
                ·rw [if_pos c75] at H
                 have c75b0 : ((rd t612 x11_3) == (rd l0_4 x11_3)) = true := beq_iff_eq.mpr c75
                 have c75b1 : ((rd t612 x11_3) != (rd l0_4 x11_3)) = false := bne_eq_false_iff_eq.mpr c75
                 clear c75
                 by_cases c76 : (rd l0_4 x11_3) < a1
                 ·rw [if_pos c76] at H
                  have c76b0 : decide ((rd l0_4 x11_3) < a1) = true := decide_eq_true c76
                  clear c76
                  by_cases c77 : (rd t612 x11_3) = a1
                  ·rw [if_pos c77] at H
                   have c77b0 : ((rd t612 x11_3) == a1) = true := beq_iff_eq.mpr c77
                   have c77b1 : ((rd t612 x11_3) != a1) = false := bne_eq_false_iff_eq.mpr c77
                   clear c77
                   by_cases c78 : (rd l0_4 x11_3) > a2
                   ·rw [if_pos c78] at H
                    have c78b0 : decide (a2 < (rd l0_4 x11_3)) = true := decide_eq_true c78
                    clear c78
                    by_cases c79 : (rd t612 x11_3) = a2
                    ·rw [if_pos c79] at H
                     have c79b0 : ((rd t612 x11_3) == a2) = true := beq_iff_eq.mpr c79
                     have c79b1 : ((rd t612 x11_3) != a2) = false := bne_eq_false_iff_eq.mpr c79
                     clear c79
                     have H' := Aside0.mk H
                     clear H
                     have hnb80 := NB616_605.out
                     have hnc80 := NB605_616.out
                     have hnb81 := NB616_625.out
                     have hnc81 := NB625_616.out
                     have hcz82_0 : wr.cell? ⟨gb616, 0, none⟩ = some (.int .i64 t608) := bc BK616 0
                     have hcz82_1 : wr.cell? ⟨gb616, 1, none⟩ = some (.int .i64 t609) := bc BK616 1
                     have hcz82_2 : wr.cell? ⟨gb616, 2, none⟩ = some (.int .i64 t610) := bc BK616 2
                     have hcz82_3 : wr.cell? ⟨gb616, 3, none⟩ = some (.int .i64 t611) := bc BK616 3
                     have hcz82_4 : wr.cell? ⟨gb616, 4, none⟩ = some (.slice Ao23 t612.length co23) := bc BK616 4
                     have hfz82_0 := blk_frozen BK616.out 0
                     have hfz82_1 := blk_frozen BK616.out 1
                     have hfz82_2 := blk_frozen BK616.out 2
                     have hfz82_3 := blk_frozen BK616.out 3
                     have hfz82_4 := blk_frozen BK616.out 4
                     have hnb83 := NB605_625.out
                     have hnc83 := NB625_605.out
                     have hcz84_0 : wr.cell? ⟨gb605, 0, none⟩ = some (.int .i64 a0_0) := bc BK605 0
                     have hcz84_1 : wr.cell? ⟨gb605, 1, none⟩ = some (.int .i64 a0_1) := bc BK605 1
                     have hcz84_2 : wr.cell? ⟨gb605, 2, none⟩ = some (.int .i64 a0_2) := bc BK605 2
                     have hcz84_3 : wr.cell? ⟨gb605, 3, none⟩ = some (.int .i64 a0_3) := bc BK605 3
                     have hcz84_4 : wr.cell? ⟨gb605, 4, none⟩ = some (.slice A0_4 l0_4.length c0_4) := bc BK605 4
                     have hfz84_0 := blk_frozen BK605.out 0
                     have hfz84_1 := blk_frozen BK605.out 1
                     have hfz84_2 := blk_frozen BK605.out 2
                     have hfz84_3 := blk_frozen BK605.out 3
                     have hfz84_4 := blk_frozen BK605.out 4
                     have p627 : 0 ≤ (x11_3 : Int) := of_decide_eq_true (by first | (with_reducible assumption) | assumption)
                     have q627 : x11_3 < (l0_4.length : Int) := of_decide_eq_true (by first | (with_reducible assumption) | assumption)
                     obtain ⟨ad627, e627, hx627_0⟩ := Kd.at_int HR0_4.out x11_3 p627 q627
                     cases e627
                     replace hx627_0 := hc HB hx627_0
                     replace p627 := eq_true p627
                     replace q627 := eq_true q627
                     have p628 : 0 ≤ (x11_3 : Int) := of_decide_eq_true (by first | (with_reducible assumption) | assumption)
                     have q628 : x11_3 < (t612.length : Int) := of_decide_eq_true (by first | (with_reducible assumption) | assumption)
                     obtain ⟨ad628, e628, hx628_0⟩ := Kd.at_int (Kd.R_reads' HO_617004.out).2.2 x11_3 p628 q628
                     cases e628
                     replace p628 := eq_true p628
                     replace q628 := eq_true q628
                     have p629 : 0 ≤ (x11_3 : Int) := of_decide_eq_true (by first | (with_reducible assumption) | assumption)
                     have q629 : x11_3 < (t612.length : Int) := of_decide_eq_true (by first | (with_reducible assumption) | assumption)
                     obtain ⟨ad629, e629, hx629_0⟩ := Kd.at_int (Kd.R_reads' HO_617004.out).2.2 x11_3 p629 q629
                     obtain rfl : ad628 = ad629 := (by injection e629)
                     replace p629 := eq_true p629
                     replace q629 := eq_true q629
                     have p630 : 0 ≤ (x11_3 : Int) := of_decide_eq_true (by first | (with_reducible assumption) | assumption)
                     have q630 : x11_3 < (t612.length : Int) := of_decide_eq_true (by first | (with_reducible assumption) | assumption)
                     obtain ⟨ad630, e630, hx630_0⟩ := Kd.at_int (Kd.R_reads' HO_617004.out).2.2 x11_3 p630 q630
                     obtain rfl : ad628 = ad630 := (by injection e630)
                     replace p630 := eq_true p630
                     replace q630 := eq_true q630
                     have p631 : 0 ≤ (x11_3 : Int) := of_decide_eq_true (by first | (with_reducible assumption) | assumption)
                     have q631 : x11_3 < (t612.length : Int) := of_decide_eq_true (by first | (with_reducible assumption) | assumption)
                     obtain ⟨ad631, e631, hx631_0⟩ := Kd.at_int (Kd.R_reads' HO_617004.out).2.2 x11_3 p631 q631
                     obtain rfl : ad628 = ad631 := (by injection e631)
                     replace p631 := eq_true p631
                     replace q631 := eq_true q631
                     have p632 : 0 ≤ (x11_3 : Int) := of_decide_eq_true (by first | (with_reducible assumption) | assumption)
                     have q632 : x11_3 < (t612.length : Int) := of_decide_eq_true (by first | (with_reducible assumption) | assumption)
                     obtain ⟨ad632, e632, hx632_0⟩ := Kd.at_int (Kd.R_reads' HO_617004.out).2.2 x11_3 p632 q632
                     obtain rfl : ad628 = ad632 := (by injection e632)
                     replace p632 := eq_true p632
                     replace q632 := eq_true q632
                     go_wp2
                     go_roundg k3
                     case measure => have := HJ3.out; have := HJ16.out; have := HK3.out; omega
                     case rel => exact ⟨(wrap64 (x11_3 + 1)), (by first | rfl | (simp; done) | (simp [*]; done)), H', ⟨by have := HJ3.out; have := HJ16.out; have := HK3.out; omega⟩, ⟨by (with_reducible repeat (first | apply Kd.R_alloc | apply Kd.R_drewN | apply Kd.R_drew)); exact HO_617004.out⟩, ⟨by (with_reducible repeat (first | apply Kd.R_alloc | apply Kd.R_drewN | apply Kd.R_drew)); exact HO_626004.out⟩, ⟨by (with_reducible repeat (first | refine blk_drewN ?_ _ | refine blk_drew ?_ | refine blk_alloc ?_ _)); exact BK605.out⟩, ⟨by (with_reducible repeat (first | refine blk_drewN ?_ _ | refine blk_drew ?_ | refine blk_alloc ?_ _)); exact BK616.out⟩, ⟨by (with_reducible repeat (first | refine blk_drewN ?_ _ | refine blk_drew ?_ | refine blk_alloc ?_ _)); exact BK625.out⟩, ⟨by repeat (first | (with_reducible first | exact HB.out | apply below_alloc | apply pw_below_drewN | apply below_drew1 | refine below_set ?_ GE605.out | refine below_set ?_ GE616.out | refine below_set ?_ GE625.out) | exact HB.out)⟩⟩
                    ·rw [if_neg c79] at H
                     exact absurd (Option.some.inj H) (by rw [hr_]; decide)
                   ·rw [if_neg c78] at H
                    have c78b0 : decide (a2 < (rd l0_4 x11_3)) = false := decide_eq_false c78
                    clear c78
                    have H' := Aside0.mk H
                    clear H
                    have hnb90 := NB616_605.out
                    have hnc90 := NB605_616.out
                    have hnb91 := NB616_625.out
                    have hnc91 := NB625_616.out
                    have hcz92_0 : wr.cell? ⟨gb616, 0, none⟩ = some (.int .i64 t608) := bc BK616 0
                    have hcz92_1 : wr.cell? ⟨gb616, 1, none⟩ = some (.int .i64 t609) := bc BK616 1
                    have hcz92_2 : wr.cell? ⟨gb616, 2, none⟩ = some (.int .i64 t610) := bc BK616 2
                    have hcz92_3 : wr.cell? ⟨gb616, 3, none⟩ = some (.int .i64 t611) := bc BK616 3
                    have hcz92_4 : wr.cell? ⟨gb616, 4, none⟩ = some (.slice Ao23 t612.length co23) := bc BK616 4
                    have hfz92_0 := blk_frozen BK616.out 0
                    have hfz92_1 := blk_frozen BK616.out 1
                    have hfz92_2 := blk_frozen BK616.out 2
                    have hfz92_3 := blk_frozen BK616.out 3
                    have hfz92_4 := blk_frozen BK616.out 4
                    have hnb93 := NB605_625.out
                    have hnc93 := NB625_605.out
                    have hcz94_0 : wr.cell? ⟨gb605, 0, none⟩ = some (.int .i64 a0_0) := bc BK605 0
                    have hcz94_1 : wr.cell? ⟨gb605, 1, none⟩ = some (.int .i64 a0_1) := bc BK605 1
                    have hcz94_2 : wr.cell? ⟨gb605, 2, none⟩ = some (.int .i64 a0_2) := bc BK605 2
                    have hcz94_3 : wr.cell? ⟨gb605, 3, none⟩ = some (.int .i64 a0_3) := bc BK605 3
                    have hcz94_4 : wr.cell? ⟨gb605, 4, none⟩ = some (.slice A0_4 l0_4.length c0_4) := bc BK605 4
                    have hfz94_0 := blk_frozen BK605.out 0
                    have hfz94_1 := blk_frozen BK605.out 1
                    have hfz94_2 := blk_frozen BK605.out 2
                    have hfz94_3 := blk_frozen BK605.out 3
                    have hfz94_4 := blk_frozen BK605.out 4
                    have p627 : 0 ≤ (x11_3 : Int) := of_decide_eq_true (by first | (with_reducible assumption) | assumption)
                    have q627 : x11_3 < (l0_4.length : Int) := of_decide_eq_true (by first | (with_reducible assumption) | assumption)
                    obtain ⟨ad627, e627, hx627_0⟩ := Kd.at_int HR0_4.out x11_3 p627 q627
                    cases e627
                    replace hx627_0 := hc HB hx627_0
                    replace p627 := eq_true p627
                    replace q627 := eq_true q627
                    have p628 : 0 ≤ (x11_3 : Int) := of_decide_eq_true (by first | (with_reducible assumption) | assumption)
                    have q628 : x11_3 < (t612.length : Int) := of_decide_eq_true (by first | (with_reducible assumption) | assumption)
                    obtain ⟨ad628, e628, hx628_0⟩ := Kd.at_int (Kd.R_reads' HO_617004.out).2.2 x11_3 p628 q628
                    cases e628
                    replace p628 := eq_true p628
                    replace q628 := eq_true q628
                    have p629 : 0 ≤ (x11_3 : Int) := of_decide_eq_true (by first | (with_reducible assumption) | assumption)
                    have q629 : x11_3 < (t612.length : Int) := of_decide_eq_true (by first | (with_reducible assumption) | assumption)
                    obtain ⟨ad629, e629, hx629_0⟩ := Kd.at_int (Kd.R_reads' HO_617004.out).2.2 x11_3 p629 q629
                    obtain rfl : ad628 = ad629 := (by injection e629)
                    replace p629 := eq_true p629
                    replace q629 := eq_true q629
                    have p630 : 0 ≤ (x11_3 : Int) := of_decide_eq_true (by first | (with_reducible assumption) | assumption)
                    have q630 : x11_3 < (t612.length : Int) := of_decide_eq_true (by first | (with_reducible assumption) | assumption)
                    obtain ⟨ad630, e630, hx630_0⟩ := Kd.at_int (Kd.R_reads' HO_617004.out).2.2 x11_3 p630 q630
                    obtain rfl : ad628 = ad630 := (by injection e630)
                    replace p630 := eq_true p630
                    replace q630 := eq_true q630
                    have p631 : 0 ≤ (x11_3 : Int) := of_decide_eq_true (by first | (with_reducible assumption) | assumption)
                    have q631 : x11_3 < (t612.length : Int) := of_decide_eq_true (by first | (with_reducible assumption) | assumption)
                    obtain ⟨ad631, e631, hx631_0⟩ := Kd.at_int (Kd.R_reads' HO_617004.out).2.2 x11_3 p631 q631
                    obtain rfl : ad628 = ad631 := (by injection e631)
                    replace p631 := eq_true p631
                    replace q631 := eq_true q631
                    go_wp2
                    go_roundg k3
                    case measure => have := HJ3.out; have := HJ16.out; have := HK3.out; omega
                    case rel => exact ⟨(wrap64 (x11_3 + 1)), (by first | rfl | (simp; done) | (simp [*]; done)), H', ⟨by have := HJ3.out; have := HJ16.out; have := HK3.out; omega⟩, ⟨by (with_reducible repeat (first | apply Kd.R_alloc | apply Kd.R_drewN | apply Kd.R_drew)); exact HO_617004.out⟩, ⟨by (with_reducible repeat (first | apply Kd.R_alloc | apply Kd.R_drewN | apply Kd.R_drew)); exact HO_626004.out⟩, ⟨by (with_reducible repeat (first | refine blk_drewN ?_ _ | refine blk_drew ?_ | refine blk_alloc ?_ _)); exact BK605.out⟩, ⟨by (with_reducible repeat (first | refine blk_drewN ?_ _ | refine blk_drew ?_ | refine blk_alloc ?_ _)); exact BK616.out⟩, ⟨by (with_reducible repeat (first | refine blk_drewN ?_ _ | refine blk_drew ?_ | refine blk_alloc ?_ _)); exact BK625.out⟩, ⟨by repeat (first | (with_reducible first | exact HB.out | apply below_alloc | apply pw_below_drewN | apply below_drew1 | refine below_set ?_ GE605.out | refine below_set ?_ GE616.out | refine below_set ?_ GE625.out) | exact HB.out)⟩⟩
                  ·rw [if_neg c77] at H
                   exact absurd (Option.some.inj H) (by rw [hr_]; decide)
                 ·rw [if_neg c76] at H
                  have c76b0 : decide ((rd l0_4 x11_3) < a1) = false := decide_eq_false c76
                  clear c76
                  by_cases c100 : (rd l0_4 x11_3) > a2
                  ·rw [if_pos c100] at H
                   have c100b0 : decide (a2 < (rd l0_4 x11_3)) = true := decide_eq_true c100
                   clear c100
                   by_cases c101 : (rd t612 x11_3) = a2
                   ·rw [if_pos c101] at H
                    have c101b0 : ((rd t612 x11_3) == a2) = true := beq_iff_eq.mpr c101
                    have c101b1 : ((rd t612 x11_3) != a2) = false := bne_eq_false_iff_eq.mpr c101
                    clear c101
                    have H' := Aside0.mk H
                    clear H
                    have hnb102 := NB616_605.out
                    have hnc102 := NB605_616.out
                    have hnb103 := NB616_625.out
                    have hnc103 := NB625_616.out
                    have hcz104_0 : wr.cell? ⟨gb616, 0, none⟩ = some (.int .i64 t608) := bc BK616 0
                    have hcz104_1 : wr.cell? ⟨gb616, 1, none⟩ = some (.int .i64 t609) := bc BK616 1
                    have hcz104_2 : wr.cell? ⟨gb616, 2, none⟩ = some (.int .i64 t610) := bc BK616 2
                    have hcz104_3 : wr.cell? ⟨gb616, 3, none⟩ = some (.int .i64 t611) := bc BK616 3
                    have hcz104_4 : wr.cell? ⟨gb616, 4, none⟩ = some (.slice Ao23 t612.length co23) := bc BK616 4
                    have hfz104_0 := blk_frozen BK616.out 0
                    have hfz104_1 := blk_frozen BK616.out 1
                    have hfz104_2 := blk_frozen BK616.out 2
                    have hfz104_3 := blk_frozen BK616.out 3
                    have hfz104_4 := blk_frozen BK616.out 4
                    have hnb105 := NB605_625.out
                    have hnc105 := NB625_605.out
                    have hcz106_0 : wr.cell? ⟨gb605, 0, none⟩ = some (.int .i64 a0_0) := bc BK605 0
                    have hcz106_1 : wr.cell? ⟨gb605, 1, none⟩ = some (.int .i64 a0_1) := bc BK605 1
                    have hcz106_2 : wr.cell? ⟨gb605, 2, none⟩ = some (.int .i64 a0_2) := bc BK605 2
                    have hcz106_3 : wr.cell? ⟨gb605, 3, none⟩ = some (.int .i64 a0_3) := bc BK605 3
                    have hcz106_4 : wr.cell? ⟨gb605, 4, none⟩ = some (.slice A0_4 l0_4.length c0_4) := bc BK605 4
                    have hfz106_0 := blk_frozen BK605.out 0
                    have hfz106_1 := blk_frozen BK605.out 1
                    have hfz106_2 := blk_frozen BK605.out 2
                    have hfz106_3 := blk_frozen BK605.out 3
                    have hfz106_4 := blk_frozen BK605.out 4
                    have p627 : 0 ≤ (x11_3 : Int) := of_decide_eq_true (by first | (with_reducible assumption) | assumption)
                    have q627 : x11_3 < (l0_4.length : Int) := of_decide_eq_true (by first | (with_reducible assumption) | assumption)
                    obtain ⟨ad627, e627, hx627_0⟩ := Kd.at_int HR0_4.out x11_3 p627 q627
                    cases e627
                    replace hx627_0 := hc HB hx627_0
                    replace p627 := eq_true p627
                    replace q627 := eq_true q627
                    have p628 : 0 ≤ (x11_3 : Int) := of_decide_eq_true (by first | (with_reducible assumption) | assumption)
                    have q628 : x11_3 < (t612.length : Int) := of_decide_eq_true (by first | (with_reducible assumption) | assumption)
                    obtain ⟨ad628, e628, hx628_0⟩ := Kd.at_int (Kd.R_reads' HO_617004.out).2.2 x11_3 p628 q628
                    cases e628
                    replace p628 := eq_true p628
                    replace q628 := eq_true q628
                    have p629 : 0 ≤ (x11_3 : Int) := of_decide_eq_true (by first | (with_reducible assumption) | assumption)
                    have q629 : x11_3 < (t612.length : Int) := of_decide_eq_true (by first | (with_reducible assumption) | assumption)
                    obtain ⟨ad629, e629, hx629_0⟩ := Kd.at_int (Kd.R_reads' HO_617004.out).2.2 x11_3 p629 q629
                    obtain rfl : ad628 = ad629 := (by injection e629)
                    replace p629 := eq_true p629
                    replace q629 := eq_true q629
                    have p630 : 0 ≤ (x11_3 : Int) := of_decide_eq_true (by first | (with_reducible assumption) | assumption)
                    have q630 : x11_3 < (t612.length : Int) := of_decide_eq_true (by first | (with_reducible assumption) | assumption)
                    obtain ⟨ad630, e630, hx630_0⟩ := Kd.at_int (Kd.R_reads' HO_617004.out).2.2 x11_3 p630 q630
                    obtain rfl : ad628 = ad630 := (by injection e630)
                    replace p630 := eq_true p630
                    replace q630 := eq_true q630
                    have p633 : 0 ≤ (x11_3 : Int) := of_decide_eq_true (by first | (with_reducible assumption) | assumption)
                    have q633 : x11_3 < (t612.length : Int) := of_decide_eq_true (by first | (with_reducible assumption) | assumption)
                    obtain ⟨ad633, e633, hx633_0⟩ := Kd.at_int (Kd.R_reads' HO_617004.out).2.2 x11_3 p633 q633
                    obtain rfl : ad628 = ad633 := (by injection e633)
                    replace p633 := eq_true p633
                    replace q633 := eq_true q633
                    go_wp2
                    go_roundg k3
                    case measure => have := HJ3.out; have := HJ16.out; have := HK3.out; omega
                    case rel => exact ⟨(wrap64 (x11_3 + 1)), (by first | rfl | (simp; done) | (simp [*]; done)), H', ⟨by have := HJ3.out; have := HJ16.out; have := HK3.out; omega⟩, ⟨by (with_reducible repeat (first | apply Kd.R_alloc | apply Kd.R_drewN | apply Kd.R_drew)); exact HO_617004.out⟩, ⟨by (with_reducible repeat (first | apply Kd.R_alloc | apply Kd.R_drewN | apply Kd.R_drew)); exact HO_626004.out⟩, ⟨by (with_reducible repeat (first | refine blk_drewN ?_ _ | refine blk_drew ?_ | refine blk_alloc ?_ _)); exact BK605.out⟩, ⟨by (with_reducible repeat (first | refine blk_drewN ?_ _ | refine blk_drew ?_ | refine blk_alloc ?_ _)); exact BK616.out⟩, ⟨by (with_reducible repeat (first | refine blk_drewN ?_ _ | refine blk_drew ?_ | refine blk_alloc ?_ _)); exact BK625.out⟩, ⟨by repeat (first | (with_reducible first | exact HB.out | apply below_alloc | apply pw_below_drewN | apply below_drew1 | refine below_set ?_ GE605.out | refine below_set ?_ GE616.out | refine below_set ?_ GE625.out) | exact HB.out)⟩⟩
                   ·rw [if_neg c101] at H
                    exact absurd (Option.some.inj H) (by rw [hr_]; decide)
                  ·rw [if_neg c100] at H
                   have c100b0 : decide (a2 < (rd l0_4 x11_3)) = false := decide_eq_false c100
                   clear c100
                   have H' := Aside0.mk H
                   clear H
                   have hnb112 := NB616_605.out
                   have hnc112 := NB605_616.out
                   have hnb113 := NB616_625.out
                   have hnc113 := NB625_616.out
                   have hcz114_0 : wr.cell? ⟨gb616, 0, none⟩ = some (.int .i64 t608) := bc BK616 0
                   have hcz114_1 : wr.cell? ⟨gb616, 1, none⟩ = some (.int .i64 t609) := bc BK616 1
                   have hcz114_2 : wr.cell? ⟨gb616, 2, none⟩ = some (.int .i64 t610) := bc BK616 2
                   have hcz114_3 : wr.cell? ⟨gb616, 3, none⟩ = some (.int .i64 t611) := bc BK616 3
                   have hcz114_4 : wr.cell? ⟨gb616, 4, none⟩ = some (.slice Ao23 t612.length co23) := bc BK616 4
                   have hfz114_0 := blk_frozen BK616.out 0
                   have hfz114_1 := blk_frozen BK616.out 1
                   have hfz114_2 := blk_frozen BK616.out 2
                   have hfz114_3 := blk_frozen BK616.out 3
                   have hfz114_4 := blk_frozen BK616.out 4
                   have hnb115 := NB605_625.out
                   have hnc115 := NB625_605.out
                   have hcz116_0 : wr.cell? ⟨gb605, 0, none⟩ = some (.int .i64 a0_0) := bc BK605 0
                   have hcz116_1 : wr.cell? ⟨gb605, 1, none⟩ = some (.int .i64 a0_1) := bc BK605 1
                   have hcz116_2 : wr.cell? ⟨gb605, 2, none⟩ = some (.int .i64 a0_2) := bc BK605 2
                   have hcz116_3 : wr.cell? ⟨gb605, 3, none⟩ = some (.int .i64 a0_3) := bc BK605 3
                   have hcz116_4 : wr.cell? ⟨gb605, 4, none⟩ = some (.slice A0_4 l0_4.length c0_4) := bc BK605 4
                   have hfz116_0 := blk_frozen BK605.out 0
                   have hfz116_1 := blk_frozen BK605.out 1
                   have hfz116_2 := blk_frozen BK605.out 2
                   have hfz116_3 := blk_frozen BK605.out 3
                   have hfz116_4 := blk_frozen BK605.out 4
                   have p627 : 0 ≤ (x11_3 : Int) := of_decide_eq_true (by first | (with_reducible assumption) | assumption)
                   have q627 : x11_3 < (l0_4.length : Int) := of_decide_eq_true (by first | (with_reducible assumption) | assumption)
                   obtain ⟨ad627, e627, hx627_0⟩ := Kd.at_int HR0_4.out x11_3 p627 q627
                   cases e627
                   replace hx627_0 := hc HB hx627_0
                   replace p627 := eq_true p627
                   replace q627 := eq_true q627
                   have p628 : 0 ≤ (x11_3 : Int) := of_decide_eq_true (by first | (with_reducible assumption) | assumption)
                   have q628 : x11_3 < (t612.length : Int) := of_decide_eq_true (by first | (with_reducible assumption) | assumption)
                   obtain ⟨ad628, e628, hx628_0⟩ := Kd.at_int (Kd.R_reads' HO_617004.out).2.2 x11_3 p628 q628
                   cases e628
                   replace p628 := eq_true p628
                   replace q628 := eq_true q628
                   have p629 : 0 ≤ (x11_3 : Int) := of_decide_eq_true (by first | (with_reducible assumption) | assumption)
                   have q629 : x11_3 < (t612.length : Int) := of_decide_eq_true (by first | (with_reducible assumption) | assumption)
                   obtain ⟨ad629, e629, hx629_0⟩ := Kd.at_int (Kd.R_reads' HO_617004.out).2.2 x11_3 p629 q629
                   obtain rfl : ad628 = ad629 := (by injection e629)
                   replace p629 := eq_true p629
                   replace q629 := eq_true q629
                   have p630 : 0 ≤ (x11_3 : Int) := of_decide_eq_true (by first | (with_reducible assumption) | assumption)
                   have q630 : x11_3 < (t612.length : Int) := of_decide_eq_true (by first | (with_reducible assumption) | assumption)
                   obtain ⟨ad630, e630, hx630_0⟩ := Kd.at_int (Kd.R_reads' HO_617004.out).2.2 x11_3 p630 q630
                   obtain rfl : ad628 = ad630 := (by injection e630)
                   replace p630 := eq_true p630
                   replace q630 := eq_true q630
                   go_wp2
                   go_roundg k3
                   case measure => have := HJ3.out; have := HJ16.out; have := HK3.out; omega
                   case rel => exact ⟨(wrap64 (x11_3 + 1)), (by first | rfl | (simp; done) | (simp [*]; done)), H', ⟨by have := HJ3.out; have := HJ16.out; have := HK3.out; omega⟩, ⟨by (with_reducible repeat (first | apply Kd.R_alloc | apply Kd.R_drewN | apply Kd.R_drew)); exact HO_617004.out⟩, ⟨by (with_reducible repeat (first | apply Kd.R_alloc | apply Kd.R_drewN | apply Kd.R_drew)); exact HO_626004.out⟩, ⟨by (with_reducible repeat (first | refine blk_drewN ?_ _ | refine blk_drew ?_ | refine blk_alloc ?_ _)); exact BK605.out⟩, ⟨by (with_reducible repeat (first | refine blk_drewN ?_ _ | refine blk_drew ?_ | refine blk_alloc ?_ _)); exact BK616.out⟩, ⟨by (with_reducible repeat (first | refine blk_drewN ?_ _ | refine blk_drew ?_ | refine blk_alloc ?_ _)); exact BK625.out⟩, ⟨by repeat (first | (with_reducible first | exact HB.out | apply below_alloc | apply pw_below_drewN | apply below_drew1 | refine below_set ?_ GE605.out | refine below_set ?_ GE616.out | refine below_set ?_ GE625.out) | exact HB.out)⟩⟩
                ·rw [if_neg c75] at H
                 exact absurd (Option.some.inj H) (by rw [hr_]; decide)
               ·rw [if_neg c74] at H
                have c74b0 : decide ((rd l0_4 x11_3) ≤ a2) = false := decide_eq_false c74
                clear c74
                by_cases c122 : (rd l0_4 x11_3) < a1
                ·rw [if_pos c122] at H
                 have c122b0 : decide ((rd l0_4 x11_3) < a1) = true := decide_eq_true c122
                 clear c122
                 by_cases c123 : (rd t612 x11_3) = a1
                 ·rw [if_pos c123] at H
                  have c123b0 : ((rd t612 x11_3) == a1) = true := beq_iff_eq.mpr c123
                  have c123b1 : ((rd t612 x11_3) != a1) = false := bne_eq_false_iff_eq.mpr c123
                  clear c123
                  by_cases c124 : (rd l0_4 x11_3) > a2
                  ·rw [if_pos c124] at H
                   have c124b0 : decide (a2 < (rd l0_4 x11_3)) = true := decide_eq_true c124
                   clear c124
                   by_cases c125 : (rd t612 x11_3) = a2
                   ·rw [if_pos c125] at H
                    have c125b0 : ((rd t612 x11_3) == a2) = true := beq_iff_eq.mpr c125
                    have c125b1 : ((rd t612 x11_3) != a2) = false := bne_eq_false_iff_eq.mpr c125
                    clear c125
                    have H' := Aside0.mk H
                    clear H
                    have hnb126 := NB616_605.out
                    have hnc126 := NB605_616.out
                    have hnb127 := NB616_625.out
                    have hnc127 := NB625_616.out
                    have hcz128_0 : wr.cell? ⟨gb616, 0, none⟩ = some (.int .i64 t608) := bc BK616 0
                    have hcz128_1 : wr.cell? ⟨gb616, 1, none⟩ = some (.int .i64 t609) := bc BK616 1
                    have hcz128_2 : wr.cell? ⟨gb616, 2, none⟩ = some (.int .i64 t610) := bc BK616 2
                    have hcz128_3 : wr.cell? ⟨gb616, 3, none⟩ = some (.int .i64 t611) := bc BK616 3
                    have hcz128_4 : wr.cell? ⟨gb616, 4, none⟩ = some (.slice Ao23 t612.length co23) := bc BK616 4
                    have hfz128_0 := blk_frozen BK616.out 0
                    have hfz128_1 := blk_frozen BK616.out 1
                    have hfz128_2 := blk_frozen BK616.out 2
                    have hfz128_3 := blk_frozen BK616.out 3
                    have hfz128_4 := blk_frozen BK616.out 4
                    have hnb129 := NB605_625.out
                    have hnc129 := NB625_605.out
                    have hcz130_0 : wr.cell? ⟨gb605, 0, none⟩ = some (.int .i64 a0_0) := bc BK605 0
                    have hcz130_1 : wr.cell? ⟨gb605, 1, none⟩ = some (.int .i64 a0_1) := bc BK605 1
                    have hcz130_2 : wr.cell? ⟨gb605, 2, none⟩ = some (.int .i64 a0_2) := bc BK605 2
                    have hcz130_3 : wr.cell? ⟨gb605, 3, none⟩ = some (.int .i64 a0_3) := bc BK605 3
                    have hcz130_4 : wr.cell? ⟨gb605, 4, none⟩ = some (.slice A0_4 l0_4.length c0_4) := bc BK605 4
                    have hfz130_0 := blk_frozen BK605.out 0
                    have hfz130_1 := blk_frozen BK605.out 1
                    have hfz130_2 := blk_frozen BK605.out 2
                    have hfz130_3 := blk_frozen BK605.out 3
                    have hfz130_4 := blk_frozen BK605.out 4
                    have p627 : 0 ≤ (x11_3 : Int) := of_decide_eq_true (by first | (with_reducible assumption) | assumption)
                    have q627 : x11_3 < (l0_4.length : Int) := of_decide_eq_true (by first | (with_reducible assumption) | assumption)
                    obtain ⟨ad627, e627, hx627_0⟩ := Kd.at_int HR0_4.out x11_3 p627 q627
                    cases e627
                    replace hx627_0 := hc HB hx627_0
                    replace p627 := eq_true p627
                    replace q627 := eq_true q627
                    have p628 : 0 ≤ (x11_3 : Int) := of_decide_eq_true (by first | (with_reducible assumption) | assumption)
                    have q628 : x11_3 < (t612.length : Int) := of_decide_eq_true (by first | (with_reducible assumption) | assumption)
                    obtain ⟨ad628, e628, hx628_0⟩ := Kd.at_int (Kd.R_reads' HO_617004.out).2.2 x11_3 p628 q628
                    cases e628
                    replace p628 := eq_true p628
                    replace q628 := eq_true q628
                    have p629 : 0 ≤ (x11_3 : Int) := of_decide_eq_true (by first | (with_reducible assumption) | assumption)
                    have q629 : x11_3 < (t612.length : Int) := of_decide_eq_true (by first | (with_reducible assumption) | assumption)
                    obtain ⟨ad629, e629, hx629_0⟩ := Kd.at_int (Kd.R_reads' HO_617004.out).2.2 x11_3 p629 q629
                    obtain rfl : ad628 = ad629 := (by injection e629)
                    replace p629 := eq_true p629
                    replace q629 := eq_true q629
                    have p634 : 0 ≤ (x11_3 : Int) := of_decide_eq_true (by first | (with_reducible assumption) | assumption)
                    have q634 : x11_3 < (t612.length : Int) := of_decide_eq_true (by first | (with_reducible assumption) | assumption)
                    obtain ⟨ad634, e634, hx634_0⟩ := Kd.at_int (Kd.R_reads' HO_617004.out).2.2 x11_3 p634 q634
                    obtain rfl : ad628 = ad634 := (by injection e634)
                    replace p634 := eq_true p634
                    replace q634 := eq_true q634
                    have p635 : 0 ≤ (x11_3 : Int) := of_decide_eq_true (by first | (with_reducible assumption) | assumption)
                    have q635 : x11_3 < (t612.length : Int) := of_decide_eq_true (by first | (with_reducible assumption) | assumption)
                    obtain ⟨ad635, e635, hx635_0⟩ := Kd.at_int (Kd.R_reads' HO_617004.out).2.2 x11_3 p635 q635
                    obtain rfl : ad628 = ad635 := (by injection e635)
                    replace p635 := eq_true p635
                    replace q635 := eq_true q635
                    go_wp2
                    go_roundg k3
                    case measure => have := HJ3.out; have := HJ16.out; have := HK3.out; omega
                    case rel => exact ⟨(wrap64 (x11_3 + 1)), (by first | rfl | (simp; done) | (simp [*]; done)), H', ⟨by have := HJ3.out; have := HJ16.out; have := HK3.out; omega⟩, ⟨by (with_reducible repeat (first | apply Kd.R_alloc | apply Kd.R_drewN | apply Kd.R_drew)); exact HO_617004.out⟩, ⟨by (with_reducible repeat (first | apply Kd.R_alloc | apply Kd.R_drewN | apply Kd.R_drew)); exact HO_626004.out⟩, ⟨by (with_reducible repeat (first | refine blk_drewN ?_ _ | refine blk_drew ?_ | refine blk_alloc ?_ _)); exact BK605.out⟩, ⟨by (with_reducible repeat (first | refine blk_drewN ?_ _ | refine blk_drew ?_ | refine blk_alloc ?_ _)); exact BK616.out⟩, ⟨by (with_reducible repeat (first | refine blk_drewN ?_ _ | refine blk_drew ?_ | refine blk_alloc ?_ _)); exact BK625.out⟩, ⟨by repeat (first | (with_reducible first | exact HB.out | apply below_alloc | apply pw_below_drewN | apply below_drew1 | refine below_set ?_ GE605.out | refine below_set ?_ GE616.out | refine below_set ?_ GE625.out) | exact HB.out)⟩⟩
                   ·rw [if_neg c125] at H
                    exact absurd (Option.some.inj H) (by rw [hr_]; decide)
                  ·rw [if_neg c124] at H
                   have c124b0 : decide (a2 < (rd l0_4 x11_3)) = false := decide_eq_false c124
                   clear c124
                   have H' := Aside0.mk H
                   clear H
                   have hnb136 := NB616_605.out
                   have hnc136 := NB605_616.out
                   have hnb137 := NB616_625.out
                   have hnc137 := NB625_616.out
                   have hcz138_0 : wr.cell? ⟨gb616, 0, none⟩ = some (.int .i64 t608) := bc BK616 0
                   have hcz138_1 : wr.cell? ⟨gb616, 1, none⟩ = some (.int .i64 t609) := bc BK616 1
                   have hcz138_2 : wr.cell? ⟨gb616, 2, none⟩ = some (.int .i64 t610) := bc BK616 2
                   have hcz138_3 : wr.cell? ⟨gb616, 3, none⟩ = some (.int .i64 t611) := bc BK616 3
                   have hcz138_4 : wr.cell? ⟨gb616, 4, none⟩ = some (.slice Ao23 t612.length co23) := bc BK616 4
                   have hfz138_0 := blk_frozen BK616.out 0
                   have hfz138_1 := blk_frozen BK616.out 1
                   have hfz138_2 := blk_frozen BK616.out 2
                   have hfz138_3 := blk_frozen BK616.out 3
                   have hfz138_4 := blk_frozen BK616.out 4
                   have hnb139 := NB605_625.out
                   have hnc139 := NB625_605.out
                   have hcz140_0 : wr.cell? ⟨gb605, 0, none⟩ = some (.int .i64 a0_0) := bc BK605 0
                   have hcz140_1 : wr.cell? ⟨gb605, 1, none⟩ = some (.int .i64 a0_1) := bc BK605 1
                   have hcz140_2 : wr.cell? ⟨gb605, 2, none⟩ = some (.int .i64 a0_2) := bc BK605 2
                   have hcz140_3 : wr.cell? ⟨gb605, 3, none⟩ = some (.int .i64 a0_3) := bc BK605 3
                   have hcz140_4 : wr.cell? ⟨gb605, 4, none⟩ = some (.slice A0_4 l0_4.length c0_4) := bc BK605 4
                   have hfz140_0 := blk_frozen BK605.out 0
                   have hfz140_1 := blk_frozen BK605.out 1
                   have hfz140_2 := blk_frozen BK605.out 2
                   have hfz140_3 := blk_frozen BK605.out 3
                   have hfz140_4 := blk_frozen BK605.out 4
                   have p627 : 0 ≤ (x11_3 : Int) := of_decide_eq_true (by first | (with_reducible assumption) | assumption)
                   have q627 : x11_3 < (l0_4.length : Int) := of_decide_eq_true (by first | (with_reducible assumption) | assumption)
                   obtain ⟨ad627, e627, hx627_0⟩ := Kd.at_int HR0_4.out x11_3 p627 q627
                   cases e627
                   replace hx627_0 := hc HB hx627_0
                   replace p627 := eq_true p627
                   replace q627 := eq_true q627
                   have p628 : 0 ≤ (x11_3 : Int) := of_decide_eq_true (by first | (with_reducible assumption) | assumption)
                   have q628 : x11_3 < (t612.length : Int) := of_decide_eq_true (by first | (with_reducible assumption) | assumption)
                   obtain ⟨ad628, e628, hx628_0⟩ := Kd.at_int (Kd.R_reads' HO_617004.out).2.2 x11_3 p628 q628
                   cases e628
                   replace p628 := eq_true p628
                   replace q628 := eq_true q628
                   have p629 : 0 ≤ (x11_3 : Int) := of_decide_eq_true (by first | (with_reducible assumption) | assumption)
                   have q629 : x11_3 < (t612.length : Int) := of_decide_eq_true (by first | (with_reducible assumption) | assumption)
                   obtain ⟨ad629, e629, hx629_0⟩ := Kd.at_int (Kd.R_reads' HO_617004.out).2.2 x11_3 p629 q629
                   obtain rfl : ad628 = ad629 := (by injection e629)
                   replace p629 := eq_true p629
                   replace q629 := eq_true q629
                   have p634 : 0 ≤ (x11_3 : Int) := of_decide_eq_true (by first | (with_reducible assumption) | assumption)
                   have q634 : x11_3 < (t612.length : Int) := of_decide_eq_true (by first | (with_reducible assumption) | assumption)
                   obtain ⟨ad634, e634, hx634_0⟩ := Kd.at_int (Kd.R_reads' HO_617004.out).2.2 x11_3 p634 q634
                   obtain rfl : ad628 = ad634 := (by injection e634)
                   replace p634 := eq_true p634
                   replace q634 := eq_true q634
                   go_wp2
                   go_roundg k3
                   case measure => have := HJ3.out; have := HJ16.out; have := HK3.out; omega
                   case rel => exact ⟨(wrap64 (x11_3 + 1)), (by first | rfl | (simp; done) | (simp [*]; done)), H', ⟨by have := HJ3.out; have := HJ16.out; have := HK3.out; omega⟩, ⟨by (with_reducible repeat (first | apply Kd.R_alloc | apply Kd.R_drewN | apply Kd.R_drew)); exact HO_617004.out⟩, ⟨by (with_reducible repeat (first | apply Kd.R_alloc | apply Kd.R_drewN | apply Kd.R_drew)); exact HO_626004.out⟩, ⟨by (with_reducible repeat (first | refine blk_drewN ?_ _ | refine blk_drew ?_ | refine blk_alloc ?_ _)); exact BK605.out⟩, ⟨by (with_reducible repeat (first | refine blk_drewN ?_ _ | refine blk_drew ?_ | refine blk_alloc ?_ _)); exact BK616.out⟩, ⟨by (with_reducible repeat (first | refine blk_drewN ?_ _ | refine blk_drew ?_ | refine blk_alloc ?_ _)); exact BK625.out⟩, ⟨by repeat (first | (with_reducible first | exact HB.out | apply below_alloc | apply pw_below_drewN | apply below_drew1 | refine below_set ?_ GE605.out | refine below_set ?_ GE616.out | refine below_set ?_ GE625.out) | exact HB.out)⟩⟩
                 ·rw [if_neg c123] at H
                  exact absurd (Option.some.inj H) (by rw [hr_]; decide)
                ·rw [if_neg c122] at H
                 have c122b0 : decide ((rd l0_4 x11_3) < a1) = false := decide_eq_false c122
                 clear c122
                 by_cases c146 : (rd l0_4 x11_3) > a2
                 ·rw [if_pos c146] at H
                  have c146b0 : decide (a2 < (rd l0_4 x11_3)) = true := decide_eq_true c146
                  clear c146
                  by_cases c147 : (rd t612 x11_3) = a2
                  ·rw [if_pos c147] at H
                   have c147b0 : ((rd t612 x11_3) == a2) = true := beq_iff_eq.mpr c147
                   have c147b1 : ((rd t612 x11_3) != a2) = false := bne_eq_false_iff_eq.mpr c147
                   clear c147
                   have H' := Aside0.mk H
                   clear H
                   have hnb148 := NB616_605.out
                   have hnc148 := NB605_616.out
                   have hnb149 := NB616_625.out
                   have hnc149 := NB625_616.out
                   have hcz150_0 : wr.cell? ⟨gb616, 0, none⟩ = some (.int .i64 t608) := bc BK616 0
                   have hcz150_1 : wr.cell? ⟨gb616, 1, none⟩ = some (.int .i64 t609) := bc BK616 1
                   have hcz150_2 : wr.cell? ⟨gb616, 2, none⟩ = some (.int .i64 t610) := bc BK616 2
                   have hcz150_3 : wr.cell? ⟨gb616, 3, none⟩ = some (.int .i64 t611) := bc BK616 3
                   have hcz150_4 : wr.cell? ⟨gb616, 4, none⟩ = some (.slice Ao23 t612.length co23) := bc BK616 4
                   have hfz150_0 := blk_frozen BK616.out 0
                   have hfz150_1 := blk_frozen BK616.out 1
                   have hfz150_2 := blk_frozen BK616.out 2
                   have hfz150_3 := blk_frozen BK616.out 3
                   have hfz150_4 := blk_frozen BK616.out 4
                   have hnb151 := NB605_625.out
                   have hnc151 := NB625_605.out
                   have hcz152_0 : wr.cell? ⟨gb605, 0, none⟩ = some (.int .i64 a0_0) := bc BK605 0
                   have hcz152_1 : wr.cell? ⟨gb605, 1, none⟩ = some (.int .i64 a0_1) := bc BK605 1
                   have hcz152_2 : wr.cell? ⟨gb605, 2, none⟩ = some (.int .i64 a0_2) := bc BK605 2
                   have hcz152_3 : wr.cell? ⟨gb605, 3, none⟩ = some (.int .i64 a0_3) := bc BK605 3
                   have hcz152_4 : wr.cell? ⟨gb605, 4, none⟩ = some (.slice A0_4 l0_4.length c0_4) := bc BK605 4
                   have hfz152_0 := blk_frozen BK605.out 0
                   have hfz152_1 := blk_frozen BK605.out 1
                   have hfz152_2 := blk_frozen BK605.out 2
                   have hfz152_3 := blk_frozen BK605.out 3
                   have hfz152_4 := blk_frozen BK605.out 4
                   have p627 : 0 ≤ (x11_3 : Int) := of_decide_eq_true (by first | (with_reducible assumption) | assumption)
                   have q627 : x11_3 < (l0_4.length : Int) := of_decide_eq_true (by first | (with_reducible assumption) | assumption)
                   obtain ⟨ad627, e627, hx627_0⟩ := Kd.at_int HR0_4.out x11_3 p627 q627
                   cases e627
                   replace hx627_0 := hc HB hx627_0
                   replace p627 := eq_true p627
                   replace q627 := eq_true q627
                   have p628 : 0 ≤ (x11_3 : Int) := of_decide_eq_true (by first | (with_reducible assumption) | assumption)
                   have q628 : x11_3 < (t612.length : Int) := of_decide_eq_true (by first | (with_reducible assumption) | assumption)
                   obtain ⟨ad628, e628, hx628_0⟩ := Kd.at_int (Kd.R_reads' HO_617004.out).2.2 x11_3 p628 q628
                   cases e628
                   replace p628 := eq_true p628
                   replace q628 := eq_true q628
                   have p629 : 0 ≤ (x11_3 : Int) := of_decide_eq_true (by first | (with_reducible assumption) | assumption)
                   have q629 : x11_3 < (t612.length : Int) := of_decide_eq_true (by first | (with_reducible assumption) | assumption)
                   obtain ⟨ad629, e629, hx629_0⟩ := Kd.at_int (Kd.R_reads' HO_617004.out).2.2 x11_3 p629 q629
                   obtain rfl : ad628 = ad629 := (by injection e629)
                   replace p629 := eq_true p629
                   replace q629 := eq_true q629
                   have p636 : 0 ≤ (x11_3 : Int) := of_decide_eq_true (by first | (with_reducible assumption) | assumption)
                   have q636 : x11_3 < (t612.length : Int) := of_decide_eq_true (by first | (with_reducible assumption) | assumption)
                   obtain ⟨ad636, e636, hx636_0⟩ := Kd.at_int (Kd.R_reads' HO_617004.out).2.2 x11_3 p636 q636
                   obtain rfl : ad628 = ad636 := (by injection e636)
                   replace p636 := eq_true p636
                   replace q636 := eq_true q636
                   go_wp2
                   go_roundg k3
                   case measure => have := HJ3.out; have := HJ16.out; have := HK3.out; omega
                   case rel => exact ⟨(wrap64 (x11_3 + 1)), (by first | rfl | (simp; done) | (simp [*]; done)), H', ⟨by have := HJ3.out; have := HJ16.out; have := HK3.out; omega⟩, ⟨by (with_reducible repeat (first | apply Kd.R_alloc | apply Kd.R_drewN | apply Kd.R_drew)); exact HO_617004.out⟩, ⟨by (with_reducible repeat (first | apply Kd.R_alloc | apply Kd.R_drewN | apply Kd.R_drew)); exact HO_626004.out⟩, ⟨by (with_reducible repeat (first | refine blk_drewN ?_ _ | refine blk_drew ?_ | refine blk_alloc ?_ _)); exact BK605.out⟩, ⟨by (with_reducible repeat (first | refine blk_drewN ?_ _ | refine blk_drew ?_ | refine blk_alloc ?_ _)); exact BK616.out⟩, ⟨by (with_reducible repeat (first | refine blk_drewN ?_ _ | refine blk_drew ?_ | refine blk_alloc ?_ _)); exact BK625.out⟩, ⟨by repeat (first | (with_reducible first | exact HB.out | apply below_alloc | apply pw_below_drewN | apply below_drew1 | refine below_set ?_ GE605.out | refine below_set ?_ GE616.out | refine below_set ?_ GE625.out) | exact HB.out)⟩⟩
                  ·rw [if_neg c147] at H
                   exact absurd (Option.some.inj H) (by rw [hr_]; decide)
                 ·rw [if_neg c146] at H
                  have c146b0 : decide (a2 < (rd l0_4 x11_3)) = false := decide_eq_false c146
                  clear c146
                  have H' := Aside0.mk H
                  clear H
                  have hnb158 := NB616_605.out
                  have hnc158 := NB605_616.out
                  have hnb159 := NB616_625.out
                  have hnc159 := NB625_616.out
                  have hcz160_0 : wr.cell? ⟨gb616, 0, none⟩ = some (.int .i64 t608) := bc BK616 0
                  have hcz160_1 : wr.cell? ⟨gb616, 1, none⟩ = some (.int .i64 t609) := bc BK616 1
                  have hcz160_2 : wr.cell? ⟨gb616, 2, none⟩ = some (.int .i64 t610) := bc BK616 2
                  have hcz160_3 : wr.cell? ⟨gb616, 3, none⟩ = some (.int .i64 t611) := bc BK616 3
                  have hcz160_4 : wr.cell? ⟨gb616, 4, none⟩ = some (.slice Ao23 t612.length co23) := bc BK616 4
                  have hfz160_0 := blk_frozen BK616.out 0
                  have hfz160_1 := blk_frozen BK616.out 1
                  have hfz160_2 := blk_frozen BK616.out 2
                  have hfz160_3 := blk_frozen BK616.out 3
                  have hfz160_4 := blk_frozen BK616.out 4
                  have hnb161 := NB605_625.out
                  have hnc161 := NB625_605.out
                  have hcz162_0 : wr.cell? ⟨gb605, 0, none⟩ = some (.int .i64 a0_0) := bc BK605 0
                  have hcz162_1 : wr.cell? ⟨gb605, 1, none⟩ = some (.int .i64 a0_1) := bc BK605 1
                  have hcz162_2 : wr.cell? ⟨gb605, 2, none⟩ = some (.int .i64 a0_2) := bc BK605 2
                  have hcz162_3 : wr.cell? ⟨gb605, 3, none⟩ = some (.int .i64 a0_3) := bc BK605 3
                  have hcz162_4 : wr.cell? ⟨gb605, 4, none⟩ = some (.slice A0_4 l0_4.length c0_4) := bc BK605 4
                  have hfz162_0 := blk_frozen BK605.out 0
                  have hfz162_1 := blk_frozen BK605.out 1
                  have hfz162_2 := blk_frozen BK605.out 2
                  have hfz162_3 := blk_frozen BK605.out 3
                  have hfz162_4 := blk_frozen BK605.out 4
                  have p627 : 0 ≤ (x11_3 : Int) := of_decide_eq_true (by first | (with_reducible assumption) | assumption)
                  have q627 : x11_3 < (l0_4.length : Int) := of_decide_eq_true (by first | (with_reducible assumption) | assumption)
                  obtain ⟨ad627, e627, hx627_0⟩ := Kd.at_int HR0_4.out x11_3 p627 q627
                  cases e627
                  replace hx627_0 := hc HB hx627_0
                  replace p627 := eq_true p627
                  replace q627 := eq_true q627
                  have p628 : 0 ≤ (x11_3 : Int) := of_decide_eq_true (by first | (with_reducible assumption) | assumption)
                  have q628 : x11_3 < (t612.length : Int) := of_decide_eq_true (by first | (with_reducible assumption) | assumption)
                  obtain ⟨ad628, e628, hx628_0⟩ := Kd.at_int (Kd.R_reads' HO_617004.out).2.2 x11_3 p628 q628
                  cases e628
                  replace p628 := eq_true p628
                  replace q628 := eq_true q628
                  have p629 : 0 ≤ (x11_3 : Int) := of_decide_eq_true (by first | (with_reducible assumption) | assumption)
                  have q629 : x11_3 < (t612.length : Int) := of_decide_eq_true (by first | (with_reducible assumption) | assumption)
                  obtain ⟨ad629, e629, hx629_0⟩ := Kd.at_int (Kd.R_reads' HO_617004.out).2.2 x11_3 p629 q629
                  obtain rfl : ad628 = ad629 := (by injection e629)
                  replace p629 := eq_true p629
                  replace q629 := eq_true q629
                  go_wp2
                  go_roundg k3
                  case measure => have := HJ3.out; have := HJ16.out; have := HK3.out; omega
                  case rel => exact ⟨(wrap64 (x11_3 + 1)), (by first | rfl | (simp; done) | (simp [*]; done)), H', ⟨by have := HJ3.out; have := HJ16.out; have := HK3.out; omega⟩, ⟨by (with_reducible repeat (first | apply Kd.R_alloc | apply Kd.R_drewN | apply Kd.R_drew)); exact HO_617004.out⟩, ⟨by (with_reducible repeat (first | apply Kd.R_alloc | apply Kd.R_drewN | apply Kd.R_drew)); exact HO_626004.out⟩, ⟨by (with_reducible repeat (first | refine blk_drewN ?_ _ | refine blk_drew ?_ | refine blk_alloc ?_ _)); exact BK605.out⟩, ⟨by (with_reducible repeat (first | refine blk_drewN ?_ _ | refine blk_drew ?_ | refine blk_alloc ?_ _)); exact BK616.out⟩, ⟨by (with_reducible repeat (first | refine blk_drewN ?_ _ | refine blk_drew ?_ | refine blk_alloc ?_ _)); exact BK625.out⟩, ⟨by repeat (first | (with_reducible first | exact HB.out | apply below_alloc | apply pw_below_drewN | apply below_drew1 | refine below_set ?_ GE605.out | refine below_set ?_ GE616.out | refine below_set ?_ GE625.out) | exact HB.out)⟩⟩
              ·rw [if_neg c73] at H
               have c73b0 : decide (a1 ≤ (rd l0_4 x11_3)) = false := decide_eq_false c73
               clear c73
               by_cases c163 : (rd l0_4 x11_3) < a1
               ·rw [if_pos c163] at H
                have c163b0 : decide ((rd l0_4 x11_3) < a1) = true := decide_eq_true c163
                clear c163
                by_cases c164 : (rd t612 x11_3) = a1
                ·rw [if_pos c164] at H
                 have c164b0 : ((rd t612 x11_3) == a1) = true := beq_iff_eq.mpr c164
                 have c164b1 : ((rd t612 x11_3) != a1) = false := bne_eq_false_iff_eq.mpr c164
                 clear c164
                 by_cases c165 : (rd l0_4 x11_3) > a2
                 ·rw [if_pos c165] at H
                  have c165b0 : decide (a2 < (rd l0_4 x11_3)) = true := decide_eq_true c165
                  clear c165
                  by_cases c166 : (rd t612 x11_3) = a2
                  ·rw [if_pos c166] at H
                   have c166b0 : ((rd t612 x11_3) == a2) = true := beq_iff_eq.mpr c166
                   have c166b1 : ((rd t612 x11_3) != a2) = false := bne_eq_false_iff_eq.mpr c166
                   clear c166
                   have H' := Aside0.mk H
                   clear H
                   have hnb167 := NB616_605.out
                   have hnc167 := NB605_616.out
                   have hnb168 := NB616_625.out
                   have hnc168 := NB625_616.out
                   have hcz169_0 : wr.cell? ⟨gb616, 0, none⟩ = some (.int .i64 t608) := bc BK616 0
                   have hcz169_1 : wr.cell? ⟨gb616, 1, none⟩ = some (.int .i64 t609) := bc BK616 1
                   have hcz169_2 : wr.cell? ⟨gb616, 2, none⟩ = some (.int .i64 t610) := bc BK616 2
                   have hcz169_3 : wr.cell? ⟨gb616, 3, none⟩ = some (.int .i64 t611) := bc BK616 3
                   have hcz169_4 : wr.cell? ⟨gb616, 4, none⟩ = some (.slice Ao23 t612.length co23) := bc BK616 4
                   have hfz169_0 := blk_frozen BK616.out 0
                   have hfz169_1 := blk_frozen BK616.out 1
                   have hfz169_2 := blk_frozen BK616.out 2
                   have hfz169_3 := blk_frozen BK616.out 3
                   have hfz169_4 := blk_frozen BK616.out 4
                   have hnb170 := NB605_625.out
                   have hnc170 := NB625_605.out
                   have hcz171_0 : wr.cell? ⟨gb605, 0, none⟩ = some (.int .i64 a0_0) := bc BK605 0
                   have hcz171_1 : wr.cell? ⟨gb605, 1, none⟩ = some (.int .i64 a0_1) := bc BK605 1
                   have hcz171_2 : wr.cell? ⟨gb605, 2, none⟩ = some (.int .i64 a0_2) := bc BK605 2
                   have hcz171_3 : wr.cell? ⟨gb605, 3, none⟩ = some (.int .i64 a0_3) := bc BK605 3
                   have hcz171_4 : wr.cell? ⟨gb605, 4, none⟩ = some (.slice A0_4 l0_4.length c0_4) := bc BK605 4
                   have hfz171_0 := blk_frozen BK605.out 0
                   have hfz171_1 := blk_frozen BK605.out 1
                   have hfz171_2 := blk_frozen BK605.out 2
                   have hfz171_3 := blk_frozen BK605.out 3
                   have hfz171_4 := blk_frozen BK605.out 4
                   have p627 : 0 ≤ (x11_3 : Int) := of_decide_eq_true (by first | (with_reducible assumption) | assumption)
                   have q627 : x11_3 < (l0_4.length : Int) := of_decide_eq_true (by first | (with_reducible assumption) | assumption)
                   obtain ⟨ad627, e627, hx627_0⟩ := Kd.at_int HR0_4.out x11_3 p627 q627
                   cases e627
                   replace hx627_0 := hc HB hx627_0
                   replace p627 := eq_true p627
                   replace q627 := eq_true q627
                   have p628 : 0 ≤ (x11_3 : Int) := of_decide_eq_true (by first | (with_reducible assumption) | assumption)
                   have q628 : x11_3 < (t612.length : Int) := of_decide_eq_true (by first | (with_reducible assumption) | assumption)
                   obtain ⟨ad628, e628, hx628_0⟩ := Kd.at_int (Kd.R_reads' HO_617004.out).2.2 x11_3 p628 q628
                   cases e628
                   replace p628 := eq_true p628
                   replace q628 := eq_true q628
                   have p629 : 0 ≤ (x11_3 : Int) := of_decide_eq_true (by first | (with_reducible assumption) | assumption)
                   have q629 : x11_3 < (t612.length : Int) := of_decide_eq_true (by first | (with_reducible assumption) | assumption)
                   obtain ⟨ad629, e629, hx629_0⟩ := Kd.at_int (Kd.R_reads' HO_617004.out).2.2 x11_3 p629 q629
                   obtain rfl : ad628 = ad629 := (by injection e629)
                   replace p629 := eq_true p629
                   replace q629 := eq_true q629
                   have p637 : 0 ≤ (x11_3 : Int) := of_decide_eq_true (by first | (with_reducible assumption) | assumption)
                   have q637 : x11_3 < (t612.length : Int) := of_decide_eq_true (by first | (with_reducible assumption) | assumption)
                   obtain ⟨ad637, e637, hx637_0⟩ := Kd.at_int (Kd.R_reads' HO_617004.out).2.2 x11_3 p637 q637
                   obtain rfl : ad628 = ad637 := (by injection e637)
                   replace p637 := eq_true p637
                   replace q637 := eq_true q637
                   have p638 : 0 ≤ (x11_3 : Int) := of_decide_eq_true (by first | (with_reducible assumption) | assumption)
                   have q638 : x11_3 < (t612.length : Int) := of_decide_eq_true (by first | (with_reducible assumption) | assumption)
                   obtain ⟨ad638, e638, hx638_0⟩ := Kd.at_int (Kd.R_reads' HO_617004.out).2.2 x11_3 p638 q638
                   obtain rfl : ad628 = ad638 := (by injection e638)
                   replace p638 := eq_true p638
                   replace q638 := eq_true q638
                   go_wp2
                   go_roundg k3
                   case measure => have := HJ3.out; have := HJ16.out; have := HK3.out; omega
                   case rel => exact ⟨(wrap64 (x11_3 + 1)), (by first | rfl | (simp; done) | (simp [*]; done)), H', ⟨by have := HJ3.out; have := HJ16.out; have := HK3.out; omega⟩, ⟨by (with_reducible repeat (first | apply Kd.R_alloc | apply Kd.R_drewN | apply Kd.R_drew)); exact HO_617004.out⟩, ⟨by (with_reducible repeat (first | apply Kd.R_alloc | apply Kd.R_drewN | apply Kd.R_drew)); exact HO_626004.out⟩, ⟨by (with_reducible repeat (first | refine blk_drewN ?_ _ | refine blk_drew ?_ | refine blk_alloc ?_ _)); exact BK605.out⟩, ⟨by (with_reducible repeat (first | refine blk_drewN ?_ _ | refine blk_drew ?_ | refine blk_alloc ?_ _)); exact BK616.out⟩, ⟨by (with_reducible repeat (first | refine blk_drewN ?_ _ | refine blk_drew ?_ | refine blk_alloc ?_ _)); exact BK625.out⟩, ⟨by repeat (first | (with_reducible first | exact HB.out | apply below_alloc | apply pw_below_drewN | apply below_drew1 | refine below_set ?_ GE605.out | refine below_set ?_ GE616.out | refine below_set ?_ GE625.out) | exact HB.out)⟩⟩
                  ·rw [if_neg c166] at H
                   exact absurd (Option.some.inj H) (by rw [hr_]; decide)
                 ·rw [if_neg c165] at H
                  have c165b0 : decide (a2 < (rd l0_4 x11_3)) = false := decide_eq_false c165
                  clear c165
                  have H' := Aside0.mk H
                  clear H
                  have hnb177 := NB616_605.out
                  have hnc177 := NB605_616.out
                  have hnb178 := NB616_625.out
                  have hnc178 := NB625_616.out
                  have hcz179_0 : wr.cell? ⟨gb616, 0, none⟩ = some (.int .i64 t608) := bc BK616 0
                  have hcz179_1 : wr.cell? ⟨gb616, 1, none⟩ = some (.int .i64 t609) := bc BK616 1
                  have hcz179_2 : wr.cell? ⟨gb616, 2, none⟩ = some (.int .i64 t610) := bc BK616 2
                  have hcz179_3 : wr.cell? ⟨gb616, 3, none⟩ = some (.int .i64 t611) := bc BK616 3
                  have hcz179_4 : wr.cell? ⟨gb616, 4, none⟩ = some (.slice Ao23 t612.length co23) := bc BK616 4
                  have hfz179_0 := blk_frozen BK616.out 0
                  have hfz179_1 := blk_frozen BK616.out 1
                  have hfz179_2 := blk_frozen BK616.out 2
                  have hfz179_3 := blk_frozen BK616.out 3
                  have hfz179_4 := blk_frozen BK616.out 4
                  have hnb180 := NB605_625.out
                  have hnc180 := NB625_605.out
                  have hcz181_0 : wr.cell? ⟨gb605, 0, none⟩ = some (.int .i64 a0_0) := bc BK605 0
                  have hcz181_1 : wr.cell? ⟨gb605, 1, none⟩ = some (.int .i64 a0_1) := bc BK605 1
                  have hcz181_2 : wr.cell? ⟨gb605, 2, none⟩ = some (.int .i64 a0_2) := bc BK605 2
                  have hcz181_3 : wr.cell? ⟨gb605, 3, none⟩ = some (.int .i64 a0_3) := bc BK605 3
                  have hcz181_4 : wr.cell? ⟨gb605, 4, none⟩ = some (.slice A0_4 l0_4.length c0_4) := bc BK605 4
                  have hfz181_0 := blk_frozen BK605.out 0
                  have hfz181_1 := blk_frozen BK605.out 1
                  have hfz181_2 := blk_frozen BK605.out 2
                  have hfz181_3 := blk_frozen BK605.out 3
                  have hfz181_4 := blk_frozen BK605.out 4
                  have p627 : 0 ≤ (x11_3 : Int) := of_decide_eq_true (by first | (with_reducible assumption) | assumption)
                  have q627 : x11_3 < (l0_4.length : Int) := of_decide_eq_true (by first | (with_reducible assumption) | assumption)
                  obtain ⟨ad627, e627, hx627_0⟩ := Kd.at_int HR0_4.out x11_3 p627 q627
                  cases e627
                  replace hx627_0 := hc HB hx627_0
                  replace p627 := eq_true p627
                  replace q627 := eq_true q627
                  have p628 : 0 ≤ (x11_3 : Int) := of_decide_eq_true (by first | (with_reducible assumption) | assumption)
                  have q628 : x11_3 < (t612.length : Int) := of_decide_eq_true (by first | (with_reducible assumption) | assumption)
                  obtain ⟨ad628, e628, hx628_0⟩ := Kd.at_int (Kd.R_reads' HO_617004.out).2.2 x11_3 p628 q628
                  cases e628
                  replace p628 := eq_true p628
                  replace q628 := eq_true q628
                  have p629 : 0 ≤ (x11_3 : Int) := of_decide_eq_true (by first | (with_reducible assumption) | assumption)
                  have q629 : x11_3 < (t612.length : Int) := of_decide_eq_true (by first | (with_reducible assumption) | assumption)
                  obtain ⟨ad629, e629, hx629_0⟩ := Kd.at_int (Kd.R_reads' HO_617004.out).2.2 x11_3 p629 q629
                  obtain rfl : ad628 = ad629 := (by injection e629)
                  replace p629 := eq_true p629
                  replace q629 := eq_true q629
                  have p637 : 0 ≤ (x11_3 : Int) := of_decide_eq_true (by first | (with_reducible assumption) | assumption)
                  have q637 : x11_3 < (t612.length : Int) := of_decide_eq_true (by first | (with_reducible assumption) | assumption)
                  obtain ⟨ad637, e637, hx637_0⟩ := Kd.at_int (Kd.R_reads' HO_617004.out).2.2 x11_3 p637 q637
                  obtain rfl : ad628 = ad637 := (by injection e637)
                  replace p637 := eq_true p637
                  replace q637 := eq_true q637
                  go_wp2
                  go_roundg k3
                  case measure => have := HJ3.out; have := HJ16.out; have := HK3.out; omega
                  case rel => exact ⟨(wrap64 (x11_3 + 1)), (by first | rfl | (simp; done) | (simp [*]; done)), H', ⟨by have := HJ3.out; have := HJ16.out; have := HK3.out; omega⟩, ⟨by (with_reducible repeat (first | apply Kd.R_alloc | apply Kd.R_drewN | apply Kd.R_drew)); exact HO_617004.out⟩, ⟨by (with_reducible repeat (first | apply Kd.R_alloc | apply Kd.R_drewN | apply Kd.R_drew)); exact HO_626004.out⟩, ⟨by (with_reducible repeat (first | refine blk_drewN ?_ _ | refine blk_drew ?_ | refine blk_alloc ?_ _)); exact BK605.out⟩, ⟨by (with_reducible repeat (first | refine blk_drewN ?_ _ | refine blk_drew ?_ | refine blk_alloc ?_ _)); exact BK616.out⟩, ⟨by (with_reducible repeat (first | refine blk_drewN ?_ _ | refine blk_drew ?_ | refine blk_alloc ?_ _)); exact BK625.out⟩, ⟨by repeat (first | (with_reducible first | exact HB.out | apply below_alloc | apply pw_below_drewN | apply below_drew1 | refine below_set ?_ GE605.out | refine below_set ?_ GE616.out | refine below_set ?_ GE625.out) | exact HB.out)⟩⟩
                ·rw [if_neg c164] at H
                 exact absurd (Option.some.inj H) (by rw [hr_]; decide)
               ·rw [if_neg c163] at H
                have c163b0 : decide ((rd l0_4 x11_3) < a1) = false := decide_eq_false c163
                clear c163
                by_cases c187 : (rd l0_4 x11_3) > a2
                ·rw [if_pos c187] at H
                 have c187b0 : decide (a2 < (rd l0_4 x11_3)) = true := decide_eq_true c187
                 clear c187
                 by_cases c188 : (rd t612 x11_3) = a2
                 ·rw [if_pos c188] at H
                  have c188b0 : ((rd t612 x11_3) == a2) = true := beq_iff_eq.mpr c188
                  have c188b1 : ((rd t612 x11_3) != a2) = false := bne_eq_false_iff_eq.mpr c188
                  clear c188
                  have H' := Aside0.mk H
                  clear H
                  have hnb189 := NB616_605.out
                  have hnc189 := NB605_616.out
                  have hnb190 := NB616_625.out
                  have hnc190 := NB625_616.out
                  have hcz191_0 : wr.cell? ⟨gb616, 0, none⟩ = some (.int .i64 t608) := bc BK616 0
                  have hcz191_1 : wr.cell? ⟨gb616, 1, none⟩ = some (.int .i64 t609) := bc BK616 1
                  have hcz191_2 : wr.cell? ⟨gb616, 2, none⟩ = some (.int .i64 t610) := bc BK616 2
                  have hcz191_3 : wr.cell? ⟨gb616, 3, none⟩ = some (.int .i64 t611) := bc BK616 3
                  have hcz191_4 : wr.cell? ⟨gb616, 4, none⟩ = some (.slice Ao23 t612.length co23) := bc BK616 4
                  have hfz191_0 := blk_frozen BK616.out 0
                  have hfz191_1 := blk_frozen BK616.out 1
                  have hfz191_2 := blk_frozen BK616.out 2
                  have hfz191_3 := blk_frozen BK616.out 3
                  have hfz191_4 := blk_frozen BK616.out 4
                  have hnb192 := NB605_625.out
                  have hnc192 := NB625_605.out
                  have hcz193_0 : wr.cell? ⟨gb605, 0, none⟩ = some (.int .i64 a0_0) := bc BK605 0
                  have hcz193_1 : wr.cell? ⟨gb605, 1, none⟩ = some (.int .i64 a0_1) := bc BK605 1
                  have hcz193_2 : wr.cell? ⟨gb605, 2, none⟩ = some (.int .i64 a0_2) := bc BK605 2
                  have hcz193_3 : wr.cell? ⟨gb605, 3, none⟩ = some (.int .i64 a0_3) := bc BK605 3
                  have hcz193_4 : wr.cell? ⟨gb605, 4, none⟩ = some (.slice A0_4 l0_4.length c0_4) := bc BK605 4
                  have hfz193_0 := blk_frozen BK605.out 0
                  have hfz193_1 := blk_frozen BK605.out 1
                  have hfz193_2 := blk_frozen BK605.out 2
                  have hfz193_3 := blk_frozen BK605.out 3
                  have hfz193_4 := blk_frozen BK605.out 4
                  have p627 : 0 ≤ (x11_3 : Int) := of_decide_eq_true (by first | (with_reducible assumption) | assumption)
                  have q627 : x11_3 < (l0_4.length : Int) := of_decide_eq_true (by first | (with_reducible assumption) | assumption)
                  obtain ⟨ad627, e627, hx627_0⟩ := Kd.at_int HR0_4.out x11_3 p627 q627
                  cases e627
                  replace hx627_0 := hc HB hx627_0
                  replace p627 := eq_true p627
                  replace q627 := eq_true q627
                  have p628 : 0 ≤ (x11_3 : Int) := of_decide_eq_true (by first | (with_reducible assumption) | assumption)
                  have q628 : x11_3 < (t612.length : Int) := of_decide_eq_true (by first | (with_reducible assumption) | assumption)
                  obtain ⟨ad628, e628, hx628_0⟩ := Kd.at_int (Kd.R_reads' HO_617004.out).2.2 x11_3 p628 q628
                  cases e628
                  replace p628 := eq_true p628
                  replace q628 := eq_true q628
                  have p629 : 0 ≤ (x11_3 : Int) := of_decide_eq_true (by first | (with_reducible assumption) | assumption)
                  have q629 : x11_3 < (t612.length : Int) := of_decide_eq_true (by first | (with_reducible assumption) | assumption)
                  obtain ⟨ad629, e629, hx629_0⟩ := Kd.at_int (Kd.R_reads' HO_617004.out).2.2 x11_3 p629 q629
                  obtain rfl : ad628 = ad629 := (by injection e629)
                  replace p629 := eq_true p629
                  replace q629 := eq_true q629
                  have p639 : 0 ≤ (x11_3 : Int) := of_decide_eq_true (by first | (with_reducible assumption) | assumption)
                  have q639 : x11_3 < (t612.length : Int) := of_decide_eq_true (by first | (with_reducible assumption) | assumption)
                  obtain ⟨ad639, e639, hx639_0⟩ := Kd.at_int (Kd.R_reads' HO_617004.out).2.2 x11_3 p639 q639
                  obtain rfl : ad628 = ad639 := (by injection e639)
                  replace p639 := eq_true p639
                  replace q639 := eq_true q639
                  go_wp2
                  go_roundg k3
                  case measure => have := HJ3.out; have := HJ16.out; have := HK3.out; omega
                  case rel => exact ⟨(wrap64 (x11_3 + 1)), (by first | rfl | (simp; done) | (simp [*]; done)), H', ⟨by have := HJ3.out; have := HJ16.out; have := HK3.out; omega⟩, ⟨by (with_reducible repeat (first | apply Kd.R_alloc | apply Kd.R_drewN | apply Kd.R_drew)); exact HO_617004.out⟩, ⟨by (with_reducible repeat (first | apply Kd.R_alloc | apply Kd.R_drewN | apply Kd.R_drew)); exact HO_626004.out⟩, ⟨by (with_reducible repeat (first | refine blk_drewN ?_ _ | refine blk_drew ?_ | refine blk_alloc ?_ _)); exact BK605.out⟩, ⟨by (with_reducible repeat (first | refine blk_drewN ?_ _ | refine blk_drew ?_ | refine blk_alloc ?_ _)); exact BK616.out⟩, ⟨by (with_reducible repeat (first | refine blk_drewN ?_ _ | refine blk_drew ?_ | refine blk_alloc ?_ _)); exact BK625.out⟩, ⟨by repeat (first | (with_reducible first | exact HB.out | apply below_alloc | apply pw_below_drewN | apply below_drew1 | refine below_set ?_ GE605.out | refine below_set ?_ GE616.out | refine below_set ?_ GE625.out) | exact HB.out)⟩⟩
                 ·rw [if_neg c188] at H
                  exact absurd (Option.some.inj H) (by rw [hr_]; decide)
                ·rw [if_neg c187] at H
                 have c187b0 : decide (a2 < (rd l0_4 x11_3)) = false := decide_eq_false c187
                 clear c187
                 have H' := Aside0.mk H
                 clear H
                 have hnb199 := NB616_605.out
                 have hnc199 := NB605_616.out
                 have hnb200 := NB616_625.out
                 have hnc200 := NB625_616.out
                 have hcz201_0 : wr.cell? ⟨gb616, 0, none⟩ = some (.int .i64 t608) := bc BK616 0
                 have hcz201_1 : wr.cell? ⟨gb616, 1, none⟩ = some (.int .i64 t609) := bc BK616 1
                 have hcz201_2 : wr.cell? ⟨gb616, 2, none⟩ = some (.int .i64 t610) := bc BK616 2
                 have hcz201_3 : wr.cell? ⟨gb616, 3, none⟩ = some (.int .i64 t611) := bc BK616 3
                 have hcz201_4 : wr.cell? ⟨gb616, 4, none⟩ = some (.slice Ao23 t612.length co23) := bc BK616 4
                 have hfz201_0 := blk_frozen BK616.out 0
                 have hfz201_1 := blk_frozen BK616.out 1
                 have hfz201_2 := blk_frozen BK616.out 2
                 have hfz201_3 := blk_frozen BK616.out 3
                 have hfz201_4 := blk_frozen BK616.out 4
                 have hnb202 := NB605_625.out
                 have hnc202 := NB625_605.out
                 have hcz203_0 : wr.cell? ⟨gb605, 0, none⟩ = some (.int .i64 a0_0) := bc BK605 0
                 have hcz203_1 : wr.cell? ⟨gb605, 1, none⟩ = some (.int .i64 a0_1) := bc BK605 1
                 have hcz203_2 : wr.cell? ⟨gb605, 2, none⟩ = some (.int .i64 a0_2) := bc BK605 2
                 have hcz203_3 : wr.cell? ⟨gb605, 3, none⟩ = some (.int .i64 a0_3) := bc BK605 3
                 have hcz203_4 : wr.cell? ⟨gb605, 4, none⟩ = some (.slice A0_4 l0_4.length c0_4) := bc BK605 4
                 have hfz203_0 := blk_frozen BK605.out 0
                 have hfz203_1 := blk_frozen BK605.out 1
                 have hfz203_2 := blk_frozen BK605.out 2
                 have hfz203_3 := blk_frozen BK605.out 3
                 have hfz203_4 := blk_frozen BK605.out 4
                 have p627 : 0 ≤ (x11_3 : Int) := of_decide_eq_true (by first | (with_reducible assumption) | assumption)
                 have q627 : x11_3 < (l0_4.length : Int) := of_decide_eq_true (by first | (with_reducible assumption) | assumption)
                 obtain ⟨ad627, e627, hx627_0⟩ := Kd.at_int HR0_4.out x11_3 p627 q627
                 cases e627
                 replace hx627_0 := hc HB hx627_0
                 replace p627 := eq_true p627
                 replace q627 := eq_true q627
                 have p628 : 0 ≤ (x11_3 : Int) := of_decide_eq_true (by first | (with_reducible assumption) | assumption)
                 have q628 : x11_3 < (t612.length : Int) := of_decide_eq_true (by first | (with_reducible assumption) | assumption)
                 obtain ⟨ad628, e628, hx628_0⟩ := Kd.at_int (Kd.R_reads' HO_617004.out).2.2 x11_3 p628 q628
                 cases e628
                 replace p628 := eq_true p628
                 replace q628 := eq_true q628
                 have p629 : 0 ≤ (x11_3 : Int) := of_decide_eq_true (by first | (with_reducible assumption) | assumption)
                 have q629 : x11_3 < (t612.length : Int) := of_decide_eq_true (by first | (with_reducible assumption) | assumption)
                 obtain ⟨ad629, e629, hx629_0⟩ := Kd.at_int (Kd.R_reads' HO_617004.out).2.2 x11_3 p629 q629
                 obtain rfl : ad628 = ad629 := (by injection e629)
                 replace p629 := eq_true p629
                 replace q629 := eq_true q629
                 go_wp2
                 go_roundg k3
                 case measure => have := HJ3.out; have := HJ16.out; have := HK3.out; omega
                 case rel => exact ⟨(wrap64 (x11_3 + 1)), (by first | rfl | (simp; done) | (simp [*]; done)), H', ⟨by have := HJ3.out; have := HJ16.out; have := HK3.out; omega⟩, ⟨by (with_reducible repeat (first | apply Kd.R_alloc | apply Kd.R_drewN | apply Kd.R_drew)); exact HO_617004.out⟩, ⟨by (with_reducible repeat (first | apply Kd.R_alloc | apply Kd.R_drewN | apply Kd.R_drew)); exact HO_626004.out⟩, ⟨by (with_reducible repeat (first | refine blk_drewN ?_ _ | refine blk_drew ?_ | refine blk_alloc ?_ _)); exact BK605.out⟩, ⟨by (with_reducible repeat (first | refine blk_drewN ?_ _ | refine blk_drew ?_ | refine blk_alloc ?_ _)); exact BK616.out⟩, ⟨by (with_reducible repeat (first | refine blk_drewN ?_ _ | refine blk_drew ?_ | refine blk_alloc ?_ _)); exact BK625.out⟩, ⟨by repeat (first | (with_reducible first | exact HB.out | apply below_alloc | apply pw_below_drewN | apply below_drew1 | refine below_set ?_ GE605.out | refine below_set ?_ GE616.out | refine below_set ?_ GE625.out) | exact HB.out)⟩⟩
           ·rw [if_neg c60] at H
            exact absurd H (by simp)
          ·rw [if_neg c59] at H
           exact absurd H (by simp)
         ·rw [if_neg c58] at H
          have c58b0 : decide (x11_3 < (t612.length : Int)) = false := decide_eq_false c58
          clear c58
          replace H := Option.bind_eq_some_iff.mp H
          obtain ⟨⟨t640, t641, t642⟩, A2040, H⟩ := H
          replace H : (if t642 = true then ((plane_Clip.f k3 a0_0 a0_1 a0_2 a0_3 l0_4 t640 t641).bind fun bt644 => ((plane_Limits.f k3 t608 t609 t610 t611 t612).bind fun bt653 => (if bt644.2.2.2.2.2 = 0 then ((waveletref02_Same.f k3 bt644.1 bt644.2.1 bt644.2.2.1 bt644.2.2.2.1 bt644.2.2.2.2.1 a0_0 a0_1 a0_2 a0_3 l0_4).bind fun t656 => (if t656 = true then (if bt653.2.2 = true then (if a1 ≤ bt653.1 then (if bt653.2.1 ≤ a2 then ((waveletlaw02_exampleHolds.f k3).bind fun t657 => (some t657)) else (some false)) else (some false)) else (some false)) else (some false))) else (some false)))) else (if (l0_4.length : Int) = 0 then ((waveletlaw02_exampleHolds.f k3).bind fun t643 => (some t643)) else (some false))) = some r := H
          have A204 := Aside0.mk A2040
          clear A2040
          by_cases c205 : t642 = true
          ·subst c205
           rw [if_pos rfl] at H
           replace H := Option.bind_eq_some_iff.mp H
           obtain ⟨⟨t644, t645, t646, t647, t648, t651⟩, A2060, H⟩ := H
           replace H : ((plane_Limits.f k3 t608 t609 t610 t611 t612).bind fun bt653 => (if t651 = 0 then ((waveletref02_Same.f k3 t644 t645 t646 t647 t648 a0_0 a0_1 a0_2 a0_3 l0_4).bind fun t656 => (if t656 = true then (if bt653.2.2 = true then (if a1 ≤ bt653.1 then (if bt653.2.1 ≤ a2 then ((waveletlaw02_exampleHolds.f k3).bind fun t657 => (some t657)) else (some false)) else (some false)) else (some false)) else (some false))) else (some false))) = some r := H
           have A206 := Aside0.mk A2060
           clear A2060
           replace H := Option.bind_eq_some_iff.mp H
           obtain ⟨⟨t653, t654, t655⟩, A2070, H⟩ := H
           replace H : (if t651 = 0 then ((waveletref02_Same.f k3 t644 t645 t646 t647 t648 a0_0 a0_1 a0_2 a0_3 l0_4).bind fun t656 => (if t656 = true then (if t655 = true then (if a1 ≤ t653 then (if t654 ≤ a2 then ((waveletlaw02_exampleHolds.f k3).bind fun t657 => (some t657)) else (some false)) else (some false)) else (some false)) else (some false))) else (some false)) = some r := H
           have A207 := Aside0.mk A2070
           clear A2070
           by_cases c208 : t651 = 0
           ·rw [if_pos c208] at H
            have c208b0 : (t651 == 0) = true := beq_iff_eq.mpr c208
            have c208b1 : (t651 != 0) = false := bne_eq_false_iff_eq.mpr c208
            clear c208
            replace H := Option.bind_eq_some_iff.mp H
            obtain ⟨t656, A2090, H⟩ := H
            replace H : (if t656 = true then (if t655 = true then (if a1 ≤ t653 then (if t654 ≤ a2 then ((waveletlaw02_exampleHolds.f k3).bind fun t657 => (some t657)) else (some false)) else (some false)) else (some false)) else (some false)) = some r := H
            have A209 := Aside0.mk A2090
            clear A2090
            by_cases c210 : t656 = true
            ·subst c210
             rw [if_pos rfl] at H
             by_cases c211 : t655 = true
             ·subst c211
              rw [if_pos rfl] at H
              by_cases c212 : a1 ≤ t653
              ·rw [if_pos c212] at H
               have c212b0 : decide (a1 ≤ t653) = true := decide_eq_true c212
               clear c212
               by_cases c213 : t654 ≤ a2
               ·rw [if_pos c213] at H
                have c213b0 : decide (t654 ≤ a2) = true := decide_eq_true c213
                clear c213
                replace H := Option.bind_eq_some_iff.mp H
                obtain ⟨t657, A2140, H⟩ := H
                replace H : (some t657) = some r := H
                have A214 := Aside0.mk A2140
                clear A2140
                obtain rfl := Option.some.inj H
                have hnb215 := NB616_605.out
                have hnc215 := NB605_616.out
                have hnb216 := NB616_625.out
                have hnc216 := NB625_616.out
                have hcz217_0 : wr.cell? ⟨gb616, 0, none⟩ = some (.int .i64 t608) := bc BK616 0
                have hcz217_1 : wr.cell? ⟨gb616, 1, none⟩ = some (.int .i64 t609) := bc BK616 1
                have hcz217_2 : wr.cell? ⟨gb616, 2, none⟩ = some (.int .i64 t610) := bc BK616 2
                have hcz217_3 : wr.cell? ⟨gb616, 3, none⟩ = some (.int .i64 t611) := bc BK616 3
                have hcz217_4 : wr.cell? ⟨gb616, 4, none⟩ = some (.slice Ao23 t612.length co23) := bc BK616 4
                have hfz217_0 := blk_frozen BK616.out 0
                have hfz217_1 := blk_frozen BK616.out 1
                have hfz217_2 := blk_frozen BK616.out 2
                have hfz217_3 := blk_frozen BK616.out 3
                have hfz217_4 := blk_frozen BK616.out 4
                have hnb218 := NB605_625.out
                have hnc218 := NB625_605.out
                have hcz219_0 : wr.cell? ⟨gb605, 0, none⟩ = some (.int .i64 a0_0) := bc BK605 0
                have hcz219_1 : wr.cell? ⟨gb605, 1, none⟩ = some (.int .i64 a0_1) := bc BK605 1
                have hcz219_2 : wr.cell? ⟨gb605, 2, none⟩ = some (.int .i64 a0_2) := bc BK605 2
                have hcz219_3 : wr.cell? ⟨gb605, 3, none⟩ = some (.int .i64 a0_3) := bc BK605 3
                have hcz219_4 : wr.cell? ⟨gb605, 4, none⟩ = some (.slice A0_4 l0_4.length c0_4) := bc BK605 4
                have hfz219_0 := blk_frozen BK605.out 0
                have hfz219_1 := blk_frozen BK605.out 1
                have hfz219_2 := blk_frozen BK605.out 2
                have hfz219_3 := blk_frozen BK605.out 3
                have hfz219_4 := blk_frozen BK605.out 4
                go_wp2_with (first | ((with_reducible refine gate_callee (f := 33) rfl ?_); refine goesL_ (some 149) rfl rfl Try.func33 (by kernel_rfl) rfl #[.agg #[.int .i64 a0_0, .int .i64 a0_1, .int .i64 a0_2, .int .i64 a0_3, .slice A0_4 l0_4.length c0_4]] rfl upL ?_; (with_reducible refine (plane_Limits.calls k3 a0_0 a0_1 a0_2 a0_3 _ _ l0_4 t640 t641 true _ ?side1 ?side2 A204.out).mono ?_); (case side1 => repeat (first | exact (Kd.C_below HR0_4.out HB.out) | (with_reducible refine Kd.C_alloc ?_ _) | (with_reducible refine Kd.C_drewN ?_ _) | (with_reducible refine Kd.C_drew ?_))); (case side2 => exact HC0_4.out); rintro e w220 ⟨rfl, hb⟩; refine ⟨_, rfl, ?_⟩; replace HO_617004 := Aside0.mk (Kd.R_below (upR HO_617004.out) hb); replace HO_626004 := Aside0.mk (Kd.R_below (upR HO_626004.out) hb); replace BK605 := Aside0.mk (blk_below (g := gb605) (o := .cells #[.int .i64 a0_0, .int .i64 a0_1, .int .i64 a0_2, .int .i64 a0_3, .slice A0_4 l0_4.length c0_4] 26 (0, 0)) (upK BK605.out) hb); replace BK616 := Aside0.mk (blk_below (g := gb616) (o := .cells #[.int .i64 t608, .int .i64 t609, .int .i64 t610, .int .i64 t611, .slice Ao23 t612.length co23] 26 (0, 0)) (upK BK616.out) hb); replace BK625 := Aside0.mk (blk_below (g := gb625) (o := .cells #[.int .i64 t617, .int .i64 t618, .int .i64 t619, .int .i64 t620, .slice Ao29 t621.length co29] 26 (0, 0)) (upK BK625.out) hb); replace HB := Aside0.mk (below_step (upB HB.out) hb); (try clear hb; try clear hb2; try clear hk; try clear hi); have hcz221_0 : w220.cell? ⟨gb605, 0, none⟩ = some (.int .i64 a0_0) := bc BK605 0; have hcz221_1 : w220.cell? ⟨gb605, 1, none⟩ = some (.int .i64 a0_1) := bc BK605 1; have hcz221_2 : w220.cell? ⟨gb605, 2, none⟩ = some (.int .i64 a0_2) := bc BK605 2; have hcz221_3 : w220.cell? ⟨gb605, 3, none⟩ = some (.int .i64 a0_3) := bc BK605 3; have hcz221_4 : w220.cell? ⟨gb605, 4, none⟩ = some (.slice A0_4 l0_4.length c0_4) := bc BK605 4; have hfz221_0 := blk_frozen BK605.out 0; have hfz221_1 := blk_frozen BK605.out 1; have hfz221_2 := blk_frozen BK605.out 2; have hfz221_3 := blk_frozen BK605.out 3; have hfz221_4 := blk_frozen BK605.out 4) | ((with_reducible refine gate_callee (f := 31) rfl ?_); refine goesL_ (some 166) rfl rfl Try.func31 (by kernel_rfl) rfl #[.agg #[.int .i64 a0_0, .int .i64 a0_1, .int .i64 a0_2, .int .i64 a0_3, .slice A0_4 l0_4.length c0_4], .int .i64 t640, .int .i64 t641] rfl upL ?_; (with_reducible refine (plane_Clip.calls k3 a0_0 a0_1 a0_2 a0_3 _ _ l0_4 t640 t641 t644 t645 t646 t647 t648 t651 _ ?side1 ?side2 A206.out).mono ?_); (case side1 => repeat (first | exact (Kd.C_below HR0_4.out HB.out) | (with_reducible refine Kd.C_alloc ?_ _) | (with_reducible refine Kd.C_drewN ?_ _) | (with_reducible refine Kd.C_drew ?_))); (case side2 => exact HC0_4.out); rintro e w222 ⟨v649, rfl, ho0, hb⟩; refine ⟨_, rfl, ?_⟩; have HO650 := Aside0.mk (Kd.R_lower (Kd.R_new' (Kd.R_new' ho0 (Kd.R_lt (upR HO_617004.out))) (Kd.R_lt (upR HO_626004.out))) (below_size (upB HB.out))); replace HO_617004 := Aside0.mk (Kd.R_elder' (upR HO_617004.out) (Kd.R_base ho0) hb); replace HO_626004 := Aside0.mk (Kd.R_elder' (upR HO_626004.out) (Kd.R_base ho0) hb); replace BK605 := Aside0.mk (blk_below (g := gb605) (o := .cells #[.int .i64 a0_0, .int .i64 a0_1, .int .i64 a0_2, .int .i64 a0_3, .slice A0_4 l0_4.length c0_4] 26 (0, 0)) (upK BK605.out) hb); replace BK616 := Aside0.mk (blk_below (g := gb616) (o := .cells #[.int .i64 t608, .int .i64 t609, .int .i64 t610, .int .i64 t611, .slice Ao23 t612.length co23] 26 (0, 0)) (upK BK616.out) hb); replace BK625 := Aside0.mk (blk_below (g := gb625) (o := .cells #[.int .i64 t617, .int .i64 t618, .int .i64 t619, .int .i64 t620, .slice Ao29 t621.length co29] 26 (0, 0)) (upK BK625.out) hb); replace HB := Aside0.mk (below_step (upB HB.out) hb); (try clear hb; try clear hb2; try clear hk; try clear hi; try clear ho0)) | ((with_reducible refine gate_dst (N := 16) rfl ?_); (try (refine gate_guard (by rfl) ?_; dsimp only)); refine box_event ?hg (N := 16) ?hd (cs := #[.int .i64 0, .int .i64 0, .int .i64 0, .int .i64 0, .slice none 0 0]) (t := 26) ?hr ?_; (case hd => rfl); (case hg => rfl); (case hr => first | (go_simp; done) | (go_simp; rfl)); intro gb652 hg w223 hbox hb; replace HO_617004 := Aside0.mk (Kd.R_below (upR HO_617004.out) hb); replace HO_626004 := Aside0.mk (Kd.R_below (upR HO_626004.out) hb); replace HO650 := Aside0.mk (Kd.R_below (upR HO650.out) hb); have BK652 := Aside0.mk (hbox); have GW652 := Aside0.mk ((by rw [hg]; exact (below_size (upB HB.out)) : w.heap.size ≤ gb652)); have GE652 := Aside0.mk ((by rw [hg]; exact (below_size (upB HB.out)) : w.heap.size ≤ gb652)); replace HB := Aside0.mk (below_step (upB HB.out) hb); have NB605_652 := Aside0.mk ((by rw [hg]; exact Nat.ne_of_lt (blk_lt (g := gb605) (o := .cells #[.int .i64 a0_0, .int .i64 a0_1, .int .i64 a0_2, .int .i64 a0_3, .slice A0_4 l0_4.length c0_4] 26 (0, 0)) (upK BK605.out)) : gb605 ≠ gb652)); have NB652_605 := Aside0.mk ((by rw [hg]; exact Nat.ne_of_gt (blk_lt (g := gb605) (o := .cells #[.int .i64 a0_0, .int .i64 a0_1, .int .i64 a0_2, .int .i64 a0_3, .slice A0_4 l0_4.length c0_4] 26 (0, 0)) (upK BK605.out)) : gb652 ≠ gb605)); replace BK605 := Aside0.mk (blk_below (g := gb605) (o := .cells #[.int .i64 a0_0, .int .i64 a0_1, .int .i64 a0_2, .int .i64 a0_3, .slice A0_4 l0_4.length c0_4] 26 (0, 0)) (upK BK605.out) hb); have NB616_652 := Aside0.mk ((by rw [hg]; exact Nat.ne_of_lt (blk_lt (g := gb616) (o := .cells #[.int .i64 t608, .int .i64 t609, .int .i64 t610, .int .i64 t611, .slice Ao23 t612.length co23] 26 (0, 0)) (upK BK616.out)) : gb616 ≠ gb652)); have NB652_616 := Aside0.mk ((by rw [hg]; exact Nat.ne_of_gt (blk_lt (g := gb616) (o := .cells #[.int .i64 t608, .int .i64 t609, .int .i64 t610, .int .i64 t611, .slice Ao23 t612.length co23] 26 (0, 0)) (upK BK616.out)) : gb652 ≠ gb616)); replace BK616 := Aside0.mk (blk_below (g := gb616) (o := .cells #[.int .i64 t608, .int .i64 t609, .int .i64 t610, .int .i64 t611, .slice Ao23 t612.length co23] 26 (0, 0)) (upK BK616.out) hb); have NB625_652 := Aside0.mk ((by rw [hg]; exact Nat.ne_of_lt (blk_lt (g := gb625) (o := .cells #[.int .i64 t617, .int .i64 t618, .int .i64 t619, .int .i64 t620, .slice Ao29 t621.length co29] 26 (0, 0)) (upK BK625.out)) : gb625 ≠ gb652)); have NB652_625 := Aside0.mk ((by rw [hg]; exact Nat.ne_of_gt (blk_lt (g := gb625) (o := .cells #[.int .i64 t617, .int .i64 t618, .int .i64 t619, .int .i64 t620, .slice Ao29 t621.length co29] 26 (0, 0)) (upK BK625.out)) : gb652 ≠ gb625)); replace BK625 := Aside0.mk (blk_below (g := gb625) (o := .cells #[.int .i64 t617, .int .i64 t618, .int .i64 t619, .int .i64 t620, .slice Ao29 t621.length co29] 26 (0, 0)) (upK BK625.out) hb); clear hb hbox hg; have hnb224 := NB652_605.out; have hnc224 := NB605_652.out; have hnb225 := NB652_616.out; have hnc225 := NB616_652.out; have hnb226 := NB652_625.out; have hnc226 := NB625_652.out; have hcz227_0 : w223.cell? ⟨gb652, 0, none⟩ = some (.int .i64 0) := bc BK652 0; have hcz227_1 : w223.cell? ⟨gb652, 1, none⟩ = some (.int .i64 0) := bc BK652 1; have hcz227_2 : w223.cell? ⟨gb652, 2, none⟩ = some (.int .i64 0) := bc BK652 2; have hcz227_3 : w223.cell? ⟨gb652, 3, none⟩ = some (.int .i64 0) := bc BK652 3; have hcz227_4 : w223.cell? ⟨gb652, 4, none⟩ = some (.slice none 0 0) := bc BK652 4; have hfz227_0 := blk_frozen BK652.out 0; have hfz227_1 := blk_frozen BK652.out 1; have hfz227_2 := blk_frozen BK652.out 2; have hfz227_3 := blk_frozen BK652.out 3; have hfz227_4 := blk_frozen BK652.out 4; obtain ⟨Ao228, co228, eo228⟩ := Kd.R_slice HO650.out; subst eo228; have hcz229_0 : w223.cell? ⟨gb616, 0, none⟩ = some (.int .i64 t608) := bc BK616 0; have hcz229_1 : w223.cell? ⟨gb616, 1, none⟩ = some (.int .i64 t609) := bc BK616 1; have hcz229_2 : w223.cell? ⟨gb616, 2, none⟩ = some (.int .i64 t610) := bc BK616 2; have hcz229_3 : w223.cell? ⟨gb616, 3, none⟩ = some (.int .i64 t611) := bc BK616 3; have hcz229_4 : w223.cell? ⟨gb616, 4, none⟩ = some (.slice Ao23 t612.length co23) := bc BK616 4; have hfz229_0 := blk_frozen BK616.out 0; have hfz229_1 := blk_frozen BK616.out 1; have hfz229_2 := blk_frozen BK616.out 2; have hfz229_3 := blk_frozen BK616.out 3; have hfz229_4 := blk_frozen BK616.out 4) | ((with_reducible refine gate_callee (f := 33) rfl ?_); refine goesL_ (some 171) rfl rfl Try.func33 (by kernel_rfl) rfl #[.agg #[.int .i64 t608, .int .i64 t609, .int .i64 t610, .int .i64 t611, .slice Ao23 t612.length co23]] rfl upL ?_; (with_reducible refine (plane_Limits.calls k3 t608 t609 t610 t611 _ _ t612 t653 t654 true _ ?side1 ?side2 A207.out).mono ?_); (case side1 => refine (Kd.R_reads' (e := 3) (base := w.heap.size) (ok := fun k_ => (some k_ ≠ (.slice Ao29 t621.length co29 : Value).ownBlock ∧ some k_ ≠ (.slice Ao228 t648.length co228 : Value).ownBlock)) (n := t612.length) (c := co23) ?_).2.2; exact (by (with_reducible repeat (first | apply Kd.R_alloc | apply Kd.R_drewN | apply Kd.R_drew)); exact (Kd.R_mono (Kd.R_far (p := ⟨gb652, 4, none⟩) (Kd.R_far (p := ⟨gb652, 3, none⟩) (Kd.R_far (p := ⟨gb652, 2, none⟩) (Kd.R_far (p := ⟨gb652, 1, none⟩) (Kd.R_far (p := ⟨gb652, 0, none⟩) (Kd.R_types HO_617004.out BK652.out (by decide)) (fun _ hk => hk.2) (.int .i64 t644)) (fun _ hk => hk.2) (.int .i64 t645)) (fun _ hk => hk.2) (.int .i64 t646)) (fun _ hk => hk.2) (.int .i64 t647)) (fun _ hk => hk.2) (.slice Ao228 t648.length co228)) (fun _ h_ => h_.1)))); (case side2 => exact (Kd.R_reads' HO_617004.out).2.1); rintro e w230 ⟨rfl, hb⟩; refine ⟨_, rfl, ?_⟩; replace HO_617004 := Aside0.mk (Kd.R_below (by (with_reducible repeat (first | apply Kd.R_alloc | apply Kd.R_drewN | apply Kd.R_drew)); exact (Kd.R_mono (Kd.R_far (p := ⟨gb652, 4, none⟩) (Kd.R_far (p := ⟨gb652, 3, none⟩) (Kd.R_far (p := ⟨gb652, 2, none⟩) (Kd.R_far (p := ⟨gb652, 1, none⟩) (Kd.R_far (p := ⟨gb652, 0, none⟩) (Kd.R_types HO_617004.out BK652.out (by decide)) (fun _ hk => hk.2) (.int .i64 t644)) (fun _ hk => hk.2) (.int .i64 t645)) (fun _ hk => hk.2) (.int .i64 t646)) (fun _ hk => hk.2) (.int .i64 t647)) (fun _ hk => hk.2) (.slice Ao228 t648.length co228)) (fun _ h_ => h_.1))) hb); replace HO_626004 := Aside0.mk (Kd.R_below (by (with_reducible repeat (first | apply Kd.R_alloc | apply Kd.R_drewN | apply Kd.R_drew)); exact (Kd.R_mono (Kd.R_far (p := ⟨gb652, 4, none⟩) (Kd.R_far (p := ⟨gb652, 3, none⟩) (Kd.R_far (p := ⟨gb652, 2, none⟩) (Kd.R_far (p := ⟨gb652, 1, none⟩) (Kd.R_far (p := ⟨gb652, 0, none⟩) (Kd.R_types HO_626004.out BK652.out (by decide)) (fun _ hk => hk.2) (.int .i64 t644)) (fun _ hk => hk.2) (.int .i64 t645)) (fun _ hk => hk.2) (.int .i64 t646)) (fun _ hk => hk.2) (.int .i64 t647)) (fun _ hk => hk.2) (.slice Ao228 t648.length co228)) (fun _ h_ => h_.1))) hb); replace HO650 := Aside0.mk (Kd.R_below (by (with_reducible repeat (first | apply Kd.R_alloc | apply Kd.R_drewN | apply Kd.R_drew)); exact (Kd.R_mono (Kd.R_far (p := ⟨gb652, 4, none⟩) (Kd.R_far (p := ⟨gb652, 3, none⟩) (Kd.R_far (p := ⟨gb652, 2, none⟩) (Kd.R_far (p := ⟨gb652, 1, none⟩) (Kd.R_far (p := ⟨gb652, 0, none⟩) (Kd.R_types HO650.out BK652.out (by decide)) (fun _ hk => hk.2) (.int .i64 t644)) (fun _ hk => hk.2) (.int .i64 t645)) (fun _ hk => hk.2) (.int .i64 t646)) (fun _ hk => hk.2) (.int .i64 t647)) (fun _ hk => hk.2) (.slice Ao228 t648.length co228)) (fun _ h_ => h_.1))) hb); replace BK605 := Aside0.mk (blk_below (g := gb605) (o := .cells #[.int .i64 a0_0, .int .i64 a0_1, .int .i64 a0_2, .int .i64 a0_3, .slice A0_4 l0_4.length c0_4] 26 (0, 0)) (by (with_reducible repeat (first | refine blk_drewN ?_ _ | refine blk_drew ?_ | refine blk_alloc ?_ _)); refine blk_far ?_ NB605_652.out _; (with_reducible repeat (first | refine blk_drewN ?_ _ | refine blk_drew ?_ | refine blk_alloc ?_ _)); refine blk_far ?_ NB605_652.out _; (with_reducible repeat (first | refine blk_drewN ?_ _ | refine blk_drew ?_ | refine blk_alloc ?_ _)); refine blk_far ?_ NB605_652.out _; (with_reducible repeat (first | refine blk_drewN ?_ _ | refine blk_drew ?_ | refine blk_alloc ?_ _)); refine blk_far ?_ NB605_652.out _; (with_reducible repeat (first | refine blk_drewN ?_ _ | refine blk_drew ?_ | refine blk_alloc ?_ _)); refine blk_far ?_ NB605_652.out _; (with_reducible repeat (first | refine blk_drewN ?_ _ | refine blk_drew ?_ | refine blk_alloc ?_ _)); exact BK605.out) hb); replace BK616 := Aside0.mk (blk_below (g := gb616) (o := .cells #[.int .i64 t608, .int .i64 t609, .int .i64 t610, .int .i64 t611, .slice Ao23 t612.length co23] 26 (0, 0)) (by (with_reducible repeat (first | refine blk_drewN ?_ _ | refine blk_drew ?_ | refine blk_alloc ?_ _)); refine blk_far ?_ NB616_652.out _; (with_reducible repeat (first | refine blk_drewN ?_ _ | refine blk_drew ?_ | refine blk_alloc ?_ _)); refine blk_far ?_ NB616_652.out _; (with_reducible repeat (first | refine blk_drewN ?_ _ | refine blk_drew ?_ | refine blk_alloc ?_ _)); refine blk_far ?_ NB616_652.out _; (with_reducible repeat (first | refine blk_drewN ?_ _ | refine blk_drew ?_ | refine blk_alloc ?_ _)); refine blk_far ?_ NB616_652.out _; (with_reducible repeat (first | refine blk_drewN ?_ _ | refine blk_drew ?_ | refine blk_alloc ?_ _)); refine blk_far ?_ NB616_652.out _; (with_reducible repeat (first | refine blk_drewN ?_ _ | refine blk_drew ?_ | refine blk_alloc ?_ _)); exact BK616.out) hb); replace BK625 := Aside0.mk (blk_below (g := gb625) (o := .cells #[.int .i64 t617, .int .i64 t618, .int .i64 t619, .int .i64 t620, .slice Ao29 t621.length co29] 26 (0, 0)) (by (with_reducible repeat (first | refine blk_drewN ?_ _ | refine blk_drew ?_ | refine blk_alloc ?_ _)); refine blk_far ?_ NB625_652.out _; (with_reducible repeat (first | refine blk_drewN ?_ _ | refine blk_drew ?_ | refine blk_alloc ?_ _)); refine blk_far ?_ NB625_652.out _; (with_reducible repeat (first | refine blk_drewN ?_ _ | refine blk_drew ?_ | refine blk_alloc ?_ _)); refine blk_far ?_ NB625_652.out _; (with_reducible repeat (first | refine blk_drewN ?_ _ | refine blk_drew ?_ | refine blk_alloc ?_ _)); refine blk_far ?_ NB625_652.out _; (with_reducible repeat (first | refine blk_drewN ?_ _ | refine blk_drew ?_ | refine blk_alloc ?_ _)); refine blk_far ?_ NB625_652.out _; (with_reducible repeat (first | refine blk_drewN ?_ _ | refine blk_drew ?_ | refine blk_alloc ?_ _)); exact BK625.out) hb); replace BK652 := Aside0.mk (blk_below (g := gb652) (o := .cells #[.int .i64 t644, .int .i64 t645, .int .i64 t646, .int .i64 t647, .slice Ao228 t648.length co228] 26 (0, 0)) (by (with_reducible repeat (first | refine blk_drewN ?_ _ | refine blk_drew ?_ | refine blk_alloc ?_ _)); refine blk_put (cs := #[.int .i64 t644, .int .i64 t645, .int .i64 t646, .int .i64 t647, .slice none 0 0]) ?_ 4 _ rfl; (with_reducible repeat (first | refine blk_drewN ?_ _ | refine blk_drew ?_ | refine blk_alloc ?_ _)); refine blk_put (cs := #[.int .i64 t644, .int .i64 t645, .int .i64 t646, .int .i64 0, .slice none 0 0]) ?_ 3 _ rfl; (with_reducible repeat (first | refine blk_drewN ?_ _ | refine blk_drew ?_ | refine blk_alloc ?_ _)); refine blk_put (cs := #[.int .i64 t644, .int .i64 t645, .int .i64 0, .int .i64 0, .slice none 0 0]) ?_ 2 _ rfl; (with_reducible repeat (first | refine blk_drewN ?_ _ | refine blk_drew ?_ | refine blk_alloc ?_ _)); refine blk_put (cs := #[.int .i64 t644, .int .i64 0, .int .i64 0, .int .i64 0, .slice none 0 0]) ?_ 1 _ rfl; (with_reducible repeat (first | refine blk_drewN ?_ _ | refine blk_drew ?_ | refine blk_alloc ?_ _)); refine blk_put (cs := #[.int .i64 0, .int .i64 0, .int .i64 0, .int .i64 0, .slice none 0 0]) ?_ 0 _ rfl; (with_reducible repeat (first | refine blk_drewN ?_ _ | refine blk_drew ?_ | refine blk_alloc ?_ _)); exact BK652.out) hb); replace HB := Aside0.mk (below_step (upB HB.out) hb); (try clear hb; try clear hb2; try clear hk; try clear hi); have hcz231_0 : w230.cell? ⟨gb652, 0, none⟩ = some (.int .i64 t644) := bc BK652 0; have hcz231_1 : w230.cell? ⟨gb652, 1, none⟩ = some (.int .i64 t645) := bc BK652 1; have hcz231_2 : w230.cell? ⟨gb652, 2, none⟩ = some (.int .i64 t646) := bc BK652 2; have hcz231_3 : w230.cell? ⟨gb652, 3, none⟩ = some (.int .i64 t647) := bc BK652 3; have hcz231_4 : w230.cell? ⟨gb652, 4, none⟩ = some (.slice Ao228 t648.length co228) := bc BK652 4; have hfz231_0 := blk_frozen BK652.out 0; have hfz231_1 := blk_frozen BK652.out 1; have hfz231_2 := blk_frozen BK652.out 2; have hfz231_3 := blk_frozen BK652.out 3; have hfz231_4 := blk_frozen BK652.out 4; have hcz232_0 : w230.cell? ⟨gb605, 0, none⟩ = some (.int .i64 a0_0) := bc BK605 0; have hcz232_1 : w230.cell? ⟨gb605, 1, none⟩ = some (.int .i64 a0_1) := bc BK605 1; have hcz232_2 : w230.cell? ⟨gb605, 2, none⟩ = some (.int .i64 a0_2) := bc BK605 2; have hcz232_3 : w230.cell? ⟨gb605, 3, none⟩ = some (.int .i64 a0_3) := bc BK605 3; have hcz232_4 : w230.cell? ⟨gb605, 4, none⟩ = some (.slice A0_4 l0_4.length c0_4) := bc BK605 4; have hfz232_0 := blk_frozen BK605.out 0; have hfz232_1 := blk_frozen BK605.out 1; have hfz232_2 := blk_frozen BK605.out 2; have hfz232_3 := blk_frozen BK605.out 3; have hfz232_4 := blk_frozen BK605.out 4) | (go_at_call 16; (with_reducible refine (waveletref02_Same.calls k3 t644 t645 t646 t647 _ _ t648 a0_0 a0_1 a0_2 a0_3 _ _ l0_4 true _ ?side1 ?side2 ?side3 ?side4 A209.out).mono ?_); (case side1 => repeat (first | exact (Kd.R_reads' HO650.out).2.2 | (with_reducible refine Kd.C_alloc ?_ _) | (with_reducible refine Kd.C_drewN ?_ _) | (with_reducible refine Kd.C_drew ?_))); (case side2 => exact (Kd.R_reads' HO650.out).2.1); (case side3 => repeat (first | exact (Kd.C_below HR0_4.out HB.out) | (with_reducible refine Kd.C_alloc ?_ _) | (with_reducible refine Kd.C_drewN ?_ _) | (with_reducible refine Kd.C_drew ?_))); (case side4 => exact HC0_4.out); rintro e w233 ⟨rfl, hb⟩; replace HO_617004 := Aside0.mk (Kd.R_below (upR HO_617004.out) hb); replace HO_626004 := Aside0.mk (Kd.R_below (upR HO_626004.out) hb); replace HO650 := Aside0.mk (Kd.R_below (upR HO650.out) hb); replace BK605 := Aside0.mk (blk_below (g := gb605) (o := .cells #[.int .i64 a0_0, .int .i64 a0_1, .int .i64 a0_2, .int .i64 a0_3, .slice A0_4 l0_4.length c0_4] 26 (0, 0)) (upK BK605.out) hb); replace BK616 := Aside0.mk (blk_below (g := gb616) (o := .cells #[.int .i64 t608, .int .i64 t609, .int .i64 t610, .int .i64 t611, .slice Ao23 t612.length co23] 26 (0, 0)) (upK BK616.out) hb); replace BK625 := Aside0.mk (blk_below (g := gb625) (o := .cells #[.int .i64 t617, .int .i64 t618, .int .i64 t619, .int .i64 t620, .slice Ao29 t621.length co29] 26 (0, 0)) (upK BK625.out) hb); replace BK652 := Aside0.mk (blk_below (g := gb652) (o := .cells #[.int .i64 t644, .int .i64 t645, .int .i64 t646, .int .i64 t647, .slice Ao228 t648.length co228] 26 (0, 0)) (upK BK652.out) hb); replace HB := Aside0.mk (below_step (upB HB.out) hb); (try clear hb; try clear hb2; try clear hk; try clear hi)) | (go_at_call 14; (with_reducible refine (waveletlaw02_exampleHolds.calls k3  t657 _ A214.out).mono ?_); rintro e w234 ⟨rfl, hb⟩; replace HO_617004 := Aside0.mk (Kd.R_below (upR HO_617004.out) hb); replace HO_626004 := Aside0.mk (Kd.R_below (upR HO_626004.out) hb); replace HO650 := Aside0.mk (Kd.R_below (upR HO650.out) hb); replace BK605 := Aside0.mk (blk_below (g := gb605) (o := .cells #[.int .i64 a0_0, .int .i64 a0_1, .int .i64 a0_2, .int .i64 a0_3, .slice A0_4 l0_4.length c0_4] 26 (0, 0)) (upK BK605.out) hb); replace BK616 := Aside0.mk (blk_below (g := gb616) (o := .cells #[.int .i64 t608, .int .i64 t609, .int .i64 t610, .int .i64 t611, .slice Ao23 t612.length co23] 26 (0, 0)) (upK BK616.out) hb); replace BK625 := Aside0.mk (blk_below (g := gb625) (o := .cells #[.int .i64 t617, .int .i64 t618, .int .i64 t619, .int .i64 t620, .slice Ao29 t621.length co29] 26 (0, 0)) (upK BK625.out) hb); replace BK652 := Aside0.mk (blk_below (g := gb652) (o := .cells #[.int .i64 t644, .int .i64 t645, .int .i64 t646, .int .i64 t647, .slice Ao228 t648.length co228] 26 (0, 0)) (upK BK652.out) hb); replace HB := Aside0.mk (below_step (upB HB.out) hb); (try clear hb; try clear hb2; try clear hk; try clear hi)))
                go_ret
                exact ⟨by first | rfl | (simp [errW_none, errW_some] <;> rfl) | (simp [*, errW_none, errW_some] <;> rfl), by repeat (first | (with_reducible first | exact HB.out | apply below_alloc | apply pw_below_drewN | apply below_drew1 | refine below_set ?_ GE605.out | refine below_set ?_ GE616.out | refine below_set ?_ GE625.out | refine below_set ?_ GE652.out) | exact HB.out)⟩
               ·rw [if_neg c213] at H
                exact absurd (Option.some.inj H) (by rw [hr_]; decide)
              ·rw [if_neg c212] at H
               exact absurd (Option.some.inj H) (by rw [hr_]; decide)
             ·replace c211 := Bool.eq_false_iff.mpr c211
              subst c211
              have H1 : (some false) = some r := by rw [if_neg (show ¬ (false = true) by decide)] at H; exact H
              exact absurd (Option.some.inj H1) (by rw [hr_]; decide)
            ·replace c210 := Bool.eq_false_iff.mpr c210
             subst c210
             have H1 : (some false) = some r := by rw [if_neg (show ¬ (false = true) by decide)] at H; exact H
             exact absurd (Option.some.inj H1) (by rw [hr_]; decide)
           ·rw [if_neg c208] at H
            exact absurd (Option.some.inj H) (by rw [hr_]; decide)
          ·replace c205 := Bool.eq_false_iff.mpr c205
           subst c205
           rw [if_neg (show ¬ (false = true) by decide)] at H
           by_cases c327 : (l0_4.length : Int) = 0
           ·rw [if_pos c327] at H
            have c327b0 : ((l0_4.length : Int) == 0) = true := beq_iff_eq.mpr c327
            have c327b1 : ((l0_4.length : Int) != 0) = false := bne_eq_false_iff_eq.mpr c327
            clear c327
            replace H := Option.bind_eq_some_iff.mp H
            obtain ⟨t643, A3280, H⟩ := H
            replace H : (some t643) = some r := H
            have A328 := Aside0.mk A3280
            clear A3280
            obtain rfl := Option.some.inj H
            have hnb329 := NB616_605.out
            have hnc329 := NB605_616.out
            have hnb330 := NB616_625.out
            have hnc330 := NB625_616.out
            have hcz331_0 : wr.cell? ⟨gb616, 0, none⟩ = some (.int .i64 t608) := bc BK616 0
            have hcz331_1 : wr.cell? ⟨gb616, 1, none⟩ = some (.int .i64 t609) := bc BK616 1
            have hcz331_2 : wr.cell? ⟨gb616, 2, none⟩ = some (.int .i64 t610) := bc BK616 2
            have hcz331_3 : wr.cell? ⟨gb616, 3, none⟩ = some (.int .i64 t611) := bc BK616 3
            have hcz331_4 : wr.cell? ⟨gb616, 4, none⟩ = some (.slice Ao23 t612.length co23) := bc BK616 4
            have hfz331_0 := blk_frozen BK616.out 0
            have hfz331_1 := blk_frozen BK616.out 1
            have hfz331_2 := blk_frozen BK616.out 2
            have hfz331_3 := blk_frozen BK616.out 3
            have hfz331_4 := blk_frozen BK616.out 4
            have hnb332 := NB605_625.out
            have hnc332 := NB625_605.out
            have hcz333_0 : wr.cell? ⟨gb605, 0, none⟩ = some (.int .i64 a0_0) := bc BK605 0
            have hcz333_1 : wr.cell? ⟨gb605, 1, none⟩ = some (.int .i64 a0_1) := bc BK605 1
            have hcz333_2 : wr.cell? ⟨gb605, 2, none⟩ = some (.int .i64 a0_2) := bc BK605 2
            have hcz333_3 : wr.cell? ⟨gb605, 3, none⟩ = some (.int .i64 a0_3) := bc BK605 3
            have hcz333_4 : wr.cell? ⟨gb605, 4, none⟩ = some (.slice A0_4 l0_4.length c0_4) := bc BK605 4
            have hfz333_0 := blk_frozen BK605.out 0
            have hfz333_1 := blk_frozen BK605.out 1
            have hfz333_2 := blk_frozen BK605.out 2
            have hfz333_3 := blk_frozen BK605.out 3
            have hfz333_4 := blk_frozen BK605.out 4
            go_wp2_with (first | ((with_reducible refine gate_callee (f := 33) rfl ?_); refine goesL_ (some 149) rfl rfl Try.func33 (by kernel_rfl) rfl #[.agg #[.int .i64 a0_0, .int .i64 a0_1, .int .i64 a0_2, .int .i64 a0_3, .slice A0_4 l0_4.length c0_4]] rfl upL ?_; (with_reducible refine (plane_Limits.calls k3 a0_0 a0_1 a0_2 a0_3 _ _ l0_4 t640 t641 false _ ?side1 ?side2 A204.out).mono ?_); (case side1 => repeat (first | exact (Kd.C_below HR0_4.out HB.out) | (with_reducible refine Kd.C_alloc ?_ _) | (with_reducible refine Kd.C_drewN ?_ _) | (with_reducible refine Kd.C_drew ?_))); (case side2 => exact HC0_4.out); rintro e w334 ⟨rfl, hb⟩; refine ⟨_, rfl, ?_⟩; replace HO_617004 := Aside0.mk (Kd.R_below (upR HO_617004.out) hb); replace HO_626004 := Aside0.mk (Kd.R_below (upR HO_626004.out) hb); replace BK605 := Aside0.mk (blk_below (g := gb605) (o := .cells #[.int .i64 a0_0, .int .i64 a0_1, .int .i64 a0_2, .int .i64 a0_3, .slice A0_4 l0_4.length c0_4] 26 (0, 0)) (upK BK605.out) hb); replace BK616 := Aside0.mk (blk_below (g := gb616) (o := .cells #[.int .i64 t608, .int .i64 t609, .int .i64 t610, .int .i64 t611, .slice Ao23 t612.length co23] 26 (0, 0)) (upK BK616.out) hb); replace BK625 := Aside0.mk (blk_below (g := gb625) (o := .cells #[.int .i64 t617, .int .i64 t618, .int .i64 t619, .int .i64 t620, .slice Ao29 t621.length co29] 26 (0, 0)) (upK BK625.out) hb); replace HB := Aside0.mk (below_step (upB HB.out) hb); (try clear hb; try clear hb2; try clear hk; try clear hi); have hcz335_0 : w334.cell? ⟨gb605, 0, none⟩ = some (.int .i64 a0_0) := bc BK605 0; have hcz335_1 : w334.cell? ⟨gb605, 1, none⟩ = some (.int .i64 a0_1) := bc BK605 1; have hcz335_2 : w334.cell? ⟨gb605, 2, none⟩ = some (.int .i64 a0_2) := bc BK605 2; have hcz335_3 : w334.cell? ⟨gb605, 3, none⟩ = some (.int .i64 a0_3) := bc BK605 3; have hcz335_4 : w334.cell? ⟨gb605, 4, none⟩ = some (.slice A0_4 l0_4.length c0_4) := bc BK605 4; have hfz335_0 := blk_frozen BK605.out 0; have hfz335_1 := blk_frozen BK605.out 1; have hfz335_2 := blk_frozen BK605.out 2; have hfz335_3 := blk_frozen BK605.out 3; have hfz335_4 := blk_frozen BK605.out 4) | (go_at_call 14; (with_reducible refine (waveletlaw02_exampleHolds.calls k3  t643 _ A328.out).mono ?_); rintro e w336 ⟨rfl, hb⟩; replace HO_617004 := Aside0.mk (Kd.R_below (upR HO_617004.out) hb); replace HO_626004 := Aside0.mk (Kd.R_below (upR HO_626004.out) hb); replace BK605 := Aside0.mk (blk_below (g := gb605) (o := .cells #[.int .i64 a0_0, .int .i64 a0_1, .int .i64 a0_2, .int .i64 a0_3, .slice A0_4 l0_4.length c0_4] 26 (0, 0)) (upK BK605.out) hb); replace BK616 := Aside0.mk (blk_below (g := gb616) (o := .cells #[.int .i64 t608, .int .i64 t609, .int .i64 t610, .int .i64 t611, .slice Ao23 t612.length co23] 26 (0, 0)) (upK BK616.out) hb); replace BK625 := Aside0.mk (blk_below (g := gb625) (o := .cells #[.int .i64 t617, .int .i64 t618, .int .i64 t619, .int .i64 t620, .slice Ao29 t621.length co29] 26 (0, 0)) (upK BK625.out) hb); replace HB := Aside0.mk (below_step (upB HB.out) hb); (try clear hb; try clear hb2; try clear hk; try clear hi)))
            go_ret
            exact ⟨by first | rfl | (simp [errW_none, errW_some] <;> rfl) | (simp [*, errW_none, errW_some] <;> rfl), by repeat (first | (with_reducible first | exact HB.out | apply below_alloc | apply pw_below_drewN | apply below_drew1 | refine below_set ?_ GE605.out | refine below_set ?_ GE616.out | refine below_set ?_ GE625.out) | exact HB.out)⟩
           ·rw [if_neg c327] at H
            exact absurd (Option.some.inj H) (by rw [hr_]; decide)
end Go.Proofs.Ythemchggmlpdhaa.Q
