-- By a program of this session (wip/tools/mk.py), out of the kit's print of the translation; Lean checks it.
import Derived.Test.YthemchggmlpdhaaUp2
import Derived.Test.YthemchggmlpdhaaUp
import Derived.Test.YthemchggmlpdhaaQ0
import Derived.Test.YthemchggmlpdhaaQ29
import Derived.Test.YthemchggmlpdhaaQ30
import Derived.Test.YthemchggmlpdhaaQ31
namespace Go.Proofs.Ythemchggmlpdhaa.Q
open Go.RowKit Go.Proofs.YthemchggmlpdhaaW.PrintWords Go.Proofs.YthemchggmlpdhaaW.PrintLast Go.Proofs.YthemchggmlpdhaaW.PrintMore
attribute [local go_sem] max2_int min2_int max_two min_two max_three min_three max_four min_four   -- for this text's walks alone
set_option linter.unusedVariables false
set_option linter.unusedSimpArgs false

/-! ### waveletref02_Paste: function 30 -/
mutual
def waveletref02_Paste.j0 : Nat → Bool → Int → Int → Int → Int → List Int → Int → Int → Int → Int → List Int → Option (Int × Int × Int × Int × List Int × Int)
 | 0, _, _, _, _, _, _, _, _, _, _, _ => none
 | k + 1, x17, x487000, x487001, x487002, x487003, x487004, x488000, x488001, x488002, x488003, x488004 => if x17 = true then (some (0, 0, 0, 0, ([] : List Int), 1)) else (waveletref02_Paste.l0 k x487001 x487000 x487001 x487002 x487003 x487004 x488000 x488001 x488002 x488003 x488004 x487000 x487001 x487002 x487003 ([] : List Int))
def waveletref02_Paste.l0 : Nat → Int → Int → Int → Int → Int → List Int → Int → Int → Int → Int → List Int → Int → Int → Int → Int → List Int → Option (Int × Int × Int × Int × List Int × Int)
 | 0, _, _, _, _, _, _, _, _, _, _, _, _, _, _, _, _ => none
 | k + 1, x7, x487000, x487001, x487002, x487003, x487004, x488000, x488001, x488002, x488003, x488004, x492000, x492001, x492002, x492003, x492004 => if x7 < x487003 then (waveletref02_Paste.l1 k x7 x487000 x487000 x487001 x487002 x487003 x487004 x488000 x488001 x488002 x488003 x488004 x492000 x492001 x492002 x492003 x492004) else (some (x492000, x492001, x492002, x492003, x492004, 0))
def waveletref02_Paste.l1 : Nat → Int → Int → Int → Int → Int → Int → List Int → Int → Int → Int → Int → List Int → Int → Int → Int → Int → List Int → Option (Int × Int × Int × Int × List Int × Int)
 | 0, _, _, _, _, _, _, _, _, _, _, _, _, _, _, _, _, _ => none
 | k + 1, x7, x8, x487000, x487001, x487002, x487003, x487004, x488000, x488001, x488002, x488003, x488004, x492000, x492001, x492002, x492003, x492004 => if x8 < x487002 then ((waveletref02_Get.f x487000 x487001 x487002 x487003 x487004 x8 x7).bind fun t492 => ((waveletref01_Has.f x488000 x488001 x488002 x488003 x8 x7).bind fun t493 => (if t493 = true then ((waveletref02_Get.f x488000 x488001 x488002 x488003 x488004 x8 x7).bind fun t494 => (if x492004.length < 17592186044416 then (waveletref02_Paste.l1 k x7 (wrap64 (x8 + 1)) x487000 x487001 x487002 x487003 x487004 x488000 x488001 x488002 x488003 x488004 x492000 x492001 x492002 x492003 (x492004 ++ [t494])) else (none))) else (if x492004.length < 17592186044416 then (waveletref02_Paste.l1 k x7 (wrap64 (x8 + 1)) x487000 x487001 x487002 x487003 x487004 x488000 x488001 x488002 x488003 x488004 x492000 x492001 x492002 x492003 (x492004 ++ [t492])) else (none))))) else (waveletref02_Paste.l0 k (wrap64 (x7 + 1)) x487000 x487001 x487002 x487003 x487004 x488000 x488001 x488002 x488003 x488004 x492000 x492001 x492002 x492003 x492004)
end
def waveletref02_Paste.f (k : Nat) (a0_0 : Int) (a0_1 : Int) (a0_2 : Int) (a0_3 : Int) (l0_4 : List Int) (a1_0 : Int) (a1_1 : Int) (a1_2 : Int) (a1_3 : Int) (l1_4 : List Int) : Option (Int × Int × Int × Int × List Int × Int) := (waveletref02_Valid.f a0_0 a0_1 a0_2 a0_3 l0_4).bind fun t489 => (if t489 = true then ((waveletref02_Valid.f a1_0 a1_1 a1_2 a1_3 l1_4).bind fun t490 => (waveletref02_Paste.j0 k (!t490) a0_0 a0_1 a0_2 a0_3 l0_4 a1_0 a1_1 a1_2 a1_3 l1_4)) else (waveletref02_Paste.j0 k true a0_0 a0_1 a0_2 a0_3 l0_4 a1_0 a1_1 a1_2 a1_3 l1_4))
theorem waveletref02_Paste.mono_l : ∀ k, (∀ y0 y1 y2 y3 y4 y5 y6 y7 y8 y9 y10, LeO (waveletref02_Paste.j0 k y0 y1 y2 y3 y4 y5 y6 y7 y8 y9 y10) (waveletref02_Paste.j0 (k + 1) y0 y1 y2 y3 y4 y5 y6 y7 y8 y9 y10)) ∧ (∀ y0 y1 y2 y3 y4 y5 y6 y7 y8 y9 y10 y11 y12 y13 y14 y15, LeO (waveletref02_Paste.l0 k y0 y1 y2 y3 y4 y5 y6 y7 y8 y9 y10 y11 y12 y13 y14 y15) (waveletref02_Paste.l0 (k + 1) y0 y1 y2 y3 y4 y5 y6 y7 y8 y9 y10 y11 y12 y13 y14 y15)) ∧ (∀ y0 y1 y2 y3 y4 y5 y6 y7 y8 y9 y10 y11 y12 y13 y14 y15 y16, LeO (waveletref02_Paste.l1 k y0 y1 y2 y3 y4 y5 y6 y7 y8 y9 y10 y11 y12 y13 y14 y15 y16) (waveletref02_Paste.l1 (k + 1) y0 y1 y2 y3 y4 y5 y6 y7 y8 y9 y10 y11 y12 y13 y14 y15 y16))
 | 0 => ⟨fun _ _ _ _ _ _ _ _ _ _ _ r h => by simp [waveletref02_Paste.j0] at h, fun _ _ _ _ _ _ _ _ _ _ _ _ _ _ _ _ r h => by simp [waveletref02_Paste.l0] at h, fun _ _ _ _ _ _ _ _ _ _ _ _ _ _ _ _ _ r h => by simp [waveletref02_Paste.l1] at h⟩
 | k + 1 => by
  obtain ⟨ih0, ih1, ih2⟩ := waveletref02_Paste.mono_l k
  refine ⟨?_, ?_, ?_⟩
  ·intro y0 y1 y2 y3 y4 y5 y6 y7 y8 y9 y10
   unfold waveletref02_Paste.j0
   repeat' first
   | (with_reducible exact ih0 _ _ _ _ _ _ _ _ _ _ _)
   | (with_reducible exact ih1 _ _ _ _ _ _ _ _ _ _ _ _ _ _ _ _)
   | (with_reducible exact ih2 _ _ _ _ _ _ _ _ _ _ _ _ _ _ _ _ _)
   | (with_reducible exact LeO.refl _)
   | (with_reducible exact LeO.none _)
   | (with_reducible refine LeO.ite ?_ ?_)
   | (with_reducible refine LeO.bind ?_ (fun _ => ?_))
   | exact ih0 _ _ _ _ _ _ _ _ _ _ _
   | exact ih1 _ _ _ _ _ _ _ _ _ _ _ _ _ _ _ _
   | exact ih2 _ _ _ _ _ _ _ _ _ _ _ _ _ _ _ _ _
   | exact LeO.none _
   | refine LeO.ite ?_ ?_
   | refine LeO.bind ?_ (fun _ => ?_)
  ·intro y0 y1 y2 y3 y4 y5 y6 y7 y8 y9 y10 y11 y12 y13 y14 y15
   unfold waveletref02_Paste.l0
   repeat' first
   | (with_reducible exact ih0 _ _ _ _ _ _ _ _ _ _ _)
   | (with_reducible exact ih1 _ _ _ _ _ _ _ _ _ _ _ _ _ _ _ _)
   | (with_reducible exact ih2 _ _ _ _ _ _ _ _ _ _ _ _ _ _ _ _ _)
   | (with_reducible exact LeO.refl _)
   | (with_reducible exact LeO.none _)
   | (with_reducible refine LeO.ite ?_ ?_)
   | (with_reducible refine LeO.bind ?_ (fun _ => ?_))
   | exact ih0 _ _ _ _ _ _ _ _ _ _ _
   | exact ih1 _ _ _ _ _ _ _ _ _ _ _ _ _ _ _ _
   | exact ih2 _ _ _ _ _ _ _ _ _ _ _ _ _ _ _ _ _
   | exact LeO.none _
   | refine LeO.ite ?_ ?_
   | refine LeO.bind ?_ (fun _ => ?_)
  ·intro y0 y1 y2 y3 y4 y5 y6 y7 y8 y9 y10 y11 y12 y13 y14 y15 y16
   unfold waveletref02_Paste.l1
   repeat' first
   | (with_reducible exact ih0 _ _ _ _ _ _ _ _ _ _ _)
   | (with_reducible exact ih1 _ _ _ _ _ _ _ _ _ _ _ _ _ _ _ _)
   | (with_reducible exact ih2 _ _ _ _ _ _ _ _ _ _ _ _ _ _ _ _ _)
   | (with_reducible exact LeO.refl _)
   | (with_reducible exact LeO.none _)
   | (with_reducible refine LeO.ite ?_ ?_)
   | (with_reducible refine LeO.bind ?_ (fun _ => ?_))
   | exact ih0 _ _ _ _ _ _ _ _ _ _ _
   | exact ih1 _ _ _ _ _ _ _ _ _ _ _ _ _ _ _ _
   | exact ih2 _ _ _ _ _ _ _ _ _ _ _ _ _ _ _ _ _
   | exact LeO.none _
   | refine LeO.ite ?_ ?_
   | refine LeO.bind ?_ (fun _ => ?_)
theorem waveletref02_Paste.mono : ∀ a0 a1 a2 a3 a4 a5 a6 a7 a8 a9 k, LeO (waveletref02_Paste.f k a0 a1 a2 a3 a4 a5 a6 a7 a8 a9) (waveletref02_Paste.f (k + 1) a0 a1 a2 a3 a4 a5 a6 a7 a8 a9) := by
 intro a0 a1 a2 a3 a4 a5 a6 a7 a8 a9 k
 obtain ⟨ih0, ih1, ih2⟩ := waveletref02_Paste.mono_l k
 unfold waveletref02_Paste.f
 repeat' first
   | (with_reducible exact ih0 _ _ _ _ _ _ _ _ _ _ _)
   | (with_reducible exact ih1 _ _ _ _ _ _ _ _ _ _ _ _ _ _ _ _)
   | (with_reducible exact ih2 _ _ _ _ _ _ _ _ _ _ _ _ _ _ _ _ _)
   | (with_reducible exact LeO.refl _)
   | (with_reducible exact LeO.none _)
   | (with_reducible refine LeO.ite ?_ ?_)
   | (with_reducible refine LeO.bind ?_ (fun _ => ?_))
   | exact ih0 _ _ _ _ _ _ _ _ _ _ _
   | exact ih1 _ _ _ _ _ _ _ _ _ _ _ _ _ _ _ _
   | exact ih2 _ _ _ _ _ _ _ _ _ _ _ _ _ _ _ _ _
   | exact LeO.none _
   | refine LeO.ite ?_ ?_
   | refine LeO.bind ?_ (fun _ => ?_)
set_option maxHeartbeats 8000000 in
set_option maxRecDepth 100000 in
theorem waveletref02_Paste.calls (k : Nat) (a0_0 : Int) (a0_1 : Int) (a0_2 : Int) (a0_3 : Int) (A0_4 : Option Addr) (c0_4 : Nat) (l0_4 : List Int) (a1_0 : Int) (a1_1 : Int) (a1_2 : Int) (a1_3 : Int) (A1_4 : Option Addr) (c1_4 : Nat) (l1_4 : List Int) (r1 : Int) (r2 : Int) (r3 : Int) (r4 : Int) (r5 : List Int) (r6 : Int) (w : World) (hr0_4 : Kd.C (Kd.int .i64) w A0_4 l0_4.length l0_4) (hc0_4 : l0_4.length ≤ c0_4) (hr1_4 : Kd.C (Kd.int .i64) w A1_4 l1_4.length l1_4) (hc1_4 : l1_4.length ≤ c1_4) (h : waveletref02_Paste.f k a0_0 a0_1 a0_2 a0_3 l0_4 a1_0 a1_1 a1_2 a1_3 l1_4 = some (r1, r2, r3, r4, r5, r6)) :
  Calls Try.prog 30 #[.agg #[.int .i64 a0_0, .int .i64 a0_1, .int .i64 a0_2, .int .i64 a0_3, .slice A0_4 l0_4.length c0_4], .agg #[.int .i64 a1_0, .int .i64 a1_1, .int .i64 a1_2, .int .i64 a1_3, .slice A1_4 l1_4.length c1_4]] w fun e w' => ∃ v4_ : Value, e = .returned (.tuple #[.agg #[.int .i64 r1, .int .i64 r2, .int .i64 r3, .int .i64 r4, v4_], .int .i64 r6]) ∧ Kd.R (Kd.int .i64) 3 w' w.heap.size (fun _ => True) v4_ r5 ∧ Below w.heap.size w w' := by
 have hu26 := Try.underlying26
 have hu23 := Try.underlying23
 have hu53 := Try.underlying53
 have HR0_4 := Aside0.mk hr0_4
 have HC0_4 := Aside0.mk hc0_4
 clear hr0_4 hc0_4
 have HR1_4 := Aside0.mk hr1_4
 have HC1_4 := Aside0.mk hc1_4
 clear hr1_4 hc1_4
 have HB := Aside0.mk (Below.refl w.heap.size w)
 have H : ((waveletref02_Valid.f a0_0 a0_1 a0_2 a0_3 l0_4).bind fun t489 => (if t489 = true then ((waveletref02_Valid.f a1_0 a1_1 a1_2 a1_3 l1_4).bind fun t490 => (waveletref02_Paste.j0 k (!t490) a0_0 a0_1 a0_2 a0_3 l0_4 a1_0 a1_1 a1_2 a1_3 l1_4)) else (waveletref02_Paste.j0 k true a0_0 a0_1 a0_2 a0_3 l0_4 a1_0 a1_1 a1_2 a1_3 l1_4))) = some (r1, r2, r3, r4, r5, r6) := h
 clear h
 have HC3 := Aside0.mk H
 clear H
 go_enter Try.func30, Try.ntmps30
 go_upto_region 1 with (first | ((with_reducible refine gate_dst (N := 2) rfl ?_); refine box_event ?hg (N := 2) ?hd (cs := #[.int .i64 a0_0, .int .i64 a0_1, .int .i64 a0_2, .int .i64 a0_3, .slice A0_4 l0_4.length c0_4]) (t := 26) ?hr ?_; (case hd => rfl); (case hg => rfl); (case hr => first | (go_simp; done) | (go_simp; rfl)); intro gb486 hg w4 hbox hb; have BK486 := Aside0.mk (hbox); have GW486 := Aside0.mk ((by rw [hg]; exact (below_size (upB HB.out)) : w.heap.size ≤ gb486)); have GE486 := Aside0.mk ((by rw [hg]; exact (below_size (upB HB.out)) : w.heap.size ≤ gb486)); replace HB := Aside0.mk (below_step (upB HB.out) hb); clear hb hbox hg) | ((with_reducible refine gate_dst (N := 3) rfl ?_); refine box_event ?hg (N := 3) ?hd (cs := #[.int .i64 a1_0, .int .i64 a1_1, .int .i64 a1_2, .int .i64 a1_3, .slice A1_4 l1_4.length c1_4]) (t := 26) ?hr ?_; (case hd => rfl); (case hg => rfl); (case hr => first | (go_simp; done) | (go_simp; rfl)); intro gb487 hg w5 hbox hb; have BK487 := Aside0.mk (hbox); have GW487 := Aside0.mk ((by rw [hg]; exact (below_size (upB HB.out)) : w.heap.size ≤ gb487)); have GE487 := Aside0.mk ((by rw [hg]; exact (below_size (upB HB.out)) : w.heap.size ≤ gb487)); replace HB := Aside0.mk (below_step (upB HB.out) hb); have NB486_487 := Aside0.mk ((by rw [hg]; exact Nat.ne_of_lt (blk_lt (g := gb486) (o := .cells #[.int .i64 a0_0, .int .i64 a0_1, .int .i64 a0_2, .int .i64 a0_3, .slice A0_4 l0_4.length c0_4] 26 (0, 0)) (upK BK486.out)) : gb486 ≠ gb487)); have NB487_486 := Aside0.mk ((by rw [hg]; exact Nat.ne_of_gt (blk_lt (g := gb486) (o := .cells #[.int .i64 a0_0, .int .i64 a0_1, .int .i64 a0_2, .int .i64 a0_3, .slice A0_4 l0_4.length c0_4] 26 (0, 0)) (upK BK486.out)) : gb487 ≠ gb486)); replace BK486 := Aside0.mk (blk_below (g := gb486) (o := .cells #[.int .i64 a0_0, .int .i64 a0_1, .int .i64 a0_2, .int .i64 a0_3, .slice A0_4 l0_4.length c0_4] 26 (0, 0)) (upK BK486.out) hb); clear hb hbox hg) | ((with_reducible refine gate_dst (N := 4) rfl ?_); refine box_event ?hg (N := 4) ?hd (cs := #[.int .i64 0, .int .i64 0, .int .i64 0, .int .i64 0, .slice none 0 0]) (t := 26) ?hr ?_; (case hd => rfl); (case hg => rfl); (case hr => first | (go_simp; done) | (go_simp; rfl)); intro gb488 hg w6 hbox hb; have BK488 := Aside0.mk (hbox); have GW488 := Aside0.mk ((by rw [hg]; exact (below_size (upB HB.out)) : w.heap.size ≤ gb488)); have GE488 := Aside0.mk ((by rw [hg]; exact (below_size (upB HB.out)) : w.heap.size ≤ gb488)); replace HB := Aside0.mk (below_step (upB HB.out) hb); have NB486_488 := Aside0.mk ((by rw [hg]; exact Nat.ne_of_lt (blk_lt (g := gb486) (o := .cells #[.int .i64 a0_0, .int .i64 a0_1, .int .i64 a0_2, .int .i64 a0_3, .slice A0_4 l0_4.length c0_4] 26 (0, 0)) (upK BK486.out)) : gb486 ≠ gb488)); have NB488_486 := Aside0.mk ((by rw [hg]; exact Nat.ne_of_gt (blk_lt (g := gb486) (o := .cells #[.int .i64 a0_0, .int .i64 a0_1, .int .i64 a0_2, .int .i64 a0_3, .slice A0_4 l0_4.length c0_4] 26 (0, 0)) (upK BK486.out)) : gb488 ≠ gb486)); replace BK486 := Aside0.mk (blk_below (g := gb486) (o := .cells #[.int .i64 a0_0, .int .i64 a0_1, .int .i64 a0_2, .int .i64 a0_3, .slice A0_4 l0_4.length c0_4] 26 (0, 0)) (upK BK486.out) hb); have NB487_488 := Aside0.mk ((by rw [hg]; exact Nat.ne_of_lt (blk_lt (g := gb487) (o := .cells #[.int .i64 a1_0, .int .i64 a1_1, .int .i64 a1_2, .int .i64 a1_3, .slice A1_4 l1_4.length c1_4] 26 (0, 0)) (upK BK487.out)) : gb487 ≠ gb488)); have NB488_487 := Aside0.mk ((by rw [hg]; exact Nat.ne_of_gt (blk_lt (g := gb487) (o := .cells #[.int .i64 a1_0, .int .i64 a1_1, .int .i64 a1_2, .int .i64 a1_3, .slice A1_4 l1_4.length c1_4] 26 (0, 0)) (upK BK487.out)) : gb488 ≠ gb487)); replace BK487 := Aside0.mk (blk_below (g := gb487) (o := .cells #[.int .i64 a1_0, .int .i64 a1_1, .int .i64 a1_2, .int .i64 a1_3, .slice A1_4 l1_4.length c1_4] 26 (0, 0)) (upK BK487.out) hb); clear hb hbox hg))
 (try simp only [Act.put, List.setIfInBounds_toArray, List.set_cons_zero, List.set_cons_succ])
 go_cut [17] (fun v17 wc => ∃ (kq : Nat) (x17_2 : Bool), v17 = .bool x17_2 ∧ Aside0 (waveletref02_Paste.j0 kq x17_2 a0_0 a0_1 a0_2 a0_3 l0_4 a1_0 a1_1 a1_2 a1_3 l1_4 = some (r1, r2, r3, r4, r5, r6)) ∧ Aside0 (kq ≤ k) ∧ Aside0 (wc.heap[gb486]? = some (.cells #[.int .i64 a0_0, .int .i64 a0_1, .int .i64 a0_2, .int .i64 a0_3, (.slice A0_4 l0_4.length c0_4)] 26 (0, 0))) ∧ Aside0 (wc.heap[gb487]? = some (.cells #[.int .i64 a1_0, .int .i64 a1_1, .int .i64 a1_2, .int .i64 a1_3, (.slice A1_4 l1_4.length c1_4)] 26 (0, 0))) ∧ Aside0 (wc.heap[gb488]? = some (.cells #[.int .i64 0, .int .i64 0, .int .i64 0, .int .i64 0, (.slice none 0 0)] 26 (0, 0))) ∧ Aside0 (Below w.heap.size w wc))
 case first =>
  have H := HC3.out
  clear HC3
  replace H := Option.bind_eq_some_iff.mp H
  obtain ⟨t489, A70, H⟩ := H
  replace H : (if t489 = true then ((waveletref02_Valid.f a1_0 a1_1 a1_2 a1_3 l1_4).bind fun t490 => (waveletref02_Paste.j0 k (!t490) a0_0 a0_1 a0_2 a0_3 l0_4 a1_0 a1_1 a1_2 a1_3 l1_4)) else (waveletref02_Paste.j0 k true a0_0 a0_1 a0_2 a0_3 l0_4 a1_0 a1_1 a1_2 a1_3 l1_4)) = some (r1, r2, r3, r4, r5, r6) := H
  have A7 := Aside0.mk A70
  clear A70
  by_cases c8 : t489 = true
  ·subst c8
   have H1 : ((waveletref02_Valid.f a1_0 a1_1 a1_2 a1_3 l1_4).bind fun t490 => (waveletref02_Paste.j0 k (!t490) a0_0 a0_1 a0_2 a0_3 l0_4 a1_0 a1_1 a1_2 a1_3 l1_4)) = some (r1, r2, r3, r4, r5, r6) := by rw [if_pos rfl] at H; exact H
   clear H
   have H := H1
   clear H1
   replace H := Option.bind_eq_some_iff.mp H
   obtain ⟨t490, A90, H⟩ := H
   replace H : (waveletref02_Paste.j0 k (!t490) a0_0 a0_1 a0_2 a0_3 l0_4 a1_0 a1_1 a1_2 a1_3 l1_4) = some (r1, r2, r3, r4, r5, r6) := H
   have A9 := Aside0.mk A90
   clear A90
   have H' := Aside0.mk H
   clear H
   have hnb10 := NB486_487.out
   have hnc10 := NB487_486.out
   have hnb11 := NB486_488.out
   have hnc11 := NB488_486.out
   have hcz12_0 : w6.cell? ⟨gb486, 0, none⟩ = some (.int .i64 a0_0) := bc BK486 0
   have hcz12_1 : w6.cell? ⟨gb486, 1, none⟩ = some (.int .i64 a0_1) := bc BK486 1
   have hcz12_2 : w6.cell? ⟨gb486, 2, none⟩ = some (.int .i64 a0_2) := bc BK486 2
   have hcz12_3 : w6.cell? ⟨gb486, 3, none⟩ = some (.int .i64 a0_3) := bc BK486 3
   have hcz12_4 : w6.cell? ⟨gb486, 4, none⟩ = some (.slice A0_4 l0_4.length c0_4) := bc BK486 4
   have hfz12_0 := blk_frozen BK486.out 0
   have hfz12_1 := blk_frozen BK486.out 1
   have hfz12_2 := blk_frozen BK486.out 2
   have hfz12_3 := blk_frozen BK486.out 3
   have hfz12_4 := blk_frozen BK486.out 4
   go_wp2_with (first | ((with_reducible refine gate_callee (f := 21) rfl ?_); refine goesL_ (some 11) rfl rfl Try.func21 (by kernel_rfl) rfl #[.agg #[.int .i64 a0_0, .int .i64 a0_1, .int .i64 a0_2, .int .i64 a0_3, .slice A0_4 l0_4.length c0_4]] rfl upL ?_; (with_reducible refine (waveletref02_Valid.calls a0_0 a0_1 a0_2 a0_3 _ _ l0_4 true _ ?side1 ?side2 A7.out).mono ?_); (case side1 => repeat (first | exact (Kd.C_below HR0_4.out HB.out) | (with_reducible refine Kd.C_alloc ?_ _) | (with_reducible refine Kd.C_drewN ?_ _) | (with_reducible refine Kd.C_drew ?_))); (case side2 => exact HC0_4.out); rintro e w13 ⟨rfl, hb⟩; refine ⟨_, rfl, ?_⟩; replace BK486 := Aside0.mk (blk_below (g := gb486) (o := .cells #[.int .i64 a0_0, .int .i64 a0_1, .int .i64 a0_2, .int .i64 a0_3, .slice A0_4 l0_4.length c0_4] 26 (0, 0)) (upK BK486.out) hb); replace BK487 := Aside0.mk (blk_below (g := gb487) (o := .cells #[.int .i64 a1_0, .int .i64 a1_1, .int .i64 a1_2, .int .i64 a1_3, .slice A1_4 l1_4.length c1_4] 26 (0, 0)) (upK BK487.out) hb); replace BK488 := Aside0.mk (blk_below (g := gb488) (o := .cells #[.int .i64 0, .int .i64 0, .int .i64 0, .int .i64 0, .slice none 0 0] 26 (0, 0)) (upK BK488.out) hb); replace HB := Aside0.mk (below_step (upB HB.out) hb); (try clear hb; try clear hb2; try clear hk; try clear hi); have hnb14 := NB487_488.out; have hnc14 := NB488_487.out; have hcz15_0 : w13.cell? ⟨gb487, 0, none⟩ = some (.int .i64 a1_0) := bc BK487 0; have hcz15_1 : w13.cell? ⟨gb487, 1, none⟩ = some (.int .i64 a1_1) := bc BK487 1; have hcz15_2 : w13.cell? ⟨gb487, 2, none⟩ = some (.int .i64 a1_2) := bc BK487 2; have hcz15_3 : w13.cell? ⟨gb487, 3, none⟩ = some (.int .i64 a1_3) := bc BK487 3; have hcz15_4 : w13.cell? ⟨gb487, 4, none⟩ = some (.slice A1_4 l1_4.length c1_4) := bc BK487 4; have hfz15_0 := blk_frozen BK487.out 0; have hfz15_1 := blk_frozen BK487.out 1; have hfz15_2 := blk_frozen BK487.out 2; have hfz15_3 := blk_frozen BK487.out 3; have hfz15_4 := blk_frozen BK487.out 4) | (go_at_call 21; (with_reducible refine (waveletref02_Valid.calls a1_0 a1_1 a1_2 a1_3 _ _ l1_4 t490 _ ?side1 ?side2 A9.out).mono ?_); (case side1 => repeat (first | exact (Kd.C_below HR1_4.out HB.out) | (with_reducible refine Kd.C_alloc ?_ _) | (with_reducible refine Kd.C_drewN ?_ _) | (with_reducible refine Kd.C_drew ?_))); (case side2 => exact HC1_4.out); rintro e w16 ⟨rfl, hb⟩; replace BK486 := Aside0.mk (blk_below (g := gb486) (o := .cells #[.int .i64 a0_0, .int .i64 a0_1, .int .i64 a0_2, .int .i64 a0_3, .slice A0_4 l0_4.length c0_4] 26 (0, 0)) (upK BK486.out) hb); replace BK487 := Aside0.mk (blk_below (g := gb487) (o := .cells #[.int .i64 a1_0, .int .i64 a1_1, .int .i64 a1_2, .int .i64 a1_3, .slice A1_4 l1_4.length c1_4] 26 (0, 0)) (upK BK487.out) hb); replace BK488 := Aside0.mk (blk_below (g := gb488) (o := .cells #[.int .i64 0, .int .i64 0, .int .i64 0, .int .i64 0, .slice none 0 0] 26 (0, 0)) (upK BK488.out) hb); replace HB := Aside0.mk (below_step (upB HB.out) hb); (try clear hb; try clear hb2; try clear hk; try clear hi)))
   go_meet
   case rel => exact ⟨_, (!t490), (by first | rfl | (simp; done) | (simp [*]; done)), H', ⟨by first | omega | exact Nat.le_refl _⟩, ⟨by (with_reducible repeat (first | refine blk_drewN ?_ _ | refine blk_drew ?_ | refine blk_alloc ?_ _)); exact BK486.out⟩, ⟨by (with_reducible repeat (first | refine blk_drewN ?_ _ | refine blk_drew ?_ | refine blk_alloc ?_ _)); exact BK487.out⟩, ⟨by (with_reducible repeat (first | refine blk_drewN ?_ _ | refine blk_drew ?_ | refine blk_alloc ?_ _)); exact BK488.out⟩, ⟨by repeat (first | (with_reducible first | exact HB.out | apply below_alloc | apply pw_below_drewN | apply below_drew1 | refine below_set ?_ GE486.out | refine below_set ?_ GE487.out | refine below_set ?_ GE488.out) | exact HB.out)⟩⟩
  ·replace c8 := Bool.eq_false_iff.mpr c8
   subst c8
   have H1 : (waveletref02_Paste.j0 k true a0_0 a0_1 a0_2 a0_3 l0_4 a1_0 a1_1 a1_2 a1_3 l1_4) = some (r1, r2, r3, r4, r5, r6) := by rw [if_neg (show ¬ (false = true) by decide)] at H; exact H
   clear H
   have H := H1
   clear H1
   have H' := Aside0.mk H
   clear H
   have hnb17 := NB486_487.out
   have hnc17 := NB487_486.out
   have hnb18 := NB486_488.out
   have hnc18 := NB488_486.out
   have hcz19_0 : w6.cell? ⟨gb486, 0, none⟩ = some (.int .i64 a0_0) := bc BK486 0
   have hcz19_1 : w6.cell? ⟨gb486, 1, none⟩ = some (.int .i64 a0_1) := bc BK486 1
   have hcz19_2 : w6.cell? ⟨gb486, 2, none⟩ = some (.int .i64 a0_2) := bc BK486 2
   have hcz19_3 : w6.cell? ⟨gb486, 3, none⟩ = some (.int .i64 a0_3) := bc BK486 3
   have hcz19_4 : w6.cell? ⟨gb486, 4, none⟩ = some (.slice A0_4 l0_4.length c0_4) := bc BK486 4
   have hfz19_0 := blk_frozen BK486.out 0
   have hfz19_1 := blk_frozen BK486.out 1
   have hfz19_2 := blk_frozen BK486.out 2
   have hfz19_3 := blk_frozen BK486.out 3
   have hfz19_4 := blk_frozen BK486.out 4
   go_wp2_with (first | ((with_reducible refine gate_callee (f := 21) rfl ?_); refine goesL_ (some 11) rfl rfl Try.func21 (by kernel_rfl) rfl #[.agg #[.int .i64 a0_0, .int .i64 a0_1, .int .i64 a0_2, .int .i64 a0_3, .slice A0_4 l0_4.length c0_4]] rfl upL ?_; (with_reducible refine (waveletref02_Valid.calls a0_0 a0_1 a0_2 a0_3 _ _ l0_4 false _ ?side1 ?side2 A7.out).mono ?_); (case side1 => repeat (first | exact (Kd.C_below HR0_4.out HB.out) | (with_reducible refine Kd.C_alloc ?_ _) | (with_reducible refine Kd.C_drewN ?_ _) | (with_reducible refine Kd.C_drew ?_))); (case side2 => exact HC0_4.out); rintro e w20 ⟨rfl, hb⟩; refine ⟨_, rfl, ?_⟩; replace BK486 := Aside0.mk (blk_below (g := gb486) (o := .cells #[.int .i64 a0_0, .int .i64 a0_1, .int .i64 a0_2, .int .i64 a0_3, .slice A0_4 l0_4.length c0_4] 26 (0, 0)) (upK BK486.out) hb); replace BK487 := Aside0.mk (blk_below (g := gb487) (o := .cells #[.int .i64 a1_0, .int .i64 a1_1, .int .i64 a1_2, .int .i64 a1_3, .slice A1_4 l1_4.length c1_4] 26 (0, 0)) (upK BK487.out) hb); replace BK488 := Aside0.mk (blk_below (g := gb488) (o := .cells #[.int .i64 0, .int .i64 0, .int .i64 0, .int .i64 0, .slice none 0 0] 26 (0, 0)) (upK BK488.out) hb); replace HB := Aside0.mk (below_step (upB HB.out) hb); (try clear hb; try clear hb2; try clear hk; try clear hi)))
   go_meet
   case rel => exact ⟨_, (true), (by first | rfl | (simp; done) | (simp [*]; done)), H', ⟨by first | omega | exact Nat.le_refl _⟩, ⟨by (with_reducible repeat (first | refine blk_drewN ?_ _ | refine blk_drew ?_ | refine blk_alloc ?_ _)); exact BK486.out⟩, ⟨by (with_reducible repeat (first | refine blk_drewN ?_ _ | refine blk_drew ?_ | refine blk_alloc ?_ _)); exact BK487.out⟩, ⟨by (with_reducible repeat (first | refine blk_drewN ?_ _ | refine blk_drew ?_ | refine blk_alloc ?_ _)); exact BK488.out⟩, ⟨by repeat (first | (with_reducible first | exact HB.out | apply below_alloc | apply pw_below_drewN | apply below_drew1 | refine below_set ?_ GE486.out | refine below_set ?_ GE487.out | refine below_set ?_ GE488.out) | exact HB.out)⟩⟩
 case rest =>
  clear HC3
  try clear c1; try clear c2; try clear p2; try clear c3; try clear c8; try clear c10; try clear c11; try clear c14; try clear c17; try clear c18; try clear hcz12_0; try clear hcz12_1; try clear hcz12_2; try clear hcz12_3; try clear hcz12_4; try clear hcz15_0; try clear hcz15_1; try clear hcz15_2; try clear hcz15_3; try clear hcz15_4; try clear hcz19_0; try clear hcz19_1; try clear hcz19_2; try clear hcz19_3; try clear hcz19_4; try clear hfz12_0; try clear hfz12_1; try clear hfz12_2; try clear hfz12_3; try clear hfz12_4; try clear hfz15_0; try clear hfz15_1; try clear hfz15_2; try clear hfz15_3; try clear hfz15_4; try clear hfz19_0; try clear hfz19_1; try clear hfz19_2; try clear hfz19_3; try clear hfz19_4
  obtain ⟨kq, x17_2, rfl, HA, HJ2, BK486, BK487, BK488, HB⟩ := hcut
  cases kq with
  | zero => exact absurd HA.out (by simp [waveletref02_Paste.j0])
  | succ kj2 =>
   have H := HA.out
   clear HA
   simp only [waveletref02_Paste.j0] at H
   by_cases c21 : x17_2 = true
   ·subst c21
    have H1 : (some (0, 0, 0, 0, ([] : List Int), 1)) = some (r1, r2, r3, r4, r5, r6) := by rw [if_pos rfl] at H; exact H
    clear H
    have H := H1
    clear H1
    simp only [Option.some.injEq, Prod.mk.injEq] at H
    obtain ⟨rfl, rfl, rfl, rfl, rfl, rfl⟩ := H
    have hnb22 := NB488_486.out
    have hnc22 := NB486_488.out
    have hnb23 := NB488_487.out
    have hnc23 := NB487_488.out
    have hcz24_0 : wc.cell? ⟨gb488, 0, none⟩ = some (.int .i64 0) := bc BK488 0
    have hcz24_1 : wc.cell? ⟨gb488, 1, none⟩ = some (.int .i64 0) := bc BK488 1
    have hcz24_2 : wc.cell? ⟨gb488, 2, none⟩ = some (.int .i64 0) := bc BK488 2
    have hcz24_3 : wc.cell? ⟨gb488, 3, none⟩ = some (.int .i64 0) := bc BK488 3
    have hcz24_4 : wc.cell? ⟨gb488, 4, none⟩ = some (.slice none 0 0) := bc BK488 4
    have hfz24_0 := blk_frozen BK488.out 0
    have hfz24_1 := blk_frozen BK488.out 1
    have hfz24_2 := blk_frozen BK488.out 2
    have hfz24_3 := blk_frozen BK488.out 3
    have hfz24_4 := blk_frozen BK488.out 4
    go_wp2
    refine bodyPost_ret (results_ct rfl _ _ gb488 26 #[.int .i64 0, .int .i64 0, .int .i64 0, .int .i64 0, .slice none 0 0] (0, 0) _ rfl (by (with_reducible repeat (first | refine blk_drewN ?_ _ | refine blk_drew ?_ | refine blk_alloc ?_ _)); refine blk_put (cs := #[.int .i64 0, .int .i64 0, .int .i64 0, .int .i64 0, .slice none 0 0]) ?_ 4 _ rfl; (with_reducible repeat (first | refine blk_drewN ?_ _ | refine blk_drew ?_ | refine blk_alloc ?_ _)); refine blk_put (cs := #[.int .i64 0, .int .i64 0, .int .i64 0, .int .i64 0, .slice none 0 0]) ?_ 3 _ rfl; (with_reducible repeat (first | refine blk_drewN ?_ _ | refine blk_drew ?_ | refine blk_alloc ?_ _)); refine blk_put (cs := #[.int .i64 0, .int .i64 0, .int .i64 0, .int .i64 0, .slice none 0 0]) ?_ 2 _ rfl; (with_reducible repeat (first | refine blk_drewN ?_ _ | refine blk_drew ?_ | refine blk_alloc ?_ _)); refine blk_put (cs := #[.int .i64 0, .int .i64 0, .int .i64 0, .int .i64 0, .slice none 0 0]) ?_ 1 _ rfl; (with_reducible repeat (first | refine blk_drewN ?_ _ | refine blk_drew ?_ | refine blk_alloc ?_ _)); refine blk_put (cs := #[.int .i64 0, .int .i64 0, .int .i64 0, .int .i64 0, .slice none 0 0]) ?_ 0 _ rfl; (with_reducible repeat (first | refine blk_drewN ?_ _ | refine blk_drew ?_ | refine blk_alloc ?_ _)); exact BK488.out) Try.underlying26 rfl (by kernel_rfl)) rfl ?_
    exact ⟨_, by first | rfl | (simp [errW_none, errW_some] <;> rfl) | (simp [*, errW_none, errW_some] <;> rfl), by first | exact Kd.R_nil _ _ _ _ _ | exact Kd.N_nil _ _ _ _ _ | exact Kd.V_nil _ _ _ _ _ | exact Kd.Q_nil _ _ _ _ _ | exact Kd.S_nil _ _ _ _ _, by repeat (first | (with_reducible first | exact HB.out | apply below_alloc | apply pw_below_drewN | apply below_drew1 | refine below_set ?_ GE486.out | refine below_set ?_ GE487.out | refine below_set ?_ GE488.out) | exact HB.out)⟩
   ·replace c21 := Bool.eq_false_iff.mpr c21
    subst c21
    have H1 : (waveletref02_Paste.l0 kj2 a0_1 a0_0 a0_1 a0_2 a0_3 l0_4 a1_0 a1_1 a1_2 a1_3 l1_4 a0_0 a0_1 a0_2 a0_3 ([] : List Int)) = some (r1, r2, r3, r4, r5, r6) := by rw [if_neg (show ¬ (false = true) by decide)] at H; exact H
    clear H
    have H := H1
    clear H1
    have H' := Aside0.mk H
    clear H
    have hnb25 := NB486_487.out
    have hnc25 := NB487_486.out
    have hnb26 := NB486_488.out
    have hnc26 := NB488_486.out
    have hcz27_0 : wc.cell? ⟨gb486, 0, none⟩ = some (.int .i64 a0_0) := bc BK486 0
    have hcz27_1 : wc.cell? ⟨gb486, 1, none⟩ = some (.int .i64 a0_1) := bc BK486 1
    have hcz27_2 : wc.cell? ⟨gb486, 2, none⟩ = some (.int .i64 a0_2) := bc BK486 2
    have hcz27_3 : wc.cell? ⟨gb486, 3, none⟩ = some (.int .i64 a0_3) := bc BK486 3
    have hcz27_4 : wc.cell? ⟨gb486, 4, none⟩ = some (.slice A0_4 l0_4.length c0_4) := bc BK486 4
    have hfz27_0 := blk_frozen BK486.out 0
    have hfz27_1 := blk_frozen BK486.out 1
    have hfz27_2 := blk_frozen BK486.out 2
    have hfz27_3 := blk_frozen BK486.out 3
    have hfz27_4 := blk_frozen BK486.out 4
    go_wp2_with (first | ((with_reducible refine gate_dst (N := 6) rfl ?_); refine box_event ?hg (N := 6) ?hd (cs := #[.int .i64 0, .int .i64 0, .int .i64 0, .int .i64 0, .slice none 0 0]) (t := 26) ?hr ?_; (case hd => rfl); (case hg => rfl); (case hr => first | (go_simp; done) | (go_simp; rfl)); intro gb491 hg w28 hbox hb; have BK491 := Aside0.mk (hbox); have GW491 := Aside0.mk ((by rw [hg]; exact (below_size (upB HB.out)) : w.heap.size ≤ gb491)); have GE491 := Aside0.mk ((by rw [hg]; exact (below_size (upB HB.out)) : w.heap.size ≤ gb491)); replace HB := Aside0.mk (below_step (upB HB.out) hb); have NB486_491 := Aside0.mk ((by rw [hg]; exact Nat.ne_of_lt (blk_lt (g := gb486) (o := .cells #[.int .i64 a0_0, .int .i64 a0_1, .int .i64 a0_2, .int .i64 a0_3, .slice A0_4 l0_4.length c0_4] 26 (0, 0)) (upK BK486.out)) : gb486 ≠ gb491)); have NB491_486 := Aside0.mk ((by rw [hg]; exact Nat.ne_of_gt (blk_lt (g := gb486) (o := .cells #[.int .i64 a0_0, .int .i64 a0_1, .int .i64 a0_2, .int .i64 a0_3, .slice A0_4 l0_4.length c0_4] 26 (0, 0)) (upK BK486.out)) : gb491 ≠ gb486)); replace BK486 := Aside0.mk (blk_below (g := gb486) (o := .cells #[.int .i64 a0_0, .int .i64 a0_1, .int .i64 a0_2, .int .i64 a0_3, .slice A0_4 l0_4.length c0_4] 26 (0, 0)) (upK BK486.out) hb); have NB487_491 := Aside0.mk ((by rw [hg]; exact Nat.ne_of_lt (blk_lt (g := gb487) (o := .cells #[.int .i64 a1_0, .int .i64 a1_1, .int .i64 a1_2, .int .i64 a1_3, .slice A1_4 l1_4.length c1_4] 26 (0, 0)) (upK BK487.out)) : gb487 ≠ gb491)); have NB491_487 := Aside0.mk ((by rw [hg]; exact Nat.ne_of_gt (blk_lt (g := gb487) (o := .cells #[.int .i64 a1_0, .int .i64 a1_1, .int .i64 a1_2, .int .i64 a1_3, .slice A1_4 l1_4.length c1_4] 26 (0, 0)) (upK BK487.out)) : gb491 ≠ gb487)); replace BK487 := Aside0.mk (blk_below (g := gb487) (o := .cells #[.int .i64 a1_0, .int .i64 a1_1, .int .i64 a1_2, .int .i64 a1_3, .slice A1_4 l1_4.length c1_4] 26 (0, 0)) (upK BK487.out) hb); have NB488_491 := Aside0.mk ((by rw [hg]; exact Nat.ne_of_lt (blk_lt (g := gb488) (o := .cells #[.int .i64 0, .int .i64 0, .int .i64 0, .int .i64 0, .slice none 0 0] 26 (0, 0)) (upK BK488.out)) : gb488 ≠ gb491)); have NB491_488 := Aside0.mk ((by rw [hg]; exact Nat.ne_of_gt (blk_lt (g := gb488) (o := .cells #[.int .i64 0, .int .i64 0, .int .i64 0, .int .i64 0, .slice none 0 0] 26 (0, 0)) (upK BK488.out)) : gb491 ≠ gb488)); replace BK488 := Aside0.mk (blk_below (g := gb488) (o := .cells #[.int .i64 0, .int .i64 0, .int .i64 0, .int .i64 0, .slice none 0 0] 26 (0, 0)) (upK BK488.out) hb); clear hb hbox hg; have hnb29 := NB491_486.out; have hnc29 := NB486_491.out; have hnb30 := NB491_487.out; have hnc30 := NB487_491.out; have hnb31 := NB491_488.out; have hnc31 := NB488_491.out; have hcz32_0 : w28.cell? ⟨gb491, 0, none⟩ = some (.int .i64 0) := bc BK491 0; have hcz32_1 : w28.cell? ⟨gb491, 1, none⟩ = some (.int .i64 0) := bc BK491 1; have hcz32_2 : w28.cell? ⟨gb491, 2, none⟩ = some (.int .i64 0) := bc BK491 2; have hcz32_3 : w28.cell? ⟨gb491, 3, none⟩ = some (.int .i64 0) := bc BK491 3; have hcz32_4 : w28.cell? ⟨gb491, 4, none⟩ = some (.slice none 0 0) := bc BK491 4; have hfz32_0 := blk_frozen BK491.out 0; have hfz32_1 := blk_frozen BK491.out 1; have hfz32_2 := blk_frozen BK491.out 2; have hfz32_3 := blk_frozen BK491.out 3; have hfz32_4 := blk_frozen BK491.out 4; have hcz33_0 : w28.cell? ⟨gb486, 0, none⟩ = some (.int .i64 a0_0) := bc BK486 0; have hcz33_1 : w28.cell? ⟨gb486, 1, none⟩ = some (.int .i64 a0_1) := bc BK486 1; have hcz33_2 : w28.cell? ⟨gb486, 2, none⟩ = some (.int .i64 a0_2) := bc BK486 2; have hcz33_3 : w28.cell? ⟨gb486, 3, none⟩ = some (.int .i64 a0_3) := bc BK486 3; have hcz33_4 : w28.cell? ⟨gb486, 4, none⟩ = some (.slice A0_4 l0_4.length c0_4) := bc BK486 4; have hfz33_0 := blk_frozen BK486.out 0; have hfz33_1 := blk_frozen BK486.out 1; have hfz33_2 := blk_frozen BK486.out 2; have hfz33_3 := blk_frozen BK486.out 3; have hfz33_4 := blk_frozen BK486.out 4))
    go_loopg [7] kj2 (fun kq v7 w' => ∃ (x7_2 : Int) (x492004_2 : List Int) (u492004 : Value), v7 = .int .i64 x7_2 ∧ Aside0 (waveletref02_Paste.l0 kq x7_2 a0_0 a0_1 a0_2 a0_3 l0_4 a1_0 a1_1 a1_2 a1_3 l1_4 a0_0 a0_1 a0_2 a0_3 x492004_2 = some (r1, r2, r3, r4, r5, r6)) ∧ Aside0 (kq ≤ kj2) ∧ Aside0 (Kd.R (Kd.int .i64) 3 w' w.heap.size (fun _ => True) u492004 x492004_2) ∧ Aside0 (w'.heap[gb486]? = some (.cells #[.int .i64 a0_0, .int .i64 a0_1, .int .i64 a0_2, .int .i64 a0_3, (.slice A0_4 l0_4.length c0_4)] 26 (0, 0))) ∧ Aside0 (w'.heap[gb487]? = some (.cells #[.int .i64 a1_0, .int .i64 a1_1, .int .i64 a1_2, .int .i64 a1_3, (.slice A1_4 l1_4.length c1_4)] 26 (0, 0))) ∧ Aside0 (w'.heap[gb488]? = some (.cells #[.int .i64 0, .int .i64 0, .int .i64 0, .int .i64 0, (.slice none 0 0)] 26 (0, 0))) ∧ Aside0 (w'.heap[gb491]? = some (.cells #[.int .i64 a0_0, .int .i64 a0_1, .int .i64 a0_2, .int .i64 a0_3, u492004] 26 (0, 0))) ∧ Aside0 (Below w.heap.size w w'))
    case atStart => exact ⟨(a0_1), (([] : List Int)), (.slice none 0 0), (by first | rfl | (simp; done) | (simp [*]; done)), H', ⟨Nat.le_refl _⟩, ⟨by first | exact Kd.R_nil _ _ _ _ _ | exact Kd.N_nil _ _ _ _ _ | exact Kd.V_nil _ _ _ _ _ | exact Kd.Q_nil _ _ _ _ _ | exact Kd.S_nil _ _ _ _ _⟩, ⟨by (with_reducible repeat (first | refine blk_drewN ?_ _ | refine blk_drew ?_ | refine blk_alloc ?_ _)); refine blk_far ?_ NB486_491.out _; (with_reducible repeat (first | refine blk_drewN ?_ _ | refine blk_drew ?_ | refine blk_alloc ?_ _)); refine blk_far ?_ NB486_491.out _; (with_reducible repeat (first | refine blk_drewN ?_ _ | refine blk_drew ?_ | refine blk_alloc ?_ _)); refine blk_far ?_ NB486_491.out _; (with_reducible repeat (first | refine blk_drewN ?_ _ | refine blk_drew ?_ | refine blk_alloc ?_ _)); refine blk_far ?_ NB486_491.out _; (with_reducible repeat (first | refine blk_drewN ?_ _ | refine blk_drew ?_ | refine blk_alloc ?_ _)); refine blk_far ?_ NB486_491.out _; (with_reducible repeat (first | refine blk_drewN ?_ _ | refine blk_drew ?_ | refine blk_alloc ?_ _)); exact BK486.out⟩, ⟨by (with_reducible repeat (first | refine blk_drewN ?_ _ | refine blk_drew ?_ | refine blk_alloc ?_ _)); refine blk_far ?_ NB487_491.out _; (with_reducible repeat (first | refine blk_drewN ?_ _ | refine blk_drew ?_ | refine blk_alloc ?_ _)); refine blk_far ?_ NB487_491.out _; (with_reducible repeat (first | refine blk_drewN ?_ _ | refine blk_drew ?_ | refine blk_alloc ?_ _)); refine blk_far ?_ NB487_491.out _; (with_reducible repeat (first | refine blk_drewN ?_ _ | refine blk_drew ?_ | refine blk_alloc ?_ _)); refine blk_far ?_ NB487_491.out _; (with_reducible repeat (first | refine blk_drewN ?_ _ | refine blk_drew ?_ | refine blk_alloc ?_ _)); refine blk_far ?_ NB487_491.out _; (with_reducible repeat (first | refine blk_drewN ?_ _ | refine blk_drew ?_ | refine blk_alloc ?_ _)); exact BK487.out⟩, ⟨by (with_reducible repeat (first | refine blk_drewN ?_ _ | refine blk_drew ?_ | refine blk_alloc ?_ _)); refine blk_far ?_ NB488_491.out _; (with_reducible repeat (first | refine blk_drewN ?_ _ | refine blk_drew ?_ | refine blk_alloc ?_ _)); refine blk_far ?_ NB488_491.out _; (with_reducible repeat (first | refine blk_drewN ?_ _ | refine blk_drew ?_ | refine blk_alloc ?_ _)); refine blk_far ?_ NB488_491.out _; (with_reducible repeat (first | refine blk_drewN ?_ _ | refine blk_drew ?_ | refine blk_alloc ?_ _)); refine blk_far ?_ NB488_491.out _; (with_reducible repeat (first | refine blk_drewN ?_ _ | refine blk_drew ?_ | refine blk_alloc ?_ _)); refine blk_far ?_ NB488_491.out _; (with_reducible repeat (first | refine blk_drewN ?_ _ | refine blk_drew ?_ | refine blk_alloc ?_ _)); exact BK488.out⟩, ⟨by (with_reducible repeat (first | refine blk_drewN ?_ _ | refine blk_drew ?_ | refine blk_alloc ?_ _)); refine blk_put (cs := #[.int .i64 a0_0, .int .i64 a0_1, .int .i64 a0_2, .int .i64 a0_3, .slice none 0 0]) ?_ 4 _ rfl; (with_reducible repeat (first | refine blk_drewN ?_ _ | refine blk_drew ?_ | refine blk_alloc ?_ _)); refine blk_put (cs := #[.int .i64 a0_0, .int .i64 a0_1, .int .i64 a0_2, .int .i64 0, .slice none 0 0]) ?_ 3 _ rfl; (with_reducible repeat (first | refine blk_drewN ?_ _ | refine blk_drew ?_ | refine blk_alloc ?_ _)); refine blk_put (cs := #[.int .i64 a0_0, .int .i64 a0_1, .int .i64 0, .int .i64 0, .slice none 0 0]) ?_ 2 _ rfl; (with_reducible repeat (first | refine blk_drewN ?_ _ | refine blk_drew ?_ | refine blk_alloc ?_ _)); refine blk_put (cs := #[.int .i64 a0_0, .int .i64 0, .int .i64 0, .int .i64 0, .slice none 0 0]) ?_ 1 _ rfl; (with_reducible repeat (first | refine blk_drewN ?_ _ | refine blk_drew ?_ | refine blk_alloc ?_ _)); refine blk_put (cs := #[.int .i64 0, .int .i64 0, .int .i64 0, .int .i64 0, .slice none 0 0]) ?_ 0 _ rfl; (with_reducible repeat (first | refine blk_drewN ?_ _ | refine blk_drew ?_ | refine blk_alloc ?_ _)); exact BK491.out⟩, ⟨by repeat (first | (with_reducible first | exact HB.out | apply below_alloc | apply pw_below_drewN | apply below_drew1 | refine below_set ?_ GE486.out | refine below_set ?_ GE487.out | refine below_set ?_ GE488.out | refine below_set ?_ GE491.out) | exact HB.out)⟩⟩
    case round =>
     clear H'
     try clear c1; try clear c2; try clear p2; try clear c3; try clear c8; try clear c10; try clear c11; try clear c14; try clear c17; try clear c18; try clear c21; try clear c22; try clear c23; try clear c25; try clear c26; try clear c29; try clear c30; try clear c31; try clear hcz12_0; try clear hcz12_1; try clear hcz12_2; try clear hcz12_3; try clear hcz12_4; try clear hcz15_0; try clear hcz15_1; try clear hcz15_2; try clear hcz15_3; try clear hcz15_4; try clear hcz19_0; try clear hcz19_1; try clear hcz19_2; try clear hcz19_3; try clear hcz19_4; try clear hcz24_0; try clear hcz24_1; try clear hcz24_2; try clear hcz24_3; try clear hcz24_4; try clear hcz27_0; try clear hcz27_1; try clear hcz27_2; try clear hcz27_3; try clear hcz27_4; try clear hcz32_0; try clear hcz32_1; try clear hcz32_2; try clear hcz32_3; try clear hcz32_4; try clear hcz33_0; try clear hcz33_1; try clear hcz33_2; try clear hcz33_3; try clear hcz33_4; try clear hfz12_0; try clear hfz12_1; try clear hfz12_2; try clear hfz12_3; try clear hfz12_4; try clear hfz15_0; try clear hfz15_1; try clear hfz15_2; try clear hfz15_3; try clear hfz15_4; try clear hfz19_0; try clear hfz19_1; try clear hfz19_2; try clear hfz19_3; try clear hfz19_4; try clear hfz24_0; try clear hfz24_1; try clear hfz24_2; try clear hfz24_3; try clear hfz24_4; try clear hfz27_0; try clear hfz27_1; try clear hfz27_2; try clear hfz27_3; try clear hfz27_4; try clear hfz32_0; try clear hfz32_1; try clear hfz32_2; try clear hfz32_3; try clear hfz32_4; try clear hfz33_0; try clear hfz33_1; try clear hfz33_2; try clear hfz33_3; try clear hfz33_4; try clear p2
     obtain ⟨x7_2, x492004_2, u492004, rfl, HA, HK2, HO_492004, BK486, BK487, BK488, BK491, HB⟩ := hrel
     cases gk with
     | zero => exact absurd HA.out (by simp [waveletref02_Paste.l0])
     | succ k2 =>
      have H := HA.out
      clear HA
      simp only [waveletref02_Paste.l0] at H
      by_cases c34 : x7_2 < a0_3
      ·rw [if_pos c34] at H
       have c34b0 : decide (x7_2 < a0_3) = true := decide_eq_true c34
       clear c34
       have H' := Aside0.mk H
       clear H
       have hnb35 := NB486_487.out
       have hnc35 := NB487_486.out
       have hnb36 := NB486_488.out
       have hnc36 := NB488_486.out
       have hnb37 := NB486_491.out
       have hnc37 := NB491_486.out
       have hcz38_0 : wr.cell? ⟨gb486, 0, none⟩ = some (.int .i64 a0_0) := bc BK486 0
       have hcz38_1 : wr.cell? ⟨gb486, 1, none⟩ = some (.int .i64 a0_1) := bc BK486 1
       have hcz38_2 : wr.cell? ⟨gb486, 2, none⟩ = some (.int .i64 a0_2) := bc BK486 2
       have hcz38_3 : wr.cell? ⟨gb486, 3, none⟩ = some (.int .i64 a0_3) := bc BK486 3
       have hcz38_4 : wr.cell? ⟨gb486, 4, none⟩ = some (.slice A0_4 l0_4.length c0_4) := bc BK486 4
       have hfz38_0 := blk_frozen BK486.out 0
       have hfz38_1 := blk_frozen BK486.out 1
       have hfz38_2 := blk_frozen BK486.out 2
       have hfz38_3 := blk_frozen BK486.out 3
       have hfz38_4 := blk_frozen BK486.out 4
       go_wp2
       go_loopg [8] k2 (fun kq v8 w' => ∃ (x8_3 : Int) (x492004_3 : List Int) (u492004 : Value), v8 = .int .i64 x8_3 ∧ Aside0 (waveletref02_Paste.l1 kq x7_2 x8_3 a0_0 a0_1 a0_2 a0_3 l0_4 a1_0 a1_1 a1_2 a1_3 l1_4 a0_0 a0_1 a0_2 a0_3 x492004_3 = some (r1, r2, r3, r4, r5, r6)) ∧ Aside0 (kq ≤ k2) ∧ Aside0 (Kd.R (Kd.int .i64) 3 w' w.heap.size (fun _ => True) u492004 x492004_3) ∧ Aside0 (w'.heap[gb486]? = some (.cells #[.int .i64 a0_0, .int .i64 a0_1, .int .i64 a0_2, .int .i64 a0_3, (.slice A0_4 l0_4.length c0_4)] 26 (0, 0))) ∧ Aside0 (w'.heap[gb487]? = some (.cells #[.int .i64 a1_0, .int .i64 a1_1, .int .i64 a1_2, .int .i64 a1_3, (.slice A1_4 l1_4.length c1_4)] 26 (0, 0))) ∧ Aside0 (w'.heap[gb488]? = some (.cells #[.int .i64 0, .int .i64 0, .int .i64 0, .int .i64 0, (.slice none 0 0)] 26 (0, 0))) ∧ Aside0 (w'.heap[gb491]? = some (.cells #[.int .i64 a0_0, .int .i64 a0_1, .int .i64 a0_2, .int .i64 a0_3, u492004] 26 (0, 0))) ∧ Aside0 (Below w.heap.size w w'))
       case atStart => exact ⟨(a0_0), (x492004_2), (u492004), (by first | rfl | (simp; done) | (simp [*]; done)), H', ⟨Nat.le_refl _⟩, ⟨by (with_reducible repeat (first | apply Kd.R_alloc | apply Kd.R_drewN | apply Kd.R_drew)); exact HO_492004.out⟩, ⟨by (with_reducible repeat (first | refine blk_drewN ?_ _ | refine blk_drew ?_ | refine blk_alloc ?_ _)); exact BK486.out⟩, ⟨by (with_reducible repeat (first | refine blk_drewN ?_ _ | refine blk_drew ?_ | refine blk_alloc ?_ _)); exact BK487.out⟩, ⟨by (with_reducible repeat (first | refine blk_drewN ?_ _ | refine blk_drew ?_ | refine blk_alloc ?_ _)); exact BK488.out⟩, ⟨by (with_reducible repeat (first | refine blk_drewN ?_ _ | refine blk_drew ?_ | refine blk_alloc ?_ _)); exact BK491.out⟩, ⟨by repeat (first | (with_reducible first | exact HB.out | apply below_alloc | apply pw_below_drewN | apply below_drew1 | refine below_set ?_ GE486.out | refine below_set ?_ GE487.out | refine below_set ?_ GE488.out | refine below_set ?_ GE491.out) | exact HB.out)⟩⟩
       case round =>
        clear H'
        try clear c1; try clear c2; try clear p2; try clear c3; try clear c8; try clear c10; try clear c11; try clear c14; try clear c17; try clear c18; try clear c21; try clear c22; try clear c23; try clear c25; try clear c26; try clear c29; try clear c30; try clear c31; try clear c34; try clear c34b0; try clear c35; try clear c36; try clear c37; try clear hcz12_0; try clear hcz12_1; try clear hcz12_2; try clear hcz12_3; try clear hcz12_4; try clear hcz15_0; try clear hcz15_1; try clear hcz15_2; try clear hcz15_3; try clear hcz15_4; try clear hcz19_0; try clear hcz19_1; try clear hcz19_2; try clear hcz19_3; try clear hcz19_4; try clear hcz24_0; try clear hcz24_1; try clear hcz24_2; try clear hcz24_3; try clear hcz24_4; try clear hcz27_0; try clear hcz27_1; try clear hcz27_2; try clear hcz27_3; try clear hcz27_4; try clear hcz32_0; try clear hcz32_1; try clear hcz32_2; try clear hcz32_3; try clear hcz32_4; try clear hcz33_0; try clear hcz33_1; try clear hcz33_2; try clear hcz33_3; try clear hcz33_4; try clear hcz38_0; try clear hcz38_1; try clear hcz38_2; try clear hcz38_3; try clear hcz38_4; try clear hfz12_0; try clear hfz12_1; try clear hfz12_2; try clear hfz12_3; try clear hfz12_4; try clear hfz15_0; try clear hfz15_1; try clear hfz15_2; try clear hfz15_3; try clear hfz15_4; try clear hfz19_0; try clear hfz19_1; try clear hfz19_2; try clear hfz19_3; try clear hfz19_4; try clear hfz24_0; try clear hfz24_1; try clear hfz24_2; try clear hfz24_3; try clear hfz24_4; try clear hfz27_0; try clear hfz27_1; try clear hfz27_2; try clear hfz27_3; try clear hfz27_4; try clear hfz32_0; try clear hfz32_1; try clear hfz32_2; try clear hfz32_3; try clear hfz32_4; try clear hfz33_0; try clear hfz33_1; try clear hfz33_2; try clear hfz33_3; try clear hfz33_4; try clear hfz38_0; try clear hfz38_1; try clear hfz38_2; try clear hfz38_3; try clear hfz38_4; try clear p2
        obtain ⟨x8_3, x492004_3, u492004, rfl, HA, HK3, HO_492004, BK486, BK487, BK488, BK491, HB⟩ := hrel
        cases gk with
        | zero => exact absurd HA.out (by simp [waveletref02_Paste.l1])
        | succ k3 =>
         have H := HA.out
         clear HA
         simp only [waveletref02_Paste.l1] at H
         by_cases c39 : x8_3 < a0_2
         ·rw [if_pos c39] at H
          have c39b0 : decide (x8_3 < a0_2) = true := decide_eq_true c39
          clear c39
          replace H := Option.bind_eq_some_iff.mp H
          obtain ⟨t492, A400, H⟩ := H
          replace H : ((waveletref01_Has.f a1_0 a1_1 a1_2 a1_3 x8_3 x7_2).bind fun t493 => (if t493 = true then ((waveletref02_Get.f a1_0 a1_1 a1_2 a1_3 l1_4 x8_3 x7_2).bind fun t494 => (if x492004_3.length < 17592186044416 then (waveletref02_Paste.l1 k3 x7_2 (wrap64 (x8_3 + 1)) a0_0 a0_1 a0_2 a0_3 l0_4 a1_0 a1_1 a1_2 a1_3 l1_4 a0_0 a0_1 a0_2 a0_3 (x492004_3 ++ [t494])) else (none))) else (if x492004_3.length < 17592186044416 then (waveletref02_Paste.l1 k3 x7_2 (wrap64 (x8_3 + 1)) a0_0 a0_1 a0_2 a0_3 l0_4 a1_0 a1_1 a1_2 a1_3 l1_4 a0_0 a0_1 a0_2 a0_3 (x492004_3 ++ [t492])) else (none)))) = some (r1, r2, r3, r4, r5, r6) := H
          have A40 := Aside0.mk A400
          clear A400
          replace H := Option.bind_eq_some_iff.mp H
          obtain ⟨t493, A410, H⟩ := H
          replace H : (if t493 = true then ((waveletref02_Get.f a1_0 a1_1 a1_2 a1_3 l1_4 x8_3 x7_2).bind fun t494 => (if x492004_3.length < 17592186044416 then (waveletref02_Paste.l1 k3 x7_2 (wrap64 (x8_3 + 1)) a0_0 a0_1 a0_2 a0_3 l0_4 a1_0 a1_1 a1_2 a1_3 l1_4 a0_0 a0_1 a0_2 a0_3 (x492004_3 ++ [t494])) else (none))) else (if x492004_3.length < 17592186044416 then (waveletref02_Paste.l1 k3 x7_2 (wrap64 (x8_3 + 1)) a0_0 a0_1 a0_2 a0_3 l0_4 a1_0 a1_1 a1_2 a1_3 l1_4 a0_0 a0_1 a0_2 a0_3 (x492004_3 ++ [t492])) else (none))) = some (r1, r2, r3, r4, r5, r6) := H
          have A41 := Aside0.mk A410
          clear A410
          by_cases c42 : t493 = true
          ·subst c42
           have H1 : ((waveletref02_Get.f a1_0 a1_1 a1_2 a1_3 l1_4 x8_3 x7_2).bind fun t494 => (if x492004_3.length < 17592186044416 then (waveletref02_Paste.l1 k3 x7_2 (wrap64 (x8_3 + 1)) a0_0 a0_1 a0_2 a0_3 l0_4 a1_0 a1_1 a1_2 a1_3 l1_4 a0_0 a0_1 a0_2 a0_3 (x492004_3 ++ [t494])) else (none))) = some (r1, r2, r3, r4, r5, r6) := by rw [if_pos rfl] at H; exact H
           clear H
           have H := H1
           clear H1
           replace H := Option.bind_eq_some_iff.mp H
           obtain ⟨t494, A430, H⟩ := H
           replace H : (if x492004_3.length < 17592186044416 then (waveletref02_Paste.l1 k3 x7_2 (wrap64 (x8_3 + 1)) a0_0 a0_1 a0_2 a0_3 l0_4 a1_0 a1_1 a1_2 a1_3 l1_4 a0_0 a0_1 a0_2 a0_3 (x492004_3 ++ [t494])) else (none)) = some (r1, r2, r3, r4, r5, r6) := H
           have A43 := Aside0.mk A430
           clear A430
           by_cases c44 : x492004_3.length < 17592186044416
           ·rw [if_pos c44] at H
            have LMc44 := Aside0.mk c44
            clear c44
            obtain ⟨y495, hy495⟩ : ∃ y_ : List Int, y_ = (x492004_3 ++ [t494]) := ⟨_, rfl⟩
            replace H : (waveletref02_Paste.l1 k3 x7_2 (wrap64 (x8_3 + 1)) a0_0 a0_1 a0_2 a0_3 l0_4 a1_0 a1_1 a1_2 a1_3 l1_4 a0_0 a0_1 a0_2 a0_3 y495) = some (r1, r2, r3, r4, r5, r6) := by first | (rw [hy495]; with_reducible exact H) | (have H2_ := (Option.bind_some _ _).symm.trans H; rw [hy495]; with_reducible exact H2_) | (have H2_ := (Option.bind_some _ _).symm.trans H; with_reducible exact H2_) | with_reducible exact H | (rw [hy495]; exact H) | exact H
            have Ny495 := Aside0.mk hy495
            clear hy495
            have H' := Aside0.mk H
            clear H
            have hnb45 := NB486_487.out
            have hnc45 := NB487_486.out
            have hnb46 := NB486_488.out
            have hnc46 := NB488_486.out
            have hnb47 := NB486_491.out
            have hnc47 := NB491_486.out
            have hcz48_0 : wr.cell? ⟨gb486, 0, none⟩ = some (.int .i64 a0_0) := bc BK486 0
            have hcz48_1 : wr.cell? ⟨gb486, 1, none⟩ = some (.int .i64 a0_1) := bc BK486 1
            have hcz48_2 : wr.cell? ⟨gb486, 2, none⟩ = some (.int .i64 a0_2) := bc BK486 2
            have hcz48_3 : wr.cell? ⟨gb486, 3, none⟩ = some (.int .i64 a0_3) := bc BK486 3
            have hcz48_4 : wr.cell? ⟨gb486, 4, none⟩ = some (.slice A0_4 l0_4.length c0_4) := bc BK486 4
            have hfz48_0 := blk_frozen BK486.out 0
            have hfz48_1 := blk_frozen BK486.out 1
            have hfz48_2 := blk_frozen BK486.out 2
            have hfz48_3 := blk_frozen BK486.out 3
            have hfz48_4 := blk_frozen BK486.out 4
            go_wp2_with (first | ((with_reducible refine gate_callee (f := 45) rfl ?_); refine goesL_ (some 45) rfl rfl Try.func45 (by kernel_rfl) rfl #[.agg #[.int .i64 a0_0, .int .i64 a0_1, .int .i64 a0_2, .int .i64 a0_3, .slice A0_4 l0_4.length c0_4], .int .i64 x8_3, .int .i64 x7_2] rfl upL ?_; (with_reducible refine (waveletref02_Get.calls a0_0 a0_1 a0_2 a0_3 _ _ l0_4 x8_3 x7_2 t492 _ ?side1 ?side2 A40.out).mono ?_); (case side1 => repeat (first | exact (Kd.C_below HR0_4.out HB.out) | (with_reducible refine Kd.C_alloc ?_ _) | (with_reducible refine Kd.C_drewN ?_ _) | (with_reducible refine Kd.C_drew ?_))); (case side2 => exact HC0_4.out); rintro e w49 ⟨rfl, hb⟩; refine ⟨_, rfl, ?_⟩; replace HO_492004 := Aside0.mk (Kd.R_below (upR HO_492004.out) hb); replace BK486 := Aside0.mk (blk_below (g := gb486) (o := .cells #[.int .i64 a0_0, .int .i64 a0_1, .int .i64 a0_2, .int .i64 a0_3, .slice A0_4 l0_4.length c0_4] 26 (0, 0)) (upK BK486.out) hb); replace BK487 := Aside0.mk (blk_below (g := gb487) (o := .cells #[.int .i64 a1_0, .int .i64 a1_1, .int .i64 a1_2, .int .i64 a1_3, .slice A1_4 l1_4.length c1_4] 26 (0, 0)) (upK BK487.out) hb); replace BK488 := Aside0.mk (blk_below (g := gb488) (o := .cells #[.int .i64 0, .int .i64 0, .int .i64 0, .int .i64 0, .slice none 0 0] 26 (0, 0)) (upK BK488.out) hb); replace BK491 := Aside0.mk (blk_below (g := gb491) (o := .cells #[.int .i64 a0_0, .int .i64 a0_1, .int .i64 a0_2, .int .i64 a0_3, u492004] 26 (0, 0)) (upK BK491.out) hb); replace HB := Aside0.mk (below_step (upB HB.out) hb); (try clear hb; try clear hb2; try clear hk; try clear hi); have hnb50 := NB487_488.out; have hnc50 := NB488_487.out; have hnb51 := NB487_491.out; have hnc51 := NB491_487.out; have hcz52_0 : w49.cell? ⟨gb487, 0, none⟩ = some (.int .i64 a1_0) := bc BK487 0; have hcz52_1 : w49.cell? ⟨gb487, 1, none⟩ = some (.int .i64 a1_1) := bc BK487 1; have hcz52_2 : w49.cell? ⟨gb487, 2, none⟩ = some (.int .i64 a1_2) := bc BK487 2; have hcz52_3 : w49.cell? ⟨gb487, 3, none⟩ = some (.int .i64 a1_3) := bc BK487 3; have hcz52_4 : w49.cell? ⟨gb487, 4, none⟩ = some (.slice A1_4 l1_4.length c1_4) := bc BK487 4; have hfz52_0 := blk_frozen BK487.out 0; have hfz52_1 := blk_frozen BK487.out 1; have hfz52_2 := blk_frozen BK487.out 2; have hfz52_3 := blk_frozen BK487.out 3; have hfz52_4 := blk_frozen BK487.out 4) | ((with_reducible refine gate_callee (f := 44) rfl ?_); refine goesL_ (some 51) rfl rfl Try.func44 (by kernel_rfl) rfl #[.agg #[.int .i64 a1_0, .int .i64 a1_1, .int .i64 a1_2, .int .i64 a1_3], .agg #[.int .i64 x8_3, .int .i64 x7_2]] rfl upL ?_; (with_reducible refine (waveletref01_Has.calls a1_0 a1_1 a1_2 a1_3 x8_3 x7_2 true _ A41.out).mono ?_); rintro e w53 ⟨rfl, hb⟩; refine ⟨_, rfl, ?_⟩; replace HO_492004 := Aside0.mk (Kd.R_below (upR HO_492004.out) hb); replace BK486 := Aside0.mk (blk_below (g := gb486) (o := .cells #[.int .i64 a0_0, .int .i64 a0_1, .int .i64 a0_2, .int .i64 a0_3, .slice A0_4 l0_4.length c0_4] 26 (0, 0)) (upK BK486.out) hb); replace BK487 := Aside0.mk (blk_below (g := gb487) (o := .cells #[.int .i64 a1_0, .int .i64 a1_1, .int .i64 a1_2, .int .i64 a1_3, .slice A1_4 l1_4.length c1_4] 26 (0, 0)) (upK BK487.out) hb); replace BK488 := Aside0.mk (blk_below (g := gb488) (o := .cells #[.int .i64 0, .int .i64 0, .int .i64 0, .int .i64 0, .slice none 0 0] 26 (0, 0)) (upK BK488.out) hb); replace BK491 := Aside0.mk (blk_below (g := gb491) (o := .cells #[.int .i64 a0_0, .int .i64 a0_1, .int .i64 a0_2, .int .i64 a0_3, u492004] 26 (0, 0)) (upK BK491.out) hb); replace HB := Aside0.mk (below_step (upB HB.out) hb); (try clear hb; try clear hb2; try clear hk; try clear hi); have hcz54_0 : w53.cell? ⟨gb487, 0, none⟩ = some (.int .i64 a1_0) := bc BK487 0; have hcz54_1 : w53.cell? ⟨gb487, 1, none⟩ = some (.int .i64 a1_1) := bc BK487 1; have hcz54_2 : w53.cell? ⟨gb487, 2, none⟩ = some (.int .i64 a1_2) := bc BK487 2; have hcz54_3 : w53.cell? ⟨gb487, 3, none⟩ = some (.int .i64 a1_3) := bc BK487 3; have hcz54_4 : w53.cell? ⟨gb487, 4, none⟩ = some (.slice A1_4 l1_4.length c1_4) := bc BK487 4; have hfz54_0 := blk_frozen BK487.out 0; have hfz54_1 := blk_frozen BK487.out 1; have hfz54_2 := blk_frozen BK487.out 2; have hfz54_3 := blk_frozen BK487.out 3; have hfz54_4 := blk_frozen BK487.out 4) | ((with_reducible refine gate_callee (f := 45) rfl ?_); refine goesL_ (some 55) rfl rfl Try.func45 (by kernel_rfl) rfl #[.agg #[.int .i64 a1_0, .int .i64 a1_1, .int .i64 a1_2, .int .i64 a1_3, .slice A1_4 l1_4.length c1_4], .int .i64 x8_3, .int .i64 x7_2] rfl upL ?_; (with_reducible refine (waveletref02_Get.calls a1_0 a1_1 a1_2 a1_3 _ _ l1_4 x8_3 x7_2 t494 _ ?side1 ?side2 A43.out).mono ?_); (case side1 => repeat (first | exact (Kd.C_below HR1_4.out HB.out) | (with_reducible refine Kd.C_alloc ?_ _) | (with_reducible refine Kd.C_drewN ?_ _) | (with_reducible refine Kd.C_drew ?_))); (case side2 => exact HC1_4.out); rintro e w55 ⟨rfl, hb⟩; refine ⟨_, rfl, ?_⟩; replace HO_492004 := Aside0.mk (Kd.R_below (upR HO_492004.out) hb); replace BK486 := Aside0.mk (blk_below (g := gb486) (o := .cells #[.int .i64 a0_0, .int .i64 a0_1, .int .i64 a0_2, .int .i64 a0_3, .slice A0_4 l0_4.length c0_4] 26 (0, 0)) (upK BK486.out) hb); replace BK487 := Aside0.mk (blk_below (g := gb487) (o := .cells #[.int .i64 a1_0, .int .i64 a1_1, .int .i64 a1_2, .int .i64 a1_3, .slice A1_4 l1_4.length c1_4] 26 (0, 0)) (upK BK487.out) hb); replace BK488 := Aside0.mk (blk_below (g := gb488) (o := .cells #[.int .i64 0, .int .i64 0, .int .i64 0, .int .i64 0, .slice none 0 0] 26 (0, 0)) (upK BK488.out) hb); replace BK491 := Aside0.mk (blk_below (g := gb491) (o := .cells #[.int .i64 a0_0, .int .i64 a0_1, .int .i64 a0_2, .int .i64 a0_3, u492004] 26 (0, 0)) (upK BK491.out) hb); replace HB := Aside0.mk (below_step (upB HB.out) hb); (try clear hb; try clear hb2; try clear hk; try clear hi); have hnb56 := NB491_488.out; have hnc56 := NB488_491.out; have hcz57_0 : w55.cell? ⟨gb491, 0, none⟩ = some (.int .i64 a0_0) := bc BK491 0; have hcz57_1 : w55.cell? ⟨gb491, 1, none⟩ = some (.int .i64 a0_1) := bc BK491 1; have hcz57_2 : w55.cell? ⟨gb491, 2, none⟩ = some (.int .i64 a0_2) := bc BK491 2; have hcz57_3 : w55.cell? ⟨gb491, 3, none⟩ = some (.int .i64 a0_3) := bc BK491 3; have hcz57_4 : w55.cell? ⟨gb491, 4, none⟩ = some (u492004) := bc BK491 4; have hfz57_0 := blk_frozen BK491.out 0; have hfz57_1 := blk_frozen BK491.out 1; have hfz57_2 := blk_frozen BK491.out 2; have hfz57_3 := blk_frozen BK491.out 3; have hfz57_4 := blk_frozen BK491.out 4) | ((with_reducible refine gate_builtin (b := .append) (xs := #[.tmp 57, .tmp 59]) rfl ?_); at_builtin; refine Kd.R_append (Kd.int .i64) (w0 := w) w.heap.size rfl (.tmp 57) (.tmp 59) 24 3 (.int .i64 0) 8 rfl Try.underlying24 info3 rfl (by decide) (by omega) u492004 x492004_3 t494 [.int .i64 t494] (fun _ => True) (fun _ => False) rfl rfl ?aP (fun _ hk => hk.elim) ?aF ?aO ?aB ?aS ?aL ?_; (case aP => exact rfl); (case aB => exact (upB HB.out)); (case aF => exact (fun _ _ => trivial)); (case aO => exact (upR HO_492004.out)); (case aS => exact (below_size (upB HB.out))); (case aL => have := LMc44.out; omega); intro v496 w58 ho hb hg hat; rw [← Ny495.out] at ho; have n0_ := Aside0.mk (blk_grown (g := gb486) (o := .cells #[.int .i64 a0_0, .int .i64 a0_1, .int .i64 a0_2, .int .i64 a0_3, .slice A0_4 l0_4.length c0_4] 26 (0, 0)) (upK BK486.out) hg (Kd.R_ne HO_492004.out BK486.out (by decide))); have n1_ := Aside0.mk (blk_grown (g := gb487) (o := .cells #[.int .i64 a1_0, .int .i64 a1_1, .int .i64 a1_2, .int .i64 a1_3, .slice A1_4 l1_4.length c1_4] 26 (0, 0)) (upK BK487.out) hg (Kd.R_ne HO_492004.out BK487.out (by decide))); have n2_ := Aside0.mk (blk_grown (g := gb488) (o := .cells #[.int .i64 0, .int .i64 0, .int .i64 0, .int .i64 0, .slice none 0 0] 26 (0, 0)) (upK BK488.out) hg (Kd.R_ne HO_492004.out BK488.out (by decide))); have n3_ := Aside0.mk (blk_grown (g := gb491) (o := .cells #[.int .i64 a0_0, .int .i64 a0_1, .int .i64 a0_2, .int .i64 a0_3, u492004] 26 (0, 0)) (upK BK491.out) hg (Kd.R_ne HO_492004.out BK491.out (by decide))); have n4_ := Aside0.mk (hb); have n5_ := Aside0.mk (ho); clear BK486 BK487 BK488 BK491 HB HO_492004; have BK486 := n0_; have BK487 := n1_; have BK488 := n2_; have BK491 := n3_; have HB := n4_; have HO497 := n5_; clear n0_ n1_ n2_ n3_ n4_ n5_; clear ho hb hg hat; obtain ⟨Ao59, co59, eo59⟩ := Kd.R_slice HO497.out; subst eo59; have hcz60_0 : w58.cell? ⟨gb491, 0, none⟩ = some (.int .i64 a0_0) := bc BK491 0; have hcz60_1 : w58.cell? ⟨gb491, 1, none⟩ = some (.int .i64 a0_1) := bc BK491 1; have hcz60_2 : w58.cell? ⟨gb491, 2, none⟩ = some (.int .i64 a0_2) := bc BK491 2; have hcz60_3 : w58.cell? ⟨gb491, 3, none⟩ = some (.int .i64 a0_3) := bc BK491 3; have hcz60_4 : w58.cell? ⟨gb491, 4, none⟩ = some (u492004) := bc BK491 4; have hfz60_0 := blk_frozen BK491.out 0; have hfz60_1 := blk_frozen BK491.out 1; have hfz60_2 := blk_frozen BK491.out 2; have hfz60_3 := blk_frozen BK491.out 3; have hfz60_4 := blk_frozen BK491.out 4))
            go_roundg k3
            case measure => have := HJ2.out; have := HK2.out; have := HK3.out; omega
            case rel => exact ⟨(wrap64 (x8_3 + 1)), (y495), (.slice Ao59 y495.length co59), (by first | rfl | (simp; done) | (simp [*]; done)), H', ⟨by have := HJ2.out; have := HK2.out; have := HK3.out; omega⟩, ⟨by (with_reducible repeat (first | apply Kd.R_alloc | apply Kd.R_drewN | apply Kd.R_drew)); exact Kd.R_mono (Kd.R_far (p := ⟨gb491, 4, none⟩) (Kd.R_types HO497.out BK491.out (by decide)) (fun _ hk => hk.2) (.slice Ao59 y495.length co59)) (fun _ hk => trivial)⟩, ⟨by (with_reducible repeat (first | refine blk_drewN ?_ _ | refine blk_drew ?_ | refine blk_alloc ?_ _)); refine blk_far ?_ NB486_491.out _; (with_reducible repeat (first | refine blk_drewN ?_ _ | refine blk_drew ?_ | refine blk_alloc ?_ _)); exact BK486.out⟩, ⟨by (with_reducible repeat (first | refine blk_drewN ?_ _ | refine blk_drew ?_ | refine blk_alloc ?_ _)); refine blk_far ?_ NB487_491.out _; (with_reducible repeat (first | refine blk_drewN ?_ _ | refine blk_drew ?_ | refine blk_alloc ?_ _)); exact BK487.out⟩, ⟨by (with_reducible repeat (first | refine blk_drewN ?_ _ | refine blk_drew ?_ | refine blk_alloc ?_ _)); refine blk_far ?_ NB488_491.out _; (with_reducible repeat (first | refine blk_drewN ?_ _ | refine blk_drew ?_ | refine blk_alloc ?_ _)); exact BK488.out⟩, ⟨by (with_reducible repeat (first | refine blk_drewN ?_ _ | refine blk_drew ?_ | refine blk_alloc ?_ _)); refine blk_put (cs := #[.int .i64 a0_0, .int .i64 a0_1, .int .i64 a0_2, .int .i64 a0_3, u492004]) ?_ 4 _ rfl; (with_reducible repeat (first | refine blk_drewN ?_ _ | refine blk_drew ?_ | refine blk_alloc ?_ _)); exact BK491.out⟩, ⟨by repeat (first | (with_reducible first | exact HB.out | apply below_alloc | apply pw_below_drewN | apply below_drew1 | refine below_set ?_ GE486.out | refine below_set ?_ GE487.out | refine below_set ?_ GE488.out | refine below_set ?_ GE491.out) | exact HB.out)⟩⟩
           ·rw [if_neg c44] at H
            exact absurd H (by simp)
          ·replace c42 := Bool.eq_false_iff.mpr c42
           subst c42
           have H1 : (if x492004_3.length < 17592186044416 then (waveletref02_Paste.l1 k3 x7_2 (wrap64 (x8_3 + 1)) a0_0 a0_1 a0_2 a0_3 l0_4 a1_0 a1_1 a1_2 a1_3 l1_4 a0_0 a0_1 a0_2 a0_3 (x492004_3 ++ [t492])) else (none)) = some (r1, r2, r3, r4, r5, r6) := by rw [if_neg (show ¬ (false = true) by decide)] at H; exact H
           clear H
           have H := H1
           clear H1
           by_cases c61 : x492004_3.length < 17592186044416
           ·rw [if_pos c61] at H
            have LMc61 := Aside0.mk c61
            clear c61
            obtain ⟨y498, hy498⟩ : ∃ y_ : List Int, y_ = (x492004_3 ++ [t492]) := ⟨_, rfl⟩
            replace H : (waveletref02_Paste.l1 k3 x7_2 (wrap64 (x8_3 + 1)) a0_0 a0_1 a0_2 a0_3 l0_4 a1_0 a1_1 a1_2 a1_3 l1_4 a0_0 a0_1 a0_2 a0_3 y498) = some (r1, r2, r3, r4, r5, r6) := by first | (rw [hy498]; with_reducible exact H) | (have H2_ := (Option.bind_some _ _).symm.trans H; rw [hy498]; with_reducible exact H2_) | (have H2_ := (Option.bind_some _ _).symm.trans H; with_reducible exact H2_) | with_reducible exact H | (rw [hy498]; exact H) | exact H
            have Ny498 := Aside0.mk hy498
            clear hy498
            have H' := Aside0.mk H
            clear H
            have hnb62 := NB486_487.out
            have hnc62 := NB487_486.out
            have hnb63 := NB486_488.out
            have hnc63 := NB488_486.out
            have hnb64 := NB486_491.out
            have hnc64 := NB491_486.out
            have hcz65_0 : wr.cell? ⟨gb486, 0, none⟩ = some (.int .i64 a0_0) := bc BK486 0
            have hcz65_1 : wr.cell? ⟨gb486, 1, none⟩ = some (.int .i64 a0_1) := bc BK486 1
            have hcz65_2 : wr.cell? ⟨gb486, 2, none⟩ = some (.int .i64 a0_2) := bc BK486 2
            have hcz65_3 : wr.cell? ⟨gb486, 3, none⟩ = some (.int .i64 a0_3) := bc BK486 3
            have hcz65_4 : wr.cell? ⟨gb486, 4, none⟩ = some (.slice A0_4 l0_4.length c0_4) := bc BK486 4
            have hfz65_0 := blk_frozen BK486.out 0
            have hfz65_1 := blk_frozen BK486.out 1
            have hfz65_2 := blk_frozen BK486.out 2
            have hfz65_3 := blk_frozen BK486.out 3
            have hfz65_4 := blk_frozen BK486.out 4
            go_wp2_with (first | ((with_reducible refine gate_callee (f := 45) rfl ?_); refine goesL_ (some 45) rfl rfl Try.func45 (by kernel_rfl) rfl #[.agg #[.int .i64 a0_0, .int .i64 a0_1, .int .i64 a0_2, .int .i64 a0_3, .slice A0_4 l0_4.length c0_4], .int .i64 x8_3, .int .i64 x7_2] rfl upL ?_; (with_reducible refine (waveletref02_Get.calls a0_0 a0_1 a0_2 a0_3 _ _ l0_4 x8_3 x7_2 t492 _ ?side1 ?side2 A40.out).mono ?_); (case side1 => repeat (first | exact (Kd.C_below HR0_4.out HB.out) | (with_reducible refine Kd.C_alloc ?_ _) | (with_reducible refine Kd.C_drewN ?_ _) | (with_reducible refine Kd.C_drew ?_))); (case side2 => exact HC0_4.out); rintro e w66 ⟨rfl, hb⟩; refine ⟨_, rfl, ?_⟩; replace HO_492004 := Aside0.mk (Kd.R_below (upR HO_492004.out) hb); replace BK486 := Aside0.mk (blk_below (g := gb486) (o := .cells #[.int .i64 a0_0, .int .i64 a0_1, .int .i64 a0_2, .int .i64 a0_3, .slice A0_4 l0_4.length c0_4] 26 (0, 0)) (upK BK486.out) hb); replace BK487 := Aside0.mk (blk_below (g := gb487) (o := .cells #[.int .i64 a1_0, .int .i64 a1_1, .int .i64 a1_2, .int .i64 a1_3, .slice A1_4 l1_4.length c1_4] 26 (0, 0)) (upK BK487.out) hb); replace BK488 := Aside0.mk (blk_below (g := gb488) (o := .cells #[.int .i64 0, .int .i64 0, .int .i64 0, .int .i64 0, .slice none 0 0] 26 (0, 0)) (upK BK488.out) hb); replace BK491 := Aside0.mk (blk_below (g := gb491) (o := .cells #[.int .i64 a0_0, .int .i64 a0_1, .int .i64 a0_2, .int .i64 a0_3, u492004] 26 (0, 0)) (upK BK491.out) hb); replace HB := Aside0.mk (below_step (upB HB.out) hb); (try clear hb; try clear hb2; try clear hk; try clear hi); have hnb67 := NB487_488.out; have hnc67 := NB488_487.out; have hnb68 := NB487_491.out; have hnc68 := NB491_487.out; have hcz69_0 : w66.cell? ⟨gb487, 0, none⟩ = some (.int .i64 a1_0) := bc BK487 0; have hcz69_1 : w66.cell? ⟨gb487, 1, none⟩ = some (.int .i64 a1_1) := bc BK487 1; have hcz69_2 : w66.cell? ⟨gb487, 2, none⟩ = some (.int .i64 a1_2) := bc BK487 2; have hcz69_3 : w66.cell? ⟨gb487, 3, none⟩ = some (.int .i64 a1_3) := bc BK487 3; have hcz69_4 : w66.cell? ⟨gb487, 4, none⟩ = some (.slice A1_4 l1_4.length c1_4) := bc BK487 4; have hfz69_0 := blk_frozen BK487.out 0; have hfz69_1 := blk_frozen BK487.out 1; have hfz69_2 := blk_frozen BK487.out 2; have hfz69_3 := blk_frozen BK487.out 3; have hfz69_4 := blk_frozen BK487.out 4) | ((with_reducible refine gate_callee (f := 44) rfl ?_); refine goesL_ (some 51) rfl rfl Try.func44 (by kernel_rfl) rfl #[.agg #[.int .i64 a1_0, .int .i64 a1_1, .int .i64 a1_2, .int .i64 a1_3], .agg #[.int .i64 x8_3, .int .i64 x7_2]] rfl upL ?_; (with_reducible refine (waveletref01_Has.calls a1_0 a1_1 a1_2 a1_3 x8_3 x7_2 false _ A41.out).mono ?_); rintro e w70 ⟨rfl, hb⟩; refine ⟨_, rfl, ?_⟩; replace HO_492004 := Aside0.mk (Kd.R_below (upR HO_492004.out) hb); replace BK486 := Aside0.mk (blk_below (g := gb486) (o := .cells #[.int .i64 a0_0, .int .i64 a0_1, .int .i64 a0_2, .int .i64 a0_3, .slice A0_4 l0_4.length c0_4] 26 (0, 0)) (upK BK486.out) hb); replace BK487 := Aside0.mk (blk_below (g := gb487) (o := .cells #[.int .i64 a1_0, .int .i64 a1_1, .int .i64 a1_2, .int .i64 a1_3, .slice A1_4 l1_4.length c1_4] 26 (0, 0)) (upK BK487.out) hb); replace BK488 := Aside0.mk (blk_below (g := gb488) (o := .cells #[.int .i64 0, .int .i64 0, .int .i64 0, .int .i64 0, .slice none 0 0] 26 (0, 0)) (upK BK488.out) hb); replace BK491 := Aside0.mk (blk_below (g := gb491) (o := .cells #[.int .i64 a0_0, .int .i64 a0_1, .int .i64 a0_2, .int .i64 a0_3, u492004] 26 (0, 0)) (upK BK491.out) hb); replace HB := Aside0.mk (below_step (upB HB.out) hb); (try clear hb; try clear hb2; try clear hk; try clear hi); have hnb71 := NB491_488.out; have hnc71 := NB488_491.out; have hcz72_0 : w70.cell? ⟨gb491, 0, none⟩ = some (.int .i64 a0_0) := bc BK491 0; have hcz72_1 : w70.cell? ⟨gb491, 1, none⟩ = some (.int .i64 a0_1) := bc BK491 1; have hcz72_2 : w70.cell? ⟨gb491, 2, none⟩ = some (.int .i64 a0_2) := bc BK491 2; have hcz72_3 : w70.cell? ⟨gb491, 3, none⟩ = some (.int .i64 a0_3) := bc BK491 3; have hcz72_4 : w70.cell? ⟨gb491, 4, none⟩ = some (u492004) := bc BK491 4; have hfz72_0 := blk_frozen BK491.out 0; have hfz72_1 := blk_frozen BK491.out 1; have hfz72_2 := blk_frozen BK491.out 2; have hfz72_3 := blk_frozen BK491.out 3; have hfz72_4 := blk_frozen BK491.out 4) | ((with_reducible refine gate_builtin (b := .append) (xs := #[.tmp 57, .tmp 59]) rfl ?_); at_builtin; refine Kd.R_append (Kd.int .i64) (w0 := w) w.heap.size rfl (.tmp 57) (.tmp 59) 24 3 (.int .i64 0) 8 rfl Try.underlying24 info3 rfl (by decide) (by omega) u492004 x492004_3 t492 [.int .i64 t492] (fun _ => True) (fun _ => False) rfl rfl ?aP (fun _ hk => hk.elim) ?aF ?aO ?aB ?aS ?aL ?_; (case aP => exact rfl); (case aB => exact (upB HB.out)); (case aF => exact (fun _ _ => trivial)); (case aO => exact (upR HO_492004.out)); (case aS => exact (below_size (upB HB.out))); (case aL => have := LMc61.out; omega); intro v499 w73 ho hb hg hat; rw [← Ny498.out] at ho; have n0_ := Aside0.mk (blk_grown (g := gb486) (o := .cells #[.int .i64 a0_0, .int .i64 a0_1, .int .i64 a0_2, .int .i64 a0_3, .slice A0_4 l0_4.length c0_4] 26 (0, 0)) (upK BK486.out) hg (Kd.R_ne HO_492004.out BK486.out (by decide))); have n1_ := Aside0.mk (blk_grown (g := gb487) (o := .cells #[.int .i64 a1_0, .int .i64 a1_1, .int .i64 a1_2, .int .i64 a1_3, .slice A1_4 l1_4.length c1_4] 26 (0, 0)) (upK BK487.out) hg (Kd.R_ne HO_492004.out BK487.out (by decide))); have n2_ := Aside0.mk (blk_grown (g := gb488) (o := .cells #[.int .i64 0, .int .i64 0, .int .i64 0, .int .i64 0, .slice none 0 0] 26 (0, 0)) (upK BK488.out) hg (Kd.R_ne HO_492004.out BK488.out (by decide))); have n3_ := Aside0.mk (blk_grown (g := gb491) (o := .cells #[.int .i64 a0_0, .int .i64 a0_1, .int .i64 a0_2, .int .i64 a0_3, u492004] 26 (0, 0)) (upK BK491.out) hg (Kd.R_ne HO_492004.out BK491.out (by decide))); have n4_ := Aside0.mk (hb); have n5_ := Aside0.mk (ho); clear BK486 BK487 BK488 BK491 HB HO_492004; have BK486 := n0_; have BK487 := n1_; have BK488 := n2_; have BK491 := n3_; have HB := n4_; have HO500 := n5_; clear n0_ n1_ n2_ n3_ n4_ n5_; clear ho hb hg hat; obtain ⟨Ao74, co74, eo74⟩ := Kd.R_slice HO500.out; subst eo74; have hcz75_0 : w73.cell? ⟨gb491, 0, none⟩ = some (.int .i64 a0_0) := bc BK491 0; have hcz75_1 : w73.cell? ⟨gb491, 1, none⟩ = some (.int .i64 a0_1) := bc BK491 1; have hcz75_2 : w73.cell? ⟨gb491, 2, none⟩ = some (.int .i64 a0_2) := bc BK491 2; have hcz75_3 : w73.cell? ⟨gb491, 3, none⟩ = some (.int .i64 a0_3) := bc BK491 3; have hcz75_4 : w73.cell? ⟨gb491, 4, none⟩ = some (u492004) := bc BK491 4; have hfz75_0 := blk_frozen BK491.out 0; have hfz75_1 := blk_frozen BK491.out 1; have hfz75_2 := blk_frozen BK491.out 2; have hfz75_3 := blk_frozen BK491.out 3; have hfz75_4 := blk_frozen BK491.out 4))
            go_roundg k3
            case measure => have := HJ2.out; have := HK2.out; have := HK3.out; omega
            case rel => exact ⟨(wrap64 (x8_3 + 1)), (y498), (.slice Ao74 y498.length co74), (by first | rfl | (simp; done) | (simp [*]; done)), H', ⟨by have := HJ2.out; have := HK2.out; have := HK3.out; omega⟩, ⟨by (with_reducible repeat (first | apply Kd.R_alloc | apply Kd.R_drewN | apply Kd.R_drew)); exact Kd.R_mono (Kd.R_far (p := ⟨gb491, 4, none⟩) (Kd.R_types HO500.out BK491.out (by decide)) (fun _ hk => hk.2) (.slice Ao74 y498.length co74)) (fun _ hk => trivial)⟩, ⟨by (with_reducible repeat (first | refine blk_drewN ?_ _ | refine blk_drew ?_ | refine blk_alloc ?_ _)); refine blk_far ?_ NB486_491.out _; (with_reducible repeat (first | refine blk_drewN ?_ _ | refine blk_drew ?_ | refine blk_alloc ?_ _)); exact BK486.out⟩, ⟨by (with_reducible repeat (first | refine blk_drewN ?_ _ | refine blk_drew ?_ | refine blk_alloc ?_ _)); refine blk_far ?_ NB487_491.out _; (with_reducible repeat (first | refine blk_drewN ?_ _ | refine blk_drew ?_ | refine blk_alloc ?_ _)); exact BK487.out⟩, ⟨by (with_reducible repeat (first | refine blk_drewN ?_ _ | refine blk_drew ?_ | refine blk_alloc ?_ _)); refine blk_far ?_ NB488_491.out _; (with_reducible repeat (first | refine blk_drewN ?_ _ | refine blk_drew ?_ | refine blk_alloc ?_ _)); exact BK488.out⟩, ⟨by (with_reducible repeat (first | refine blk_drewN ?_ _ | refine blk_drew ?_ | refine blk_alloc ?_ _)); refine blk_put (cs := #[.int .i64 a0_0, .int .i64 a0_1, .int .i64 a0_2, .int .i64 a0_3, u492004]) ?_ 4 _ rfl; (with_reducible repeat (first | refine blk_drewN ?_ _ | refine blk_drew ?_ | refine blk_alloc ?_ _)); exact BK491.out⟩, ⟨by repeat (first | (with_reducible first | exact HB.out | apply below_alloc | apply pw_below_drewN | apply below_drew1 | refine below_set ?_ GE486.out | refine below_set ?_ GE487.out | refine below_set ?_ GE488.out | refine below_set ?_ GE491.out) | exact HB.out)⟩⟩
           ·rw [if_neg c61] at H
            exact absurd H (by simp)
         ·rw [if_neg c39] at H
          have c39b0 : decide (x8_3 < a0_2) = false := decide_eq_false c39
          clear c39
          have H' := Aside0.mk H
          clear H
          have hnb76 := NB486_487.out
          have hnc76 := NB487_486.out
          have hnb77 := NB486_488.out
          have hnc77 := NB488_486.out
          have hnb78 := NB486_491.out
          have hnc78 := NB491_486.out
          have hcz79_0 : wr.cell? ⟨gb486, 0, none⟩ = some (.int .i64 a0_0) := bc BK486 0
          have hcz79_1 : wr.cell? ⟨gb486, 1, none⟩ = some (.int .i64 a0_1) := bc BK486 1
          have hcz79_2 : wr.cell? ⟨gb486, 2, none⟩ = some (.int .i64 a0_2) := bc BK486 2
          have hcz79_3 : wr.cell? ⟨gb486, 3, none⟩ = some (.int .i64 a0_3) := bc BK486 3
          have hcz79_4 : wr.cell? ⟨gb486, 4, none⟩ = some (.slice A0_4 l0_4.length c0_4) := bc BK486 4
          have hfz79_0 := blk_frozen BK486.out 0
          have hfz79_1 := blk_frozen BK486.out 1
          have hfz79_2 := blk_frozen BK486.out 2
          have hfz79_3 := blk_frozen BK486.out 3
          have hfz79_4 := blk_frozen BK486.out 4
          go_wp2
          go_roundg k3
          case measure => have := HJ2.out; have := HK2.out; have := HK3.out; omega
          case rel => exact ⟨(wrap64 (x7_2 + 1)), (x492004_3), (u492004), (by first | rfl | (simp; done) | (simp [*]; done)), H', ⟨by have := HJ2.out; have := HK2.out; have := HK3.out; omega⟩, ⟨by (with_reducible repeat (first | apply Kd.R_alloc | apply Kd.R_drewN | apply Kd.R_drew)); exact HO_492004.out⟩, ⟨by (with_reducible repeat (first | refine blk_drewN ?_ _ | refine blk_drew ?_ | refine blk_alloc ?_ _)); exact BK486.out⟩, ⟨by (with_reducible repeat (first | refine blk_drewN ?_ _ | refine blk_drew ?_ | refine blk_alloc ?_ _)); exact BK487.out⟩, ⟨by (with_reducible repeat (first | refine blk_drewN ?_ _ | refine blk_drew ?_ | refine blk_alloc ?_ _)); exact BK488.out⟩, ⟨by (with_reducible repeat (first | refine blk_drewN ?_ _ | refine blk_drew ?_ | refine blk_alloc ?_ _)); exact BK491.out⟩, ⟨by repeat (first | (with_reducible first | exact HB.out | apply below_alloc | apply pw_below_drewN | apply below_drew1 | refine below_set ?_ GE486.out | refine below_set ?_ GE487.out | refine below_set ?_ GE488.out | refine below_set ?_ GE491.out) | exact HB.out)⟩⟩
      ·rw [if_neg c34] at H
       have c34b0 : decide (x7_2 < a0_3) = false := decide_eq_false c34
       clear c34
       simp only [Option.some.injEq, Prod.mk.injEq] at H
       obtain ⟨rfl, rfl, rfl, rfl, rfl, rfl⟩ := H
       have hnb80 := NB486_487.out
       have hnc80 := NB487_486.out
       have hnb81 := NB486_488.out
       have hnc81 := NB488_486.out
       have hnb82 := NB486_491.out
       have hnc82 := NB491_486.out
       have hcz83_0 : wr.cell? ⟨gb486, 0, none⟩ = some (.int .i64 a0_0) := bc BK486 0
       have hcz83_1 : wr.cell? ⟨gb486, 1, none⟩ = some (.int .i64 a0_1) := bc BK486 1
       have hcz83_2 : wr.cell? ⟨gb486, 2, none⟩ = some (.int .i64 a0_2) := bc BK486 2
       have hcz83_3 : wr.cell? ⟨gb486, 3, none⟩ = some (.int .i64 a0_3) := bc BK486 3
       have hcz83_4 : wr.cell? ⟨gb486, 4, none⟩ = some (.slice A0_4 l0_4.length c0_4) := bc BK486 4
       have hfz83_0 := blk_frozen BK486.out 0
       have hfz83_1 := blk_frozen BK486.out 1
       have hfz83_2 := blk_frozen BK486.out 2
       have hfz83_3 := blk_frozen BK486.out 3
       have hfz83_4 := blk_frozen BK486.out 4
       have hnb84 := NB491_487.out
       have hnc84 := NB487_491.out
       have hnb85 := NB491_488.out
       have hnc85 := NB488_491.out
       have hcz86_0 : wr.cell? ⟨gb491, 0, none⟩ = some (.int .i64 a0_0) := bc BK491 0
       have hcz86_1 : wr.cell? ⟨gb491, 1, none⟩ = some (.int .i64 a0_1) := bc BK491 1
       have hcz86_2 : wr.cell? ⟨gb491, 2, none⟩ = some (.int .i64 a0_2) := bc BK491 2
       have hcz86_3 : wr.cell? ⟨gb491, 3, none⟩ = some (.int .i64 a0_3) := bc BK491 3
       have hcz86_4 : wr.cell? ⟨gb491, 4, none⟩ = some (u492004) := bc BK491 4
       have hfz86_0 := blk_frozen BK491.out 0
       have hfz86_1 := blk_frozen BK491.out 1
       have hfz86_2 := blk_frozen BK491.out 2
       have hfz86_3 := blk_frozen BK491.out 3
       have hfz86_4 := blk_frozen BK491.out 4
       have hnb87 := NB488_487.out
       have hnc87 := NB487_488.out
       have hcz88_0 : wr.cell? ⟨gb488, 0, none⟩ = some (.int .i64 0) := bc BK488 0
       have hcz88_1 : wr.cell? ⟨gb488, 1, none⟩ = some (.int .i64 0) := bc BK488 1
       have hcz88_2 : wr.cell? ⟨gb488, 2, none⟩ = some (.int .i64 0) := bc BK488 2
       have hcz88_3 : wr.cell? ⟨gb488, 3, none⟩ = some (.int .i64 0) := bc BK488 3
       have hcz88_4 : wr.cell? ⟨gb488, 4, none⟩ = some (.slice none 0 0) := bc BK488 4
       have hfz88_0 := blk_frozen BK488.out 0
       have hfz88_1 := blk_frozen BK488.out 1
       have hfz88_2 := blk_frozen BK488.out 2
       have hfz88_3 := blk_frozen BK488.out 3
       have hfz88_4 := blk_frozen BK488.out 4
       obtain ⟨Ao89, co89, eo89⟩ := Kd.R_slice HO_492004.out
       subst eo89
       go_wp2
       refine bodyPost_ret (results_ct rfl _ _ gb488 26 #[.int .i64 a0_0, .int .i64 a0_1, .int .i64 a0_2, .int .i64 a0_3, .slice Ao89 x492004_2.length co89] (0, 0) _ rfl (by (with_reducible repeat (first | refine blk_drewN ?_ _ | refine blk_drew ?_ | refine blk_alloc ?_ _)); refine blk_put (cs := #[.int .i64 a0_0, .int .i64 a0_1, .int .i64 a0_2, .int .i64 a0_3, .slice none 0 0]) ?_ 4 _ rfl; (with_reducible repeat (first | refine blk_drewN ?_ _ | refine blk_drew ?_ | refine blk_alloc ?_ _)); refine blk_put (cs := #[.int .i64 a0_0, .int .i64 a0_1, .int .i64 a0_2, .int .i64 0, .slice none 0 0]) ?_ 3 _ rfl; (with_reducible repeat (first | refine blk_drewN ?_ _ | refine blk_drew ?_ | refine blk_alloc ?_ _)); refine blk_put (cs := #[.int .i64 a0_0, .int .i64 a0_1, .int .i64 0, .int .i64 0, .slice none 0 0]) ?_ 2 _ rfl; (with_reducible repeat (first | refine blk_drewN ?_ _ | refine blk_drew ?_ | refine blk_alloc ?_ _)); refine blk_put (cs := #[.int .i64 a0_0, .int .i64 0, .int .i64 0, .int .i64 0, .slice none 0 0]) ?_ 1 _ rfl; (with_reducible repeat (first | refine blk_drewN ?_ _ | refine blk_drew ?_ | refine blk_alloc ?_ _)); refine blk_put (cs := #[.int .i64 0, .int .i64 0, .int .i64 0, .int .i64 0, .slice none 0 0]) ?_ 0 _ rfl; (with_reducible repeat (first | refine blk_drewN ?_ _ | refine blk_drew ?_ | refine blk_alloc ?_ _)); exact BK488.out) Try.underlying26 rfl (by kernel_rfl)) rfl ?_
       exact ⟨_, by first | rfl | (simp [errW_none, errW_some] <;> rfl) | (simp [*, errW_none, errW_some] <;> rfl), by (with_reducible repeat (first | apply Kd.R_alloc | apply Kd.R_drewN | apply Kd.R_drew)); exact Kd.R_mono (Kd.R_far (p := ⟨gb488, 4, none⟩) (Kd.R_far (p := ⟨gb488, 3, none⟩) (Kd.R_far (p := ⟨gb488, 2, none⟩) (Kd.R_far (p := ⟨gb488, 1, none⟩) (Kd.R_far (p := ⟨gb488, 0, none⟩) (Kd.R_types HO_492004.out BK488.out (by decide)) (fun _ hk => hk.2) (.int .i64 a0_0)) (fun _ hk => hk.2) (.int .i64 a0_1)) (fun _ hk => hk.2) (.int .i64 a0_2)) (fun _ hk => hk.2) (.int .i64 a0_3)) (fun _ hk => hk.2) (.slice Ao89 x492004_2.length co89)) (fun _ hk => trivial), by repeat (first | (with_reducible first | exact HB.out | apply below_alloc | apply pw_below_drewN | apply below_drew1 | refine below_set ?_ GE486.out | refine below_set ?_ GE487.out | refine below_set ?_ GE488.out | refine below_set ?_ GE491.out) | exact HB.out)⟩

end Go.Proofs.Ythemchggmlpdhaa.Q
