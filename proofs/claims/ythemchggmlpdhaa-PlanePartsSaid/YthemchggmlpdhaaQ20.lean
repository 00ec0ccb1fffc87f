-- By a program of this session (wip/tools/mk.py), out of the kit's print of the translation; Lean checks it.
import Derived.Test.YthemchggmlpdhaaShort
import Derived.Test.YthemchggmlpdhaaUp2
import Derived.Test.YthemchggmlpdhaaUp
import Derived.Test.YthemchggmlpdhaaQ0
import Derived.Test.YthemchggmlpdhaaQ1
import Derived.Test.YthemchggmlpdhaaQ9
import Derived.Test.YthemchggmlpdhaaQ16
import Derived.Test.YthemchggmlpdhaaQ18
namespace Go.Proofs.Ythemchggmlpdhaa.Q
open Go.RowKit Go.Proofs.YthemchggmlpdhaaW.PrintWords Go.Proofs.YthemchggmlpdhaaW.PrintLast Go.Proofs.YthemchggmlpdhaaW.PrintMore
attribute [local go_sem] max2_int min2_int max_two min_two max_three min_three max_four min_four   -- for this text's walks alone
set_option linter.unusedVariables false
set_option linter.unusedSimpArgs false

attribute [local go_sem high] eqA23
/-! ### plane_Paste: function 29 -/
def plane_Paste.j0 : Nat → Bool → Int → Int → Int → Int → List Int → Int → Int → Int → Int → List Int → Option (Int × Int × Int × Int × List Int × Int)
 | 0, _, _, _, _, _, _, _, _, _, _, _ => none
 | k + 1, x15, x184000, x184001, x184002, x184003, x184004, x185000, x185001, x185002, x185003, x185004 => if x15 = true then (some (0, 0, 0, 0, ([] : List Int), 1)) else ((some (([] : List Int) : List Int)).bind fun y188 => (if y188.length + x184004.length < 17592186044416 then ((some (y188 ++ x184004 : List Int)).bind fun y191 => ((rect_Intersect.f x184000 x184001 x184002 x184003 x185000 x185001 x185002 x185003).bind fun bt195 => (if (!(bt195.1 == 0) || (!(bt195.2.1 == 0) || (!(bt195.2.2.1 == 0) || (!(bt195.2.2.2 == 0))))) = true then ((plane_part.f k x184000 x184001 x184002 x184003 y191 x185000 x185001 x185002 x185003 x185004 bt195.1 bt195.2.1 bt195.2.2.1 bt195.2.2.2).bind fun t200 => (some (x184000, x184001, x184002, x184003, t200, 0))) else (some (x184000, x184001, x184002, x184003, y191, 0))))) else (none)))
def plane_Paste.f (k : Nat) (a0_0 : Int) (a0_1 : Int) (a0_2 : Int) (a0_3 : Int) (l0_4 : List Int) (a1_0 : Int) (a1_1 : Int) (a1_2 : Int) (a1_3 : Int) (l1_4 : List Int) : Option (Int × Int × Int × Int × List Int × Int) := (plane_Valid.f a0_0 a0_1 a0_2 a0_3 l0_4).bind fun t186 => (if t186 = true then ((plane_Valid.f a1_0 a1_1 a1_2 a1_3 l1_4).bind fun t187 => (plane_Paste.j0 k (!t187) a0_0 a0_1 a0_2 a0_3 l0_4 a1_0 a1_1 a1_2 a1_3 l1_4)) else (plane_Paste.j0 k true a0_0 a0_1 a0_2 a0_3 l0_4 a1_0 a1_1 a1_2 a1_3 l1_4))
theorem plane_Paste.mono_l : ∀ k, (∀ y0 y1 y2 y3 y4 y5 y6 y7 y8 y9 y10, LeO (plane_Paste.j0 k y0 y1 y2 y3 y4 y5 y6 y7 y8 y9 y10) (plane_Paste.j0 (k + 1) y0 y1 y2 y3 y4 y5 y6 y7 y8 y9 y10))
 | 0 => fun _ _ _ _ _ _ _ _ _ _ _ r h => by simp [plane_Paste.j0] at h
 | k + 1 => by
  have ih0 := plane_Paste.mono_l k
  ·intro y0 y1 y2 y3 y4 y5 y6 y7 y8 y9 y10
   unfold plane_Paste.j0
   repeat' first
   | (with_reducible exact ih0 _ _ _ _ _ _ _ _ _ _ _)
   | (with_reducible exact plane_part.mono _ _ _ _ _ _ _ _ _ _ _ _ _ _ _)
   | (with_reducible exact LeO.refl _)
   | (with_reducible exact LeO.none _)
   | (with_reducible refine LeO.ite ?_ ?_)
   | (with_reducible refine LeO.bind ?_ (fun _ => ?_))
   | exact ih0 _ _ _ _ _ _ _ _ _ _ _
   | exact plane_part.mono _ _ _ _ _ _ _ _ _ _ _ _ _ _ _
   | exact LeO.none _
   | refine LeO.ite ?_ ?_
   | refine LeO.bind ?_ (fun _ => ?_)
theorem plane_Paste.mono : ∀ a0 a1 a2 a3 a4 a5 a6 a7 a8 a9 k, LeO (plane_Paste.f k a0 a1 a2 a3 a4 a5 a6 a7 a8 a9) (plane_Paste.f (k + 1) a0 a1 a2 a3 a4 a5 a6 a7 a8 a9) := by
 intro a0 a1 a2 a3 a4 a5 a6 a7 a8 a9 k
 have ih0 := plane_Paste.mono_l k
 unfold plane_Paste.f
 repeat' first
   | (with_reducible exact ih0 _ _ _ _ _ _ _ _ _ _ _)
   | (with_reducible exact plane_part.mono _ _ _ _ _ _ _ _ _ _ _ _ _ _ _)
   | (with_reducible exact LeO.refl _)
   | (with_reducible exact LeO.none _)
   | (with_reducible refine LeO.ite ?_ ?_)
   | (with_reducible refine LeO.bind ?_ (fun _ => ?_))
   | exact ih0 _ _ _ _ _ _ _ _ _ _ _
   | exact plane_part.mono _ _ _ _ _ _ _ _ _ _ _ _ _ _ _
   | exact LeO.none _
   | refine LeO.ite ?_ ?_
   | refine LeO.bind ?_ (fun _ => ?_)
def plane_Paste.T3 : Bool × List (List Nat × List Nat) := (true, [([], []), ([0], [0]), ([], []), ([], []), ([3], [3]), ([2, 4], [2, 4]), ([1, 5], [1, 5]), ([], []), ([7, 6, 5, 0, 1, 2, 3, 4, 5, 6, 7], [6, 7])])
def plane_Paste.B3 : List Nat := [0, 1, 0, 0, 8, 28, 63, 0, 255]
theorem plane_Paste.tab3 : rtab .any (opsOf Try.f29 3) = plane_Paste.T3 := by kernel_rfl
theorem plane_Paste.bits3 : waitsOk plane_Paste.T3.2 plane_Paste.B3 = true := by kernel_rfl
set_option maxHeartbeats 8000000 in
set_option maxRecDepth 100000 in
theorem plane_Paste.calls (k : Nat) (a0_0 : Int) (a0_1 : Int) (a0_2 : Int) (a0_3 : Int) (A0_4 : Option Addr) (c0_4 : Nat) (l0_4 : List Int) (a1_0 : Int) (a1_1 : Int) (a1_2 : Int) (a1_3 : Int) (A1_4 : Option Addr) (c1_4 : Nat) (l1_4 : List Int) (r1 : Int) (r2 : Int) (r3 : Int) (r4 : Int) (r5 : List Int) (r6 : Int) (w : World) (hr0_4 : Kd.C (Kd.int .i64) w A0_4 l0_4.length l0_4) (hc0_4 : l0_4.length ≤ c0_4) (hr1_4 : Kd.C (Kd.int .i64) w A1_4 l1_4.length l1_4) (hc1_4 : l1_4.length ≤ c1_4) (h : plane_Paste.f k a0_0 a0_1 a0_2 a0_3 l0_4 a1_0 a1_1 a1_2 a1_3 l1_4 = some (r1, r2, r3, r4, r5, r6)) :
  Calls Try.prog 29 #[.agg #[.int .i64 a0_0, .int .i64 a0_1, .int .i64 a0_2, .int .i64 a0_3, .slice A0_4 l0_4.length c0_4], .agg #[.int .i64 a1_0, .int .i64 a1_1, .int .i64 a1_2, .int .i64 a1_3, .slice A1_4 l1_4.length c1_4]] w fun e w' => ∃ v4_ : Value, e = .returned (.tuple #[.agg #[.int .i64 r1, .int .i64 r2, .int .i64 r3, .int .i64 r4, v4_], .int .i64 r6]) ∧ Kd.R (Kd.int .i64) 3 w' w.heap.size (fun _ => True) v4_ r5 ∧ Below w.heap.size w w' := by
 have hu26 := Try.underlying26
 have hu23 := Try.underlying23
 have HR0_4 := AS hr0_4
 have HC0_4 := AS hc0_4
 clear hr0_4 hc0_4
 have HR1_4 := AS hr1_4
 have HC1_4 := AS hc1_4
 clear hr1_4 hc1_4
 have HB := AS (Below.refl w.heap.size w)
 have H : ((plane_Valid.f a0_0 a0_1 a0_2 a0_3 l0_4).bind fun t186 => (if t186 = true then ((plane_Valid.f a1_0 a1_1 a1_2 a1_3 l1_4).bind fun t187 => (plane_Paste.j0 k (!t187) a0_0 a0_1 a0_2 a0_3 l0_4 a1_0 a1_1 a1_2 a1_3 l1_4)) else (plane_Paste.j0 k true a0_0 a0_1 a0_2 a0_3 l0_4 a1_0 a1_1 a1_2 a1_3 l1_4))) = some (r1, r2, r3, r4, r5, r6) := h
 clear h
 have HC3 := AS H
 clear H
 go_enter Try.func29, Try.ntmps29
 go_upto_region 1 with (first | ((with_reducible refine gate_dst (N := 2) rfl ?_); refine box_event ?hg (N := 2) ?hd (cs := #[.int .i64 a0_0, .int .i64 a0_1, .int .i64 a0_2, .int .i64 a0_3, .slice A0_4 l0_4.length c0_4]) (t := 26) ?hr ?_; (case hd => rfl); (case hg => rfl); (case hr => first | (go_simp; done) | (go_simp; rfl)); intro gb183 hg w4 hbox hb; have BK183 := AS (hbox); have GW183 := AS ((by rw [hg]; exact (below_size (upB HB.out)) : w.heap.size ≤ gb183)); have GE183 := AS ((by rw [hg]; exact (below_size (upB HB.out)) : w.heap.size ≤ gb183)); replace HB := AS (below_step (upB HB.out) hb); clear hb hbox hg) | ((with_reducible refine gate_dst (N := 3) rfl ?_); refine box_event ?hg (N := 3) ?hd (cs := #[.int .i64 a1_0, .int .i64 a1_1, .int .i64 a1_2, .int .i64 a1_3, .slice A1_4 l1_4.length c1_4]) (t := 26) ?hr ?_; (case hd => rfl); (case hg => rfl); (case hr => first | (go_simp; done) | (go_simp; rfl)); intro gb184 hg w5 hbox hb; have BK184 := AS (hbox); have GW184 := AS ((by rw [hg]; exact (below_size (upB HB.out)) : w.heap.size ≤ gb184)); have GE184 := AS ((by rw [hg]; exact (below_size (upB HB.out)) : w.heap.size ≤ gb184)); replace HB := AS (below_step (upB HB.out) hb); have NB183_184 := AS ((by rw [hg]; exact Nat.ne_of_lt (blk_lt (upK BK183.out)) : gb183 ≠ gb184)); have NB184_183 := AS ((by rw [hg]; exact Nat.ne_of_gt (blk_lt (upK BK183.out)) : gb184 ≠ gb183)); replace BK183 := AS (blk_below (g := gb183) (o := .cells #[.int .i64 a0_0, .int .i64 a0_1, .int .i64 a0_2, .int .i64 a0_3, .slice A0_4 l0_4.length c0_4] 26) (upK BK183.out) hb); clear hb hbox hg) | ((with_reducible refine gate_dst (N := 4) rfl ?_); refine box_event ?hg (N := 4) ?hd (cs := #[.int .i64 0, .int .i64 0, .int .i64 0, .int .i64 0, .slice none 0 0]) (t := 26) ?hr ?_; (case hd => rfl); (case hg => rfl); (case hr => first | (go_simp; done) | (go_simp; rfl)); intro gb185 hg w6 hbox hb; have BK185 := AS (hbox); have GW185 := AS ((by rw [hg]; exact (below_size (upB HB.out)) : w.heap.size ≤ gb185)); have GE185 := AS ((by rw [hg]; exact (below_size (upB HB.out)) : w.heap.size ≤ gb185)); replace HB := AS (below_step (upB HB.out) hb); have NB183_185 := AS ((by rw [hg]; exact Nat.ne_of_lt (blk_lt (upK BK183.out)) : gb183 ≠ gb185)); have NB185_183 := AS ((by rw [hg]; exact Nat.ne_of_gt (blk_lt (upK BK183.out)) : gb185 ≠ gb183)); replace BK183 := AS (blk_below (g := gb183) (o := .cells #[.int .i64 a0_0, .int .i64 a0_1, .int .i64 a0_2, .int .i64 a0_3, .slice A0_4 l0_4.length c0_4] 26) (upK BK183.out) hb); have NB184_185 := AS ((by rw [hg]; exact Nat.ne_of_lt (blk_lt (upK BK184.out)) : gb184 ≠ gb185)); have NB185_184 := AS ((by rw [hg]; exact Nat.ne_of_gt (blk_lt (upK BK184.out)) : gb185 ≠ gb184)); replace BK184 := AS (blk_below (g := gb184) (o := .cells #[.int .i64 a1_0, .int .i64 a1_1, .int .i64 a1_2, .int .i64 a1_3, .slice A1_4 l1_4.length c1_4] 26) (upK BK184.out) hb); clear hb hbox hg))
 (try simp only [Act.put, List.setIfInBounds_toArray, List.set_cons_zero, List.set_cons_succ])
 go_cut [15] (fun v15 wc => ∃ (kq : Nat) (x15_2 : Bool), v15 = .bool x15_2 ∧ Aside0 (plane_Paste.j0 kq x15_2 a0_0 a0_1 a0_2 a0_3 l0_4 a1_0 a1_1 a1_2 a1_3 l1_4 = some (r1, r2, r3, r4, r5, r6)) ∧ Aside0 (kq ≤ k) ∧ Aside0 (wc.heap[gb183]? = some (.cells #[.int .i64 a0_0, .int .i64 a0_1, .int .i64 a0_2, .int .i64 a0_3, (.slice A0_4 l0_4.length c0_4)] 26 (0, 0))) ∧ Aside0 (wc.heap[gb184]? = some (.cells #[.int .i64 a1_0, .int .i64 a1_1, .int .i64 a1_2, .int .i64 a1_3, (.slice A1_4 l1_4.length c1_4)] 26 (0, 0))) ∧ Aside0 (wc.heap[gb185]? = some (.cells #[.int .i64 0, .int .i64 0, .int .i64 0, .int .i64 0, (.slice none 0 0)] 26 (0, 0))) ∧ Aside0 (Below w.heap.size w wc))
 case first =>
  have H := HC3.out
  clear HC3
  replace H := Option.bind_eq_some_iff.mp H
  obtain ⟨t186, A70, H⟩ := H
  replace H : (if t186 = true then ((plane_Valid.f a1_0 a1_1 a1_2 a1_3 l1_4).bind fun t187 => (plane_Paste.j0 k (!t187) a0_0 a0_1 a0_2 a0_3 l0_4 a1_0 a1_1 a1_2 a1_3 l1_4)) else (plane_Paste.j0 k true a0_0 a0_1 a0_2 a0_3 l0_4 a1_0 a1_1 a1_2 a1_3 l1_4)) = some (r1, r2, r3, r4, r5, r6) := H
  have A7 := AS A70
  clear A70
  by_cases c8 : t186 = true
  ·subst c8
   have H1 : ((plane_Valid.f a1_0 a1_1 a1_2 a1_3 l1_4).bind fun t187 => (plane_Paste.j0 k (!t187) a0_0 a0_1 a0_2 a0_3 l0_4 a1_0 a1_1 a1_2 a1_3 l1_4)) = some (r1, r2, r3, r4, r5, r6) := by rw [if_pos rfl] at H; exact H
   clear H
   have H := H1
   clear H1
   replace H := Option.bind_eq_some_iff.mp H
   obtain ⟨t187, A90, H⟩ := H
   replace H : (plane_Paste.j0 k (!t187) a0_0 a0_1 a0_2 a0_3 l0_4 a1_0 a1_1 a1_2 a1_3 l1_4) = some (r1, r2, r3, r4, r5, r6) := H
   have A9 := AS A90
   clear A90
   have H' := AS H
   clear H
   have hnb10 := NB183_184.out
   have hnc10 := NB184_183.out
   have hnb11 := NB183_185.out
   have hnc11 := NB185_183.out
   have hcz12_0 : w6.cell? ⟨gb183, 0, none⟩ = some (.int .i64 a0_0) := bc BK183 0
   have hcz12_1 : w6.cell? ⟨gb183, 1, none⟩ = some (.int .i64 a0_1) := bc BK183 1
   have hcz12_2 : w6.cell? ⟨gb183, 2, none⟩ = some (.int .i64 a0_2) := bc BK183 2
   have hcz12_3 : w6.cell? ⟨gb183, 3, none⟩ = some (.int .i64 a0_3) := bc BK183 3
   have hcz12_4 : w6.cell? ⟨gb183, 4, none⟩ = some (.slice A0_4 l0_4.length c0_4) := bc BK183 4
   have hfz12_0 := blk_frozen BK183.out 0
   have hfz12_1 := blk_frozen BK183.out 1
   have hfz12_2 := blk_frozen BK183.out 2
   have hfz12_3 := blk_frozen BK183.out 3
   have hfz12_4 := blk_frozen BK183.out 4
   go_wp2_with (first | ((with_reducible refine gate_callee (f := 20) rfl ?_); refine goesL_ (some 9) rfl rfl Try.func20 (by kernel_rfl) rfl #[.agg #[.int .i64 a0_0, .int .i64 a0_1, .int .i64 a0_2, .int .i64 a0_3, .slice A0_4 l0_4.length c0_4]] rfl upL ?_; (with_reducible refine (plane_Valid.calls a0_0 a0_1 a0_2 a0_3 _ _ l0_4 true _ ?side1 ?side2 A7.out).mono ?_); (case side1 => repeat (first | exact (Kd.C_below HR0_4.out HB.out) | (with_reducible refine Kd.C_alloc ?_ _) | (with_reducible refine Kd.C_drewN ?_ _) | (with_reducible refine Kd.C_drew ?_))); (case side2 => exact HC0_4.out); rintro e w13 ⟨rfl, hb⟩; refine ⟨_, rfl, ?_⟩; replace BK183 := AS (blk_below (g := gb183) (o := .cells #[.int .i64 a0_0, .int .i64 a0_1, .int .i64 a0_2, .int .i64 a0_3, .slice A0_4 l0_4.length c0_4] 26) (upK BK183.out) hb); replace BK184 := AS (blk_below (g := gb184) (o := .cells #[.int .i64 a1_0, .int .i64 a1_1, .int .i64 a1_2, .int .i64 a1_3, .slice A1_4 l1_4.length c1_4] 26) (upK BK184.out) hb); replace BK185 := AS (blk_below (g := gb185) (o := .cells #[.int .i64 0, .int .i64 0, .int .i64 0, .int .i64 0, .slice none 0 0] 26) (upK BK185.out) hb); replace HB := AS (below_step (upB HB.out) hb); (try clear hb; try clear hb2; try clear hk; try clear hi); have hnb14 := NB184_185.out; have hnc14 := NB185_184.out; have hcz15_0 : w13.cell? ⟨gb184, 0, none⟩ = some (.int .i64 a1_0) := bc BK184 0; have hcz15_1 : w13.cell? ⟨gb184, 1, none⟩ = some (.int .i64 a1_1) := bc BK184 1; have hcz15_2 : w13.cell? ⟨gb184, 2, none⟩ = some (.int .i64 a1_2) := bc BK184 2; have hcz15_3 : w13.cell? ⟨gb184, 3, none⟩ = some (.int .i64 a1_3) := bc BK184 3; have hcz15_4 : w13.cell? ⟨gb184, 4, none⟩ = some (.slice A1_4 l1_4.length c1_4) := bc BK184 4; have hfz15_0 := blk_frozen BK184.out 0; have hfz15_1 := blk_frozen BK184.out 1; have hfz15_2 := blk_frozen BK184.out 2; have hfz15_3 := blk_frozen BK184.out 3; have hfz15_4 := blk_frozen BK184.out 4) | (go_at_call 20; (with_reducible refine (plane_Valid.calls a1_0 a1_1 a1_2 a1_3 _ _ l1_4 t187 _ ?side1 ?side2 A9.out).mono ?_); (case side1 => repeat (first | exact (Kd.C_below HR1_4.out HB.out) | (with_reducible refine Kd.C_alloc ?_ _) | (with_reducible refine Kd.C_drewN ?_ _) | (with_reducible refine Kd.C_drew ?_))); (case side2 => exact HC1_4.out); rintro e w16 ⟨rfl, hb⟩; replace BK183 := AS (blk_below (g := gb183) (o := .cells #[.int .i64 a0_0, .int .i64 a0_1, .int .i64 a0_2, .int .i64 a0_3, .slice A0_4 l0_4.length c0_4] 26) (upK BK183.out) hb); replace BK184 := AS (blk_below (g := gb184) (o := .cells #[.int .i64 a1_0, .int .i64 a1_1, .int .i64 a1_2, .int .i64 a1_3, .slice A1_4 l1_4.length c1_4] 26) (upK BK184.out) hb); replace BK185 := AS (blk_below (g := gb185) (o := .cells #[.int .i64 0, .int .i64 0, .int .i64 0, .int .i64 0, .slice none 0 0] 26) (upK BK185.out) hb); replace HB := AS (below_step (upB HB.out) hb); (try clear hb; try clear hb2; try clear hk; try clear hi)))
   go_meet
   case rel => exact ⟨_, (!t187), (by first | rfl | (simp; done) | (simp [*]; done)), H', ⟨by first | omega | exact Nat.le_refl _⟩, ⟨by (with_reducible repeat (first | refine blk_drewN ?_ _ | refine blk_drew ?_ | refine blk_alloc ?_ _)); exact BK183.out⟩, ⟨by (with_reducible repeat (first | refine blk_drewN ?_ _ | refine blk_drew ?_ | refine blk_alloc ?_ _)); exact BK184.out⟩, ⟨by (with_reducible repeat (first | refine blk_drewN ?_ _ | refine blk_drew ?_ | refine blk_alloc ?_ _)); exact BK185.out⟩, ⟨by repeat (first | (with_reducible first | exact HB.out | apply below_alloc | apply pw_below_drewN | apply below_drew1 | refine below_set ?_ GE183.out | refine below_set ?_ GE184.out | refine below_set ?_ GE185.out) | exact HB.out)⟩⟩
  ·replace c8 := Bool.eq_false_iff.mpr c8
   subst c8
   have H1 : (plane_Paste.j0 k true a0_0 a0_1 a0_2 a0_3 l0_4 a1_0 a1_1 a1_2 a1_3 l1_4) = some (r1, r2, r3, r4, r5, r6) := by rw [if_neg (show ¬ (false = true) by decide)] at H; exact H
   clear H
   have H := H1
   clear H1
   have H' := AS H
   clear H
   have hnb17 := NB183_184.out
   have hnc17 := NB184_183.out
   have hnb18 := NB183_185.out
   have hnc18 := NB185_183.out
   have hcz19_0 : w6.cell? ⟨gb183, 0, none⟩ = some (.int .i64 a0_0) := bc BK183 0
   have hcz19_1 : w6.cell? ⟨gb183, 1, none⟩ = some (.int .i64 a0_1) := bc BK183 1
   have hcz19_2 : w6.cell? ⟨gb183, 2, none⟩ = some (.int .i64 a0_2) := bc BK183 2
   have hcz19_3 : w6.cell? ⟨gb183, 3, none⟩ = some (.int .i64 a0_3) := bc BK183 3
   have hcz19_4 : w6.cell? ⟨gb183, 4, none⟩ = some (.slice A0_4 l0_4.length c0_4) := bc BK183 4
   have hfz19_0 := blk_frozen BK183.out 0
   have hfz19_1 := blk_frozen BK183.out 1
   have hfz19_2 := blk_frozen BK183.out 2
   have hfz19_3 := blk_frozen BK183.out 3
   have hfz19_4 := blk_frozen BK183.out 4
   go_wp2_with (first | ((with_reducible refine gate_callee (f := 20) rfl ?_); refine goesL_ (some 9) rfl rfl Try.func20 (by kernel_rfl) rfl #[.agg #[.int .i64 a0_0, .int .i64 a0_1, .int .i64 a0_2, .int .i64 a0_3, .slice A0_4 l0_4.length c0_4]] rfl upL ?_; (with_reducible refine (plane_Valid.calls a0_0 a0_1 a0_2 a0_3 _ _ l0_4 false _ ?side1 ?side2 A7.out).mono ?_); (case side1 => repeat (first | exact (Kd.C_below HR0_4.out HB.out) | (with_reducible refine Kd.C_alloc ?_ _) | (with_reducible refine Kd.C_drewN ?_ _) | (with_reducible refine Kd.C_drew ?_))); (case side2 => exact HC0_4.out); rintro e w20 ⟨rfl, hb⟩; refine ⟨_, rfl, ?_⟩; replace BK183 := AS (blk_below (g := gb183) (o := .cells #[.int .i64 a0_0, .int .i64 a0_1, .int .i64 a0_2, .int .i64 a0_3, .slice A0_4 l0_4.length c0_4] 26) (upK BK183.out) hb); replace BK184 := AS (blk_below (g := gb184) (o := .cells #[.int .i64 a1_0, .int .i64 a1_1, .int .i64 a1_2, .int .i64 a1_3, .slice A1_4 l1_4.length c1_4] 26) (upK BK184.out) hb); replace BK185 := AS (blk_below (g := gb185) (o := .cells #[.int .i64 0, .int .i64 0, .int .i64 0, .int .i64 0, .slice none 0 0] 26) (upK BK185.out) hb); replace HB := AS (below_step (upB HB.out) hb); (try clear hb; try clear hb2; try clear hk; try clear hi)))
   go_meet
   case rel => exact ⟨_, (true), (by first | rfl | (simp; done) | (simp [*]; done)), H', ⟨by first | omega | exact Nat.le_refl _⟩, ⟨by (with_reducible repeat (first | refine blk_drewN ?_ _ | refine blk_drew ?_ | refine blk_alloc ?_ _)); exact BK183.out⟩, ⟨by (with_reducible repeat (first | refine blk_drewN ?_ _ | refine blk_drew ?_ | refine blk_alloc ?_ _)); exact BK184.out⟩, ⟨by (with_reducible repeat (first | refine blk_drewN ?_ _ | refine blk_drew ?_ | refine blk_alloc ?_ _)); exact BK185.out⟩, ⟨by repeat (first | (with_reducible first | exact HB.out | apply below_alloc | apply pw_below_drewN | apply below_drew1 | refine below_set ?_ GE183.out | refine below_set ?_ GE184.out | refine below_set ?_ GE185.out) | exact HB.out)⟩⟩
 case rest =>
  clear HC3
  try clear c1; try clear c2; try clear p2; try clear c8; try clear c10; try clear c11; try clear c14; try clear c17; try clear c18; try clear c20; try clear hcz12_0; try clear hcz12_1; try clear hcz12_2; try clear hcz12_3; try clear hcz12_4; try clear hcz15_0; try clear hcz15_1; try clear hcz15_2; try clear hcz15_3; try clear hcz15_4; try clear hcz19_0; try clear hcz19_1; try clear hcz19_2; try clear hcz19_3; try clear hcz19_4; try clear hfz12_0; try clear hfz12_1; try clear hfz12_2; try clear hfz12_3; try clear hfz12_4; try clear hfz15_0; try clear hfz15_1; try clear hfz15_2; try clear hfz15_3; try clear hfz15_4; try clear hfz19_0; try clear hfz19_1; try clear hfz19_2; try clear hfz19_3; try clear hfz19_4
  obtain ⟨kq, x15_2, rfl, HA, HJ2, BK183, BK184, BK185, HB⟩ := hcut
  cases kq with
  | zero => exact absurd HA.out (by simp [plane_Paste.j0])
  | succ kj2 =>
   have H := HA.out
   clear HA
   simp only [plane_Paste.j0] at H
   by_cases c21 : x15_2 = true
   ·subst c21
    have H1 : (some (0, 0, 0, 0, ([] : List Int), 1)) = some (r1, r2, r3, r4, r5, r6) := by rw [if_pos rfl] at H; exact H
    clear H
    have H := H1
    clear H1
    simp only [Option.some.injEq, Prod.mk.injEq] at H
    obtain ⟨rfl, rfl, rfl, rfl, rfl, rfl⟩ := H
    have hnb22 := NB185_183.out
    have hnc22 := NB183_185.out
    have hnb23 := NB185_184.out
    have hnc23 := NB184_185.out
    have hcz24_0 : wc.cell? ⟨gb185, 0, none⟩ = some (.int .i64 0) := bc BK185 0
    have hcz24_1 : wc.cell? ⟨gb185, 1, none⟩ = some (.int .i64 0) := bc BK185 1
    have hcz24_2 : wc.cell? ⟨gb185, 2, none⟩ = some (.int .i64 0) := bc BK185 2
    have hcz24_3 : wc.cell? ⟨gb185, 3, none⟩ = some (.int .i64 0) := bc BK185 3
    have hcz24_4 : wc.cell? ⟨gb185, 4, none⟩ = some (.slice none 0 0) := bc BK185 4
    have hfz24_0 := blk_frozen BK185.out 0
    have hfz24_1 := blk_frozen BK185.out 1
    have hfz24_2 := blk_frozen BK185.out 2
    have hfz24_3 := blk_frozen BK185.out 3
    have hfz24_4 := blk_frozen BK185.out 4
    go_wp2
    refine bodyPost_ret (results_ct rfl _ _ gb185 26 #[.int .i64 0, .int .i64 0, .int .i64 0, .int .i64 0, .slice none 0 0] (0, 0) _ rfl (by (with_reducible repeat (first | refine blk_drewN ?_ _ | refine blk_drew ?_ | refine blk_alloc ?_ _)); refine blk_put (cs := #[.int .i64 0, .int .i64 0, .int .i64 0, .int .i64 0, .slice none 0 0]) ?_ 4 _ rfl; (with_reducible repeat (first | refine blk_drewN ?_ _ | refine blk_drew ?_ | refine blk_alloc ?_ _)); refine blk_put (cs := #[.int .i64 0, .int .i64 0, .int .i64 0, .int .i64 0, .slice none 0 0]) ?_ 3 _ rfl; (with_reducible repeat (first | refine blk_drewN ?_ _ | refine blk_drew ?_ | refine blk_alloc ?_ _)); refine blk_put (cs := #[.int .i64 0, .int .i64 0, .int .i64 0, .int .i64 0, .slice none 0 0]) ?_ 2 _ rfl; (with_reducible repeat (first | refine blk_drewN ?_ _ | refine blk_drew ?_ | refine blk_alloc ?_ _)); refine blk_put (cs := #[.int .i64 0, .int .i64 0, .int .i64 0, .int .i64 0, .slice none 0 0]) ?_ 1 _ rfl; (with_reducible repeat (first | refine blk_drewN ?_ _ | refine blk_drew ?_ | refine blk_alloc ?_ _)); refine blk_put (cs := #[.int .i64 0, .int .i64 0, .int .i64 0, .int .i64 0, .slice none 0 0]) ?_ 0 _ rfl; (with_reducible repeat (first | refine blk_drewN ?_ _ | refine blk_drew ?_ | refine blk_alloc ?_ _)); exact BK185.out) Try.underlying26 rfl (by kernel_rfl)) rfl ?_
    exact ⟨_, by first | rfl | (simp [errW_none, errW_some] <;> rfl) | (simp [*, errW_none, errW_some] <;> rfl), by first | exact Kd.R_nil _ _ _ _ _ | exact Kd.N_nil _ _ _ _ _ | exact Kd.V_nil _ _ _ _ _ | exact Kd.Q_nil _ _ _ _ _ | exact Kd.S_nil _ _ _ _ _, by repeat (first | (with_reducible first | exact HB.out | apply below_alloc | apply pw_below_drewN | apply below_drew1 | refine below_set ?_ GE183.out | refine below_set ?_ GE184.out | refine below_set ?_ GE185.out) | exact HB.out)⟩
   ·replace c21 := Bool.eq_false_iff.mpr c21
    subst c21
    have H1 : ((some (([] : List Int) : List Int)).bind fun y188 => (if y188.length + l0_4.length < 17592186044416 then ((some (y188 ++ l0_4 : List Int)).bind fun y191 => ((rect_Intersect.f a0_0 a0_1 a0_2 a0_3 a1_0 a1_1 a1_2 a1_3).bind fun bt195 => (if (!(bt195.1 == 0) || (!(bt195.2.1 == 0) || (!(bt195.2.2.1 == 0) || (!(bt195.2.2.2 == 0))))) = true then ((plane_part.f kj2 a0_0 a0_1 a0_2 a0_3 y191 a1_0 a1_1 a1_2 a1_3 l1_4 bt195.1 bt195.2.1 bt195.2.2.1 bt195.2.2.2).bind fun t200 => (some (a0_0, a0_1, a0_2, a0_3, t200, 0))) else (some (a0_0, a0_1, a0_2, a0_3, y191, 0))))) else (none))) = some (r1, r2, r3, r4, r5, r6) := by rw [if_neg (show ¬ (false = true) by decide)] at H; exact H
    clear H
    have H := H1
    clear H1
    obtain ⟨y188, hy188⟩ : ∃ y_ : List Int, y_ = (([] : List Int)) := ⟨_, rfl⟩
    replace H : (if y188.length + l0_4.length < 17592186044416 then ((some (y188 ++ l0_4 : List Int)).bind fun y191 => ((rect_Intersect.f a0_0 a0_1 a0_2 a0_3 a1_0 a1_1 a1_2 a1_3).bind fun bt195 => (if (!(bt195.1 == 0) || (!(bt195.2.1 == 0) || (!(bt195.2.2.1 == 0) || (!(bt195.2.2.2 == 0))))) = true then ((plane_part.f kj2 a0_0 a0_1 a0_2 a0_3 y191 a1_0 a1_1 a1_2 a1_3 l1_4 bt195.1 bt195.2.1 bt195.2.2.1 bt195.2.2.2).bind fun t200 => (some (a0_0, a0_1, a0_2, a0_3, t200, 0))) else (some (a0_0, a0_1, a0_2, a0_3, y191, 0))))) else (none)) = some (r1, r2, r3, r4, r5, r6) := by first | (rw [hy188]; with_reducible exact H) | (have H2_ := (Option.bind_some _ _).symm.trans H; rw [hy188]; with_reducible exact H2_) | (have H2_ := (Option.bind_some _ _).symm.trans H; with_reducible exact H2_) | with_reducible exact H | (rw [hy188]; exact H) | exact H
    have Ny188 := AS hy188
    clear hy188
    by_cases c25 : y188.length + l0_4.length < 17592186044416
    ·rw [if_pos c25] at H
     have LMc25 := AS c25
     clear c25
     obtain ⟨y191, hy191⟩ : ∃ y_ : List Int, y_ = (y188 ++ l0_4) := ⟨_, rfl⟩
     replace H : ((rect_Intersect.f a0_0 a0_1 a0_2 a0_3 a1_0 a1_1 a1_2 a1_3).bind fun bt195 => (if (!(bt195.1 == 0) || (!(bt195.2.1 == 0) || (!(bt195.2.2.1 == 0) || (!(bt195.2.2.2 == 0))))) = true then ((plane_part.f kj2 a0_0 a0_1 a0_2 a0_3 y191 a1_0 a1_1 a1_2 a1_3 l1_4 bt195.1 bt195.2.1 bt195.2.2.1 bt195.2.2.2).bind fun t200 => (some (a0_0, a0_1, a0_2, a0_3, t200, 0))) else (some (a0_0, a0_1, a0_2, a0_3, y191, 0)))) = some (r1, r2, r3, r4, r5, r6) := by first | (rw [hy191]; with_reducible exact H) | (have H2_ := (Option.bind_some _ _).symm.trans H; rw [hy191]; with_reducible exact H2_) | (have H2_ := (Option.bind_some _ _).symm.trans H; with_reducible exact H2_) | with_reducible exact H | (rw [hy191]; exact H) | exact H
     have Ny191 := AS hy191
     clear hy191
     replace H := Option.bind_eq_some_iff.mp H
     obtain ⟨⟨t195, t196, t197, t198⟩, A260, H⟩ := H
     replace H : (if (!(t195 == 0) || (!(t196 == 0) || (!(t197 == 0) || (!(t198 == 0))))) = true then ((plane_part.f kj2 a0_0 a0_1 a0_2 a0_3 y191 a1_0 a1_1 a1_2 a1_3 l1_4 t195 t196 t197 t198).bind fun t200 => (some (a0_0, a0_1, a0_2, a0_3, t200, 0))) else (some (a0_0, a0_1, a0_2, a0_3, y191, 0))) = some (r1, r2, r3, r4, r5, r6) := H
     have A26 := AS A260
     clear A260
     by_cases c27 : (!(t195 == 0) || (!(t196 == 0) || (!(t197 == 0) || (!(t198 == 0))))) = true
     ·rw [if_pos c27] at H
      have c27b0 : (!(t195 == 0) || (!(t196 == 0) || (!(t197 == 0) || (!(t198 == 0))))) = true := c27
      clear c27
      replace H := Option.bind_eq_some_iff.mp H
      obtain ⟨t200, A280, H⟩ := H
      replace H : (some (a0_0, a0_1, a0_2, a0_3, t200, 0)) = some (r1, r2, r3, r4, r5, r6) := H
      have A28 := AS A280
      clear A280
      simp only [Option.some.injEq, Prod.mk.injEq] at H
      obtain ⟨rfl, rfl, rfl, rfl, rfl, rfl⟩ := H
      try go_wp2
      replace BK183 := AS (blk_drew BK183.out)
      replace BK184 := AS (blk_drew BK184.out)
      replace BK185 := AS (blk_drew BK185.out)
      replace HB := AS (below_drew1 HB.out)
      refine start_ (n := 9) (S := fun w' => ce w' gb183 0 (.int .i64 a0_0) ∧ ce w' gb183 1 (.int .i64 a0_1) ∧ ce w' gb183 2 (.int .i64 a0_2) ∧ ce w' gb183 3 (.int .i64 a0_3) ∧ ce w' gb183 4 (.slice A0_4 l0_4.length c0_4)) (ds := []) #[false, false, false, false, false, false, false, false, false] (by kernel_rfl) rfl rfl ⟨bc BK183 0, bc BK183 1, bc BK183 2, bc BK183 3, bc BK183 4⟩ (fun hHeld => ?_); refine with_tabW plane_Paste.tab3 plane_Paste.bits3 (fun HT_ HW_ => ?_)
      generalize wc.drew = w29 at BK183 BK184 BK185 HB hHeld ⊢
      refine puX 0 17 (MK [1, 8]) HT_.out ?_
      refine puX 3 20 (MK [1, 2, 1, 5]) HT_.out ?_
      refine taX 1 18 (MK [2, 1, 1, 5]) HT_.out HW_.out hHeld ?_
      refine taX 4 21 (MK [2, 1, 2, 4]) HT_.out HW_.out hHeld ?_
      refine join_ (σ := Value × Value × Nat) 1 #[true, true, true, true, true, true, true, true, false] (fun s_ => [(19, s_.1), (22, s_.2.1), (6, .pointer (some ⟨s_.2.2, 0, none⟩)), (23, .agg #[.int .i64 a0_0, .int .i64 a0_1, .int .i64 a0_2, .int .i64 a0_3, s_.2.1])]) (fun s_ w' => (ce w' gb183 0 (.int .i64 a0_0) ∧ ce w' gb183 1 (.int .i64 a0_1) ∧ ce w' gb183 2 (.int .i64 a0_2) ∧ ce w' gb183 3 (.int .i64 a0_3) ∧ ce w' gb183 4 (.slice A0_4 l0_4.length c0_4)) ∧ (Kd.R (Kd.int .i64) 3 w' w.heap.size (fun _ => True) s_.2.1 y191) ∧ (w'.heap[gb183]? = some (.cells #[.int .i64 a0_0, .int .i64 a0_1, .int .i64 a0_2, .int .i64 a0_3, .slice A0_4 l0_4.length c0_4] 26 (0, 0))) ∧ (w'.heap[gb184]? = some (.cells #[.int .i64 a1_0, .int .i64 a1_1, .int .i64 a1_2, .int .i64 a1_3, .slice A1_4 l1_4.length c1_4] 26 (0, 0))) ∧ (w'.heap[gb185]? = some (.cells #[.int .i64 0, .int .i64 0, .int .i64 0, .int .i64 0, .slice none 0 0] 26 (0, 0))) ∧ (w'.heap[s_.2.2]? = some (.cells #[.int .i64 0, .int .i64 0, .int .i64 0, .int .i64 0, .slice none 0 0] 26 (0, 0))) ∧ (w.heap.size ≤ s_.2.2) ∧ (w.heap.size ≤ s_.2.2) ∧ (gb183 ≠ s_.2.2) ∧ (s_.2.2 ≠ gb183) ∧ (gb184 ≠ s_.2.2) ∧ (s_.2.2 ≠ gb184) ∧ (gb185 ≠ s_.2.2) ∧ (s_.2.2 ≠ gb185) ∧ (Below w.heap.size w w')) ?_ ?_
      rotate_left
      ·intro hCont
       refine two_ (i := 2) (j := 7) (Ni := some 19) (Nj := some 6) #[true, true, true, true, true, false, false, false, false] #[true, true, false, true, true, false, false, true, false] rfl rfl rfl rfl (two_of HT_.out (by kernel_rfl)) (by decide) (by decide) (fun K hK => ?_) (fun K hK => ?_)
       ·skip
        refine Kd.R_lit_step (Kd.int .i64) _ 3 ?hg (N := 19) ?hd (xs := ([] : List Int)) (inner := []) (ok := fun _ => True) (okp := fun _ => True) ?hr ?hp (fun _ hk => hk) trivial (Below.refl _ _) (Nat.le_refl _) (by simp) ?_; (case hd => rfl); (case hg => rfl); (case hr => first | (go_simp; done) | (go_simp; rfl)); (case hp => exact (Reps.none _ _))
        intro v189 w30 ho31 hb hg_ hnew_
        clear hg_ hnew_
        (first | rw [← Ny188.out] at ho31 | (simp only [Int.reduceToNat] at ho31; rw [← Ny188.out] at ho31))
        have HO190 := AS (Kd.R_lower ho31 (below_size (upB HB.out)))
        replace BK183 := AS (blk_below (g := gb183) (o := .cells #[.int .i64 a0_0, .int .i64 a0_1, .int .i64 a0_2, .int .i64 a0_3, .slice A0_4 l0_4.length c0_4] 26) (upK BK183.out) hb)
        replace BK184 := AS (blk_below (g := gb184) (o := .cells #[.int .i64 a1_0, .int .i64 a1_1, .int .i64 a1_2, .int .i64 a1_3, .slice A1_4 l1_4.length c1_4] 26) (upK BK184.out) hb)
        replace BK185 := AS (blk_below (g := gb185) (o := .cells #[.int .i64 0, .int .i64 0, .int .i64 0, .int .i64 0, .slice none 0 0] 26) (upK BK185.out) hb)
        replace HB := AS (below_step (upB HB.out) hb)
        clear hb ho31
        refine hK.out _ _ ⟨bc BK183 0, bc BK183 1, bc BK183 2, bc BK183 3, bc BK183 4⟩ (fun hHeld => ?_)
        clear hK K
        refine noX ?_
        refine two_ (i := 5) (j := 7) (Ni := some 22) (Nj := some 6) #[true, true, true, true, true, true, false, false, false] #[true, true, true, true, true, false, false, true, false] rfl rfl rfl rfl (two_of HT_.out (by kernel_rfl)) (by decide) (by decide) (fun K hK => ?_) (fun K hK => ?_)
        ·skip
         refine Kd.R_append_rows_step (Kd.int .i64) (w0 := w) w.heap.size (by rfl) (.tmp 19) (.tmp 21) 24 3 (.int .i64 0) 8 rfl Try.underlying24 info3 rfl (by decide) (by omega) v189 y188 l0_4 _ _ _ (fun _ => True) (fun _ => False) rfl rfl ?aO ?aR (fun _ _ h => h) (fun _ h => h.elim) ?aF ?aB ?aS ?aL ?_
         (case aR => repeat (first | exact (Kd.C_below HR0_4.out HB.out) | (with_reducible refine Kd.C_alloc ?_ _) | (with_reducible refine Kd.C_drewN ?_ _) | (with_reducible refine Kd.C_drew ?_)))
         (case aB => exact (upB HB.out))
         (case aF => exact (fun _ _ => trivial))
         (case aO => exact (upR HO190.out))
         (case aS => exact (below_size (upB HB.out)))
         (case aL => have := LMc25.out; omega)
         intro v192 w32 ho hb hg hat
         rw [← Ny191.out] at ho
         have n0_ := AS (blk_grown (g := gb183) (o := .cells #[.int .i64 a0_0, .int .i64 a0_1, .int .i64 a0_2, .int .i64 a0_3, .slice A0_4 l0_4.length c0_4] 26) (upK BK183.out) hg (Kd.R_ne HO190.out BK183.out (by decide)))
         have n1_ := AS (blk_grown (g := gb184) (o := .cells #[.int .i64 a1_0, .int .i64 a1_1, .int .i64 a1_2, .int .i64 a1_3, .slice A1_4 l1_4.length c1_4] 26) (upK BK184.out) hg (Kd.R_ne HO190.out BK184.out (by decide)))
         have n2_ := AS (blk_grown (g := gb185) (o := .cells #[.int .i64 0, .int .i64 0, .int .i64 0, .int .i64 0, .slice none 0 0] 26) (upK BK185.out) hg (Kd.R_ne HO190.out BK185.out (by decide)))
         have n3_ := AS (hb)
         have n4_ := AS (ho)
         clear BK183
         clear BK184
         clear BK185
         clear HB
         clear HO190
         have BK183 := n0_
         have BK184 := n1_
         have BK185 := n2_
         have HB := n3_
         have HO193 := n4_
         clear n0_ n1_ n2_ n3_ n4_
         clear ho hb hg hat
         obtain ⟨Ao33, co33, eo33⟩ := Kd.R_slice HO193.out
         (first | subst eo33 | (injection eo33 with f1_ f2_ f3_; have f4_ := f1_.symm; have f5_ := f3_.symm; clear f1_ f2_ f3_; subst f4_; subst f5_))
         refine hK.out _ _ ⟨bc BK183 0, bc BK183 1, bc BK183 2, bc BK183 3, bc BK183 4⟩ (fun hHeld => ?_)
         clear hK K
         refine noX ?_
         refine puX 6 23 (MK [7, 2]) HT_.out ?_
         refine onX 7 6 (MK [8, 1]) HT_.out (fun K hK => ?_)
         refine box_step ?hg (N := 6) ?hd (cs := #[.int .i64 0, .int .i64 0, .int .i64 0, .int .i64 0, .slice none 0 0]) (t := 26) ?hr ?_; (case hd => rfl); (case hg => rfl); (case hr => first | (go_simp; done) | (go_simp; rfl))
         intro gb194 hg w34 hbox hb
         replace HO193 := AS (Kd.R_below (upR HO193.out) hb)
         have BK194 := AS (hbox)
         have GW194 := AS ((by rw [hg]; exact (below_size (upB HB.out)) : w.heap.size ≤ gb194))
         have GE194 := AS ((by rw [hg]; exact (below_size (upB HB.out)) : w.heap.size ≤ gb194))
         replace HB := AS (below_step (upB HB.out) hb)
         have NB183_194 := AS ((by rw [hg]; exact Nat.ne_of_lt (blk_lt (upK BK183.out)) : gb183 ≠ gb194))
         have NB194_183 := AS ((by rw [hg]; exact Nat.ne_of_gt (blk_lt (upK BK183.out)) : gb194 ≠ gb183))
         replace BK183 := AS (blk_below (g := gb183) (o := .cells #[.int .i64 a0_0, .int .i64 a0_1, .int .i64 a0_2, .int .i64 a0_3, .slice A0_4 l0_4.length c0_4] 26) (upK BK183.out) hb)
         have NB184_194 := AS ((by rw [hg]; exact Nat.ne_of_lt (blk_lt (upK BK184.out)) : gb184 ≠ gb194))
         have NB194_184 := AS ((by rw [hg]; exact Nat.ne_of_gt (blk_lt (upK BK184.out)) : gb194 ≠ gb184))
         replace BK184 := AS (blk_below (g := gb184) (o := .cells #[.int .i64 a1_0, .int .i64 a1_1, .int .i64 a1_2, .int .i64 a1_3, .slice A1_4 l1_4.length c1_4] 26) (upK BK184.out) hb)
         have NB185_194 := AS ((by rw [hg]; exact Nat.ne_of_lt (blk_lt (upK BK185.out)) : gb185 ≠ gb194))
         have NB194_185 := AS ((by rw [hg]; exact Nat.ne_of_gt (blk_lt (upK BK185.out)) : gb194 ≠ gb185))
         replace BK185 := AS (blk_below (g := gb185) (o := .cells #[.int .i64 0, .int .i64 0, .int .i64 0, .int .i64 0, .slice none 0 0] 26) (upK BK185.out) hb)
         clear hb hbox hg
         refine hK.out _ _ ⟨bc BK183 0, bc BK183 1, bc BK183 2, bc BK183 3, bc BK183 4⟩ (fun hHeld => ?_)
         clear hK K
         refine noX ?_
         exact norm_ (by simp only [putAll, Act.put, List.setIfInBounds_toArray, List.set_cons_zero, List.set_cons_succ]) (hCont (v189, .slice Ao33 y191.length co33, gb194) _ ⟨hHeld, (upR HO193.out), (upK BK183.out), (upK BK184.out), (upK BK185.out), (upK BK194.out), GW194.out, GE194.out, NB183_194.out, NB194_183.out, NB184_194.out, NB194_184.out, NB185_194.out, NB194_185.out, (upB HB.out)⟩)
        ·skip
         refine box_step ?hg (N := 6) ?hd (cs := #[.int .i64 0, .int .i64 0, .int .i64 0, .int .i64 0, .slice none 0 0]) (t := 26) ?hr ?_; (case hd => rfl); (case hg => rfl); (case hr => first | (go_simp; done) | (go_simp; rfl))
         intro gb194 hg w32 hbox hb
         replace HO190 := AS (Kd.R_below (upR HO190.out) hb)
         have BK194 := AS (hbox)
         have GW194 := AS ((by rw [hg]; exact (below_size (upB HB.out)) : w.heap.size ≤ gb194))
         have GE194 := AS ((by rw [hg]; exact (below_size (upB HB.out)) : w.heap.size ≤ gb194))
         replace HB := AS (below_step (upB HB.out) hb)
         have NB183_194 := AS ((by rw [hg]; exact Nat.ne_of_lt (blk_lt (upK BK183.out)) : gb183 ≠ gb194))
         have NB194_183 := AS ((by rw [hg]; exact Nat.ne_of_gt (blk_lt (upK BK183.out)) : gb194 ≠ gb183))
         replace BK183 := AS (blk_below (g := gb183) (o := .cells #[.int .i64 a0_0, .int .i64 a0_1, .int .i64 a0_2, .int .i64 a0_3, .slice A0_4 l0_4.length c0_4] 26) (upK BK183.out) hb)
         have NB184_194 := AS ((by rw [hg]; exact Nat.ne_of_lt (blk_lt (upK BK184.out)) : gb184 ≠ gb194))
         have NB194_184 := AS ((by rw [hg]; exact Nat.ne_of_gt (blk_lt (upK BK184.out)) : gb194 ≠ gb184))
         replace BK184 := AS (blk_below (g := gb184) (o := .cells #[.int .i64 a1_0, .int .i64 a1_1, .int .i64 a1_2, .int .i64 a1_3, .slice A1_4 l1_4.length c1_4] 26) (upK BK184.out) hb)
         have NB185_194 := AS ((by rw [hg]; exact Nat.ne_of_lt (blk_lt (upK BK185.out)) : gb185 ≠ gb194))
         have NB194_185 := AS ((by rw [hg]; exact Nat.ne_of_gt (blk_lt (upK BK185.out)) : gb194 ≠ gb185))
         replace BK185 := AS (blk_below (g := gb185) (o := .cells #[.int .i64 0, .int .i64 0, .int .i64 0, .int .i64 0, .slice none 0 0] 26) (upK BK185.out) hb)
         clear hb hbox hg
         refine hK.out _ _ ⟨bc BK183 0, bc BK183 1, bc BK183 2, bc BK183 3, bc BK183 4⟩ (fun hHeld => ?_)
         clear hK K
         refine noX ?_
         refine onX 5 22 (MK [6, 1, 1, 1]) HT_.out (fun K hK => ?_)
         refine Kd.R_append_rows_step (Kd.int .i64) (w0 := w) w.heap.size (by rfl) (.tmp 19) (.tmp 21) 24 3 (.int .i64 0) 8 rfl Try.underlying24 info3 rfl (by decide) (by omega) v189 y188 l0_4 _ _ _ (fun _ => True) (fun _ => False) rfl rfl ?aO ?aR (fun _ _ h => h) (fun _ h => h.elim) ?aF ?aB ?aS ?aL ?_
         (case aR => repeat (first | exact (Kd.C_below HR0_4.out HB.out) | (with_reducible refine Kd.C_alloc ?_ _) | (with_reducible refine Kd.C_drewN ?_ _) | (with_reducible refine Kd.C_drew ?_)))
         (case aB => exact (upB HB.out))
         (case aF => exact (fun _ _ => trivial))
         (case aO => exact (upR HO190.out))
         (case aS => exact (below_size (upB HB.out)))
         (case aL => have := LMc25.out; omega)
         intro v192 w33 ho hb hg hat
         rw [← Ny191.out] at ho
         have n0_ := AS (blk_grown (g := gb183) (o := .cells #[.int .i64 a0_0, .int .i64 a0_1, .int .i64 a0_2, .int .i64 a0_3, .slice A0_4 l0_4.length c0_4] 26) (upK BK183.out) hg (Kd.R_ne HO190.out BK183.out (by decide)))
         have n1_ := AS (blk_grown (g := gb184) (o := .cells #[.int .i64 a1_0, .int .i64 a1_1, .int .i64 a1_2, .int .i64 a1_3, .slice A1_4 l1_4.length c1_4] 26) (upK BK184.out) hg (Kd.R_ne HO190.out BK184.out (by decide)))
         have n2_ := AS (blk_grown (g := gb185) (o := .cells #[.int .i64 0, .int .i64 0, .int .i64 0, .int .i64 0, .slice none 0 0] 26) (upK BK185.out) hg (Kd.R_ne HO190.out BK185.out (by decide)))
         have n3_ := AS (blk_grown (g := gb194) (o := .cells #[.int .i64 0, .int .i64 0, .int .i64 0, .int .i64 0, .slice none 0 0] 26) (upK BK194.out) hg (Kd.R_ne HO190.out BK194.out (by decide)))
         have n4_ := AS (hb)
         have n5_ := AS (ho)
         clear BK183
         clear BK184
         clear BK185
         clear BK194
         clear HB
         clear HO190
         have BK183 := n0_
         have BK184 := n1_
         have BK185 := n2_
         have BK194 := n3_
         have HB := n4_
         have HO193 := n5_
         clear n0_ n1_ n2_ n3_ n4_ n5_
         clear ho hb hg hat
         obtain ⟨Ao34, co34, eo34⟩ := Kd.R_slice HO193.out
         (first | subst eo34 | (injection eo34 with f1_ f2_ f3_; have f4_ := f1_.symm; have f5_ := f3_.symm; clear f1_ f2_ f3_; subst f4_; subst f5_))
         refine hK.out _ _ ⟨bc BK183 0, bc BK183 1, bc BK183 2, bc BK183 3, bc BK183 4⟩ (fun hHeld => ?_)
         clear hK K
         refine noX ?_
         refine puX 6 23 (MK [8, 1]) HT_.out ?_
         exact norm_ (by simp only [putAll, Act.put, List.setIfInBounds_toArray, List.set_cons_zero, List.set_cons_succ]) (hCont (v189, .slice Ao34 y191.length co34, gb194) _ ⟨hHeld, (upR HO193.out), (upK BK183.out), (upK BK184.out), (upK BK185.out), (upK BK194.out), GW194.out, GE194.out, NB183_194.out, NB194_183.out, NB184_194.out, NB194_184.out, NB185_194.out, NB194_185.out, (upB HB.out)⟩)
       ·skip
        refine box_step ?hg (N := 6) ?hd (cs := #[.int .i64 0, .int .i64 0, .int .i64 0, .int .i64 0, .slice none 0 0]) (t := 26) ?hr ?_; (case hd => rfl); (case hg => rfl); (case hr => first | (go_simp; done) | (go_simp; rfl))
        intro gb194 hg w30 hbox hb
        have BK194 := AS (hbox)
        have GW194 := AS ((by rw [hg]; exact (below_size (upB HB.out)) : w.heap.size ≤ gb194))
        have GE194 := AS ((by rw [hg]; exact (below_size (upB HB.out)) : w.heap.size ≤ gb194))
        replace HB := AS (below_step (upB HB.out) hb)
        have NB183_194 := AS ((by rw [hg]; exact Nat.ne_of_lt (blk_lt (upK BK183.out)) : gb183 ≠ gb194))
        have NB194_183 := AS ((by rw [hg]; exact Nat.ne_of_gt (blk_lt (upK BK183.out)) : gb194 ≠ gb183))
        replace BK183 := AS (blk_below (g := gb183) (o := .cells #[.int .i64 a0_0, .int .i64 a0_1, .int .i64 a0_2, .int .i64 a0_3, .slice A0_4 l0_4.length c0_4] 26) (upK BK183.out) hb)
        have NB184_194 := AS ((by rw [hg]; exact Nat.ne_of_lt (blk_lt (upK BK184.out)) : gb184 ≠ gb194))
        have NB194_184 := AS ((by rw [hg]; exact Nat.ne_of_gt (blk_lt (upK BK184.out)) : gb194 ≠ gb184))
        replace BK184 := AS (blk_below (g := gb184) (o := .cells #[.int .i64 a1_0, .int .i64 a1_1, .int .i64 a1_2, .int .i64 a1_3, .slice A1_4 l1_4.length c1_4] 26) (upK BK184.out) hb)
        have NB185_194 := AS ((by rw [hg]; exact Nat.ne_of_lt (blk_lt (upK BK185.out)) : gb185 ≠ gb194))
        have NB194_185 := AS ((by rw [hg]; exact Nat.ne_of_gt (blk_lt (upK BK185.out)) : gb194 ≠ gb185))
        replace BK185 := AS (blk_below (g := gb185) (o := .cells #[.int .i64 0, .int .i64 0, .int .i64 0, .int .i64 0, .slice none 0 0] 26) (upK BK185.out) hb)
        clear hb hbox hg
        refine hK.out _ _ ⟨bc BK183 0, bc BK183 1, bc BK183 2, bc BK183 3, bc BK183 4⟩ (fun hHeld => ?_)
        clear hK K
        refine noX ?_
        refine onX 2 19 (MK [5, 2, 1, 1]) HT_.out (fun K hK => ?_)
        refine Kd.R_lit_step (Kd.int .i64) _ 3 ?hg (N := 19) ?hd (xs := ([] : List Int)) (inner := []) (ok := fun _ => True) (okp := fun _ => True) ?hr ?hp (fun _ hk => hk) trivial (Below.refl _ _) (Nat.le_refl _) (by simp) ?_; (case hd => rfl); (case hg => rfl); (case hr => first | (go_simp; done) | (go_simp; rfl)); (case hp => exact (Reps.none _ _))
        intro v189 w31 ho32 hb hg_ hnew_
        clear hg_ hnew_
        (first | rw [← Ny188.out] at ho32 | (simp only [Int.reduceToNat] at ho32; rw [← Ny188.out] at ho32))
        have HO190 := AS (Kd.R_lower ho32 (below_size (upB HB.out)))
        replace BK183 := AS (blk_below (g := gb183) (o := .cells #[.int .i64 a0_0, .int .i64 a0_1, .int .i64 a0_2, .int .i64 a0_3, .slice A0_4 l0_4.length c0_4] 26) (upK BK183.out) hb)
        replace BK184 := AS (blk_below (g := gb184) (o := .cells #[.int .i64 a1_0, .int .i64 a1_1, .int .i64 a1_2, .int .i64 a1_3, .slice A1_4 l1_4.length c1_4] 26) (upK BK184.out) hb)
        replace BK185 := AS (blk_below (g := gb185) (o := .cells #[.int .i64 0, .int .i64 0, .int .i64 0, .int .i64 0, .slice none 0 0] 26) (upK BK185.out) hb)
        replace BK194 := AS (blk_below (g := gb194) (o := .cells #[.int .i64 0, .int .i64 0, .int .i64 0, .int .i64 0, .slice none 0 0] 26) (upK BK194.out) hb)
        replace HB := AS (below_step (upB HB.out) hb)
        clear hb ho32
        refine hK.out _ _ ⟨bc BK183 0, bc BK183 1, bc BK183 2, bc BK183 3, bc BK183 4⟩ (fun hHeld => ?_)
        clear hK K
        refine noX ?_
        refine onX 5 22 (MK [6, 1, 1, 1]) HT_.out (fun K hK => ?_)
        refine Kd.R_append_rows_step (Kd.int .i64) (w0 := w) w.heap.size (by rfl) (.tmp 19) (.tmp 21) 24 3 (.int .i64 0) 8 rfl Try.underlying24 info3 rfl (by decide) (by omega) v189 y188 l0_4 _ _ _ (fun _ => True) (fun _ => False) rfl rfl ?aO ?aR (fun _ _ h => h) (fun _ h => h.elim) ?aF ?aB ?aS ?aL ?_
        (case aR => repeat (first | exact (Kd.C_below HR0_4.out HB.out) | (with_reducible refine Kd.C_alloc ?_ _) | (with_reducible refine Kd.C_drewN ?_ _) | (with_reducible refine Kd.C_drew ?_)))
        (case aB => exact (upB HB.out))
        (case aF => exact (fun _ _ => trivial))
        (case aO => exact (upR HO190.out))
        (case aS => exact (below_size (upB HB.out)))
        (case aL => have := LMc25.out; omega)
        intro v192 w33 ho hb hg hat
        rw [← Ny191.out] at ho
        have n0_ := AS (blk_grown (g := gb183) (o := .cells #[.int .i64 a0_0, .int .i64 a0_1, .int .i64 a0_2, .int .i64 a0_3, .slice A0_4 l0_4.length c0_4] 26) (upK BK183.out) hg (Kd.R_ne HO190.out BK183.out (by decide)))
        have n1_ := AS (blk_grown (g := gb184) (o := .cells #[.int .i64 a1_0, .int .i64 a1_1, .int .i64 a1_2, .int .i64 a1_3, .slice A1_4 l1_4.length c1_4] 26) (upK BK184.out) hg (Kd.R_ne HO190.out BK184.out (by decide)))
        have n2_ := AS (blk_grown (g := gb185) (o := .cells #[.int .i64 0, .int .i64 0, .int .i64 0, .int .i64 0, .slice none 0 0] 26) (upK BK185.out) hg (Kd.R_ne HO190.out BK185.out (by decide)))
        have n3_ := AS (blk_grown (g := gb194) (o := .cells #[.int .i64 0, .int .i64 0, .int .i64 0, .int .i64 0, .slice none 0 0] 26) (upK BK194.out) hg (Kd.R_ne HO190.out BK194.out (by decide)))
        have n4_ := AS (hb)
        have n5_ := AS (ho)
        clear BK183
        clear BK184
        clear BK185
        clear BK194
        clear HB
        clear HO190
        have BK183 := n0_
        have BK184 := n1_
        have BK185 := n2_
        have BK194 := n3_
        have HB := n4_
        have HO193 := n5_
        clear n0_ n1_ n2_ n3_ n4_ n5_
        clear ho hb hg hat
        obtain ⟨Ao34, co34, eo34⟩ := Kd.R_slice HO193.out
        (first | subst eo34 | (injection eo34 with f1_ f2_ f3_; have f4_ := f1_.symm; have f5_ := f3_.symm; clear f1_ f2_ f3_; subst f4_; subst f5_))
        refine hK.out _ _ ⟨bc BK183 0, bc BK183 1, bc BK183 2, bc BK183 3, bc BK183 4⟩ (fun hHeld => ?_)
        clear hK K
        refine noX ?_
        refine puX 6 23 (MK [8, 1]) HT_.out ?_
        exact norm_ (by simp only [putAll, Act.put, List.setIfInBounds_toArray, List.set_cons_zero, List.set_cons_succ]) (hCont (v189, .slice Ao34 y191.length co34, gb194) _ ⟨hHeld, (upR HO193.out), (upK BK183.out), (upK BK184.out), (upK BK185.out), (upK BK194.out), GW194.out, GE194.out, NB183_194.out, NB194_183.out, NB184_194.out, NB194_184.out, NB185_194.out, NB194_185.out, (upB HB.out)⟩)
      rintro ⟨v189, v192, gb194⟩ w35 ⟨hS_, h0_, h1_, h2_, h3_, h4_, h5_, h6_, h7_, h8_, h9_, h10_, h11_, h12_, h13_⟩
      have n0_ : Aside0 (Kd.R (Kd.int .i64) 3 w35 w.heap.size (fun _ => True) v192 y191) := ⟨h0_⟩
      have n1_ : Aside0 (w35.heap[gb183]? = some (.cells #[.int .i64 a0_0, .int .i64 a0_1, .int .i64 a0_2, .int .i64 a0_3, .slice A0_4 l0_4.length c0_4] 26 (0, 0))) := ⟨h1_⟩
      have n2_ : Aside0 (w35.heap[gb184]? = some (.cells #[.int .i64 a1_0, .int .i64 a1_1, .int .i64 a1_2, .int .i64 a1_3, .slice A1_4 l1_4.length c1_4] 26 (0, 0))) := ⟨h2_⟩
      have n3_ : Aside0 (w35.heap[gb185]? = some (.cells #[.int .i64 0, .int .i64 0, .int .i64 0, .int .i64 0, .slice none 0 0] 26 (0, 0))) := ⟨h3_⟩
      have n4_ : Aside0 (w35.heap[gb194]? = some (.cells #[.int .i64 0, .int .i64 0, .int .i64 0, .int .i64 0, .slice none 0 0] 26 (0, 0))) := ⟨h4_⟩
      have n5_ : Aside0 (w.heap.size ≤ gb194) := ⟨h5_⟩
      have n6_ : Aside0 (w.heap.size ≤ gb194) := ⟨h6_⟩
      have n7_ : Aside0 (gb183 ≠ gb194) := ⟨h7_⟩
      have n8_ : Aside0 (gb194 ≠ gb183) := ⟨h8_⟩
      have n9_ : Aside0 (gb184 ≠ gb194) := ⟨h9_⟩
      have n10_ : Aside0 (gb194 ≠ gb184) := ⟨h10_⟩
      have n11_ : Aside0 (gb185 ≠ gb194) := ⟨h11_⟩
      have n12_ : Aside0 (gb194 ≠ gb185) := ⟨h12_⟩
      have n13_ : Aside0 (Below w.heap.size w w35) := ⟨h13_⟩
      clear BK183
      clear BK184
      clear BK185
      clear HB
      clear h0_ h1_ h2_ h3_ h4_ h5_ h6_ h7_ h8_ h9_ h10_ h11_ h12_ h13_
      have HO193 := n0_
      have BK183 := n1_
      have BK184 := n2_
      have BK185 := n3_
      have BK194 := n4_
      have GW194 := n5_
      have GE194 := n6_
      have NB183_194 := n7_
      have NB194_183 := n8_
      have NB184_194 := n9_
      have NB194_184 := n10_
      have NB185_194 := n11_
      have NB194_185 := n12_
      have HB := n13_
      clear n0_ n1_ n2_ n3_ n4_ n5_ n6_ n7_ n8_ n9_ n10_ n11_ n12_ n13_
      have hHeld : w35.cell? ⟨gb183, 0, none⟩ = some (.int .i64 a0_0) ∧ w35.cell? ⟨gb183, 1, none⟩ = some (.int .i64 a0_1) ∧ w35.cell? ⟨gb183, 2, none⟩ = some (.int .i64 a0_2) ∧ w35.cell? ⟨gb183, 3, none⟩ = some (.int .i64 a0_3) ∧ w35.cell? ⟨gb183, 4, none⟩ = some (.slice A0_4 l0_4.length c0_4) := hS_
      obtain ⟨Ao36, co36, eo36⟩ := Kd.R_slice HO193.out
      (first | subst eo36 | (injection eo36 with f1_ f2_ f3_; have f4_ := f1_.symm; have f5_ := f3_.symm; clear f1_ f2_ f3_; subst f4_; subst f5_))
      refine norm_ (a' := ?_) ?_ ?_
      rotate_left
      ·simp only [putAll, Act.put, List.setIfInBounds_toArray, List.set_cons_zero, List.set_cons_succ]
       rfl
      refine one_ (i := 8) (N := none) #[true, true, true, true, true, true, true, true, true] rfl rfl (one_of HT_.out (by kernel_rfl)) (by decide) (fun K hK => ?_)
      have hs37 : w35.cell? ⟨gb194, 0, none⟩ = some (.int .i64 0) := bc BK194 0
      have hfs37 := blk_frozen BK194.out 0
      have hns37_0 := NB183_194.out
      have hns37_1 := NB184_194.out
      have hns37_2 := NB185_194.out
      have hms37_0 := NB194_183.out
      have hms37_1 := NB194_184.out
      have hms37_2 := NB194_185.out
      have hs38 : w35.cell? ⟨gb194, 1, none⟩ = some (.int .i64 0) := bc BK194 1
      have hfs38 := blk_frozen BK194.out 1
      have hns38_0 := NB183_194.out
      have hns38_1 := NB184_194.out
      have hns38_2 := NB185_194.out
      have hms38_0 := NB194_183.out
      have hms38_1 := NB194_184.out
      have hms38_2 := NB194_185.out
      have hs39 : w35.cell? ⟨gb194, 2, none⟩ = some (.int .i64 0) := bc BK194 2
      have hfs39 := blk_frozen BK194.out 2
      have hns39_0 := NB183_194.out
      have hns39_1 := NB184_194.out
      have hns39_2 := NB185_194.out
      have hms39_0 := NB194_183.out
      have hms39_1 := NB194_184.out
      have hms39_2 := NB194_185.out
      have hs40 : w35.cell? ⟨gb194, 3, none⟩ = some (.int .i64 0) := bc BK194 3
      have hfs40 := blk_frozen BK194.out 3
      have hns40_0 := NB183_194.out
      have hns40_1 := NB184_194.out
      have hns40_2 := NB185_194.out
      have hms40_0 := NB194_183.out
      have hms40_1 := NB194_184.out
      have hms40_2 := NB194_185.out
      have hs41 : w35.cell? ⟨gb194, 4, none⟩ = some (.slice none 0 0) := bc BK194 4
      have hfs41 := blk_frozen BK194.out 4
      have hns41_0 := NB183_194.out
      have hns41_1 := NB184_194.out
      have hns41_2 := NB185_194.out
      have hms41_0 := NB194_183.out
      have hms41_1 := NB194_184.out
      have hms41_2 := NB194_185.out
      refine skip_ (w1 := ?_) (by rfl) rfl ?_ ?_
      rotate_left
      ·go_simp
       rfl
      refine hK.out _ _ ⟨((cell_far (p := ⟨gb194, _, none⟩) NB183_194.out _).trans (((cell_far (p := ⟨gb194, _, none⟩) NB183_194.out _).trans (((cell_far (p := ⟨gb194, _, none⟩) NB183_194.out _).trans (((cell_far (p := ⟨gb194, _, none⟩) NB183_194.out _).trans (((cell_far (p := ⟨gb194, _, none⟩) NB183_194.out _).trans (hHeld.1)))))))))), ((cell_far (p := ⟨gb194, _, none⟩) NB183_194.out _).trans (((cell_far (p := ⟨gb194, _, none⟩) NB183_194.out _).trans (((cell_far (p := ⟨gb194, _, none⟩) NB183_194.out _).trans (((cell_far (p := ⟨gb194, _, none⟩) NB183_194.out _).trans (((cell_far (p := ⟨gb194, _, none⟩) NB183_194.out _).trans (hHeld.2.1)))))))))), ((cell_far (p := ⟨gb194, _, none⟩) NB183_194.out _).trans (((cell_far (p := ⟨gb194, _, none⟩) NB183_194.out _).trans (((cell_far (p := ⟨gb194, _, none⟩) NB183_194.out _).trans (((cell_far (p := ⟨gb194, _, none⟩) NB183_194.out _).trans (((cell_far (p := ⟨gb194, _, none⟩) NB183_194.out _).trans (hHeld.2.2.1)))))))))), ((cell_far (p := ⟨gb194, _, none⟩) NB183_194.out _).trans (((cell_far (p := ⟨gb194, _, none⟩) NB183_194.out _).trans (((cell_far (p := ⟨gb194, _, none⟩) NB183_194.out _).trans (((cell_far (p := ⟨gb194, _, none⟩) NB183_194.out _).trans (((cell_far (p := ⟨gb194, _, none⟩) NB183_194.out _).trans (hHeld.2.2.2.1)))))))))), ((cell_far (p := ⟨gb194, _, none⟩) NB183_194.out _).trans (((cell_far (p := ⟨gb194, _, none⟩) NB183_194.out _).trans (((cell_far (p := ⟨gb194, _, none⟩) NB183_194.out _).trans (((cell_far (p := ⟨gb194, _, none⟩) NB183_194.out _).trans (((cell_far (p := ⟨gb194, _, none⟩) NB183_194.out _).trans (hHeld.2.2.2.2))))))))))⟩ (fun hHeld => ?_)
      clear hK K
      refine done_ (done_of HT_.out (by kernel_rfl)) ?_
      have hnb42 := NB183_184.out
      have hnc42 := NB184_183.out
      have hnb43 := NB183_185.out
      have hnc43 := NB185_183.out
      have hnb44 := NB183_194.out
      have hnc44 := NB194_183.out
      have hcz45_0 : w35.cell? ⟨gb183, 0, none⟩ = some (.int .i64 a0_0) := bc BK183 0
      have hcz45_1 : w35.cell? ⟨gb183, 1, none⟩ = some (.int .i64 a0_1) := bc BK183 1
      have hcz45_2 : w35.cell? ⟨gb183, 2, none⟩ = some (.int .i64 a0_2) := bc BK183 2
      have hcz45_3 : w35.cell? ⟨gb183, 3, none⟩ = some (.int .i64 a0_3) := bc BK183 3
      have hcz45_4 : w35.cell? ⟨gb183, 4, none⟩ = some (.slice A0_4 l0_4.length c0_4) := bc BK183 4
      have hfz45_0 := blk_frozen BK183.out 0
      have hfz45_1 := blk_frozen BK183.out 1
      have hfz45_2 := blk_frozen BK183.out 2
      have hfz45_3 := blk_frozen BK183.out 3
      have hfz45_4 := blk_frozen BK183.out 4
      have hnb46 := NB184_185.out
      have hnc46 := NB185_184.out
      have hnb47 := NB184_194.out
      have hnc47 := NB194_184.out
      have hcz48_0 : w35.cell? ⟨gb184, 0, none⟩ = some (.int .i64 a1_0) := bc BK184 0
      have hcz48_1 : w35.cell? ⟨gb184, 1, none⟩ = some (.int .i64 a1_1) := bc BK184 1
      have hcz48_2 : w35.cell? ⟨gb184, 2, none⟩ = some (.int .i64 a1_2) := bc BK184 2
      have hcz48_3 : w35.cell? ⟨gb184, 3, none⟩ = some (.int .i64 a1_3) := bc BK184 3
      have hcz48_4 : w35.cell? ⟨gb184, 4, none⟩ = some (.slice A1_4 l1_4.length c1_4) := bc BK184 4
      have hfz48_0 := blk_frozen BK184.out 0
      have hfz48_1 := blk_frozen BK184.out 1
      have hfz48_2 := blk_frozen BK184.out 2
      have hfz48_3 := blk_frozen BK184.out 3
      have hfz48_4 := blk_frozen BK184.out 4
      try go_wp2_with (first | ((with_reducible refine gate_callee (f := 49) rfl ?_); refine goesL_ (some 28) rfl rfl Try.func49 (by kernel_rfl) rfl #[.agg #[.int .i64 a0_0, .int .i64 a0_1, .int .i64 a0_2, .int .i64 a0_3], .agg #[.int .i64 a1_0, .int .i64 a1_1, .int .i64 a1_2, .int .i64 a1_3]] rfl upL ?_; (with_reducible refine (rect_Intersect.calls a0_0 a0_1 a0_2 a0_3 a1_0 a1_1 a1_2 a1_3 t195 t196 t197 t198 _ A26.out).mono ?_); rintro e w49 ⟨rfl, hb⟩; refine ⟨_, rfl, ?_⟩; replace HO193 := AS (Kd.R_below (by (with_reducible repeat (first | apply Kd.R_alloc | apply Kd.R_drewN | apply Kd.R_drew)); exact (Kd.R_mono (Kd.R_far (Kd.R_far (Kd.R_far (Kd.R_far (Kd.R_far (Kd.R_types HO193.out BK194.out (by decide)) (fun _ hk => hk.2) _) (fun _ hk => hk.2) _) (fun _ hk => hk.2) _) (fun _ hk => hk.2) _) (fun _ hk => hk.2) _) (fun _ h_ => h_.1))) hb); replace BK183 := AS (blk_below (g := gb183) (o := .cells #[.int .i64 a0_0, .int .i64 a0_1, .int .i64 a0_2, .int .i64 a0_3, .slice A0_4 l0_4.length c0_4] 26) (by (with_reducible repeat (first | refine blk_far ?_ NB183_194.out _ | refine blk_drewN ?_ _ | refine blk_drew ?_ | refine blk_alloc ?_ _)); exact BK183.out) hb); replace BK184 := AS (blk_below (g := gb184) (o := .cells #[.int .i64 a1_0, .int .i64 a1_1, .int .i64 a1_2, .int .i64 a1_3, .slice A1_4 l1_4.length c1_4] 26) (by (with_reducible repeat (first | refine blk_far ?_ NB184_194.out _ | refine blk_drewN ?_ _ | refine blk_drew ?_ | refine blk_alloc ?_ _)); exact BK184.out) hb); replace BK185 := AS (blk_below (g := gb185) (o := .cells #[.int .i64 0, .int .i64 0, .int .i64 0, .int .i64 0, .slice none 0 0] 26) (by (with_reducible repeat (first | refine blk_far ?_ NB185_194.out _ | refine blk_drewN ?_ _ | refine blk_drew ?_ | refine blk_alloc ?_ _)); exact BK185.out) hb); replace BK194 := AS (blk_below (g := gb194) (o := .cells #[.int .i64 a0_0, .int .i64 a0_1, .int .i64 a0_2, .int .i64 a0_3, .slice Ao36 y191.length co36] 26) (by (with_reducible repeat (first | refine blk_drewN ?_ _ | refine blk_drew ?_ | refine blk_alloc ?_ _)); refine blk_put (cs := #[.int .i64 a0_0, .int .i64 a0_1, .int .i64 a0_2, .int .i64 a0_3, .slice none 0 0]) ?_ 4 _ rfl; (with_reducible repeat (first | refine blk_drewN ?_ _ | refine blk_drew ?_ | refine blk_alloc ?_ _)); refine blk_put (cs := #[.int .i64 a0_0, .int .i64 a0_1, .int .i64 a0_2, .int .i64 0, .slice none 0 0]) ?_ 3 _ rfl; (with_reducible repeat (first | refine blk_drewN ?_ _ | refine blk_drew ?_ | refine blk_alloc ?_ _)); refine blk_put (cs := #[.int .i64 a0_0, .int .i64 a0_1, .int .i64 0, .int .i64 0, .slice none 0 0]) ?_ 2 _ rfl; (with_reducible repeat (first | refine blk_drewN ?_ _ | refine blk_drew ?_ | refine blk_alloc ?_ _)); refine blk_put (cs := #[.int .i64 a0_0, .int .i64 0, .int .i64 0, .int .i64 0, .slice none 0 0]) ?_ 1 _ rfl; (with_reducible repeat (first | refine blk_drewN ?_ _ | refine blk_drew ?_ | refine blk_alloc ?_ _)); refine blk_put (cs := #[.int .i64 0, .int .i64 0, .int .i64 0, .int .i64 0, .slice none 0 0]) ?_ 0 _ rfl; (with_reducible repeat (first | refine blk_drewN ?_ _ | refine blk_drew ?_ | refine blk_alloc ?_ _)); exact BK194.out) hb); replace HB := AS (below_step (upB HB.out) hb); (try clear hb; try clear hb2; try clear hk; try clear hi)) | ((with_reducible refine gate_dst (N := 7) rfl ?_); refine box_event ?hg (N := 7) ?hd (cs := #[.int .i64 0, .int .i64 0, .int .i64 0, .int .i64 0]) (t := 23) ?hr ?_; (case hd => rfl); (case hg => rfl); (case hr => first | (go_simp; done) | (go_simp; rfl)); intro gb199 hg w50 hbox hb; replace HO193 := AS (Kd.R_below (upR HO193.out) hb); have BK199 := AS (hbox); have GW199 := AS ((by rw [hg]; exact (below_size (upB HB.out)) : w.heap.size ≤ gb199)); have GE199 := AS ((by rw [hg]; exact (below_size (upB HB.out)) : w.heap.size ≤ gb199)); replace HB := AS (below_step (upB HB.out) hb); have NB183_199 := AS ((by rw [hg]; exact Nat.ne_of_lt (blk_lt (upK BK183.out)) : gb183 ≠ gb199)); have NB199_183 := AS ((by rw [hg]; exact Nat.ne_of_gt (blk_lt (upK BK183.out)) : gb199 ≠ gb183)); replace BK183 := AS (blk_below (g := gb183) (o := .cells #[.int .i64 a0_0, .int .i64 a0_1, .int .i64 a0_2, .int .i64 a0_3, .slice A0_4 l0_4.length c0_4] 26) (upK BK183.out) hb); have NB184_199 := AS ((by rw [hg]; exact Nat.ne_of_lt (blk_lt (upK BK184.out)) : gb184 ≠ gb199)); have NB199_184 := AS ((by rw [hg]; exact Nat.ne_of_gt (blk_lt (upK BK184.out)) : gb199 ≠ gb184)); replace BK184 := AS (blk_below (g := gb184) (o := .cells #[.int .i64 a1_0, .int .i64 a1_1, .int .i64 a1_2, .int .i64 a1_3, .slice A1_4 l1_4.length c1_4] 26) (upK BK184.out) hb); have NB185_199 := AS ((by rw [hg]; exact Nat.ne_of_lt (blk_lt (upK BK185.out)) : gb185 ≠ gb199)); have NB199_185 := AS ((by rw [hg]; exact Nat.ne_of_gt (blk_lt (upK BK185.out)) : gb199 ≠ gb185)); replace BK185 := AS (blk_below (g := gb185) (o := .cells #[.int .i64 0, .int .i64 0, .int .i64 0, .int .i64 0, .slice none 0 0] 26) (upK BK185.out) hb); have NB194_199 := AS ((by rw [hg]; exact Nat.ne_of_lt (blk_lt (upK BK194.out)) : gb194 ≠ gb199)); have NB199_194 := AS ((by rw [hg]; exact Nat.ne_of_gt (blk_lt (upK BK194.out)) : gb199 ≠ gb194)); replace BK194 := AS (blk_below (g := gb194) (o := .cells #[.int .i64 a0_0, .int .i64 a0_1, .int .i64 a0_2, .int .i64 a0_3, .slice Ao36 y191.length co36] 26) (upK BK194.out) hb); clear hb hbox hg; have hnb51 := NB199_183.out; have hnc51 := NB183_199.out; have hnb52 := NB199_184.out; have hnc52 := NB184_199.out; have hnb53 := NB199_185.out; have hnc53 := NB185_199.out; have hnb54 := NB199_194.out; have hnc54 := NB194_199.out; have hcz55_0 : w50.cell? ⟨gb199, 0, none⟩ = some (.int .i64 0) := bc BK199 0; have hcz55_1 : w50.cell? ⟨gb199, 1, none⟩ = some (.int .i64 0) := bc BK199 1; have hcz55_2 : w50.cell? ⟨gb199, 2, none⟩ = some (.int .i64 0) := bc BK199 2; have hcz55_3 : w50.cell? ⟨gb199, 3, none⟩ = some (.int .i64 0) := bc BK199 3; have hfz55_0 := blk_frozen BK199.out 0; have hfz55_1 := blk_frozen BK199.out 1; have hfz55_2 := blk_frozen BK199.out 2; have hfz55_3 := blk_frozen BK199.out 3) | ((with_reducible refine gate_store (t := 23) (p := 7) rfl ?_); refine store_event (t := 23) (p := 7) (v := ?vo_w56) (w1 := ((((w50.setCell ⟨gb199, 0, none⟩ (.int .i64 t195)).setCell ⟨gb199, 1, none⟩ (.int .i64 t196)).setCell ⟨gb199, 2, none⟩ (.int .i64 t197)).setCell ⟨gb199, 3, none⟩ (.int .i64 t198))) ?hg ?ho ?hn ?hr ?_; (case ho => rfl); (case hg => rfl); (case hn => rfl); (case hr => first | (go_simp; done) | (go_simp; rfl)); intro w56 hw; have n0_ : Aside0 (Kd.R (Kd.int .i64) 3 w56 w.heap.size (fun _ => True) (.slice Ao36 y191.length co36) y191) := ⟨(by rw [hw]; exact (by (with_reducible repeat (first | apply Kd.R_alloc | apply Kd.R_drewN | apply Kd.R_drew)); exact Kd.R_mono (Kd.R_far (Kd.R_far (Kd.R_far (Kd.R_far (Kd.R_types HO193.out BK199.out (by decide)) (fun _ hk => hk.2) _) (fun _ hk => hk.2) _) (fun _ hk => hk.2) _) (fun _ hk => hk.2) _) (fun _ hk => trivial)))⟩; have n1_ : Aside0 (w56.heap[gb183]? = some (.cells #[.int .i64 a0_0, .int .i64 a0_1, .int .i64 a0_2, .int .i64 a0_3, .slice A0_4 l0_4.length c0_4] 26 (0, 0))) := ⟨(by rw [hw]; exact (by (with_reducible repeat (first | refine blk_far ?_ NB183_199.out _ | refine blk_drewN ?_ _ | refine blk_drew ?_ | refine blk_alloc ?_ _)); exact BK183.out))⟩; have n2_ : Aside0 (w56.heap[gb184]? = some (.cells #[.int .i64 a1_0, .int .i64 a1_1, .int .i64 a1_2, .int .i64 a1_3, .slice A1_4 l1_4.length c1_4] 26 (0, 0))) := ⟨(by rw [hw]; exact (by (with_reducible repeat (first | refine blk_far ?_ NB184_199.out _ | refine blk_drewN ?_ _ | refine blk_drew ?_ | refine blk_alloc ?_ _)); exact BK184.out))⟩; have n3_ : Aside0 (w56.heap[gb185]? = some (.cells #[.int .i64 0, .int .i64 0, .int .i64 0, .int .i64 0, .slice none 0 0] 26 (0, 0))) := ⟨(by rw [hw]; exact (by (with_reducible repeat (first | refine blk_far ?_ NB185_199.out _ | refine blk_drewN ?_ _ | refine blk_drew ?_ | refine blk_alloc ?_ _)); exact BK185.out))⟩; have n4_ : Aside0 (w56.heap[gb194]? = some (.cells #[.int .i64 a0_0, .int .i64 a0_1, .int .i64 a0_2, .int .i64 a0_3, .slice Ao36 y191.length co36] 26 (0, 0))) := ⟨(by rw [hw]; exact (by (with_reducible repeat (first | refine blk_far ?_ NB194_199.out _ | refine blk_drewN ?_ _ | refine blk_drew ?_ | refine blk_alloc ?_ _)); exact BK194.out))⟩; have n5_ : Aside0 (w56.heap[gb199]? = some (.cells #[.int .i64 t195, .int .i64 t196, .int .i64 t197, .int .i64 t198] 23 (0, 0))) := ⟨(by rw [hw]; exact (by (with_reducible repeat (first | refine blk_drewN ?_ _ | refine blk_drew ?_ | refine blk_alloc ?_ _)); refine blk_put (cs := #[.int .i64 t195, .int .i64 t196, .int .i64 t197, .int .i64 0]) ?_ 3 _ rfl; (with_reducible repeat (first | refine blk_drewN ?_ _ | refine blk_drew ?_ | refine blk_alloc ?_ _)); refine blk_put (cs := #[.int .i64 t195, .int .i64 t196, .int .i64 0, .int .i64 0]) ?_ 2 _ rfl; (with_reducible repeat (first | refine blk_drewN ?_ _ | refine blk_drew ?_ | refine blk_alloc ?_ _)); refine blk_put (cs := #[.int .i64 t195, .int .i64 0, .int .i64 0, .int .i64 0]) ?_ 1 _ rfl; (with_reducible repeat (first | refine blk_drewN ?_ _ | refine blk_drew ?_ | refine blk_alloc ?_ _)); refine blk_put (cs := #[.int .i64 0, .int .i64 0, .int .i64 0, .int .i64 0]) ?_ 0 _ rfl; (with_reducible repeat (first | refine blk_drewN ?_ _ | refine blk_drew ?_ | refine blk_alloc ?_ _)); exact BK199.out))⟩; have n6_ : Aside0 (Below w.heap.size w w56) := ⟨(by rw [hw]; exact (upB HB.out))⟩; clear hw HO193 BK183 BK184 BK185 BK194 BK199 HB; have HO193 := n0_; have BK183 := n1_; have BK184 := n2_; have BK185 := n3_; have BK194 := n4_; have BK199 := n5_; have HB := n6_; clear n0_ n1_ n2_ n3_ n4_ n5_ n6_; have hcz57_0 : w56.cell? ⟨gb199, 0, none⟩ = some (.int .i64 t195) := bc BK199 0; have hcz57_1 : w56.cell? ⟨gb199, 1, none⟩ = some (.int .i64 t196) := bc BK199 1; have hcz57_2 : w56.cell? ⟨gb199, 2, none⟩ = some (.int .i64 t197) := bc BK199 2; have hcz57_3 : w56.cell? ⟨gb199, 3, none⟩ = some (.int .i64 t198) := bc BK199 3; have hfz57_0 := blk_frozen BK199.out 0; have hfz57_1 := blk_frozen BK199.out 1; have hfz57_2 := blk_frozen BK199.out 2; have hfz57_3 := blk_frozen BK199.out 3; have hnb58 := NB194_185.out; have hnc58 := NB185_194.out; have hcz59_0 : w56.cell? ⟨gb194, 0, none⟩ = some (.int .i64 a0_0) := bc BK194 0; have hcz59_1 : w56.cell? ⟨gb194, 1, none⟩ = some (.int .i64 a0_1) := bc BK194 1; have hcz59_2 : w56.cell? ⟨gb194, 2, none⟩ = some (.int .i64 a0_2) := bc BK194 2; have hcz59_3 : w56.cell? ⟨gb194, 3, none⟩ = some (.int .i64 a0_3) := bc BK194 3; have hcz59_4 : w56.cell? ⟨gb194, 4, none⟩ = some (.slice Ao36 y191.length co36) := bc BK194 4; have hfz59_0 := blk_frozen BK194.out 0; have hfz59_1 := blk_frozen BK194.out 1; have hfz59_2 := blk_frozen BK194.out 2; have hfz59_3 := blk_frozen BK194.out 3; have hfz59_4 := blk_frozen BK194.out 4; have hcz60_0 : w56.cell? ⟨gb184, 0, none⟩ = some (.int .i64 a1_0) := bc BK184 0; have hcz60_1 : w56.cell? ⟨gb184, 1, none⟩ = some (.int .i64 a1_1) := bc BK184 1; have hcz60_2 : w56.cell? ⟨gb184, 2, none⟩ = some (.int .i64 a1_2) := bc BK184 2; have hcz60_3 : w56.cell? ⟨gb184, 3, none⟩ = some (.int .i64 a1_3) := bc BK184 3; have hcz60_4 : w56.cell? ⟨gb184, 4, none⟩ = some (.slice A1_4 l1_4.length c1_4) := bc BK184 4; have hfz60_0 := blk_frozen BK184.out 0; have hfz60_1 := blk_frozen BK184.out 1; have hfz60_2 := blk_frozen BK184.out 2; have hfz60_3 := blk_frozen BK184.out 3; have hfz60_4 := blk_frozen BK184.out 4) | ((with_reducible refine gate_callee (f := 48) rfl ?_); refine goesL_ (some 35) rfl rfl Try.func48 (by kernel_rfl) rfl #[.agg #[.int .i64 a0_0, .int .i64 a0_1, .int .i64 a0_2, .int .i64 a0_3, .slice Ao36 y191.length co36], .agg #[.int .i64 a1_0, .int .i64 a1_1, .int .i64 a1_2, .int .i64 a1_3, .slice A1_4 l1_4.length c1_4], .agg #[.int .i64 t195, .int .i64 t196, .int .i64 t197, .int .i64 t198]] rfl upL ?_; (with_reducible refine (plane_part.calls kj2 a0_0 a0_1 a0_2 a0_3 (fun k_ => some k_ = (.slice Ao36 y191.length co36 : Value).ownBlock) (.slice Ao36 y191.length co36) y191 a1_0 a1_1 a1_2 a1_3 _ _ l1_4 t195 t196 t197 t198 t200 w _ ?side1 ?side2 ?side3 ?side4 A28.out).mono ?_); (case side1 => repeat (first | (with_reducible first | exact HB.out | apply below_alloc | apply pw_below_drewN | apply below_drew1 | refine below_set ?_ GE183.out | refine below_set ?_ GE184.out | refine below_set ?_ GE185.out | refine below_set ?_ GE194.out | refine below_set ?_ GE199.out) | exact HB.out)); (case side2 => exact Kd.R_tight rfl HO193.out); (case side3 => exact Kd.C_kept_came (Kd.heap_int .i64) HR1_4.out (upB HB.out) (fun k_ hs_ => (fun e_ => Kd.R_base HO193.out k_ e_.symm) hs_)); (case side4 => exact HC1_4.out); rintro e w61 ⟨rfl, hy0, hb, hkp⟩; refine ⟨_, rfl, ?_⟩; replace BK183 := AS (blk_kept (upK BK183.out) hkp (fun hs_ => (fun e_ => (Kd.R_ne HO193.out BK183.out (by decide)) e_) hs_)); replace BK184 := AS (blk_kept (upK BK184.out) hkp (fun hs_ => (fun e_ => (Kd.R_ne HO193.out BK184.out (by decide)) e_) hs_)); replace BK185 := AS (blk_kept (upK BK185.out) hkp (fun hs_ => (fun e_ => (Kd.R_ne HO193.out BK185.out (by decide)) e_) hs_)); replace BK194 := AS (blk_kept (upK BK194.out) hkp (fun hs_ => (fun e_ => (Kd.R_ne HO193.out BK194.out (by decide)) e_) hs_)); replace BK199 := AS (blk_kept (upK BK199.out) hkp (fun hs_ => (fun e_ => (Kd.R_ne HO193.out BK199.out (by decide)) e_) hs_)); replace HO193 := AS (Kd.R_reok rfl hy0 (fun k_ e_ => HO193.out.1 k_ e_)); replace HB := AS (hb); (try clear hb; try clear hkp; try clear hy0); have hcz62_0 : w61.cell? ⟨gb194, 0, none⟩ = some (.int .i64 a0_0) := bc BK194 0; have hcz62_1 : w61.cell? ⟨gb194, 1, none⟩ = some (.int .i64 a0_1) := bc BK194 1; have hcz62_2 : w61.cell? ⟨gb194, 2, none⟩ = some (.int .i64 a0_2) := bc BK194 2; have hcz62_3 : w61.cell? ⟨gb194, 3, none⟩ = some (.int .i64 a0_3) := bc BK194 3; have hcz62_4 : w61.cell? ⟨gb194, 4, none⟩ = some (.slice Ao36 y191.length co36) := bc BK194 4; have hfz62_0 := blk_frozen BK194.out 0; have hfz62_1 := blk_frozen BK194.out 1; have hfz62_2 := blk_frozen BK194.out 2; have hfz62_3 := blk_frozen BK194.out 3; have hfz62_4 := blk_frozen BK194.out 4; have hcz63_0 : w61.cell? ⟨gb185, 0, none⟩ = some (.int .i64 0) := bc BK185 0; have hcz63_1 : w61.cell? ⟨gb185, 1, none⟩ = some (.int .i64 0) := bc BK185 1; have hcz63_2 : w61.cell? ⟨gb185, 2, none⟩ = some (.int .i64 0) := bc BK185 2; have hcz63_3 : w61.cell? ⟨gb185, 3, none⟩ = some (.int .i64 0) := bc BK185 3; have hcz63_4 : w61.cell? ⟨gb185, 4, none⟩ = some (.slice none 0 0) := bc BK185 4; have hfz63_0 := blk_frozen BK185.out 0; have hfz63_1 := blk_frozen BK185.out 1; have hfz63_2 := blk_frozen BK185.out 2; have hfz63_3 := blk_frozen BK185.out 3; have hfz63_4 := blk_frozen BK185.out 4))
      refine bodyPost_ret (results_ct rfl _ _ gb185 26 #[.int .i64 a0_0, .int .i64 a0_1, .int .i64 a0_2, .int .i64 a0_3, .slice Ao36 y191.length co36] (0, 0) _ rfl (by (with_reducible repeat (first | refine blk_drewN ?_ _ | refine blk_drew ?_ | refine blk_alloc ?_ _)); refine blk_put (cs := #[.int .i64 a0_0, .int .i64 a0_1, .int .i64 a0_2, .int .i64 a0_3, .slice none 0 0]) ?_ 4 _ rfl; (with_reducible repeat (first | refine blk_drewN ?_ _ | refine blk_drew ?_ | refine blk_alloc ?_ _)); refine blk_put (cs := #[.int .i64 a0_0, .int .i64 a0_1, .int .i64 a0_2, .int .i64 0, .slice none 0 0]) ?_ 3 _ rfl; (with_reducible repeat (first | refine blk_drewN ?_ _ | refine blk_drew ?_ | refine blk_alloc ?_ _)); refine blk_put (cs := #[.int .i64 a0_0, .int .i64 a0_1, .int .i64 0, .int .i64 0, .slice none 0 0]) ?_ 2 _ rfl; (with_reducible repeat (first | refine blk_drewN ?_ _ | refine blk_drew ?_ | refine blk_alloc ?_ _)); refine blk_put (cs := #[.int .i64 a0_0, .int .i64 0, .int .i64 0, .int .i64 0, .slice none 0 0]) ?_ 1 _ rfl; (with_reducible repeat (first | refine blk_drewN ?_ _ | refine blk_drew ?_ | refine blk_alloc ?_ _)); refine blk_put (cs := #[.int .i64 0, .int .i64 0, .int .i64 0, .int .i64 0, .slice none 0 0]) ?_ 0 _ rfl; (with_reducible repeat (first | refine blk_drewN ?_ _ | refine blk_drew ?_ | refine blk_alloc ?_ _)); exact BK185.out) Try.underlying26 rfl (by kernel_rfl)) rfl ?_
      exact ⟨_, by first | rfl | (simp [errW_none, errW_some] <;> rfl) | (simp [*, errW_none, errW_some] <;> rfl), by (with_reducible repeat (first | apply Kd.R_alloc | apply Kd.R_drewN | apply Kd.R_drew)); exact Kd.R_mono (Kd.R_far (Kd.R_far (Kd.R_far (Kd.R_far (Kd.R_far (Kd.R_types HO193.out BK185.out (by decide)) (fun _ hk => hk.2) _) (fun _ hk => hk.2) _) (fun _ hk => hk.2) _) (fun _ hk => hk.2) _) (fun _ hk => hk.2) _) (fun _ hk => trivial), by repeat (first | (with_reducible first | exact HB.out | apply below_alloc | apply pw_below_drewN | apply below_drew1 | refine below_set ?_ GE183.out | refine below_set ?_ GE184.out | refine below_set ?_ GE185.out | refine below_set ?_ GE194.out | refine below_set ?_ GE199.out) | exact HB.out)⟩
     ·rw [if_neg c27] at H
      have c27b0 : (!(t195 == 0) || (!(t196 == 0) || (!(t197 == 0) || (!(t198 == 0))))) = false := by simpa using c27
      clear c27
      simp only [Option.some.injEq, Prod.mk.injEq] at H
      obtain ⟨rfl, rfl, rfl, rfl, rfl, rfl⟩ := H
      try go_wp2
      replace BK183 := AS (blk_drew BK183.out)
      replace BK184 := AS (blk_drew BK184.out)
      replace BK185 := AS (blk_drew BK185.out)
      replace HB := AS (below_drew1 HB.out)
      refine start_ (n := 9) (S := fun w' => ce w' gb183 0 (.int .i64 a0_0) ∧ ce w' gb183 1 (.int .i64 a0_1) ∧ ce w' gb183 2 (.int .i64 a0_2) ∧ ce w' gb183 3 (.int .i64 a0_3) ∧ ce w' gb183 4 (.slice A0_4 l0_4.length c0_4)) (ds := []) #[false, false, false, false, false, false, false, false, false] (by kernel_rfl) rfl rfl ⟨bc BK183 0, bc BK183 1, bc BK183 2, bc BK183 3, bc BK183 4⟩ (fun hHeld => ?_); refine with_tabW plane_Paste.tab3 plane_Paste.bits3 (fun HT_ HW_ => ?_)
      generalize wc.drew = w64 at BK183 BK184 BK185 HB hHeld ⊢
      refine puX 0 17 (MK [1, 8]) HT_.out ?_
      refine puX 3 20 (MK [1, 2, 1, 5]) HT_.out ?_
      refine taX 1 18 (MK [2, 1, 1, 5]) HT_.out HW_.out hHeld ?_
      refine taX 4 21 (MK [2, 1, 2, 4]) HT_.out HW_.out hHeld ?_
      refine join_ (σ := Value × Value × Nat) 1 #[true, true, true, true, true, true, true, true, false] (fun s_ => [(19, s_.1), (22, s_.2.1), (6, .pointer (some ⟨s_.2.2, 0, none⟩)), (23, .agg #[.int .i64 a0_0, .int .i64 a0_1, .int .i64 a0_2, .int .i64 a0_3, s_.2.1])]) (fun s_ w' => (ce w' gb183 0 (.int .i64 a0_0) ∧ ce w' gb183 1 (.int .i64 a0_1) ∧ ce w' gb183 2 (.int .i64 a0_2) ∧ ce w' gb183 3 (.int .i64 a0_3) ∧ ce w' gb183 4 (.slice A0_4 l0_4.length c0_4)) ∧ (Kd.R (Kd.int .i64) 3 w' w.heap.size (fun _ => True) s_.2.1 y191) ∧ (w'.heap[gb183]? = some (.cells #[.int .i64 a0_0, .int .i64 a0_1, .int .i64 a0_2, .int .i64 a0_3, .slice A0_4 l0_4.length c0_4] 26 (0, 0))) ∧ (w'.heap[gb184]? = some (.cells #[.int .i64 a1_0, .int .i64 a1_1, .int .i64 a1_2, .int .i64 a1_3, .slice A1_4 l1_4.length c1_4] 26 (0, 0))) ∧ (w'.heap[gb185]? = some (.cells #[.int .i64 0, .int .i64 0, .int .i64 0, .int .i64 0, .slice none 0 0] 26 (0, 0))) ∧ (w'.heap[s_.2.2]? = some (.cells #[.int .i64 0, .int .i64 0, .int .i64 0, .int .i64 0, .slice none 0 0] 26 (0, 0))) ∧ (w.heap.size ≤ s_.2.2) ∧ (w.heap.size ≤ s_.2.2) ∧ (gb183 ≠ s_.2.2) ∧ (s_.2.2 ≠ gb183) ∧ (gb184 ≠ s_.2.2) ∧ (s_.2.2 ≠ gb184) ∧ (gb185 ≠ s_.2.2) ∧ (s_.2.2 ≠ gb185) ∧ (Below w.heap.size w w')) ?_ ?_
      rotate_left
      ·intro hCont
       refine two_ (i := 2) (j := 7) (Ni := some 19) (Nj := some 6) #[true, true, true, true, true, false, false, false, false] #[true, true, false, true, true, false, false, true, false] rfl rfl rfl rfl (two_of HT_.out (by kernel_rfl)) (by decide) (by decide) (fun K hK => ?_) (fun K hK => ?_)
       ·skip
        refine Kd.R_lit_step (Kd.int .i64) _ 3 ?hg (N := 19) ?hd (xs := ([] : List Int)) (inner := []) (ok := fun _ => True) (okp := fun _ => True) ?hr ?hp (fun _ hk => hk) trivial (Below.refl _ _) (Nat.le_refl _) (by simp) ?_; (case hd => rfl); (case hg => rfl); (case hr => first | (go_simp; done) | (go_simp; rfl)); (case hp => exact (Reps.none _ _))
        intro v189 w65 ho66 hb hg_ hnew_
        clear hg_ hnew_
        (first | rw [← Ny188.out] at ho66 | (simp only [Int.reduceToNat] at ho66; rw [← Ny188.out] at ho66))
        have HO190 := AS (Kd.R_lower ho66 (below_size (upB HB.out)))
        replace BK183 := AS (blk_below (g := gb183) (o := .cells #[.int .i64 a0_0, .int .i64 a0_1, .int .i64 a0_2, .int .i64 a0_3, .slice A0_4 l0_4.length c0_4] 26) (upK BK183.out) hb)
        replace BK184 := AS (blk_below (g := gb184) (o := .cells #[.int .i64 a1_0, .int .i64 a1_1, .int .i64 a1_2, .int .i64 a1_3, .slice A1_4 l1_4.length c1_4] 26) (upK BK184.out) hb)
        replace BK185 := AS (blk_below (g := gb185) (o := .cells #[.int .i64 0, .int .i64 0, .int .i64 0, .int .i64 0, .slice none 0 0] 26) (upK BK185.out) hb)
        replace HB := AS (below_step (upB HB.out) hb)
        clear hb ho66
        refine hK.out _ _ ⟨bc BK183 0, bc BK183 1, bc BK183 2, bc BK183 3, bc BK183 4⟩ (fun hHeld => ?_)
        clear hK K
        refine noX ?_
        refine two_ (i := 5) (j := 7) (Ni := some 22) (Nj := some 6) #[true, true, true, true, true, true, false, false, false] #[true, true, true, true, true, false, false, true, false] rfl rfl rfl rfl (two_of HT_.out (by kernel_rfl)) (by decide) (by decide) (fun K hK => ?_) (fun K hK => ?_)
        ·skip
         refine Kd.R_append_rows_step (Kd.int .i64) (w0 := w) w.heap.size (by rfl) (.tmp 19) (.tmp 21) 24 3 (.int .i64 0) 8 rfl Try.underlying24 info3 rfl (by decide) (by omega) v189 y188 l0_4 _ _ _ (fun _ => True) (fun _ => False) rfl rfl ?aO ?aR (fun _ _ h => h) (fun _ h => h.elim) ?aF ?aB ?aS ?aL ?_
         (case aR => repeat (first | exact (Kd.C_below HR0_4.out HB.out) | (with_reducible refine Kd.C_alloc ?_ _) | (with_reducible refine Kd.C_drewN ?_ _) | (with_reducible refine Kd.C_drew ?_)))
         (case aB => exact (upB HB.out))
         (case aF => exact (fun _ _ => trivial))
         (case aO => exact (upR HO190.out))
         (case aS => exact (below_size (upB HB.out)))
         (case aL => have := LMc25.out; omega)
         intro v192 w67 ho hb hg hat
         rw [← Ny191.out] at ho
         have n0_ := AS (blk_grown (g := gb183) (o := .cells #[.int .i64 a0_0, .int .i64 a0_1, .int .i64 a0_2, .int .i64 a0_3, .slice A0_4 l0_4.length c0_4] 26) (upK BK183.out) hg (Kd.R_ne HO190.out BK183.out (by decide)))
         have n1_ := AS (blk_grown (g := gb184) (o := .cells #[.int .i64 a1_0, .int .i64 a1_1, .int .i64 a1_2, .int .i64 a1_3, .slice A1_4 l1_4.length c1_4] 26) (upK BK184.out) hg (Kd.R_ne HO190.out BK184.out (by decide)))
         have n2_ := AS (blk_grown (g := gb185) (o := .cells #[.int .i64 0, .int .i64 0, .int .i64 0, .int .i64 0, .slice none 0 0] 26) (upK BK185.out) hg (Kd.R_ne HO190.out BK185.out (by decide)))
         have n3_ := AS (hb)
         have n4_ := AS (ho)
         clear BK183
         clear BK184
         clear BK185
         clear HB
         clear HO190
         have BK183 := n0_
         have BK184 := n1_
         have BK185 := n2_
         have HB := n3_
         have HO193 := n4_
         clear n0_ n1_ n2_ n3_ n4_
         clear ho hb hg hat
         obtain ⟨Ao68, co68, eo68⟩ := Kd.R_slice HO193.out
         (first | subst eo68 | (injection eo68 with f1_ f2_ f3_; have f4_ := f1_.symm; have f5_ := f3_.symm; clear f1_ f2_ f3_; subst f4_; subst f5_))
         refine hK.out _ _ ⟨bc BK183 0, bc BK183 1, bc BK183 2, bc BK183 3, bc BK183 4⟩ (fun hHeld => ?_)
         clear hK K
         refine noX ?_
         refine puX 6 23 (MK [7, 2]) HT_.out ?_
         refine onX 7 6 (MK [8, 1]) HT_.out (fun K hK => ?_)
         refine box_step ?hg (N := 6) ?hd (cs := #[.int .i64 0, .int .i64 0, .int .i64 0, .int .i64 0, .slice none 0 0]) (t := 26) ?hr ?_; (case hd => rfl); (case hg => rfl); (case hr => first | (go_simp; done) | (go_simp; rfl))
         intro gb194 hg w69 hbox hb
         replace HO193 := AS (Kd.R_below (upR HO193.out) hb)
         have BK194 := AS (hbox)
         have GW194 := AS ((by rw [hg]; exact (below_size (upB HB.out)) : w.heap.size ≤ gb194))
         have GE194 := AS ((by rw [hg]; exact (below_size (upB HB.out)) : w.heap.size ≤ gb194))
         replace HB := AS (below_step (upB HB.out) hb)
         have NB183_194 := AS ((by rw [hg]; exact Nat.ne_of_lt (blk_lt (upK BK183.out)) : gb183 ≠ gb194))
         have NB194_183 := AS ((by rw [hg]; exact Nat.ne_of_gt (blk_lt (upK BK183.out)) : gb194 ≠ gb183))
         replace BK183 := AS (blk_below (g := gb183) (o := .cells #[.int .i64 a0_0, .int .i64 a0_1, .int .i64 a0_2, .int .i64 a0_3, .slice A0_4 l0_4.length c0_4] 26) (upK BK183.out) hb)
         have NB184_194 := AS ((by rw [hg]; exact Nat.ne_of_lt (blk_lt (upK BK184.out)) : gb184 ≠ gb194))
         have NB194_184 := AS ((by rw [hg]; exact Nat.ne_of_gt (blk_lt (upK BK184.out)) : gb194 ≠ gb184))
         replace BK184 := AS (blk_below (g := gb184) (o := .cells #[.int .i64 a1_0, .int .i64 a1_1, .int .i64 a1_2, .int .i64 a1_3, .slice A1_4 l1_4.length c1_4] 26) (upK BK184.out) hb)
         have NB185_194 := AS ((by rw [hg]; exact Nat.ne_of_lt (blk_lt (upK BK185.out)) : gb185 ≠ gb194))
         have NB194_185 := AS ((by rw [hg]; exact Nat.ne_of_gt (blk_lt (upK BK185.out)) : gb194 ≠ gb185))
         replace BK185 := AS (blk_below (g := gb185) (o := .cells #[.int .i64 0, .int .i64 0, .int .i64 0, .int .i64 0, .slice none 0 0] 26) (upK BK185.out) hb)
         clear hb hbox hg
         refine hK.out _ _ ⟨bc BK183 0, bc BK183 1, bc BK183 2, bc BK183 3, bc BK183 4⟩ (fun hHeld => ?_)
         clear hK K
         refine noX ?_
         exact norm_ (by simp only [putAll, Act.put, List.setIfInBounds_toArray, List.set_cons_zero, List.set_cons_succ]) (hCont (v189, .slice Ao68 y191.length co68, gb194) _ ⟨hHeld, (upR HO193.out), (upK BK183.out), (upK BK184.out), (upK BK185.out), (upK BK194.out), GW194.out, GE194.out, NB183_194.out, NB194_183.out, NB184_194.out, NB194_184.out, NB185_194.out, NB194_185.out, (upB HB.out)⟩)
        ·skip
         refine box_step ?hg (N := 6) ?hd (cs := #[.int .i64 0, .int .i64 0, .int .i64 0, .int .i64 0, .slice none 0 0]) (t := 26) ?hr ?_; (case hd => rfl); (case hg => rfl); (case hr => first | (go_simp; done) | (go_simp; rfl))
         intro gb194 hg w67 hbox hb
         replace HO190 := AS (Kd.R_below (upR HO190.out) hb)
         have BK194 := AS (hbox)
         have GW194 := AS ((by rw [hg]; exact (below_size (upB HB.out)) : w.heap.size ≤ gb194))
         have GE194 := AS ((by rw [hg]; exact (below_size (upB HB.out)) : w.heap.size ≤ gb194))
         replace HB := AS (below_step (upB HB.out) hb)
         have NB183_194 := AS ((by rw [hg]; exact Nat.ne_of_lt (blk_lt (upK BK183.out)) : gb183 ≠ gb194))
         have NB194_183 := AS ((by rw [hg]; exact Nat.ne_of_gt (blk_lt (upK BK183.out)) : gb194 ≠ gb183))
         replace BK183 := AS (blk_below (g := gb183) (o := .cells #[.int .i64 a0_0, .int .i64 a0_1, .int .i64 a0_2, .int .i64 a0_3, .slice A0_4 l0_4.length c0_4] 26) (upK BK183.out) hb)
         have NB184_194 := AS ((by rw [hg]; exact Nat.ne_of_lt (blk_lt (upK BK184.out)) : gb184 ≠ gb194))
         have NB194_184 := AS ((by rw [hg]; exact Nat.ne_of_gt (blk_lt (upK BK184.out)) : gb194 ≠ gb184))
         replace BK184 := AS (blk_below (g := gb184) (o := .cells #[.int .i64 a1_0, .int .i64 a1_1, .int .i64 a1_2, .int .i64 a1_3, .slice A1_4 l1_4.length c1_4] 26) (upK BK184.out) hb)
         have NB185_194 := AS ((by rw [hg]; exact Nat.ne_of_lt (blk_lt (upK BK185.out)) : gb185 ≠ gb194))
         have NB194_185 := AS ((by rw [hg]; exact Nat.ne_of_gt (blk_lt (upK BK185.out)) : gb194 ≠ gb185))
         replace BK185 := AS (blk_below (g := gb185) (o := .cells #[.int .i64 0, .int .i64 0, .int .i64 0, .int .i64 0, .slice none 0 0] 26) (upK BK185.out) hb)
         clear hb hbox hg
         refine hK.out _ _ ⟨bc BK183 0, bc BK183 1, bc BK183 2, bc BK183 3, bc BK183 4⟩ (fun hHeld => ?_)
         clear hK K
         refine noX ?_
         refine onX 5 22 (MK [6, 1, 1, 1]) HT_.out (fun K hK => ?_)
         refine Kd.R_append_rows_step (Kd.int .i64) (w0 := w) w.heap.size (by rfl) (.tmp 19) (.tmp 21) 24 3 (.int .i64 0) 8 rfl Try.underlying24 info3 rfl (by decide) (by omega) v189 y188 l0_4 _ _ _ (fun _ => True) (fun _ => False) rfl rfl ?aO ?aR (fun _ _ h => h) (fun _ h => h.elim) ?aF ?aB ?aS ?aL ?_
         (case aR => repeat (first | exact (Kd.C_below HR0_4.out HB.out) | (with_reducible refine Kd.C_alloc ?_ _) | (with_reducible refine Kd.C_drewN ?_ _) | (with_reducible refine Kd.C_drew ?_)))
         (case aB => exact (upB HB.out))
         (case aF => exact (fun _ _ => trivial))
         (case aO => exact (upR HO190.out))
         (case aS => exact (below_size (upB HB.out)))
         (case aL => have := LMc25.out; omega)
         intro v192 w68 ho hb hg hat
         rw [← Ny191.out] at ho
         have n0_ := AS (blk_grown (g := gb183) (o := .cells #[.int .i64 a0_0, .int .i64 a0_1, .int .i64 a0_2, .int .i64 a0_3, .slice A0_4 l0_4.length c0_4] 26) (upK BK183.out) hg (Kd.R_ne HO190.out BK183.out (by decide)))
         have n1_ := AS (blk_grown (g := gb184) (o := .cells #[.int .i64 a1_0, .int .i64 a1_1, .int .i64 a1_2, .int .i64 a1_3, .slice A1_4 l1_4.length c1_4] 26) (upK BK184.out) hg (Kd.R_ne HO190.out BK184.out (by decide)))
         have n2_ := AS (blk_grown (g := gb185) (o := .cells #[.int .i64 0, .int .i64 0, .int .i64 0, .int .i64 0, .slice none 0 0] 26) (upK BK185.out) hg (Kd.R_ne HO190.out BK185.out (by decide)))
         have n3_ := AS (blk_grown (g := gb194) (o := .cells #[.int .i64 0, .int .i64 0, .int .i64 0, .int .i64 0, .slice none 0 0] 26) (upK BK194.out) hg (Kd.R_ne HO190.out BK194.out (by decide)))
         have n4_ := AS (hb)
         have n5_ := AS (ho)
         clear BK183
         clear BK184
         clear BK185
         clear BK194
         clear HB
         clear HO190
         have BK183 := n0_
         have BK184 := n1_
         have BK185 := n2_
         have BK194 := n3_
         have HB := n4_
         have HO193 := n5_
         clear n0_ n1_ n2_ n3_ n4_ n5_
         clear ho hb hg hat
         obtain ⟨Ao69, co69, eo69⟩ := Kd.R_slice HO193.out
         (first | subst eo69 | (injection eo69 with f1_ f2_ f3_; have f4_ := f1_.symm; have f5_ := f3_.symm; clear f1_ f2_ f3_; subst f4_; subst f5_))
         refine hK.out _ _ ⟨bc BK183 0, bc BK183 1, bc BK183 2, bc BK183 3, bc BK183 4⟩ (fun hHeld => ?_)
         clear hK K
         refine noX ?_
         refine puX 6 23 (MK [8, 1]) HT_.out ?_
         exact norm_ (by simp only [putAll, Act.put, List.setIfInBounds_toArray, List.set_cons_zero, List.set_cons_succ]) (hCont (v189, .slice Ao69 y191.length co69, gb194) _ ⟨hHeld, (upR HO193.out), (upK BK183.out), (upK BK184.out), (upK BK185.out), (upK BK194.out), GW194.out, GE194.out, NB183_194.out, NB194_183.out, NB184_194.out, NB194_184.out, NB185_194.out, NB194_185.out, (upB HB.out)⟩)
       ·skip
        refine box_step ?hg (N := 6) ?hd (cs := #[.int .i64 0, .int .i64 0, .int .i64 0, .int .i64 0, .slice none 0 0]) (t := 26) ?hr ?_; (case hd => rfl); (case hg => rfl); (case hr => first | (go_simp; done) | (go_simp; rfl))
        intro gb194 hg w65 hbox hb
        have BK194 := AS (hbox)
        have GW194 := AS ((by rw [hg]; exact (below_size (upB HB.out)) : w.heap.size ≤ gb194))
        have GE194 := AS ((by rw [hg]; exact (below_size (upB HB.out)) : w.heap.size ≤ gb194))
        replace HB := AS (below_step (upB HB.out) hb)
        have NB183_194 := AS ((by rw [hg]; exact Nat.ne_of_lt (blk_lt (upK BK183.out)) : gb183 ≠ gb194))
        have NB194_183 := AS ((by rw [hg]; exact Nat.ne_of_gt (blk_lt (upK BK183.out)) : gb194 ≠ gb183))
        replace BK183 := AS (blk_below (g := gb183) (o := .cells #[.int .i64 a0_0, .int .i64 a0_1, .int .i64 a0_2, .int .i64 a0_3, .slice A0_4 l0_4.length c0_4] 26) (upK BK183.out) hb)
        have NB184_194 := AS ((by rw [hg]; exact Nat.ne_of_lt (blk_lt (upK BK184.out)) : gb184 ≠ gb194))
        have NB194_184 := AS ((by rw [hg]; exact Nat.ne_of_gt (blk_lt (upK BK184.out)) : gb194 ≠ gb184))
        replace BK184 := AS (blk_below (g := gb184) (o := .cells #[.int .i64 a1_0, .int .i64 a1_1, .int .i64 a1_2, .int .i64 a1_3, .slice A1_4 l1_4.length c1_4] 26) (upK BK184.out) hb)
        have NB185_194 := AS ((by rw [hg]; exact Nat.ne_of_lt (blk_lt (upK BK185.out)) : gb185 ≠ gb194))
        have NB194_185 := AS ((by rw [hg]; exact Nat.ne_of_gt (blk_lt (upK BK185.out)) : gb194 ≠ gb185))
        replace BK185 := AS (blk_below (g := gb185) (o := .cells #[.int .i64 0, .int .i64 0, .int .i64 0, .int .i64 0, .slice none 0 0] 26) (upK BK185.out) hb)
        clear hb hbox hg
        refine hK.out _ _ ⟨bc BK183 0, bc BK183 1, bc BK183 2, bc BK183 3, bc BK183 4⟩ (fun hHeld => ?_)
        clear hK K
        refine noX ?_
        refine onX 2 19 (MK [5, 2, 1, 1]) HT_.out (fun K hK => ?_)
        refine Kd.R_lit_step (Kd.int .i64) _ 3 ?hg (N := 19) ?hd (xs := ([] : List Int)) (inner := []) (ok := fun _ => True) (okp := fun _ => True) ?hr ?hp (fun _ hk => hk) trivial (Below.refl _ _) (Nat.le_refl _) (by simp) ?_; (case hd => rfl); (case hg => rfl); (case hr => first | (go_simp; done) | (go_simp; rfl)); (case hp => exact (Reps.none _ _))
        intro v189 w66 ho67 hb hg_ hnew_
        clear hg_ hnew_
        (first | rw [← Ny188.out] at ho67 | (simp only [Int.reduceToNat] at ho67; rw [← Ny188.out] at ho67))
        have HO190 := AS (Kd.R_lower ho67 (below_size (upB HB.out)))
        replace BK183 := AS (blk_below (g := gb183) (o := .cells #[.int .i64 a0_0, .int .i64 a0_1, .int .i64 a0_2, .int .i64 a0_3, .slice A0_4 l0_4.length c0_4] 26) (upK BK183.out) hb)
        replace BK184 := AS (blk_below (g := gb184) (o := .cells #[.int .i64 a1_0, .int .i64 a1_1, .int .i64 a1_2, .int .i64 a1_3, .slice A1_4 l1_4.length c1_4] 26) (upK BK184.out) hb)
        replace BK185 := AS (blk_below (g := gb185) (o := .cells #[.int .i64 0, .int .i64 0, .int .i64 0, .int .i64 0, .slice none 0 0] 26) (upK BK185.out) hb)
        replace BK194 := AS (blk_below (g := gb194) (o := .cells #[.int .i64 0, .int .i64 0, .int .i64 0, .int .i64 0, .slice none 0 0] 26) (upK BK194.out) hb)
        replace HB := AS (below_step (upB HB.out) hb)
        clear hb ho67
        refine hK.out _ _ ⟨bc BK183 0, bc BK183 1, bc BK183 2, bc BK183 3, bc BK183 4⟩ (fun hHeld => ?_)
        clear hK K
        refine noX ?_
        refine onX 5 22 (MK [6, 1, 1, 1]) HT_.out (fun K hK => ?_)
        refine Kd.R_append_rows_step (Kd.int .i64) (w0 := w) w.heap.size (by rfl) (.tmp 19) (.tmp 21) 24 3 (.int .i64 0) 8 rfl Try.underlying24 info3 rfl (by decide) (by omega) v189 y188 l0_4 _ _ _ (fun _ => True) (fun _ => False) rfl rfl ?aO ?aR (fun _ _ h => h) (fun _ h => h.elim) ?aF ?aB ?aS ?aL ?_
        (case aR => repeat (first | exact (Kd.C_below HR0_4.out HB.out) | (with_reducible refine Kd.C_alloc ?_ _) | (with_reducible refine Kd.C_drewN ?_ _) | (with_reducible refine Kd.C_drew ?_)))
        (case aB => exact (upB HB.out))
        (case aF => exact (fun _ _ => trivial))
        (case aO => exact (upR HO190.out))
        (case aS => exact (below_size (upB HB.out)))
        (case aL => have := LMc25.out; omega)
        intro v192 w68 ho hb hg hat
        rw [← Ny191.out] at ho
        have n0_ := AS (blk_grown (g := gb183) (o := .cells #[.int .i64 a0_0, .int .i64 a0_1, .int .i64 a0_2, .int .i64 a0_3, .slice A0_4 l0_4.length c0_4] 26) (upK BK183.out) hg (Kd.R_ne HO190.out BK183.out (by decide)))
        have n1_ := AS (blk_grown (g := gb184) (o := .cells #[.int .i64 a1_0, .int .i64 a1_1, .int .i64 a1_2, .int .i64 a1_3, .slice A1_4 l1_4.length c1_4] 26) (upK BK184.out) hg (Kd.R_ne HO190.out BK184.out (by decide)))
        have n2_ := AS (blk_grown (g := gb185) (o := .cells #[.int .i64 0, .int .i64 0, .int .i64 0, .int .i64 0, .slice none 0 0] 26) (upK BK185.out) hg (Kd.R_ne HO190.out BK185.out (by decide)))
        have n3_ := AS (blk_grown (g := gb194) (o := .cells #[.int .i64 0, .int .i64 0, .int .i64 0, .int .i64 0, .slice none 0 0] 26) (upK BK194.out) hg (Kd.R_ne HO190.out BK194.out (by decide)))
        have n4_ := AS (hb)
        have n5_ := AS (ho)
        clear BK183
        clear BK184
        clear BK185
        clear BK194
        clear HB
        clear HO190
        have BK183 := n0_
        have BK184 := n1_
        have BK185 := n2_
        have BK194 := n3_
        have HB := n4_
        have HO193 := n5_
        clear n0_ n1_ n2_ n3_ n4_ n5_
        clear ho hb hg hat
        obtain ⟨Ao69, co69, eo69⟩ := Kd.R_slice HO193.out
        (first | subst eo69 | (injection eo69 with f1_ f2_ f3_; have f4_ := f1_.symm; have f5_ := f3_.symm; clear f1_ f2_ f3_; subst f4_; subst f5_))
        refine hK.out _ _ ⟨bc BK183 0, bc BK183 1, bc BK183 2, bc BK183 3, bc BK183 4⟩ (fun hHeld => ?_)
        clear hK K
        refine noX ?_
        refine puX 6 23 (MK [8, 1]) HT_.out ?_
        exact norm_ (by simp only [putAll, Act.put, List.setIfInBounds_toArray, List.set_cons_zero, List.set_cons_succ]) (hCont (v189, .slice Ao69 y191.length co69, gb194) _ ⟨hHeld, (upR HO193.out), (upK BK183.out), (upK BK184.out), (upK BK185.out), (upK BK194.out), GW194.out, GE194.out, NB183_194.out, NB194_183.out, NB184_194.out, NB194_184.out, NB185_194.out, NB194_185.out, (upB HB.out)⟩)
      rintro ⟨v189, v192, gb194⟩ w70 ⟨hS_, h0_, h1_, h2_, h3_, h4_, h5_, h6_, h7_, h8_, h9_, h10_, h11_, h12_, h13_⟩
      have n0_ : Aside0 (Kd.R (Kd.int .i64) 3 w70 w.heap.size (fun _ => True) v192 y191) := ⟨h0_⟩
      have n1_ : Aside0 (w70.heap[gb183]? = some (.cells #[.int .i64 a0_0, .int .i64 a0_1, .int .i64 a0_2, .int .i64 a0_3, .slice A0_4 l0_4.length c0_4] 26 (0, 0))) := ⟨h1_⟩
      have n2_ : Aside0 (w70.heap[gb184]? = some (.cells #[.int .i64 a1_0, .int .i64 a1_1, .int .i64 a1_2, .int .i64 a1_3, .slice A1_4 l1_4.length c1_4] 26 (0, 0))) := ⟨h2_⟩
      have n3_ : Aside0 (w70.heap[gb185]? = some (.cells #[.int .i64 0, .int .i64 0, .int .i64 0, .int .i64 0, .slice none 0 0] 26 (0, 0))) := ⟨h3_⟩
      have n4_ : Aside0 (w70.heap[gb194]? = some (.cells #[.int .i64 0, .int .i64 0, .int .i64 0, .int .i64 0, .slice none 0 0] 26 (0, 0))) := ⟨h4_⟩
      have n5_ : Aside0 (w.heap.size ≤ gb194) := ⟨h5_⟩
      have n6_ : Aside0 (w.heap.size ≤ gb194) := ⟨h6_⟩
      have n7_ : Aside0 (gb183 ≠ gb194) := ⟨h7_⟩
      have n8_ : Aside0 (gb194 ≠ gb183) := ⟨h8_⟩
      have n9_ : Aside0 (gb184 ≠ gb194) := ⟨h9_⟩
      have n10_ : Aside0 (gb194 ≠ gb184) := ⟨h10_⟩
      have n11_ : Aside0 (gb185 ≠ gb194) := ⟨h11_⟩
      have n12_ : Aside0 (gb194 ≠ gb185) := ⟨h12_⟩
      have n13_ : Aside0 (Below w.heap.size w w70) := ⟨h13_⟩
      clear BK183
      clear BK184
      clear BK185
      clear HB
      clear h0_ h1_ h2_ h3_ h4_ h5_ h6_ h7_ h8_ h9_ h10_ h11_ h12_ h13_
      have HO193 := n0_
      have BK183 := n1_
      have BK184 := n2_
      have BK185 := n3_
      have BK194 := n4_
      have GW194 := n5_
      have GE194 := n6_
      have NB183_194 := n7_
      have NB194_183 := n8_
      have NB184_194 := n9_
      have NB194_184 := n10_
      have NB185_194 := n11_
      have NB194_185 := n12_
      have HB := n13_
      clear n0_ n1_ n2_ n3_ n4_ n5_ n6_ n7_ n8_ n9_ n10_ n11_ n12_ n13_
      have hHeld : w70.cell? ⟨gb183, 0, none⟩ = some (.int .i64 a0_0) ∧ w70.cell? ⟨gb183, 1, none⟩ = some (.int .i64 a0_1) ∧ w70.cell? ⟨gb183, 2, none⟩ = some (.int .i64 a0_2) ∧ w70.cell? ⟨gb183, 3, none⟩ = some (.int .i64 a0_3) ∧ w70.cell? ⟨gb183, 4, none⟩ = some (.slice A0_4 l0_4.length c0_4) := hS_
      obtain ⟨Ao71, co71, eo71⟩ := Kd.R_slice HO193.out
      (first | subst eo71 | (injection eo71 with f1_ f2_ f3_; have f4_ := f1_.symm; have f5_ := f3_.symm; clear f1_ f2_ f3_; subst f4_; subst f5_))
      refine norm_ (a' := ?_) ?_ ?_
      rotate_left
      ·simp only [putAll, Act.put, List.setIfInBounds_toArray, List.set_cons_zero, List.set_cons_succ]
       rfl
      refine one_ (i := 8) (N := none) #[true, true, true, true, true, true, true, true, true] rfl rfl (one_of HT_.out (by kernel_rfl)) (by decide) (fun K hK => ?_)
      have hs72 : w70.cell? ⟨gb194, 0, none⟩ = some (.int .i64 0) := bc BK194 0
      have hfs72 := blk_frozen BK194.out 0
      have hns72_0 := NB183_194.out
      have hns72_1 := NB184_194.out
      have hns72_2 := NB185_194.out
      have hms72_0 := NB194_183.out
      have hms72_1 := NB194_184.out
      have hms72_2 := NB194_185.out
      have hs73 : w70.cell? ⟨gb194, 1, none⟩ = some (.int .i64 0) := bc BK194 1
      have hfs73 := blk_frozen BK194.out 1
      have hns73_0 := NB183_194.out
      have hns73_1 := NB184_194.out
      have hns73_2 := NB185_194.out
      have hms73_0 := NB194_183.out
      have hms73_1 := NB194_184.out
      have hms73_2 := NB194_185.out
      have hs74 : w70.cell? ⟨gb194, 2, none⟩ = some (.int .i64 0) := bc BK194 2
      have hfs74 := blk_frozen BK194.out 2
      have hns74_0 := NB183_194.out
      have hns74_1 := NB184_194.out
      have hns74_2 := NB185_194.out
      have hms74_0 := NB194_183.out
      have hms74_1 := NB194_184.out
      have hms74_2 := NB194_185.out
      have hs75 : w70.cell? ⟨gb194, 3, none⟩ = some (.int .i64 0) := bc BK194 3
      have hfs75 := blk_frozen BK194.out 3
      have hns75_0 := NB183_194.out
      have hns75_1 := NB184_194.out
      have hns75_2 := NB185_194.out
      have hms75_0 := NB194_183.out
      have hms75_1 := NB194_184.out
      have hms75_2 := NB194_185.out
      have hs76 : w70.cell? ⟨gb194, 4, none⟩ = some (.slice none 0 0) := bc BK194 4
      have hfs76 := blk_frozen BK194.out 4
      have hns76_0 := NB183_194.out
      have hns76_1 := NB184_194.out
      have hns76_2 := NB185_194.out
      have hms76_0 := NB194_183.out
      have hms76_1 := NB194_184.out
      have hms76_2 := NB194_185.out
      refine skip_ (w1 := ?_) (by rfl) rfl ?_ ?_
      rotate_left
      ·go_simp
       rfl
      refine hK.out _ _ ⟨((cell_far (p := ⟨gb194, _, none⟩) NB183_194.out _).trans (((cell_far (p := ⟨gb194, _, none⟩) NB183_194.out _).trans (((cell_far (p := ⟨gb194, _, none⟩) NB183_194.out _).trans (((cell_far (p := ⟨gb194, _, none⟩) NB183_194.out _).trans (((cell_far (p := ⟨gb194, _, none⟩) NB183_194.out _).trans (hHeld.1)))))))))), ((cell_far (p := ⟨gb194, _, none⟩) NB183_194.out _).trans (((cell_far (p := ⟨gb194, _, none⟩) NB183_194.out _).trans (((cell_far (p := ⟨gb194, _, none⟩) NB183_194.out _).trans (((cell_far (p := ⟨gb194, _, none⟩) NB183_194.out _).trans (((cell_far (p := ⟨gb194, _, none⟩) NB183_194.out _).trans (hHeld.2.1)))))))))), ((cell_far (p := ⟨gb194, _, none⟩) NB183_194.out _).trans (((cell_far (p := ⟨gb194, _, none⟩) NB183_194.out _).trans (((cell_far (p := ⟨gb194, _, none⟩) NB183_194.out _).trans (((cell_far (p := ⟨gb194, _, none⟩) NB183_194.out _).trans (((cell_far (p := ⟨gb194, _, none⟩) NB183_194.out _).trans (hHeld.2.2.1)))))))))), ((cell_far (p := ⟨gb194, _, none⟩) NB183_194.out _).trans (((cell_far (p := ⟨gb194, _, none⟩) NB183_194.out _).trans (((cell_far (p := ⟨gb194, _, none⟩) NB183_194.out _).trans (((cell_far (p := ⟨gb194, _, none⟩) NB183_194.out _).trans (((cell_far (p := ⟨gb194, _, none⟩) NB183_194.out _).trans (hHeld.2.2.2.1)))))))))), ((cell_far (p := ⟨gb194, _, none⟩) NB183_194.out _).trans (((cell_far (p := ⟨gb194, _, none⟩) NB183_194.out _).trans (((cell_far (p := ⟨gb194, _, none⟩) NB183_194.out _).trans (((cell_far (p := ⟨gb194, _, none⟩) NB183_194.out _).trans (((cell_far (p := ⟨gb194, _, none⟩) NB183_194.out _).trans (hHeld.2.2.2.2))))))))))⟩ (fun hHeld => ?_)
      clear hK K
      refine done_ (done_of HT_.out (by kernel_rfl)) ?_
      have hnb77 := NB183_184.out
      have hnc77 := NB184_183.out
      have hnb78 := NB183_185.out
      have hnc78 := NB185_183.out
      have hnb79 := NB183_194.out
      have hnc79 := NB194_183.out
      have hcz80_0 : w70.cell? ⟨gb183, 0, none⟩ = some (.int .i64 a0_0) := bc BK183 0
      have hcz80_1 : w70.cell? ⟨gb183, 1, none⟩ = some (.int .i64 a0_1) := bc BK183 1
      have hcz80_2 : w70.cell? ⟨gb183, 2, none⟩ = some (.int .i64 a0_2) := bc BK183 2
      have hcz80_3 : w70.cell? ⟨gb183, 3, none⟩ = some (.int .i64 a0_3) := bc BK183 3
      have hcz80_4 : w70.cell? ⟨gb183, 4, none⟩ = some (.slice A0_4 l0_4.length c0_4) := bc BK183 4
      have hfz80_0 := blk_frozen BK183.out 0
      have hfz80_1 := blk_frozen BK183.out 1
      have hfz80_2 := blk_frozen BK183.out 2
      have hfz80_3 := blk_frozen BK183.out 3
      have hfz80_4 := blk_frozen BK183.out 4
      have hnb81 := NB184_185.out
      have hnc81 := NB185_184.out
      have hnb82 := NB184_194.out
      have hnc82 := NB194_184.out
      have hcz83_0 : w70.cell? ⟨gb184, 0, none⟩ = some (.int .i64 a1_0) := bc BK184 0
      have hcz83_1 : w70.cell? ⟨gb184, 1, none⟩ = some (.int .i64 a1_1) := bc BK184 1
      have hcz83_2 : w70.cell? ⟨gb184, 2, none⟩ = some (.int .i64 a1_2) := bc BK184 2
      have hcz83_3 : w70.cell? ⟨gb184, 3, none⟩ = some (.int .i64 a1_3) := bc BK184 3
      have hcz83_4 : w70.cell? ⟨gb184, 4, none⟩ = some (.slice A1_4 l1_4.length c1_4) := bc BK184 4
      have hfz83_0 := blk_frozen BK184.out 0
      have hfz83_1 := blk_frozen BK184.out 1
      have hfz83_2 := blk_frozen BK184.out 2
      have hfz83_3 := blk_frozen BK184.out 3
      have hfz83_4 := blk_frozen BK184.out 4
      try go_wp2_with (first | ((with_reducible refine gate_callee (f := 49) rfl ?_); refine goesL_ (some 28) rfl rfl Try.func49 (by kernel_rfl) rfl #[.agg #[.int .i64 a0_0, .int .i64 a0_1, .int .i64 a0_2, .int .i64 a0_3], .agg #[.int .i64 a1_0, .int .i64 a1_1, .int .i64 a1_2, .int .i64 a1_3]] rfl upL ?_; (with_reducible refine (rect_Intersect.calls a0_0 a0_1 a0_2 a0_3 a1_0 a1_1 a1_2 a1_3 t195 t196 t197 t198 _ A26.out).mono ?_); rintro e w84 ⟨rfl, hb⟩; refine ⟨_, rfl, ?_⟩; replace HO193 := AS (Kd.R_below (by (with_reducible repeat (first | apply Kd.R_alloc | apply Kd.R_drewN | apply Kd.R_drew)); exact (Kd.R_mono (Kd.R_far (Kd.R_far (Kd.R_far (Kd.R_far (Kd.R_far (Kd.R_types HO193.out BK194.out (by decide)) (fun _ hk => hk.2) _) (fun _ hk => hk.2) _) (fun _ hk => hk.2) _) (fun _ hk => hk.2) _) (fun _ hk => hk.2) _) (fun _ h_ => h_.1))) hb); replace BK183 := AS (blk_below (g := gb183) (o := .cells #[.int .i64 a0_0, .int .i64 a0_1, .int .i64 a0_2, .int .i64 a0_3, .slice A0_4 l0_4.length c0_4] 26) (by (with_reducible repeat (first | refine blk_far ?_ NB183_194.out _ | refine blk_drewN ?_ _ | refine blk_drew ?_ | refine blk_alloc ?_ _)); exact BK183.out) hb); replace BK184 := AS (blk_below (g := gb184) (o := .cells #[.int .i64 a1_0, .int .i64 a1_1, .int .i64 a1_2, .int .i64 a1_3, .slice A1_4 l1_4.length c1_4] 26) (by (with_reducible repeat (first | refine blk_far ?_ NB184_194.out _ | refine blk_drewN ?_ _ | refine blk_drew ?_ | refine blk_alloc ?_ _)); exact BK184.out) hb); replace BK185 := AS (blk_below (g := gb185) (o := .cells #[.int .i64 0, .int .i64 0, .int .i64 0, .int .i64 0, .slice none 0 0] 26) (by (with_reducible repeat (first | refine blk_far ?_ NB185_194.out _ | refine blk_drewN ?_ _ | refine blk_drew ?_ | refine blk_alloc ?_ _)); exact BK185.out) hb); replace BK194 := AS (blk_below (g := gb194) (o := .cells #[.int .i64 a0_0, .int .i64 a0_1, .int .i64 a0_2, .int .i64 a0_3, .slice Ao71 y191.length co71] 26) (by (with_reducible repeat (first | refine blk_drewN ?_ _ | refine blk_drew ?_ | refine blk_alloc ?_ _)); refine blk_put (cs := #[.int .i64 a0_0, .int .i64 a0_1, .int .i64 a0_2, .int .i64 a0_3, .slice none 0 0]) ?_ 4 _ rfl; (with_reducible repeat (first | refine blk_drewN ?_ _ | refine blk_drew ?_ | refine blk_alloc ?_ _)); refine blk_put (cs := #[.int .i64 a0_0, .int .i64 a0_1, .int .i64 a0_2, .int .i64 0, .slice none 0 0]) ?_ 3 _ rfl; (with_reducible repeat (first | refine blk_drewN ?_ _ | refine blk_drew ?_ | refine blk_alloc ?_ _)); refine blk_put (cs := #[.int .i64 a0_0, .int .i64 a0_1, .int .i64 0, .int .i64 0, .slice none 0 0]) ?_ 2 _ rfl; (with_reducible repeat (first | refine blk_drewN ?_ _ | refine blk_drew ?_ | refine blk_alloc ?_ _)); refine blk_put (cs := #[.int .i64 a0_0, .int .i64 0, .int .i64 0, .int .i64 0, .slice none 0 0]) ?_ 1 _ rfl; (with_reducible repeat (first | refine blk_drewN ?_ _ | refine blk_drew ?_ | refine blk_alloc ?_ _)); refine blk_put (cs := #[.int .i64 0, .int .i64 0, .int .i64 0, .int .i64 0, .slice none 0 0]) ?_ 0 _ rfl; (with_reducible repeat (first | refine blk_drewN ?_ _ | refine blk_drew ?_ | refine blk_alloc ?_ _)); exact BK194.out) hb); replace HB := AS (below_step (upB HB.out) hb); (try clear hb; try clear hb2; try clear hk; try clear hi)) | ((with_reducible refine gate_dst (N := 7) rfl ?_); refine box_event ?hg (N := 7) ?hd (cs := #[.int .i64 0, .int .i64 0, .int .i64 0, .int .i64 0]) (t := 23) ?hr ?_; (case hd => rfl); (case hg => rfl); (case hr => first | (go_simp; done) | (go_simp; rfl)); intro gb199 hg w85 hbox hb; replace HO193 := AS (Kd.R_below (upR HO193.out) hb); have BK199 := AS (hbox); have GW199 := AS ((by rw [hg]; exact (below_size (upB HB.out)) : w.heap.size ≤ gb199)); have GE199 := AS ((by rw [hg]; exact (below_size (upB HB.out)) : w.heap.size ≤ gb199)); replace HB := AS (below_step (upB HB.out) hb); have NB183_199 := AS ((by rw [hg]; exact Nat.ne_of_lt (blk_lt (upK BK183.out)) : gb183 ≠ gb199)); have NB199_183 := AS ((by rw [hg]; exact Nat.ne_of_gt (blk_lt (upK BK183.out)) : gb199 ≠ gb183)); replace BK183 := AS (blk_below (g := gb183) (o := .cells #[.int .i64 a0_0, .int .i64 a0_1, .int .i64 a0_2, .int .i64 a0_3, .slice A0_4 l0_4.length c0_4] 26) (upK BK183.out) hb); have NB184_199 := AS ((by rw [hg]; exact Nat.ne_of_lt (blk_lt (upK BK184.out)) : gb184 ≠ gb199)); have NB199_184 := AS ((by rw [hg]; exact Nat.ne_of_gt (blk_lt (upK BK184.out)) : gb199 ≠ gb184)); replace BK184 := AS (blk_below (g := gb184) (o := .cells #[.int .i64 a1_0, .int .i64 a1_1, .int .i64 a1_2, .int .i64 a1_3, .slice A1_4 l1_4.length c1_4] 26) (upK BK184.out) hb); have NB185_199 := AS ((by rw [hg]; exact Nat.ne_of_lt (blk_lt (upK BK185.out)) : gb185 ≠ gb199)); have NB199_185 := AS ((by rw [hg]; exact Nat.ne_of_gt (blk_lt (upK BK185.out)) : gb199 ≠ gb185)); replace BK185 := AS (blk_below (g := gb185) (o := .cells #[.int .i64 0, .int .i64 0, .int .i64 0, .int .i64 0, .slice none 0 0] 26) (upK BK185.out) hb); have NB194_199 := AS ((by rw [hg]; exact Nat.ne_of_lt (blk_lt (upK BK194.out)) : gb194 ≠ gb199)); have NB199_194 := AS ((by rw [hg]; exact Nat.ne_of_gt (blk_lt (upK BK194.out)) : gb199 ≠ gb194)); replace BK194 := AS (blk_below (g := gb194) (o := .cells #[.int .i64 a0_0, .int .i64 a0_1, .int .i64 a0_2, .int .i64 a0_3, .slice Ao71 y191.length co71] 26) (upK BK194.out) hb); clear hb hbox hg; have hnb86 := NB199_183.out; have hnc86 := NB183_199.out; have hnb87 := NB199_184.out; have hnc87 := NB184_199.out; have hnb88 := NB199_185.out; have hnc88 := NB185_199.out; have hnb89 := NB199_194.out; have hnc89 := NB194_199.out; have hcz90_0 : w85.cell? ⟨gb199, 0, none⟩ = some (.int .i64 0) := bc BK199 0; have hcz90_1 : w85.cell? ⟨gb199, 1, none⟩ = some (.int .i64 0) := bc BK199 1; have hcz90_2 : w85.cell? ⟨gb199, 2, none⟩ = some (.int .i64 0) := bc BK199 2; have hcz90_3 : w85.cell? ⟨gb199, 3, none⟩ = some (.int .i64 0) := bc BK199 3; have hfz90_0 := blk_frozen BK199.out 0; have hfz90_1 := blk_frozen BK199.out 1; have hfz90_2 := blk_frozen BK199.out 2; have hfz90_3 := blk_frozen BK199.out 3; have hnb91 := NB194_185.out; have hnc91 := NB185_194.out; have hcz92_0 : w85.cell? ⟨gb194, 0, none⟩ = some (.int .i64 a0_0) := bc BK194 0; have hcz92_1 : w85.cell? ⟨gb194, 1, none⟩ = some (.int .i64 a0_1) := bc BK194 1; have hcz92_2 : w85.cell? ⟨gb194, 2, none⟩ = some (.int .i64 a0_2) := bc BK194 2; have hcz92_3 : w85.cell? ⟨gb194, 3, none⟩ = some (.int .i64 a0_3) := bc BK194 3; have hcz92_4 : w85.cell? ⟨gb194, 4, none⟩ = some (.slice Ao71 y191.length co71) := bc BK194 4; have hfz92_0 := blk_frozen BK194.out 0; have hfz92_1 := blk_frozen BK194.out 1; have hfz92_2 := blk_frozen BK194.out 2; have hfz92_3 := blk_frozen BK194.out 3; have hfz92_4 := blk_frozen BK194.out 4; have hcz93_0 : w85.cell? ⟨gb185, 0, none⟩ = some (.int .i64 0) := bc BK185 0; have hcz93_1 : w85.cell? ⟨gb185, 1, none⟩ = some (.int .i64 0) := bc BK185 1; have hcz93_2 : w85.cell? ⟨gb185, 2, none⟩ = some (.int .i64 0) := bc BK185 2; have hcz93_3 : w85.cell? ⟨gb185, 3, none⟩ = some (.int .i64 0) := bc BK185 3; have hcz93_4 : w85.cell? ⟨gb185, 4, none⟩ = some (.slice none 0 0) := bc BK185 4; have hfz93_0 := blk_frozen BK185.out 0; have hfz93_1 := blk_frozen BK185.out 1; have hfz93_2 := blk_frozen BK185.out 2; have hfz93_3 := blk_frozen BK185.out 3; have hfz93_4 := blk_frozen BK185.out 4))
      refine bodyPost_ret (results_ct rfl _ _ gb185 26 #[.int .i64 a0_0, .int .i64 a0_1, .int .i64 a0_2, .int .i64 a0_3, .slice Ao71 y191.length co71] (0, 0) _ rfl (by (with_reducible repeat (first | refine blk_drewN ?_ _ | refine blk_drew ?_ | refine blk_alloc ?_ _)); refine blk_put (cs := #[.int .i64 a0_0, .int .i64 a0_1, .int .i64 a0_2, .int .i64 a0_3, .slice none 0 0]) ?_ 4 _ rfl; (with_reducible repeat (first | refine blk_drewN ?_ _ | refine blk_drew ?_ | refine blk_alloc ?_ _)); refine blk_put (cs := #[.int .i64 a0_0, .int .i64 a0_1, .int .i64 a0_2, .int .i64 0, .slice none 0 0]) ?_ 3 _ rfl; (with_reducible repeat (first | refine blk_drewN ?_ _ | refine blk_drew ?_ | refine blk_alloc ?_ _)); refine blk_put (cs := #[.int .i64 a0_0, .int .i64 a0_1, .int .i64 0, .int .i64 0, .slice none 0 0]) ?_ 2 _ rfl; (with_reducible repeat (first | refine blk_drewN ?_ _ | refine blk_drew ?_ | refine blk_alloc ?_ _)); refine blk_put (cs := #[.int .i64 a0_0, .int .i64 0, .int .i64 0, .int .i64 0, .slice none 0 0]) ?_ 1 _ rfl; (with_reducible repeat (first | refine blk_drewN ?_ _ | refine blk_drew ?_ | refine blk_alloc ?_ _)); refine blk_put (cs := #[.int .i64 0, .int .i64 0, .int .i64 0, .int .i64 0, .slice none 0 0]) ?_ 0 _ rfl; (with_reducible repeat (first | refine blk_far ?_ NB185_199.out _ | refine blk_drewN ?_ _ | refine blk_drew ?_ | refine blk_alloc ?_ _)); exact BK185.out) Try.underlying26 rfl (by kernel_rfl)) rfl ?_
      exact ⟨_, by first | rfl | (simp [errW_none, errW_some] <;> rfl) | (simp [*, errW_none, errW_some] <;> rfl), by (with_reducible repeat (first | apply Kd.R_alloc | apply Kd.R_drewN | apply Kd.R_drew)); exact Kd.R_mono (Kd.R_far (Kd.R_far (Kd.R_far (Kd.R_far (Kd.R_far (Kd.R_far (Kd.R_far (Kd.R_far (Kd.R_far (Kd.R_types (Kd.R_types HO193.out BK199.out (by decide)) BK185.out (by decide)) (fun _ hk => hk.1.2) _) (fun _ hk => hk.1.2) _) (fun _ hk => hk.1.2) _) (fun _ hk => hk.1.2) _) (fun _ hk => hk.2) _) (fun _ hk => hk.2) _) (fun _ hk => hk.2) _) (fun _ hk => hk.2) _) (fun _ hk => hk.2) _) (fun _ hk => trivial), by repeat (first | (with_reducible first | exact HB.out | apply below_alloc | apply pw_below_drewN | apply below_drew1 | refine below_set ?_ GE183.out | refine below_set ?_ GE184.out | refine below_set ?_ GE185.out | refine below_set ?_ GE194.out | refine below_set ?_ GE199.out) | exact HB.out)⟩
    ·rw [if_neg c25] at H
     exact absurd H (by simp)

end Go.Proofs.Ythemchggmlpdhaa.Q
