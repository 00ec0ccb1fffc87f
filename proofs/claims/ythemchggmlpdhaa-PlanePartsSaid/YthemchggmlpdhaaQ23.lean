-- By a program of this session (wip/tools/mk.py), out of the kit's print of the translation; Lean checks it.
import Derived.Test.YthemchggmlpdhaaShort
import Derived.Test.YthemchggmlpdhaaUp2
import Derived.Test.YthemchggmlpdhaaUp
import Derived.Test.YthemchggmlpdhaaQ0
import Derived.Test.YthemchggmlpdhaaQ1
namespace Go.Proofs.Ythemchggmlpdhaa.Q
open Go.RowKit Go.Proofs.YthemchggmlpdhaaW.PrintWords Go.Proofs.YthemchggmlpdhaaW.PrintLast Go.Proofs.YthemchggmlpdhaaW.PrintMore
attribute [local go_sem] max2_int min2_int max_two min_two max_three min_three max_four min_four   -- for this text's walks alone
set_option linter.unusedVariables false
set_option linter.unusedSimpArgs false

attribute [local go_sem high] eqA23
/-! ### plane_Same: function 35 -/
mutual
def plane_Same.j0 : Nat → Bool → Int → Int → Int → Int → List Int → Int → Int → Int → Int → List Int → Option (Bool)
 | 0, _, _, _, _, _, _, _, _, _, _, _ => none
 | k + 1, x20, x216000, x216001, x216002, x216003, x216004, x217000, x217001, x217002, x217003, x217004 => if x20 = true then (some false) else (plane_Same.l0 k x216004 (x216004.length : Int) 0 x217000 x217001 x217002 x217003 x217004)
def plane_Same.l0 : Nat → List Int → Int → Int → Int → Int → Int → Int → List Int → Option (Bool)
 | 0, _, _, _, _, _, _, _, _ => none
 | k + 1, x22, x23, x24, x217000, x217001, x217002, x217003, x217004 => if x24 < x23 then (if 0 ≤ x24 then (if x24 < (x22.length : Int) then (if x24 < (x217004.length : Int) then (if (rd x217004 x24) = (rd x22 x24) then (plane_Same.l0 k x22 x23 (wrap64 (x24 + 1)) x217000 x217001 x217002 x217003 x217004) else (some false)) else (none)) else (none)) else (none)) else (some true)
end
def plane_Same.f (k : Nat) (a0_0 : Int) (a0_1 : Int) (a0_2 : Int) (a0_3 : Int) (l0_4 : List Int) (a1_0 : Int) (a1_1 : Int) (a1_2 : Int) (a1_3 : Int) (l1_4 : List Int) : Option (Bool) := if (!(a0_0 == a1_0) || (!(a0_1 == a1_1) || (!(a0_2 == a1_2) || (!(a0_3 == a1_3))))) = true then (plane_Same.j0 k true a0_0 a0_1 a0_2 a0_3 l0_4 a1_0 a1_1 a1_2 a1_3 l1_4) else (plane_Same.j0 k ((l0_4.length : Int) != (l1_4.length : Int)) a0_0 a0_1 a0_2 a0_3 l0_4 a1_0 a1_1 a1_2 a1_3 l1_4)
theorem plane_Same.mono_l : ∀ k, (∀ y0 y1 y2 y3 y4 y5 y6 y7 y8 y9 y10, LeO (plane_Same.j0 k y0 y1 y2 y3 y4 y5 y6 y7 y8 y9 y10) (plane_Same.j0 (k + 1) y0 y1 y2 y3 y4 y5 y6 y7 y8 y9 y10)) ∧ (∀ y0 y1 y2 y3 y4 y5 y6 y7, LeO (plane_Same.l0 k y0 y1 y2 y3 y4 y5 y6 y7) (plane_Same.l0 (k + 1) y0 y1 y2 y3 y4 y5 y6 y7))
 | 0 => ⟨fun _ _ _ _ _ _ _ _ _ _ _ r h => by simp [plane_Same.j0] at h, fun _ _ _ _ _ _ _ _ r h => by simp [plane_Same.l0] at h⟩
 | k + 1 => by
  obtain ⟨ih0, ih1⟩ := plane_Same.mono_l k
  refine ⟨?_, ?_⟩
  ·intro y0 y1 y2 y3 y4 y5 y6 y7 y8 y9 y10
   unfold plane_Same.j0
   repeat' first
   | (with_reducible exact ih0 _ _ _ _ _ _ _ _ _ _ _)
   | (with_reducible exact ih1 _ _ _ _ _ _ _ _)
   | (with_reducible exact LeO.refl _)
   | (with_reducible exact LeO.none _)
   | (with_reducible refine LeO.ite ?_ ?_)
   | (with_reducible refine LeO.bind ?_ (fun _ => ?_))
   | exact ih0 _ _ _ _ _ _ _ _ _ _ _
   | exact ih1 _ _ _ _ _ _ _ _
   | exact LeO.none _
   | refine LeO.ite ?_ ?_
   | refine LeO.bind ?_ (fun _ => ?_)
  ·intro y0 y1 y2 y3 y4 y5 y6 y7
   unfold plane_Same.l0
   repeat' first
   | (with_reducible exact ih0 _ _ _ _ _ _ _ _ _ _ _)
   | (with_reducible exact ih1 _ _ _ _ _ _ _ _)
   | (with_reducible exact LeO.refl _)
   | (with_reducible exact LeO.none _)
   | (with_reducible refine LeO.ite ?_ ?_)
   | (with_reducible refine LeO.bind ?_ (fun _ => ?_))
   | exact ih0 _ _ _ _ _ _ _ _ _ _ _
   | exact ih1 _ _ _ _ _ _ _ _
   | exact LeO.none _
   | refine LeO.ite ?_ ?_
   | refine LeO.bind ?_ (fun _ => ?_)
theorem plane_Same.mono : ∀ a0 a1 a2 a3 a4 a5 a6 a7 a8 a9 k, LeO (plane_Same.f k a0 a1 a2 a3 a4 a5 a6 a7 a8 a9) (plane_Same.f (k + 1) a0 a1 a2 a3 a4 a5 a6 a7 a8 a9) := by
 intro a0 a1 a2 a3 a4 a5 a6 a7 a8 a9 k
 obtain ⟨ih0, ih1⟩ := plane_Same.mono_l k
 unfold plane_Same.f
 repeat' first
   | (with_reducible exact ih0 _ _ _ _ _ _ _ _ _ _ _)
   | (with_reducible exact ih1 _ _ _ _ _ _ _ _)
   | (with_reducible exact LeO.refl _)
   | (with_reducible exact LeO.none _)
   | (with_reducible refine LeO.ite ?_ ?_)
   | (with_reducible refine LeO.bind ?_ (fun _ => ?_))
   | exact ih0 _ _ _ _ _ _ _ _ _ _ _
   | exact ih1 _ _ _ _ _ _ _ _
   | exact LeO.none _
   | refine LeO.ite ?_ ?_
   | refine LeO.bind ?_ (fun _ => ?_)
set_option maxHeartbeats 8000000 in
set_option maxRecDepth 100000 in
theorem plane_Same.calls (k : Nat) (a0_0 : Int) (a0_1 : Int) (a0_2 : Int) (a0_3 : Int) (A0_4 : Option Addr) (c0_4 : Nat) (l0_4 : List Int) (a1_0 : Int) (a1_1 : Int) (a1_2 : Int) (a1_3 : Int) (A1_4 : Option Addr) (c1_4 : Nat) (l1_4 : List Int) (r : Bool) (w : World) (hr0_4 : Kd.C (Kd.int .i64) w A0_4 l0_4.length l0_4) (hc0_4 : l0_4.length ≤ c0_4) (hr1_4 : Kd.C (Kd.int .i64) w A1_4 l1_4.length l1_4) (hc1_4 : l1_4.length ≤ c1_4) (h : plane_Same.f k a0_0 a0_1 a0_2 a0_3 l0_4 a1_0 a1_1 a1_2 a1_3 l1_4 = some r) :
  Calls Try.prog 35 #[.agg #[.int .i64 a0_0, .int .i64 a0_1, .int .i64 a0_2, .int .i64 a0_3, .slice A0_4 l0_4.length c0_4], .agg #[.int .i64 a1_0, .int .i64 a1_1, .int .i64 a1_2, .int .i64 a1_3, .slice A1_4 l1_4.length c1_4]] w fun e w' => e = .returned (.bool r) ∧ Below w.heap.size w w' := by
 have hu26 := Try.underlying26
 have hu23 := Try.underlying23
 have HR0_4 := AS hr0_4
 have HC0_4 := AS hc0_4
 clear hr0_4 hc0_4
 have HR1_4 := AS hr1_4
 have HC1_4 := AS hc1_4
 clear hr1_4 hc1_4
 have HB := AS (Below.refl w.heap.size w)
 have H : (if (!(a0_0 == a1_0) || (!(a0_1 == a1_1) || (!(a0_2 == a1_2) || (!(a0_3 == a1_3))))) = true then (plane_Same.j0 k true a0_0 a0_1 a0_2 a0_3 l0_4 a1_0 a1_1 a1_2 a1_3 l1_4) else (plane_Same.j0 k ((l0_4.length : Int) != (l1_4.length : Int)) a0_0 a0_1 a0_2 a0_3 l0_4 a1_0 a1_1 a1_2 a1_3 l1_4)) = some r := h
 clear h
 have HC3 := AS H
 clear H
 go_enter Try.func35, Try.ntmps35
 go_upto_region 1 with (first | ((with_reducible refine gate_dst (N := 2) rfl ?_); (try (refine gate_guard (by rfl) ?_; dsimp only)); refine box_event ?hg (N := 2) ?hd (cs := #[.int .i64 a0_0, .int .i64 a0_1, .int .i64 a0_2, .int .i64 a0_3, .slice A0_4 l0_4.length c0_4]) (t := 26) ?hr ?_; (case hd => rfl); (case hg => rfl); (case hr => first | (go_simp; done) | (go_simp; rfl)); intro gb215 hg w4 hbox hb; have BK215 := AS (hbox); have GW215 := AS ((by rw [hg]; exact (below_size (upB HB.out)) : w.heap.size ≤ gb215)); have GE215 := AS ((by rw [hg]; exact (below_size (upB HB.out)) : w.heap.size ≤ gb215)); replace HB := AS (below_step (upB HB.out) hb); clear hb hbox hg) | ((with_reducible refine gate_dst (N := 3) rfl ?_); (try (refine gate_guard (by rfl) ?_; dsimp only)); refine box_event ?hg (N := 3) ?hd (cs := #[.int .i64 a1_0, .int .i64 a1_1, .int .i64 a1_2, .int .i64 a1_3, .slice A1_4 l1_4.length c1_4]) (t := 26) ?hr ?_; (case hd => rfl); (case hg => rfl); (case hr => first | (go_simp; done) | (go_simp; rfl)); intro gb216 hg w5 hbox hb; have BK216 := AS (hbox); have GW216 := AS ((by rw [hg]; exact (below_size (upB HB.out)) : w.heap.size ≤ gb216)); have GE216 := AS ((by rw [hg]; exact (below_size (upB HB.out)) : w.heap.size ≤ gb216)); replace HB := AS (below_step (upB HB.out) hb); have NB215_216 := AS ((by rw [hg]; exact Nat.ne_of_lt (blk_lt (upK BK215.out)) : gb215 ≠ gb216)); have NB216_215 := AS ((by rw [hg]; exact Nat.ne_of_gt (blk_lt (upK BK215.out)) : gb216 ≠ gb215)); replace BK215 := AS (blk_below (g := gb215) (o := .cells #[.int .i64 a0_0, .int .i64 a0_1, .int .i64 a0_2, .int .i64 a0_3, .slice A0_4 l0_4.length c0_4] 26) (upK BK215.out) hb); clear hb hbox hg))
 (try simp only [Act.put, List.setIfInBounds_toArray, List.set_cons_zero, List.set_cons_succ])
 go_cut [20] (fun v20 wc => ∃ (kq : Nat) (x20_2 : Bool), v20 = .bool x20_2 ∧ Aside0 (plane_Same.j0 kq x20_2 a0_0 a0_1 a0_2 a0_3 l0_4 a1_0 a1_1 a1_2 a1_3 l1_4 = some r) ∧ Aside0 (kq ≤ k) ∧ Aside0 (wc.heap[gb215]? = some (.cells #[.int .i64 a0_0, .int .i64 a0_1, .int .i64 a0_2, .int .i64 a0_3, (.slice A0_4 l0_4.length c0_4)] 26 (0, 0))) ∧ Aside0 (wc.heap[gb216]? = some (.cells #[.int .i64 a1_0, .int .i64 a1_1, .int .i64 a1_2, .int .i64 a1_3, (.slice A1_4 l1_4.length c1_4)] 26 (0, 0))) ∧ Aside0 (Below w.heap.size w wc))
 case first =>
  have H := HC3.out
  clear HC3
  by_cases c6 : (!(a0_0 == a1_0) || (!(a0_1 == a1_1) || (!(a0_2 == a1_2) || (!(a0_3 == a1_3))))) = true
  ·rw [if_pos c6] at H
   have c6b0 : (!(a0_0 == a1_0) || (!(a0_1 == a1_1) || (!(a0_2 == a1_2) || (!(a0_3 == a1_3))))) = true := c6
   clear c6
   (first | rw [c6b0] | (simp only [i64_w, i32_w]; rw [c6b0]) | skip)
   have H' := AS H
   clear H
   have hnb7 := NB215_216.out
   have hnc7 := NB216_215.out
   have hcz8_0 : w5.cell? ⟨gb215, 0, none⟩ = some (.int .i64 a0_0) := bc BK215 0
   have hcz8_1 : w5.cell? ⟨gb215, 1, none⟩ = some (.int .i64 a0_1) := bc BK215 1
   have hcz8_2 : w5.cell? ⟨gb215, 2, none⟩ = some (.int .i64 a0_2) := bc BK215 2
   have hcz8_3 : w5.cell? ⟨gb215, 3, none⟩ = some (.int .i64 a0_3) := bc BK215 3
   have hcz8_4 : w5.cell? ⟨gb215, 4, none⟩ = some (.slice A0_4 l0_4.length c0_4) := bc BK215 4
   have hfz8_0 := blk_frozen BK215.out 0
   have hfz8_1 := blk_frozen BK215.out 1
   have hfz8_2 := blk_frozen BK215.out 2
   have hfz8_3 := blk_frozen BK215.out 3
   have hfz8_4 := blk_frozen BK215.out 4
   have hcz9_0 : w5.cell? ⟨gb216, 0, none⟩ = some (.int .i64 a1_0) := bc BK216 0
   have hcz9_1 : w5.cell? ⟨gb216, 1, none⟩ = some (.int .i64 a1_1) := bc BK216 1
   have hcz9_2 : w5.cell? ⟨gb216, 2, none⟩ = some (.int .i64 a1_2) := bc BK216 2
   have hcz9_3 : w5.cell? ⟨gb216, 3, none⟩ = some (.int .i64 a1_3) := bc BK216 3
   have hcz9_4 : w5.cell? ⟨gb216, 4, none⟩ = some (.slice A1_4 l1_4.length c1_4) := bc BK216 4
   have hfz9_0 := blk_frozen BK216.out 0
   have hfz9_1 := blk_frozen BK216.out 1
   have hfz9_2 := blk_frozen BK216.out 2
   have hfz9_3 := blk_frozen BK216.out 3
   have hfz9_4 := blk_frozen BK216.out 4
   go_wp2
   go_meet
   case rel => exact ⟨_, (true), (by first | rfl | (simp; done) | (simp [*]; done)), H', ⟨by first | omega | exact Nat.le_refl _⟩, ⟨by (with_reducible repeat (first | refine blk_drewN ?_ _ | refine blk_drew ?_ | refine blk_alloc ?_ _)); exact BK215.out⟩, ⟨by (with_reducible repeat (first | refine blk_drewN ?_ _ | refine blk_drew ?_ | refine blk_alloc ?_ _)); exact BK216.out⟩, ⟨by repeat (first | (with_reducible first | exact HB.out | apply below_alloc | apply pw_below_drewN | apply below_drew1 | refine below_set ?_ GE215.out | refine below_set ?_ GE216.out) | exact HB.out)⟩⟩
  ·rw [if_neg c6] at H
   have c6b0 : (!(a0_0 == a1_0) || (!(a0_1 == a1_1) || (!(a0_2 == a1_2) || (!(a0_3 == a1_3))))) = false := by simpa using c6
   clear c6
   (first | rw [c6b0] | (simp only [i64_w, i32_w]; rw [c6b0]) | skip)
   have H' := AS H
   clear H
   have hnb10 := NB215_216.out
   have hnc10 := NB216_215.out
   have hcz11_0 : w5.cell? ⟨gb215, 0, none⟩ = some (.int .i64 a0_0) := bc BK215 0
   have hcz11_1 : w5.cell? ⟨gb215, 1, none⟩ = some (.int .i64 a0_1) := bc BK215 1
   have hcz11_2 : w5.cell? ⟨gb215, 2, none⟩ = some (.int .i64 a0_2) := bc BK215 2
   have hcz11_3 : w5.cell? ⟨gb215, 3, none⟩ = some (.int .i64 a0_3) := bc BK215 3
   have hcz11_4 : w5.cell? ⟨gb215, 4, none⟩ = some (.slice A0_4 l0_4.length c0_4) := bc BK215 4
   have hfz11_0 := blk_frozen BK215.out 0
   have hfz11_1 := blk_frozen BK215.out 1
   have hfz11_2 := blk_frozen BK215.out 2
   have hfz11_3 := blk_frozen BK215.out 3
   have hfz11_4 := blk_frozen BK215.out 4
   have hcz12_0 : w5.cell? ⟨gb216, 0, none⟩ = some (.int .i64 a1_0) := bc BK216 0
   have hcz12_1 : w5.cell? ⟨gb216, 1, none⟩ = some (.int .i64 a1_1) := bc BK216 1
   have hcz12_2 : w5.cell? ⟨gb216, 2, none⟩ = some (.int .i64 a1_2) := bc BK216 2
   have hcz12_3 : w5.cell? ⟨gb216, 3, none⟩ = some (.int .i64 a1_3) := bc BK216 3
   have hcz12_4 : w5.cell? ⟨gb216, 4, none⟩ = some (.slice A1_4 l1_4.length c1_4) := bc BK216 4
   have hfz12_0 := blk_frozen BK216.out 0
   have hfz12_1 := blk_frozen BK216.out 1
   have hfz12_2 := blk_frozen BK216.out 2
   have hfz12_3 := blk_frozen BK216.out 3
   have hfz12_4 := blk_frozen BK216.out 4
   go_wp2
   go_meet
   case rel => exact ⟨_, (((l0_4.length : Int) != (l1_4.length : Int))), (by first | rfl | (simp; done) | (simp [*]; done)), H', ⟨by first | omega | exact Nat.le_refl _⟩, ⟨by (with_reducible repeat (first | refine blk_drewN ?_ _ | refine blk_drew ?_ | refine blk_alloc ?_ _)); exact BK215.out⟩, ⟨by (with_reducible repeat (first | refine blk_drewN ?_ _ | refine blk_drew ?_ | refine blk_alloc ?_ _)); exact BK216.out⟩, ⟨by repeat (first | (with_reducible first | exact HB.out | apply below_alloc | apply pw_below_drewN | apply below_drew1 | refine below_set ?_ GE215.out | refine below_set ?_ GE216.out) | exact HB.out)⟩⟩
 case rest =>
  clear HC3
  try clear c1; try clear p2; try clear c3; try clear c6; try clear c6b0; try clear c7; try clear c10; try clear hcz11_0; try clear hcz11_1; try clear hcz11_2; try clear hcz11_3; try clear hcz11_4; try clear hcz12_0; try clear hcz12_1; try clear hcz12_2; try clear hcz12_3; try clear hcz12_4; try clear hcz8_0; try clear hcz8_1; try clear hcz8_2; try clear hcz8_3; try clear hcz8_4; try clear hcz9_0; try clear hcz9_1; try clear hcz9_2; try clear hcz9_3; try clear hcz9_4; try clear hfz11_0; try clear hfz11_1; try clear hfz11_2; try clear hfz11_3; try clear hfz11_4; try clear hfz12_0; try clear hfz12_1; try clear hfz12_2; try clear hfz12_3; try clear hfz12_4; try clear hfz8_0; try clear hfz8_1; try clear hfz8_2; try clear hfz8_3; try clear hfz8_4; try clear hfz9_0; try clear hfz9_1; try clear hfz9_2; try clear hfz9_3; try clear hfz9_4
  obtain ⟨kq, x20_2, rfl, HA, HJ2, BK215, BK216, HB⟩ := hcut
  cases kq with
  | zero => exact absurd HA.out (by simp [plane_Same.j0])
  | succ kj2 =>
   have H := HA.out
   clear HA
   simp only [plane_Same.j0] at H
   by_cases c13 : x20_2 = true
   ·subst c13
    rw [if_pos rfl] at H
    obtain rfl := Option.some.inj H
    go_wp2
    go_ret
    exact ⟨by first | rfl | (simp [errW_none, errW_some] <;> rfl) | (simp [*, errW_none, errW_some] <;> rfl), by repeat (first | (with_reducible first | exact HB.out | apply below_alloc | apply pw_below_drewN | apply below_drew1 | refine below_set ?_ GE215.out | refine below_set ?_ GE216.out) | exact HB.out)⟩
   ·replace c13 := Bool.eq_false_iff.mpr c13
    subst c13
    rw [if_neg (show ¬ (false = true) by decide)] at H
    have H' := AS H
    clear H
    have hnb14 := NB215_216.out
    have hnc14 := NB216_215.out
    have hcz15_0 : wc.cell? ⟨gb215, 0, none⟩ = some (.int .i64 a0_0) := bc BK215 0
    have hcz15_1 : wc.cell? ⟨gb215, 1, none⟩ = some (.int .i64 a0_1) := bc BK215 1
    have hcz15_2 : wc.cell? ⟨gb215, 2, none⟩ = some (.int .i64 a0_2) := bc BK215 2
    have hcz15_3 : wc.cell? ⟨gb215, 3, none⟩ = some (.int .i64 a0_3) := bc BK215 3
    have hcz15_4 : wc.cell? ⟨gb215, 4, none⟩ = some (.slice A0_4 l0_4.length c0_4) := bc BK215 4
    have hfz15_0 := blk_frozen BK215.out 0
    have hfz15_1 := blk_frozen BK215.out 1
    have hfz15_2 := blk_frozen BK215.out 2
    have hfz15_3 := blk_frozen BK215.out 3
    have hfz15_4 := blk_frozen BK215.out 4
    go_wp2
    go_loopg [24] kj2 (fun kq v24 w' => ∃ (x24_2 : Int), v24 = .int .i64 x24_2 ∧ Aside0 (plane_Same.l0 kq l0_4 (l0_4.length : Int) x24_2 a1_0 a1_1 a1_2 a1_3 l1_4 = some r) ∧ Aside0 (kq ≤ kj2) ∧ Aside0 (w'.heap[gb215]? = some (.cells #[.int .i64 a0_0, .int .i64 a0_1, .int .i64 a0_2, .int .i64 a0_3, (.slice A0_4 l0_4.length c0_4)] 26 (0, 0))) ∧ Aside0 (w'.heap[gb216]? = some (.cells #[.int .i64 a1_0, .int .i64 a1_1, .int .i64 a1_2, .int .i64 a1_3, (.slice A1_4 l1_4.length c1_4)] 26 (0, 0))) ∧ Aside0 (Below w.heap.size w w'))
    case atStart => exact ⟨(0), (by first | rfl | (simp; done) | (simp [*]; done)), H', ⟨Nat.le_refl _⟩, ⟨by (with_reducible repeat (first | refine blk_drewN ?_ _ | refine blk_drew ?_ | refine blk_alloc ?_ _)); exact BK215.out⟩, ⟨by (with_reducible repeat (first | refine blk_drewN ?_ _ | refine blk_drew ?_ | refine blk_alloc ?_ _)); exact BK216.out⟩, ⟨by repeat (first | (with_reducible first | exact HB.out | apply below_alloc | apply pw_below_drewN | apply below_drew1 | refine below_set ?_ GE215.out | refine below_set ?_ GE216.out) | exact HB.out)⟩⟩
    case round =>
     clear H'
     try clear c1; try clear p2; try clear c3; try clear c6; try clear c6b0; try clear c7; try clear c10; try clear c13; try clear c14; try clear hcz11_0; try clear hcz11_1; try clear hcz11_2; try clear hcz11_3; try clear hcz11_4; try clear hcz12_0; try clear hcz12_1; try clear hcz12_2; try clear hcz12_3; try clear hcz12_4; try clear hcz15_0; try clear hcz15_1; try clear hcz15_2; try clear hcz15_3; try clear hcz15_4; try clear hcz8_0; try clear hcz8_1; try clear hcz8_2; try clear hcz8_3; try clear hcz8_4; try clear hcz9_0; try clear hcz9_1; try clear hcz9_2; try clear hcz9_3; try clear hcz9_4; try clear hfz11_0; try clear hfz11_1; try clear hfz11_2; try clear hfz11_3; try clear hfz11_4; try clear hfz12_0; try clear hfz12_1; try clear hfz12_2; try clear hfz12_3; try clear hfz12_4; try clear hfz15_0; try clear hfz15_1; try clear hfz15_2; try clear hfz15_3; try clear hfz15_4; try clear hfz8_0; try clear hfz8_1; try clear hfz8_2; try clear hfz8_3; try clear hfz8_4; try clear hfz9_0; try clear hfz9_1; try clear hfz9_2; try clear hfz9_3; try clear hfz9_4; try clear p2
     obtain ⟨x24_2, rfl, HA, HK2, BK215, BK216, HB⟩ := hrel
     cases gk with
     | zero => exact absurd HA.out (by simp [plane_Same.l0])
     | succ k2 =>
      have H := HA.out
      clear HA
      simp only [plane_Same.l0] at H
      by_cases c16 : x24_2 < (l0_4.length : Int)
      ·rw [if_pos c16] at H
       have c16b0 : decide (x24_2 < (l0_4.length : Int)) = true := decide_eq_true c16
       clear c16
       by_cases c17 : 0 ≤ x24_2
       ·rw [if_pos c17] at H
        have c17b0 : decide (0 ≤ x24_2) = true := decide_eq_true c17
        clear c17
        by_cases c18 : x24_2 < (l0_4.length : Int)
        ·rw [if_pos c18] at H
         have c18b0 : decide (x24_2 < (l0_4.length : Int)) = true := decide_eq_true c18
         clear c18
         by_cases c19 : x24_2 < (l1_4.length : Int)
         ·rw [if_pos c19] at H
          have c19b0 : decide (x24_2 < (l1_4.length : Int)) = true := decide_eq_true c19
          clear c19
          by_cases c20 : (rd l1_4 x24_2) = (rd l0_4 x24_2)
          ·rw [if_pos c20] at H
           have c20b0 : ((rd l1_4 x24_2) == (rd l0_4 x24_2)) = true := beq_iff_eq.mpr c20
           have c20b1 : ((rd l1_4 x24_2) != (rd l0_4 x24_2)) = false := bne_eq_false_iff_eq.mpr c20
           clear c20
           have H' := AS H
           clear H
           have p217 : 0 ≤ (x24_2 : Int) := of_decide_eq_true (by first | (with_reducible assumption) | assumption)
           have q217 : x24_2 < (l0_4.length : Int) := of_decide_eq_true (by first | (with_reducible assumption) | assumption)
           obtain ⟨ad217, e217, hx217_0⟩ := Kd.at_int HR0_4.out x24_2 p217 q217
           cases e217
           replace hx217_0 := hc HB hx217_0
           replace p217 := eq_true p217
           replace q217 := eq_true q217
           have hnb21 := NB216_215.out
           have hnc21 := NB215_216.out
           have hcz22_0 : wr.cell? ⟨gb216, 0, none⟩ = some (.int .i64 a1_0) := bc BK216 0
           have hcz22_1 : wr.cell? ⟨gb216, 1, none⟩ = some (.int .i64 a1_1) := bc BK216 1
           have hcz22_2 : wr.cell? ⟨gb216, 2, none⟩ = some (.int .i64 a1_2) := bc BK216 2
           have hcz22_3 : wr.cell? ⟨gb216, 3, none⟩ = some (.int .i64 a1_3) := bc BK216 3
           have hcz22_4 : wr.cell? ⟨gb216, 4, none⟩ = some (.slice A1_4 l1_4.length c1_4) := bc BK216 4
           have hfz22_0 := blk_frozen BK216.out 0
           have hfz22_1 := blk_frozen BK216.out 1
           have hfz22_2 := blk_frozen BK216.out 2
           have hfz22_3 := blk_frozen BK216.out 3
           have hfz22_4 := blk_frozen BK216.out 4
           have p218 : 0 ≤ (x24_2 : Int) := of_decide_eq_true (by first | (with_reducible assumption) | assumption)
           have q218 : x24_2 < (l1_4.length : Int) := of_decide_eq_true (by first | (with_reducible assumption) | assumption)
           obtain ⟨ad218, e218, hx218_0⟩ := Kd.at_int HR1_4.out x24_2 p218 q218
           cases e218
           replace hx218_0 := hc HB hx218_0
           replace p218 := eq_true p218
           replace q218 := eq_true q218
           go_wp2
           go_roundg k2
           case measure => have := HJ2.out; have := HK2.out; omega
           case rel => exact ⟨(wrap64 (x24_2 + 1)), (by first | rfl | (simp; done) | (simp [*]; done)), H', ⟨by have := HJ2.out; have := HK2.out; omega⟩, ⟨by (with_reducible repeat (first | refine blk_drewN ?_ _ | refine blk_drew ?_ | refine blk_alloc ?_ _)); exact BK215.out⟩, ⟨by (with_reducible repeat (first | refine blk_drewN ?_ _ | refine blk_drew ?_ | refine blk_alloc ?_ _)); exact BK216.out⟩, ⟨by repeat (first | (with_reducible first | exact HB.out | apply below_alloc | apply pw_below_drewN | apply below_drew1 | refine below_set ?_ GE215.out | refine below_set ?_ GE216.out) | exact HB.out)⟩⟩
          ·rw [if_neg c20] at H
           have c20b0 : ((rd l1_4 x24_2) == (rd l0_4 x24_2)) = false := beq_eq_false_iff_ne.mpr c20
           have c20b1 : ((rd l1_4 x24_2) != (rd l0_4 x24_2)) = true := bne_iff_ne.mpr c20
           obtain rfl := Option.some.inj H
           have p217 : 0 ≤ (x24_2 : Int) := of_decide_eq_true (by first | (with_reducible assumption) | assumption)
           have q217 : x24_2 < (l0_4.length : Int) := of_decide_eq_true (by first | (with_reducible assumption) | assumption)
           obtain ⟨ad217, e217, hx217_0⟩ := Kd.at_int HR0_4.out x24_2 p217 q217
           cases e217
           replace hx217_0 := hc HB hx217_0
           replace p217 := eq_true p217
           replace q217 := eq_true q217
           have hnb23 := NB216_215.out
           have hnc23 := NB215_216.out
           have hcz24_0 : wr.cell? ⟨gb216, 0, none⟩ = some (.int .i64 a1_0) := bc BK216 0
           have hcz24_1 : wr.cell? ⟨gb216, 1, none⟩ = some (.int .i64 a1_1) := bc BK216 1
           have hcz24_2 : wr.cell? ⟨gb216, 2, none⟩ = some (.int .i64 a1_2) := bc BK216 2
           have hcz24_3 : wr.cell? ⟨gb216, 3, none⟩ = some (.int .i64 a1_3) := bc BK216 3
           have hcz24_4 : wr.cell? ⟨gb216, 4, none⟩ = some (.slice A1_4 l1_4.length c1_4) := bc BK216 4
           have hfz24_0 := blk_frozen BK216.out 0
           have hfz24_1 := blk_frozen BK216.out 1
           have hfz24_2 := blk_frozen BK216.out 2
           have hfz24_3 := blk_frozen BK216.out 3
           have hfz24_4 := blk_frozen BK216.out 4
           have p218 : 0 ≤ (x24_2 : Int) := of_decide_eq_true (by first | (with_reducible assumption) | assumption)
           have q218 : x24_2 < (l1_4.length : Int) := of_decide_eq_true (by first | (with_reducible assumption) | assumption)
           obtain ⟨ad218, e218, hx218_0⟩ := Kd.at_int HR1_4.out x24_2 p218 q218
           cases e218
           replace hx218_0 := hc HB hx218_0
           replace p218 := eq_true p218
           replace q218 := eq_true q218
           go_wp2
           go_ret
           exact ⟨by first | rfl | (simp [errW_none, errW_some] <;> rfl) | (simp [*, errW_none, errW_some] <;> rfl), by repeat (first | (with_reducible first | exact HB.out | apply below_alloc | apply pw_below_drewN | apply below_drew1 | refine below_set ?_ GE215.out | refine below_set ?_ GE216.out) | exact HB.out)⟩
         ·rw [if_neg c19] at H
          exact absurd H (by simp)
        ·rw [if_neg c18] at H
         exact absurd H (by simp)
       ·rw [if_neg c17] at H
        exact absurd H (by simp)
      ·rw [if_neg c16] at H
       have c16b0 : decide (x24_2 < (l0_4.length : Int)) = false := decide_eq_false c16
       clear c16
       obtain rfl := Option.some.inj H
       go_wp2
       go_ret
       exact ⟨by first | rfl | (simp [errW_none, errW_some] <;> rfl) | (simp [*, errW_none, errW_some] <;> rfl), by repeat (first | (with_reducible first | exact HB.out | apply below_alloc | apply pw_below_drewN | apply below_drew1 | refine below_set ?_ GE215.out | refine below_set ?_ GE216.out) | exact HB.out)⟩

end Go.Proofs.Ythemchggmlpdhaa.Q
