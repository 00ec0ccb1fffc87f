-- By a program of this session (wip/tools/mk.py), out of the kit's print of the translation; Lean checks it.
import Derived.Test.YthemchggmlpdhaaShort
import Derived.Test.YthemchggmlpdhaaUp2
import Derived.Test.YthemchggmlpdhaaUp
import Derived.Test.YthemchggmlpdhaaQ0
import Derived.Test.YthemchggmlpdhaaQ2
import Derived.Test.YthemchggmlpdhaaQ3
import Derived.Test.YthemchggmlpdhaaQ9
import Derived.Test.YthemchggmlpdhaaQ15
import Derived.Test.YthemchggmlpdhaaQ17
import Derived.Test.YthemchggmlpdhaaQ18
namespace Go.Proofs.Ythemchggmlpdhaa.Q
open Go.RowKit Go.Proofs.YthemchggmlpdhaaW.PrintWords Go.Proofs.YthemchggmlpdhaaW.PrintLast Go.Proofs.YthemchggmlpdhaaW.PrintMore
attribute [local go_sem] max2_int min2_int max_two min_two max_three min_three max_four min_four   -- for this text's walks alone
set_option linter.unusedVariables false
set_option linter.unusedSimpArgs false

/-! ### plane_Crop: function 27 -/
def plane_Crop.j0 : Nat → Bool → Int → Int → Int → Int → List Int → Int → Int → Int → Int → Option (Int × Int × Int × Int × List Int × Int)
 | 0, _, _, _, _, _, _, _, _, _, _ => none
 | k + 1, x20, x171000, x171001, x171002, x171003, x171004, x172000, x172001, x172002, x172003 => if x20 = true then (some (0, 0, 0, 0, ([] : List Int), 2)) else ((rect_Area.f x172000 x172001 x172002 x172003).bind fun t176 => (if 0 ≤ t176 then (if (t176 : Int).toNat ≤ 35184372088832 then ((some (List.replicate (t176 : Int).toNat 0 : List Int)).bind fun y177 => ((rect_Empty.f x172000 x172001 x172002 x172003).bind fun t181 => (if t181 = true then (some (x172000, x172001, x172002, x172003, y177, 0)) else ((plane_part.f k x172000 x172001 x172002 x172003 y177 x171000 x171001 x171002 x171003 x171004 x172000 x172001 x172002 x172003).bind fun t182 => (some (x172000, x172001, x172002, x172003, t182, 0)))))) else (none)) else (none)))
def plane_Crop.f (k : Nat) (a0_0 : Int) (a0_1 : Int) (a0_2 : Int) (a0_3 : Int) (l0_4 : List Int) (a1_0 : Int) (a1_1 : Int) (a1_2 : Int) (a1_3 : Int) : Option (Int × Int × Int × Int × List Int × Int) := (plane_Valid.f a0_0 a0_1 a0_2 a0_3 l0_4).bind fun t173 => (if t173 = true then ((rect_Valid.f a1_0 a1_1 a1_2 a1_3).bind fun t174 => (if t174 = true then ((rect_Contains.f a0_0 a0_1 a0_2 a0_3 a1_0 a1_1 a1_2 a1_3).bind fun t175 => (plane_Crop.j0 k (!t175) a0_0 a0_1 a0_2 a0_3 l0_4 a1_0 a1_1 a1_2 a1_3)) else (plane_Crop.j0 k true a0_0 a0_1 a0_2 a0_3 l0_4 a1_0 a1_1 a1_2 a1_3))) else (some (0, 0, 0, 0, ([] : List Int), 1)))
theorem plane_Crop.mono_l : ∀ k, (∀ y0 y1 y2 y3 y4 y5 y6 y7 y8 y9, LeO (plane_Crop.j0 k y0 y1 y2 y3 y4 y5 y6 y7 y8 y9) (plane_Crop.j0 (k + 1) y0 y1 y2 y3 y4 y5 y6 y7 y8 y9))
 | 0 => fun _ _ _ _ _ _ _ _ _ _ r h => by simp [plane_Crop.j0] at h
 | k + 1 => by
  have ih0 := plane_Crop.mono_l k
  ·intro y0 y1 y2 y3 y4 y5 y6 y7 y8 y9
   unfold plane_Crop.j0
   repeat' first
   | (with_reducible exact ih0 _ _ _ _ _ _ _ _ _ _)
   | (with_reducible exact plane_part.mono _ _ _ _ _ _ _ _ _ _ _ _ _ _ _)
   | (with_reducible exact LeO.refl _)
   | (with_reducible exact LeO.none _)
   | (with_reducible refine LeO.ite ?_ ?_)
   | (with_reducible refine LeO.bind ?_ (fun _ => ?_))
   | exact ih0 _ _ _ _ _ _ _ _ _ _
   | exact plane_part.mono _ _ _ _ _ _ _ _ _ _ _ _ _ _ _
   | exact LeO.none _
   | refine LeO.ite ?_ ?_
   | refine LeO.bind ?_ (fun _ => ?_)
theorem plane_Crop.mono : ∀ a0 a1 a2 a3 a4 a5 a6 a7 a8 k, LeO (plane_Crop.f k a0 a1 a2 a3 a4 a5 a6 a7 a8) (plane_Crop.f (k + 1) a0 a1 a2 a3 a4 a5 a6 a7 a8) := by
 intro a0 a1 a2 a3 a4 a5 a6 a7 a8 k
 have ih0 := plane_Crop.mono_l k
 unfold plane_Crop.f
 repeat' first
   | (with_reducible exact ih0 _ _ _ _ _ _ _ _ _ _)
   | (with_reducible exact plane_part.mono _ _ _ _ _ _ _ _ _ _ _ _ _ _ _)
   | (with_reducible exact LeO.refl _)
   | (with_reducible exact LeO.none _)
   | (with_reducible refine LeO.ite ?_ ?_)
   | (with_reducible refine LeO.bind ?_ (fun _ => ?_))
   | exact ih0 _ _ _ _ _ _ _ _ _ _
   | exact plane_part.mono _ _ _ _ _ _ _ _ _ _ _ _ _ _ _
   | exact LeO.none _
   | refine LeO.ite ?_ ?_
   | refine LeO.bind ?_ (fun _ => ?_)
set_option maxHeartbeats 8000000 in
set_option maxRecDepth 100000 in
theorem plane_Crop.calls (k : Nat) (a0_0 : Int) (a0_1 : Int) (a0_2 : Int) (a0_3 : Int) (A0_4 : Option Addr) (c0_4 : Nat) (l0_4 : List Int) (a1_0 : Int) (a1_1 : Int) (a1_2 : Int) (a1_3 : Int) (r1 : Int) (r2 : Int) (r3 : Int) (r4 : Int) (r5 : List Int) (r6 : Int) (w : World) (hr0_4 : Kd.C (Kd.int .i64) w A0_4 l0_4.length l0_4) (hc0_4 : l0_4.length ≤ c0_4) (h : plane_Crop.f k a0_0 a0_1 a0_2 a0_3 l0_4 a1_0 a1_1 a1_2 a1_3 = some (r1, r2, r3, r4, r5, r6)) :
  Calls Try.prog 27 #[.agg #[.int .i64 a0_0, .int .i64 a0_1, .int .i64 a0_2, .int .i64 a0_3, .slice A0_4 l0_4.length c0_4], .agg #[.int .i64 a1_0, .int .i64 a1_1, .int .i64 a1_2, .int .i64 a1_3]] w fun e w' => ∃ v4_ : Value, e = .returned (.tuple #[.agg #[.int .i64 r1, .int .i64 r2, .int .i64 r3, .int .i64 r4, v4_], .int .i64 r6]) ∧ Kd.R (Kd.int .i64) 3 w' w.heap.size (fun _ => True) v4_ r5 ∧ Below w.heap.size w w' := by
 have hu26 := Try.underlying26
 have hu23 := Try.underlying23
 have HR0_4 := AS hr0_4
 have HC0_4 := AS hc0_4
 clear hr0_4 hc0_4
 have HB := AS (Below.refl w.heap.size w)
 have H : ((plane_Valid.f a0_0 a0_1 a0_2 a0_3 l0_4).bind fun t173 => (if t173 = true then ((rect_Valid.f a1_0 a1_1 a1_2 a1_3).bind fun t174 => (if t174 = true then ((rect_Contains.f a0_0 a0_1 a0_2 a0_3 a1_0 a1_1 a1_2 a1_3).bind fun t175 => (plane_Crop.j0 k (!t175) a0_0 a0_1 a0_2 a0_3 l0_4 a1_0 a1_1 a1_2 a1_3)) else (plane_Crop.j0 k true a0_0 a0_1 a0_2 a0_3 l0_4 a1_0 a1_1 a1_2 a1_3))) else (some (0, 0, 0, 0, ([] : List Int), 1)))) = some (r1, r2, r3, r4, r5, r6) := h
 clear h
 replace H := Option.bind_eq_some_iff.mp H
 obtain ⟨t173, A30, H⟩ := H
 replace H : (if t173 = true then ((rect_Valid.f a1_0 a1_1 a1_2 a1_3).bind fun t174 => (if t174 = true then ((rect_Contains.f a0_0 a0_1 a0_2 a0_3 a1_0 a1_1 a1_2 a1_3).bind fun t175 => (plane_Crop.j0 k (!t175) a0_0 a0_1 a0_2 a0_3 l0_4 a1_0 a1_1 a1_2 a1_3)) else (plane_Crop.j0 k true a0_0 a0_1 a0_2 a0_3 l0_4 a1_0 a1_1 a1_2 a1_3))) else (some (0, 0, 0, 0, ([] : List Int), 1))) = some (r1, r2, r3, r4, r5, r6) := H
 have A3 := AS A30
 clear A30
 by_cases c4 : t173 = true
 ·subst c4
  have H1 : ((rect_Valid.f a1_0 a1_1 a1_2 a1_3).bind fun t174 => (if t174 = true then ((rect_Contains.f a0_0 a0_1 a0_2 a0_3 a1_0 a1_1 a1_2 a1_3).bind fun t175 => (plane_Crop.j0 k (!t175) a0_0 a0_1 a0_2 a0_3 l0_4 a1_0 a1_1 a1_2 a1_3)) else (plane_Crop.j0 k true a0_0 a0_1 a0_2 a0_3 l0_4 a1_0 a1_1 a1_2 a1_3))) = some (r1, r2, r3, r4, r5, r6) := by rw [if_pos rfl] at H; exact H
  clear H
  have H := H1
  clear H1
  have HC5 := AS H
  clear H
  go_enter Try.func27, Try.ntmps27
  go_upto_region 3 with (first | ((with_reducible refine gate_dst (N := 2) rfl ?_); refine box_event ?hg (N := 2) ?hd (cs := #[.int .i64 a0_0, .int .i64 a0_1, .int .i64 a0_2, .int .i64 a0_3, .slice A0_4 l0_4.length c0_4]) (t := 26) ?hr ?_; (case hd => rfl); (case hg => rfl); (case hr => first | (go_simp; done) | (go_simp; rfl)); intro gb170 hg w6 hbox hb; have BK170 := AS (hbox); have GW170 := AS ((by rw [hg]; exact (below_size (upB HB.out)) : w.heap.size ≤ gb170)); have GE170 := AS ((by rw [hg]; exact (below_size (upB HB.out)) : w.heap.size ≤ gb170)); replace HB := AS (below_step (upB HB.out) hb); clear hb hbox hg) | ((with_reducible refine gate_dst (N := 3) rfl ?_); refine box_event ?hg (N := 3) ?hd (cs := #[.int .i64 a1_0, .int .i64 a1_1, .int .i64 a1_2, .int .i64 a1_3]) (t := 23) ?hr ?_; (case hd => rfl); (case hg => rfl); (case hr => first | (go_simp; done) | (go_simp; rfl)); intro gb171 hg w7 hbox hb; have BK171 := AS (hbox); have GW171 := AS ((by rw [hg]; exact (below_size (upB HB.out)) : w.heap.size ≤ gb171)); have GE171 := AS ((by rw [hg]; exact (below_size (upB HB.out)) : w.heap.size ≤ gb171)); replace HB := AS (below_step (upB HB.out) hb); have NB170_171 := AS ((by rw [hg]; exact Nat.ne_of_lt (blk_lt (upK BK170.out)) : gb170 ≠ gb171)); have NB171_170 := AS ((by rw [hg]; exact Nat.ne_of_gt (blk_lt (upK BK170.out)) : gb171 ≠ gb170)); replace BK170 := AS (blk_below (upK BK170.out) hb); clear hb hbox hg) | ((with_reducible refine gate_dst (N := 4) rfl ?_); refine box_event ?hg (N := 4) ?hd (cs := #[.int .i64 0, .int .i64 0, .int .i64 0, .int .i64 0, .slice none 0 0]) (t := 26) ?hr ?_; (case hd => rfl); (case hg => rfl); (case hr => first | (go_simp; done) | (go_simp; rfl)); intro gb172 hg w8 hbox hb; have BK172 := AS (hbox); have GW172 := AS ((by rw [hg]; exact (below_size (upB HB.out)) : w.heap.size ≤ gb172)); have GE172 := AS ((by rw [hg]; exact (below_size (upB HB.out)) : w.heap.size ≤ gb172)); replace HB := AS (below_step (upB HB.out) hb); have NB170_172 := AS ((by rw [hg]; exact Nat.ne_of_lt (blk_lt (upK BK170.out)) : gb170 ≠ gb172)); have NB172_170 := AS ((by rw [hg]; exact Nat.ne_of_gt (blk_lt (upK BK170.out)) : gb172 ≠ gb170)); replace BK170 := AS (blk_below (upK BK170.out) hb); have NB171_172 := AS ((by rw [hg]; exact Nat.ne_of_lt (blk_lt (upK BK171.out)) : gb171 ≠ gb172)); have NB172_171 := AS ((by rw [hg]; exact Nat.ne_of_gt (blk_lt (upK BK171.out)) : gb172 ≠ gb171)); replace BK171 := AS (blk_below (upK BK171.out) hb); clear hb hbox hg; have hnb9 := NB170_171.out; have hnc9 := NB171_170.out; have hnb10 := NB170_172.out; have hnc10 := NB172_170.out; have hcz11_0 : w8.cell? ⟨gb170, 0, none⟩ = some (.int .i64 a0_0) := bc BK170 0; have hcz11_1 : w8.cell? ⟨gb170, 1, none⟩ = some (.int .i64 a0_1) := bc BK170 1; have hcz11_2 : w8.cell? ⟨gb170, 2, none⟩ = some (.int .i64 a0_2) := bc BK170 2; have hcz11_3 : w8.cell? ⟨gb170, 3, none⟩ = some (.int .i64 a0_3) := bc BK170 3; have hcz11_4 : w8.cell? ⟨gb170, 4, none⟩ = some (.slice A0_4 l0_4.length c0_4) := bc BK170 4; have hfz11_0 := blk_frozen BK170.out 0; have hfz11_1 := blk_frozen BK170.out 1; have hfz11_2 := blk_frozen BK170.out 2; have hfz11_3 := blk_frozen BK170.out 3; have hfz11_4 := blk_frozen BK170.out 4) | ((with_reducible refine gate_callee (f := 20) rfl ?_); refine goesL_ (some 8) rfl rfl Try.func20 (by kernel_rfl) rfl #[.agg #[.int .i64 a0_0, .int .i64 a0_1, .int .i64 a0_2, .int .i64 a0_3, .slice A0_4 l0_4.length c0_4]] rfl upL ?_; (with_reducible refine (plane_Valid.calls a0_0 a0_1 a0_2 a0_3 _ _ l0_4 true _ ?side1 ?side2 A3.out).mono ?_); (case side1 => repeat (first | exact (Kd.C_below HR0_4.out HB.out) | (with_reducible refine Kd.C_alloc ?_ _) | (with_reducible refine Kd.C_drewN ?_ _) | (with_reducible refine Kd.C_drew ?_))); (case side2 => exact HC0_4.out); rintro e w12 ⟨rfl, hb⟩; refine ⟨_, rfl, ?_⟩; replace BK170 := AS (blk_below (upK BK170.out) hb); replace BK171 := AS (blk_below (upK BK171.out) hb); replace BK172 := AS (blk_below (upK BK172.out) hb); replace HB := AS (below_step (upB HB.out) hb); (try clear hb; try clear hb2; try clear hk; try clear hi)))
  (try simp only [PUT])
  go_cut [20] (fun v20 wc => ∃ (kq : Nat) (x20_4 : Bool), v20 = .bool x20_4 ∧ Aside0 (plane_Crop.j0 kq x20_4 a0_0 a0_1 a0_2 a0_3 l0_4 a1_0 a1_1 a1_2 a1_3 = some (r1, r2, r3, r4, r5, r6)) ∧ Aside0 (kq ≤ k) ∧ Aside0 (wc.heap[gb170]? = some (.cells #[.int .i64 a0_0, .int .i64 a0_1, .int .i64 a0_2, .int .i64 a0_3, (.slice A0_4 l0_4.length c0_4)] 26 (0, 0))) ∧ Aside0 (wc.heap[gb171]? = some (.cells #[.int .i64 a1_0, .int .i64 a1_1, .int .i64 a1_2, .int .i64 a1_3] 23 (0, 0))) ∧ Aside0 (wc.heap[gb172]? = some (.cells #[.int .i64 0, .int .i64 0, .int .i64 0, .int .i64 0, (.slice none 0 0)] 26 (0, 0))) ∧ Aside0 (Below w.heap.size w wc))
  case first =>
   have H := HC5.out
   clear HC5
   replace H := Option.bind_eq_some_iff.mp H
   obtain ⟨t174, A130, H⟩ := H
   replace H : (if t174 = true then ((rect_Contains.f a0_0 a0_1 a0_2 a0_3 a1_0 a1_1 a1_2 a1_3).bind fun t175 => (plane_Crop.j0 k (!t175) a0_0 a0_1 a0_2 a0_3 l0_4 a1_0 a1_1 a1_2 a1_3)) else (plane_Crop.j0 k true a0_0 a0_1 a0_2 a0_3 l0_4 a1_0 a1_1 a1_2 a1_3)) = some (r1, r2, r3, r4, r5, r6) := H
   have A13 := AS A130
   clear A130
   by_cases c14 : t174 = true
   ·subst c14
    have H1 : ((rect_Contains.f a0_0 a0_1 a0_2 a0_3 a1_0 a1_1 a1_2 a1_3).bind fun t175 => (plane_Crop.j0 k (!t175) a0_0 a0_1 a0_2 a0_3 l0_4 a1_0 a1_1 a1_2 a1_3)) = some (r1, r2, r3, r4, r5, r6) := by rw [if_pos rfl] at H; exact H
    clear H
    have H := H1
    clear H1
    replace H := Option.bind_eq_some_iff.mp H
    obtain ⟨t175, A150, H⟩ := H
    replace H : (plane_Crop.j0 k (!t175) a0_0 a0_1 a0_2 a0_3 l0_4 a1_0 a1_1 a1_2 a1_3) = some (r1, r2, r3, r4, r5, r6) := H
    have A15 := AS A150
    clear A150
    have H' := AS H
    clear H
    have hnb16 := NB171_170.out
    have hnc16 := NB170_171.out
    have hnb17 := NB171_172.out
    have hnc17 := NB172_171.out
    have hcz18_0 : w12.cell? ⟨gb171, 0, none⟩ = some (.int .i64 a1_0) := bc BK171 0
    have hcz18_1 : w12.cell? ⟨gb171, 1, none⟩ = some (.int .i64 a1_1) := bc BK171 1
    have hcz18_2 : w12.cell? ⟨gb171, 2, none⟩ = some (.int .i64 a1_2) := bc BK171 2
    have hcz18_3 : w12.cell? ⟨gb171, 3, none⟩ = some (.int .i64 a1_3) := bc BK171 3
    have hfz18_0 := blk_frozen BK171.out 0
    have hfz18_1 := blk_frozen BK171.out 1
    have hfz18_2 := blk_frozen BK171.out 2
    have hfz18_3 := blk_frozen BK171.out 3
    go_wp2_with (first | ((with_reducible refine gate_callee (f := 38) rfl ?_); refine goesL_ (some 12) rfl rfl Try.func38 (by kernel_rfl) rfl #[.agg #[.int .i64 a1_0, .int .i64 a1_1, .int .i64 a1_2, .int .i64 a1_3]] rfl upL ?_; (with_reducible refine (rect_Valid.calls a1_0 a1_1 a1_2 a1_3 true _ A13.out).mono ?_); rintro e w19 ⟨rfl, hb⟩; refine ⟨_, rfl, ?_⟩; replace BK170 := AS (blk_below (upK BK170.out) hb); replace BK171 := AS (blk_below (upK BK171.out) hb); replace BK172 := AS (blk_below (upK BK172.out) hb); replace HB := AS (below_step (upB HB.out) hb); (try clear hb; try clear hb2; try clear hk; try clear hi); have hnb20 := NB170_172.out; have hnc20 := NB172_170.out; have hcz21_0 : w19.cell? ⟨gb170, 0, none⟩ = some (.int .i64 a0_0) := bc BK170 0; have hcz21_1 : w19.cell? ⟨gb170, 1, none⟩ = some (.int .i64 a0_1) := bc BK170 1; have hcz21_2 : w19.cell? ⟨gb170, 2, none⟩ = some (.int .i64 a0_2) := bc BK170 2; have hcz21_3 : w19.cell? ⟨gb170, 3, none⟩ = some (.int .i64 a0_3) := bc BK170 3; have hcz21_4 : w19.cell? ⟨gb170, 4, none⟩ = some (.slice A0_4 l0_4.length c0_4) := bc BK170 4; have hfz21_0 := blk_frozen BK170.out 0; have hfz21_1 := blk_frozen BK170.out 1; have hfz21_2 := blk_frozen BK170.out 2; have hfz21_3 := blk_frozen BK170.out 3; have hfz21_4 := blk_frozen BK170.out 4; have hcz22_0 : w19.cell? ⟨gb171, 0, none⟩ = some (.int .i64 a1_0) := bc BK171 0; have hcz22_1 : w19.cell? ⟨gb171, 1, none⟩ = some (.int .i64 a1_1) := bc BK171 1; have hcz22_2 : w19.cell? ⟨gb171, 2, none⟩ = some (.int .i64 a1_2) := bc BK171 2; have hcz22_3 : w19.cell? ⟨gb171, 3, none⟩ = some (.int .i64 a1_3) := bc BK171 3; have hfz22_0 := blk_frozen BK171.out 0; have hfz22_1 := blk_frozen BK171.out 1; have hfz22_2 := blk_frozen BK171.out 2; have hfz22_3 := blk_frozen BK171.out 3) | (go_at_call 46; (with_reducible refine (rect_Contains.calls a0_0 a0_1 a0_2 a0_3 a1_0 a1_1 a1_2 a1_3 t175 _ A15.out).mono ?_); rintro e w23 ⟨rfl, hb⟩; replace BK170 := AS (blk_below (upK BK170.out) hb); replace BK171 := AS (blk_below (upK BK171.out) hb); replace BK172 := AS (blk_below (upK BK172.out) hb); replace HB := AS (below_step (upB HB.out) hb); (try clear hb; try clear hb2; try clear hk; try clear hi)))
    go_meet
    case rel => exact ⟨_, (!t175), (by first | rfl | (simp; done) | (simp [*]; done)), H', ⟨by first | omega | exact Nat.le_refl _⟩, ⟨BK170.out⟩, ⟨BK171.out⟩, ⟨BK172.out⟩, ⟨HB.out⟩⟩
   ·replace c14 := Bool.eq_false_iff.mpr c14
    subst c14
    have H1 : (plane_Crop.j0 k true a0_0 a0_1 a0_2 a0_3 l0_4 a1_0 a1_1 a1_2 a1_3) = some (r1, r2, r3, r4, r5, r6) := by rw [if_neg (show ¬ (false = true) by decide)] at H; exact H
    clear H
    have H := H1
    clear H1
    have H' := AS H
    clear H
    have hnb24 := NB171_170.out
    have hnc24 := NB170_171.out
    have hnb25 := NB171_172.out
    have hnc25 := NB172_171.out
    have hcz26_0 : w12.cell? ⟨gb171, 0, none⟩ = some (.int .i64 a1_0) := bc BK171 0
    have hcz26_1 : w12.cell? ⟨gb171, 1, none⟩ = some (.int .i64 a1_1) := bc BK171 1
    have hcz26_2 : w12.cell? ⟨gb171, 2, none⟩ = some (.int .i64 a1_2) := bc BK171 2
    have hcz26_3 : w12.cell? ⟨gb171, 3, none⟩ = some (.int .i64 a1_3) := bc BK171 3
    have hfz26_0 := blk_frozen BK171.out 0
    have hfz26_1 := blk_frozen BK171.out 1
    have hfz26_2 := blk_frozen BK171.out 2
    have hfz26_3 := blk_frozen BK171.out 3
    go_wp2_with (first | ((with_reducible refine gate_callee (f := 38) rfl ?_); refine goesL_ (some 12) rfl rfl Try.func38 (by kernel_rfl) rfl #[.agg #[.int .i64 a1_0, .int .i64 a1_1, .int .i64 a1_2, .int .i64 a1_3]] rfl upL ?_; (with_reducible refine (rect_Valid.calls a1_0 a1_1 a1_2 a1_3 false _ A13.out).mono ?_); rintro e w27 ⟨rfl, hb⟩; refine ⟨_, rfl, ?_⟩; replace BK170 := AS (blk_below (upK BK170.out) hb); replace BK171 := AS (blk_below (upK BK171.out) hb); replace BK172 := AS (blk_below (upK BK172.out) hb); replace HB := AS (below_step (upB HB.out) hb); (try clear hb; try clear hb2; try clear hk; try clear hi)))
    go_meet
    case rel => exact ⟨_, (true), (by first | rfl | (simp; done) | (simp [*]; done)), H', ⟨by first | omega | exact Nat.le_refl _⟩, ⟨BK170.out⟩, ⟨BK171.out⟩, ⟨BK172.out⟩, ⟨HB.out⟩⟩
  case rest =>
   clear HC5
   try clear c1; try clear c2; try clear p2; try clear c3; try clear c4; try clear c9; try clear c10; try clear c14; try clear c16; try clear c17; try clear c20; try clear c24; try clear c25; try clear c27; try clear hcz11_0; try clear hcz11_1; try clear hcz11_2; try clear hcz11_3; try clear hcz11_4; try clear hcz18_0; try clear hcz18_1; try clear hcz18_2; try clear hcz18_3; try clear hcz21_0; try clear hcz21_1; try clear hcz21_2; try clear hcz21_3; try clear hcz21_4; try clear hcz22_0; try clear hcz22_1; try clear hcz22_2; try clear hcz22_3; try clear hcz26_0; try clear hcz26_1; try clear hcz26_2; try clear hcz26_3; try clear hfz11_0; try clear hfz11_1; try clear hfz11_2; try clear hfz11_3; try clear hfz11_4; try clear hfz18_0; try clear hfz18_1; try clear hfz18_2; try clear hfz18_3; try clear hfz21_0; try clear hfz21_1; try clear hfz21_2; try clear hfz21_3; try clear hfz21_4; try clear hfz22_0; try clear hfz22_1; try clear hfz22_2; try clear hfz22_3; try clear hfz26_0; try clear hfz26_1; try clear hfz26_2; try clear hfz26_3
   obtain ⟨kq, x20_4, rfl, HA, HJ4, BK170, BK171, BK172, HB⟩ := hcut
   cases kq with
   | zero => exact absurd HA.out (by simp [plane_Crop.j0])
   | succ kj4 =>
    have H := HA.out
    clear HA
    simp only [plane_Crop.j0] at H
    by_cases c28 : x20_4 = true
    ·subst c28
     have H1 : (some (0, 0, 0, 0, ([] : List Int), 2)) = some (r1, r2, r3, r4, r5, r6) := by rw [if_pos rfl] at H; exact H
     clear H
     have H := H1
     clear H1
     simp only [Option.some.injEq, Prod.mk.injEq] at H
     obtain ⟨rfl, rfl, rfl, rfl, rfl, rfl⟩ := H
     have hnb29 := NB172_170.out
     have hnc29 := NB170_172.out
     have hnb30 := NB172_171.out
     have hnc30 := NB171_172.out
     have hcz31_0 : wc.cell? ⟨gb172, 0, none⟩ = some (.int .i64 0) := bc BK172 0
     have hcz31_1 : wc.cell? ⟨gb172, 1, none⟩ = some (.int .i64 0) := bc BK172 1
     have hcz31_2 : wc.cell? ⟨gb172, 2, none⟩ = some (.int .i64 0) := bc BK172 2
     have hcz31_3 : wc.cell? ⟨gb172, 3, none⟩ = some (.int .i64 0) := bc BK172 3
     have hcz31_4 : wc.cell? ⟨gb172, 4, none⟩ = some (.slice none 0 0) := bc BK172 4
     have hfz31_0 := blk_frozen BK172.out 0
     have hfz31_1 := blk_frozen BK172.out 1
     have hfz31_2 := blk_frozen BK172.out 2
     have hfz31_3 := blk_frozen BK172.out 3
     have hfz31_4 := blk_frozen BK172.out 4
     go_wp2
     refine bodyPost_ret (results_ct rfl _ _ gb172 26 #[.int .i64 0, .int .i64 0, .int .i64 0, .int .i64 0, .slice none 0 0] (0, 0) _ rfl (by (with_reducible repeat (first | refine blk_drewN ?_ _ | refine blk_drew ?_ | refine blk_alloc ?_ _)); refine blk_put (cs := #[.int .i64 0, .int .i64 0, .int .i64 0, .int .i64 0, .slice none 0 0]) ?_ 4 _ rfl; (with_reducible repeat (first | refine blk_drewN ?_ _ | refine blk_drew ?_ | refine blk_alloc ?_ _)); refine blk_put (cs := #[.int .i64 0, .int .i64 0, .int .i64 0, .int .i64 0, .slice none 0 0]) ?_ 3 _ rfl; (with_reducible repeat (first | refine blk_drewN ?_ _ | refine blk_drew ?_ | refine blk_alloc ?_ _)); refine blk_put (cs := #[.int .i64 0, .int .i64 0, .int .i64 0, .int .i64 0, .slice none 0 0]) ?_ 2 _ rfl; (with_reducible repeat (first | refine blk_drewN ?_ _ | refine blk_drew ?_ | refine blk_alloc ?_ _)); refine blk_put (cs := #[.int .i64 0, .int .i64 0, .int .i64 0, .int .i64 0, .slice none 0 0]) ?_ 1 _ rfl; (with_reducible repeat (first | refine blk_drewN ?_ _ | refine blk_drew ?_ | refine blk_alloc ?_ _)); refine blk_put (cs := #[.int .i64 0, .int .i64 0, .int .i64 0, .int .i64 0, .slice none 0 0]) ?_ 0 _ rfl; (with_reducible repeat (first | refine blk_drewN ?_ _ | refine blk_drew ?_ | refine blk_alloc ?_ _)); exact BK172.out) Try.underlying26 rfl (by kernel_rfl)) rfl ?_
     exact ⟨_, by first | rfl | (simp [errW_none, errW_some] <;> rfl) | (simp [*, errW_none, errW_some] <;> rfl), by first | exact Kd.R_nil _ _ _ _ _ | exact Kd.N_nil _ _ _ _ _ | exact Kd.V_nil _ _ _ _ _ | exact Kd.Q_nil _ _ _ _ _ | exact Kd.S_nil _ _ _ _ _, by repeat (first | (with_reducible first | exact HB.out | apply below_alloc | apply pw_below_drewN | apply below_drew1 | refine below_set ?_ GE170.out | refine below_set ?_ GE171.out | refine below_set ?_ GE172.out) | exact HB.out)⟩
    ·replace c28 := Bool.eq_false_iff.mpr c28
     subst c28
     have H1 : ((rect_Area.f a1_0 a1_1 a1_2 a1_3).bind fun t176 => (if 0 ≤ t176 then (if (t176 : Int).toNat ≤ 35184372088832 then ((some (List.replicate (t176 : Int).toNat 0 : List Int)).bind fun y177 => ((rect_Empty.f a1_0 a1_1 a1_2 a1_3).bind fun t181 => (if t181 = true then (some (a1_0, a1_1, a1_2, a1_3, y177, 0)) else ((plane_part.f kj4 a1_0 a1_1 a1_2 a1_3 y177 a0_0 a0_1 a0_2 a0_3 l0_4 a1_0 a1_1 a1_2 a1_3).bind fun t182 => (some (a1_0, a1_1, a1_2, a1_3, t182, 0)))))) else (none)) else (none))) = some (r1, r2, r3, r4, r5, r6) := by rw [if_neg (show ¬ (false = true) by decide)] at H; exact H
     clear H
     have H := H1
     clear H1
     replace H := Option.bind_eq_some_iff.mp H
     obtain ⟨t176, A320, H⟩ := H
     replace H : (if 0 ≤ t176 then (if (t176 : Int).toNat ≤ 35184372088832 then ((some (List.replicate (t176 : Int).toNat 0 : List Int)).bind fun y177 => ((rect_Empty.f a1_0 a1_1 a1_2 a1_3).bind fun t181 => (if t181 = true then (some (a1_0, a1_1, a1_2, a1_3, y177, 0)) else ((plane_part.f kj4 a1_0 a1_1 a1_2 a1_3 y177 a0_0 a0_1 a0_2 a0_3 l0_4 a1_0 a1_1 a1_2 a1_3).bind fun t182 => (some (a1_0, a1_1, a1_2, a1_3, t182, 0)))))) else (none)) else (none)) = some (r1, r2, r3, r4, r5, r6) := H
     have A32 := AS A320
     clear A320
     by_cases c33 : 0 ≤ t176
     ·rw [if_pos c33] at H
      have c33b0 := eq_true c33
      have c33b1 : decide (0 ≤ t176) = true := decide_eq_true c33
      clear c33
      by_cases c34 : (t176 : Int).toNat ≤ 35184372088832
      ·rw [if_pos c34] at H
       have c34b0 := eq_true c34
       have c34b1 : decide ((t176 : Int).toNat ≤ 35184372088832) = true := decide_eq_true c34
       clear c34
       obtain ⟨y177, hy177⟩ : ∃ y_ : List Int, y_ = (List.replicate (t176 : Int).toNat 0) := ⟨_, rfl⟩
       replace H : ((rect_Empty.f a1_0 a1_1 a1_2 a1_3).bind fun t181 => (if t181 = true then (some (a1_0, a1_1, a1_2, a1_3, y177, 0)) else ((plane_part.f kj4 a1_0 a1_1 a1_2 a1_3 y177 a0_0 a0_1 a0_2 a0_3 l0_4 a1_0 a1_1 a1_2 a1_3).bind fun t182 => (some (a1_0, a1_1, a1_2, a1_3, t182, 0))))) = some (r1, r2, r3, r4, r5, r6) := by first | (rw [hy177]; with_reducible exact H) | (have H2_ := (Option.bind_some _ _).symm.trans H; rw [hy177]; with_reducible exact H2_) | (have H2_ := (Option.bind_some _ _).symm.trans H; with_reducible exact H2_) | with_reducible exact H | (rw [hy177]; exact H) | exact H
       have Ny177 := AS hy177
       clear hy177
       replace H := Option.bind_eq_some_iff.mp H
       obtain ⟨t181, A350, H⟩ := H
       replace H : (if t181 = true then (some (a1_0, a1_1, a1_2, a1_3, y177, 0)) else ((plane_part.f kj4 a1_0 a1_1 a1_2 a1_3 y177 a0_0 a0_1 a0_2 a0_3 l0_4 a1_0 a1_1 a1_2 a1_3).bind fun t182 => (some (a1_0, a1_1, a1_2, a1_3, t182, 0)))) = some (r1, r2, r3, r4, r5, r6) := H
       have A35 := AS A350
       clear A350
       by_cases c36 : t181 = true
       ·subst c36
        have H1 : (some (a1_0, a1_1, a1_2, a1_3, y177, 0)) = some (r1, r2, r3, r4, r5, r6) := by rw [if_pos rfl] at H; exact H
        clear H
        have H := H1
        clear H1
        simp only [Option.some.injEq, Prod.mk.injEq] at H
        obtain ⟨rfl, rfl, rfl, rfl, rfl, rfl⟩ := H
        try go_wp2
        replace BK170 := AS (blk_drew BK170.out)
        replace BK171 := AS (blk_drew BK171.out)
        replace BK172 := AS (blk_drew BK172.out)
        replace HB := AS (below_drew1 HB.out)
        refine start_ (n := 7) (S := fun w' => ce w' gb171 0 (.int .i64 a1_0) ∧ ce w' gb171 1 (.int .i64 a1_1) ∧ ce w' gb171 2 (.int .i64 a1_2) ∧ ce w' gb171 3 (.int .i64 a1_3)) (ds := []) #[false, false, false, false, false, false, false] (by kernel_rfl) rfl rfl ⟨bc BK171 0, bc BK171 1, bc BK171 2, bc BK171 3⟩ (fun hHeld => ?_)
        generalize wc.drew = w37 at BK170 BK171 BK172 HB hHeld ⊢
        refine take_ (i := 0) (N := some 22) (v := ?_) (a' := ?_) #[true, false, false, false, false, false, false] rfl rfl (by kernel_rfl) (fun _ _ _ h => h) (Or.inl ⟨by rfl, ?_⟩) hHeld ?_ ?_
        rotate_left
        ·rintro w' ⟨s0, s1, s2, s3⟩
         go_simp
         with_reducible rfl
        rotate_left
        ·simp only [PUTW]
         rfl
        refine take_ (i := 1) (N := some 23) (v := ?_) (a' := ?_) #[true, true, false, false, false, false, false] rfl rfl (by kernel_rfl) (fun _ _ _ h => h) (Or.inl ⟨by rfl, ?_⟩) hHeld ?_ ?_
        rotate_left
        ·rintro w' ⟨s0, s1, s2, s3⟩
         go_simp
         with_reducible rfl
        rotate_left
        ·simp only [PUTW]
         rfl
        refine join_ (σ := Value × Nat) 1 #[true, true, true, true, true, true, false] (fun s_ => [(24, .int .i64 t176), (25, s_.1), (6, .pointer (some ⟨s_.2, 0, none⟩)), (26, .agg #[.int .i64 a1_0, .int .i64 a1_1, .int .i64 a1_2, .int .i64 a1_3, s_.1])]) (fun s_ w' => (ce w' gb171 0 (.int .i64 a1_0) ∧ ce w' gb171 1 (.int .i64 a1_1) ∧ ce w' gb171 2 (.int .i64 a1_2) ∧ ce w' gb171 3 (.int .i64 a1_3)) ∧ (Kd.R (Kd.int .i64) 3 w' w.heap.size (fun _ => True) s_.1 y177) ∧ (w'.heap[gb170]? = some (.cells #[.int .i64 a0_0, .int .i64 a0_1, .int .i64 a0_2, .int .i64 a0_3, .slice A0_4 l0_4.length c0_4] 26 (0, 0))) ∧ (w'.heap[gb171]? = some (.cells #[.int .i64 a1_0, .int .i64 a1_1, .int .i64 a1_2, .int .i64 a1_3] 23 (0, 0))) ∧ (w'.heap[gb172]? = some (.cells #[.int .i64 0, .int .i64 0, .int .i64 0, .int .i64 0, .slice none 0 0] 26 (0, 0))) ∧ (w'.heap[s_.2]? = some (.cells #[.int .i64 0, .int .i64 0, .int .i64 0, .int .i64 0, .slice none 0 0] 26 (0, 0))) ∧ (w.heap.size ≤ s_.2) ∧ (w.heap.size ≤ s_.2) ∧ (gb170 ≠ s_.2) ∧ (s_.2 ≠ gb170) ∧ (gb171 ≠ s_.2) ∧ (s_.2 ≠ gb171) ∧ (gb172 ≠ s_.2) ∧ (s_.2 ≠ gb172) ∧ (Below w.heap.size w w')) ?_ ?_
        rotate_left
        ·intro hCont
         refine two_ (i := 2) (j := 5) (Ni := some 24) (Nj := some 6) #[true, true, true, false, false, false, false] #[true, true, false, false, false, true, false] rfl rfl rfl rfl (by kernel_rfl) (by decide) (by decide) (fun K hK => ?_) (fun K hK => ?_)
         ·skip
          refine goes_ Try.func39 (by kernel_rfl) rfl #[.agg #[.int .i64 a1_0, .int .i64 a1_1, .int .i64 a1_2, .int .i64 a1_3]] (by rfl) rfl rfl upL ?_
          with_reducible refine (rect_Area.calls a1_0 a1_1 a1_2 a1_3 t176 _ A32.out).mono ?_
          rintro e w38 ⟨rfl, hb⟩
          refine ⟨_, rfl, ?_⟩
          replace BK170 := AS (blk_below (upK BK170.out) hb)
          replace BK171 := AS (blk_below (upK BK171.out) hb)
          replace BK172 := AS (blk_below (upK BK172.out) hb)
          replace HB := AS (below_step (upB HB.out) hb)
          (try clear hb; try clear hb2; try clear hk; try clear hi)
          refine hK.out _ _ ⟨bc BK171 0, bc BK171 1, bc BK171 2, bc BK171 3⟩ (fun hHeld => ?_)
          clear hK K
          refine noX ?_
          refine two_ (i := 3) (j := 5) (Ni := some 25) (Nj := some 6) #[true, true, true, true, false, false, false] #[true, true, true, false, false, true, false] rfl rfl rfl rfl (by kernel_rfl) (by decide) (by decide) (fun K hK => ?_) (fun K hK => ?_)
          ·skip
           refine Kd.R_make_step (Kd.int .i64) _ 3 (by rfl) (N := 25) rfl 24 _ _ rfl t176 rfl rfl Try.underlying24 (.int .i64 0) 8 info3 rfl (by decide) (by omega) 0 (ok := fun _ => True) (okp := fun _ => True) rfl (fun _ hk => hk) trivial (of_decide_eq_true (by first | (with_reducible assumption) | assumption)) (Nat.le_trans (Nat.mul_le_mul_right _ (of_decide_eq_true (by first | (with_reducible assumption) | assumption) : t176.toNat ≤ 35184372088832)) (by omega)) (Below.refl _ _) (Nat.le_refl _) ?_
           intro v178 w39 ho40 hb hg_ hnew_
           clear hg_ hnew_
           (first | rw [← Ny177.out] at ho40 | (simp only [Int.reduceToNat] at ho40; rw [← Ny177.out] at ho40))
           have HO179 := AS (Kd.R_lower ho40 (below_size (upB HB.out)))
           replace BK170 := AS (blk_below (upK BK170.out) hb)
           replace BK171 := AS (blk_below (upK BK171.out) hb)
           replace BK172 := AS (blk_below (upK BK172.out) hb)
           replace HB := AS (below_step (upB HB.out) hb)
           clear hb ho40
           obtain ⟨Ao41, co41, eo41⟩ := Kd.R_slice HO179.out
           (first | subst eo41 | (injection eo41 with f1_ f2_ f3_; have f4_ := f1_.symm; have f5_ := f3_.symm; clear f1_ f2_ f3_; subst f4_; subst f5_))
           refine hK.out _ _ ⟨bc BK171 0, bc BK171 1, bc BK171 2, bc BK171 3⟩ (fun hHeld => ?_)
           clear hK K
           refine noX ?_
           refine pure_ (i := 4) (N := some 26) (v := ?_) (a' := ?_) #[true, true, true, true, true, false, false] rfl rfl (by kernel_rfl) (fun _ _ _ h => h) (Or.inl ⟨by rfl, ?_⟩) ?_ ?_
           rotate_left
           ·intro w'
            go_simp
            with_reducible rfl
           rotate_left
           ·simp only [PUTW]
            rfl
           refine one_ (i := 5) (N := some 6) #[true, true, true, true, true, true, false] rfl rfl (by kernel_rfl) (by decide) (fun K hK => ?_)
           refine box_step ?hg (N := 6) ?hd (cs := #[.int .i64 0, .int .i64 0, .int .i64 0, .int .i64 0, .slice none 0 0]) (t := 26) ?hr ?_; (case hd => rfl); (case hg => rfl); (case hr => first | (go_simp; done) | (go_simp; rfl))
           intro gb180 hg w42 hbox hb
           replace HO179 := AS (Kd.R_below (upR HO179.out) hb)
           have BK180 := AS (hbox)
           have GW180 := AS ((by rw [hg]; exact (below_size (upB HB.out)) : w.heap.size ≤ gb180))
           have GE180 := AS ((by rw [hg]; exact (below_size (upB HB.out)) : w.heap.size ≤ gb180))
           replace HB := AS (below_step (upB HB.out) hb)
           have NB170_180 := AS ((by rw [hg]; exact Nat.ne_of_lt (blk_lt (upK BK170.out)) : gb170 ≠ gb180))
           have NB180_170 := AS ((by rw [hg]; exact Nat.ne_of_gt (blk_lt (upK BK170.out)) : gb180 ≠ gb170))
           replace BK170 := AS (blk_below (upK BK170.out) hb)
           have NB171_180 := AS ((by rw [hg]; exact Nat.ne_of_lt (blk_lt (upK BK171.out)) : gb171 ≠ gb180))
           have NB180_171 := AS ((by rw [hg]; exact Nat.ne_of_gt (blk_lt (upK BK171.out)) : gb180 ≠ gb171))
           replace BK171 := AS (blk_below (upK BK171.out) hb)
           have NB172_180 := AS ((by rw [hg]; exact Nat.ne_of_lt (blk_lt (upK BK172.out)) : gb172 ≠ gb180))
           have NB180_172 := AS ((by rw [hg]; exact Nat.ne_of_gt (blk_lt (upK BK172.out)) : gb180 ≠ gb172))
           replace BK172 := AS (blk_below (upK BK172.out) hb)
           clear hb hbox hg
           refine hK.out _ _ ⟨bc BK171 0, bc BK171 1, bc BK171 2, bc BK171 3⟩ (fun hHeld => ?_)
           clear hK K
           refine noX ?_
           exact norm_ (by simp only [putAll, Act.put, List.setIfInBounds_toArray, List.set_cons_zero, List.set_cons_succ]) (hCont (.slice Ao41 y177.length co41, gb180) _ ⟨hHeld, (upR HO179.out), (upK BK170.out), (upK BK171.out), (upK BK172.out), (upK BK180.out), GW180.out, GE180.out, NB170_180.out, NB180_170.out, NB171_180.out, NB180_171.out, NB172_180.out, NB180_172.out, (upB HB.out)⟩)
          ·skip
           refine box_step ?hg (N := 6) ?hd (cs := #[.int .i64 0, .int .i64 0, .int .i64 0, .int .i64 0, .slice none 0 0]) (t := 26) ?hr ?_; (case hd => rfl); (case hg => rfl); (case hr => first | (go_simp; done) | (go_simp; rfl))
           intro gb180 hg w39 hbox hb
           have BK180 := AS (hbox)
           have GW180 := AS ((by rw [hg]; exact (below_size (upB HB.out)) : w.heap.size ≤ gb180))
           have GE180 := AS ((by rw [hg]; exact (below_size (upB HB.out)) : w.heap.size ≤ gb180))
           replace HB := AS (below_step (upB HB.out) hb)
           have NB170_180 := AS ((by rw [hg]; exact Nat.ne_of_lt (blk_lt (upK BK170.out)) : gb170 ≠ gb180))
           have NB180_170 := AS ((by rw [hg]; exact Nat.ne_of_gt (blk_lt (upK BK170.out)) : gb180 ≠ gb170))
           replace BK170 := AS (blk_below (upK BK170.out) hb)
           have NB171_180 := AS ((by rw [hg]; exact Nat.ne_of_lt (blk_lt (upK BK171.out)) : gb171 ≠ gb180))
           have NB180_171 := AS ((by rw [hg]; exact Nat.ne_of_gt (blk_lt (upK BK171.out)) : gb180 ≠ gb171))
           replace BK171 := AS (blk_below (upK BK171.out) hb)
           have NB172_180 := AS ((by rw [hg]; exact Nat.ne_of_lt (blk_lt (upK BK172.out)) : gb172 ≠ gb180))
           have NB180_172 := AS ((by rw [hg]; exact Nat.ne_of_gt (blk_lt (upK BK172.out)) : gb180 ≠ gb172))
           replace BK172 := AS (blk_below (upK BK172.out) hb)
           clear hb hbox hg
           refine hK.out _ _ ⟨bc BK171 0, bc BK171 1, bc BK171 2, bc BK171 3⟩ (fun hHeld => ?_)
           clear hK K
           refine noX ?_
           refine one_ (i := 3) (N := some 25) #[true, true, true, true, false, true, false] rfl rfl (by kernel_rfl) (by decide) (fun K hK => ?_)
           refine Kd.R_make_step (Kd.int .i64) _ 3 (by rfl) (N := 25) rfl 24 _ _ rfl t176 rfl rfl Try.underlying24 (.int .i64 0) 8 info3 rfl (by decide) (by omega) 0 (ok := fun _ => True) (okp := fun _ => True) rfl (fun _ hk => hk) trivial (of_decide_eq_true (by first | (with_reducible assumption) | assumption)) (Nat.le_trans (Nat.mul_le_mul_right _ (of_decide_eq_true (by first | (with_reducible assumption) | assumption) : t176.toNat ≤ 35184372088832)) (by omega)) (Below.refl _ _) (Nat.le_refl _) ?_
           intro v178 w40 ho41 hb hg_ hnew_
           clear hg_ hnew_
           (first | rw [← Ny177.out] at ho41 | (simp only [Int.reduceToNat] at ho41; rw [← Ny177.out] at ho41))
           have HO179 := AS (Kd.R_lower ho41 (below_size (upB HB.out)))
           replace BK170 := AS (blk_below (upK BK170.out) hb)
           replace BK171 := AS (blk_below (upK BK171.out) hb)
           replace BK172 := AS (blk_below (upK BK172.out) hb)
           replace BK180 := AS (blk_below (upK BK180.out) hb)
           replace HB := AS (below_step (upB HB.out) hb)
           clear hb ho41
           obtain ⟨Ao42, co42, eo42⟩ := Kd.R_slice HO179.out
           (first | subst eo42 | (injection eo42 with f1_ f2_ f3_; have f4_ := f1_.symm; have f5_ := f3_.symm; clear f1_ f2_ f3_; subst f4_; subst f5_))
           refine hK.out _ _ ⟨bc BK171 0, bc BK171 1, bc BK171 2, bc BK171 3⟩ (fun hHeld => ?_)
           clear hK K
           refine noX ?_
           refine pure_ (i := 4) (N := some 26) (v := ?_) (a' := ?_) #[true, true, true, true, true, true, false] rfl rfl (by kernel_rfl) (fun _ _ _ h => h) (Or.inl ⟨by rfl, ?_⟩) ?_ ?_
           rotate_left
           ·intro w'
            go_simp
            with_reducible rfl
           rotate_left
           ·simp only [PUTW]
            rfl
           exact norm_ (by simp only [putAll, Act.put, List.setIfInBounds_toArray, List.set_cons_zero, List.set_cons_succ]) (hCont (.slice Ao42 y177.length co42, gb180) _ ⟨hHeld, (upR HO179.out), (upK BK170.out), (upK BK171.out), (upK BK172.out), (upK BK180.out), GW180.out, GE180.out, NB170_180.out, NB180_170.out, NB171_180.out, NB180_171.out, NB172_180.out, NB180_172.out, (upB HB.out)⟩)
         ·skip
          refine box_step ?hg (N := 6) ?hd (cs := #[.int .i64 0, .int .i64 0, .int .i64 0, .int .i64 0, .slice none 0 0]) (t := 26) ?hr ?_; (case hd => rfl); (case hg => rfl); (case hr => first | (go_simp; done) | (go_simp; rfl))
          intro gb180 hg w38 hbox hb
          have BK180 := AS (hbox)
          have GW180 := AS ((by rw [hg]; exact (below_size (upB HB.out)) : w.heap.size ≤ gb180))
          have GE180 := AS ((by rw [hg]; exact (below_size (upB HB.out)) : w.heap.size ≤ gb180))
          replace HB := AS (below_step (upB HB.out) hb)
          have NB170_180 := AS ((by rw [hg]; exact Nat.ne_of_lt (blk_lt (upK BK170.out)) : gb170 ≠ gb180))
          have NB180_170 := AS ((by rw [hg]; exact Nat.ne_of_gt (blk_lt (upK BK170.out)) : gb180 ≠ gb170))
          replace BK170 := AS (blk_below (upK BK170.out) hb)
          have NB171_180 := AS ((by rw [hg]; exact Nat.ne_of_lt (blk_lt (upK BK171.out)) : gb171 ≠ gb180))
          have NB180_171 := AS ((by rw [hg]; exact Nat.ne_of_gt (blk_lt (upK BK171.out)) : gb180 ≠ gb171))
          replace BK171 := AS (blk_below (upK BK171.out) hb)
          have NB172_180 := AS ((by rw [hg]; exact Nat.ne_of_lt (blk_lt (upK BK172.out)) : gb172 ≠ gb180))
          have NB180_172 := AS ((by rw [hg]; exact Nat.ne_of_gt (blk_lt (upK BK172.out)) : gb180 ≠ gb172))
          replace BK172 := AS (blk_below (upK BK172.out) hb)
          clear hb hbox hg
          refine hK.out _ _ ⟨bc BK171 0, bc BK171 1, bc BK171 2, bc BK171 3⟩ (fun hHeld => ?_)
          clear hK K
          refine noX ?_
          refine one_ (i := 2) (N := some 24) #[true, true, true, false, false, true, false] rfl rfl (by kernel_rfl) (by decide) (fun K hK => ?_)
          refine goes_ Try.func39 (by kernel_rfl) rfl #[.agg #[.int .i64 a1_0, .int .i64 a1_1, .int .i64 a1_2, .int .i64 a1_3]] (by rfl) rfl rfl upL ?_
          with_reducible refine (rect_Area.calls a1_0 a1_1 a1_2 a1_3 t176 _ A32.out).mono ?_
          rintro e w39 ⟨rfl, hb⟩
          refine ⟨_, rfl, ?_⟩
          replace BK170 := AS (blk_below (upK BK170.out) hb)
          replace BK171 := AS (blk_below (upK BK171.out) hb)
          replace BK172 := AS (blk_below (upK BK172.out) hb)
          replace BK180 := AS (blk_below (upK BK180.out) hb)
          replace HB := AS (below_step (upB HB.out) hb)
          (try clear hb; try clear hb2; try clear hk; try clear hi)
          refine hK.out _ _ ⟨bc BK171 0, bc BK171 1, bc BK171 2, bc BK171 3⟩ (fun hHeld => ?_)
          clear hK K
          refine noX ?_
          refine one_ (i := 3) (N := some 25) #[true, true, true, true, false, true, false] rfl rfl (by kernel_rfl) (by decide) (fun K hK => ?_)
          refine Kd.R_make_step (Kd.int .i64) _ 3 (by rfl) (N := 25) rfl 24 _ _ rfl t176 rfl rfl Try.underlying24 (.int .i64 0) 8 info3 rfl (by decide) (by omega) 0 (ok := fun _ => True) (okp := fun _ => True) rfl (fun _ hk => hk) trivial (of_decide_eq_true (by first | (with_reducible assumption) | assumption)) (Nat.le_trans (Nat.mul_le_mul_right _ (of_decide_eq_true (by first | (with_reducible assumption) | assumption) : t176.toNat ≤ 35184372088832)) (by omega)) (Below.refl _ _) (Nat.le_refl _) ?_
          intro v178 w40 ho41 hb hg_ hnew_
          clear hg_ hnew_
          (first | rw [← Ny177.out] at ho41 | (simp only [Int.reduceToNat] at ho41; rw [← Ny177.out] at ho41))
          have HO179 := AS (Kd.R_lower ho41 (below_size (upB HB.out)))
          replace BK170 := AS (blk_below (upK BK170.out) hb)
          replace BK171 := AS (blk_below (upK BK171.out) hb)
          replace BK172 := AS (blk_below (upK BK172.out) hb)
          replace BK180 := AS (blk_below (upK BK180.out) hb)
          replace HB := AS (below_step (upB HB.out) hb)
          clear hb ho41
          obtain ⟨Ao42, co42, eo42⟩ := Kd.R_slice HO179.out
          (first | subst eo42 | (injection eo42 with f1_ f2_ f3_; have f4_ := f1_.symm; have f5_ := f3_.symm; clear f1_ f2_ f3_; subst f4_; subst f5_))
          refine hK.out _ _ ⟨bc BK171 0, bc BK171 1, bc BK171 2, bc BK171 3⟩ (fun hHeld => ?_)
          clear hK K
          refine noX ?_
          refine pure_ (i := 4) (N := some 26) (v := ?_) (a' := ?_) #[true, true, true, true, true, true, false] rfl rfl (by kernel_rfl) (fun _ _ _ h => h) (Or.inl ⟨by rfl, ?_⟩) ?_ ?_
          rotate_left
          ·intro w'
           go_simp
           with_reducible rfl
          rotate_left
          ·simp only [PUTW]
           rfl
          exact norm_ (by simp only [putAll, Act.put, List.setIfInBounds_toArray, List.set_cons_zero, List.set_cons_succ]) (hCont (.slice Ao42 y177.length co42, gb180) _ ⟨hHeld, (upR HO179.out), (upK BK170.out), (upK BK171.out), (upK BK172.out), (upK BK180.out), GW180.out, GE180.out, NB170_180.out, NB180_170.out, NB171_180.out, NB180_171.out, NB172_180.out, NB180_172.out, (upB HB.out)⟩)
        rintro ⟨v178, gb180⟩ w43 ⟨hS_, h0_, h1_, h2_, h3_, h4_, h5_, h6_, h7_, h8_, h9_, h10_, h11_, h12_, h13_⟩
        have n0_ : Aside0 (Kd.R (Kd.int .i64) 3 w43 w.heap.size (fun _ => True) v178 y177) := ⟨h0_⟩
        have n1_ : Aside0 (w43.heap[gb170]? = some (.cells #[.int .i64 a0_0, .int .i64 a0_1, .int .i64 a0_2, .int .i64 a0_3, .slice A0_4 l0_4.length c0_4] 26 (0, 0))) := ⟨h1_⟩
        have n2_ : Aside0 (w43.heap[gb171]? = some (.cells #[.int .i64 a1_0, .int .i64 a1_1, .int .i64 a1_2, .int .i64 a1_3] 23 (0, 0))) := ⟨h2_⟩
        have n3_ : Aside0 (w43.heap[gb172]? = some (.cells #[.int .i64 0, .int .i64 0, .int .i64 0, .int .i64 0, .slice none 0 0] 26 (0, 0))) := ⟨h3_⟩
        have n4_ : Aside0 (w43.heap[gb180]? = some (.cells #[.int .i64 0, .int .i64 0, .int .i64 0, .int .i64 0, .slice none 0 0] 26 (0, 0))) := ⟨h4_⟩
        have n5_ : Aside0 (w.heap.size ≤ gb180) := ⟨h5_⟩
        have n6_ : Aside0 (w.heap.size ≤ gb180) := ⟨h6_⟩
        have n7_ : Aside0 (gb170 ≠ gb180) := ⟨h7_⟩
        have n8_ : Aside0 (gb180 ≠ gb170) := ⟨h8_⟩
        have n9_ : Aside0 (gb171 ≠ gb180) := ⟨h9_⟩
        have n10_ : Aside0 (gb180 ≠ gb171) := ⟨h10_⟩
        have n11_ : Aside0 (gb172 ≠ gb180) := ⟨h11_⟩
        have n12_ : Aside0 (gb180 ≠ gb172) := ⟨h12_⟩
        have n13_ : Aside0 (Below w.heap.size w w43) := ⟨h13_⟩
        clear BK170
        clear BK171
        clear BK172
        clear HB
        clear h0_ h1_ h2_ h3_ h4_ h5_ h6_ h7_ h8_ h9_ h10_ h11_ h12_ h13_
        have HO179 := n0_
        have BK170 := n1_
        have BK171 := n2_
        have BK172 := n3_
        have BK180 := n4_
        have GW180 := n5_
        have GE180 := n6_
        have NB170_180 := n7_
        have NB180_170 := n8_
        have NB171_180 := n9_
        have NB180_171 := n10_
        have NB172_180 := n11_
        have NB180_172 := n12_
        have HB := n13_
        clear n0_ n1_ n2_ n3_ n4_ n5_ n6_ n7_ n8_ n9_ n10_ n11_ n12_ n13_
        have hHeld : w43.cell? ⟨gb171, 0, none⟩ = some (.int .i64 a1_0) ∧ w43.cell? ⟨gb171, 1, none⟩ = some (.int .i64 a1_1) ∧ w43.cell? ⟨gb171, 2, none⟩ = some (.int .i64 a1_2) ∧ w43.cell? ⟨gb171, 3, none⟩ = some (.int .i64 a1_3) := hS_
        obtain ⟨Ao44, co44, eo44⟩ := Kd.R_slice HO179.out
        (first | subst eo44 | (injection eo44 with f1_ f2_ f3_; have f4_ := f1_.symm; have f5_ := f3_.symm; clear f1_ f2_ f3_; subst f4_; subst f5_))
        refine norm_ (a' := ?_) ?_ ?_
        rotate_left
        ·simp only [putAll, Act.put, List.setIfInBounds_toArray, List.set_cons_zero, List.set_cons_succ]
         rfl
        refine one_ (i := 6) (N := none) #[true, true, true, true, true, true, true] rfl rfl (by kernel_rfl) (by decide) (fun K hK => ?_)
        have hs45 : w43.cell? ⟨gb180, 0, none⟩ = some (.int .i64 0) := bc BK180 0
        have hfs45 := blk_frozen BK180.out 0
        have hns45_0 := NB170_180.out
        have hns45_1 := NB171_180.out
        have hns45_2 := NB172_180.out
        have hms45_0 := NB180_170.out
        have hms45_1 := NB180_171.out
        have hms45_2 := NB180_172.out
        have hs46 : w43.cell? ⟨gb180, 1, none⟩ = some (.int .i64 0) := bc BK180 1
        have hfs46 := blk_frozen BK180.out 1
        have hns46_0 := NB170_180.out
        have hns46_1 := NB171_180.out
        have hns46_2 := NB172_180.out
        have hms46_0 := NB180_170.out
        have hms46_1 := NB180_171.out
        have hms46_2 := NB180_172.out
        have hs47 : w43.cell? ⟨gb180, 2, none⟩ = some (.int .i64 0) := bc BK180 2
        have hfs47 := blk_frozen BK180.out 2
        have hns47_0 := NB170_180.out
        have hns47_1 := NB171_180.out
        have hns47_2 := NB172_180.out
        have hms47_0 := NB180_170.out
        have hms47_1 := NB180_171.out
        have hms47_2 := NB180_172.out
        have hs48 : w43.cell? ⟨gb180, 3, none⟩ = some (.int .i64 0) := bc BK180 3
        have hfs48 := blk_frozen BK180.out 3
        have hns48_0 := NB170_180.out
        have hns48_1 := NB171_180.out
        have hns48_2 := NB172_180.out
        have hms48_0 := NB180_170.out
        have hms48_1 := NB180_171.out
        have hms48_2 := NB180_172.out
        have hs49 : w43.cell? ⟨gb180, 4, none⟩ = some (.slice none 0 0) := bc BK180 4
        have hfs49 := blk_frozen BK180.out 4
        have hns49_0 := NB170_180.out
        have hns49_1 := NB171_180.out
        have hns49_2 := NB172_180.out
        have hms49_0 := NB180_170.out
        have hms49_1 := NB180_171.out
        have hms49_2 := NB180_172.out
        refine skip_ (w1 := ?_) (by rfl) rfl ?_ ?_
        rotate_left
        ·go_simp
         rfl
        refine hK.out _ _ ⟨((cell_far (p := ⟨gb180, _, none⟩) NB171_180.out _).trans (((cell_far (p := ⟨gb180, _, none⟩) NB171_180.out _).trans (((cell_far (p := ⟨gb180, _, none⟩) NB171_180.out _).trans (((cell_far (p := ⟨gb180, _, none⟩) NB171_180.out _).trans (((cell_far (p := ⟨gb180, _, none⟩) NB171_180.out _).trans (hHeld.1)))))))))), ((cell_far (p := ⟨gb180, _, none⟩) NB171_180.out _).trans (((cell_far (p := ⟨gb180, _, none⟩) NB171_180.out _).trans (((cell_far (p := ⟨gb180, _, none⟩) NB171_180.out _).trans (((cell_far (p := ⟨gb180, _, none⟩) NB171_180.out _).trans (((cell_far (p := ⟨gb180, _, none⟩) NB171_180.out _).trans (hHeld.2.1)))))))))), ((cell_far (p := ⟨gb180, _, none⟩) NB171_180.out _).trans (((cell_far (p := ⟨gb180, _, none⟩) NB171_180.out _).trans (((cell_far (p := ⟨gb180, _, none⟩) NB171_180.out _).trans (((cell_far (p := ⟨gb180, _, none⟩) NB171_180.out _).trans (((cell_far (p := ⟨gb180, _, none⟩) NB171_180.out _).trans (hHeld.2.2.1)))))))))), ((cell_far (p := ⟨gb180, _, none⟩) NB171_180.out _).trans (((cell_far (p := ⟨gb180, _, none⟩) NB171_180.out _).trans (((cell_far (p := ⟨gb180, _, none⟩) NB171_180.out _).trans (((cell_far (p := ⟨gb180, _, none⟩) NB171_180.out _).trans (((cell_far (p := ⟨gb180, _, none⟩) NB171_180.out _).trans (hHeld.2.2.2))))))))))⟩ (fun hHeld => ?_)
        clear hK K
        refine done_ (by kernel_rfl) ?_
        have hnb50 := NB171_170.out
        have hnc50 := NB170_171.out
        have hnb51 := NB171_172.out
        have hnc51 := NB172_171.out
        have hnb52 := NB171_180.out
        have hnc52 := NB180_171.out
        have hcz53_0 : w43.cell? ⟨gb171, 0, none⟩ = some (.int .i64 a1_0) := bc BK171 0
        have hcz53_1 : w43.cell? ⟨gb171, 1, none⟩ = some (.int .i64 a1_1) := bc BK171 1
        have hcz53_2 : w43.cell? ⟨gb171, 2, none⟩ = some (.int .i64 a1_2) := bc BK171 2
        have hcz53_3 : w43.cell? ⟨gb171, 3, none⟩ = some (.int .i64 a1_3) := bc BK171 3
        have hfz53_0 := blk_frozen BK171.out 0
        have hfz53_1 := blk_frozen BK171.out 1
        have hfz53_2 := blk_frozen BK171.out 2
        have hfz53_3 := blk_frozen BK171.out 3
        try go_wp2_with (first | ((with_reducible refine gate_callee (f := 47) rfl ?_); refine goesL_ (some 28) rfl rfl Try.func47 (by kernel_rfl) rfl #[.agg #[.int .i64 a1_0, .int .i64 a1_1, .int .i64 a1_2, .int .i64 a1_3]] rfl upL ?_; (with_reducible refine (rect_Empty.calls a1_0 a1_1 a1_2 a1_3 true _ A35.out).mono ?_); rintro e w54 ⟨rfl, hb⟩; refine ⟨_, rfl, ?_⟩; replace HO179 := AS (Kd.R_below (by (with_reducible repeat (first | apply Kd.R_alloc | apply Kd.R_drewN | apply Kd.R_drew)); exact (Kd.R_mono (Kd.R_far (Kd.R_far (Kd.R_far (Kd.R_far (Kd.R_far (Kd.R_types HO179.out BK180.out (by decide)) (fun _ hk => hk.2) _) (fun _ hk => hk.2) _) (fun _ hk => hk.2) _) (fun _ hk => hk.2) _) (fun _ hk => hk.2) _) (fun _ h_ => h_.1))) hb); replace BK170 := AS (blk_below (g := gb170) (o := .cells #[.int .i64 a0_0, .int .i64 a0_1, .int .i64 a0_2, .int .i64 a0_3, .slice A0_4 l0_4.length c0_4] 26) (by (with_reducible repeat (first | refine blk_far ?_ NB170_180.out _ | refine blk_drewN ?_ _ | refine blk_drew ?_ | refine blk_alloc ?_ _)); exact BK170.out) hb); replace BK171 := AS (blk_below (g := gb171) (o := .cells #[.int .i64 a1_0, .int .i64 a1_1, .int .i64 a1_2, .int .i64 a1_3] 23) (by (with_reducible repeat (first | refine blk_far ?_ NB171_180.out _ | refine blk_drewN ?_ _ | refine blk_drew ?_ | refine blk_alloc ?_ _)); exact BK171.out) hb); replace BK172 := AS (blk_below (g := gb172) (o := .cells #[.int .i64 0, .int .i64 0, .int .i64 0, .int .i64 0, .slice none 0 0] 26) (by (with_reducible repeat (first | refine blk_far ?_ NB172_180.out _ | refine blk_drewN ?_ _ | refine blk_drew ?_ | refine blk_alloc ?_ _)); exact BK172.out) hb); replace BK180 := AS (blk_below (g := gb180) (o := .cells #[.int .i64 a1_0, .int .i64 a1_1, .int .i64 a1_2, .int .i64 a1_3, .slice Ao44 y177.length co44] 26) (by (with_reducible repeat (first | refine blk_drewN ?_ _ | refine blk_drew ?_ | refine blk_alloc ?_ _)); refine blk_put (cs := #[.int .i64 a1_0, .int .i64 a1_1, .int .i64 a1_2, .int .i64 a1_3, .slice none 0 0]) ?_ 4 _ rfl; (with_reducible repeat (first | refine blk_drewN ?_ _ | refine blk_drew ?_ | refine blk_alloc ?_ _)); refine blk_put (cs := #[.int .i64 a1_0, .int .i64 a1_1, .int .i64 a1_2, .int .i64 0, .slice none 0 0]) ?_ 3 _ rfl; (with_reducible repeat (first | refine blk_drewN ?_ _ | refine blk_drew ?_ | refine blk_alloc ?_ _)); refine blk_put (cs := #[.int .i64 a1_0, .int .i64 a1_1, .int .i64 0, .int .i64 0, .slice none 0 0]) ?_ 2 _ rfl; (with_reducible repeat (first | refine blk_drewN ?_ _ | refine blk_drew ?_ | refine blk_alloc ?_ _)); refine blk_put (cs := #[.int .i64 a1_0, .int .i64 0, .int .i64 0, .int .i64 0, .slice none 0 0]) ?_ 1 _ rfl; (with_reducible repeat (first | refine blk_drewN ?_ _ | refine blk_drew ?_ | refine blk_alloc ?_ _)); refine blk_put (cs := #[.int .i64 0, .int .i64 0, .int .i64 0, .int .i64 0, .slice none 0 0]) ?_ 0 _ rfl; (with_reducible repeat (first | refine blk_drewN ?_ _ | refine blk_drew ?_ | refine blk_alloc ?_ _)); exact BK180.out) hb); replace HB := AS (below_step (upB HB.out) hb); (try clear hb; try clear hb2; try clear hk; try clear hi); have hnb55 := NB180_170.out; have hnc55 := NB170_180.out; have hnb56 := NB180_172.out; have hnc56 := NB172_180.out; have hcz57_0 : w54.cell? ⟨gb180, 0, none⟩ = some (.int .i64 a1_0) := bc BK180 0; have hcz57_1 : w54.cell? ⟨gb180, 1, none⟩ = some (.int .i64 a1_1) := bc BK180 1; have hcz57_2 : w54.cell? ⟨gb180, 2, none⟩ = some (.int .i64 a1_2) := bc BK180 2; have hcz57_3 : w54.cell? ⟨gb180, 3, none⟩ = some (.int .i64 a1_3) := bc BK180 3; have hcz57_4 : w54.cell? ⟨gb180, 4, none⟩ = some (.slice Ao44 y177.length co44) := bc BK180 4; have hfz57_0 := blk_frozen BK180.out 0; have hfz57_1 := blk_frozen BK180.out 1; have hfz57_2 := blk_frozen BK180.out 2; have hfz57_3 := blk_frozen BK180.out 3; have hfz57_4 := blk_frozen BK180.out 4; have hnb58 := NB172_170.out; have hnc58 := NB170_172.out; have hcz59_0 : w54.cell? ⟨gb172, 0, none⟩ = some (.int .i64 0) := bc BK172 0; have hcz59_1 : w54.cell? ⟨gb172, 1, none⟩ = some (.int .i64 0) := bc BK172 1; have hcz59_2 : w54.cell? ⟨gb172, 2, none⟩ = some (.int .i64 0) := bc BK172 2; have hcz59_3 : w54.cell? ⟨gb172, 3, none⟩ = some (.int .i64 0) := bc BK172 3; have hcz59_4 : w54.cell? ⟨gb172, 4, none⟩ = some (.slice none 0 0) := bc BK172 4; have hfz59_0 := blk_frozen BK172.out 0; have hfz59_1 := blk_frozen BK172.out 1; have hfz59_2 := blk_frozen BK172.out 2; have hfz59_3 := blk_frozen BK172.out 3; have hfz59_4 := blk_frozen BK172.out 4))
        refine bodyPost_ret (results_ct rfl _ _ gb172 26 #[.int .i64 a1_0, .int .i64 a1_1, .int .i64 a1_2, .int .i64 a1_3, .slice Ao44 y177.length co44] (0, 0) _ rfl (by (with_reducible repeat (first | refine blk_drewN ?_ _ | refine blk_drew ?_ | refine blk_alloc ?_ _)); refine blk_put (cs := #[.int .i64 a1_0, .int .i64 a1_1, .int .i64 a1_2, .int .i64 a1_3, .slice none 0 0]) ?_ 4 _ rfl; (with_reducible repeat (first | refine blk_drewN ?_ _ | refine blk_drew ?_ | refine blk_alloc ?_ _)); refine blk_put (cs := #[.int .i64 a1_0, .int .i64 a1_1, .int .i64 a1_2, .int .i64 0, .slice none 0 0]) ?_ 3 _ rfl; (with_reducible repeat (first | refine blk_drewN ?_ _ | refine blk_drew ?_ | refine blk_alloc ?_ _)); refine blk_put (cs := #[.int .i64 a1_0, .int .i64 a1_1, .int .i64 0, .int .i64 0, .slice none 0 0]) ?_ 2 _ rfl; (with_reducible repeat (first | refine blk_drewN ?_ _ | refine blk_drew ?_ | refine blk_alloc ?_ _)); refine blk_put (cs := #[.int .i64 a1_0, .int .i64 0, .int .i64 0, .int .i64 0, .slice none 0 0]) ?_ 1 _ rfl; (with_reducible repeat (first | refine blk_drewN ?_ _ | refine blk_drew ?_ | refine blk_alloc ?_ _)); refine blk_put (cs := #[.int .i64 0, .int .i64 0, .int .i64 0, .int .i64 0, .slice none 0 0]) ?_ 0 _ rfl; (with_reducible repeat (first | refine blk_drewN ?_ _ | refine blk_drew ?_ | refine blk_alloc ?_ _)); exact BK172.out) Try.underlying26 rfl (by kernel_rfl)) rfl ?_
        exact ⟨_, by first | rfl | (simp [errW_none, errW_some] <;> rfl) | (simp [*, errW_none, errW_some] <;> rfl), by (with_reducible repeat (first | apply Kd.R_alloc | apply Kd.R_drewN | apply Kd.R_drew)); exact Kd.R_mono (Kd.R_far (Kd.R_far (Kd.R_far (Kd.R_far (Kd.R_far (Kd.R_types HO179.out BK172.out (by decide)) (fun _ hk => hk.2) _) (fun _ hk => hk.2) _) (fun _ hk => hk.2) _) (fun _ hk => hk.2) _) (fun _ hk => hk.2) _) (fun _ hk => trivial), by repeat (first | (with_reducible first | exact HB.out | apply below_alloc | apply pw_below_drewN | apply below_drew1 | refine below_set ?_ GE170.out | refine below_set ?_ GE171.out | refine below_set ?_ GE172.out | refine below_set ?_ GE180.out) | exact HB.out)⟩
       ·replace c36 := Bool.eq_false_iff.mpr c36
        subst c36
        have H1 : ((plane_part.f kj4 a1_0 a1_1 a1_2 a1_3 y177 a0_0 a0_1 a0_2 a0_3 l0_4 a1_0 a1_1 a1_2 a1_3).bind fun t182 => (some (a1_0, a1_1, a1_2, a1_3, t182, 0))) = some (r1, r2, r3, r4, r5, r6) := by rw [if_neg (show ¬ (false = true) by decide)] at H; exact H
        clear H
        have H := H1
        clear H1
        replace H := Option.bind_eq_some_iff.mp H
        obtain ⟨t182, A600, H⟩ := H
        replace H : (some (a1_0, a1_1, a1_2, a1_3, t182, 0)) = some (r1, r2, r3, r4, r5, r6) := H
        have A60 := AS A600
        clear A600
        simp only [Option.some.injEq, Prod.mk.injEq] at H
        obtain ⟨rfl, rfl, rfl, rfl, rfl, rfl⟩ := H
        try go_wp2
        replace BK170 := AS (blk_drew BK170.out)
        replace BK171 := AS (blk_drew BK171.out)
        replace BK172 := AS (blk_drew BK172.out)
        replace HB := AS (below_drew1 HB.out)
        refine start_ (n := 7) (S := fun w' => ce w' gb171 0 (.int .i64 a1_0) ∧ ce w' gb171 1 (.int .i64 a1_1) ∧ ce w' gb171 2 (.int .i64 a1_2) ∧ ce w' gb171 3 (.int .i64 a1_3)) (ds := []) #[false, false, false, false, false, false, false] (by kernel_rfl) rfl rfl ⟨bc BK171 0, bc BK171 1, bc BK171 2, bc BK171 3⟩ (fun hHeld => ?_)
        generalize wc.drew = w61 at BK170 BK171 BK172 HB hHeld ⊢
        refine take_ (i := 0) (N := some 22) (v := ?_) (a' := ?_) #[true, false, false, false, false, false, false] rfl rfl (by kernel_rfl) (fun _ _ _ h => h) (Or.inl ⟨by rfl, ?_⟩) hHeld ?_ ?_
        rotate_left
        ·rintro w' ⟨s0, s1, s2, s3⟩
         go_simp
         with_reducible rfl
        rotate_left
        ·simp only [PUTW]
         rfl
        refine take_ (i := 1) (N := some 23) (v := ?_) (a' := ?_) #[true, true, false, false, false, false, false] rfl rfl (by kernel_rfl) (fun _ _ _ h => h) (Or.inl ⟨by rfl, ?_⟩) hHeld ?_ ?_
        rotate_left
        ·rintro w' ⟨s0, s1, s2, s3⟩
         go_simp
         with_reducible rfl
        rotate_left
        ·simp only [PUTW]
         rfl
        refine join_ (σ := Value × Nat) 1 #[true, true, true, true, true, true, false] (fun s_ => [(24, .int .i64 t176), (25, s_.1), (6, .pointer (some ⟨s_.2, 0, none⟩)), (26, .agg #[.int .i64 a1_0, .int .i64 a1_1, .int .i64 a1_2, .int .i64 a1_3, s_.1])]) (fun s_ w' => (ce w' gb171 0 (.int .i64 a1_0) ∧ ce w' gb171 1 (.int .i64 a1_1) ∧ ce w' gb171 2 (.int .i64 a1_2) ∧ ce w' gb171 3 (.int .i64 a1_3)) ∧ (Kd.R (Kd.int .i64) 3 w' w.heap.size (fun _ => True) s_.1 y177) ∧ (w'.heap[gb170]? = some (.cells #[.int .i64 a0_0, .int .i64 a0_1, .int .i64 a0_2, .int .i64 a0_3, .slice A0_4 l0_4.length c0_4] 26 (0, 0))) ∧ (w'.heap[gb171]? = some (.cells #[.int .i64 a1_0, .int .i64 a1_1, .int .i64 a1_2, .int .i64 a1_3] 23 (0, 0))) ∧ (w'.heap[gb172]? = some (.cells #[.int .i64 0, .int .i64 0, .int .i64 0, .int .i64 0, .slice none 0 0] 26 (0, 0))) ∧ (w'.heap[s_.2]? = some (.cells #[.int .i64 0, .int .i64 0, .int .i64 0, .int .i64 0, .slice none 0 0] 26 (0, 0))) ∧ (w.heap.size ≤ s_.2) ∧ (w.heap.size ≤ s_.2) ∧ (gb170 ≠ s_.2) ∧ (s_.2 ≠ gb170) ∧ (gb171 ≠ s_.2) ∧ (s_.2 ≠ gb171) ∧ (gb172 ≠ s_.2) ∧ (s_.2 ≠ gb172) ∧ (Below w.heap.size w w')) ?_ ?_
        rotate_left
        ·intro hCont
         refine two_ (i := 2) (j := 5) (Ni := some 24) (Nj := some 6) #[true, true, true, false, false, false, false] #[true, true, false, false, false, true, false] rfl rfl rfl rfl (by kernel_rfl) (by decide) (by decide) (fun K hK => ?_) (fun K hK => ?_)
         ·skip
          refine goes_ Try.func39 (by kernel_rfl) rfl #[.agg #[.int .i64 a1_0, .int .i64 a1_1, .int .i64 a1_2, .int .i64 a1_3]] (by rfl) rfl rfl upL ?_
          with_reducible refine (rect_Area.calls a1_0 a1_1 a1_2 a1_3 t176 _ A32.out).mono ?_
          rintro e w62 ⟨rfl, hb⟩
          refine ⟨_, rfl, ?_⟩
          replace BK170 := AS (blk_below (upK BK170.out) hb)
          replace BK171 := AS (blk_below (upK BK171.out) hb)
          replace BK172 := AS (blk_below (upK BK172.out) hb)
          replace HB := AS (below_step (upB HB.out) hb)
          (try clear hb; try clear hb2; try clear hk; try clear hi)
          refine hK.out _ _ ⟨bc BK171 0, bc BK171 1, bc BK171 2, bc BK171 3⟩ (fun hHeld => ?_)
          clear hK K
          refine noX ?_
          refine two_ (i := 3) (j := 5) (Ni := some 25) (Nj := some 6) #[true, true, true, true, false, false, false] #[true, true, true, false, false, true, false] rfl rfl rfl rfl (by kernel_rfl) (by decide) (by decide) (fun K hK => ?_) (fun K hK => ?_)
          ·skip
           refine Kd.R_make_step (Kd.int .i64) _ 3 (by rfl) (N := 25) rfl 24 _ _ rfl t176 rfl rfl Try.underlying24 (.int .i64 0) 8 info3 rfl (by decide) (by omega) 0 (ok := fun _ => True) (okp := fun _ => True) rfl (fun _ hk => hk) trivial (of_decide_eq_true (by first | (with_reducible assumption) | assumption)) (Nat.le_trans (Nat.mul_le_mul_right _ (of_decide_eq_true (by first | (with_reducible assumption) | assumption) : t176.toNat ≤ 35184372088832)) (by omega)) (Below.refl _ _) (Nat.le_refl _) ?_
           intro v178 w63 ho64 hb hg_ hnew_
           clear hg_ hnew_
           (first | rw [← Ny177.out] at ho64 | (simp only [Int.reduceToNat] at ho64; rw [← Ny177.out] at ho64))
           have HO179 := AS (Kd.R_lower ho64 (below_size (upB HB.out)))
           replace BK170 := AS (blk_below (upK BK170.out) hb)
           replace BK171 := AS (blk_below (upK BK171.out) hb)
           replace BK172 := AS (blk_below (upK BK172.out) hb)
           replace HB := AS (below_step (upB HB.out) hb)
           clear hb ho64
           obtain ⟨Ao65, co65, eo65⟩ := Kd.R_slice HO179.out
           (first | subst eo65 | (injection eo65 with f1_ f2_ f3_; have f4_ := f1_.symm; have f5_ := f3_.symm; clear f1_ f2_ f3_; subst f4_; subst f5_))
           refine hK.out _ _ ⟨bc BK171 0, bc BK171 1, bc BK171 2, bc BK171 3⟩ (fun hHeld => ?_)
           clear hK K
           refine noX ?_
           refine pure_ (i := 4) (N := some 26) (v := ?_) (a' := ?_) #[true, true, true, true, true, false, false] rfl rfl (by kernel_rfl) (fun _ _ _ h => h) (Or.inl ⟨by rfl, ?_⟩) ?_ ?_
           rotate_left
           ·intro w'
            go_simp
            with_reducible rfl
           rotate_left
           ·simp only [PUTW]
            rfl
           refine one_ (i := 5) (N := some 6) #[true, true, true, true, true, true, false] rfl rfl (by kernel_rfl) (by decide) (fun K hK => ?_)
           refine box_step ?hg (N := 6) ?hd (cs := #[.int .i64 0, .int .i64 0, .int .i64 0, .int .i64 0, .slice none 0 0]) (t := 26) ?hr ?_; (case hd => rfl); (case hg => rfl); (case hr => first | (go_simp; done) | (go_simp; rfl))
           intro gb180 hg w66 hbox hb
           replace HO179 := AS (Kd.R_below (upR HO179.out) hb)
           have BK180 := AS (hbox)
           have GW180 := AS ((by rw [hg]; exact (below_size (upB HB.out)) : w.heap.size ≤ gb180))
           have GE180 := AS ((by rw [hg]; exact (below_size (upB HB.out)) : w.heap.size ≤ gb180))
           replace HB := AS (below_step (upB HB.out) hb)
           have NB170_180 := AS ((by rw [hg]; exact Nat.ne_of_lt (blk_lt (upK BK170.out)) : gb170 ≠ gb180))
           have NB180_170 := AS ((by rw [hg]; exact Nat.ne_of_gt (blk_lt (upK BK170.out)) : gb180 ≠ gb170))
           replace BK170 := AS (blk_below (upK BK170.out) hb)
           have NB171_180 := AS ((by rw [hg]; exact Nat.ne_of_lt (blk_lt (upK BK171.out)) : gb171 ≠ gb180))
           have NB180_171 := AS ((by rw [hg]; exact Nat.ne_of_gt (blk_lt (upK BK171.out)) : gb180 ≠ gb171))
           replace BK171 := AS (blk_below (upK BK171.out) hb)
           have NB172_180 := AS ((by rw [hg]; exact Nat.ne_of_lt (blk_lt (upK BK172.out)) : gb172 ≠ gb180))
           have NB180_172 := AS ((by rw [hg]; exact Nat.ne_of_gt (blk_lt (upK BK172.out)) : gb180 ≠ gb172))
           replace BK172 := AS (blk_below (upK BK172.out) hb)
           clear hb hbox hg
           refine hK.out _ _ ⟨bc BK171 0, bc BK171 1, bc BK171 2, bc BK171 3⟩ (fun hHeld => ?_)
           clear hK K
           refine noX ?_
           exact norm_ (by simp only [putAll, Act.put, List.setIfInBounds_toArray, List.set_cons_zero, List.set_cons_succ]) (hCont (.slice Ao65 y177.length co65, gb180) _ ⟨hHeld, (upR HO179.out), (upK BK170.out), (upK BK171.out), (upK BK172.out), (upK BK180.out), GW180.out, GE180.out, NB170_180.out, NB180_170.out, NB171_180.out, NB180_171.out, NB172_180.out, NB180_172.out, (upB HB.out)⟩)
          ·skip
           refine box_step ?hg (N := 6) ?hd (cs := #[.int .i64 0, .int .i64 0, .int .i64 0, .int .i64 0, .slice none 0 0]) (t := 26) ?hr ?_; (case hd => rfl); (case hg => rfl); (case hr => first | (go_simp; done) | (go_simp; rfl))
           intro gb180 hg w63 hbox hb
           have BK180 := AS (hbox)
           have GW180 := AS ((by rw [hg]; exact (below_size (upB HB.out)) : w.heap.size ≤ gb180))
           have GE180 := AS ((by rw [hg]; exact (below_size (upB HB.out)) : w.heap.size ≤ gb180))
           replace HB := AS (below_step (upB HB.out) hb)
           have NB170_180 := AS ((by rw [hg]; exact Nat.ne_of_lt (blk_lt (upK BK170.out)) : gb170 ≠ gb180))
           have NB180_170 := AS ((by rw [hg]; exact Nat.ne_of_gt (blk_lt (upK BK170.out)) : gb180 ≠ gb170))
           replace BK170 := AS (blk_below (upK BK170.out) hb)
           have NB171_180 := AS ((by rw [hg]; exact Nat.ne_of_lt (blk_lt (upK BK171.out)) : gb171 ≠ gb180))
           have NB180_171 := AS ((by rw [hg]; exact Nat.ne_of_gt (blk_lt (upK BK171.out)) : gb180 ≠ gb171))
           replace BK171 := AS (blk_below (upK BK171.out) hb)
           have NB172_180 := AS ((by rw [hg]; exact Nat.ne_of_lt (blk_lt (upK BK172.out)) : gb172 ≠ gb180))
           have NB180_172 := AS ((by rw [hg]; exact Nat.ne_of_gt (blk_lt (upK BK172.out)) : gb180 ≠ gb172))
           replace BK172 := AS (blk_below (upK BK172.out) hb)
           clear hb hbox hg
           refine hK.out _ _ ⟨bc BK171 0, bc BK171 1, bc BK171 2, bc BK171 3⟩ (fun hHeld => ?_)
           clear hK K
           refine noX ?_
           refine one_ (i := 3) (N := some 25) #[true, true, true, true, false, true, false] rfl rfl (by kernel_rfl) (by decide) (fun K hK => ?_)
           refine Kd.R_make_step (Kd.int .i64) _ 3 (by rfl) (N := 25) rfl 24 _ _ rfl t176 rfl rfl Try.underlying24 (.int .i64 0) 8 info3 rfl (by decide) (by omega) 0 (ok := fun _ => True) (okp := fun _ => True) rfl (fun _ hk => hk) trivial (of_decide_eq_true (by first | (with_reducible assumption) | assumption)) (Nat.le_trans (Nat.mul_le_mul_right _ (of_decide_eq_true (by first | (with_reducible assumption) | assumption) : t176.toNat ≤ 35184372088832)) (by omega)) (Below.refl _ _) (Nat.le_refl _) ?_
           intro v178 w64 ho65 hb hg_ hnew_
           clear hg_ hnew_
           (first | rw [← Ny177.out] at ho65 | (simp only [Int.reduceToNat] at ho65; rw [← Ny177.out] at ho65))
           have HO179 := AS (Kd.R_lower ho65 (below_size (upB HB.out)))
           replace BK170 := AS (blk_below (upK BK170.out) hb)
           replace BK171 := AS (blk_below (upK BK171.out) hb)
           replace BK172 := AS (blk_below (upK BK172.out) hb)
           replace BK180 := AS (blk_below (upK BK180.out) hb)
           replace HB := AS (below_step (upB HB.out) hb)
           clear hb ho65
           obtain ⟨Ao66, co66, eo66⟩ := Kd.R_slice HO179.out
           (first | subst eo66 | (injection eo66 with f1_ f2_ f3_; have f4_ := f1_.symm; have f5_ := f3_.symm; clear f1_ f2_ f3_; subst f4_; subst f5_))
           refine hK.out _ _ ⟨bc BK171 0, bc BK171 1, bc BK171 2, bc BK171 3⟩ (fun hHeld => ?_)
           clear hK K
           refine noX ?_
           refine pure_ (i := 4) (N := some 26) (v := ?_) (a' := ?_) #[true, true, true, true, true, true, false] rfl rfl (by kernel_rfl) (fun _ _ _ h => h) (Or.inl ⟨by rfl, ?_⟩) ?_ ?_
           rotate_left
           ·intro w'
            go_simp
            with_reducible rfl
           rotate_left
           ·simp only [PUTW]
            rfl
           exact norm_ (by simp only [putAll, Act.put, List.setIfInBounds_toArray, List.set_cons_zero, List.set_cons_succ]) (hCont (.slice Ao66 y177.length co66, gb180) _ ⟨hHeld, (upR HO179.out), (upK BK170.out), (upK BK171.out), (upK BK172.out), (upK BK180.out), GW180.out, GE180.out, NB170_180.out, NB180_170.out, NB171_180.out, NB180_171.out, NB172_180.out, NB180_172.out, (upB HB.out)⟩)
         ·skip
          refine box_step ?hg (N := 6) ?hd (cs := #[.int .i64 0, .int .i64 0, .int .i64 0, .int .i64 0, .slice none 0 0]) (t := 26) ?hr ?_; (case hd => rfl); (case hg => rfl); (case hr => first | (go_simp; done) | (go_simp; rfl))
          intro gb180 hg w62 hbox hb
          have BK180 := AS (hbox)
          have GW180 := AS ((by rw [hg]; exact (below_size (upB HB.out)) : w.heap.size ≤ gb180))
          have GE180 := AS ((by rw [hg]; exact (below_size (upB HB.out)) : w.heap.size ≤ gb180))
          replace HB := AS (below_step (upB HB.out) hb)
          have NB170_180 := AS ((by rw [hg]; exact Nat.ne_of_lt (blk_lt (upK BK170.out)) : gb170 ≠ gb180))
          have NB180_170 := AS ((by rw [hg]; exact Nat.ne_of_gt (blk_lt (upK BK170.out)) : gb180 ≠ gb170))
          replace BK170 := AS (blk_below (upK BK170.out) hb)
          have NB171_180 := AS ((by rw [hg]; exact Nat.ne_of_lt (blk_lt (upK BK171.out)) : gb171 ≠ gb180))
          have NB180_171 := AS ((by rw [hg]; exact Nat.ne_of_gt (blk_lt (upK BK171.out)) : gb180 ≠ gb171))
          replace BK171 := AS (blk_below (upK BK171.out) hb)
          have NB172_180 := AS ((by rw [hg]; exact Nat.ne_of_lt (blk_lt (upK BK172.out)) : gb172 ≠ gb180))
          have NB180_172 := AS ((by rw [hg]; exact Nat.ne_of_gt (blk_lt (upK BK172.out)) : gb180 ≠ gb172))
          replace BK172 := AS (blk_below (upK BK172.out) hb)
          clear hb hbox hg
          refine hK.out _ _ ⟨bc BK171 0, bc BK171 1, bc BK171 2, bc BK171 3⟩ (fun hHeld => ?_)
          clear hK K
          refine noX ?_
          refine one_ (i := 2) (N := some 24) #[true, true, true, false, false, true, false] rfl rfl (by kernel_rfl) (by decide) (fun K hK => ?_)
          refine goes_ Try.func39 (by kernel_rfl) rfl #[.agg #[.int .i64 a1_0, .int .i64 a1_1, .int .i64 a1_2, .int .i64 a1_3]] (by rfl) rfl rfl upL ?_
          with_reducible refine (rect_Area.calls a1_0 a1_1 a1_2 a1_3 t176 _ A32.out).mono ?_
          rintro e w63 ⟨rfl, hb⟩
          refine ⟨_, rfl, ?_⟩
          replace BK170 := AS (blk_below (upK BK170.out) hb)
          replace BK171 := AS (blk_below (upK BK171.out) hb)
          replace BK172 := AS (blk_below (upK BK172.out) hb)
          replace BK180 := AS (blk_below (upK BK180.out) hb)
          replace HB := AS (below_step (upB HB.out) hb)
          (try clear hb; try clear hb2; try clear hk; try clear hi)
          refine hK.out _ _ ⟨bc BK171 0, bc BK171 1, bc BK171 2, bc BK171 3⟩ (fun hHeld => ?_)
          clear hK K
          refine noX ?_
          refine one_ (i := 3) (N := some 25) #[true, true, true, true, false, true, false] rfl rfl (by kernel_rfl) (by decide) (fun K hK => ?_)
          refine Kd.R_make_step (Kd.int .i64) _ 3 (by rfl) (N := 25) rfl 24 _ _ rfl t176 rfl rfl Try.underlying24 (.int .i64 0) 8 info3 rfl (by decide) (by omega) 0 (ok := fun _ => True) (okp := fun _ => True) rfl (fun _ hk => hk) trivial (of_decide_eq_true (by first | (with_reducible assumption) | assumption)) (Nat.le_trans (Nat.mul_le_mul_right _ (of_decide_eq_true (by first | (with_reducible assumption) | assumption) : t176.toNat ≤ 35184372088832)) (by omega)) (Below.refl _ _) (Nat.le_refl _) ?_
          intro v178 w64 ho65 hb hg_ hnew_
          clear hg_ hnew_
          (first | rw [← Ny177.out] at ho65 | (simp only [Int.reduceToNat] at ho65; rw [← Ny177.out] at ho65))
          have HO179 := AS (Kd.R_lower ho65 (below_size (upB HB.out)))
          replace BK170 := AS (blk_below (upK BK170.out) hb)
          replace BK171 := AS (blk_below (upK BK171.out) hb)
          replace BK172 := AS (blk_below (upK BK172.out) hb)
          replace BK180 := AS (blk_below (upK BK180.out) hb)
          replace HB := AS (below_step (upB HB.out) hb)
          clear hb ho65
          obtain ⟨Ao66, co66, eo66⟩ := Kd.R_slice HO179.out
          (first | subst eo66 | (injection eo66 with f1_ f2_ f3_; have f4_ := f1_.symm; have f5_ := f3_.symm; clear f1_ f2_ f3_; subst f4_; subst f5_))
          refine hK.out _ _ ⟨bc BK171 0, bc BK171 1, bc BK171 2, bc BK171 3⟩ (fun hHeld => ?_)
          clear hK K
          refine noX ?_
          refine pure_ (i := 4) (N := some 26) (v := ?_) (a' := ?_) #[true, true, true, true, true, true, false] rfl rfl (by kernel_rfl) (fun _ _ _ h => h) (Or.inl ⟨by rfl, ?_⟩) ?_ ?_
          rotate_left
          ·intro w'
           go_simp
           with_reducible rfl
          rotate_left
          ·simp only [PUTW]
           rfl
          exact norm_ (by simp only [putAll, Act.put, List.setIfInBounds_toArray, List.set_cons_zero, List.set_cons_succ]) (hCont (.slice Ao66 y177.length co66, gb180) _ ⟨hHeld, (upR HO179.out), (upK BK170.out), (upK BK171.out), (upK BK172.out), (upK BK180.out), GW180.out, GE180.out, NB170_180.out, NB180_170.out, NB171_180.out, NB180_171.out, NB172_180.out, NB180_172.out, (upB HB.out)⟩)
        rintro ⟨v178, gb180⟩ w67 ⟨hS_, h0_, h1_, h2_, h3_, h4_, h5_, h6_, h7_, h8_, h9_, h10_, h11_, h12_, h13_⟩
        have n0_ : Aside0 (Kd.R (Kd.int .i64) 3 w67 w.heap.size (fun _ => True) v178 y177) := ⟨h0_⟩
        have n1_ : Aside0 (w67.heap[gb170]? = some (.cells #[.int .i64 a0_0, .int .i64 a0_1, .int .i64 a0_2, .int .i64 a0_3, .slice A0_4 l0_4.length c0_4] 26 (0, 0))) := ⟨h1_⟩
        have n2_ : Aside0 (w67.heap[gb171]? = some (.cells #[.int .i64 a1_0, .int .i64 a1_1, .int .i64 a1_2, .int .i64 a1_3] 23 (0, 0))) := ⟨h2_⟩
        have n3_ : Aside0 (w67.heap[gb172]? = some (.cells #[.int .i64 0, .int .i64 0, .int .i64 0, .int .i64 0, .slice none 0 0] 26 (0, 0))) := ⟨h3_⟩
        have n4_ : Aside0 (w67.heap[gb180]? = some (.cells #[.int .i64 0, .int .i64 0, .int .i64 0, .int .i64 0, .slice none 0 0] 26 (0, 0))) := ⟨h4_⟩
        have n5_ : Aside0 (w.heap.size ≤ gb180) := ⟨h5_⟩
        have n6_ : Aside0 (w.heap.size ≤ gb180) := ⟨h6_⟩
        have n7_ : Aside0 (gb170 ≠ gb180) := ⟨h7_⟩
        have n8_ : Aside0 (gb180 ≠ gb170) := ⟨h8_⟩
        have n9_ : Aside0 (gb171 ≠ gb180) := ⟨h9_⟩
        have n10_ : Aside0 (gb180 ≠ gb171) := ⟨h10_⟩
        have n11_ : Aside0 (gb172 ≠ gb180) := ⟨h11_⟩
        have n12_ : Aside0 (gb180 ≠ gb172) := ⟨h12_⟩
        have n13_ : Aside0 (Below w.heap.size w w67) := ⟨h13_⟩
        clear BK170
        clear BK171
        clear BK172
        clear HB
        clear h0_ h1_ h2_ h3_ h4_ h5_ h6_ h7_ h8_ h9_ h10_ h11_ h12_ h13_
        have HO179 := n0_
        have BK170 := n1_
        have BK171 := n2_
        have BK172 := n3_
        have BK180 := n4_
        have GW180 := n5_
        have GE180 := n6_
        have NB170_180 := n7_
        have NB180_170 := n8_
        have NB171_180 := n9_
        have NB180_171 := n10_
        have NB172_180 := n11_
        have NB180_172 := n12_
        have HB := n13_
        clear n0_ n1_ n2_ n3_ n4_ n5_ n6_ n7_ n8_ n9_ n10_ n11_ n12_ n13_
        have hHeld : w67.cell? ⟨gb171, 0, none⟩ = some (.int .i64 a1_0) ∧ w67.cell? ⟨gb171, 1, none⟩ = some (.int .i64 a1_1) ∧ w67.cell? ⟨gb171, 2, none⟩ = some (.int .i64 a1_2) ∧ w67.cell? ⟨gb171, 3, none⟩ = some (.int .i64 a1_3) := hS_
        obtain ⟨Ao68, co68, eo68⟩ := Kd.R_slice HO179.out
        (first | subst eo68 | (injection eo68 with f1_ f2_ f3_; have f4_ := f1_.symm; have f5_ := f3_.symm; clear f1_ f2_ f3_; subst f4_; subst f5_))
        refine norm_ (a' := ?_) ?_ ?_
        rotate_left
        ·simp only [putAll, Act.put, List.setIfInBounds_toArray, List.set_cons_zero, List.set_cons_succ]
         rfl
        refine one_ (i := 6) (N := none) #[true, true, true, true, true, true, true] rfl rfl (by kernel_rfl) (by decide) (fun K hK => ?_)
        have hs69 : w67.cell? ⟨gb180, 0, none⟩ = some (.int .i64 0) := bc BK180 0
        have hfs69 := blk_frozen BK180.out 0
        have hns69_0 := NB170_180.out
        have hns69_1 := NB171_180.out
        have hns69_2 := NB172_180.out
        have hms69_0 := NB180_170.out
        have hms69_1 := NB180_171.out
        have hms69_2 := NB180_172.out
        have hs70 : w67.cell? ⟨gb180, 1, none⟩ = some (.int .i64 0) := bc BK180 1
        have hfs70 := blk_frozen BK180.out 1
        have hns70_0 := NB170_180.out
        have hns70_1 := NB171_180.out
        have hns70_2 := NB172_180.out
        have hms70_0 := NB180_170.out
        have hms70_1 := NB180_171.out
        have hms70_2 := NB180_172.out
        have hs71 : w67.cell? ⟨gb180, 2, none⟩ = some (.int .i64 0) := bc BK180 2
        have hfs71 := blk_frozen BK180.out 2
        have hns71_0 := NB170_180.out
        have hns71_1 := NB171_180.out
        have hns71_2 := NB172_180.out
        have hms71_0 := NB180_170.out
        have hms71_1 := NB180_171.out
        have hms71_2 := NB180_172.out
        have hs72 : w67.cell? ⟨gb180, 3, none⟩ = some (.int .i64 0) := bc BK180 3
        have hfs72 := blk_frozen BK180.out 3
        have hns72_0 := NB170_180.out
        have hns72_1 := NB171_180.out
        have hns72_2 := NB172_180.out
        have hms72_0 := NB180_170.out
        have hms72_1 := NB180_171.out
        have hms72_2 := NB180_172.out
        have hs73 : w67.cell? ⟨gb180, 4, none⟩ = some (.slice none 0 0) := bc BK180 4
        have hfs73 := blk_frozen BK180.out 4
        have hns73_0 := NB170_180.out
        have hns73_1 := NB171_180.out
        have hns73_2 := NB172_180.out
        have hms73_0 := NB180_170.out
        have hms73_1 := NB180_171.out
        have hms73_2 := NB180_172.out
        refine skip_ (w1 := ?_) (by rfl) rfl ?_ ?_
        rotate_left
        ·go_simp
         rfl
        refine hK.out _ _ ⟨((cell_far (p := ⟨gb180, _, none⟩) NB171_180.out _).trans (((cell_far (p := ⟨gb180, _, none⟩) NB171_180.out _).trans (((cell_far (p := ⟨gb180, _, none⟩) NB171_180.out _).trans (((cell_far (p := ⟨gb180, _, none⟩) NB171_180.out _).trans (((cell_far (p := ⟨gb180, _, none⟩) NB171_180.out _).trans (hHeld.1)))))))))), ((cell_far (p := ⟨gb180, _, none⟩) NB171_180.out _).trans (((cell_far (p := ⟨gb180, _, none⟩) NB171_180.out _).trans (((cell_far (p := ⟨gb180, _, none⟩) NB171_180.out _).trans (((cell_far (p := ⟨gb180, _, none⟩) NB171_180.out _).trans (((cell_far (p := ⟨gb180, _, none⟩) NB171_180.out _).trans (hHeld.2.1)))))))))), ((cell_far (p := ⟨gb180, _, none⟩) NB171_180.out _).trans (((cell_far (p := ⟨gb180, _, none⟩) NB171_180.out _).trans (((cell_far (p := ⟨gb180, _, none⟩) NB171_180.out _).trans (((cell_far (p := ⟨gb180, _, none⟩) NB171_180.out _).trans (((cell_far (p := ⟨gb180, _, none⟩) NB171_180.out _).trans (hHeld.2.2.1)))))))))), ((cell_far (p := ⟨gb180, _, none⟩) NB171_180.out _).trans (((cell_far (p := ⟨gb180, _, none⟩) NB171_180.out _).trans (((cell_far (p := ⟨gb180, _, none⟩) NB171_180.out _).trans (((cell_far (p := ⟨gb180, _, none⟩) NB171_180.out _).trans (((cell_far (p := ⟨gb180, _, none⟩) NB171_180.out _).trans (hHeld.2.2.2))))))))))⟩ (fun hHeld => ?_)
        clear hK K
        refine done_ (by kernel_rfl) ?_
        have hnb74 := NB171_170.out
        have hnc74 := NB170_171.out
        have hnb75 := NB171_172.out
        have hnc75 := NB172_171.out
        have hnb76 := NB171_180.out
        have hnc76 := NB180_171.out
        have hcz77_0 : w67.cell? ⟨gb171, 0, none⟩ = some (.int .i64 a1_0) := bc BK171 0
        have hcz77_1 : w67.cell? ⟨gb171, 1, none⟩ = some (.int .i64 a1_1) := bc BK171 1
        have hcz77_2 : w67.cell? ⟨gb171, 2, none⟩ = some (.int .i64 a1_2) := bc BK171 2
        have hcz77_3 : w67.cell? ⟨gb171, 3, none⟩ = some (.int .i64 a1_3) := bc BK171 3
        have hfz77_0 := blk_frozen BK171.out 0
        have hfz77_1 := blk_frozen BK171.out 1
        have hfz77_2 := blk_frozen BK171.out 2
        have hfz77_3 := blk_frozen BK171.out 3
        try go_wp2_with (first | ((with_reducible refine gate_callee (f := 47) rfl ?_); refine goesL_ (some 28) rfl rfl Try.func47 (by kernel_rfl) rfl #[.agg #[.int .i64 a1_0, .int .i64 a1_1, .int .i64 a1_2, .int .i64 a1_3]] rfl upL ?_; (with_reducible refine (rect_Empty.calls a1_0 a1_1 a1_2 a1_3 false _ A35.out).mono ?_); rintro e w78 ⟨rfl, hb⟩; refine ⟨_, rfl, ?_⟩; replace HO179 := AS (Kd.R_below (by (with_reducible repeat (first | apply Kd.R_alloc | apply Kd.R_drewN | apply Kd.R_drew)); exact (Kd.R_mono (Kd.R_far (Kd.R_far (Kd.R_far (Kd.R_far (Kd.R_far (Kd.R_types HO179.out BK180.out (by decide)) (fun _ hk => hk.2) _) (fun _ hk => hk.2) _) (fun _ hk => hk.2) _) (fun _ hk => hk.2) _) (fun _ hk => hk.2) _) (fun _ h_ => h_.1))) hb); replace BK170 := AS (blk_below (g := gb170) (o := .cells #[.int .i64 a0_0, .int .i64 a0_1, .int .i64 a0_2, .int .i64 a0_3, .slice A0_4 l0_4.length c0_4] 26) (by (with_reducible repeat (first | refine blk_far ?_ NB170_180.out _ | refine blk_drewN ?_ _ | refine blk_drew ?_ | refine blk_alloc ?_ _)); exact BK170.out) hb); replace BK171 := AS (blk_below (g := gb171) (o := .cells #[.int .i64 a1_0, .int .i64 a1_1, .int .i64 a1_2, .int .i64 a1_3] 23) (by (with_reducible repeat (first | refine blk_far ?_ NB171_180.out _ | refine blk_drewN ?_ _ | refine blk_drew ?_ | refine blk_alloc ?_ _)); exact BK171.out) hb); replace BK172 := AS (blk_below (g := gb172) (o := .cells #[.int .i64 0, .int .i64 0, .int .i64 0, .int .i64 0, .slice none 0 0] 26) (by (with_reducible repeat (first | refine blk_far ?_ NB172_180.out _ | refine blk_drewN ?_ _ | refine blk_drew ?_ | refine blk_alloc ?_ _)); exact BK172.out) hb); replace BK180 := AS (blk_below (g := gb180) (o := .cells #[.int .i64 a1_0, .int .i64 a1_1, .int .i64 a1_2, .int .i64 a1_3, .slice Ao68 y177.length co68] 26) (by (with_reducible repeat (first | refine blk_drewN ?_ _ | refine blk_drew ?_ | refine blk_alloc ?_ _)); refine blk_put (cs := #[.int .i64 a1_0, .int .i64 a1_1, .int .i64 a1_2, .int .i64 a1_3, .slice none 0 0]) ?_ 4 _ rfl; (with_reducible repeat (first | refine blk_drewN ?_ _ | refine blk_drew ?_ | refine blk_alloc ?_ _)); refine blk_put (cs := #[.int .i64 a1_0, .int .i64 a1_1, .int .i64 a1_2, .int .i64 0, .slice none 0 0]) ?_ 3 _ rfl; (with_reducible repeat (first | refine blk_drewN ?_ _ | refine blk_drew ?_ | refine blk_alloc ?_ _)); refine blk_put (cs := #[.int .i64 a1_0, .int .i64 a1_1, .int .i64 0, .int .i64 0, .slice none 0 0]) ?_ 2 _ rfl; (with_reducible repeat (first | refine blk_drewN ?_ _ | refine blk_drew ?_ | refine blk_alloc ?_ _)); refine blk_put (cs := #[.int .i64 a1_0, .int .i64 0, .int .i64 0, .int .i64 0, .slice none 0 0]) ?_ 1 _ rfl; (with_reducible repeat (first | refine blk_drewN ?_ _ | refine blk_drew ?_ | refine blk_alloc ?_ _)); refine blk_put (cs := #[.int .i64 0, .int .i64 0, .int .i64 0, .int .i64 0, .slice none 0 0]) ?_ 0 _ rfl; (with_reducible repeat (first | refine blk_drewN ?_ _ | refine blk_drew ?_ | refine blk_alloc ?_ _)); exact BK180.out) hb); replace HB := AS (below_step (upB HB.out) hb); (try clear hb; try clear hb2; try clear hk; try clear hi); have hnb79 := NB180_170.out; have hnc79 := NB170_180.out; have hnb80 := NB180_172.out; have hnc80 := NB172_180.out; have hcz81_0 : w78.cell? ⟨gb180, 0, none⟩ = some (.int .i64 a1_0) := bc BK180 0; have hcz81_1 : w78.cell? ⟨gb180, 1, none⟩ = some (.int .i64 a1_1) := bc BK180 1; have hcz81_2 : w78.cell? ⟨gb180, 2, none⟩ = some (.int .i64 a1_2) := bc BK180 2; have hcz81_3 : w78.cell? ⟨gb180, 3, none⟩ = some (.int .i64 a1_3) := bc BK180 3; have hcz81_4 : w78.cell? ⟨gb180, 4, none⟩ = some (.slice Ao68 y177.length co68) := bc BK180 4; have hfz81_0 := blk_frozen BK180.out 0; have hfz81_1 := blk_frozen BK180.out 1; have hfz81_2 := blk_frozen BK180.out 2; have hfz81_3 := blk_frozen BK180.out 3; have hfz81_4 := blk_frozen BK180.out 4; have hnb82 := NB170_172.out; have hnc82 := NB172_170.out; have hcz83_0 : w78.cell? ⟨gb170, 0, none⟩ = some (.int .i64 a0_0) := bc BK170 0; have hcz83_1 : w78.cell? ⟨gb170, 1, none⟩ = some (.int .i64 a0_1) := bc BK170 1; have hcz83_2 : w78.cell? ⟨gb170, 2, none⟩ = some (.int .i64 a0_2) := bc BK170 2; have hcz83_3 : w78.cell? ⟨gb170, 3, none⟩ = some (.int .i64 a0_3) := bc BK170 3; have hcz83_4 : w78.cell? ⟨gb170, 4, none⟩ = some (.slice A0_4 l0_4.length c0_4) := bc BK170 4; have hfz83_0 := blk_frozen BK170.out 0; have hfz83_1 := blk_frozen BK170.out 1; have hfz83_2 := blk_frozen BK170.out 2; have hfz83_3 := blk_frozen BK170.out 3; have hfz83_4 := blk_frozen BK170.out 4; have hcz84_0 : w78.cell? ⟨gb171, 0, none⟩ = some (.int .i64 a1_0) := bc BK171 0; have hcz84_1 : w78.cell? ⟨gb171, 1, none⟩ = some (.int .i64 a1_1) := bc BK171 1; have hcz84_2 : w78.cell? ⟨gb171, 2, none⟩ = some (.int .i64 a1_2) := bc BK171 2; have hcz84_3 : w78.cell? ⟨gb171, 3, none⟩ = some (.int .i64 a1_3) := bc BK171 3; have hfz84_0 := blk_frozen BK171.out 0; have hfz84_1 := blk_frozen BK171.out 1; have hfz84_2 := blk_frozen BK171.out 2; have hfz84_3 := blk_frozen BK171.out 3) | ((with_reducible refine gate_callee (f := 48) rfl ?_); refine goesL_ (some 33) rfl rfl Try.func48 (by kernel_rfl) rfl #[.agg #[.int .i64 a1_0, .int .i64 a1_1, .int .i64 a1_2, .int .i64 a1_3, .slice Ao68 y177.length co68], .agg #[.int .i64 a0_0, .int .i64 a0_1, .int .i64 a0_2, .int .i64 a0_3, .slice A0_4 l0_4.length c0_4], .agg #[.int .i64 a1_0, .int .i64 a1_1, .int .i64 a1_2, .int .i64 a1_3]] rfl upL ?_; (with_reducible refine (plane_part.calls kj4 a1_0 a1_1 a1_2 a1_3 (fun k_ => some k_ = (.slice Ao68 y177.length co68 : Value).ownBlock) (.slice Ao68 y177.length co68) y177 a0_0 a0_1 a0_2 a0_3 _ _ l0_4 a1_0 a1_1 a1_2 a1_3 t182 w _ ?side1 ?side2 ?side3 ?side4 A60.out).mono ?_); (case side1 => repeat (first | (with_reducible first | exact HB.out | apply below_alloc | apply pw_below_drewN | apply below_drew1 | refine below_set ?_ GE170.out | refine below_set ?_ GE171.out | refine below_set ?_ GE172.out | refine below_set ?_ GE180.out) | exact HB.out)); (case side2 => exact Kd.R_tight rfl HO179.out); (case side3 => exact Kd.C_kept_came (Kd.heap_int .i64) HR0_4.out (upB HB.out) (fun k_ hs_ => (fun e_ => Kd.R_base HO179.out k_ e_.symm) hs_)); (case side4 => exact HC0_4.out); rintro e w85 ⟨rfl, hy0, hb, hkp⟩; refine ⟨_, rfl, ?_⟩; replace BK170 := AS (blk_kept (upK BK170.out) hkp (fun hs_ => (fun e_ => (Kd.R_ne HO179.out BK170.out (by decide)) e_) hs_)); replace BK171 := AS (blk_kept (upK BK171.out) hkp (fun hs_ => (fun e_ => (Kd.R_ne HO179.out BK171.out (by decide)) e_) hs_)); replace BK172 := AS (blk_kept (upK BK172.out) hkp (fun hs_ => (fun e_ => (Kd.R_ne HO179.out BK172.out (by decide)) e_) hs_)); replace BK180 := AS (blk_kept (upK BK180.out) hkp (fun hs_ => (fun e_ => (Kd.R_ne HO179.out BK180.out (by decide)) e_) hs_)); replace HO179 := AS (Kd.R_reok rfl hy0 (fun k_ e_ => HO179.out.1 k_ e_)); replace HB := AS (hb); (try clear hb; try clear hkp; try clear hy0); have hcz86_0 : w85.cell? ⟨gb180, 0, none⟩ = some (.int .i64 a1_0) := bc BK180 0; have hcz86_1 : w85.cell? ⟨gb180, 1, none⟩ = some (.int .i64 a1_1) := bc BK180 1; have hcz86_2 : w85.cell? ⟨gb180, 2, none⟩ = some (.int .i64 a1_2) := bc BK180 2; have hcz86_3 : w85.cell? ⟨gb180, 3, none⟩ = some (.int .i64 a1_3) := bc BK180 3; have hcz86_4 : w85.cell? ⟨gb180, 4, none⟩ = some (.slice Ao68 y177.length co68) := bc BK180 4; have hfz86_0 := blk_frozen BK180.out 0; have hfz86_1 := blk_frozen BK180.out 1; have hfz86_2 := blk_frozen BK180.out 2; have hfz86_3 := blk_frozen BK180.out 3; have hfz86_4 := blk_frozen BK180.out 4; have hcz87_0 : w85.cell? ⟨gb172, 0, none⟩ = some (.int .i64 0) := bc BK172 0; have hcz87_1 : w85.cell? ⟨gb172, 1, none⟩ = some (.int .i64 0) := bc BK172 1; have hcz87_2 : w85.cell? ⟨gb172, 2, none⟩ = some (.int .i64 0) := bc BK172 2; have hcz87_3 : w85.cell? ⟨gb172, 3, none⟩ = some (.int .i64 0) := bc BK172 3; have hcz87_4 : w85.cell? ⟨gb172, 4, none⟩ = some (.slice none 0 0) := bc BK172 4; have hfz87_0 := blk_frozen BK172.out 0; have hfz87_1 := blk_frozen BK172.out 1; have hfz87_2 := blk_frozen BK172.out 2; have hfz87_3 := blk_frozen BK172.out 3; have hfz87_4 := blk_frozen BK172.out 4))
        refine bodyPost_ret (results_ct rfl _ _ gb172 26 #[.int .i64 a1_0, .int .i64 a1_1, .int .i64 a1_2, .int .i64 a1_3, .slice Ao68 y177.length co68] (0, 0) _ rfl (by (with_reducible repeat (first | refine blk_drewN ?_ _ | refine blk_drew ?_ | refine blk_alloc ?_ _)); refine blk_put (cs := #[.int .i64 a1_0, .int .i64 a1_1, .int .i64 a1_2, .int .i64 a1_3, .slice none 0 0]) ?_ 4 _ rfl; (with_reducible repeat (first | refine blk_drewN ?_ _ | refine blk_drew ?_ | refine blk_alloc ?_ _)); refine blk_put (cs := #[.int .i64 a1_0, .int .i64 a1_1, .int .i64 a1_2, .int .i64 0, .slice none 0 0]) ?_ 3 _ rfl; (with_reducible repeat (first | refine blk_drewN ?_ _ | refine blk_drew ?_ | refine blk_alloc ?_ _)); refine blk_put (cs := #[.int .i64 a1_0, .int .i64 a1_1, .int .i64 0, .int .i64 0, .slice none 0 0]) ?_ 2 _ rfl; (with_reducible repeat (first | refine blk_drewN ?_ _ | refine blk_drew ?_ | refine blk_alloc ?_ _)); refine blk_put (cs := #[.int .i64 a1_0, .int .i64 0, .int .i64 0, .int .i64 0, .slice none 0 0]) ?_ 1 _ rfl; (with_reducible repeat (first | refine blk_drewN ?_ _ | refine blk_drew ?_ | refine blk_alloc ?_ _)); refine blk_put (cs := #[.int .i64 0, .int .i64 0, .int .i64 0, .int .i64 0, .slice none 0 0]) ?_ 0 _ rfl; (with_reducible repeat (first | refine blk_drewN ?_ _ | refine blk_drew ?_ | refine blk_alloc ?_ _)); exact BK172.out) Try.underlying26 rfl (by kernel_rfl)) rfl ?_
        exact ⟨_, by first | rfl | (simp [errW_none, errW_some] <;> rfl) | (simp [*, errW_none, errW_some] <;> rfl), by (with_reducible repeat (first | apply Kd.R_alloc | apply Kd.R_drewN | apply Kd.R_drew)); exact Kd.R_mono (Kd.R_far (Kd.R_far (Kd.R_far (Kd.R_far (Kd.R_far (Kd.R_types HO179.out BK172.out (by decide)) (fun _ hk => hk.2) _) (fun _ hk => hk.2) _) (fun _ hk => hk.2) _) (fun _ hk => hk.2) _) (fun _ hk => hk.2) _) (fun _ hk => trivial), by repeat (first | (with_reducible first | exact HB.out | apply below_alloc | apply pw_below_drewN | apply below_drew1 | refine below_set ?_ GE170.out | refine below_set ?_ GE171.out | refine below_set ?_ GE172.out | refine below_set ?_ GE180.out) | exact HB.out)⟩
      ·rw [if_neg c34] at H
       exact absurd H (by simp)
     ·rw [if_neg c33] at H
      exact absurd H (by simp)
 ·replace c4 := Bool.eq_false_iff.mpr c4
  subst c4
  have H1 : (some (0, 0, 0, 0, ([] : List Int), 1)) = some (r1, r2, r3, r4, r5, r6) := by rw [if_neg (show ¬ (false = true) by decide)] at H; exact H
  clear H
  have H := H1
  clear H1
  simp only [Option.some.injEq, Prod.mk.injEq] at H
  obtain ⟨rfl, rfl, rfl, rfl, rfl, rfl⟩ := H
  go_enter Try.func27, Try.ntmps27
  go_wp2_with (first | ((with_reducible refine gate_dst (N := 2) rfl ?_); refine box_event ?hg (N := 2) ?hd (cs := #[.int .i64 a0_0, .int .i64 a0_1, .int .i64 a0_2, .int .i64 a0_3, .slice A0_4 l0_4.length c0_4]) (t := 26) ?hr ?_; (case hd => rfl); (case hg => rfl); (case hr => first | (go_simp; done) | (go_simp; rfl)); intro gb170 hg w88 hbox hb; have BK170 := AS (hbox); have GW170 := AS ((by rw [hg]; exact (below_size (upB HB.out)) : w.heap.size ≤ gb170)); have GE170 := AS ((by rw [hg]; exact (below_size (upB HB.out)) : w.heap.size ≤ gb170)); replace HB := AS (below_step (upB HB.out) hb); clear hb hbox hg) | ((with_reducible refine gate_dst (N := 3) rfl ?_); refine box_event ?hg (N := 3) ?hd (cs := #[.int .i64 a1_0, .int .i64 a1_1, .int .i64 a1_2, .int .i64 a1_3]) (t := 23) ?hr ?_; (case hd => rfl); (case hg => rfl); (case hr => first | (go_simp; done) | (go_simp; rfl)); intro gb171 hg w89 hbox hb; have BK171 := AS (hbox); have GW171 := AS ((by rw [hg]; exact (below_size (upB HB.out)) : w.heap.size ≤ gb171)); have GE171 := AS ((by rw [hg]; exact (below_size (upB HB.out)) : w.heap.size ≤ gb171)); replace HB := AS (below_step (upB HB.out) hb); have NB170_171 := AS ((by rw [hg]; exact Nat.ne_of_lt (blk_lt (upK BK170.out)) : gb170 ≠ gb171)); have NB171_170 := AS ((by rw [hg]; exact Nat.ne_of_gt (blk_lt (upK BK170.out)) : gb171 ≠ gb170)); replace BK170 := AS (blk_below (upK BK170.out) hb); clear hb hbox hg) | ((with_reducible refine gate_dst (N := 4) rfl ?_); refine box_event ?hg (N := 4) ?hd (cs := #[.int .i64 0, .int .i64 0, .int .i64 0, .int .i64 0, .slice none 0 0]) (t := 26) ?hr ?_; (case hd => rfl); (case hg => rfl); (case hr => first | (go_simp; done) | (go_simp; rfl)); intro gb172 hg w90 hbox hb; have BK172 := AS (hbox); have GW172 := AS ((by rw [hg]; exact (below_size (upB HB.out)) : w.heap.size ≤ gb172)); have GE172 := AS ((by rw [hg]; exact (below_size (upB HB.out)) : w.heap.size ≤ gb172)); replace HB := AS (below_step (upB HB.out) hb); have NB170_172 := AS ((by rw [hg]; exact Nat.ne_of_lt (blk_lt (upK BK170.out)) : gb170 ≠ gb172)); have NB172_170 := AS ((by rw [hg]; exact Nat.ne_of_gt (blk_lt (upK BK170.out)) : gb172 ≠ gb170)); replace BK170 := AS (blk_below (upK BK170.out) hb); have NB171_172 := AS ((by rw [hg]; exact Nat.ne_of_lt (blk_lt (upK BK171.out)) : gb171 ≠ gb172)); have NB172_171 := AS ((by rw [hg]; exact Nat.ne_of_gt (blk_lt (upK BK171.out)) : gb172 ≠ gb171)); replace BK171 := AS (blk_below (upK BK171.out) hb); clear hb hbox hg; have hnb91 := NB170_171.out; have hnc91 := NB171_170.out; have hnb92 := NB170_172.out; have hnc92 := NB172_170.out; have hcz93_0 : w90.cell? ⟨gb170, 0, none⟩ = some (.int .i64 a0_0) := bc BK170 0; have hcz93_1 : w90.cell? ⟨gb170, 1, none⟩ = some (.int .i64 a0_1) := bc BK170 1; have hcz93_2 : w90.cell? ⟨gb170, 2, none⟩ = some (.int .i64 a0_2) := bc BK170 2; have hcz93_3 : w90.cell? ⟨gb170, 3, none⟩ = some (.int .i64 a0_3) := bc BK170 3; have hcz93_4 : w90.cell? ⟨gb170, 4, none⟩ = some (.slice A0_4 l0_4.length c0_4) := bc BK170 4; have hfz93_0 := blk_frozen BK170.out 0; have hfz93_1 := blk_frozen BK170.out 1; have hfz93_2 := blk_frozen BK170.out 2; have hfz93_3 := blk_frozen BK170.out 3; have hfz93_4 := blk_frozen BK170.out 4) | ((with_reducible refine gate_callee (f := 20) rfl ?_); refine goesL_ (some 8) rfl rfl Try.func20 (by kernel_rfl) rfl #[.agg #[.int .i64 a0_0, .int .i64 a0_1, .int .i64 a0_2, .int .i64 a0_3, .slice A0_4 l0_4.length c0_4]] rfl upL ?_; (with_reducible refine (plane_Valid.calls a0_0 a0_1 a0_2 a0_3 _ _ l0_4 false _ ?side1 ?side2 A3.out).mono ?_); (case side1 => repeat (first | exact (Kd.C_below HR0_4.out HB.out) | (with_reducible refine Kd.C_alloc ?_ _) | (with_reducible refine Kd.C_drewN ?_ _) | (with_reducible refine Kd.C_drew ?_))); (case side2 => exact HC0_4.out); rintro e w94 ⟨rfl, hb⟩; refine ⟨_, rfl, ?_⟩; replace BK170 := AS (blk_below (upK BK170.out) hb); replace BK171 := AS (blk_below (upK BK171.out) hb); replace BK172 := AS (blk_below (upK BK172.out) hb); replace HB := AS (below_step (upB HB.out) hb); (try clear hb; try clear hb2; try clear hk; try clear hi); have hnb95 := NB172_171.out; have hnc95 := NB171_172.out; have hcz96_0 : w94.cell? ⟨gb172, 0, none⟩ = some (.int .i64 0) := bc BK172 0; have hcz96_1 : w94.cell? ⟨gb172, 1, none⟩ = some (.int .i64 0) := bc BK172 1; have hcz96_2 : w94.cell? ⟨gb172, 2, none⟩ = some (.int .i64 0) := bc BK172 2; have hcz96_3 : w94.cell? ⟨gb172, 3, none⟩ = some (.int .i64 0) := bc BK172 3; have hcz96_4 : w94.cell? ⟨gb172, 4, none⟩ = some (.slice none 0 0) := bc BK172 4; have hfz96_0 := blk_frozen BK172.out 0; have hfz96_1 := blk_frozen BK172.out 1; have hfz96_2 := blk_frozen BK172.out 2; have hfz96_3 := blk_frozen BK172.out 3; have hfz96_4 := blk_frozen BK172.out 4))
  refine bodyPost_ret (results_ct rfl _ _ gb172 26 #[.int .i64 0, .int .i64 0, .int .i64 0, .int .i64 0, .slice none 0 0] (0, 0) _ rfl (by (with_reducible repeat (first | refine blk_drewN ?_ _ | refine blk_drew ?_ | refine blk_alloc ?_ _)); refine blk_put (cs := #[.int .i64 0, .int .i64 0, .int .i64 0, .int .i64 0, .slice none 0 0]) ?_ 4 _ rfl; (with_reducible repeat (first | refine blk_drewN ?_ _ | refine blk_drew ?_ | refine blk_alloc ?_ _)); refine blk_put (cs := #[.int .i64 0, .int .i64 0, .int .i64 0, .int .i64 0, .slice none 0 0]) ?_ 3 _ rfl; (with_reducible repeat (first | refine blk_drewN ?_ _ | refine blk_drew ?_ | refine blk_alloc ?_ _)); refine blk_put (cs := #[.int .i64 0, .int .i64 0, .int .i64 0, .int .i64 0, .slice none 0 0]) ?_ 2 _ rfl; (with_reducible repeat (first | refine blk_drewN ?_ _ | refine blk_drew ?_ | refine blk_alloc ?_ _)); refine blk_put (cs := #[.int .i64 0, .int .i64 0, .int .i64 0, .int .i64 0, .slice none 0 0]) ?_ 1 _ rfl; (with_reducible repeat (first | refine blk_drewN ?_ _ | refine blk_drew ?_ | refine blk_alloc ?_ _)); refine blk_put (cs := #[.int .i64 0, .int .i64 0, .int .i64 0, .int .i64 0, .slice none 0 0]) ?_ 0 _ rfl; (with_reducible repeat (first | refine blk_drewN ?_ _ | refine blk_drew ?_ | refine blk_alloc ?_ _)); exact BK172.out) Try.underlying26 rfl (by kernel_rfl)) rfl ?_
  exact ⟨_, by first | rfl | (simp [errW_none, errW_some] <;> rfl) | (simp [*, errW_none, errW_some] <;> rfl), by first | exact Kd.R_nil _ _ _ _ _ | exact Kd.N_nil _ _ _ _ _ | exact Kd.V_nil _ _ _ _ _ | exact Kd.Q_nil _ _ _ _ _ | exact Kd.S_nil _ _ _ _ _, by repeat (first | (with_reducible first | exact HB.out | apply below_alloc | apply pw_below_drewN | apply below_drew1 | refine below_set ?_ GE170.out | refine below_set ?_ GE171.out | refine below_set ?_ GE172.out) | exact HB.out)⟩

end Go.Proofs.Ythemchggmlpdhaa.Q
