-- By a program of this session (wip/tools/mk.py), out of the kit's print of the translation; Lean checks it.
import Derived.Test.YtfihdlekeainpaaUp2
import Derived.Test.YtfihdlekeainpaaUp
import Derived.Test.YtfihdlekeainpaaShort
import Derived.Test.YtfihdlekeainpaaQ0
import Derived.Test.YtfihdlekeainpaaQ1
import Derived.Test.YtfihdlekeainpaaQ5
import Derived.Test.YtfihdlekeainpaaQ6
namespace Go.Proofs.Ytfihdlekeainpaa.Q
open Go.RowKit Go.Proofs.YtfihdlekeainpaaW.PrintWords Go.Proofs.YtfihdlekeainpaaW.PrintLast Go.Proofs.YtfihdlekeainpaaW.PrintMore
attribute [local go_sem] max2_int min2_int max_two min_two max_three min_three max_four min_four   -- for this text's walks alone
set_option linter.unusedVariables false
set_option linter.unusedSimpArgs false

attribute [local go_sem high] eqA23
/-! ### metrics_check: function 27 -/
mutual
def metrics_check.j0 : Nat → Int → Bool → Int → Int → Int → Int → Int → Int → List (S51) → List (S42) → Int → Int → Int → Int → Int → Int → List (S51) → List (S42) → Option (Int)
 | 0, _, _, _, _, _, _, _, _, _, _, _, _, _, _, _, _, _, _ => none
 | k + 1, x5, x22, x115000, x115001, x115002, x115003, x115004, x115005, x115006, x115007, x116000, x116001, x116002, x116003, x116004, x116005, x116006, x116007 => if x22 = true then (some 4) else (metrics_check.l0 k x5 0 x115000 x115001 x115002 x115003 x115004 x115005 x115006 x115007 x116000 x116001 x116002 x116003 x116004 x116005 x116006 x116007)
def metrics_check.l0 : Nat → Int → Int → Int → Int → Int → Int → Int → Int → List (S51) → List (S42) → Int → Int → Int → Int → Int → Int → List (S51) → List (S42) → Option (Int)
 | 0, _, _, _, _, _, _, _, _, _, _, _, _, _, _, _, _, _, _ => none
 | k + 1, x23, x24, x115000, x115001, x115002, x115003, x115004, x115005, x115006, x115007, x116000, x116001, x116002, x116003, x116004, x116005, x116006, x116007 => if x24 < x23 then (if 0 ≤ x24 then (if x24 < (x115007.length : Int) then ((plane_Valid.f ((rd_T42 x115007 x24).f0.f0) ((rd_T42 x115007 x24).f0.f1) ((rd_T42 x115007 x24).f0.f2) ((rd_T42 x115007 x24).f0.f3) ((rd_T42 x115007 x24).f1)).bind fun t117 => (if t117 = true then (if x24 < (x116007.length : Int) then ((plane_Valid.f ((rd_T42 x116007 x24).f0.f0) ((rd_T42 x116007 x24).f0.f1) ((rd_T42 x116007 x24).f0.f2) ((rd_T42 x116007 x24).f0.f3) ((rd_T42 x116007 x24).f1)).bind fun t119 => (if t119 = true then (if (!(((rd_T42 x115007 x24).f0.f0) == ((rd_T42 x116007 x24).f0.f0)) || (!(((rd_T42 x115007 x24).f0.f1) == ((rd_T42 x116007 x24).f0.f1)) || (!(((rd_T42 x115007 x24).f0.f2) == ((rd_T42 x116007 x24).f0.f2)) || (!(((rd_T42 x115007 x24).f0.f3) == ((rd_T42 x116007 x24).f0.f3)))))) = true then (some 1) else (metrics_check.l0 k x23 (wrap64 (x24 + 1)) x115000 x115001 x115002 x115003 x115004 x115005 x115006 x115007 x116000 x116001 x116002 x116003 x116004 x116005 x116006 x116007)) else (some 1))) else (none)) else (some 1))) else (none)) else (none)) else ((metrics_within.f k x115000 x115001 x115002 x115003 x115004 x115005 x115006 x115007).bind fun t122 => (if t122 = true then ((metrics_within.f k x116000 x116001 x116002 x116003 x116004 x116005 x116006 x116007).bind fun t123 => (if t123 = true then (some 0) else (some 2))) else (some 2)))
end
def metrics_check.f (k : Nat) (a0_0 : Int) (a0_1 : Int) (a0_2 : Int) (a0_3 : Int) (a0_4 : Int) (a0_5 : Int) (l0_6 : List (S51)) (l0_7 : List (S42)) (a1_0 : Int) (a1_1 : Int) (a1_2 : Int) (a1_3 : Int) (a1_4 : Int) (a1_5 : Int) (l1_6 : List (S51)) (l1_7 : List (S42)) : Option (Int) := if (l0_7.length : Int) = (l1_7.length : Int) then (if (l0_7.length : Int) < 1 then (metrics_check.j0 k (l0_7.length : Int) true a0_0 a0_1 a0_2 a0_3 a0_4 a0_5 l0_6 l0_7 a1_0 a1_1 a1_2 a1_3 a1_4 a1_5 l1_6 l1_7) else (metrics_check.j0 k (l0_7.length : Int) (decide ((l0_7.length : Int) > 4)) a0_0 a0_1 a0_2 a0_3 a0_4 a0_5 l0_6 l0_7 a1_0 a1_1 a1_2 a1_3 a1_4 a1_5 l1_6 l1_7)) else (metrics_check.j0 k (l0_7.length : Int) true a0_0 a0_1 a0_2 a0_3 a0_4 a0_5 l0_6 l0_7 a1_0 a1_1 a1_2 a1_3 a1_4 a1_5 l1_6 l1_7)
theorem metrics_check.mono_l : ∀ k, (∀ y0 y1 y2 y3 y4 y5 y6 y7 y8 y9 y10 y11 y12 y13 y14 y15 y16 y17, LeO (metrics_check.j0 k y0 y1 y2 y3 y4 y5 y6 y7 y8 y9 y10 y11 y12 y13 y14 y15 y16 y17) (metrics_check.j0 (k + 1) y0 y1 y2 y3 y4 y5 y6 y7 y8 y9 y10 y11 y12 y13 y14 y15 y16 y17)) ∧ (∀ y0 y1 y2 y3 y4 y5 y6 y7 y8 y9 y10 y11 y12 y13 y14 y15 y16 y17, LeO (metrics_check.l0 k y0 y1 y2 y3 y4 y5 y6 y7 y8 y9 y10 y11 y12 y13 y14 y15 y16 y17) (metrics_check.l0 (k + 1) y0 y1 y2 y3 y4 y5 y6 y7 y8 y9 y10 y11 y12 y13 y14 y15 y16 y17))
 | 0 => ⟨fun _ _ _ _ _ _ _ _ _ _ _ _ _ _ _ _ _ _ r h => by simp [metrics_check.j0] at h, fun _ _ _ _ _ _ _ _ _ _ _ _ _ _ _ _ _ _ r h => by simp [metrics_check.l0] at h⟩
 | k + 1 => by
  obtain ⟨ih0, ih1⟩ := metrics_check.mono_l k
  refine ⟨?_, ?_⟩
  ·intro y0 y1 y2 y3 y4 y5 y6 y7 y8 y9 y10 y11 y12 y13 y14 y15 y16 y17
   unfold metrics_check.j0
   repeat' first
   | (with_reducible exact ih0 _ _ _ _ _ _ _ _ _ _ _ _ _ _ _ _ _ _)
   | (with_reducible exact ih1 _ _ _ _ _ _ _ _ _ _ _ _ _ _ _ _ _ _)
   | (with_reducible exact metrics_within.mono _ _ _ _ _ _ _ _ _)
   | (with_reducible exact LeO.refl _)
   | (with_reducible exact LeO.none _)
   | (with_reducible refine LeO.ite ?_ ?_)
   | (with_reducible refine LeO.bind ?_ (fun _ => ?_))
   | exact ih0 _ _ _ _ _ _ _ _ _ _ _ _ _ _ _ _ _ _
   | exact ih1 _ _ _ _ _ _ _ _ _ _ _ _ _ _ _ _ _ _
   | exact metrics_within.mono _ _ _ _ _ _ _ _ _
   | exact LeO.none _
   | refine LeO.ite ?_ ?_
   | refine LeO.bind ?_ (fun _ => ?_)
  ·intro y0 y1 y2 y3 y4 y5 y6 y7 y8 y9 y10 y11 y12 y13 y14 y15 y16 y17
   unfold metrics_check.l0
   repeat' first
   | (with_reducible exact ih0 _ _ _ _ _ _ _ _ _ _ _ _ _ _ _ _ _ _)
   | (with_reducible exact ih1 _ _ _ _ _ _ _ _ _ _ _ _ _ _ _ _ _ _)
   | (with_reducible exact metrics_within.mono _ _ _ _ _ _ _ _ _)
   | (with_reducible exact LeO.refl _)
   | (with_reducible exact LeO.none _)
   | (with_reducible refine LeO.ite ?_ ?_)
   | (with_reducible refine LeO.bind ?_ (fun _ => ?_))
   | exact ih0 _ _ _ _ _ _ _ _ _ _ _ _ _ _ _ _ _ _
   | exact ih1 _ _ _ _ _ _ _ _ _ _ _ _ _ _ _ _ _ _
   | exact metrics_within.mono _ _ _ _ _ _ _ _ _
   | exact LeO.none _
   | refine LeO.ite ?_ ?_
   | refine LeO.bind ?_ (fun _ => ?_)
theorem metrics_check.mono : ∀ a0 a1 a2 a3 a4 a5 a6 a7 a8 a9 a10 a11 a12 a13 a14 a15 k, LeO (metrics_check.f k a0 a1 a2 a3 a4 a5 a6 a7 a8 a9 a10 a11 a12 a13 a14 a15) (metrics_check.f (k + 1) a0 a1 a2 a3 a4 a5 a6 a7 a8 a9 a10 a11 a12 a13 a14 a15) := by
 intro a0 a1 a2 a3 a4 a5 a6 a7 a8 a9 a10 a11 a12 a13 a14 a15 k
 obtain ⟨ih0, ih1⟩ := metrics_check.mono_l k
 unfold metrics_check.f
 repeat' first
   | (with_reducible exact ih0 _ _ _ _ _ _ _ _ _ _ _ _ _ _ _ _ _ _)
   | (with_reducible exact ih1 _ _ _ _ _ _ _ _ _ _ _ _ _ _ _ _ _ _)
   | (with_reducible exact metrics_within.mono _ _ _ _ _ _ _ _ _)
   | (with_reducible exact LeO.refl _)
   | (with_reducible exact LeO.none _)
   | (with_reducible refine LeO.ite ?_ ?_)
   | (with_reducible refine LeO.bind ?_ (fun _ => ?_))
   | exact ih0 _ _ _ _ _ _ _ _ _ _ _ _ _ _ _ _ _ _
   | exact ih1 _ _ _ _ _ _ _ _ _ _ _ _ _ _ _ _ _ _
   | exact metrics_within.mono _ _ _ _ _ _ _ _ _
   | exact LeO.none _
   | refine LeO.ite ?_ ?_
   | refine LeO.bind ?_ (fun _ => ?_)
def metrics_check.T7 : Bool × List (List Nat × List Nat) := (true, [([], []), ([0], [0]), ([], []), ([1, 2], [1, 2]), ([3], [3]), ([4], [4]), ([5], [5]), ([6, 5], [6]), ([7], [7]), ([8, 7], [7, 8]), ([7], [7]), ([9, 10, 7], [7, 9, 10]), ([11, 7], [7, 11]), ([12, 7, 7], [7, 12]), ([13, 7], [7, 13]), ([7, 14], [7, 14]), ([15, 13], [15]), ([16], [16]), ([17, 16], [16, 17]), ([16], [16]), ([18, 19, 16], [16, 18, 19]), ([20, 16], [16, 20]), ([21, 16], [16, 21]), ([16], [16]), ([23, 16], [16, 23]), ([16], [16]), ([24, 25, 16], [16, 24, 25]), ([26, 16], [16, 26]), ([27, 16], [16, 27]), ([22, 28, 16], [16, 22, 28]), ([16, 29], [16, 29])])
def metrics_check.B7 : List Nat := [0, 1, 0, 7, 15, 31, 63, 127, 255, 511, 255, 2047, 4095, 8191, 16383, 32767, 65535, 131071, 262143, 131071, 1048575, 2097151, 4194303, 131071, 8519679, 131071, 58851327, 125960191, 260177919, 536870911, 1073741823]
theorem metrics_check.tab7 : rtab .any (opsOf Try.f27 7) = metrics_check.T7 := by kernel_rfl
theorem metrics_check.bits7 : waitsOk metrics_check.T7.2 metrics_check.B7 = true := by kernel_rfl
set_option maxHeartbeats 8000000 in
set_option maxRecDepth 100000 in
theorem metrics_check.calls (k : Nat) (a0_0 : Int) (a0_1 : Int) (a0_2 : Int) (a0_3 : Int) (a0_4 : Int) (a0_5 : Int) (A0_6 : Option Addr) (c0_6 : Nat) (l0_6 : List (S51)) (A0_7 : Option Addr) (c0_7 : Nat) (l0_7 : List (S42)) (a1_0 : Int) (a1_1 : Int) (a1_2 : Int) (a1_3 : Int) (a1_4 : Int) (a1_5 : Int) (A1_6 : Option Addr) (c1_6 : Nat) (l1_6 : List (S51)) (A1_7 : Option Addr) (c1_7 : Nat) (l1_7 : List (S42)) (r : Int) (w : World) (hr0_6 : Kd.C k51 w A0_6 l0_6.length l0_6) (hc0_6 : l0_6.length ≤ c0_6) (hr0_7 : Kd.C k42 w A0_7 l0_7.length l0_7) (hc0_7 : l0_7.length ≤ c0_7) (hr1_6 : Kd.C k51 w A1_6 l1_6.length l1_6) (hc1_6 : l1_6.length ≤ c1_6) (hr1_7 : Kd.C k42 w A1_7 l1_7.length l1_7) (hc1_7 : l1_7.length ≤ c1_7) (h : metrics_check.f k a0_0 a0_1 a0_2 a0_3 a0_4 a0_5 l0_6 l0_7 a1_0 a1_1 a1_2 a1_3 a1_4 a1_5 l1_6 l1_7 = some r) :
  Calls Try.prog 27 #[.agg #[.int .i64 a0_0, .int .i64 a0_1, .int .i64 a0_2, .int .i64 a0_3, .int .i64 a0_4, .int .i64 a0_5, .slice A0_6 l0_6.length c0_6, .slice A0_7 l0_7.length c0_7], .agg #[.int .i64 a1_0, .int .i64 a1_1, .int .i64 a1_2, .int .i64 a1_3, .int .i64 a1_4, .int .i64 a1_5, .slice A1_6 l1_6.length c1_6, .slice A1_7 l1_7.length c1_7]] w fun e w' => e = .returned (.int .i64 r) ∧ Below w.heap.size w w' := by
 have hu29 := Try.underlying29
 have hu42 := Try.underlying42
 have hu23 := Try.underlying23
 have HR0_6 := Aside0.mk hr0_6
 have HC0_6 := Aside0.mk hc0_6
 clear hr0_6 hc0_6
 have HR0_7 := Aside0.mk hr0_7
 have HC0_7 := Aside0.mk hc0_7
 clear hr0_7 hc0_7
 have HR1_6 := Aside0.mk hr1_6
 have HC1_6 := Aside0.mk hc1_6
 clear hr1_6 hc1_6
 have HR1_7 := Aside0.mk hr1_7
 have HC1_7 := Aside0.mk hc1_7
 clear hr1_7 hc1_7
 have HB := Aside0.mk (Below.refl w.heap.size w)
 have H : (if (l0_7.length : Int) = (l1_7.length : Int) then (if (l0_7.length : Int) < 1 then (metrics_check.j0 k (l0_7.length : Int) true a0_0 a0_1 a0_2 a0_3 a0_4 a0_5 l0_6 l0_7 a1_0 a1_1 a1_2 a1_3 a1_4 a1_5 l1_6 l1_7) else (metrics_check.j0 k (l0_7.length : Int) (decide ((l0_7.length : Int) > 4)) a0_0 a0_1 a0_2 a0_3 a0_4 a0_5 l0_6 l0_7 a1_0 a1_1 a1_2 a1_3 a1_4 a1_5 l1_6 l1_7)) else (metrics_check.j0 k (l0_7.length : Int) true a0_0 a0_1 a0_2 a0_3 a0_4 a0_5 l0_6 l0_7 a1_0 a1_1 a1_2 a1_3 a1_4 a1_5 l1_6 l1_7)) = some r := h
 clear h
 have HC3 := Aside0.mk H
 clear H
 go_enter Try.func27, Try.ntmps27
 go_upto_region 2 with (first | ((with_reducible refine gate_dst (N := 2) rfl ?_); refine box_event ?hg (N := 2) ?hd (cs := #[.int .i64 a0_0, .int .i64 a0_1, .int .i64 a0_2, .int .i64 a0_3, .int .i64 a0_4, .int .i64 a0_5, .slice A0_6 l0_6.length c0_6, .slice A0_7 l0_7.length c0_7]) (t := 29) ?hr ?_; (case hd => rfl); (case hg => rfl); (case hr => first | (go_simp; done) | (go_simp; rfl)); intro gb114 hg w4 hbox hb; have BK114 := Aside0.mk (hbox); have GW114 := Aside0.mk ((by rw [hg]; exact (below_size HB.out) : w.heap.size ≤ gb114)); have GE114 := Aside0.mk ((by rw [hg]; exact (below_size HB.out) : w.heap.size ≤ gb114)); replace HB := Aside0.mk (below_step HB.out hb); clear hb hbox hg) | ((with_reducible refine gate_dst (N := 3) rfl ?_); refine box_event ?hg (N := 3) ?hd (cs := #[.int .i64 a1_0, .int .i64 a1_1, .int .i64 a1_2, .int .i64 a1_3, .int .i64 a1_4, .int .i64 a1_5, .slice A1_6 l1_6.length c1_6, .slice A1_7 l1_7.length c1_7]) (t := 29) ?hr ?_; (case hd => rfl); (case hg => rfl); (case hr => first | (go_simp; done) | (go_simp; rfl)); intro gb115 hg w5 hbox hb; have BK115 := Aside0.mk (hbox); have GW115 := Aside0.mk ((by rw [hg]; exact (below_size HB.out) : w.heap.size ≤ gb115)); have GE115 := Aside0.mk ((by rw [hg]; exact (below_size HB.out) : w.heap.size ≤ gb115)); replace HB := Aside0.mk (below_step HB.out hb); have NB114_115 := Aside0.mk ((by rw [hg]; exact Nat.ne_of_lt (blk_lt (g := gb114) (o := .cells #[.int .i64 a0_0, .int .i64 a0_1, .int .i64 a0_2, .int .i64 a0_3, .int .i64 a0_4, .int .i64 a0_5, .slice A0_6 l0_6.length c0_6, .slice A0_7 l0_7.length c0_7] 29 (0, 0)) BK114.out) : gb114 ≠ gb115)); have NB115_114 := Aside0.mk ((by rw [hg]; exact Nat.ne_of_gt (blk_lt (g := gb114) (o := .cells #[.int .i64 a0_0, .int .i64 a0_1, .int .i64 a0_2, .int .i64 a0_3, .int .i64 a0_4, .int .i64 a0_5, .slice A0_6 l0_6.length c0_6, .slice A0_7 l0_7.length c0_7] 29 (0, 0)) BK114.out) : gb115 ≠ gb114)); replace BK114 := Aside0.mk (blk_below BK114.out hb); clear hb hbox hg; have hnb6 := NB114_115.out; have hnc6 := NB115_114.out; obtain ⟨hcz7_0, hcz7_1, hcz7_2, hcz7_3, hcz7_4, hcz7_5, hcz7_6, hcz7_7, hfz7_0, hfz7_1, hfz7_2, hfz7_3, hfz7_4, hfz7_5, hfz7_6, hfz7_7⟩ := blk_all8 BK114.out))
 (try simp only [PUT])
 go_cut [22] (fun v22 wc => ∃ (kq : Nat) (x22_2 : Bool), v22 = .bool x22_2 ∧ Aside0 (metrics_check.j0 kq (l0_7.length : Int) x22_2 a0_0 a0_1 a0_2 a0_3 a0_4 a0_5 l0_6 l0_7 a1_0 a1_1 a1_2 a1_3 a1_4 a1_5 l1_6 l1_7 = some r) ∧ Aside0 (kq ≤ k) ∧ Aside0 (wc.heap[gb114]? = some (.cells #[.int .i64 a0_0, .int .i64 a0_1, .int .i64 a0_2, .int .i64 a0_3, .int .i64 a0_4, .int .i64 a0_5, (.slice A0_6 l0_6.length c0_6), (.slice A0_7 l0_7.length c0_7)] 29 (0, 0))) ∧ Aside0 (wc.heap[gb115]? = some (.cells #[.int .i64 a1_0, .int .i64 a1_1, .int .i64 a1_2, .int .i64 a1_3, .int .i64 a1_4, .int .i64 a1_5, (.slice A1_6 l1_6.length c1_6), (.slice A1_7 l1_7.length c1_7)] 29 (0, 0))) ∧ Aside0 (Below w.heap.size w wc))
 case first =>
  have H := HC3.out
  clear HC3
  by_cases c8 : (l0_7.length : Int) = (l1_7.length : Int)
  ·rw [if_pos c8] at H
   have c8b0 : ((l0_7.length : Int) == (l1_7.length : Int)) = true := beq_iff_eq.mpr c8
   have c8b1 : ((l0_7.length : Int) != (l1_7.length : Int)) = false := bne_eq_false_iff_eq.mpr c8
   have c8b2 : (l0_7.length == l1_7.length) = true := by first | simpa using c8 | (simp at c8 ⊢; omega)
   clear c8
   (first | rw [c8b0] | (simp only [i64_w, i32_w]; rw [c8b0]) | skip)
   by_cases c9 : (l0_7.length : Int) < 1
   ·rw [if_pos c9] at H
    have c9b0 : decide ((l0_7.length : Int) < 1) = true := decide_eq_true c9
    have c9b1 : decide (l0_7.length < 1) = true := decide_eq_true (by omega)
    clear c9
    have H' := Aside0.mk H
    clear H
    have hnb10 := NB115_114.out
    have hnc10 := NB114_115.out
    obtain ⟨hcz11_0, hcz11_1, hcz11_2, hcz11_3, hcz11_4, hcz11_5, hcz11_6, hcz11_7, hfz11_0, hfz11_1, hfz11_2, hfz11_3, hfz11_4, hfz11_5, hfz11_6, hfz11_7⟩ := blk_all8 BK115.out
    go_wp2
    go_meet
    case rel => exact ⟨_, (true), (by first | rfl | (simp; done) | (simp [*]; done)), H', ⟨by first | omega | exact Nat.le_refl _⟩, ⟨BK114.out⟩, ⟨BK115.out⟩, ⟨HB.out⟩⟩
   ·rw [if_neg c9] at H
    have c9b0 : decide ((l0_7.length : Int) < 1) = false := decide_eq_false c9
    have c9b1 : decide (l0_7.length < 1) = false := decide_eq_false (by omega)
    clear c9
    have H' := Aside0.mk H
    clear H
    have hnb12 := NB115_114.out
    have hnc12 := NB114_115.out
    obtain ⟨hcz13_0, hcz13_1, hcz13_2, hcz13_3, hcz13_4, hcz13_5, hcz13_6, hcz13_7, hfz13_0, hfz13_1, hfz13_2, hfz13_3, hfz13_4, hfz13_5, hfz13_6, hfz13_7⟩ := blk_all8 BK115.out
    go_wp2
    go_meet
    case rel => exact ⟨_, (decide ((l0_7.length : Int) > 4)), (by first | rfl | (simp; done) | (simp [*]; done)), H', ⟨by first | omega | exact Nat.le_refl _⟩, ⟨BK114.out⟩, ⟨BK115.out⟩, ⟨HB.out⟩⟩
  ·rw [if_neg c8] at H
   have c8b0 : ((l0_7.length : Int) == (l1_7.length : Int)) = false := beq_eq_false_iff_ne.mpr c8
   have c8b1 : ((l0_7.length : Int) != (l1_7.length : Int)) = true := bne_iff_ne.mpr c8
   have c8b2 : (l0_7.length == l1_7.length) = false := by first | simpa using c8 | (simp at c8 ⊢; omega)
   (first | rw [c8b0] | (simp only [i64_w, i32_w]; rw [c8b0]) | skip)
   have H' := Aside0.mk H
   clear H
   have hnb14 := NB115_114.out
   have hnc14 := NB114_115.out
   obtain ⟨hcz15_0, hcz15_1, hcz15_2, hcz15_3, hcz15_4, hcz15_5, hcz15_6, hcz15_7, hfz15_0, hfz15_1, hfz15_2, hfz15_3, hfz15_4, hfz15_5, hfz15_6, hfz15_7⟩ := blk_all8 BK115.out
   go_wp2
   go_meet
   case rel => exact ⟨_, (true), (by first | rfl | (simp; done) | (simp [*]; done)), H', ⟨by first | omega | exact Nat.le_refl _⟩, ⟨BK114.out⟩, ⟨BK115.out⟩, ⟨HB.out⟩⟩
 case rest =>
  clear HC3
  try clear c1; try clear c2; try clear p2; try clear c6; try clear c8; try clear c8b0; try clear c8b1; try clear c8b2; try clear c9; try clear c9b0; try clear c9b1; try clear c10; try clear c12; try clear c14; try clear hcz11_0; try clear hcz11_1; try clear hcz11_2; try clear hcz11_3; try clear hcz11_4; try clear hcz11_5; try clear hcz11_6; try clear hcz11_7; try clear hcz13_0; try clear hcz13_1; try clear hcz13_2; try clear hcz13_3; try clear hcz13_4; try clear hcz13_5; try clear hcz13_6; try clear hcz13_7; try clear hcz15_0; try clear hcz15_1; try clear hcz15_2; try clear hcz15_3; try clear hcz15_4; try clear hcz15_5; try clear hcz15_6; try clear hcz15_7; try clear hcz7_0; try clear hcz7_1; try clear hcz7_2; try clear hcz7_3; try clear hcz7_4; try clear hcz7_5; try clear hcz7_6; try clear hcz7_7; try clear hfz11_0; try clear hfz11_1; try clear hfz11_2; try clear hfz11_3; try clear hfz11_4; try clear hfz11_5; try clear hfz11_6; try clear hfz11_7; try clear hfz13_0; try clear hfz13_1; try clear hfz13_2; try clear hfz13_3; try clear hfz13_4; try clear hfz13_5; try clear hfz13_6; try clear hfz13_7; try clear hfz15_0; try clear hfz15_1; try clear hfz15_2; try clear hfz15_3; try clear hfz15_4; try clear hfz15_5; try clear hfz15_6; try clear hfz15_7; try clear hfz7_0; try clear hfz7_1; try clear hfz7_2; try clear hfz7_3; try clear hfz7_4; try clear hfz7_5; try clear hfz7_6; try clear hfz7_7
  obtain ⟨kq, x22_2, rfl, HA, HJ2, BK114, BK115, HB⟩ := hcut
  cases kq with
  | zero => exact absurd HA.out (by simp [metrics_check.j0])
  | succ kj2 =>
   have H := HA.out
   clear HA
   simp only [metrics_check.j0] at H
   by_cases c16 : x22_2 = true
   ·subst c16
    rw [if_pos rfl] at H
    obtain rfl := Option.some.inj H
    go_wp2
    go_ret
    exact ⟨by first | rfl | (simp [errW_none, errW_some] <;> rfl) | (simp [*, errW_none, errW_some] <;> rfl), HB.out⟩
   ·replace c16 := Bool.eq_false_iff.mpr c16
    subst c16
    rw [if_neg (show ¬ (false = true) by decide)] at H
    have H' := Aside0.mk H
    clear H
    go_wp2
    go_loopg [24] kj2 (fun kq v24 w' => ∃ (x24_2 : Int), v24 = .int .i64 x24_2 ∧ Aside0 (metrics_check.l0 kq (l0_7.length : Int) x24_2 a0_0 a0_1 a0_2 a0_3 a0_4 a0_5 l0_6 l0_7 a1_0 a1_1 a1_2 a1_3 a1_4 a1_5 l1_6 l1_7 = some r) ∧ Aside0 (kq ≤ kj2) ∧ Aside0 (w'.heap[gb114]? = some (.cells #[.int .i64 a0_0, .int .i64 a0_1, .int .i64 a0_2, .int .i64 a0_3, .int .i64 a0_4, .int .i64 a0_5, (.slice A0_6 l0_6.length c0_6), (.slice A0_7 l0_7.length c0_7)] 29 (0, 0))) ∧ Aside0 (w'.heap[gb115]? = some (.cells #[.int .i64 a1_0, .int .i64 a1_1, .int .i64 a1_2, .int .i64 a1_3, .int .i64 a1_4, .int .i64 a1_5, (.slice A1_6 l1_6.length c1_6), (.slice A1_7 l1_7.length c1_7)] 29 (0, 0))) ∧ Aside0 (Below w.heap.size w w'))
    case atStart => exact ⟨(0), (by first | rfl | (simp; done) | (simp [*]; done)), H', ⟨Nat.le_refl _⟩, ⟨BK114.out⟩, ⟨BK115.out⟩, ⟨HB.out⟩⟩
    case round =>
     clear H'
     try clear c1; try clear c2; try clear p2; try clear c6; try clear c8; try clear c8b0; try clear c8b1; try clear c8b2; try clear c9; try clear c9b0; try clear c9b1; try clear c10; try clear c12; try clear c14; try clear c16; try clear hcz11_0; try clear hcz11_1; try clear hcz11_2; try clear hcz11_3; try clear hcz11_4; try clear hcz11_5; try clear hcz11_6; try clear hcz11_7; try clear hcz13_0; try clear hcz13_1; try clear hcz13_2; try clear hcz13_3; try clear hcz13_4; try clear hcz13_5; try clear hcz13_6; try clear hcz13_7; try clear hcz15_0; try clear hcz15_1; try clear hcz15_2; try clear hcz15_3; try clear hcz15_4; try clear hcz15_5; try clear hcz15_6; try clear hcz15_7; try clear hcz7_0; try clear hcz7_1; try clear hcz7_2; try clear hcz7_3; try clear hcz7_4; try clear hcz7_5; try clear hcz7_6; try clear hcz7_7; try clear hfz11_0; try clear hfz11_1; try clear hfz11_2; try clear hfz11_3; try clear hfz11_4; try clear hfz11_5; try clear hfz11_6; try clear hfz11_7; try clear hfz13_0; try clear hfz13_1; try clear hfz13_2; try clear hfz13_3; try clear hfz13_4; try clear hfz13_5; try clear hfz13_6; try clear hfz13_7; try clear hfz15_0; try clear hfz15_1; try clear hfz15_2; try clear hfz15_3; try clear hfz15_4; try clear hfz15_5; try clear hfz15_6; try clear hfz15_7; try clear hfz7_0; try clear hfz7_1; try clear hfz7_2; try clear hfz7_3; try clear hfz7_4; try clear hfz7_5; try clear hfz7_6; try clear hfz7_7; try clear p2
     obtain ⟨x24_2, rfl, HA, HK2, BK114, BK115, HB⟩ := hrel
     cases gk with
     | zero => exact absurd HA.out (by simp [metrics_check.l0])
     | succ k2 =>
      have H := HA.out
      clear HA
      simp only [metrics_check.l0] at H
      by_cases c17 : x24_2 < (l0_7.length : Int)
      ·rw [if_pos c17] at H
       have c17b0 : decide (x24_2 < (l0_7.length : Int)) = true := decide_eq_true c17
       clear c17
       by_cases c18 : 0 ≤ x24_2
       ·rw [if_pos c18] at H
        have c18b0 : decide (0 ≤ x24_2) = true := decide_eq_true c18
        clear c18
        by_cases c19 : x24_2 < (l0_7.length : Int)
        ·rw [if_pos c19] at H
         have c19b0 : decide (x24_2 < (l0_7.length : Int)) = true := decide_eq_true c19
         clear c19
         replace H := Option.bind_eq_some_iff.mp H
         obtain ⟨t117, A200, H⟩ := H
         replace H : (if t117 = true then (if x24_2 < (l1_7.length : Int) then ((plane_Valid.f ((rd_T42 l1_7 x24_2).f0.f0) ((rd_T42 l1_7 x24_2).f0.f1) ((rd_T42 l1_7 x24_2).f0.f2) ((rd_T42 l1_7 x24_2).f0.f3) ((rd_T42 l1_7 x24_2).f1)).bind fun t119 => (if t119 = true then (if (!(((rd_T42 l0_7 x24_2).f0.f0) == ((rd_T42 l1_7 x24_2).f0.f0)) || (!(((rd_T42 l0_7 x24_2).f0.f1) == ((rd_T42 l1_7 x24_2).f0.f1)) || (!(((rd_T42 l0_7 x24_2).f0.f2) == ((rd_T42 l1_7 x24_2).f0.f2)) || (!(((rd_T42 l0_7 x24_2).f0.f3) == ((rd_T42 l1_7 x24_2).f0.f3)))))) = true then (some 1) else (metrics_check.l0 k2 (l0_7.length : Int) (wrap64 (x24_2 + 1)) a0_0 a0_1 a0_2 a0_3 a0_4 a0_5 l0_6 l0_7 a1_0 a1_1 a1_2 a1_3 a1_4 a1_5 l1_6 l1_7)) else (some 1))) else (none)) else (some 1)) = some r := H
         have A20 := Aside0.mk A200
         clear A200
         by_cases c21 : t117 = true
         ·subst c21
          rw [if_pos rfl] at H
          by_cases c22 : x24_2 < (l1_7.length : Int)
          ·rw [if_pos c22] at H
           have c22b0 : decide (x24_2 < (l1_7.length : Int)) = true := decide_eq_true c22
           clear c22
           replace H := Option.bind_eq_some_iff.mp H
           obtain ⟨t119, A230, H⟩ := H
           replace H : (if t119 = true then (if (!(((rd_T42 l0_7 x24_2).f0.f0) == ((rd_T42 l1_7 x24_2).f0.f0)) || (!(((rd_T42 l0_7 x24_2).f0.f1) == ((rd_T42 l1_7 x24_2).f0.f1)) || (!(((rd_T42 l0_7 x24_2).f0.f2) == ((rd_T42 l1_7 x24_2).f0.f2)) || (!(((rd_T42 l0_7 x24_2).f0.f3) == ((rd_T42 l1_7 x24_2).f0.f3)))))) = true then (some 1) else (metrics_check.l0 k2 (l0_7.length : Int) (wrap64 (x24_2 + 1)) a0_0 a0_1 a0_2 a0_3 a0_4 a0_5 l0_6 l0_7 a1_0 a1_1 a1_2 a1_3 a1_4 a1_5 l1_6 l1_7)) else (some 1)) = some r := H
           have A23 := Aside0.mk A230
           clear A230
           by_cases c24 : t119 = true
           ·subst c24
            rw [if_pos rfl] at H
            by_cases c25 : (!(((rd_T42 l0_7 x24_2).f0.f0) == ((rd_T42 l1_7 x24_2).f0.f0)) || (!(((rd_T42 l0_7 x24_2).f0.f1) == ((rd_T42 l1_7 x24_2).f0.f1)) || (!(((rd_T42 l0_7 x24_2).f0.f2) == ((rd_T42 l1_7 x24_2).f0.f2)) || (!(((rd_T42 l0_7 x24_2).f0.f3) == ((rd_T42 l1_7 x24_2).f0.f3)))))) = true
            ·rw [if_pos c25] at H
             have c25b0 : (!(((rd_T42 l0_7 x24_2).f0.f0) == ((rd_T42 l1_7 x24_2).f0.f0)) || (!(((rd_T42 l0_7 x24_2).f0.f1) == ((rd_T42 l1_7 x24_2).f0.f1)) || (!(((rd_T42 l0_7 x24_2).f0.f2) == ((rd_T42 l1_7 x24_2).f0.f2)) || (!(((rd_T42 l0_7 x24_2).f0.f3) == ((rd_T42 l1_7 x24_2).f0.f3)))))) = true := c25
             clear c25
             obtain rfl := Option.some.inj H
             try go_wp2
             replace BK114 := Aside0.mk (blk_drew BK114.out)
             replace BK115 := Aside0.mk (blk_drew BK115.out)
             replace HB := Aside0.mk (below_drew1 HB.out)
             have p116 : 0 ≤ (x24_2 : Int) := of_decide_eq_true (by first | (with_reducible assumption) | assumption)
             have q116 : x24_2 < (l0_7.length : Int) := of_decide_eq_true (by first | (with_reducible assumption) | assumption)
             obtain ⟨ad116, A116_4, c116_4, e116, hx116_0, hx116_1, hx116_2, hx116_3, hx116_4, hl116_4, hi116_4⟩ := at_T42 HR0_7.out x24_2 p116 q116
             have hw116_4 := hx116_4
             have hw116_3 := hx116_3
             have hw116_2 := hx116_2
             have hw116_1 := hx116_1
             have hw116_0 := hx116_0
             cases e116
             replace hx116_0 := hc HB hx116_0
             replace hx116_1 := hc HB hx116_1
             replace hx116_2 := hc HB hx116_2
             replace hx116_3 := hc HB hx116_3
             replace hx116_4 := hc HB hx116_4
             have HR116_4 := Aside0.mk hi116_4
             have HC116_4 := Aside0.mk hl116_4
             clear hi116_4 hl116_4
             replace p116 := eq_true p116
             replace q116 := eq_true q116
             have p118 : 0 ≤ (x24_2 : Int) := of_decide_eq_true (by first | (with_reducible assumption) | assumption)
             have q118 : x24_2 < (l1_7.length : Int) := of_decide_eq_true (by first | (with_reducible assumption) | assumption)
             obtain ⟨ad118, A118_4, c118_4, e118, hx118_0, hx118_1, hx118_2, hx118_3, hx118_4, hl118_4, hi118_4⟩ := at_T42 HR1_7.out x24_2 p118 q118
             have hw118_4 := hx118_4
             have hw118_3 := hx118_3
             have hw118_2 := hx118_2
             have hw118_1 := hx118_1
             have hw118_0 := hx118_0
             cases e118
             replace hx118_0 := hc HB hx118_0
             replace hx118_1 := hc HB hx118_1
             replace hx118_2 := hc HB hx118_2
             replace hx118_3 := hc HB hx118_3
             replace hx118_4 := hc HB hx118_4
             have HR118_4 := Aside0.mk hi118_4
             have HC118_4 := Aside0.mk hl118_4
             clear hi118_4 hl118_4
             replace p118 := eq_true p118
             replace q118 := eq_true q118
             have p120 : 0 ≤ (x24_2 : Int) := of_decide_eq_true (by first | (with_reducible assumption) | assumption)
             have q120 : x24_2 < (l0_7.length : Int) := of_decide_eq_true (by first | (with_reducible assumption) | assumption)
             obtain ⟨ad120, A120_4, c120_4, e120, hx120_0, hx120_1, hx120_2, hx120_3, hx120_4, hl120_4, hi120_4⟩ := at_T42 HR0_7.out x24_2 p120 q120
             have hw120_4 := hx120_4
             have hw120_3 := hx120_3
             have hw120_2 := hx120_2
             have hw120_1 := hx120_1
             have hw120_0 := hx120_0
             obtain rfl : ad116 = ad120 := (by injection e120)
             replace hx120_0 := hc HB hx120_0
             replace hx120_1 := hc HB hx120_1
             replace hx120_2 := hc HB hx120_2
             replace hx120_3 := hc HB hx120_3
             replace hx120_4 := hc HB hx120_4
             have HR120_4 := Aside0.mk hi120_4
             have HC120_4 := Aside0.mk hl120_4
             clear hi120_4 hl120_4
             replace p120 := eq_true p120
             replace q120 := eq_true q120
             have p121 : 0 ≤ (x24_2 : Int) := of_decide_eq_true (by first | (with_reducible assumption) | assumption)
             have q121 : x24_2 < (l1_7.length : Int) := of_decide_eq_true (by first | (with_reducible assumption) | assumption)
             obtain ⟨ad121, A121_4, c121_4, e121, hx121_0, hx121_1, hx121_2, hx121_3, hx121_4, hl121_4, hi121_4⟩ := at_T42 HR1_7.out x24_2 p121 q121
             have hw121_4 := hx121_4
             have hw121_3 := hx121_3
             have hw121_2 := hx121_2
             have hw121_1 := hx121_1
             have hw121_0 := hx121_0
             obtain rfl : ad118 = ad121 := (by injection e121)
             replace hx121_0 := hc HB hx121_0
             replace hx121_1 := hc HB hx121_1
             replace hx121_2 := hc HB hx121_2
             replace hx121_3 := hc HB hx121_3
             replace hx121_4 := hc HB hx121_4
             have HR121_4 := Aside0.mk hi121_4
             have HC121_4 := Aside0.mk hl121_4
             clear hi121_4 hl121_4
             replace p121 := eq_true p121
             replace q121 := eq_true q121
             refine start_ (n := 31) (S := fun w' => ce w' gb114 0 (.int .i64 a0_0) ∧ ce w' gb114 1 (.int .i64 a0_1) ∧ ce w' gb114 2 (.int .i64 a0_2) ∧ ce w' gb114 3 (.int .i64 a0_3) ∧ ce w' gb114 4 (.int .i64 a0_4) ∧ ce w' gb114 5 (.int .i64 a0_5) ∧ ce w' gb114 6 (.slice A0_6 l0_6.length c0_6) ∧ ce w' gb114 7 (.slice (some ad116) l0_7.length c0_7) ∧ ce w' gb115 0 (.int .i64 a1_0) ∧ ce w' gb115 1 (.int .i64 a1_1) ∧ ce w' gb115 2 (.int .i64 a1_2) ∧ ce w' gb115 3 (.int .i64 a1_3) ∧ ce w' gb115 4 (.int .i64 a1_4) ∧ ce w' gb115 5 (.int .i64 a1_5) ∧ ce w' gb115 6 (.slice A1_6 l1_6.length c1_6) ∧ ce w' gb115 7 (.slice (some ad118) l1_7.length c1_7) ∧ w'.cell? (ad116.add ((x24_2).toNat * 5)) = some (.int .i64 ((rd_T42 l0_7 x24_2).f0.f0)) ∧ w'.cell? ⟨(ad116.add ((x24_2).toNat * 5)).block, (ad116.add ((x24_2).toNat * 5)).off + 1, none⟩ = some (.int .i64 ((rd_T42 l0_7 x24_2).f0.f1)) ∧ w'.cell? ⟨(ad116.add ((x24_2).toNat * 5)).block, (ad116.add ((x24_2).toNat * 5)).off + 2, none⟩ = some (.int .i64 ((rd_T42 l0_7 x24_2).f0.f2)) ∧ w'.cell? ⟨(ad116.add ((x24_2).toNat * 5)).block, (ad116.add ((x24_2).toNat * 5)).off + 3, none⟩ = some (.int .i64 ((rd_T42 l0_7 x24_2).f0.f3)) ∧ w'.cell? ⟨(ad116.add ((x24_2).toNat * 5)).block, (ad116.add ((x24_2).toNat * 5)).off + 4, none⟩ = some (.slice A116_4 ((rd_T42 l0_7 x24_2).f1).length c116_4) ∧ w'.cell? (ad118.add ((x24_2).toNat * 5)) = some (.int .i64 ((rd_T42 l1_7 x24_2).f0.f0)) ∧ w'.cell? ⟨(ad118.add ((x24_2).toNat * 5)).block, (ad118.add ((x24_2).toNat * 5)).off + 1, none⟩ = some (.int .i64 ((rd_T42 l1_7 x24_2).f0.f1)) ∧ w'.cell? ⟨(ad118.add ((x24_2).toNat * 5)).block, (ad118.add ((x24_2).toNat * 5)).off + 2, none⟩ = some (.int .i64 ((rd_T42 l1_7 x24_2).f0.f2)) ∧ w'.cell? ⟨(ad118.add ((x24_2).toNat * 5)).block, (ad118.add ((x24_2).toNat * 5)).off + 3, none⟩ = some (.int .i64 ((rd_T42 l1_7 x24_2).f0.f3)) ∧ w'.cell? ⟨(ad118.add ((x24_2).toNat * 5)).block, (ad118.add ((x24_2).toNat * 5)).off + 4, none⟩ = some (.slice A118_4 ((rd_T42 l1_7 x24_2).f1).length c118_4) ∧ w'.cell? (ad116.add ((x24_2).toNat * 5)) = some (.int .i64 ((rd_T42 l0_7 x24_2).f0.f0)) ∧ w'.cell? ⟨(ad116.add ((x24_2).toNat * 5)).block, (ad116.add ((x24_2).toNat * 5)).off + 1, none⟩ = some (.int .i64 ((rd_T42 l0_7 x24_2).f0.f1)) ∧ w'.cell? ⟨(ad116.add ((x24_2).toNat * 5)).block, (ad116.add ((x24_2).toNat * 5)).off + 2, none⟩ = some (.int .i64 ((rd_T42 l0_7 x24_2).f0.f2)) ∧ w'.cell? ⟨(ad116.add ((x24_2).toNat * 5)).block, (ad116.add ((x24_2).toNat * 5)).off + 3, none⟩ = some (.int .i64 ((rd_T42 l0_7 x24_2).f0.f3)) ∧ w'.cell? ⟨(ad116.add ((x24_2).toNat * 5)).block, (ad116.add ((x24_2).toNat * 5)).off + 4, none⟩ = some (.slice A120_4 ((rd_T42 l0_7 x24_2).f1).length c120_4) ∧ w'.cell? (ad118.add ((x24_2).toNat * 5)) = some (.int .i64 ((rd_T42 l1_7 x24_2).f0.f0)) ∧ w'.cell? ⟨(ad118.add ((x24_2).toNat * 5)).block, (ad118.add ((x24_2).toNat * 5)).off + 1, none⟩ = some (.int .i64 ((rd_T42 l1_7 x24_2).f0.f1)) ∧ w'.cell? ⟨(ad118.add ((x24_2).toNat * 5)).block, (ad118.add ((x24_2).toNat * 5)).off + 2, none⟩ = some (.int .i64 ((rd_T42 l1_7 x24_2).f0.f2)) ∧ w'.cell? ⟨(ad118.add ((x24_2).toNat * 5)).block, (ad118.add ((x24_2).toNat * 5)).off + 3, none⟩ = some (.int .i64 ((rd_T42 l1_7 x24_2).f0.f3)) ∧ w'.cell? ⟨(ad118.add ((x24_2).toNat * 5)).block, (ad118.add ((x24_2).toNat * 5)).off + 4, none⟩ = some (.slice A121_4 ((rd_T42 l1_7 x24_2).f1).length c121_4)) (ds := []) (MK [0, 31]) (by kernel_rfl) rfl rfl ⟨bc BK114 0, bc BK114 1, bc BK114 2, bc BK114 3, bc BK114 4, bc BK114 5, bc BK114 6, bc BK114 7, bc BK115 0, bc BK115 1, bc BK115 2, bc BK115 3, bc BK115 4, bc BK115 5, bc BK115 6, bc BK115 7, (hc HB hw116_0), (hc HB hw116_1), (hc HB hw116_2), (hc HB hw116_3), (hc HB hw116_4), (hc HB hw118_0), (hc HB hw118_1), (hc HB hw118_2), (hc HB hw118_3), (hc HB hw118_4), (hc HB hw120_0), (hc HB hw120_1), (hc HB hw120_2), (hc HB hw120_3), (hc HB hw120_4), (hc HB hw121_0), (hc HB hw121_1), (hc HB hw121_2), (hc HB hw121_3), (hc HB hw121_4)⟩ (fun hHeld => ?_); refine with_tabW metrics_check.tab7 metrics_check.bits7 (fun HT_ HW_ => ?_)
             generalize wr.drew = w26 at BK114 BK115 HB HR116_4 HR118_4 HR120_4 HR121_4 hx116_0 hx116_1 hx116_2 hx116_3 hx116_4 hx118_0 hx118_1 hx118_2 hx118_3 hx118_4 hx120_0 hx120_1 hx120_2 hx120_3 hx120_4 hx121_0 hx121_1 hx121_2 hx121_3 hx121_4 hHeld ⊢
             refine puX 0 27 (MK [1, 30]) HT_.out ?_
             refine puX 2 29 (MK [1, 1, 1, 28]) HT_.out ?_
             refine taX 1 28 (MK [3, 28]) HT_.out HW_.out hHeld ?_
             refine puX 3 30 (MK [4, 27]) HT_.out ?_
             refine taX 4 31 (MK [5, 26]) HT_.out HW_.out hHeld ?_
             refine onX 5 32 (MK [6, 25]) HT_.out (fun K hK => ?_)
             refine goes_ Try.func38 (by kernel_rfl) rfl #[.agg #[.int .i64 ((rd_T42 l0_7 x24_2).f0.f0), .int .i64 ((rd_T42 l0_7 x24_2).f0.f1), .int .i64 ((rd_T42 l0_7 x24_2).f0.f2), .int .i64 ((rd_T42 l0_7 x24_2).f0.f3), .slice A116_4 ((rd_T42 l0_7 x24_2).f1).length c116_4]] (by rfl) rfl rfl upL ?_
             with_reducible refine (plane_Valid.calls ((rd_T42 l0_7 x24_2).f0.f0) ((rd_T42 l0_7 x24_2).f0.f1) ((rd_T42 l0_7 x24_2).f0.f2) ((rd_T42 l0_7 x24_2).f0.f3) _ _ ((rd_T42 l0_7 x24_2).f1) true _ ?side1 ?side2 A20.out).mono ?_
             (case side1 => repeat (first | exact (Kd.C_below HR116_4.out HB.out) | (with_reducible refine Kd.C_alloc ?_ _) | (with_reducible refine Kd.C_drewN ?_ _) | (with_reducible refine Kd.C_drew ?_)))
             (case side2 => exact HC116_4.out)
             rintro e w27 ⟨rfl, hb⟩
             refine ⟨_, rfl, ?_⟩
             replace BK114 := Aside0.mk (blk_below BK114.out hb)
             replace BK115 := Aside0.mk (blk_below BK115.out hb)
             replace HB := Aside0.mk (below_step HB.out hb)
             (try clear hb); (try clear hb2); (try clear hk); (try clear hi)
             refine hK.out _ _ ⟨bc BK114 0, bc BK114 1, bc BK114 2, bc BK114 3, bc BK114 4, bc BK114 5, bc BK114 6, bc BK114 7, bc BK115 0, bc BK115 1, bc BK115 2, bc BK115 3, bc BK115 4, bc BK115 5, bc BK115 6, bc BK115 7, (hc HB hw116_0), (hc HB hw116_1), (hc HB hw116_2), (hc HB hw116_3), (hc HB hw116_4), (hc HB hw118_0), (hc HB hw118_1), (hc HB hw118_2), (hc HB hw118_3), (hc HB hw118_4), (hc HB hw120_0), (hc HB hw120_1), (hc HB hw120_2), (hc HB hw120_3), (hc HB hw120_4), (hc HB hw121_0), (hc HB hw121_1), (hc HB hw121_2), (hc HB hw121_3), (hc HB hw121_4)⟩ (fun hHeld => ?_)
             clear hK K
             refine noX ?_
             refine puX 6 33 (MK [7, 24]) HT_.out ?_
             refine puX 7 34 (MK [8, 23]) HT_.out ?_
             refine puX 8 35 (MK [9, 22]) HT_.out ?_
             refine puX 10 37 (MK [9, 1, 1, 20]) HT_.out ?_
             refine taX 9 36 (MK [11, 20]) HT_.out HW_.out hHeld ?_
             refine puX 11 38 (MK [12, 19]) HT_.out ?_
             refine taX 12 39 (MK [13, 18]) HT_.out HW_.out hHeld ?_
             refine onX 13 40 (MK [14, 17]) HT_.out (fun K hK => ?_)
             refine goes_ Try.func38 (by kernel_rfl) rfl #[.agg #[.int .i64 ((rd_T42 l1_7 x24_2).f0.f0), .int .i64 ((rd_T42 l1_7 x24_2).f0.f1), .int .i64 ((rd_T42 l1_7 x24_2).f0.f2), .int .i64 ((rd_T42 l1_7 x24_2).f0.f3), .slice A118_4 ((rd_T42 l1_7 x24_2).f1).length c118_4]] (by rfl) rfl rfl upL ?_
             with_reducible refine (plane_Valid.calls ((rd_T42 l1_7 x24_2).f0.f0) ((rd_T42 l1_7 x24_2).f0.f1) ((rd_T42 l1_7 x24_2).f0.f2) ((rd_T42 l1_7 x24_2).f0.f3) _ _ ((rd_T42 l1_7 x24_2).f1) true _ ?side1 ?side2 A23.out).mono ?_
             (case side1 => repeat (first | exact (Kd.C_below HR118_4.out HB.out) | (with_reducible refine Kd.C_alloc ?_ _) | (with_reducible refine Kd.C_drewN ?_ _) | (with_reducible refine Kd.C_drew ?_)))
             (case side2 => exact HC118_4.out)
             rintro e w28 ⟨rfl, hb⟩
             refine ⟨_, rfl, ?_⟩
             replace BK114 := Aside0.mk (blk_below BK114.out hb)
             replace BK115 := Aside0.mk (blk_below BK115.out hb)
             replace HB := Aside0.mk (below_step HB.out hb)
             (try clear hb); (try clear hb2); (try clear hk); (try clear hi)
             refine hK.out _ _ ⟨bc BK114 0, bc BK114 1, bc BK114 2, bc BK114 3, bc BK114 4, bc BK114 5, bc BK114 6, bc BK114 7, bc BK115 0, bc BK115 1, bc BK115 2, bc BK115 3, bc BK115 4, bc BK115 5, bc BK115 6, bc BK115 7, (hc HB hw116_0), (hc HB hw116_1), (hc HB hw116_2), (hc HB hw116_3), (hc HB hw116_4), (hc HB hw118_0), (hc HB hw118_1), (hc HB hw118_2), (hc HB hw118_3), (hc HB hw118_4), (hc HB hw120_0), (hc HB hw120_1), (hc HB hw120_2), (hc HB hw120_3), (hc HB hw120_4), (hc HB hw121_0), (hc HB hw121_1), (hc HB hw121_2), (hc HB hw121_3), (hc HB hw121_4)⟩ (fun hHeld => ?_)
             clear hK K
             refine noX ?_
             refine puX 14 41 (MK [15, 16]) HT_.out ?_
             refine puX 15 42 (MK [16, 15]) HT_.out ?_
             refine puX 16 43 (MK [17, 14]) HT_.out ?_
             refine puX 17 44 (MK [18, 13]) HT_.out ?_
             refine puX 19 46 (MK [18, 1, 1, 11]) HT_.out ?_
             refine puX 23 50 (MK [18, 1, 1, 3, 1, 7]) HT_.out ?_
             refine puX 25 52 (MK [18, 1, 1, 3, 1, 1, 1, 5]) HT_.out ?_
             refine taX 18 45 (MK [20, 3, 1, 1, 1, 5]) HT_.out HW_.out hHeld ?_
             refine puX 20 47 (MK [21, 2, 1, 1, 1, 5]) HT_.out ?_
             refine puX 21 48 (MK [22, 1, 1, 1, 1, 5]) HT_.out ?_
             refine taX 22 49 (MK [24, 1, 1, 5]) HT_.out HW_.out hHeld ?_
             refine taX 24 51 (MK [26, 5]) HT_.out HW_.out hHeld ?_
             refine puX 26 53 (MK [27, 4]) HT_.out ?_
             refine puX 27 54 (MK [28, 3]) HT_.out ?_
             refine taX 28 55 (MK [29, 2]) HT_.out HW_.out hHeld ?_
             refine puX 29 56 (MK [30, 1]) HT_.out ?_
             refine puX 30 57 (MK [31]) HT_.out ?_
             refine done_ (done_of HT_.out (by kernel_rfl)) ?_
             try go_wp2
             go_ret
             exact ⟨by first | rfl | (simp [errW_none, errW_some] <;> rfl) | (simp [*, errW_none, errW_some] <;> rfl), HB.out⟩
            ·rw [if_neg c25] at H
             have c25b0 : (!(((rd_T42 l0_7 x24_2).f0.f0) == ((rd_T42 l1_7 x24_2).f0.f0)) || (!(((rd_T42 l0_7 x24_2).f0.f1) == ((rd_T42 l1_7 x24_2).f0.f1)) || (!(((rd_T42 l0_7 x24_2).f0.f2) == ((rd_T42 l1_7 x24_2).f0.f2)) || (!(((rd_T42 l0_7 x24_2).f0.f3) == ((rd_T42 l1_7 x24_2).f0.f3)))))) = false := by simpa using c25
             clear c25
             have H' := Aside0.mk H
             clear H
             try go_wp2
             replace BK114 := Aside0.mk (blk_drew BK114.out)
             replace BK115 := Aside0.mk (blk_drew BK115.out)
             replace HB := Aside0.mk (below_drew1 HB.out)
             have p116 : 0 ≤ (x24_2 : Int) := of_decide_eq_true (by first | (with_reducible assumption) | assumption)
             have q116 : x24_2 < (l0_7.length : Int) := of_decide_eq_true (by first | (with_reducible assumption) | assumption)
             obtain ⟨ad116, A116_4, c116_4, e116, hx116_0, hx116_1, hx116_2, hx116_3, hx116_4, hl116_4, hi116_4⟩ := at_T42 HR0_7.out x24_2 p116 q116
             have hw116_4 := hx116_4
             have hw116_3 := hx116_3
             have hw116_2 := hx116_2
             have hw116_1 := hx116_1
             have hw116_0 := hx116_0
             cases e116
             replace hx116_0 := hc HB hx116_0
             replace hx116_1 := hc HB hx116_1
             replace hx116_2 := hc HB hx116_2
             replace hx116_3 := hc HB hx116_3
             replace hx116_4 := hc HB hx116_4
             have HR116_4 := Aside0.mk hi116_4
             have HC116_4 := Aside0.mk hl116_4
             clear hi116_4 hl116_4
             replace p116 := eq_true p116
             replace q116 := eq_true q116
             have p118 : 0 ≤ (x24_2 : Int) := of_decide_eq_true (by first | (with_reducible assumption) | assumption)
             have q118 : x24_2 < (l1_7.length : Int) := of_decide_eq_true (by first | (with_reducible assumption) | assumption)
             obtain ⟨ad118, A118_4, c118_4, e118, hx118_0, hx118_1, hx118_2, hx118_3, hx118_4, hl118_4, hi118_4⟩ := at_T42 HR1_7.out x24_2 p118 q118
             have hw118_4 := hx118_4
             have hw118_3 := hx118_3
             have hw118_2 := hx118_2
             have hw118_1 := hx118_1
             have hw118_0 := hx118_0
             cases e118
             replace hx118_0 := hc HB hx118_0
             replace hx118_1 := hc HB hx118_1
             replace hx118_2 := hc HB hx118_2
             replace hx118_3 := hc HB hx118_3
             replace hx118_4 := hc HB hx118_4
             have HR118_4 := Aside0.mk hi118_4
             have HC118_4 := Aside0.mk hl118_4
             clear hi118_4 hl118_4
             replace p118 := eq_true p118
             replace q118 := eq_true q118
             have p120 : 0 ≤ (x24_2 : Int) := of_decide_eq_true (by first | (with_reducible assumption) | assumption)
             have q120 : x24_2 < (l0_7.length : Int) := of_decide_eq_true (by first | (with_reducible assumption) | assumption)
             obtain ⟨ad120, A120_4, c120_4, e120, hx120_0, hx120_1, hx120_2, hx120_3, hx120_4, hl120_4, hi120_4⟩ := at_T42 HR0_7.out x24_2 p120 q120
             have hw120_4 := hx120_4
             have hw120_3 := hx120_3
             have hw120_2 := hx120_2
             have hw120_1 := hx120_1
             have hw120_0 := hx120_0
             obtain rfl : ad116 = ad120 := (by injection e120)
             replace hx120_0 := hc HB hx120_0
             replace hx120_1 := hc HB hx120_1
             replace hx120_2 := hc HB hx120_2
             replace hx120_3 := hc HB hx120_3
             replace hx120_4 := hc HB hx120_4
             have HR120_4 := Aside0.mk hi120_4
             have HC120_4 := Aside0.mk hl120_4
             clear hi120_4 hl120_4
             replace p120 := eq_true p120
             replace q120 := eq_true q120
             have p121 : 0 ≤ (x24_2 : Int) := of_decide_eq_true (by first | (with_reducible assumption) | assumption)
             have q121 : x24_2 < (l1_7.length : Int) := of_decide_eq_true (by first | (with_reducible assumption) | assumption)
             obtain ⟨ad121, A121_4, c121_4, e121, hx121_0, hx121_1, hx121_2, hx121_3, hx121_4, hl121_4, hi121_4⟩ := at_T42 HR1_7.out x24_2 p121 q121
             have hw121_4 := hx121_4
             have hw121_3 := hx121_3
             have hw121_2 := hx121_2
             have hw121_1 := hx121_1
             have hw121_0 := hx121_0
             obtain rfl : ad118 = ad121 := (by injection e121)
             replace hx121_0 := hc HB hx121_0
             replace hx121_1 := hc HB hx121_1
             replace hx121_2 := hc HB hx121_2
             replace hx121_3 := hc HB hx121_3
             replace hx121_4 := hc HB hx121_4
             have HR121_4 := Aside0.mk hi121_4
             have HC121_4 := Aside0.mk hl121_4
             clear hi121_4 hl121_4
             replace p121 := eq_true p121
             replace q121 := eq_true q121
             refine start_ (n := 31) (S := fun w' => ce w' gb114 0 (.int .i64 a0_0) ∧ ce w' gb114 1 (.int .i64 a0_1) ∧ ce w' gb114 2 (.int .i64 a0_2) ∧ ce w' gb114 3 (.int .i64 a0_3) ∧ ce w' gb114 4 (.int .i64 a0_4) ∧ ce w' gb114 5 (.int .i64 a0_5) ∧ ce w' gb114 6 (.slice A0_6 l0_6.length c0_6) ∧ ce w' gb114 7 (.slice (some ad116) l0_7.length c0_7) ∧ ce w' gb115 0 (.int .i64 a1_0) ∧ ce w' gb115 1 (.int .i64 a1_1) ∧ ce w' gb115 2 (.int .i64 a1_2) ∧ ce w' gb115 3 (.int .i64 a1_3) ∧ ce w' gb115 4 (.int .i64 a1_4) ∧ ce w' gb115 5 (.int .i64 a1_5) ∧ ce w' gb115 6 (.slice A1_6 l1_6.length c1_6) ∧ ce w' gb115 7 (.slice (some ad118) l1_7.length c1_7) ∧ w'.cell? (ad116.add ((x24_2).toNat * 5)) = some (.int .i64 ((rd_T42 l0_7 x24_2).f0.f0)) ∧ w'.cell? ⟨(ad116.add ((x24_2).toNat * 5)).block, (ad116.add ((x24_2).toNat * 5)).off + 1, none⟩ = some (.int .i64 ((rd_T42 l0_7 x24_2).f0.f1)) ∧ w'.cell? ⟨(ad116.add ((x24_2).toNat * 5)).block, (ad116.add ((x24_2).toNat * 5)).off + 2, none⟩ = some (.int .i64 ((rd_T42 l0_7 x24_2).f0.f2)) ∧ w'.cell? ⟨(ad116.add ((x24_2).toNat * 5)).block, (ad116.add ((x24_2).toNat * 5)).off + 3, none⟩ = some (.int .i64 ((rd_T42 l0_7 x24_2).f0.f3)) ∧ w'.cell? ⟨(ad116.add ((x24_2).toNat * 5)).block, (ad116.add ((x24_2).toNat * 5)).off + 4, none⟩ = some (.slice A116_4 ((rd_T42 l0_7 x24_2).f1).length c116_4) ∧ w'.cell? (ad118.add ((x24_2).toNat * 5)) = some (.int .i64 ((rd_T42 l1_7 x24_2).f0.f0)) ∧ w'.cell? ⟨(ad118.add ((x24_2).toNat * 5)).block, (ad118.add ((x24_2).toNat * 5)).off + 1, none⟩ = some (.int .i64 ((rd_T42 l1_7 x24_2).f0.f1)) ∧ w'.cell? ⟨(ad118.add ((x24_2).toNat * 5)).block, (ad118.add ((x24_2).toNat * 5)).off + 2, none⟩ = some (.int .i64 ((rd_T42 l1_7 x24_2).f0.f2)) ∧ w'.cell? ⟨(ad118.add ((x24_2).toNat * 5)).block, (ad118.add ((x24_2).toNat * 5)).off + 3, none⟩ = some (.int .i64 ((rd_T42 l1_7 x24_2).f0.f3)) ∧ w'.cell? ⟨(ad118.add ((x24_2).toNat * 5)).block, (ad118.add ((x24_2).toNat * 5)).off + 4, none⟩ = some (.slice A118_4 ((rd_T42 l1_7 x24_2).f1).length c118_4) ∧ w'.cell? (ad116.add ((x24_2).toNat * 5)) = some (.int .i64 ((rd_T42 l0_7 x24_2).f0.f0)) ∧ w'.cell? ⟨(ad116.add ((x24_2).toNat * 5)).block, (ad116.add ((x24_2).toNat * 5)).off + 1, none⟩ = some (.int .i64 ((rd_T42 l0_7 x24_2).f0.f1)) ∧ w'.cell? ⟨(ad116.add ((x24_2).toNat * 5)).block, (ad116.add ((x24_2).toNat * 5)).off + 2, none⟩ = some (.int .i64 ((rd_T42 l0_7 x24_2).f0.f2)) ∧ w'.cell? ⟨(ad116.add ((x24_2).toNat * 5)).block, (ad116.add ((x24_2).toNat * 5)).off + 3, none⟩ = some (.int .i64 ((rd_T42 l0_7 x24_2).f0.f3)) ∧ w'.cell? ⟨(ad116.add ((x24_2).toNat * 5)).block, (ad116.add ((x24_2).toNat * 5)).off + 4, none⟩ = some (.slice A120_4 ((rd_T42 l0_7 x24_2).f1).length c120_4) ∧ w'.cell? (ad118.add ((x24_2).toNat * 5)) = some (.int .i64 ((rd_T42 l1_7 x24_2).f0.f0)) ∧ w'.cell? ⟨(ad118.add ((x24_2).toNat * 5)).block, (ad118.add ((x24_2).toNat * 5)).off + 1, none⟩ = some (.int .i64 ((rd_T42 l1_7 x24_2).f0.f1)) ∧ w'.cell? ⟨(ad118.add ((x24_2).toNat * 5)).block, (ad118.add ((x24_2).toNat * 5)).off + 2, none⟩ = some (.int .i64 ((rd_T42 l1_7 x24_2).f0.f2)) ∧ w'.cell? ⟨(ad118.add ((x24_2).toNat * 5)).block, (ad118.add ((x24_2).toNat * 5)).off + 3, none⟩ = some (.int .i64 ((rd_T42 l1_7 x24_2).f0.f3)) ∧ w'.cell? ⟨(ad118.add ((x24_2).toNat * 5)).block, (ad118.add ((x24_2).toNat * 5)).off + 4, none⟩ = some (.slice A121_4 ((rd_T42 l1_7 x24_2).f1).length c121_4)) (ds := []) (MK [0, 31]) (by kernel_rfl) rfl rfl ⟨bc BK114 0, bc BK114 1, bc BK114 2, bc BK114 3, bc BK114 4, bc BK114 5, bc BK114 6, bc BK114 7, bc BK115 0, bc BK115 1, bc BK115 2, bc BK115 3, bc BK115 4, bc BK115 5, bc BK115 6, bc BK115 7, (hc HB hw116_0), (hc HB hw116_1), (hc HB hw116_2), (hc HB hw116_3), (hc HB hw116_4), (hc HB hw118_0), (hc HB hw118_1), (hc HB hw118_2), (hc HB hw118_3), (hc HB hw118_4), (hc HB hw120_0), (hc HB hw120_1), (hc HB hw120_2), (hc HB hw120_3), (hc HB hw120_4), (hc HB hw121_0), (hc HB hw121_1), (hc HB hw121_2), (hc HB hw121_3), (hc HB hw121_4)⟩ (fun hHeld => ?_); refine with_tabW metrics_check.tab7 metrics_check.bits7 (fun HT_ HW_ => ?_)
             generalize wr.drew = w29 at BK114 BK115 HB HR116_4 HR118_4 HR120_4 HR121_4 hx116_0 hx116_1 hx116_2 hx116_3 hx116_4 hx118_0 hx118_1 hx118_2 hx118_3 hx118_4 hx120_0 hx120_1 hx120_2 hx120_3 hx120_4 hx121_0 hx121_1 hx121_2 hx121_3 hx121_4 hHeld ⊢
             refine puX 0 27 (MK [1, 30]) HT_.out ?_
             refine puX 2 29 (MK [1, 1, 1, 28]) HT_.out ?_
             refine taX 1 28 (MK [3, 28]) HT_.out HW_.out hHeld ?_
             refine puX 3 30 (MK [4, 27]) HT_.out ?_
             refine taX 4 31 (MK [5, 26]) HT_.out HW_.out hHeld ?_
             refine onX 5 32 (MK [6, 25]) HT_.out (fun K hK => ?_)
             refine goes_ Try.func38 (by kernel_rfl) rfl #[.agg #[.int .i64 ((rd_T42 l0_7 x24_2).f0.f0), .int .i64 ((rd_T42 l0_7 x24_2).f0.f1), .int .i64 ((rd_T42 l0_7 x24_2).f0.f2), .int .i64 ((rd_T42 l0_7 x24_2).f0.f3), .slice A116_4 ((rd_T42 l0_7 x24_2).f1).length c116_4]] (by rfl) rfl rfl upL ?_
             with_reducible refine (plane_Valid.calls ((rd_T42 l0_7 x24_2).f0.f0) ((rd_T42 l0_7 x24_2).f0.f1) ((rd_T42 l0_7 x24_2).f0.f2) ((rd_T42 l0_7 x24_2).f0.f3) _ _ ((rd_T42 l0_7 x24_2).f1) true _ ?side1 ?side2 A20.out).mono ?_
             (case side1 => repeat (first | exact (Kd.C_below HR116_4.out HB.out) | (with_reducible refine Kd.C_alloc ?_ _) | (with_reducible refine Kd.C_drewN ?_ _) | (with_reducible refine Kd.C_drew ?_)))
             (case side2 => exact HC116_4.out)
             rintro e w30 ⟨rfl, hb⟩
             refine ⟨_, rfl, ?_⟩
             replace BK114 := Aside0.mk (blk_below BK114.out hb)
             replace BK115 := Aside0.mk (blk_below BK115.out hb)
             replace HB := Aside0.mk (below_step HB.out hb)
             (try clear hb); (try clear hb2); (try clear hk); (try clear hi)
             refine hK.out _ _ ⟨bc BK114 0, bc BK114 1, bc BK114 2, bc BK114 3, bc BK114 4, bc BK114 5, bc BK114 6, bc BK114 7, bc BK115 0, bc BK115 1, bc BK115 2, bc BK115 3, bc BK115 4, bc BK115 5, bc BK115 6, bc BK115 7, (hc HB hw116_0), (hc HB hw116_1), (hc HB hw116_2), (hc HB hw116_3), (hc HB hw116_4), (hc HB hw118_0), (hc HB hw118_1), (hc HB hw118_2), (hc HB hw118_3), (hc HB hw118_4), (hc HB hw120_0), (hc HB hw120_1), (hc HB hw120_2), (hc HB hw120_3), (hc HB hw120_4), (hc HB hw121_0), (hc HB hw121_1), (hc HB hw121_2), (hc HB hw121_3), (hc HB hw121_4)⟩ (fun hHeld => ?_)
             clear hK K
             refine noX ?_
             refine puX 6 33 (MK [7, 24]) HT_.out ?_
             refine puX 7 34 (MK [8, 23]) HT_.out ?_
             refine puX 8 35 (MK [9, 22]) HT_.out ?_
             refine puX 10 37 (MK [9, 1, 1, 20]) HT_.out ?_
             refine taX 9 36 (MK [11, 20]) HT_.out HW_.out hHeld ?_
             refine puX 11 38 (MK [12, 19]) HT_.out ?_
             refine taX 12 39 (MK [13, 18]) HT_.out HW_.out hHeld ?_
             refine onX 13 40 (MK [14, 17]) HT_.out (fun K hK => ?_)
             refine goes_ Try.func38 (by kernel_rfl) rfl #[.agg #[.int .i64 ((rd_T42 l1_7 x24_2).f0.f0), .int .i64 ((rd_T42 l1_7 x24_2).f0.f1), .int .i64 ((rd_T42 l1_7 x24_2).f0.f2), .int .i64 ((rd_T42 l1_7 x24_2).f0.f3), .slice A118_4 ((rd_T42 l1_7 x24_2).f1).length c118_4]] (by rfl) rfl rfl upL ?_
             with_reducible refine (plane_Valid.calls ((rd_T42 l1_7 x24_2).f0.f0) ((rd_T42 l1_7 x24_2).f0.f1) ((rd_T42 l1_7 x24_2).f0.f2) ((rd_T42 l1_7 x24_2).f0.f3) _ _ ((rd_T42 l1_7 x24_2).f1) true _ ?side1 ?side2 A23.out).mono ?_
             (case side1 => repeat (first | exact (Kd.C_below HR118_4.out HB.out) | (with_reducible refine Kd.C_alloc ?_ _) | (with_reducible refine Kd.C_drewN ?_ _) | (with_reducible refine Kd.C_drew ?_)))
             (case side2 => exact HC118_4.out)
             rintro e w31 ⟨rfl, hb⟩
             refine ⟨_, rfl, ?_⟩
             replace BK114 := Aside0.mk (blk_below BK114.out hb)
             replace BK115 := Aside0.mk (blk_below BK115.out hb)
             replace HB := Aside0.mk (below_step HB.out hb)
             (try clear hb); (try clear hb2); (try clear hk); (try clear hi)
             refine hK.out _ _ ⟨bc BK114 0, bc BK114 1, bc BK114 2, bc BK114 3, bc BK114 4, bc BK114 5, bc BK114 6, bc BK114 7, bc BK115 0, bc BK115 1, bc BK115 2, bc BK115 3, bc BK115 4, bc BK115 5, bc BK115 6, bc BK115 7, (hc HB hw116_0), (hc HB hw116_1), (hc HB hw116_2), (hc HB hw116_3), (hc HB hw116_4), (hc HB hw118_0), (hc HB hw118_1), (hc HB hw118_2), (hc HB hw118_3), (hc HB hw118_4), (hc HB hw120_0), (hc HB hw120_1), (hc HB hw120_2), (hc HB hw120_3), (hc HB hw120_4), (hc HB hw121_0), (hc HB hw121_1), (hc HB hw121_2), (hc HB hw121_3), (hc HB hw121_4)⟩ (fun hHeld => ?_)
             clear hK K
             refine noX ?_
             refine puX 14 41 (MK [15, 16]) HT_.out ?_
             refine puX 15 42 (MK [16, 15]) HT_.out ?_
             refine puX 16 43 (MK [17, 14]) HT_.out ?_
             refine puX 17 44 (MK [18, 13]) HT_.out ?_
             refine puX 19 46 (MK [18, 1, 1, 11]) HT_.out ?_
             refine puX 23 50 (MK [18, 1, 1, 3, 1, 7]) HT_.out ?_
             refine puX 25 52 (MK [18, 1, 1, 3, 1, 1, 1, 5]) HT_.out ?_
             refine taX 18 45 (MK [20, 3, 1, 1, 1, 5]) HT_.out HW_.out hHeld ?_
             refine puX 20 47 (MK [21, 2, 1, 1, 1, 5]) HT_.out ?_
             refine puX 21 48 (MK [22, 1, 1, 1, 1, 5]) HT_.out ?_
             refine taX 22 49 (MK [24, 1, 1, 5]) HT_.out HW_.out hHeld ?_
             refine taX 24 51 (MK [26, 5]) HT_.out HW_.out hHeld ?_
             refine puX 26 53 (MK [27, 4]) HT_.out ?_
             refine puX 27 54 (MK [28, 3]) HT_.out ?_
             refine taX 28 55 (MK [29, 2]) HT_.out HW_.out hHeld ?_
             refine puX 29 56 (MK [30, 1]) HT_.out ?_
             refine puX 30 57 (MK [31]) HT_.out ?_
             refine done_ (done_of HT_.out (by kernel_rfl)) ?_
             try go_wp2
             go_roundg k2
             case measure => have := HJ2.out; have := HK2.out; omega
             case rel => exact ⟨(wrap64 (x24_2 + 1)), (by first | rfl | (simp; done) | (simp [*]; done)), H', ⟨by have := HJ2.out; have := HK2.out; omega⟩, ⟨BK114.out⟩, ⟨BK115.out⟩, ⟨HB.out⟩⟩
           ·replace c24 := Bool.eq_false_iff.mpr c24
            subst c24
            rw [if_neg (show ¬ (false = true) by decide)] at H
            obtain rfl := Option.some.inj H
            try go_wp2
            replace BK114 := Aside0.mk (blk_drew BK114.out)
            replace BK115 := Aside0.mk (blk_drew BK115.out)
            replace HB := Aside0.mk (below_drew1 HB.out)
            have p116 : 0 ≤ (x24_2 : Int) := of_decide_eq_true (by first | (with_reducible assumption) | assumption)
            have q116 : x24_2 < (l0_7.length : Int) := of_decide_eq_true (by first | (with_reducible assumption) | assumption)
            obtain ⟨ad116, A116_4, c116_4, e116, hx116_0, hx116_1, hx116_2, hx116_3, hx116_4, hl116_4, hi116_4⟩ := at_T42 HR0_7.out x24_2 p116 q116
            have hw116_4 := hx116_4
            have hw116_3 := hx116_3
            have hw116_2 := hx116_2
            have hw116_1 := hx116_1
            have hw116_0 := hx116_0
            cases e116
            replace hx116_0 := hc HB hx116_0
            replace hx116_1 := hc HB hx116_1
            replace hx116_2 := hc HB hx116_2
            replace hx116_3 := hc HB hx116_3
            replace hx116_4 := hc HB hx116_4
            have HR116_4 := Aside0.mk hi116_4
            have HC116_4 := Aside0.mk hl116_4
            clear hi116_4 hl116_4
            replace p116 := eq_true p116
            replace q116 := eq_true q116
            have p118 : 0 ≤ (x24_2 : Int) := of_decide_eq_true (by first | (with_reducible assumption) | assumption)
            have q118 : x24_2 < (l1_7.length : Int) := of_decide_eq_true (by first | (with_reducible assumption) | assumption)
            obtain ⟨ad118, A118_4, c118_4, e118, hx118_0, hx118_1, hx118_2, hx118_3, hx118_4, hl118_4, hi118_4⟩ := at_T42 HR1_7.out x24_2 p118 q118
            have hw118_4 := hx118_4
            have hw118_3 := hx118_3
            have hw118_2 := hx118_2
            have hw118_1 := hx118_1
            have hw118_0 := hx118_0
            cases e118
            replace hx118_0 := hc HB hx118_0
            replace hx118_1 := hc HB hx118_1
            replace hx118_2 := hc HB hx118_2
            replace hx118_3 := hc HB hx118_3
            replace hx118_4 := hc HB hx118_4
            have HR118_4 := Aside0.mk hi118_4
            have HC118_4 := Aside0.mk hl118_4
            clear hi118_4 hl118_4
            replace p118 := eq_true p118
            replace q118 := eq_true q118
            refine start_ (n := 31) (S := fun w' => ce w' gb114 0 (.int .i64 a0_0) ∧ ce w' gb114 1 (.int .i64 a0_1) ∧ ce w' gb114 2 (.int .i64 a0_2) ∧ ce w' gb114 3 (.int .i64 a0_3) ∧ ce w' gb114 4 (.int .i64 a0_4) ∧ ce w' gb114 5 (.int .i64 a0_5) ∧ ce w' gb114 6 (.slice A0_6 l0_6.length c0_6) ∧ ce w' gb114 7 (.slice (some ad116) l0_7.length c0_7) ∧ ce w' gb115 0 (.int .i64 a1_0) ∧ ce w' gb115 1 (.int .i64 a1_1) ∧ ce w' gb115 2 (.int .i64 a1_2) ∧ ce w' gb115 3 (.int .i64 a1_3) ∧ ce w' gb115 4 (.int .i64 a1_4) ∧ ce w' gb115 5 (.int .i64 a1_5) ∧ ce w' gb115 6 (.slice A1_6 l1_6.length c1_6) ∧ ce w' gb115 7 (.slice (some ad118) l1_7.length c1_7) ∧ w'.cell? (ad116.add ((x24_2).toNat * 5)) = some (.int .i64 ((rd_T42 l0_7 x24_2).f0.f0)) ∧ w'.cell? ⟨(ad116.add ((x24_2).toNat * 5)).block, (ad116.add ((x24_2).toNat * 5)).off + 1, none⟩ = some (.int .i64 ((rd_T42 l0_7 x24_2).f0.f1)) ∧ w'.cell? ⟨(ad116.add ((x24_2).toNat * 5)).block, (ad116.add ((x24_2).toNat * 5)).off + 2, none⟩ = some (.int .i64 ((rd_T42 l0_7 x24_2).f0.f2)) ∧ w'.cell? ⟨(ad116.add ((x24_2).toNat * 5)).block, (ad116.add ((x24_2).toNat * 5)).off + 3, none⟩ = some (.int .i64 ((rd_T42 l0_7 x24_2).f0.f3)) ∧ w'.cell? ⟨(ad116.add ((x24_2).toNat * 5)).block, (ad116.add ((x24_2).toNat * 5)).off + 4, none⟩ = some (.slice A116_4 ((rd_T42 l0_7 x24_2).f1).length c116_4) ∧ w'.cell? (ad118.add ((x24_2).toNat * 5)) = some (.int .i64 ((rd_T42 l1_7 x24_2).f0.f0)) ∧ w'.cell? ⟨(ad118.add ((x24_2).toNat * 5)).block, (ad118.add ((x24_2).toNat * 5)).off + 1, none⟩ = some (.int .i64 ((rd_T42 l1_7 x24_2).f0.f1)) ∧ w'.cell? ⟨(ad118.add ((x24_2).toNat * 5)).block, (ad118.add ((x24_2).toNat * 5)).off + 2, none⟩ = some (.int .i64 ((rd_T42 l1_7 x24_2).f0.f2)) ∧ w'.cell? ⟨(ad118.add ((x24_2).toNat * 5)).block, (ad118.add ((x24_2).toNat * 5)).off + 3, none⟩ = some (.int .i64 ((rd_T42 l1_7 x24_2).f0.f3)) ∧ w'.cell? ⟨(ad118.add ((x24_2).toNat * 5)).block, (ad118.add ((x24_2).toNat * 5)).off + 4, none⟩ = some (.slice A118_4 ((rd_T42 l1_7 x24_2).f1).length c118_4)) (ds := []) (MK [0, 31]) (by kernel_rfl) rfl rfl ⟨bc BK114 0, bc BK114 1, bc BK114 2, bc BK114 3, bc BK114 4, bc BK114 5, bc BK114 6, bc BK114 7, bc BK115 0, bc BK115 1, bc BK115 2, bc BK115 3, bc BK115 4, bc BK115 5, bc BK115 6, bc BK115 7, (hc HB hw116_0), (hc HB hw116_1), (hc HB hw116_2), (hc HB hw116_3), (hc HB hw116_4), (hc HB hw118_0), (hc HB hw118_1), (hc HB hw118_2), (hc HB hw118_3), (hc HB hw118_4)⟩ (fun hHeld => ?_); refine with_tabW metrics_check.tab7 metrics_check.bits7 (fun HT_ HW_ => ?_)
            generalize wr.drew = w32 at BK114 BK115 HB HR116_4 HR118_4 hx116_0 hx116_1 hx116_2 hx116_3 hx116_4 hx118_0 hx118_1 hx118_2 hx118_3 hx118_4 hHeld ⊢
            refine puX 0 27 (MK [1, 30]) HT_.out ?_
            refine puX 2 29 (MK [1, 1, 1, 28]) HT_.out ?_
            refine taX 1 28 (MK [3, 28]) HT_.out HW_.out hHeld ?_
            refine puX 3 30 (MK [4, 27]) HT_.out ?_
            refine taX 4 31 (MK [5, 26]) HT_.out HW_.out hHeld ?_
            refine onX 5 32 (MK [6, 25]) HT_.out (fun K hK => ?_)
            refine goes_ Try.func38 (by kernel_rfl) rfl #[.agg #[.int .i64 ((rd_T42 l0_7 x24_2).f0.f0), .int .i64 ((rd_T42 l0_7 x24_2).f0.f1), .int .i64 ((rd_T42 l0_7 x24_2).f0.f2), .int .i64 ((rd_T42 l0_7 x24_2).f0.f3), .slice A116_4 ((rd_T42 l0_7 x24_2).f1).length c116_4]] (by rfl) rfl rfl upL ?_
            with_reducible refine (plane_Valid.calls ((rd_T42 l0_7 x24_2).f0.f0) ((rd_T42 l0_7 x24_2).f0.f1) ((rd_T42 l0_7 x24_2).f0.f2) ((rd_T42 l0_7 x24_2).f0.f3) _ _ ((rd_T42 l0_7 x24_2).f1) true _ ?side1 ?side2 A20.out).mono ?_
            (case side1 => repeat (first | exact (Kd.C_below HR116_4.out HB.out) | (with_reducible refine Kd.C_alloc ?_ _) | (with_reducible refine Kd.C_drewN ?_ _) | (with_reducible refine Kd.C_drew ?_)))
            (case side2 => exact HC116_4.out)
            rintro e w33 ⟨rfl, hb⟩
            refine ⟨_, rfl, ?_⟩
            replace BK114 := Aside0.mk (blk_below BK114.out hb)
            replace BK115 := Aside0.mk (blk_below BK115.out hb)
            replace HB := Aside0.mk (below_step HB.out hb)
            (try clear hb); (try clear hb2); (try clear hk); (try clear hi)
            refine hK.out _ _ ⟨bc BK114 0, bc BK114 1, bc BK114 2, bc BK114 3, bc BK114 4, bc BK114 5, bc BK114 6, bc BK114 7, bc BK115 0, bc BK115 1, bc BK115 2, bc BK115 3, bc BK115 4, bc BK115 5, bc BK115 6, bc BK115 7, (hc HB hw116_0), (hc HB hw116_1), (hc HB hw116_2), (hc HB hw116_3), (hc HB hw116_4), (hc HB hw118_0), (hc HB hw118_1), (hc HB hw118_2), (hc HB hw118_3), (hc HB hw118_4)⟩ (fun hHeld => ?_)
            clear hK K
            refine noX ?_
            refine puX 6 33 (MK [7, 24]) HT_.out ?_
            refine puX 7 34 (MK [8, 23]) HT_.out ?_
            refine puX 8 35 (MK [9, 22]) HT_.out ?_
            refine puX 10 37 (MK [9, 1, 1, 20]) HT_.out ?_
            refine taX 9 36 (MK [11, 20]) HT_.out HW_.out hHeld ?_
            refine puX 11 38 (MK [12, 19]) HT_.out ?_
            refine taX 12 39 (MK [13, 18]) HT_.out HW_.out hHeld ?_
            refine onX 13 40 (MK [14, 17]) HT_.out (fun K hK => ?_)
            refine goes_ Try.func38 (by kernel_rfl) rfl #[.agg #[.int .i64 ((rd_T42 l1_7 x24_2).f0.f0), .int .i64 ((rd_T42 l1_7 x24_2).f0.f1), .int .i64 ((rd_T42 l1_7 x24_2).f0.f2), .int .i64 ((rd_T42 l1_7 x24_2).f0.f3), .slice A118_4 ((rd_T42 l1_7 x24_2).f1).length c118_4]] (by rfl) rfl rfl upL ?_
            with_reducible refine (plane_Valid.calls ((rd_T42 l1_7 x24_2).f0.f0) ((rd_T42 l1_7 x24_2).f0.f1) ((rd_T42 l1_7 x24_2).f0.f2) ((rd_T42 l1_7 x24_2).f0.f3) _ _ ((rd_T42 l1_7 x24_2).f1) false _ ?side1 ?side2 A23.out).mono ?_
            (case side1 => repeat (first | exact (Kd.C_below HR118_4.out HB.out) | (with_reducible refine Kd.C_alloc ?_ _) | (with_reducible refine Kd.C_drewN ?_ _) | (with_reducible refine Kd.C_drew ?_)))
            (case side2 => exact HC118_4.out)
            rintro e w34 ⟨rfl, hb⟩
            refine ⟨_, rfl, ?_⟩
            replace BK114 := Aside0.mk (blk_below BK114.out hb)
            replace BK115 := Aside0.mk (blk_below BK115.out hb)
            replace HB := Aside0.mk (below_step HB.out hb)
            (try clear hb); (try clear hb2); (try clear hk); (try clear hi)
            refine hK.out _ _ ⟨bc BK114 0, bc BK114 1, bc BK114 2, bc BK114 3, bc BK114 4, bc BK114 5, bc BK114 6, bc BK114 7, bc BK115 0, bc BK115 1, bc BK115 2, bc BK115 3, bc BK115 4, bc BK115 5, bc BK115 6, bc BK115 7, (hc HB hw116_0), (hc HB hw116_1), (hc HB hw116_2), (hc HB hw116_3), (hc HB hw116_4), (hc HB hw118_0), (hc HB hw118_1), (hc HB hw118_2), (hc HB hw118_3), (hc HB hw118_4)⟩ (fun hHeld => ?_)
            clear hK K
            refine noX ?_
            refine puX 14 41 (MK [15, 16]) HT_.out ?_
            refine puX 15 42 (MK [16, 15]) HT_.out ?_
            refine puX 16 43 (MK [17, 14]) HT_.out ?_
            refine puU 17 44 (MK [18, 13]) HT_.out ?_
            refine puU 18 45 (MK [19, 12]) HT_.out ?_
            refine puU 19 46 (MK [20, 11]) HT_.out ?_
            refine puU 20 47 (MK [21, 10]) HT_.out ?_
            refine puU 21 48 (MK [22, 9]) HT_.out ?_
            refine puU 22 49 (MK [23, 8]) HT_.out ?_
            refine puU 23 50 (MK [24, 7]) HT_.out ?_
            refine puU 24 51 (MK [25, 6]) HT_.out ?_
            refine puU 25 52 (MK [26, 5]) HT_.out ?_
            refine puU 26 53 (MK [27, 4]) HT_.out ?_
            refine puU 27 54 (MK [28, 3]) HT_.out ?_
            refine puU 28 55 (MK [29, 2]) HT_.out ?_
            refine puU 29 56 (MK [30, 1]) HT_.out ?_
            refine puX 30 57 (MK [31]) HT_.out ?_
            refine done_ (done_of HT_.out (by kernel_rfl)) ?_
            try go_wp2
            go_ret
            exact ⟨by first | rfl | (simp [errW_none, errW_some] <;> rfl) | (simp [*, errW_none, errW_some] <;> rfl), HB.out⟩
          ·rw [if_neg c22] at H
           exact absurd H (by simp)
         ·replace c21 := Bool.eq_false_iff.mpr c21
          subst c21
          rw [if_neg (show ¬ (false = true) by decide)] at H
          obtain rfl := Option.some.inj H
          try go_wp2
          replace BK114 := Aside0.mk (blk_drew BK114.out)
          replace BK115 := Aside0.mk (blk_drew BK115.out)
          replace HB := Aside0.mk (below_drew1 HB.out)
          have p116 : 0 ≤ (x24_2 : Int) := of_decide_eq_true (by first | (with_reducible assumption) | assumption)
          have q116 : x24_2 < (l0_7.length : Int) := of_decide_eq_true (by first | (with_reducible assumption) | assumption)
          obtain ⟨ad116, A116_4, c116_4, e116, hx116_0, hx116_1, hx116_2, hx116_3, hx116_4, hl116_4, hi116_4⟩ := at_T42 HR0_7.out x24_2 p116 q116
          have hw116_4 := hx116_4
          have hw116_3 := hx116_3
          have hw116_2 := hx116_2
          have hw116_1 := hx116_1
          have hw116_0 := hx116_0
          cases e116
          replace hx116_0 := hc HB hx116_0
          replace hx116_1 := hc HB hx116_1
          replace hx116_2 := hc HB hx116_2
          replace hx116_3 := hc HB hx116_3
          replace hx116_4 := hc HB hx116_4
          have HR116_4 := Aside0.mk hi116_4
          have HC116_4 := Aside0.mk hl116_4
          clear hi116_4 hl116_4
          replace p116 := eq_true p116
          replace q116 := eq_true q116
          refine start_ (n := 31) (S := fun w' => ce w' gb114 0 (.int .i64 a0_0) ∧ ce w' gb114 1 (.int .i64 a0_1) ∧ ce w' gb114 2 (.int .i64 a0_2) ∧ ce w' gb114 3 (.int .i64 a0_3) ∧ ce w' gb114 4 (.int .i64 a0_4) ∧ ce w' gb114 5 (.int .i64 a0_5) ∧ ce w' gb114 6 (.slice A0_6 l0_6.length c0_6) ∧ ce w' gb114 7 (.slice (some ad116) l0_7.length c0_7) ∧ w'.cell? (ad116.add ((x24_2).toNat * 5)) = some (.int .i64 ((rd_T42 l0_7 x24_2).f0.f0)) ∧ w'.cell? ⟨(ad116.add ((x24_2).toNat * 5)).block, (ad116.add ((x24_2).toNat * 5)).off + 1, none⟩ = some (.int .i64 ((rd_T42 l0_7 x24_2).f0.f1)) ∧ w'.cell? ⟨(ad116.add ((x24_2).toNat * 5)).block, (ad116.add ((x24_2).toNat * 5)).off + 2, none⟩ = some (.int .i64 ((rd_T42 l0_7 x24_2).f0.f2)) ∧ w'.cell? ⟨(ad116.add ((x24_2).toNat * 5)).block, (ad116.add ((x24_2).toNat * 5)).off + 3, none⟩ = some (.int .i64 ((rd_T42 l0_7 x24_2).f0.f3)) ∧ w'.cell? ⟨(ad116.add ((x24_2).toNat * 5)).block, (ad116.add ((x24_2).toNat * 5)).off + 4, none⟩ = some (.slice A116_4 ((rd_T42 l0_7 x24_2).f1).length c116_4)) (ds := []) (MK [0, 31]) (by kernel_rfl) rfl rfl ⟨bc BK114 0, bc BK114 1, bc BK114 2, bc BK114 3, bc BK114 4, bc BK114 5, bc BK114 6, bc BK114 7, (hc HB hw116_0), (hc HB hw116_1), (hc HB hw116_2), (hc HB hw116_3), (hc HB hw116_4)⟩ (fun hHeld => ?_); refine with_tabW metrics_check.tab7 metrics_check.bits7 (fun HT_ HW_ => ?_)
          generalize wr.drew = w35 at BK114 BK115 HB HR116_4 hx116_0 hx116_1 hx116_2 hx116_3 hx116_4 hHeld ⊢
          refine puX 0 27 (MK [1, 30]) HT_.out ?_
          refine puX 2 29 (MK [1, 1, 1, 28]) HT_.out ?_
          refine taX 1 28 (MK [3, 28]) HT_.out HW_.out hHeld ?_
          refine puX 3 30 (MK [4, 27]) HT_.out ?_
          refine taX 4 31 (MK [5, 26]) HT_.out HW_.out hHeld ?_
          refine onX 5 32 (MK [6, 25]) HT_.out (fun K hK => ?_)
          refine goes_ Try.func38 (by kernel_rfl) rfl #[.agg #[.int .i64 ((rd_T42 l0_7 x24_2).f0.f0), .int .i64 ((rd_T42 l0_7 x24_2).f0.f1), .int .i64 ((rd_T42 l0_7 x24_2).f0.f2), .int .i64 ((rd_T42 l0_7 x24_2).f0.f3), .slice A116_4 ((rd_T42 l0_7 x24_2).f1).length c116_4]] (by rfl) rfl rfl upL ?_
          with_reducible refine (plane_Valid.calls ((rd_T42 l0_7 x24_2).f0.f0) ((rd_T42 l0_7 x24_2).f0.f1) ((rd_T42 l0_7 x24_2).f0.f2) ((rd_T42 l0_7 x24_2).f0.f3) _ _ ((rd_T42 l0_7 x24_2).f1) false _ ?side1 ?side2 A20.out).mono ?_
          (case side1 => repeat (first | exact (Kd.C_below HR116_4.out HB.out) | (with_reducible refine Kd.C_alloc ?_ _) | (with_reducible refine Kd.C_drewN ?_ _) | (with_reducible refine Kd.C_drew ?_)))
          (case side2 => exact HC116_4.out)
          rintro e w36 ⟨rfl, hb⟩
          refine ⟨_, rfl, ?_⟩
          replace BK114 := Aside0.mk (blk_below BK114.out hb)
          replace BK115 := Aside0.mk (blk_below BK115.out hb)
          replace HB := Aside0.mk (below_step HB.out hb)
          (try clear hb); (try clear hb2); (try clear hk); (try clear hi)
          refine hK.out _ _ ⟨bc BK114 0, bc BK114 1, bc BK114 2, bc BK114 3, bc BK114 4, bc BK114 5, bc BK114 6, bc BK114 7, (hc HB hw116_0), (hc HB hw116_1), (hc HB hw116_2), (hc HB hw116_3), (hc HB hw116_4)⟩ (fun hHeld => ?_)
          clear hK K
          refine noX ?_
          refine puX 6 33 (MK [7, 24]) HT_.out ?_
          refine puX 7 34 (MK [8, 23]) HT_.out ?_
          refine puU 8 35 (MK [9, 22]) HT_.out ?_
          refine puU 9 36 (MK [10, 21]) HT_.out ?_
          refine puU 10 37 (MK [11, 20]) HT_.out ?_
          refine puU 11 38 (MK [12, 19]) HT_.out ?_
          refine puU 12 39 (MK [13, 18]) HT_.out ?_
          refine puU 13 40 (MK [14, 17]) HT_.out ?_
          refine puU 14 41 (MK [15, 16]) HT_.out ?_
          refine puX 15 42 (MK [16, 15]) HT_.out ?_
          refine puX 16 43 (MK [17, 14]) HT_.out ?_
          refine puU 17 44 (MK [18, 13]) HT_.out ?_
          refine puU 18 45 (MK [19, 12]) HT_.out ?_
          refine puU 19 46 (MK [20, 11]) HT_.out ?_
          refine puU 20 47 (MK [21, 10]) HT_.out ?_
          refine puU 21 48 (MK [22, 9]) HT_.out ?_
          refine puU 22 49 (MK [23, 8]) HT_.out ?_
          refine puU 23 50 (MK [24, 7]) HT_.out ?_
          refine puU 24 51 (MK [25, 6]) HT_.out ?_
          refine puU 25 52 (MK [26, 5]) HT_.out ?_
          refine puU 26 53 (MK [27, 4]) HT_.out ?_
          refine puU 27 54 (MK [28, 3]) HT_.out ?_
          refine puU 28 55 (MK [29, 2]) HT_.out ?_
          refine puU 29 56 (MK [30, 1]) HT_.out ?_
          refine puX 30 57 (MK [31]) HT_.out ?_
          refine done_ (done_of HT_.out (by kernel_rfl)) ?_
          try go_wp2
          go_ret
          exact ⟨by first | rfl | (simp [errW_none, errW_some] <;> rfl) | (simp [*, errW_none, errW_some] <;> rfl), HB.out⟩
        ·rw [if_neg c19] at H
         exact absurd H (by simp)
       ·rw [if_neg c18] at H
        exact absurd H (by simp)
      ·rw [if_neg c17] at H
       have c17b0 : decide (x24_2 < (l0_7.length : Int)) = false := decide_eq_false c17
       clear c17
       replace H := Option.bind_eq_some_iff.mp H
       obtain ⟨t122, A370, H⟩ := H
       replace H : (if t122 = true then ((metrics_within.f k2 a1_0 a1_1 a1_2 a1_3 a1_4 a1_5 l1_6 l1_7).bind fun t123 => (if t123 = true then (some 0) else (some 2))) else (some 2)) = some r := H
       have A37 := Aside0.mk A370
       clear A370
       by_cases c38 : t122 = true
       ·subst c38
        rw [if_pos rfl] at H
        replace H := Option.bind_eq_some_iff.mp H
        obtain ⟨t123, A390, H⟩ := H
        replace H : (if t123 = true then (some 0) else (some 2)) = some r := H
        have A39 := Aside0.mk A390
        clear A390
        by_cases c40 : t123 = true
        ·subst c40
         rw [if_pos rfl] at H
         obtain rfl := Option.some.inj H
         have hnb41 := NB114_115.out
         have hnc41 := NB115_114.out
         obtain ⟨hcz42_0, hcz42_1, hcz42_2, hcz42_3, hcz42_4, hcz42_5, hcz42_6, hcz42_7, hfz42_0, hfz42_1, hfz42_2, hfz42_3, hfz42_4, hfz42_5, hfz42_6, hfz42_7⟩ := blk_all8 BK114.out
         go_wp2_with (first | ((with_reducible refine gate_callee (f := 39) rfl ?_); refine goesL_ (some 60) rfl rfl Try.func39 (by kernel_rfl) rfl #[.agg #[.int .i64 a0_0, .int .i64 a0_1, .int .i64 a0_2, .int .i64 a0_3, .int .i64 a0_4, .int .i64 a0_5, .slice A0_6 l0_6.length c0_6, .slice A0_7 l0_7.length c0_7]] rfl upL ?_; (with_reducible refine (metrics_within.calls k2 a0_0 a0_1 a0_2 a0_3 a0_4 a0_5 _ _ l0_6 _ _ l0_7 true _ ?side1 ?side2 ?side3 ?side4 A37.out).mono ?_); (case side1 => repeat (first | exact (Kd.C_below HR0_6.out HB.out) | (with_reducible refine Kd.C_alloc ?_ _) | (with_reducible refine Kd.C_drewN ?_ _) | (with_reducible refine Kd.C_drew ?_))); (case side2 => exact HC0_6.out); (case side3 => repeat (first | exact (Kd.C_below HR0_7.out HB.out) | (with_reducible refine Kd.C_alloc ?_ _) | (with_reducible refine Kd.C_drewN ?_ _) | (with_reducible refine Kd.C_drew ?_))); (case side4 => exact HC0_7.out); rintro e w43 ⟨rfl, hb⟩; refine ⟨_, rfl, ?_⟩; replace BK114 := Aside0.mk (blk_below BK114.out hb); replace BK115 := Aside0.mk (blk_below BK115.out hb); replace HB := Aside0.mk (below_step HB.out hb); (try clear hb; try clear hb2; try clear hk; try clear hi); obtain ⟨hcz44_0, hcz44_1, hcz44_2, hcz44_3, hcz44_4, hcz44_5, hcz44_6, hcz44_7, hfz44_0, hfz44_1, hfz44_2, hfz44_3, hfz44_4, hfz44_5, hfz44_6, hfz44_7⟩ := blk_all8 BK115.out) | (go_at_call 39; (with_reducible refine (metrics_within.calls k2 a1_0 a1_1 a1_2 a1_3 a1_4 a1_5 _ _ l1_6 _ _ l1_7 true _ ?side1 ?side2 ?side3 ?side4 A39.out).mono ?_); (case side1 => repeat (first | exact (Kd.C_below HR1_6.out HB.out) | (with_reducible refine Kd.C_alloc ?_ _) | (with_reducible refine Kd.C_drewN ?_ _) | (with_reducible refine Kd.C_drew ?_))); (case side2 => exact HC1_6.out); (case side3 => repeat (first | exact (Kd.C_below HR1_7.out HB.out) | (with_reducible refine Kd.C_alloc ?_ _) | (with_reducible refine Kd.C_drewN ?_ _) | (with_reducible refine Kd.C_drew ?_))); (case side4 => exact HC1_7.out); rintro e w45 ⟨rfl, hb⟩; replace BK114 := Aside0.mk (blk_below BK114.out hb); replace BK115 := Aside0.mk (blk_below BK115.out hb); replace HB := Aside0.mk (below_step HB.out hb); (try clear hb; try clear hb2; try clear hk; try clear hi)))
         go_ret
         exact ⟨by first | rfl | (simp [errW_none, errW_some] <;> rfl) | (simp [*, errW_none, errW_some] <;> rfl), HB.out⟩
        ·replace c40 := Bool.eq_false_iff.mpr c40
         subst c40
         rw [if_neg (show ¬ (false = true) by decide)] at H
         obtain rfl := Option.some.inj H
         have hnb46 := NB114_115.out
         have hnc46 := NB115_114.out
         obtain ⟨hcz47_0, hcz47_1, hcz47_2, hcz47_3, hcz47_4, hcz47_5, hcz47_6, hcz47_7, hfz47_0, hfz47_1, hfz47_2, hfz47_3, hfz47_4, hfz47_5, hfz47_6, hfz47_7⟩ := blk_all8 BK114.out
         go_wp2_with (first | ((with_reducible refine gate_callee (f := 39) rfl ?_); refine goesL_ (some 60) rfl rfl Try.func39 (by kernel_rfl) rfl #[.agg #[.int .i64 a0_0, .int .i64 a0_1, .int .i64 a0_2, .int .i64 a0_3, .int .i64 a0_4, .int .i64 a0_5, .slice A0_6 l0_6.length c0_6, .slice A0_7 l0_7.length c0_7]] rfl upL ?_; (with_reducible refine (metrics_within.calls k2 a0_0 a0_1 a0_2 a0_3 a0_4 a0_5 _ _ l0_6 _ _ l0_7 true _ ?side1 ?side2 ?side3 ?side4 A37.out).mono ?_); (case side1 => repeat (first | exact (Kd.C_below HR0_6.out HB.out) | (with_reducible refine Kd.C_alloc ?_ _) | (with_reducible refine Kd.C_drewN ?_ _) | (with_reducible refine Kd.C_drew ?_))); (case side2 => exact HC0_6.out); (case side3 => repeat (first | exact (Kd.C_below HR0_7.out HB.out) | (with_reducible refine Kd.C_alloc ?_ _) | (with_reducible refine Kd.C_drewN ?_ _) | (with_reducible refine Kd.C_drew ?_))); (case side4 => exact HC0_7.out); rintro e w48 ⟨rfl, hb⟩; refine ⟨_, rfl, ?_⟩; replace BK114 := Aside0.mk (blk_below BK114.out hb); replace BK115 := Aside0.mk (blk_below BK115.out hb); replace HB := Aside0.mk (below_step HB.out hb); (try clear hb; try clear hb2; try clear hk; try clear hi); obtain ⟨hcz49_0, hcz49_1, hcz49_2, hcz49_3, hcz49_4, hcz49_5, hcz49_6, hcz49_7, hfz49_0, hfz49_1, hfz49_2, hfz49_3, hfz49_4, hfz49_5, hfz49_6, hfz49_7⟩ := blk_all8 BK115.out) | (go_at_call 39; (with_reducible refine (metrics_within.calls k2 a1_0 a1_1 a1_2 a1_3 a1_4 a1_5 _ _ l1_6 _ _ l1_7 false _ ?side1 ?side2 ?side3 ?side4 A39.out).mono ?_); (case side1 => repeat (first | exact (Kd.C_below HR1_6.out HB.out) | (with_reducible refine Kd.C_alloc ?_ _) | (with_reducible refine Kd.C_drewN ?_ _) | (with_reducible refine Kd.C_drew ?_))); (case side2 => exact HC1_6.out); (case side3 => repeat (first | exact (Kd.C_below HR1_7.out HB.out) | (with_reducible refine Kd.C_alloc ?_ _) | (with_reducible refine Kd.C_drewN ?_ _) | (with_reducible refine Kd.C_drew ?_))); (case side4 => exact HC1_7.out); rintro e w50 ⟨rfl, hb⟩; replace BK114 := Aside0.mk (blk_below BK114.out hb); replace BK115 := Aside0.mk (blk_below BK115.out hb); replace HB := Aside0.mk (below_step HB.out hb); (try clear hb; try clear hb2; try clear hk; try clear hi)))
         go_ret
         exact ⟨by first | rfl | (simp [errW_none, errW_some] <;> rfl) | (simp [*, errW_none, errW_some] <;> rfl), HB.out⟩
       ·replace c38 := Bool.eq_false_iff.mpr c38
        subst c38
        rw [if_neg (show ¬ (false = true) by decide)] at H
        obtain rfl := Option.some.inj H
        have hnb51 := NB114_115.out
        have hnc51 := NB115_114.out
        obtain ⟨hcz52_0, hcz52_1, hcz52_2, hcz52_3, hcz52_4, hcz52_5, hcz52_6, hcz52_7, hfz52_0, hfz52_1, hfz52_2, hfz52_3, hfz52_4, hfz52_5, hfz52_6, hfz52_7⟩ := blk_all8 BK114.out
        go_wp2_with (first | ((with_reducible refine gate_callee (f := 39) rfl ?_); refine goesL_ (some 60) rfl rfl Try.func39 (by kernel_rfl) rfl #[.agg #[.int .i64 a0_0, .int .i64 a0_1, .int .i64 a0_2, .int .i64 a0_3, .int .i64 a0_4, .int .i64 a0_5, .slice A0_6 l0_6.length c0_6, .slice A0_7 l0_7.length c0_7]] rfl upL ?_; (with_reducible refine (metrics_within.calls k2 a0_0 a0_1 a0_2 a0_3 a0_4 a0_5 _ _ l0_6 _ _ l0_7 false _ ?side1 ?side2 ?side3 ?side4 A37.out).mono ?_); (case side1 => repeat (first | exact (Kd.C_below HR0_6.out HB.out) | (with_reducible refine Kd.C_alloc ?_ _) | (with_reducible refine Kd.C_drewN ?_ _) | (with_reducible refine Kd.C_drew ?_))); (case side2 => exact HC0_6.out); (case side3 => repeat (first | exact (Kd.C_below HR0_7.out HB.out) | (with_reducible refine Kd.C_alloc ?_ _) | (with_reducible refine Kd.C_drewN ?_ _) | (with_reducible refine Kd.C_drew ?_))); (case side4 => exact HC0_7.out); rintro e w53 ⟨rfl, hb⟩; refine ⟨_, rfl, ?_⟩; replace BK114 := Aside0.mk (blk_below BK114.out hb); replace BK115 := Aside0.mk (blk_below BK115.out hb); replace HB := Aside0.mk (below_step HB.out hb); (try clear hb; try clear hb2; try clear hk; try clear hi)))
        go_ret
        exact ⟨by first | rfl | (simp [errW_none, errW_some] <;> rfl) | (simp [*, errW_none, errW_some] <;> rfl), HB.out⟩

end Go.Proofs.Ytfihdlekeainpaa.Q
