-- By a program of this session (wip/tools/mk.py), out of the kit's print of the translation; Lean checks it.
import Derived.Test.YtfihdlekeainpaaUp2
import Derived.Test.YtfihdlekeainpaaUp
import Derived.Test.YtfihdlekeainpaaShort
import Derived.Test.YtfihdlekeainpaaQ0
import Derived.Test.YtfihdlekeainpaaQ13
import Derived.Test.YtfihdlekeainpaaQ14
import Derived.Test.YtfihdlekeainpaaQ23
import Derived.Test.YtfihdlekeainpaaQ37
import Derived.Test.YtfihdlekeainpaaQ39
namespace Go.Proofs.Ytfihdlekeainpaa.Q
open Go.RowKit Go.Proofs.YtfihdlekeainpaaW.PrintWords Go.Proofs.YtfihdlekeainpaaW.PrintLast Go.Proofs.YtfihdlekeainpaaW.PrintMore
attribute [local go_sem] max2_int min2_int max_two min_two max_three min_three max_four min_four   -- for this text's walks alone
set_option linter.unusedVariables false
set_option linter.unusedSimpArgs false

/-! ### waveletlaw50_MetricsCounts: function 5 -/
def waveletlaw50_MetricsCounts.f (k : Nat) (a0_0 : Int) (a0_1 : Int) (a0_2 : Int) (a0_3 : Int) (l0_4 : List Int) : Option (Bool) := (waveletref02_Few.f a0_0 a0_1 a0_2 a0_3 l0_4).bind fun t445 => (if t445 = true then ((metrics_Histogram.f k a0_0 a0_1 a0_2 a0_3 l0_4).bind fun bt447 => ((waveletref50_Histogram.f k a0_0 a0_1 a0_2 a0_3 l0_4).bind fun bt452 => (if bt447.1 = bt452.1 then (if bt447.2.2 = bt452.2.2 then ((waveletref02_SameInts.f k bt447.2.1 bt452.2.1).bind fun t457 => (if t457 = true then ((waveletlaw50_exampleHolds.f k).bind fun t458 => (some t458)) else (some false))) else (some false)) else (some false)))) else ((waveletlaw50_exampleHolds.f k).bind fun t446 => (some t446)))
theorem waveletlaw50_MetricsCounts.mono : ∀ a0 a1 a2 a3 a4 k, LeO (waveletlaw50_MetricsCounts.f k a0 a1 a2 a3 a4) (waveletlaw50_MetricsCounts.f (k + 1) a0 a1 a2 a3 a4) := by
 intro a0 a1 a2 a3 a4 k
 unfold waveletlaw50_MetricsCounts.f
 repeat' first
   | (with_reducible exact metrics_Histogram.mono _ _ _ _ _ _)
   | (with_reducible exact waveletlaw50_exampleHolds.mono _)
   | (with_reducible exact waveletref02_SameInts.mono _ _ _)
   | (with_reducible exact waveletref50_Histogram.mono _ _ _ _ _ _)
   | (with_reducible exact LeO.refl _)
   | (with_reducible exact LeO.none _)
   | (with_reducible refine LeO.ite ?_ ?_)
   | (with_reducible refine LeO.bind ?_ (fun _ => ?_))
   | exact metrics_Histogram.mono _ _ _ _ _ _
   | exact waveletlaw50_exampleHolds.mono _
   | exact waveletref02_SameInts.mono _ _ _
   | exact waveletref50_Histogram.mono _ _ _ _ _ _
   | exact LeO.none _
   | refine LeO.ite ?_ ?_
   | refine LeO.bind ?_ (fun _ => ?_)
set_option maxHeartbeats 8000000 in
set_option maxRecDepth 100000 in
theorem waveletlaw50_MetricsCounts.calls (k : Nat) (a0_0 : Int) (a0_1 : Int) (a0_2 : Int) (a0_3 : Int) (A0_4 : Option Addr) (c0_4 : Nat) (l0_4 : List Int) (r : Bool) (hr_ : r = true) (w : World) (hr0_4 : Kd.C (Kd.int .i64) w A0_4 l0_4.length l0_4) (hc0_4 : l0_4.length ≤ c0_4) (h : waveletlaw50_MetricsCounts.f k a0_0 a0_1 a0_2 a0_3 l0_4 = some r) :
  Calls Try.prog 5 #[.agg #[.int .i64 a0_0, .int .i64 a0_1, .int .i64 a0_2, .int .i64 a0_3, .slice A0_4 l0_4.length c0_4]] w fun e w' => e = .returned (.bool r) ∧ Below w.heap.size w w' := by
 have hu42 := Try.underlying42
 have HR0_4 := Aside0.mk hr0_4
 have HC0_4 := Aside0.mk hc0_4
 clear hr0_4 hc0_4
 have HB := Aside0.mk (Below.refl w.heap.size w)
 have H : ((waveletref02_Few.f a0_0 a0_1 a0_2 a0_3 l0_4).bind fun t445 => (if t445 = true then ((metrics_Histogram.f k a0_0 a0_1 a0_2 a0_3 l0_4).bind fun bt447 => ((waveletref50_Histogram.f k a0_0 a0_1 a0_2 a0_3 l0_4).bind fun bt452 => (if bt447.1 = bt452.1 then (if bt447.2.2 = bt452.2.2 then ((waveletref02_SameInts.f k bt447.2.1 bt452.2.1).bind fun t457 => (if t457 = true then ((waveletlaw50_exampleHolds.f k).bind fun t458 => (some t458)) else (some false))) else (some false)) else (some false)))) else ((waveletlaw50_exampleHolds.f k).bind fun t446 => (some t446)))) = some r := h
 clear h
 replace H := Option.bind_eq_some_iff.mp H
 obtain ⟨t445, A20, H⟩ := H
 replace H : (if t445 = true then ((metrics_Histogram.f k a0_0 a0_1 a0_2 a0_3 l0_4).bind fun bt447 => ((waveletref50_Histogram.f k a0_0 a0_1 a0_2 a0_3 l0_4).bind fun bt452 => (if bt447.1 = bt452.1 then (if bt447.2.2 = bt452.2.2 then ((waveletref02_SameInts.f k bt447.2.1 bt452.2.1).bind fun t457 => (if t457 = true then ((waveletlaw50_exampleHolds.f k).bind fun t458 => (some t458)) else (some false))) else (some false)) else (some false)))) else ((waveletlaw50_exampleHolds.f k).bind fun t446 => (some t446))) = some r := H
 have A2 := Aside0.mk A20
 clear A20
 by_cases c3 : t445 = true
 ·subst c3
  have H1 : ((metrics_Histogram.f k a0_0 a0_1 a0_2 a0_3 l0_4).bind fun bt447 => ((waveletref50_Histogram.f k a0_0 a0_1 a0_2 a0_3 l0_4).bind fun bt452 => (if bt447.1 = bt452.1 then (if bt447.2.2 = bt452.2.2 then ((waveletref02_SameInts.f k bt447.2.1 bt452.2.1).bind fun t457 => (if t457 = true then ((waveletlaw50_exampleHolds.f k).bind fun t458 => (some t458)) else (some false))) else (some false)) else (some false)))) = some r := by rw [if_pos rfl] at H; exact H
  clear H
  have H := H1
  clear H1
  replace H := Option.bind_eq_some_iff.mp H
  obtain ⟨⟨t447, t448, t451⟩, A40, H⟩ := H
  replace H : ((waveletref50_Histogram.f k a0_0 a0_1 a0_2 a0_3 l0_4).bind fun bt452 => (if t447 = bt452.1 then (if t451 = bt452.2.2 then ((waveletref02_SameInts.f k t448 bt452.2.1).bind fun t457 => (if t457 = true then ((waveletlaw50_exampleHolds.f k).bind fun t458 => (some t458)) else (some false))) else (some false)) else (some false))) = some r := H
  have A4 := Aside0.mk A40
  clear A40
  replace H := Option.bind_eq_some_iff.mp H
  obtain ⟨⟨t452, t453, t456⟩, A50, H⟩ := H
  replace H : (if t447 = t452 then (if t451 = t456 then ((waveletref02_SameInts.f k t448 t453).bind fun t457 => (if t457 = true then ((waveletlaw50_exampleHolds.f k).bind fun t458 => (some t458)) else (some false))) else (some false)) else (some false)) = some r := H
  have A5 := Aside0.mk A50
  clear A50
  by_cases c6 : t447 = t452
  ·rw [if_pos c6] at H
   have c6b0 : (t447 == t452) = true := beq_iff_eq.mpr c6
   have c6b1 : (t447 != t452) = false := bne_eq_false_iff_eq.mpr c6
   clear c6
   by_cases c7 : t451 = t456
   ·rw [if_pos c7] at H
    have c7b0 : (t451 == t456) = true := beq_iff_eq.mpr c7
    have c7b1 : (t451 != t456) = false := bne_eq_false_iff_eq.mpr c7
    clear c7
    replace H := Option.bind_eq_some_iff.mp H
    obtain ⟨t457, A80, H⟩ := H
    replace H : (if t457 = true then ((waveletlaw50_exampleHolds.f k).bind fun t458 => (some t458)) else (some false)) = some r := H
    have A8 := Aside0.mk A80
    clear A80
    by_cases c9 : t457 = true
    ·subst c9
     have H1 : ((waveletlaw50_exampleHolds.f k).bind fun t458 => (some t458)) = some r := by rw [if_pos rfl] at H; exact H
     clear H
     have H := H1
     clear H1
     replace H := Option.bind_eq_some_iff.mp H
     obtain ⟨t458, A100, H⟩ := H
     replace H : (some t458) = some r := H
     have A10 := Aside0.mk A100
     clear A100
     obtain rfl := Option.some.inj H
     go_enter Try.func5, Try.ntmps5
     go_wp2_with (first | ((with_reducible refine gate_dst (N := 1) rfl ?_); refine box_event ?hg (N := 1) ?hd (cs := #[.int .i64 a0_0, .int .i64 a0_1, .int .i64 a0_2, .int .i64 a0_3, .slice A0_4 l0_4.length c0_4]) (t := 42) ?hr ?_; (case hd => rfl); (case hg => rfl); (case hr => first | (go_simp; done) | (go_simp; rfl)); intro gb444 hg w11 hbox hb; have BK444 := Aside0.mk (hbox); have GW444 := Aside0.mk ((by rw [hg]; exact (below_size (upB HB.out)) : w.heap.size ≤ gb444)); have GE444 := Aside0.mk ((by rw [hg]; exact (below_size (upB HB.out)) : w.heap.size ≤ gb444)); replace HB := Aside0.mk (below_step (upB HB.out) hb); clear hb hbox hg; have hcz12_0 : w11.cell? ⟨gb444, 0, none⟩ = some (.int .i64 a0_0) := bc BK444 0; have hcz12_1 : w11.cell? ⟨gb444, 1, none⟩ = some (.int .i64 a0_1) := bc BK444 1; have hcz12_2 : w11.cell? ⟨gb444, 2, none⟩ = some (.int .i64 a0_2) := bc BK444 2; have hcz12_3 : w11.cell? ⟨gb444, 3, none⟩ = some (.int .i64 a0_3) := bc BK444 3; have hcz12_4 : w11.cell? ⟨gb444, 4, none⟩ = some (.slice A0_4 l0_4.length c0_4) := bc BK444 4; have hfz12_0 := blk_frozen BK444.out 0; have hfz12_1 := blk_frozen BK444.out 1; have hfz12_2 := blk_frozen BK444.out 2; have hfz12_3 := blk_frozen BK444.out 3; have hfz12_4 := blk_frozen BK444.out 4) | ((with_reducible refine gate_callee (f := 20) rfl ?_); refine goesL_ (some 10) rfl rfl Try.func20 (by kernel_rfl) rfl #[.agg #[.int .i64 a0_0, .int .i64 a0_1, .int .i64 a0_2, .int .i64 a0_3, .slice A0_4 l0_4.length c0_4]] rfl upL ?_; (with_reducible refine (waveletref02_Few.calls a0_0 a0_1 a0_2 a0_3 _ _ l0_4 true _ ?side1 ?side2 A2.out).mono ?_); (case side1 => repeat (first | exact (Kd.C_below HR0_4.out HB.out) | (with_reducible refine Kd.C_alloc ?_ _) | (with_reducible refine Kd.C_drewN ?_ _) | (with_reducible refine Kd.C_drew ?_))); (case side2 => exact HC0_4.out); rintro e w13 ⟨rfl, hb⟩; refine ⟨_, rfl, ?_⟩; replace BK444 := Aside0.mk (blk_below (g := gb444) (o := .cells #[.int .i64 a0_0, .int .i64 a0_1, .int .i64 a0_2, .int .i64 a0_3, .slice A0_4 l0_4.length c0_4] 42 (0, 0)) (upK BK444.out) hb); replace HB := Aside0.mk (below_step (upB HB.out) hb); (try clear hb; try clear hb2; try clear hk; try clear hi); have hcz14_0 : w13.cell? ⟨gb444, 0, none⟩ = some (.int .i64 a0_0) := bc BK444 0; have hcz14_1 : w13.cell? ⟨gb444, 1, none⟩ = some (.int .i64 a0_1) := bc BK444 1; have hcz14_2 : w13.cell? ⟨gb444, 2, none⟩ = some (.int .i64 a0_2) := bc BK444 2; have hcz14_3 : w13.cell? ⟨gb444, 3, none⟩ = some (.int .i64 a0_3) := bc BK444 3; have hcz14_4 : w13.cell? ⟨gb444, 4, none⟩ = some (.slice A0_4 l0_4.length c0_4) := bc BK444 4; have hfz14_0 := blk_frozen BK444.out 0; have hfz14_1 := blk_frozen BK444.out 1; have hfz14_2 := blk_frozen BK444.out 2; have hfz14_3 := blk_frozen BK444.out 3; have hfz14_4 := blk_frozen BK444.out 4) | ((with_reducible refine gate_callee (f := 21) rfl ?_); refine goesL_ (some 15) rfl rfl Try.func21 (by kernel_rfl) rfl #[.agg #[.int .i64 a0_0, .int .i64 a0_1, .int .i64 a0_2, .int .i64 a0_3, .slice A0_4 l0_4.length c0_4]] rfl upL ?_; (with_reducible refine (metrics_Histogram.calls k a0_0 a0_1 a0_2 a0_3 _ _ l0_4 t447 t448 t451 _ ?side1 ?side2 A4.out).mono ?_); (case side1 => repeat (first | exact (Kd.C_below HR0_4.out HB.out) | (with_reducible refine Kd.C_alloc ?_ _) | (with_reducible refine Kd.C_drewN ?_ _) | (with_reducible refine Kd.C_drew ?_))); (case side2 => exact HC0_4.out); rintro e w15 ⟨v449, rfl, ho0, hb⟩; refine ⟨_, rfl, ?_⟩; have HO450 := Aside0.mk (Kd.R_lower ho0 (below_size (upB HB.out))); replace BK444 := Aside0.mk (blk_below (g := gb444) (o := .cells #[.int .i64 a0_0, .int .i64 a0_1, .int .i64 a0_2, .int .i64 a0_3, .slice A0_4 l0_4.length c0_4] 42 (0, 0)) (upK BK444.out) hb); replace HB := Aside0.mk (below_step (upB HB.out) hb); (try clear hb; try clear hb2; try clear hk; try clear hi; try clear ho0); have hcz16_0 : w15.cell? ⟨gb444, 0, none⟩ = some (.int .i64 a0_0) := bc BK444 0; have hcz16_1 : w15.cell? ⟨gb444, 1, none⟩ = some (.int .i64 a0_1) := bc BK444 1; have hcz16_2 : w15.cell? ⟨gb444, 2, none⟩ = some (.int .i64 a0_2) := bc BK444 2; have hcz16_3 : w15.cell? ⟨gb444, 3, none⟩ = some (.int .i64 a0_3) := bc BK444 3; have hcz16_4 : w15.cell? ⟨gb444, 4, none⟩ = some (.slice A0_4 l0_4.length c0_4) := bc BK444 4; have hfz16_0 := blk_frozen BK444.out 0; have hfz16_1 := blk_frozen BK444.out 1; have hfz16_2 := blk_frozen BK444.out 2; have hfz16_3 := blk_frozen BK444.out 3; have hfz16_4 := blk_frozen BK444.out 4) | ((with_reducible refine gate_callee (f := 22) rfl ?_); refine goesL_ (some 21) rfl rfl Try.func22 (by kernel_rfl) rfl #[.agg #[.int .i64 a0_0, .int .i64 a0_1, .int .i64 a0_2, .int .i64 a0_3, .slice A0_4 l0_4.length c0_4]] rfl upL ?_; (with_reducible refine (waveletref50_Histogram.calls k a0_0 a0_1 a0_2 a0_3 _ _ l0_4 t452 t453 t456 _ ?side1 ?side2 A5.out).mono ?_); (case side1 => repeat (first | exact (Kd.C_below HR0_4.out HB.out) | (with_reducible refine Kd.C_alloc ?_ _) | (with_reducible refine Kd.C_drewN ?_ _) | (with_reducible refine Kd.C_drew ?_))); (case side2 => exact HC0_4.out); rintro e w17 ⟨v454, rfl, ho0, hb⟩; refine ⟨_, rfl, ?_⟩; have HO455 := Aside0.mk (Kd.R_lower (Kd.R_new' ho0 (Kd.R_lt (upR HO450.out))) (below_size (upB HB.out))); replace HO450 := Aside0.mk (Kd.R_elder' (upR HO450.out) (Kd.R_base ho0) hb); replace BK444 := Aside0.mk (blk_below (g := gb444) (o := .cells #[.int .i64 a0_0, .int .i64 a0_1, .int .i64 a0_2, .int .i64 a0_3, .slice A0_4 l0_4.length c0_4] 42 (0, 0)) (upK BK444.out) hb); replace HB := Aside0.mk (below_step (upB HB.out) hb); (try clear hb; try clear hb2; try clear hk; try clear hi; try clear ho0); obtain ⟨Ao18, co18, eo18⟩ := Kd.R_slice HO450.out; subst eo18; obtain ⟨Ao19, co19, eo19⟩ := Kd.R_slice HO455.out; subst eo19) | (go_at_call 23; (with_reducible refine (waveletref02_SameInts.calls k _ _ t448 _ _ t453 true _ ?side1 ?side2 ?side3 ?side4 A8.out).mono ?_); (case side1 => repeat (first | exact (Kd.R_reads' HO450.out).2.2 | (with_reducible refine Kd.C_alloc ?_ _) | (with_reducible refine Kd.C_drewN ?_ _) | (with_reducible refine Kd.C_drew ?_))); (case side2 => exact (Kd.R_reads' HO450.out).2.1); (case side3 => repeat (first | exact (Kd.R_reads' HO455.out).2.2 | (with_reducible refine Kd.C_alloc ?_ _) | (with_reducible refine Kd.C_drewN ?_ _) | (with_reducible refine Kd.C_drew ?_))); (case side4 => exact (Kd.R_reads' HO455.out).2.1); rintro e w' ⟨rfl, ⟨nd, rfl⟩⟩) | (go_at_call 11; (with_reducible refine (waveletlaw50_exampleHolds.calls k  t458 _ A10.out).mono ?_); rintro e w20 ⟨rfl, hb⟩; replace HO450 := Aside0.mk (Kd.R_below (upR HO450.out) hb); replace HO455 := Aside0.mk (Kd.R_below (upR HO455.out) hb); replace BK444 := Aside0.mk (blk_below (g := gb444) (o := .cells #[.int .i64 a0_0, .int .i64 a0_1, .int .i64 a0_2, .int .i64 a0_3, .slice A0_4 l0_4.length c0_4] 42 (0, 0)) (upK BK444.out) hb); replace HB := Aside0.mk (below_step (upB HB.out) hb); (try clear hb; try clear hb2; try clear hk; try clear hi)))
     go_ret
     exact ⟨by first | rfl | (simp [errW_none, errW_some] <;> rfl) | (simp [*, errW_none, errW_some] <;> rfl), HB.out⟩
    ·replace c9 := Bool.eq_false_iff.mpr c9
     subst c9
     have H1 : (some false) = some r := by rw [if_neg (show ¬ (false = true) by decide)] at H; exact H
     exact absurd (Option.some.inj H1) (by rw [hr_]; decide)
   ·rw [if_neg c7] at H
    exact absurd (Option.some.inj H) (by rw [hr_]; decide)
  ·rw [if_neg c6] at H
   exact absurd (Option.some.inj H) (by rw [hr_]; decide)
 ·replace c3 := Bool.eq_false_iff.mpr c3
  subst c3
  have H1 : ((waveletlaw50_exampleHolds.f k).bind fun t446 => (some t446)) = some r := by rw [if_neg (show ¬ (false = true) by decide)] at H; exact H
  clear H
  have H := H1
  clear H1
  replace H := Option.bind_eq_some_iff.mp H
  obtain ⟨t446, A440, H⟩ := H
  replace H : (some t446) = some r := H
  have A44 := Aside0.mk A440
  clear A440
  obtain rfl := Option.some.inj H
  go_enter Try.func5, Try.ntmps5
  go_wp2_with (first | ((with_reducible refine gate_dst (N := 1) rfl ?_); refine box_event ?hg (N := 1) ?hd (cs := #[.int .i64 a0_0, .int .i64 a0_1, .int .i64 a0_2, .int .i64 a0_3, .slice A0_4 l0_4.length c0_4]) (t := 42) ?hr ?_; (case hd => rfl); (case hg => rfl); (case hr => first | (go_simp; done) | (go_simp; rfl)); intro gb444 hg w45 hbox hb; have BK444 := Aside0.mk (hbox); have GW444 := Aside0.mk ((by rw [hg]; exact (below_size HB.out) : w.heap.size ≤ gb444)); have GE444 := Aside0.mk ((by rw [hg]; exact (below_size HB.out) : w.heap.size ≤ gb444)); replace HB := Aside0.mk (below_step HB.out hb); clear hb hbox hg; obtain ⟨hcz46_0, hcz46_1, hcz46_2, hcz46_3, hcz46_4, hfz46_0, hfz46_1, hfz46_2, hfz46_3, hfz46_4⟩ := blk_all5 BK444.out) | ((with_reducible refine gate_callee (f := 20) rfl ?_); refine goesL_ (some 10) rfl rfl Try.func20 (by kernel_rfl) rfl #[.agg #[.int .i64 a0_0, .int .i64 a0_1, .int .i64 a0_2, .int .i64 a0_3, .slice A0_4 l0_4.length c0_4]] rfl upL ?_; (with_reducible refine (waveletref02_Few.calls a0_0 a0_1 a0_2 a0_3 _ _ l0_4 false _ ?side1 ?side2 A2.out).mono ?_); (case side1 => repeat (first | exact (Kd.C_below HR0_4.out HB.out) | (with_reducible refine Kd.C_alloc ?_ _) | (with_reducible refine Kd.C_drewN ?_ _) | (with_reducible refine Kd.C_drew ?_))); (case side2 => exact HC0_4.out); rintro e w47 ⟨rfl, hb⟩; refine ⟨_, rfl, ?_⟩; replace BK444 := Aside0.mk (blk_below BK444.out hb); replace HB := Aside0.mk (below_step HB.out hb); (try clear hb; try clear hb2; try clear hk; try clear hi)) | ((with_reducible refine gate_callee (f := 11) rfl ?_); refine goesL_ (some 12) rfl rfl Try.func11 (by kernel_rfl) rfl #[] rfl upL ?_; (with_reducible refine (waveletlaw50_exampleHolds.calls k  t446 _ A44.out).mono ?_); rintro e w48 ⟨rfl, hb⟩; refine ⟨_, rfl, ?_⟩; replace BK444 := Aside0.mk (blk_below BK444.out hb); replace HB := Aside0.mk (below_step HB.out hb); (try clear hb; try clear hb2; try clear hk; try clear hi)))
  go_ret
  exact ⟨by first | rfl | (simp [errW_none, errW_some] <;> rfl) | (simp [*, errW_none, errW_some] <;> rfl), HB.out⟩

end Go.Proofs.Ytfihdlekeainpaa.Q
