-- By a program of this session (wip/tools/mk.py), out of the kit's print of the translation; Lean checks it.
import Derived.Test.YtfihdlekeainpaaUp2
import Derived.Test.YtfihdlekeainpaaUp
import Derived.Test.YtfihdlekeainpaaShort
import Derived.Test.YtfihdlekeainpaaQ0
import Derived.Test.YtfihdlekeainpaaQ38
namespace Go.Proofs.Ytfihdlekeainpaa.Q
open Go.RowKit Go.Proofs.YtfihdlekeainpaaW.PrintWords Go.Proofs.YtfihdlekeainpaaW.PrintLast Go.Proofs.YtfihdlekeainpaaW.PrintMore
attribute [local go_sem] max2_int min2_int max_two min_two max_three min_three max_four min_four   -- for this text's walks alone
set_option linter.unusedVariables false
set_option linter.unusedSimpArgs false

/-! ### waveletref50_Histogram: function 22 -/
def waveletref50_Histogram.l0 : Nat → Int → List Int → Int → Int → Int → Int → Int → List Int → Option (Int × List Int × Int)
 | 0, _, _, _, _, _, _, _, _ => none
 | k + 1, x2, x3, x7, x435000, x435001, x435002, x435003, x435004 => if x7 < (x435004.length : Int) then (if 0 ≤ x7 then (if 0 ≤ (wrap64 ((rd x435004 x7) - x2)) then (if (wrap64 ((rd x435004 x7) - x2)) < (x3.length : Int) then (waveletref50_Histogram.l0 k x2 (x3.set ((wrap64 ((rd x435004 x7) - x2)) : Int).toNat (wrap64 ((rd x3 (wrap64 ((rd x435004 x7) - x2))) + 1))) (wrap64 (x7 + 1)) x435000 x435001 x435002 x435003 x435004) else (none)) else (none)) else (none)) else (some (x2, x3, 0))
def waveletref50_Histogram.f (k : Nat) (a0_0 : Int) (a0_1 : Int) (a0_2 : Int) (a0_3 : Int) (l0_4 : List Int) : Option (Int × List Int × Int) := (waveletref02_Limits.f k a0_0 a0_1 a0_2 a0_3 l0_4).bind fun bt435 => (if bt435.2.2 = true then (if (IntKind.u64.wrap ((IntKind.u64.wrap (bt435.2.1)) - (IntKind.u64.wrap (bt435.1)))) ≥ 65536 then (some (0, ([] : List Int), 5)) else (if 0 ≤ (wrap64 ((wrap64 (bt435.2.1 - bt435.1)) + 1)) then (if (wrap64 ((wrap64 (bt435.2.1 - bt435.1)) + 1) : Int).toNat ≤ 35184372088832 then (waveletref50_Histogram.l0 k bt435.1 (List.replicate (wrap64 ((wrap64 (bt435.2.1 - bt435.1)) + 1) : Int).toNat 0) 0 a0_0 a0_1 a0_2 a0_3 l0_4) else (none)) else (none))) else (some (0, ([] : List Int), 1)))
theorem waveletref50_Histogram.mono_l : ∀ k, (∀ y0 y1 y2 y3 y4 y5 y6 y7, LeO (waveletref50_Histogram.l0 k y0 y1 y2 y3 y4 y5 y6 y7) (waveletref50_Histogram.l0 (k + 1) y0 y1 y2 y3 y4 y5 y6 y7))
 | 0 => fun _ _ _ _ _ _ _ _ r h => by simp [waveletref50_Histogram.l0] at h
 | k + 1 => by
  have ih0 := waveletref50_Histogram.mono_l k
  ·intro y0 y1 y2 y3 y4 y5 y6 y7
   unfold waveletref50_Histogram.l0
   repeat' first
   | (with_reducible exact ih0 _ _ _ _ _ _ _ _)
   | (with_reducible exact waveletref02_Limits.mono _ _ _ _ _ _)
   | (with_reducible exact LeO.refl _)
   | (with_reducible exact LeO.none _)
   | (with_reducible refine LeO.ite ?_ ?_)
   | (with_reducible refine LeO.bind ?_ (fun _ => ?_))
   | exact ih0 _ _ _ _ _ _ _ _
   | exact waveletref02_Limits.mono _ _ _ _ _ _
   | exact LeO.none _
   | refine LeO.ite ?_ ?_
   | refine LeO.bind ?_ (fun _ => ?_)
theorem waveletref50_Histogram.mono : ∀ a0 a1 a2 a3 a4 k, LeO (waveletref50_Histogram.f k a0 a1 a2 a3 a4) (waveletref50_Histogram.f (k + 1) a0 a1 a2 a3 a4) := by
 intro a0 a1 a2 a3 a4 k
 have ih0 := waveletref50_Histogram.mono_l k
 unfold waveletref50_Histogram.f
 repeat' first
   | (with_reducible exact ih0 _ _ _ _ _ _ _ _)
   | (with_reducible exact waveletref02_Limits.mono _ _ _ _ _ _)
   | (with_reducible exact LeO.refl _)
   | (with_reducible exact LeO.none _)
   | (with_reducible refine LeO.ite ?_ ?_)
   | (with_reducible refine LeO.bind ?_ (fun _ => ?_))
   | exact ih0 _ _ _ _ _ _ _ _
   | exact waveletref02_Limits.mono _ _ _ _ _ _
   | exact LeO.none _
   | refine LeO.ite ?_ ?_
   | refine LeO.bind ?_ (fun _ => ?_)
set_option maxHeartbeats 8000000 in
set_option maxRecDepth 100000 in
theorem waveletref50_Histogram.calls (k : Nat) (a0_0 : Int) (a0_1 : Int) (a0_2 : Int) (a0_3 : Int) (A0_4 : Option Addr) (c0_4 : Nat) (l0_4 : List Int) (r1 : Int) (r2 : List Int) (r3 : Int) (w : World) (hr0_4 : Kd.C (Kd.int .i64) w A0_4 l0_4.length l0_4) (hc0_4 : l0_4.length ≤ c0_4) (h : waveletref50_Histogram.f k a0_0 a0_1 a0_2 a0_3 l0_4 = some (r1, r2, r3)) :
  Calls Try.prog 22 #[.agg #[.int .i64 a0_0, .int .i64 a0_1, .int .i64 a0_2, .int .i64 a0_3, .slice A0_4 l0_4.length c0_4]] w fun e w' => ∃ v1_ : Value, e = .returned (.tuple #[.int .i64 r1, v1_, .int .i64 r3]) ∧ Kd.R (Kd.int .i64) 3 w' w.heap.size (fun _ => True) v1_ r2 ∧ Below w.heap.size w w' := by
 have hu42 := Try.underlying42
 have HR0_4 := Aside0.mk hr0_4
 have HC0_4 := Aside0.mk hc0_4
 clear hr0_4 hc0_4
 have HB := Aside0.mk (Below.refl w.heap.size w)
 have H : ((waveletref02_Limits.f k a0_0 a0_1 a0_2 a0_3 l0_4).bind fun bt435 => (if bt435.2.2 = true then (if (IntKind.u64.wrap ((IntKind.u64.wrap (bt435.2.1)) - (IntKind.u64.wrap (bt435.1)))) ≥ 65536 then (some (0, ([] : List Int), 5)) else (if 0 ≤ (wrap64 ((wrap64 (bt435.2.1 - bt435.1)) + 1)) then (if (wrap64 ((wrap64 (bt435.2.1 - bt435.1)) + 1) : Int).toNat ≤ 35184372088832 then (waveletref50_Histogram.l0 k bt435.1 (List.replicate (wrap64 ((wrap64 (bt435.2.1 - bt435.1)) + 1) : Int).toNat 0) 0 a0_0 a0_1 a0_2 a0_3 l0_4) else (none)) else (none))) else (some (0, ([] : List Int), 1)))) = some (r1, r2, r3) := h
 clear h
 replace H := Option.bind_eq_some_iff.mp H
 obtain ⟨⟨t435, t436, t437⟩, A20, H⟩ := H
 replace H : (if t437 = true then (if (IntKind.u64.wrap ((IntKind.u64.wrap (t436)) - (IntKind.u64.wrap (t435)))) ≥ 65536 then (some (0, ([] : List Int), 5)) else (if 0 ≤ (wrap64 ((wrap64 (t436 - t435)) + 1)) then (if (wrap64 ((wrap64 (t436 - t435)) + 1) : Int).toNat ≤ 35184372088832 then (waveletref50_Histogram.l0 k t435 (List.replicate (wrap64 ((wrap64 (t436 - t435)) + 1) : Int).toNat 0) 0 a0_0 a0_1 a0_2 a0_3 l0_4) else (none)) else (none))) else (some (0, ([] : List Int), 1))) = some (r1, r2, r3) := H
 have A2 := Aside0.mk A20
 clear A20
 by_cases c3 : t437 = true
 ·subst c3
  have H1 : (if (IntKind.u64.wrap ((IntKind.u64.wrap (t436)) - (IntKind.u64.wrap (t435)))) ≥ 65536 then (some (0, ([] : List Int), 5)) else (if 0 ≤ (wrap64 ((wrap64 (t436 - t435)) + 1)) then (if (wrap64 ((wrap64 (t436 - t435)) + 1) : Int).toNat ≤ 35184372088832 then (waveletref50_Histogram.l0 k t435 (List.replicate (wrap64 ((wrap64 (t436 - t435)) + 1) : Int).toNat 0) 0 a0_0 a0_1 a0_2 a0_3 l0_4) else (none)) else (none))) = some (r1, r2, r3) := by rw [if_pos rfl] at H; exact H
  clear H
  have H := H1
  clear H1
  by_cases c4 : (IntKind.u64.wrap ((IntKind.u64.wrap (t436)) - (IntKind.u64.wrap (t435)))) ≥ 65536
  ·rw [if_pos c4] at H
   have c4b0 : decide (65536 ≤ (IntKind.u64.wrap ((IntKind.u64.wrap (t436)) - (IntKind.u64.wrap (t435))))) = true := decide_eq_true c4
   clear c4
   simp only [Option.some.injEq, Prod.mk.injEq] at H
   obtain ⟨rfl, rfl, rfl⟩ := H
   go_enter Try.func22, Try.ntmps22
   go_wp2_with (first | ((with_reducible refine gate_dst (N := 1) rfl ?_); refine box_event ?hg (N := 1) ?hd (cs := #[.int .i64 a0_0, .int .i64 a0_1, .int .i64 a0_2, .int .i64 a0_3, .slice A0_4 l0_4.length c0_4]) (t := 42) ?hr ?_; (case hd => rfl); (case hg => rfl); (case hr => first | (go_simp; done) | (go_simp; rfl)); intro gb434 hg w5 hbox hb; have BK434 := Aside0.mk (hbox); have GW434 := Aside0.mk ((by rw [hg]; exact (below_size HB.out) : w.heap.size ≤ gb434)); have GE434 := Aside0.mk ((by rw [hg]; exact (below_size HB.out) : w.heap.size ≤ gb434)); replace HB := Aside0.mk (below_step HB.out hb); clear hb hbox hg; obtain ⟨hcz6_0, hcz6_1, hcz6_2, hcz6_3, hcz6_4, hfz6_0, hfz6_1, hfz6_2, hfz6_3, hfz6_4⟩ := blk_all5 BK434.out) | ((with_reducible refine gate_callee (f := 31) rfl ?_); refine goesL_ (some 10) rfl rfl Try.func31 (by kernel_rfl) rfl #[.agg #[.int .i64 a0_0, .int .i64 a0_1, .int .i64 a0_2, .int .i64 a0_3, .slice A0_4 l0_4.length c0_4]] rfl upL ?_; (with_reducible refine (waveletref02_Limits.calls k a0_0 a0_1 a0_2 a0_3 _ _ l0_4 t435 t436 true _ ?side1 ?side2 A2.out).mono ?_); (case side1 => repeat (first | exact (Kd.C_below HR0_4.out HB.out) | (with_reducible refine Kd.C_alloc ?_ _) | (with_reducible refine Kd.C_drewN ?_ _) | (with_reducible refine Kd.C_drew ?_))); (case side2 => exact HC0_4.out); rintro e w7 ⟨rfl, hb⟩; refine ⟨_, rfl, ?_⟩; replace BK434 := Aside0.mk (blk_below BK434.out hb); replace HB := Aside0.mk (below_step HB.out hb); (try clear hb; try clear hb2; try clear hk; try clear hi)))
   go_ret3
   exact ⟨_, by first | rfl | (simp [errW_none, errW_some] <;> rfl) | (simp [*, errW_none, errW_some] <;> rfl), by first | exact Kd.R_nil _ _ _ _ _ | exact Kd.N_nil _ _ _ _ _ | exact Kd.V_nil _ _ _ _ _ | exact Kd.Q_nil _ _ _ _ _ | exact Kd.S_nil _ _ _ _ _, HB.out⟩
  ·rw [if_neg c4] at H
   have c4b0 : decide (65536 ≤ (IntKind.u64.wrap ((IntKind.u64.wrap (t436)) - (IntKind.u64.wrap (t435))))) = false := decide_eq_false c4
   clear c4
   obtain ⟨ji8, hji8⟩ : ∃ j_ : Int, (wrap64 ((wrap64 (t436 - t435)) + 1)) = j_ := ⟨_, rfl⟩
   replace H : (if 0 ≤ (ji8) then (if (ji8 : Int).toNat ≤ 35184372088832 then (waveletref50_Histogram.l0 k t435 (List.replicate (ji8 : Int).toNat 0) 0 a0_0 a0_1 a0_2 a0_3 l0_4) else (none)) else (none)) = some (r1, r2, r3) := by first | (rw [hji8] at H; exact H) | (simp only [hji8] at H ⊢; exact H)
   (try rw [hji8] at A2)
   have hji8w : (IntKind.i64.wrap ((wrap64 (t436 - t435)) + 1)) = ji8 := (i64_w _).trans hji8
   by_cases c9 : 0 ≤ (ji8)
   ·rw [if_pos c9] at H
    have c9b0 := eq_true c9
    have c9b1 : decide (0 ≤ (ji8)) = true := decide_eq_true c9
    clear c9
    by_cases c10 : (ji8 : Int).toNat ≤ 35184372088832
    ·rw [if_pos c10] at H
     have c10b0 := eq_true c10
     have c10b1 : decide ((ji8 : Int).toNat ≤ 35184372088832) = true := decide_eq_true c10
     clear c10
     obtain ⟨y438, hy438⟩ : ∃ y_ : List Int, y_ = (List.replicate (ji8 : Int).toNat 0) := ⟨_, rfl⟩
     replace H : (waveletref50_Histogram.l0 k t435 y438 0 a0_0 a0_1 a0_2 a0_3 l0_4) = some (r1, r2, r3) := by first | (rw [hy438]; with_reducible exact H) | (have H2_ := (Option.bind_some _ _).symm.trans H; rw [hy438]; with_reducible exact H2_) | (have H2_ := (Option.bind_some _ _).symm.trans H; with_reducible exact H2_) | with_reducible exact H | (rw [hy438]; exact H) | exact H
     have Ny438 := Aside0.mk hy438
     clear hy438
     have H' := Aside0.mk H
     clear H
     go_enter Try.func22, Try.ntmps22
     go_wp2_with (first | ((with_reducible refine gate_dst (N := 1) rfl ?_); refine box_event ?hg (N := 1) ?hd (cs := #[.int .i64 a0_0, .int .i64 a0_1, .int .i64 a0_2, .int .i64 a0_3, .slice A0_4 l0_4.length c0_4]) (t := 42) ?hr ?_; (case hd => rfl); (case hg => rfl); (case hr => first | (go_simp; done) | (go_simp; rfl)); intro gb434 hg w11 hbox hb; have BK434 := Aside0.mk (hbox); have GW434 := Aside0.mk ((by rw [hg]; exact (below_size HB.out) : w.heap.size ≤ gb434)); have GE434 := Aside0.mk ((by rw [hg]; exact (below_size HB.out) : w.heap.size ≤ gb434)); replace HB := Aside0.mk (below_step HB.out hb); clear hb hbox hg; obtain ⟨hcz12_0, hcz12_1, hcz12_2, hcz12_3, hcz12_4, hfz12_0, hfz12_1, hfz12_2, hfz12_3, hfz12_4⟩ := blk_all5 BK434.out) | ((with_reducible refine gate_callee (f := 31) rfl ?_); refine goesL_ (some 10) rfl rfl Try.func31 (by kernel_rfl) rfl #[.agg #[.int .i64 a0_0, .int .i64 a0_1, .int .i64 a0_2, .int .i64 a0_3, .slice A0_4 l0_4.length c0_4]] rfl upL ?_; (with_reducible refine (waveletref02_Limits.calls k a0_0 a0_1 a0_2 a0_3 _ _ l0_4 t435 t436 true _ ?side1 ?side2 A2.out).mono ?_); (case side1 => repeat (first | exact (Kd.C_below HR0_4.out HB.out) | (with_reducible refine Kd.C_alloc ?_ _) | (with_reducible refine Kd.C_drewN ?_ _) | (with_reducible refine Kd.C_drew ?_))); (case side2 => exact HC0_4.out); rintro e w13 ⟨rfl, hb⟩; refine ⟨_, rfl, ?_⟩; replace BK434 := Aside0.mk (blk_below BK434.out hb); replace HB := Aside0.mk (below_step HB.out hb); (try clear hb; try clear hb2; try clear hk; try clear hi)) | ((with_reducible refine gate_dst (N := 26) rfl ?_); refine Kd.R_make (Kd.int .i64) _ 3 rfl (N := 26) rfl 40 _ _ rfl ji8 rfl rfl Try.underlying40 (.int .i64 0) 8 info3 rfl (by decide) (by omega) 0 (ok := fun _ => True) (okp := fun _ => True) rfl (fun _ hk => hk) trivial (of_decide_eq_true (by first | (with_reducible assumption) | assumption)) (Nat.le_trans (Nat.mul_le_mul_right _ (of_decide_eq_true (by first | (with_reducible assumption) | assumption) : ji8.toNat ≤ 35184372088832)) (by omega)) (Below.refl _ _) (Nat.le_refl _) ?_; intro v439 w14 ho15 hb hg_ hnew_; clear hg_ hnew_; (first | rw [← Ny438.out] at ho15 | (simp only [Int.reduceToNat] at ho15; rw [← Ny438.out] at ho15)); have HO440 := Aside0.mk (Kd.R_lower ho15 (below_size HB.out)); replace BK434 := Aside0.mk (blk_below BK434.out hb); replace HB := Aside0.mk (below_step HB.out hb); clear hb ho15))
     go_loopg [7] k (fun kq v7 w' => ∃ (x3_1 : List Int) (x7_1 : Int), v7 = .int .i64 x7_1 ∧ Aside0 (waveletref50_Histogram.l0 kq t435 x3_1 x7_1 a0_0 a0_1 a0_2 a0_3 l0_4 = some (r1, r2, r3)) ∧ Aside0 (kq ≤ k) ∧ Aside0 (Kd.R (Kd.int .i64) 3 w' w.heap.size (fun _ => True) v439 x3_1) ∧ Aside0 (w'.heap[gb434]? = some (.cells #[.int .i64 a0_0, .int .i64 a0_1, .int .i64 a0_2, .int .i64 a0_3, (.slice A0_4 l0_4.length c0_4)] 42 (0, 0))) ∧ Aside0 (Below w.heap.size w w'))
     case atStart => exact ⟨(y438), (0), (by first | rfl | (simp; done) | (simp [*]; done)), H', ⟨Nat.le_refl _⟩, ⟨HO440.out⟩, ⟨BK434.out⟩, ⟨HB.out⟩⟩
     case round =>
      clear H'
      try clear c1; try clear c2; try clear p2; try clear c3; try clear c4; try clear c4b0; try clear p6; try clear c9; try clear c9b0; try clear c9b1; try clear c10; try clear c10b0; try clear c10b1; try clear hcz12_0; try clear hcz12_1; try clear hcz12_2; try clear hcz12_3; try clear hcz12_4; try clear hcz6_0; try clear hcz6_1; try clear hcz6_2; try clear hcz6_3; try clear hcz6_4; try clear hfz12_0; try clear hfz12_1; try clear hfz12_2; try clear hfz12_3; try clear hfz12_4; try clear hfz6_0; try clear hfz6_1; try clear hfz6_2; try clear hfz6_3; try clear hfz6_4
      obtain ⟨x3_1, x7_1, rfl, HA, HK1, HO_3, BK434, HB⟩ := hrel
      cases gk with
      | zero => exact absurd HA.out (by simp [waveletref50_Histogram.l0])
      | succ k1 =>
       have H := HA.out
       clear HA
       simp only [waveletref50_Histogram.l0] at H
       by_cases c16 : x7_1 < (l0_4.length : Int)
       ·rw [if_pos c16] at H
        have c16b0 : decide (x7_1 < (l0_4.length : Int)) = true := decide_eq_true c16
        clear c16
        by_cases c17 : 0 ≤ x7_1
        ·rw [if_pos c17] at H
         have c17b0 : decide (0 ≤ x7_1) = true := decide_eq_true c17
         clear c17
         obtain ⟨ji18, hji18⟩ : ∃ j_ : Int, (wrap64 ((rd l0_4 x7_1) - t435)) = j_ := ⟨_, rfl⟩
         replace H : (if 0 ≤ (ji18) then (if (ji18) < (x3_1.length : Int) then (waveletref50_Histogram.l0 k1 t435 (x3_1.set ((ji18) : Int).toNat (wrap64 ((rd x3_1 (ji18)) + 1))) (wrap64 (x7_1 + 1)) a0_0 a0_1 a0_2 a0_3 l0_4) else (none)) else (none)) = some (r1, r2, r3) := by first | (rw [hji18] at H; exact H) | (simp only [hji18] at H ⊢; exact H)
         have hji18w : (IntKind.i64.wrap ((rd l0_4 x7_1) - t435)) = ji18 := (i64_w _).trans hji18
         by_cases c19 : 0 ≤ (ji18)
         ·rw [if_pos c19] at H
          have c19b0 : decide (0 ≤ (ji18)) = true := decide_eq_true c19
          clear c19
          by_cases c20 : (ji18) < (x3_1.length : Int)
          ·rw [if_pos c20] at H
           have c20b0 : decide ((ji18) < (x3_1.length : Int)) = true := decide_eq_true c20
           clear c20
           obtain ⟨y443, hy443⟩ : ∃ y_ : List Int, y_ = (x3_1.set ((ji18) : Int).toNat (wrap64 ((rd x3_1 (ji18)) + 1))) := ⟨_, rfl⟩
           replace H : (waveletref50_Histogram.l0 k1 t435 y443 (wrap64 (x7_1 + 1)) a0_0 a0_1 a0_2 a0_3 l0_4) = some (r1, r2, r3) := by first | (rw [hy443]; with_reducible exact H) | (have H2_ := (Option.bind_some _ _).symm.trans H; rw [hy443]; with_reducible exact H2_) | (have H2_ := (Option.bind_some _ _).symm.trans H; with_reducible exact H2_) | with_reducible exact H | (rw [hy443]; exact H) | exact H
           have Ny443 := Aside0.mk hy443
           clear hy443
           have H' := Aside0.mk H
           clear H
           obtain ⟨hcz22_0, hcz22_1, hcz22_2, hcz22_3, hcz22_4, hfz22_0, hfz22_1, hfz22_2, hfz22_3, hfz22_4⟩ := blk_all5 BK434.out
           have p441 : 0 ≤ (x7_1 : Int) := of_decide_eq_true (by first | (with_reducible assumption) | assumption)
           have q441 : x7_1 < (l0_4.length : Int) := of_decide_eq_true (by first | (with_reducible assumption) | assumption)
           obtain ⟨ad441, e441, hx441_0⟩ := Kd.at_int HR0_4.out x7_1 p441 q441
           cases e441
           replace hx441_0 := hc HB hx441_0
           replace p441 := eq_true p441
           replace q441 := eq_true q441
           obtain ⟨Ao23, co23, eo23⟩ := Kd.R_slice HO_3.out
           subst eo23
           have p442 : 0 ≤ ((ji18) : Int) := of_decide_eq_true (by first | (with_reducible assumption) | assumption)
           have q442 : (ji18) < (x3_1.length : Int) := of_decide_eq_true (by first | (with_reducible assumption) | assumption)
           obtain ⟨ad442, e442, hx442_0⟩ := Kd.at_int (Kd.R_reads' HO_3.out).2.2 (ji18) p442 q442
           cases e442
           replace p442 := eq_true p442
           replace q442 := eq_true q442
           have p21 : 0 ≤ ((ji18) : Int) := of_decide_eq_true (by first | (with_reducible assumption) | assumption)
           have q21 : ((ji18) : Int) < ((x3_1.length : Int) : Int) := of_decide_eq_true (by first | (with_reducible assumption) | assumption)
           obtain ⟨go21, co21, eo21, gb21, gl21, cl21, HG21⟩ := Kd.R_form HO_3.out (by omega)
           (first | cases eo21 | (injection eo21 with ea_ en_ ec_; (first | subst ea_ | (injection ea_ with ea_; subst ea_)); subst ec_; clear en_))
           have GB21 := Aside0.mk gb21
           have GG21 := Aside0.mk HG21
           clear gb21 gl21 HG21
           (first | simp only [add_plain] at hx442_0 | skip)
           obtain ⟨hx21_0, hf21_0⟩ := Kd.R_celln 0 HO_3.out ((ji18) : Int) p21 q21
           replace p21 := eq_true p21
           replace q21 := eq_true q21
           have HP24 := Kd.R_putg HO_3.out ((ji18) : Int) (wrap64 ((rd x3_1 (ji18)) + 1))
           go_wp2_with (first | ((with_reducible refine gate_store (t := 3) (p := 45) rfl ?_); refine store_event (t := 3) (p := 45) (v := ?vo_w25) (w1 := (wr.setCell ⟨go21, ((ji18) : Int).toNat, none⟩ (.int .i64 (wrap64 ((rd x3_1 (ji18)) + 1))))) ?hg ?ho ?hn ?hr ?_; (case ho => rfl); (case hg => rfl); (case hn => rfl); (case hr => first | (go_simp; done) | (go_simp; rfl)); intro w25 hw; have hg : wr.grownBy w25 (some go21) := (by rw [hw]; exact HP24.2); have hp_ : Kd.R (Kd.int .i64) 3 w25 w.heap.size (fun _ => True) (.slice (some ⟨go21, 0, none⟩) x3_1.length co23) y443 := (by rw [hw, Ny443.out]; exact HP24.1); clear HP24; replace BK434 := Aside0.mk (blk_grown (g := gb434) (o := .cells #[.int .i64 a0_0, .int .i64 a0_1, .int .i64 a0_2, .int .i64 a0_3, .slice (some ad441) l0_4.length c0_4] 42 (0, 0)) BK434.out hg (Kd.R_ne HO_3.out BK434.out (by decide))); replace HO_3 := Aside0.mk (hp_); replace HB := Aside0.mk ((by rw [hw]; exact below_set (HB.out) GB21.out : Below w.heap.size w w25)); clear hg hw hp_))
           go_roundg k1
           case measure => have := HK1.out; omega
           case rel => exact ⟨(y443), (wrap64 (x7_1 + 1)), (by first | rfl | (simp; done) | (simp [*]; done)), H', ⟨by have := HK1.out; omega⟩, ⟨HO_3.out⟩, ⟨BK434.out⟩, ⟨HB.out⟩⟩
          ·rw [if_neg c20] at H
           exact absurd H (by simp)
         ·rw [if_neg c19] at H
          exact absurd H (by simp)
        ·rw [if_neg c17] at H
         exact absurd H (by simp)
       ·rw [if_neg c16] at H
        have c16b0 : decide (x7_1 < (l0_4.length : Int)) = false := decide_eq_false c16
        clear c16
        simp only [Option.some.injEq, Prod.mk.injEq] at H
        obtain ⟨rfl, rfl, rfl⟩ := H
        obtain ⟨hcz26_0, hcz26_1, hcz26_2, hcz26_3, hcz26_4, hfz26_0, hfz26_1, hfz26_2, hfz26_3, hfz26_4⟩ := blk_all5 BK434.out
        go_wp2
        go_ret3
        exact ⟨_, by first | rfl | (simp [errW_none, errW_some] <;> rfl) | (simp only [← hji8]; first | rfl | (simp [errW_none, errW_some] <;> rfl)) | (simp [*, errW_none, errW_some] <;> rfl), HO_3.out, HB.out⟩
    ·rw [if_neg c10] at H
     exact absurd H (by simp)
   ·rw [if_neg c9] at H
    exact absurd H (by simp)
 ·replace c3 := Bool.eq_false_iff.mpr c3
  subst c3
  have H1 : (some (0, ([] : List Int), 1)) = some (r1, r2, r3) := by rw [if_neg (show ¬ (false = true) by decide)] at H; exact H
  clear H
  have H := H1
  clear H1
  simp only [Option.some.injEq, Prod.mk.injEq] at H
  obtain ⟨rfl, rfl, rfl⟩ := H
  go_enter Try.func22, Try.ntmps22
  go_wp2_with (first | ((with_reducible refine gate_dst (N := 1) rfl ?_); refine box_event ?hg (N := 1) ?hd (cs := #[.int .i64 a0_0, .int .i64 a0_1, .int .i64 a0_2, .int .i64 a0_3, .slice A0_4 l0_4.length c0_4]) (t := 42) ?hr ?_; (case hd => rfl); (case hg => rfl); (case hr => first | (go_simp; done) | (go_simp; rfl)); intro gb434 hg w27 hbox hb; have BK434 := Aside0.mk (hbox); have GW434 := Aside0.mk ((by rw [hg]; exact (below_size HB.out) : w.heap.size ≤ gb434)); have GE434 := Aside0.mk ((by rw [hg]; exact (below_size HB.out) : w.heap.size ≤ gb434)); replace HB := Aside0.mk (below_step HB.out hb); clear hb hbox hg; obtain ⟨hcz28_0, hcz28_1, hcz28_2, hcz28_3, hcz28_4, hfz28_0, hfz28_1, hfz28_2, hfz28_3, hfz28_4⟩ := blk_all5 BK434.out) | ((with_reducible refine gate_callee (f := 31) rfl ?_); refine goesL_ (some 10) rfl rfl Try.func31 (by kernel_rfl) rfl #[.agg #[.int .i64 a0_0, .int .i64 a0_1, .int .i64 a0_2, .int .i64 a0_3, .slice A0_4 l0_4.length c0_4]] rfl upL ?_; (with_reducible refine (waveletref02_Limits.calls k a0_0 a0_1 a0_2 a0_3 _ _ l0_4 t435 t436 false _ ?side1 ?side2 A2.out).mono ?_); (case side1 => repeat (first | exact (Kd.C_below HR0_4.out HB.out) | (with_reducible refine Kd.C_alloc ?_ _) | (with_reducible refine Kd.C_drewN ?_ _) | (with_reducible refine Kd.C_drew ?_))); (case side2 => exact HC0_4.out); rintro e w29 ⟨rfl, hb⟩; refine ⟨_, rfl, ?_⟩; replace BK434 := Aside0.mk (blk_below BK434.out hb); replace HB := Aside0.mk (below_step HB.out hb); (try clear hb; try clear hb2; try clear hk; try clear hi)))
  go_ret3
  exact ⟨_, by first | rfl | (simp [errW_none, errW_some] <;> rfl) | (simp [*, errW_none, errW_some] <;> rfl), by first | exact Kd.R_nil _ _ _ _ _ | exact Kd.N_nil _ _ _ _ _ | exact Kd.V_nil _ _ _ _ _ | exact Kd.Q_nil _ _ _ _ _ | exact Kd.S_nil _ _ _ _ _, HB.out⟩

end Go.Proofs.Ytfihdlekeainpaa.Q
