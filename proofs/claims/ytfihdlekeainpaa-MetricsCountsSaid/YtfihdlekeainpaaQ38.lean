-- By a program of this session (wip/tools/mk.py), out of the kit's print of the translation; Lean checks it.
import Derived.Test.YtfihdlekeainpaaUp2
import Derived.Test.YtfihdlekeainpaaUp
import Derived.Test.YtfihdlekeainpaaShort
import Derived.Test.YtfihdlekeainpaaQ0
import Derived.Test.YtfihdlekeainpaaQ26
namespace Go.Proofs.Ytfihdlekeainpaa.Q
open Go.RowKit Go.Proofs.YtfihdlekeainpaaW.PrintWords Go.Proofs.YtfihdlekeainpaaW.PrintLast Go.Proofs.YtfihdlekeainpaaW.PrintMore
attribute [local go_sem] max2_int min2_int max_two min_two max_three min_three max_four min_four   -- for this text's walks alone
set_option linter.unusedVariables false
set_option linter.unusedSimpArgs false

/-! ### waveletref02_Limits: function 31 -/
mutual
def waveletref02_Limits.j0 : Nat → Bool → Int → Int → Int → Int → List Int → Option (Int × Int × Bool)
 | 0, _, _, _, _, _, _ => none
 | k + 1, x14, x429000, x429001, x429002, x429003, x429004 => if x14 = true then (some (0, 0, false)) else (if 0 < (x429004.length : Int) then (waveletref02_Limits.l0 k (rd x429004 0) (rd x429004 0) 0 x429000 x429001 x429002 x429003 x429004) else (none))
def waveletref02_Limits.l0 : Nat → Int → Int → Int → Int → Int → Int → Int → List Int → Option (Int × Int × Bool)
 | 0, _, _, _, _, _, _, _, _ => none
 | k + 1, x2, x3, x5, x429000, x429001, x429002, x429003, x429004 => if x5 < (x429004.length : Int) then (if 0 ≤ x5 then (waveletref02_Limits.l0 k (mn x2 (rd x429004 x5)) (mx x3 (rd x429004 x5)) (wrap64 (x5 + 1)) x429000 x429001 x429002 x429003 x429004) else (none)) else (some (x2, x3, true))
end
def waveletref02_Limits.f (k : Nat) (a0_0 : Int) (a0_1 : Int) (a0_2 : Int) (a0_3 : Int) (l0_4 : List Int) : Option (Int × Int × Bool) := (waveletref02_Valid.f a0_0 a0_1 a0_2 a0_3 l0_4).bind fun t429 => (if t429 = true then (waveletref02_Limits.j0 k ((l0_4.length : Int) == 0) a0_0 a0_1 a0_2 a0_3 l0_4) else (waveletref02_Limits.j0 k true a0_0 a0_1 a0_2 a0_3 l0_4))
theorem waveletref02_Limits.mono_l : ∀ k, (∀ y0 y1 y2 y3 y4 y5, LeO (waveletref02_Limits.j0 k y0 y1 y2 y3 y4 y5) (waveletref02_Limits.j0 (k + 1) y0 y1 y2 y3 y4 y5)) ∧ (∀ y0 y1 y2 y3 y4 y5 y6 y7, LeO (waveletref02_Limits.l0 k y0 y1 y2 y3 y4 y5 y6 y7) (waveletref02_Limits.l0 (k + 1) y0 y1 y2 y3 y4 y5 y6 y7))
 | 0 => ⟨fun _ _ _ _ _ _ r h => by simp [waveletref02_Limits.j0] at h, fun _ _ _ _ _ _ _ _ r h => by simp [waveletref02_Limits.l0] at h⟩
 | k + 1 => by
  obtain ⟨ih0, ih1⟩ := waveletref02_Limits.mono_l k
  refine ⟨?_, ?_⟩
  ·intro y0 y1 y2 y3 y4 y5
   unfold waveletref02_Limits.j0
   repeat' first
   | (with_reducible exact ih0 _ _ _ _ _ _)
   | (with_reducible exact ih1 _ _ _ _ _ _ _ _)
   | (with_reducible exact LeO.refl _)
   | (with_reducible exact LeO.none _)
   | (with_reducible refine LeO.ite ?_ ?_)
   | (with_reducible refine LeO.bind ?_ (fun _ => ?_))
   | exact ih0 _ _ _ _ _ _
   | exact ih1 _ _ _ _ _ _ _ _
   | exact LeO.none _
   | refine LeO.ite ?_ ?_
   | refine LeO.bind ?_ (fun _ => ?_)
  ·intro y0 y1 y2 y3 y4 y5 y6 y7
   unfold waveletref02_Limits.l0
   repeat' first
   | (with_reducible exact ih0 _ _ _ _ _ _)
   | (with_reducible exact ih1 _ _ _ _ _ _ _ _)
   | (with_reducible exact LeO.refl _)
   | (with_reducible exact LeO.none _)
   | (with_reducible refine LeO.ite ?_ ?_)
   | (with_reducible refine LeO.bind ?_ (fun _ => ?_))
   | exact ih0 _ _ _ _ _ _
   | exact ih1 _ _ _ _ _ _ _ _
   | exact LeO.none _
   | refine LeO.ite ?_ ?_
   | refine LeO.bind ?_ (fun _ => ?_)
theorem waveletref02_Limits.mono : ∀ a0 a1 a2 a3 a4 k, LeO (waveletref02_Limits.f k a0 a1 a2 a3 a4) (waveletref02_Limits.f (k + 1) a0 a1 a2 a3 a4) := by
 intro a0 a1 a2 a3 a4 k
 obtain ⟨ih0, ih1⟩ := waveletref02_Limits.mono_l k
 unfold waveletref02_Limits.f
 repeat' first
   | (with_reducible exact ih0 _ _ _ _ _ _)
   | (with_reducible exact ih1 _ _ _ _ _ _ _ _)
   | (with_reducible exact LeO.refl _)
   | (with_reducible exact LeO.none _)
   | (with_reducible refine LeO.ite ?_ ?_)
   | (with_reducible refine LeO.bind ?_ (fun _ => ?_))
   | exact ih0 _ _ _ _ _ _
   | exact ih1 _ _ _ _ _ _ _ _
   | exact LeO.none _
   | refine LeO.ite ?_ ?_
   | refine LeO.bind ?_ (fun _ => ?_)
set_option maxHeartbeats 8000000 in
set_option maxRecDepth 100000 in
theorem waveletref02_Limits.calls (k : Nat) (a0_0 : Int) (a0_1 : Int) (a0_2 : Int) (a0_3 : Int) (A0_4 : Option Addr) (c0_4 : Nat) (l0_4 : List Int) (r1 : Int) (r2 : Int) (r3 : Bool) (w : World) (hr0_4 : Kd.C (Kd.int .i64) w A0_4 l0_4.length l0_4) (hc0_4 : l0_4.length ≤ c0_4) (h : waveletref02_Limits.f k a0_0 a0_1 a0_2 a0_3 l0_4 = some (r1, r2, r3)) :
  Calls Try.prog 31 #[.agg #[.int .i64 a0_0, .int .i64 a0_1, .int .i64 a0_2, .int .i64 a0_3, .slice A0_4 l0_4.length c0_4]] w fun e w' => e = .returned (.tuple #[.int .i64 r1, .int .i64 r2, .bool r3]) ∧ Below w.heap.size w w' := by
 have hu42 := Try.underlying42
 have HR0_4 := Aside0.mk hr0_4
 have HC0_4 := Aside0.mk hc0_4
 clear hr0_4 hc0_4
 have HB := Aside0.mk (Below.refl w.heap.size w)
 have H : ((waveletref02_Valid.f a0_0 a0_1 a0_2 a0_3 l0_4).bind fun t429 => (if t429 = true then (waveletref02_Limits.j0 k ((l0_4.length : Int) == 0) a0_0 a0_1 a0_2 a0_3 l0_4) else (waveletref02_Limits.j0 k true a0_0 a0_1 a0_2 a0_3 l0_4))) = some (r1, r2, r3) := h
 clear h
 have HC2 := Aside0.mk H
 clear H
 go_enter Try.func31, Try.ntmps31
 go_upto_region 1 with (first | ((with_reducible refine gate_dst (N := 1) rfl ?_); (try (refine gate_guard (by rfl) ?_; dsimp only)); refine box_event ?hg (N := 1) ?hd (cs := #[.int .i64 a0_0, .int .i64 a0_1, .int .i64 a0_2, .int .i64 a0_3, .slice A0_4 l0_4.length c0_4]) (t := 42) ?hr ?_; (case hd => rfl); (case hg => rfl); (case hr => first | (go_simp; done) | (go_simp; rfl)); intro gb428 hg w3 hbox hb; have BK428 := Aside0.mk (hbox); have GW428 := Aside0.mk ((by rw [hg]; exact (below_size HB.out) : w.heap.size ≤ gb428)); have GE428 := Aside0.mk ((by rw [hg]; exact (below_size HB.out) : w.heap.size ≤ gb428)); replace HB := Aside0.mk (below_step HB.out hb); clear hb hbox hg))
 (try simp only [Act.put, List.setIfInBounds_toArray, List.set_cons_zero, List.set_cons_succ])
 go_cut [14] (fun v14 wc => ∃ (kq : Nat) (x14_1 : Bool), v14 = .bool x14_1 ∧ Aside0 (waveletref02_Limits.j0 kq x14_1 a0_0 a0_1 a0_2 a0_3 l0_4 = some (r1, r2, r3)) ∧ Aside0 (kq ≤ k) ∧ Aside0 (wc.heap[gb428]? = some (.cells #[.int .i64 a0_0, .int .i64 a0_1, .int .i64 a0_2, .int .i64 a0_3, (.slice A0_4 l0_4.length c0_4)] 42 (0, 0))) ∧ Aside0 (Below w.heap.size w wc))
 case first =>
  have H := HC2.out
  clear HC2
  replace H := Option.bind_eq_some_iff.mp H
  obtain ⟨t429, A40, H⟩ := H
  replace H : (if t429 = true then (waveletref02_Limits.j0 k ((l0_4.length : Int) == 0) a0_0 a0_1 a0_2 a0_3 l0_4) else (waveletref02_Limits.j0 k true a0_0 a0_1 a0_2 a0_3 l0_4)) = some (r1, r2, r3) := H
  have A4 := Aside0.mk A40
  clear A40
  by_cases c5 : t429 = true
  ·subst c5
   have H1 : (waveletref02_Limits.j0 k ((l0_4.length : Int) == 0) a0_0 a0_1 a0_2 a0_3 l0_4) = some (r1, r2, r3) := by rw [if_pos rfl] at H; exact H
   clear H
   have H := H1
   clear H1
   have H' := Aside0.mk H
   clear H
   obtain ⟨hcz6_0, hcz6_1, hcz6_2, hcz6_3, hcz6_4, hfz6_0, hfz6_1, hfz6_2, hfz6_3, hfz6_4⟩ := blk_all5 BK428.out
   go_wp2_with (first | ((with_reducible refine gate_callee (f := 40) rfl ?_); refine goesL_ (some 7) rfl rfl Try.func40 (by kernel_rfl) rfl #[.agg #[.int .i64 a0_0, .int .i64 a0_1, .int .i64 a0_2, .int .i64 a0_3, .slice A0_4 l0_4.length c0_4]] rfl upL ?_; (with_reducible refine (waveletref02_Valid.calls a0_0 a0_1 a0_2 a0_3 _ _ l0_4 true _ ?side1 ?side2 A4.out).mono ?_); (case side1 => repeat (first | exact (Kd.C_below HR0_4.out HB.out) | (with_reducible refine Kd.C_alloc ?_ _) | (with_reducible refine Kd.C_drewN ?_ _) | (with_reducible refine Kd.C_drew ?_))); (case side2 => exact HC0_4.out); rintro e w7 ⟨rfl, hb⟩; refine ⟨_, rfl, ?_⟩; replace BK428 := Aside0.mk (blk_below BK428.out hb); replace HB := Aside0.mk (below_step HB.out hb); (try clear hb; try clear hb2; try clear hk; try clear hi); obtain ⟨hcz8_0, hcz8_1, hcz8_2, hcz8_3, hcz8_4, hfz8_0, hfz8_1, hfz8_2, hfz8_3, hfz8_4⟩ := blk_all5 BK428.out))
   go_meet
   case rel => exact ⟨_, (((l0_4.length : Int) == 0)), (by first | rfl | (simp; done) | (simp [*]; done)), H', ⟨by first | omega | exact Nat.le_refl _⟩, ⟨BK428.out⟩, ⟨HB.out⟩⟩
  ·replace c5 := Bool.eq_false_iff.mpr c5
   subst c5
   have H1 : (waveletref02_Limits.j0 k true a0_0 a0_1 a0_2 a0_3 l0_4) = some (r1, r2, r3) := by rw [if_neg (show ¬ (false = true) by decide)] at H; exact H
   clear H
   have H := H1
   clear H1
   have H' := Aside0.mk H
   clear H
   obtain ⟨hcz9_0, hcz9_1, hcz9_2, hcz9_3, hcz9_4, hfz9_0, hfz9_1, hfz9_2, hfz9_3, hfz9_4⟩ := blk_all5 BK428.out
   go_wp2_with (first | ((with_reducible refine gate_callee (f := 40) rfl ?_); refine goesL_ (some 7) rfl rfl Try.func40 (by kernel_rfl) rfl #[.agg #[.int .i64 a0_0, .int .i64 a0_1, .int .i64 a0_2, .int .i64 a0_3, .slice A0_4 l0_4.length c0_4]] rfl upL ?_; (with_reducible refine (waveletref02_Valid.calls a0_0 a0_1 a0_2 a0_3 _ _ l0_4 false _ ?side1 ?side2 A4.out).mono ?_); (case side1 => repeat (first | exact (Kd.C_below HR0_4.out HB.out) | (with_reducible refine Kd.C_alloc ?_ _) | (with_reducible refine Kd.C_drewN ?_ _) | (with_reducible refine Kd.C_drew ?_))); (case side2 => exact HC0_4.out); rintro e w10 ⟨rfl, hb⟩; refine ⟨_, rfl, ?_⟩; replace BK428 := Aside0.mk (blk_below BK428.out hb); replace HB := Aside0.mk (below_step HB.out hb); (try clear hb; try clear hb2; try clear hk; try clear hi)))
   go_meet
   case rel => exact ⟨_, (true), (by first | rfl | (simp; done) | (simp [*]; done)), H', ⟨by first | omega | exact Nat.le_refl _⟩, ⟨BK428.out⟩, ⟨HB.out⟩⟩
 case rest =>
  clear HC2
  try clear p2; try clear c3; try clear c4; try clear c5; try clear hcz6_0; try clear hcz6_1; try clear hcz6_2; try clear hcz6_3; try clear hcz6_4; try clear hcz8_0; try clear hcz8_1; try clear hcz8_2; try clear hcz8_3; try clear hcz8_4; try clear hcz9_0; try clear hcz9_1; try clear hcz9_2; try clear hcz9_3; try clear hcz9_4; try clear hfz6_0; try clear hfz6_1; try clear hfz6_2; try clear hfz6_3; try clear hfz6_4; try clear hfz8_0; try clear hfz8_1; try clear hfz8_2; try clear hfz8_3; try clear hfz8_4; try clear hfz9_0; try clear hfz9_1; try clear hfz9_2; try clear hfz9_3; try clear hfz9_4
  obtain ⟨kq, x14_1, rfl, HA, HJ1, BK428, HB⟩ := hcut
  cases kq with
  | zero => exact absurd HA.out (by simp [waveletref02_Limits.j0])
  | succ kj1 =>
   have H := HA.out
   clear HA
   simp only [waveletref02_Limits.j0] at H
   by_cases c11 : x14_1 = true
   ·subst c11
    have H1 : (some (0, 0, false)) = some (r1, r2, r3) := by rw [if_pos rfl] at H; exact H
    clear H
    have H := H1
    clear H1
    simp only [Option.some.injEq, Prod.mk.injEq] at H
    obtain ⟨rfl, rfl, rfl⟩ := H
    go_wp2
    go_ret3
    exact ⟨by first | rfl | (simp [errW_none, errW_some] <;> rfl) | (simp [*, errW_none, errW_some] <;> rfl), HB.out⟩
   ·replace c11 := Bool.eq_false_iff.mpr c11
    subst c11
    have H1 : (if 0 < (l0_4.length : Int) then (waveletref02_Limits.l0 kj1 (rd l0_4 0) (rd l0_4 0) 0 a0_0 a0_1 a0_2 a0_3 l0_4) else (none)) = some (r1, r2, r3) := by rw [if_neg (show ¬ (false = true) by decide)] at H; exact H
    clear H
    have H := H1
    clear H1
    by_cases c12 : 0 < (l0_4.length : Int)
    ·rw [if_pos c12] at H
     have c12b0 : decide (0 < (l0_4.length : Int)) = true := decide_eq_true c12
     have c12b1 : decide (0 < l0_4.length) = true := decide_eq_true (by omega)
     clear c12
     have H' := Aside0.mk H
     clear H
     obtain ⟨hcz13_0, hcz13_1, hcz13_2, hcz13_3, hcz13_4, hfz13_0, hfz13_1, hfz13_2, hfz13_3, hfz13_4⟩ := blk_all5 BK428.out
     have p430 : 0 ≤ (0 : Int) := (by omega)
     have q430 : 0 < (l0_4.length : Int) := of_decide_eq_true (by first | (with_reducible assumption) | assumption)
     obtain ⟨ad430, e430, hx430_0⟩ := Kd.at_int HR0_4.out 0 p430 q430
     cases e430
     have qi430 : (0 < l0_4.length) = True := eq_true (by omega)
     (try rw [show ((0 : Int)).toNat = 0 from rfl] at hx430_0)
     (try rw [Addr.add_zero'] at hx430_0)
     replace hx430_0 := hc HB hx430_0
     replace p430 := eq_true p430
     replace q430 := eq_true q430
     have p431 : 0 ≤ (0 : Int) := (by omega)
     have q431 : 0 < (l0_4.length : Int) := of_decide_eq_true (by first | (with_reducible assumption) | assumption)
     obtain ⟨ad431, e431, hx431_0⟩ := Kd.at_int HR0_4.out 0 p431 q431
     obtain rfl : ad430 = ad431 := (by injection e431)
     have qi431 : (0 < l0_4.length) = True := eq_true (by omega)
     (try rw [show ((0 : Int)).toNat = 0 from rfl] at hx431_0)
     (try rw [Addr.add_zero'] at hx431_0)
     replace hx431_0 := hc HB hx431_0
     replace p431 := eq_true p431
     replace q431 := eq_true q431
     go_wp2
     go_loopg [2, 3, 5] kj1 (fun kq v2 v3 v5 w' => ∃ (x2_2 : Int) (x3_2 : Int) (x5_2 : Int), v2 = .int .i64 x2_2 ∧ v3 = .int .i64 x3_2 ∧ v5 = .int .i64 x5_2 ∧ Aside0 (waveletref02_Limits.l0 kq x2_2 x3_2 x5_2 a0_0 a0_1 a0_2 a0_3 l0_4 = some (r1, r2, r3)) ∧ Aside0 (kq ≤ kj1) ∧ Aside0 (w'.heap[gb428]? = some (.cells #[.int .i64 a0_0, .int .i64 a0_1, .int .i64 a0_2, .int .i64 a0_3, (.slice (some ad430) l0_4.length c0_4)] 42 (0, 0))) ∧ Aside0 (Below w.heap.size w w'))
     case atStart => exact ⟨(rd l0_4 0), (rd l0_4 0), (0), (by first | rfl | (simp; done) | (simp [*]; done)), (by first | rfl | (simp; done) | (simp [*]; done)), (by first | rfl | (simp; done) | (simp [*]; done)), H', ⟨Nat.le_refl _⟩, ⟨BK428.out⟩, ⟨HB.out⟩⟩
     case round =>
      clear H'
      try clear c1; try clear p2; try clear c3; try clear c4; try clear p4; try clear q4; try clear hx4; try clear qi4; try clear c5; try clear c11; try clear c12; try clear c12b0; try clear c12b1; try clear hcz13_0; try clear hcz13_1; try clear hcz13_2; try clear hcz13_3; try clear hcz13_4; try clear hcz6_0; try clear hcz6_1; try clear hcz6_2; try clear hcz6_3; try clear hcz6_4; try clear hcz8_0; try clear hcz8_1; try clear hcz8_2; try clear hcz8_3; try clear hcz8_4; try clear hcz9_0; try clear hcz9_1; try clear hcz9_2; try clear hcz9_3; try clear hcz9_4; try clear hfz13_0; try clear hfz13_1; try clear hfz13_2; try clear hfz13_3; try clear hfz13_4; try clear hfz6_0; try clear hfz6_1; try clear hfz6_2; try clear hfz6_3; try clear hfz6_4; try clear hfz8_0; try clear hfz8_1; try clear hfz8_2; try clear hfz8_3; try clear hfz8_4; try clear hfz9_0; try clear hfz9_1; try clear hfz9_2; try clear hfz9_3; try clear hfz9_4; try clear hx430_0; try clear hx431_0; try clear p2; try clear p430; try clear p431; try clear q430; try clear q431
      obtain ⟨x2_2, x3_2, x5_2, rfl, rfl, rfl, HA, HK2, BK428, HB⟩ := hrel
      cases gk with
      | zero => exact absurd HA.out (by simp [waveletref02_Limits.l0])
      | succ k2 =>
       have H := HA.out
       clear HA
       simp only [waveletref02_Limits.l0] at H
       by_cases c14 : x5_2 < (l0_4.length : Int)
       ·rw [if_pos c14] at H
        have c14b0 : decide (x5_2 < (l0_4.length : Int)) = true := decide_eq_true c14
        clear c14
        by_cases c15 : 0 ≤ x5_2
        ·rw [if_pos c15] at H
         have c15b0 : decide (0 ≤ x5_2) = true := decide_eq_true c15
         clear c15
         obtain ⟨ji16, hji16⟩ : ∃ j_ : Int, (mn x2_2 (rd l0_4 x5_2)) = j_ := ⟨_, rfl⟩
         replace H : (waveletref02_Limits.l0 k2 ji16 (mx x3_2 (rd l0_4 x5_2)) (wrap64 (x5_2 + 1)) a0_0 a0_1 a0_2 a0_3 l0_4) = some (r1, r2, r3) := by first | (rw [hji16] at H; exact H) | (simp only [hji16] at H ⊢; exact H)
         have hji16_ : (if (rd l0_4 x5_2) < x2_2 then (rd l0_4 x5_2) else x2_2) = ji16 := hji16
         obtain ⟨ji17, hji17⟩ : ∃ j_ : Int, (mx x3_2 (rd l0_4 x5_2)) = j_ := ⟨_, rfl⟩
         replace H : (waveletref02_Limits.l0 k2 ji16 ji17 (wrap64 (x5_2 + 1)) a0_0 a0_1 a0_2 a0_3 l0_4) = some (r1, r2, r3) := by first | (rw [hji17] at H; exact H) | (simp only [hji17] at H ⊢; exact H)
         have hji17_ : (if x3_2 < (rd l0_4 x5_2) then (rd l0_4 x5_2) else x3_2) = ji17 := hji17
         have H' := Aside0.mk H
         clear H
         obtain ⟨hcz18_0, hcz18_1, hcz18_2, hcz18_3, hcz18_4, hfz18_0, hfz18_1, hfz18_2, hfz18_3, hfz18_4⟩ := blk_all5 BK428.out
         have p432 : 0 ≤ (x5_2 : Int) := of_decide_eq_true (by first | (with_reducible assumption) | assumption)
         have q432 : x5_2 < (l0_4.length : Int) := of_decide_eq_true (by first | (with_reducible assumption) | assumption)
         obtain ⟨ad432, e432, hx432_0⟩ := Kd.at_int HR0_4.out x5_2 p432 q432
         obtain rfl : ad430 = ad432 := (by injection e432)
         replace hx432_0 := hc HB hx432_0
         replace p432 := eq_true p432
         replace q432 := eq_true q432
         have p433 : 0 ≤ (x5_2 : Int) := of_decide_eq_true (by first | (with_reducible assumption) | assumption)
         have q433 : x5_2 < (l0_4.length : Int) := of_decide_eq_true (by first | (with_reducible assumption) | assumption)
         obtain ⟨ad433, e433, hx433_0⟩ := Kd.at_int HR0_4.out x5_2 p433 q433
         obtain rfl : ad430 = ad433 := (by injection e433)
         replace hx433_0 := hc HB hx433_0
         replace p433 := eq_true p433
         replace q433 := eq_true q433
         go_wp2
         go_roundg k2
         case measure => have := HJ1.out; have := HK2.out; omega
         case rel => exact ⟨(ji16), (ji17), (wrap64 (x5_2 + 1)), (by first | rfl | (simp; done) | (simp only [← hji16] <;> (first | rfl | simp)) | (simp [*]; done)), (by first | rfl | (simp; done) | (simp only [← hji17] <;> (first | rfl | simp)) | (simp [*]; done)), (by first | rfl | (simp; done) | (simp [*]; done)), H', ⟨by have := HJ1.out; have := HK2.out; omega⟩, ⟨BK428.out⟩, ⟨HB.out⟩⟩
        ·rw [if_neg c15] at H
         exact absurd H (by simp)
       ·rw [if_neg c14] at H
        have c14b0 : decide (x5_2 < (l0_4.length : Int)) = false := decide_eq_false c14
        clear c14
        simp only [Option.some.injEq, Prod.mk.injEq] at H
        obtain ⟨rfl, rfl, rfl⟩ := H
        obtain ⟨hcz19_0, hcz19_1, hcz19_2, hcz19_3, hcz19_4, hfz19_0, hfz19_1, hfz19_2, hfz19_3, hfz19_4⟩ := blk_all5 BK428.out
        go_wp2
        go_ret3
        exact ⟨by first | rfl | (simp [errW_none, errW_some] <;> rfl) | (simp [*, errW_none, errW_some] <;> rfl), HB.out⟩
    ·rw [if_neg c12] at H
     exact absurd H (by simp)

end Go.Proofs.Ytfihdlekeainpaa.Q
