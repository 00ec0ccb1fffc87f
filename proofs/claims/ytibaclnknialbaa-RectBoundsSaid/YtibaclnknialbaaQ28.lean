-- By a program of this session (wip/tools/mk.py), out of the kit's print of the translation; Lean checks it.
import Derived.Test.YtibaclnknialbaaQ0
import Derived.Test.YtibaclnknialbaaQ1
import Derived.Test.YtibaclnknialbaaQ12
import Derived.Test.YtibaclnknialbaaQ17
import Derived.Test.YtibaclnknialbaaQ27
namespace Go.Proofs.Ytibaclnknialbaa.Q
open Go.RowKit Go.Proofs.YtibaclnknialbaaW.PrintWords Go.Proofs.YtibaclnknialbaaW.PrintLast Go.Proofs.YtibaclnknialbaaW.PrintMore
attribute [local go_sem] max2_int min2_int max_two min_two max_three min_three max_four min_four   -- for this text's walks alone
set_option linter.unusedVariables false
set_option linter.unusedSimpArgs false

attribute [local go_sem high] eqA26
/-! ### waveletlaw01_RectBounds: function 6 -/
def waveletlaw01_RectBounds.f (k : Nat) (l0 : List (S26)) : Option (Bool) := if (l0.length : Int) > 100 then ((waveletlaw01_exampleHolds.f k).bind fun t298 => (some t298)) else ((rect_Bound.f k l0).bind fun bt299 => ((waveletref01_Bound.f k l0).bind fun bt303 => (if (bt299.1 == bt303.1 && (bt299.2.1 == bt303.2.1 && (bt299.2.2.1 == bt303.2.2.1 && (bt299.2.2.2 == bt303.2.2.2)))) = true then ((waveletlaw01_exampleHolds.f k).bind fun t307 => (some t307)) else (some false))))
theorem waveletlaw01_RectBounds.mono : ∀ a0 k, LeO (waveletlaw01_RectBounds.f k a0) (waveletlaw01_RectBounds.f (k + 1) a0) := by
  intro a0 k
  unfold waveletlaw01_RectBounds.f
  repeat' first
      | (with_reducible exact rect_Bound.mono _ _)
      | (with_reducible exact waveletlaw01_exampleHolds.mono _)
      | (with_reducible exact waveletref01_Bound.mono _ _)
      | (with_reducible exact LeO.refl _)
      | (with_reducible exact LeO.none _)
      | (with_reducible refine LeO.ite ?_ ?_)
      | (with_reducible refine LeO.bind ?_ (fun _ => ?_))
      | exact rect_Bound.mono _ _
      | exact waveletlaw01_exampleHolds.mono _
      | exact waveletref01_Bound.mono _ _
      | exact LeO.none _
      | refine LeO.ite ?_ ?_
      | refine LeO.bind ?_ (fun _ => ?_)
set_option maxHeartbeats 8000000 in
set_option maxRecDepth 100000 in
theorem waveletlaw01_RectBounds.calls (k : Nat) (A0 : Option Addr) (c0 : Nat) (l0 : List (S26)) (r : Bool) (w : World) (hr0 : Kd.C k26 w A0 l0.length l0) (hc0 : l0.length ≤ c0) (h : waveletlaw01_RectBounds.f k l0 = some r) :
    Calls Try.prog 6 #[.slice A0 l0.length c0] w fun e w' => e = .returned (.bool r) ∧ Below w.heap.size w w' := by
  have HR0 := Aside0.mk hr0
  have HC0 := Aside0.mk hc0
  clear hr0 hc0
  have HB := Aside0.mk (Below.refl w.heap.size w)
  have H : (if (l0.length : Int) > 100 then ((waveletlaw01_exampleHolds.f k).bind fun t298 => (some t298)) else ((rect_Bound.f k l0).bind fun bt299 => ((waveletref01_Bound.f k l0).bind fun bt303 => (if (bt299.1 == bt303.1 && (bt299.2.1 == bt303.2.1 && (bt299.2.2.1 == bt303.2.2.1 && (bt299.2.2.2 == bt303.2.2.2)))) = true then ((waveletlaw01_exampleHolds.f k).bind fun t307 => (some t307)) else (some false))))) = some r := h
  clear h
  by_cases c2 : (l0.length : Int) > 100
  · rw [if_pos c2] at H
    have c2b0 : decide (100 < (l0.length : Int)) = true := decide_eq_true c2
    have c2b1 : decide (100 < l0.length) = true := decide_eq_true (by omega)
    clear c2
    replace H := Option.bind_eq_some_iff.mp H
    obtain ⟨t298, A30, H⟩ := H
    replace H : (some t298) = some r := H
    have A3 := Aside0.mk A30
    clear A30
    obtain rfl := Option.some.inj H
    go_enter Try.func6, Try.ntmps6
    go_wp2_with (first | ((with_reducible refine gate_callee (f := 17) rfl ?_); refine goesL_ (some 6) rfl rfl Try.func17 (by kernel_rfl) rfl #[] rfl (by (try simp only [List.map_toArray, List.map_cons, List.map_nil]); first | done | rfl | (simp only [List.length_drop, List.length_take]; rfl)) ?_; (with_reducible refine (waveletlaw01_exampleHolds.calls k  t298 _ A3.out).mono ?_); rintro e w4 ⟨rfl, hb⟩; refine ⟨_, rfl, ?_⟩; have n0_ := Aside0.mk (below_step (by repeat (first | (with_reducible first | exact HB.out | apply below_alloc | apply pw_below_drewN | apply below_drew1) | exact HB.out)) hb); clear HB; have HB := n0_; clear n0_; (try clear hb); (try clear hb2); (try clear hk); (try clear hi)))
    go_ret
    exact ⟨by first | rfl | (simp [errW_none, errW_some] <;> rfl) | (simp [*, errW_none, errW_some] <;> rfl), by repeat (first | (with_reducible first | exact HB.out | apply below_alloc | apply pw_below_drewN | apply below_drew1) | exact HB.out)⟩
  · rw [if_neg c2] at H
    have c2b0 : decide (100 < (l0.length : Int)) = false := decide_eq_false c2
    have c2b1 : decide (100 < l0.length) = false := decide_eq_false (by omega)
    clear c2
    replace H := Option.bind_eq_some_iff.mp H
    obtain ⟨⟨t299, t300, t301, t302⟩, A50, H⟩ := H
    replace H : ((waveletref01_Bound.f k l0).bind fun bt303 => (if (t299 == bt303.1 && (t300 == bt303.2.1 && (t301 == bt303.2.2.1 && (t302 == bt303.2.2.2)))) = true then ((waveletlaw01_exampleHolds.f k).bind fun t307 => (some t307)) else (some false))) = some r := H
    have A5 := Aside0.mk A50
    clear A50
    replace H := Option.bind_eq_some_iff.mp H
    obtain ⟨⟨t303, t304, t305, t306⟩, A60, H⟩ := H
    replace H : (if (t299 == t303 && (t300 == t304 && (t301 == t305 && (t302 == t306)))) = true then ((waveletlaw01_exampleHolds.f k).bind fun t307 => (some t307)) else (some false)) = some r := H
    have A6 := Aside0.mk A60
    clear A60
    by_cases c7 : (t299 == t303 && (t300 == t304 && (t301 == t305 && (t302 == t306)))) = true
    · rw [if_pos c7] at H
      have c7b0 : (t299 == t303 && (t300 == t304 && (t301 == t305 && (t302 == t306)))) = true := c7
      (try (have c7b1 : decide (t299 = t303 && (t300 == t304 && (t301 == t305 && (t302 == t306)))) = true := by simpa using c7))
      (try (have c7b2 : (t299 == t303 && (t300 == t304 && (t301 == t305 && (t302 == t306)))) = true := by simpa using c7))
      clear c7
      replace H := Option.bind_eq_some_iff.mp H
      obtain ⟨t307, A80, H⟩ := H
      replace H : (some t307) = some r := H
      have A8 := Aside0.mk A80
      clear A80
      obtain rfl := Option.some.inj H
      go_enter Try.func6, Try.ntmps6
      go_wp2_with (first | ((with_reducible refine gate_callee (f := 30) rfl ?_); refine goesL_ (some 8) rfl rfl Try.func30 (by kernel_rfl) rfl #[.slice A0 l0.length c0] rfl (by (try simp only [List.map_toArray, List.map_cons, List.map_nil]); first | done | rfl | (simp only [List.length_drop, List.length_take]; rfl)) ?_; (with_reducible refine (rect_Bound.calls k _ _ l0 t299 t300 t301 t302 _ ?side1 ?side2 A5.out).mono ?_); (case side1 => repeat (first | exact HR0.out | (with_reducible refine Kd.C_alloc ?_ _) | (with_reducible refine Kd.C_drewN ?_ _) | (with_reducible refine Kd.C_drew ?_))); (case side2 => exact HC0.out); rintro e w9 ⟨rfl, hb⟩; refine ⟨_, rfl, ?_⟩; have n0_ := Aside0.mk (below_step (by repeat (first | (with_reducible first | exact HB.out | apply below_alloc | apply pw_below_drewN | apply below_drew1) | exact HB.out)) hb); clear HB; have HB := n0_; clear n0_; (try clear hb); (try clear hb2); (try clear hk); (try clear hi)) | ((with_reducible refine gate_callee (f := 31) rfl ?_); refine goesL_ (some 10) rfl rfl Try.func31 (by kernel_rfl) rfl #[.slice A0 l0.length c0] rfl (by (try simp only [List.map_toArray, List.map_cons, List.map_nil]); first | done | rfl | (simp only [List.length_drop, List.length_take]; rfl)) ?_; (with_reducible refine (waveletref01_Bound.calls k _ _ l0 t303 t304 t305 t306 _ ?side1 ?side2 A6.out).mono ?_); (case side1 => repeat (first | exact (Kd.C_below HR0.out HB.out) | (with_reducible refine Kd.C_alloc ?_ _) | (with_reducible refine Kd.C_drewN ?_ _) | (with_reducible refine Kd.C_drew ?_))); (case side2 => exact HC0.out); rintro e w10 ⟨rfl, hb⟩; refine ⟨_, rfl, ?_⟩; have n0_ := Aside0.mk (below_step (by repeat (first | (with_reducible first | exact HB.out | apply below_alloc | apply pw_below_drewN | apply below_drew1) | exact HB.out)) hb); clear HB; have HB := n0_; clear n0_; (try clear hb); (try clear hb2); (try clear hk); (try clear hi)) | (go_at_call 17; (with_reducible refine (waveletlaw01_exampleHolds.calls k  t307 _ A8.out).mono ?_); rintro e w11 ⟨rfl, hb⟩; have n0_ := Aside0.mk (below_step (by repeat (first | (with_reducible first | exact HB.out | apply below_alloc | apply pw_below_drewN | apply below_drew1) | exact HB.out)) hb); clear HB; have HB := n0_; clear n0_; (try clear hb); (try clear hb2); (try clear hk); (try clear hi)))
      go_ret
      exact ⟨by first | rfl | (simp [errW_none, errW_some] <;> rfl) | (simp [*, errW_none, errW_some] <;> rfl), by repeat (first | (with_reducible first | exact HB.out | apply below_alloc | apply pw_below_drewN | apply below_drew1) | exact HB.out)⟩
    · rw [if_neg c7] at H
      have c7b0 : (t299 == t303 && (t300 == t304 && (t301 == t305 && (t302 == t306)))) = false := by simpa using c7
      (try (have c7b1 : decide (t299 = t303 && (t300 == t304 && (t301 == t305 && (t302 == t306)))) = false := by simpa using c7))
      (try (have c7b2 : (t299 == t303 && (t300 == t304 && (t301 == t305 && (t302 == t306)))) = false := by simpa using c7))
      (try (have c7b3 : ¬ (t299 = t303 && (t300 == t304 && (t301 == t305 && (t302 == t306)))) := by simpa using c7))
      clear c7
      obtain rfl := Option.some.inj H
      go_enter Try.func6, Try.ntmps6
      go_wp2_with (first | ((with_reducible refine gate_callee (f := 30) rfl ?_); refine goesL_ (some 8) rfl rfl Try.func30 (by kernel_rfl) rfl #[.slice A0 l0.length c0] rfl (by (try simp only [List.map_toArray, List.map_cons, List.map_nil]); first | done | rfl | (simp only [List.length_drop, List.length_take]; rfl)) ?_; (with_reducible refine (rect_Bound.calls k _ _ l0 t299 t300 t301 t302 _ ?side1 ?side2 A5.out).mono ?_); (case side1 => repeat (first | exact HR0.out | (with_reducible refine Kd.C_alloc ?_ _) | (with_reducible refine Kd.C_drewN ?_ _) | (with_reducible refine Kd.C_drew ?_))); (case side2 => exact HC0.out); rintro e w12 ⟨rfl, hb⟩; refine ⟨_, rfl, ?_⟩; have n0_ := Aside0.mk (below_step (by repeat (first | (with_reducible first | exact HB.out | apply below_alloc | apply pw_below_drewN | apply below_drew1) | exact HB.out)) hb); clear HB; have HB := n0_; clear n0_; (try clear hb); (try clear hb2); (try clear hk); (try clear hi)) | ((with_reducible refine gate_callee (f := 31) rfl ?_); refine goesL_ (some 10) rfl rfl Try.func31 (by kernel_rfl) rfl #[.slice A0 l0.length c0] rfl (by (try simp only [List.map_toArray, List.map_cons, List.map_nil]); first | done | rfl | (simp only [List.length_drop, List.length_take]; rfl)) ?_; (with_reducible refine (waveletref01_Bound.calls k _ _ l0 t303 t304 t305 t306 _ ?side1 ?side2 A6.out).mono ?_); (case side1 => repeat (first | exact (Kd.C_below HR0.out HB.out) | (with_reducible refine Kd.C_alloc ?_ _) | (with_reducible refine Kd.C_drewN ?_ _) | (with_reducible refine Kd.C_drew ?_))); (case side2 => exact HC0.out); rintro e w13 ⟨rfl, hb⟩; refine ⟨_, rfl, ?_⟩; have n0_ := Aside0.mk (below_step (by repeat (first | (with_reducible first | exact HB.out | apply below_alloc | apply pw_below_drewN | apply below_drew1) | exact HB.out)) hb); clear HB; have HB := n0_; clear n0_; (try clear hb); (try clear hb2); (try clear hk); (try clear hi)))
      go_ret
      exact ⟨by first | rfl | (simp [errW_none, errW_some] <;> rfl) | (simp [*, errW_none, errW_some] <;> rfl), by repeat (first | (with_reducible first | exact HB.out | apply below_alloc | apply pw_below_drewN | apply below_drew1) | exact HB.out)⟩

end Go.Proofs.Ytibaclnknialbaa.Q
