-- By a program of this session (wip/tools/mk.py), out of the kit's print of the translation; Lean checks it.
import Derived.Test.YtbkgcppiipknpaaQ0
import Derived.Test.YtbkgcppiipknpaaQ7
import Derived.Test.YtbkgcppiipknpaaQ11
import Derived.Test.YtbkgcppiipknpaaQ12
import Derived.Test.YtbkgcppiipknpaaQ16
import Derived.Test.YtbkgcppiipknpaaQ22
namespace Go.Proofs.Ytbkgcppiipknpaa.Q
open Go.RowKit Go.Proofs.YtbkgcppiipknpaaW.PrintWords Go.Proofs.YtbkgcppiipknpaaW.PrintLast Go.Proofs.YtbkgcppiipknpaaW.PrintMore
attribute [local go_sem] max2_int min2_int max_two min_two max_three min_three max_four min_four   -- for this text's walks alone
set_option linter.unusedVariables false
set_option linter.unusedSimpArgs false

/-! ### waveletlaw28_MarkerNumbers: function 6 -/
def waveletlaw28_MarkerNumbers.f (k : Nat) (l0 : List Int) (a1 : Int) (a2 : Int) (a3 : Int) : Option (Bool) := if (l0.length : Int) > 1000 then ((waveletlaw28_exampleHolds.f k).bind fun t310 => (some t310)) else ((marker_Uint.f k l0 a1 a2).bind fun bt311 => ((waveletref28_Uint.f k l0 a1 a2).bind fun bt315 => ((marker_ReadUint.f k l0 a3 a2).bind fun bt319 => ((waveletref28_ReadUint.f k l0 a3 a2).bind fun bt321 => (if (strOfNums bt311.1).toList = (strOfNums bt315.1).toList then (if bt311.2 = bt315.2 then (if bt319.1 = bt321.1 then (if bt319.2 = bt321.2 then ((waveletlaw28_exampleHolds.f k).bind fun t323 => (some t323)) else (some false)) else (some false)) else (some false)) else (some false))))))
theorem waveletlaw28_MarkerNumbers.mono : ∀ a0 a1 a2 a3 k, LeO (waveletlaw28_MarkerNumbers.f k a0 a1 a2 a3) (waveletlaw28_MarkerNumbers.f (k + 1) a0 a1 a2 a3) := by
  intro a0 a1 a2 a3 k
  unfold waveletlaw28_MarkerNumbers.f
  repeat' first
      | (with_reducible exact marker_ReadUint.mono _ _ _ _)
      | (with_reducible exact marker_Uint.mono _ _ _ _)
      | (with_reducible exact waveletlaw28_exampleHolds.mono _)
      | (with_reducible exact waveletref28_ReadUint.mono _ _ _ _)
      | (with_reducible exact waveletref28_Uint.mono _ _ _ _)
      | (with_reducible exact LeO.refl _)
      | (with_reducible exact LeO.none _)
      | (with_reducible refine LeO.ite ?_ ?_)
      | (with_reducible refine LeO.bind ?_ (fun _ => ?_))
      | exact marker_ReadUint.mono _ _ _ _
      | exact marker_Uint.mono _ _ _ _
      | exact waveletlaw28_exampleHolds.mono _
      | exact waveletref28_ReadUint.mono _ _ _ _
      | exact waveletref28_Uint.mono _ _ _ _
      | exact LeO.none _
      | refine LeO.ite ?_ ?_
      | refine LeO.bind ?_ (fun _ => ?_)
set_option maxHeartbeats 8000000 in
set_option maxRecDepth 100000 in
theorem waveletlaw28_MarkerNumbers.calls (k : Nat) (A0 : Option Addr) (c0 : Nat) (l0 : List Int) (a1 : Int) (a2 : Int) (a3 : Int) (r : Bool) (hr_ : r = true) (w : World) (hr0 : Kd.C (Kd.int .u8) w A0 l0.length l0) (hc0 : l0.length ≤ c0) (h : waveletlaw28_MarkerNumbers.f k l0 a1 a2 a3 = some r) :
    Calls Try.prog 6 #[.slice A0 l0.length c0, .int .i64 a1, .int .i64 a2, .int .i64 a3] w fun e w' => e = .returned (.bool r) ∧ Below w.heap.size w w' := by
  have HR0 := Aside0.mk hr0
  have HC0 := Aside0.mk hc0
  clear hr0 hc0
  have HB := Aside0.mk (Below.refl w.heap.size w)
  have H : (if (l0.length : Int) > 1000 then ((waveletlaw28_exampleHolds.f k).bind fun t310 => (some t310)) else ((marker_Uint.f k l0 a1 a2).bind fun bt311 => ((waveletref28_Uint.f k l0 a1 a2).bind fun bt315 => ((marker_ReadUint.f k l0 a3 a2).bind fun bt319 => ((waveletref28_ReadUint.f k l0 a3 a2).bind fun bt321 => (if (strOfNums bt311.1).toList = (strOfNums bt315.1).toList then (if bt311.2 = bt315.2 then (if bt319.1 = bt321.1 then (if bt319.2 = bt321.2 then ((waveletlaw28_exampleHolds.f k).bind fun t323 => (some t323)) else (some false)) else (some false)) else (some false)) else (some false))))))) = some r := h
  clear h
  by_cases c5 : (l0.length : Int) > 1000
  · rw [if_pos c5] at H
    have c5b0 : decide (1000 < (l0.length : Int)) = true := decide_eq_true c5
    have c5b1 : decide (1000 < l0.length) = true := decide_eq_true (by omega)
    clear c5
    replace H := Option.bind_eq_some_iff.mp H
    obtain ⟨t310, A60, H⟩ := H
    replace H : (some t310) = some r := H
    have A6 := Aside0.mk A60
    clear A60
    obtain rfl := Option.some.inj H
    go_enter Try.func6, Try.ntmps6
    go_wp2_with (first | ((with_reducible refine gate_callee (f := 14) rfl ?_); refine goesL_ (some 20) rfl rfl Try.func14 (by kernel_rfl) rfl #[] rfl (by (try simp only [List.map_toArray, List.map_cons, List.map_nil]); first | done | rfl | (simp only [List.length_drop, List.length_take]; rfl)) ?_; (with_reducible refine (waveletlaw28_exampleHolds.calls k  t310 _ A6.out).mono ?_); rintro e w7 ⟨rfl, hb⟩; refine ⟨_, rfl, ?_⟩; have n0_ := Aside0.mk (below_step (by repeat (first | (with_reducible first | exact HB.out | apply below_alloc | apply pw_below_drewN | apply below_drew1) | exact HB.out)) hb); clear HB; have HB := n0_; clear n0_; (try clear hb); (try clear hb2); (try clear hk); (try clear hi)))
    go_ret
    exact ⟨by first | rfl | (simp [errW_none, errW_some] <;> rfl) | (simp [*, errW_none, errW_some] <;> rfl), by repeat (first | (with_reducible first | exact HB.out | apply below_alloc | apply pw_below_drewN | apply below_drew1) | exact HB.out)⟩
  · rw [if_neg c5] at H
    have c5b0 : decide (1000 < (l0.length : Int)) = false := decide_eq_false c5
    have c5b1 : decide (1000 < l0.length) = false := decide_eq_false (by omega)
    clear c5
    replace H := Option.bind_eq_some_iff.mp H
    obtain ⟨⟨t311, t312⟩, A80, H⟩ := H
    replace H : ((waveletref28_Uint.f k l0 a1 a2).bind fun bt315 => ((marker_ReadUint.f k l0 a3 a2).bind fun bt319 => ((waveletref28_ReadUint.f k l0 a3 a2).bind fun bt321 => (if (strOfNums t311).toList = (strOfNums bt315.1).toList then (if t312 = bt315.2 then (if bt319.1 = bt321.1 then (if bt319.2 = bt321.2 then ((waveletlaw28_exampleHolds.f k).bind fun t323 => (some t323)) else (some false)) else (some false)) else (some false)) else (some false))))) = some r := H
    have A8 := Aside0.mk A80
    clear A80
    replace H := Option.bind_eq_some_iff.mp H
    obtain ⟨⟨t315, t316⟩, A90, H⟩ := H
    replace H : ((marker_ReadUint.f k l0 a3 a2).bind fun bt319 => ((waveletref28_ReadUint.f k l0 a3 a2).bind fun bt321 => (if (strOfNums t311).toList = (strOfNums t315).toList then (if t312 = t316 then (if bt319.1 = bt321.1 then (if bt319.2 = bt321.2 then ((waveletlaw28_exampleHolds.f k).bind fun t323 => (some t323)) else (some false)) else (some false)) else (some false)) else (some false)))) = some r := H
    have A9 := Aside0.mk A90
    clear A90
    replace H := Option.bind_eq_some_iff.mp H
    obtain ⟨⟨t319, t320⟩, A100, H⟩ := H
    replace H : ((waveletref28_ReadUint.f k l0 a3 a2).bind fun bt321 => (if (strOfNums t311).toList = (strOfNums t315).toList then (if t312 = t316 then (if t319 = bt321.1 then (if t320 = bt321.2 then ((waveletlaw28_exampleHolds.f k).bind fun t323 => (some t323)) else (some false)) else (some false)) else (some false)) else (some false))) = some r := H
    have A10 := Aside0.mk A100
    clear A100
    replace H := Option.bind_eq_some_iff.mp H
    obtain ⟨⟨t321, t322⟩, A110, H⟩ := H
    replace H : (if (strOfNums t311).toList = (strOfNums t315).toList then (if t312 = t316 then (if t319 = t321 then (if t320 = t322 then ((waveletlaw28_exampleHolds.f k).bind fun t323 => (some t323)) else (some false)) else (some false)) else (some false)) else (some false)) = some r := H
    have A11 := Aside0.mk A110
    clear A110
    by_cases c12 : (strOfNums t311).toList = (strOfNums t315).toList
    · rw [if_pos c12] at H
      have c12b0 : ((strOfNums t311).toList == (strOfNums t315).toList) = true := beq_iff_eq.mpr c12
      have c12b1 : ((strOfNums t311).toList != (strOfNums t315).toList) = false := bne_eq_false_iff_eq.mpr c12
      clear c12
      by_cases c13 : t312 = t316
      · rw [if_pos c13] at H
        have c13b0 : (t312 == t316) = true := beq_iff_eq.mpr c13
        have c13b1 : (t312 != t316) = false := bne_eq_false_iff_eq.mpr c13
        clear c13
        by_cases c14 : t319 = t321
        · rw [if_pos c14] at H
          have c14b0 : (t319 == t321) = true := beq_iff_eq.mpr c14
          have c14b1 : (t319 != t321) = false := bne_eq_false_iff_eq.mpr c14
          clear c14
          by_cases c15 : t320 = t322
          · rw [if_pos c15] at H
            have c15b0 : (t320 == t322) = true := beq_iff_eq.mpr c15
            have c15b1 : (t320 != t322) = false := bne_eq_false_iff_eq.mpr c15
            clear c15
            replace H := Option.bind_eq_some_iff.mp H
            obtain ⟨t323, A160, H⟩ := H
            replace H : (some t323) = some r := H
            have A16 := Aside0.mk A160
            clear A160
            obtain rfl := Option.some.inj H
            go_enter Try.func6, Try.ntmps6
            go_wp2_with (first | ((with_reducible refine gate_callee (f := 23) rfl ?_); refine goesL_ (some 25) rfl rfl Try.func23 (by kernel_rfl) rfl #[.slice A0 l0.length c0, .int .i64 a1, .int .i64 a2] rfl (by (try simp only [List.map_toArray, List.map_cons, List.map_nil]); first | done | rfl | (simp only [List.length_drop, List.length_take]; rfl)) ?_; (with_reducible refine (marker_Uint.calls k _ _ l0 a1 a2 t311 t312 _ ?side1 ?side2 A8.out).mono ?_); (case side1 => repeat (first | exact HR0.out | (with_reducible refine Kd.C_alloc ?_ _) | (with_reducible refine Kd.C_drewN ?_ _) | (with_reducible refine Kd.C_drew ?_))); (case side2 => exact HC0.out); rintro e w17 ⟨v313, rfl, ho0, hb⟩; refine ⟨_, rfl, ?_⟩; have n0_ := Aside0.mk (Kd.R_lower ho0 (below_size (by repeat (first | (with_reducible first | exact HB.out | apply below_alloc | apply pw_below_drewN | apply below_drew1) | exact HB.out)))); have n1_ := Aside0.mk (below_step (by repeat (first | (with_reducible first | exact HB.out | apply below_alloc | apply pw_below_drewN | apply below_drew1) | exact HB.out)) hb); clear HB; have HO314 := n0_; have HB := n1_; clear n0_ n1_; (try clear hb); (try clear hb2); (try clear hk); (try clear hi); (try clear ho0)) | ((with_reducible refine gate_callee (f := 24) rfl ?_); refine goesL_ (some 32) rfl rfl Try.func24 (by kernel_rfl) rfl #[.slice A0 l0.length c0, .int .i64 a1, .int .i64 a2] rfl (by (try simp only [List.map_toArray, List.map_cons, List.map_nil]); first | done | rfl | (simp only [List.length_drop, List.length_take]; rfl)) ?_; (with_reducible refine (waveletref28_Uint.calls k _ _ l0 a1 a2 t315 t316 _ ?side1 ?side2 A9.out).mono ?_); (case side1 => repeat (first | exact (Kd.C_below HR0.out HB.out) | (with_reducible refine Kd.C_alloc ?_ _) | (with_reducible refine Kd.C_drewN ?_ _) | (with_reducible refine Kd.C_drew ?_))); (case side2 => exact HC0.out); rintro e w18 ⟨v317, rfl, ho0, hb⟩; refine ⟨_, rfl, ?_⟩; have n0_ := Aside0.mk (Kd.R_elder' (by (with_reducible repeat (first | apply Kd.R_alloc | apply Kd.R_drewN | apply Kd.R_drew)); exact HO314.out) (Kd.R_base ho0) hb); have n1_ := Aside0.mk (Kd.R_lower (Kd.R_new' ho0 (Kd.R_lt (by (with_reducible repeat (first | apply Kd.R_alloc | apply Kd.R_drewN | apply Kd.R_drew)); exact HO314.out))) (below_size (by repeat (first | (with_reducible first | exact HB.out | apply below_alloc | apply pw_below_drewN | apply below_drew1) | exact HB.out)))); have n2_ := Aside0.mk (below_step (by repeat (first | (with_reducible first | exact HB.out | apply below_alloc | apply pw_below_drewN | apply below_drew1) | exact HB.out)) hb); clear HO314; clear HB; have HO314 := n0_; have HO318 := n1_; have HB := n2_; clear n0_ n1_ n2_; (try clear hb); (try clear hb2); (try clear hk); (try clear hi); (try clear ho0)) | ((with_reducible refine gate_callee (f := 25) rfl ?_); refine goesL_ (some 39) rfl rfl Try.func25 (by kernel_rfl) rfl #[.slice A0 l0.length c0, .int .i64 a3, .int .i64 a2] rfl (by (try simp only [List.map_toArray, List.map_cons, List.map_nil]); first | done | rfl | (simp only [List.length_drop, List.length_take]; rfl)) ?_; (with_reducible refine (marker_ReadUint.calls k _ _ l0 a3 a2 t319 t320 _ ?side1 ?side2 A10.out).mono ?_); (case side1 => repeat (first | exact (Kd.C_below HR0.out HB.out) | (with_reducible refine Kd.C_alloc ?_ _) | (with_reducible refine Kd.C_drewN ?_ _) | (with_reducible refine Kd.C_drew ?_))); (case side2 => exact HC0.out); rintro e w' ⟨rfl, ⟨nd, rfl⟩⟩; refine ⟨_, rfl, ?_⟩) | ((with_reducible refine gate_callee (f := 26) rfl ?_); refine goesL_ (some 46) rfl rfl Try.func26 (by kernel_rfl) rfl #[.slice A0 l0.length c0, .int .i64 a3, .int .i64 a2] rfl (by (try simp only [List.map_toArray, List.map_cons, List.map_nil]); first | done | rfl | (simp only [List.length_drop, List.length_take]; rfl)) ?_; (with_reducible refine (waveletref28_ReadUint.calls k _ _ l0 a3 a2 t321 t322 _ ?side1 ?side2 A11.out).mono ?_); (case side1 => repeat (first | exact (Kd.C_below HR0.out (by repeat (first | (with_reducible first | exact HB.out | apply below_alloc | apply pw_below_drewN | apply below_drew1) | exact HB.out))) | (with_reducible refine Kd.C_alloc ?_ _) | (with_reducible refine Kd.C_drewN ?_ _) | (with_reducible refine Kd.C_drew ?_))); (case side2 => exact HC0.out); rintro e w' ⟨rfl, ⟨nd, rfl⟩⟩; refine ⟨_, rfl, ?_⟩; have hcv19 := own_string (P := Try.prog) Try.underlying24 Try.underlying5 Try.underlying9 (Kd.own_of_R HO314.out); have hcv19d := fun n_ : Nat => own_string (P := Try.prog) Try.underlying24 Try.underlying5 Try.underlying9 (Kd.own_of_R (Kd.R_drewN HO314.out n_)); have hcv20 := own_string (P := Try.prog) Try.underlying24 Try.underlying5 Try.underlying9 (Kd.own_of_R HO318.out); have hcv20d := fun n_ : Nat => own_string (P := Try.prog) Try.underlying24 Try.underlying5 Try.underlying9 (Kd.own_of_R (Kd.R_drewN HO318.out n_))) | (go_at_call 14; (with_reducible refine (waveletlaw28_exampleHolds.calls k  t323 _ A16.out).mono ?_); rintro e w21 ⟨rfl, hb⟩; have n0_ := Aside0.mk (Kd.R_below (by (with_reducible repeat (first | apply Kd.R_alloc | apply Kd.R_drewN | apply Kd.R_drew)); exact HO314.out) hb); have n1_ := Aside0.mk (Kd.R_below (by (with_reducible repeat (first | apply Kd.R_alloc | apply Kd.R_drewN | apply Kd.R_drew)); exact HO318.out) hb); have n2_ := Aside0.mk (below_step (by repeat (first | (with_reducible first | exact HB.out | apply below_alloc | apply pw_below_drewN | apply below_drew1) | exact HB.out)) hb); clear HO314; clear HO318; clear HB; have HO314 := n0_; have HO318 := n1_; have HB := n2_; clear n0_ n1_ n2_; (try clear hb); (try clear hb2); (try clear hk); (try clear hi)))
            go_ret
            exact ⟨by first | rfl | (simp [errW_none, errW_some] <;> rfl) | (simp [*, errW_none, errW_some] <;> rfl), by repeat (first | (with_reducible first | exact HB.out | apply below_alloc | apply pw_below_drewN | apply below_drew1) | exact HB.out)⟩
          · rw [if_neg c15] at H
            exact absurd (Option.some.inj H) (by rw [hr_]; decide)
        · rw [if_neg c14] at H
          exact absurd (Option.some.inj H) (by rw [hr_]; decide)
      · rw [if_neg c13] at H
        exact absurd (Option.some.inj H) (by rw [hr_]; decide)
    · rw [if_neg c12] at H
      exact absurd (Option.some.inj H) (by rw [hr_]; decide)
/-- THE ONE PURE STATEMENT of waveletlaw28_MarkerNumbers: yours. -/
def waveletlaw28_MarkerNumbers.Pure : Prop := ∀ (l0 : List Int) (a1 : Int) (a2 : Int) (a3 : Int), l0.length ≤ maxLen → l0.length * 1 ≤ 140737488351232 → (∀ x ∈ l0, (Lit.int .u8 x).wf = true) → (Lit.int .i64 a1).wf = true → (Lit.int .i64 a2).wf = true → (Lit.int .i64 a3).wf = true → ∃ k, waveletlaw28_MarkerNumbers.f k l0 a1 a2 a3 = some true
end Go.Proofs.Ytbkgcppiipknpaa.Q
