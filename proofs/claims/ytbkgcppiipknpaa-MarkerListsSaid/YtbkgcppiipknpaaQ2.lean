-- By a program of this session (wip/tools/mk.py), out of the kit's print of the translation; Lean checks it.
import Derived.Test.YtbkgcppiipknpaaQ0
namespace Go.Proofs.Ytbkgcppiipknpaa.Q
open Go.RowKit Go.Proofs.YtbkgcppiipknpaaW.PrintWords Go.Proofs.YtbkgcppiipknpaaW.PrintLast Go.Proofs.YtbkgcppiipknpaaW.PrintMore
attribute [local go_sem] max2_int min2_int max_two min_two max_three min_three max_four min_four   -- for this text's walks alone
set_option linter.unusedVariables false
set_option linter.unusedSimpArgs false

/-! ### waveletref28_Known: function 11 -/
def waveletref28_Known.f (a0 : Int) : Option (Bool) := if a0 ≥ 65440 then (if a0 ≤ 65445 then (some true) else (if a0 = 65455 then (some true) else (if a0 ≥ 65456 then (some (decide (a0 ≤ 65458))) else (some false)))) else (if a0 = 65455 then (some true) else (if a0 ≥ 65456 then (some (decide (a0 ≤ 65458))) else (some false)))
set_option maxHeartbeats 8000000 in
set_option maxRecDepth 100000 in
theorem waveletref28_Known.calls (a0 : Int) (r : Bool) (w : World) (h : waveletref28_Known.f a0 = some r) :
    Calls Try.prog 11 #[.int .i64 a0] w fun e w' => e = .returned (.bool r) ∧ Drawn0 w w' := by
  have H : (if a0 ≥ 65440 then (if a0 ≤ 65445 then (some true) else (if a0 = 65455 then (some true) else (if a0 ≥ 65456 then (some (decide (a0 ≤ 65458))) else (some false)))) else (if a0 = 65455 then (some true) else (if a0 ≥ 65456 then (some (decide (a0 ≤ 65458))) else (some false)))) = some r := h
  clear h
  by_cases c2 : a0 ≥ 65440
  · rw [if_pos c2] at H
    have c2b0 : decide (65440 ≤ a0) = true := decide_eq_true c2
    clear c2
    by_cases c3 : a0 ≤ 65445
    · rw [if_pos c3] at H
      have c3b0 : decide (a0 ≤ 65445) = true := decide_eq_true c3
      clear c3
      obtain rfl := Option.some.inj H
      go_enter Try.func11, Try.ntmps11
      go_wp2
      go_ret
      exact ⟨by first | rfl | (simp; done) | (simp [*]; done), by repeat (first | exact Drawn0.refl _ | apply Drawn0.step)⟩
    · rw [if_neg c3] at H
      have c3b0 : decide (a0 ≤ 65445) = false := decide_eq_false c3
      clear c3
      by_cases c4 : a0 = 65455
      · rw [if_pos c4] at H
        have c4b0 : (a0 == 65455) = true := beq_iff_eq.mpr c4
        have c4b1 : (a0 != 65455) = false := bne_eq_false_iff_eq.mpr c4
        clear c4
        obtain rfl := Option.some.inj H
        go_enter Try.func11, Try.ntmps11
        go_wp2
        go_ret
        exact ⟨by first | rfl | (simp; done) | (simp [*]; done), by repeat (first | exact Drawn0.refl _ | apply Drawn0.step)⟩
      · rw [if_neg c4] at H
        have c4b0 : (a0 == 65455) = false := beq_eq_false_iff_ne.mpr c4
        have c4b1 : (a0 != 65455) = true := bne_iff_ne.mpr c4
        by_cases c5 : a0 ≥ 65456
        · rw [if_pos c5] at H
          have c5b0 : decide (65456 ≤ a0) = true := decide_eq_true c5
          clear c5
          obtain rfl := Option.some.inj H
          go_enter Try.func11, Try.ntmps11
          go_wp2
          go_ret
          exact ⟨by first | rfl | (simp; done) | (simp [*]; done), by repeat (first | exact Drawn0.refl _ | apply Drawn0.step)⟩
        · rw [if_neg c5] at H
          have c5b0 : decide (65456 ≤ a0) = false := decide_eq_false c5
          clear c5
          obtain rfl := Option.some.inj H
          go_enter Try.func11, Try.ntmps11
          go_wp2
          go_ret
          exact ⟨by first | rfl | (simp; done) | (simp [*]; done), by repeat (first | exact Drawn0.refl _ | apply Drawn0.step)⟩
  · rw [if_neg c2] at H
    have c2b0 : decide (65440 ≤ a0) = false := decide_eq_false c2
    clear c2
    by_cases c6 : a0 = 65455
    · rw [if_pos c6] at H
      have c6b0 : (a0 == 65455) = true := beq_iff_eq.mpr c6
      have c6b1 : (a0 != 65455) = false := bne_eq_false_iff_eq.mpr c6
      clear c6
      obtain rfl := Option.some.inj H
      go_enter Try.func11, Try.ntmps11
      go_wp2
      go_ret
      exact ⟨by first | rfl | (simp; done) | (simp [*]; done), by repeat (first | exact Drawn0.refl _ | apply Drawn0.step)⟩
    · rw [if_neg c6] at H
      have c6b0 : (a0 == 65455) = false := beq_eq_false_iff_ne.mpr c6
      have c6b1 : (a0 != 65455) = true := bne_iff_ne.mpr c6
      by_cases c7 : a0 ≥ 65456
      · rw [if_pos c7] at H
        have c7b0 : decide (65456 ≤ a0) = true := decide_eq_true c7
        clear c7
        obtain rfl := Option.some.inj H
        go_enter Try.func11, Try.ntmps11
        go_wp2
        go_ret
        exact ⟨by first | rfl | (simp; done) | (simp [*]; done), by repeat (first | exact Drawn0.refl _ | apply Drawn0.step)⟩
      · rw [if_neg c7] at H
        have c7b0 : decide (65456 ≤ a0) = false := decide_eq_false c7
        clear c7
        obtain rfl := Option.some.inj H
        go_enter Try.func11, Try.ntmps11
        go_wp2
        go_ret
        exact ⟨by first | rfl | (simp; done) | (simp [*]; done), by repeat (first | exact Drawn0.refl _ | apply Drawn0.step)⟩

end Go.Proofs.Ytbkgcppiipknpaa.Q
