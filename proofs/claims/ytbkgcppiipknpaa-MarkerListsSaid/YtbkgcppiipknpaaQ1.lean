-- By a program of this session (wip/tools/mk.py), out of the kit's print of the translation; Lean checks it.
import Derived.Test.YtbkgcppiipknpaaQ0
namespace Go.Proofs.Ytbkgcppiipknpaa.Q
open Go.RowKit Go.Proofs.YtbkgcppiipknpaaW.PrintWords Go.Proofs.YtbkgcppiipknpaaW.PrintLast Go.Proofs.YtbkgcppiipknpaaW.PrintMore
attribute [local go_sem] max2_int min2_int max_two min_two max_three min_three max_four min_four   -- for this text's walks alone
set_option linter.unusedVariables false
set_option linter.unusedSimpArgs false

/-! ### marker_Known: function 10 -/
def marker_Known.f (a0 : Int) : Option (Bool) := if a0 = 65440 then (some true) else (if a0 = 65441 then (some true) else (if a0 = 65442 then (some true) else (if a0 = 65443 then (some true) else (if a0 = 65444 then (some true) else (if a0 = 65445 then (some true) else (if a0 = 65455 then (some true) else (if a0 = 65456 then (some true) else (if a0 = 65457 then (some true) else (if a0 = 65458 then (some true) else (some false))))))))))
set_option maxHeartbeats 8000000 in
set_option maxRecDepth 100000 in
theorem marker_Known.calls (a0 : Int) (r : Bool) (w : World) (h : marker_Known.f a0 = some r) :
    Calls Try.prog 10 #[.int .i64 a0] w fun e w' => e = .returned (.bool r) ∧ Drawn0 w w' := by
  have H : (if a0 = 65440 then (some true) else (if a0 = 65441 then (some true) else (if a0 = 65442 then (some true) else (if a0 = 65443 then (some true) else (if a0 = 65444 then (some true) else (if a0 = 65445 then (some true) else (if a0 = 65455 then (some true) else (if a0 = 65456 then (some true) else (if a0 = 65457 then (some true) else (if a0 = 65458 then (some true) else (some false))))))))))) = some r := h
  clear h
  by_cases c2 : a0 = 65440
  · rw [if_pos c2] at H
    have c2b0 : (a0 == 65440) = true := beq_iff_eq.mpr c2
    have c2b1 : (a0 != 65440) = false := bne_eq_false_iff_eq.mpr c2
    clear c2
    obtain rfl := Option.some.inj H
    go_enter Try.func10, Try.ntmps10
    go_wp2
    go_ret
    exact ⟨by first | rfl | (simp; done) | (simp [*]; done), by repeat (first | exact Drawn0.refl _ | apply Drawn0.step)⟩
  · rw [if_neg c2] at H
    have c2b0 : (a0 == 65440) = false := beq_eq_false_iff_ne.mpr c2
    have c2b1 : (a0 != 65440) = true := bne_iff_ne.mpr c2
    by_cases c3 : a0 = 65441
    · rw [if_pos c3] at H
      have c3b0 : (a0 == 65441) = true := beq_iff_eq.mpr c3
      have c3b1 : (a0 != 65441) = false := bne_eq_false_iff_eq.mpr c3
      clear c3
      obtain rfl := Option.some.inj H
      go_enter Try.func10, Try.ntmps10
      go_wp2
      go_ret
      exact ⟨by first | rfl | (simp; done) | (simp [*]; done), by repeat (first | exact Drawn0.refl _ | apply Drawn0.step)⟩
    · rw [if_neg c3] at H
      have c3b0 : (a0 == 65441) = false := beq_eq_false_iff_ne.mpr c3
      have c3b1 : (a0 != 65441) = true := bne_iff_ne.mpr c3
      by_cases c4 : a0 = 65442
      · rw [if_pos c4] at H
        have c4b0 : (a0 == 65442) = true := beq_iff_eq.mpr c4
        have c4b1 : (a0 != 65442) = false := bne_eq_false_iff_eq.mpr c4
        clear c4
        obtain rfl := Option.some.inj H
        go_enter Try.func10, Try.ntmps10
        go_wp2
        go_ret
        exact ⟨by first | rfl | (simp; done) | (simp [*]; done), by repeat (first | exact Drawn0.refl _ | apply Drawn0.step)⟩
      · rw [if_neg c4] at H
        have c4b0 : (a0 == 65442) = false := beq_eq_false_iff_ne.mpr c4
        have c4b1 : (a0 != 65442) = true := bne_iff_ne.mpr c4
        by_cases c5 : a0 = 65443
        · rw [if_pos c5] at H
          have c5b0 : (a0 == 65443) = true := beq_iff_eq.mpr c5
          have c5b1 : (a0 != 65443) = false := bne_eq_false_iff_eq.mpr c5
          clear c5
          obtain rfl := Option.some.inj H
          go_enter Try.func10, Try.ntmps10
          go_wp2
          go_ret
          exact ⟨by first | rfl | (simp; done) | (simp [*]; done), by repeat (first | exact Drawn0.refl _ | apply Drawn0.step)⟩
        · rw [if_neg c5] at H
          have c5b0 : (a0 == 65443) = false := beq_eq_false_iff_ne.mpr c5
          have c5b1 : (a0 != 65443) = true := bne_iff_ne.mpr c5
          by_cases c6 : a0 = 65444
          · rw [if_pos c6] at H
            have c6b0 : (a0 == 65444) = true := beq_iff_eq.mpr c6
            have c6b1 : (a0 != 65444) = false := bne_eq_false_iff_eq.mpr c6
            clear c6
            obtain rfl := Option.some.inj H
            go_enter Try.func10, Try.ntmps10
            go_wp2
            go_ret
            exact ⟨by first | rfl | (simp; done) | (simp [*]; done), by repeat (first | exact Drawn0.refl _ | apply Drawn0.step)⟩
          · rw [if_neg c6] at H
            have c6b0 : (a0 == 65444) = false := beq_eq_false_iff_ne.mpr c6
            have c6b1 : (a0 != 65444) = true := bne_iff_ne.mpr c6
            by_cases c7 : a0 = 65445
            · rw [if_pos c7] at H
              have c7b0 : (a0 == 65445) = true := beq_iff_eq.mpr c7
              have c7b1 : (a0 != 65445) = false := bne_eq_false_iff_eq.mpr c7
              clear c7
              obtain rfl := Option.some.inj H
              go_enter Try.func10, Try.ntmps10
              go_wp2
              go_ret
              exact ⟨by first | rfl | (simp; done) | (simp [*]; done), by repeat (first | exact Drawn0.refl _ | apply Drawn0.step)⟩
            · rw [if_neg c7] at H
              have c7b0 : (a0 == 65445) = false := beq_eq_false_iff_ne.mpr c7
              have c7b1 : (a0 != 65445) = true := bne_iff_ne.mpr c7
              by_cases c8 : a0 = 65455
              · rw [if_pos c8] at H
                have c8b0 : (a0 == 65455) = true := beq_iff_eq.mpr c8
                have c8b1 : (a0 != 65455) = false := bne_eq_false_iff_eq.mpr c8
                clear c8
                obtain rfl := Option.some.inj H
                go_enter Try.func10, Try.ntmps10
                go_wp2
                go_ret
                exact ⟨by first | rfl | (simp; done) | (simp [*]; done), by repeat (first | exact Drawn0.refl _ | apply Drawn0.step)⟩
              · rw [if_neg c8] at H
                have c8b0 : (a0 == 65455) = false := beq_eq_false_iff_ne.mpr c8
                have c8b1 : (a0 != 65455) = true := bne_iff_ne.mpr c8
                by_cases c9 : a0 = 65456
                · rw [if_pos c9] at H
                  have c9b0 : (a0 == 65456) = true := beq_iff_eq.mpr c9
                  have c9b1 : (a0 != 65456) = false := bne_eq_false_iff_eq.mpr c9
                  clear c9
                  obtain rfl := Option.some.inj H
                  go_enter Try.func10, Try.ntmps10
                  go_wp2
                  go_ret
                  exact ⟨by first | rfl | (simp; done) | (simp [*]; done), by repeat (first | exact Drawn0.refl _ | apply Drawn0.step)⟩
                · rw [if_neg c9] at H
                  have c9b0 : (a0 == 65456) = false := beq_eq_false_iff_ne.mpr c9
                  have c9b1 : (a0 != 65456) = true := bne_iff_ne.mpr c9
                  by_cases c10 : a0 = 65457
                  · rw [if_pos c10] at H
                    have c10b0 : (a0 == 65457) = true := beq_iff_eq.mpr c10
                    have c10b1 : (a0 != 65457) = false := bne_eq_false_iff_eq.mpr c10
                    clear c10
                    obtain rfl := Option.some.inj H
                    go_enter Try.func10, Try.ntmps10
                    go_wp2
                    go_ret
                    exact ⟨by first | rfl | (simp; done) | (simp [*]; done), by repeat (first | exact Drawn0.refl _ | apply Drawn0.step)⟩
                  · rw [if_neg c10] at H
                    have c10b0 : (a0 == 65457) = false := beq_eq_false_iff_ne.mpr c10
                    have c10b1 : (a0 != 65457) = true := bne_iff_ne.mpr c10
                    by_cases c11 : a0 = 65458
                    · rw [if_pos c11] at H
                      have c11b0 : (a0 == 65458) = true := beq_iff_eq.mpr c11
                      have c11b1 : (a0 != 65458) = false := bne_eq_false_iff_eq.mpr c11
                      clear c11
                      obtain rfl := Option.some.inj H
                      go_enter Try.func10, Try.ntmps10
                      go_wp2
                      go_ret
                      exact ⟨by first | rfl | (simp; done) | (simp [*]; done), by repeat (first | exact Drawn0.refl _ | apply Drawn0.step)⟩
                    · rw [if_neg c11] at H
                      have c11b0 : (a0 == 65458) = false := beq_eq_false_iff_ne.mpr c11
                      have c11b1 : (a0 != 65458) = true := bne_iff_ne.mpr c11
                      obtain rfl := Option.some.inj H
                      go_enter Try.func10, Try.ntmps10
                      go_wp2
                      go_ret
                      exact ⟨by first | rfl | (simp; done) | (simp [*]; done), by repeat (first | exact Drawn0.refl _ | apply Drawn0.step)⟩

end Go.Proofs.Ytbkgcppiipknpaa.Q
