/- RectCommon: a point is in the intersection of two rectangles exactly if it is in both, the order does not matter, and a rectangle contains another one exactly if that is their intersection, for all rectangles and points; the examples of the chapter hold. No condition. -/
import Derived.Test.YtibaclnknialbaaPureLib
import Derived.Test.YtibaclnknialbaaQ33
namespace Go.Proofs.Ytibaclnknialbaa.Pure
open Go.RowKit Go.Proofs.Ytibaclnknialbaa.Q Go.Proofs.YtibaclnknialbaaW.PrintWords
set_option linter.unusedVariables false
theorem common_end (kE : Nat) (hE : ∀ m, waveletlaw01_exampleHolds.f (kE + m) = some true) (a b c d a' b' c' d' : Int) (q : Int × Int × Int × Int) (hq : Inter a b c d a' b' c' d' = q) :
    waveletlaw01_RectCommon.j0 (kE + 1) false a b c d a' b' c' d' q.1 q.2.1 q.2.2.1 q.2.2.2 = some true := by
  have hE0 := hE 0
  rw [Nat.add_zero] at hE0
  simp only [waveletlaw01_RectCommon.j0]
  rw [if_neg (by simp), empty_eq, contains_eq, hE0]
  simp only [Option.bind_some, decide_eq_true_eq]
  by_cases he : c' ≤ a' ∨ d' ≤ b'
  · rw [if_pos he, if_pos (by unfold Within; omega)]
  · rw [if_neg he]
    have hi := inter_is a b c d a' b' c' d' (by omega) (by omega)
    rw [hq] at hi
    have e : (decide (Within a b c d a' b' c' d')) = (q.1 == a' && (q.2.1 == b' && (q.2.2.1 == c' && (q.2.2.2 == d')))) := by
      rw [Bool.eq_iff_iff]
      simp only [Bool.and_eq_true, beq_iff_eq, decide_eq_true_eq]
      rw [show Within a b c d a' b' c' d' ↔ (a ≤ a' ∧ c' ≤ c ∧ b ≤ b' ∧ d' ≤ d) by unfold Within; omega, ← hi]
      constructor
      · intro e; rw [e]; exact ⟨rfl, rfl, rfl, rfl⟩
      · rintro ⟨h1, h2, h3, h4⟩; exact Prod.ext h1 (Prod.ext h2 (Prod.ext h3 h4))
    rw [e]
    simp
theorem inter_comm (a b c d a' b' c' d' : Int) : Inter a' b' c' d' a b c d = Inter a b c d a' b' c' d' := by
  have e1 : mx a' a = mx a a' := by unfold mx; omega
  have e2 : mx b' b = mx b b' := by unfold mx; omega
  have e3 : mn c' c = mn c c' := by unfold mn; omega
  have e4 : mn d' d = mn d d' := by unfold mn; omega
  unfold Inter
  rw [e1, e2, e3, e4]
theorem inter_has (a b c d a' b' c' d' x y : Int) (q : Int × Int × Int × Int) (hq : Inter a b c d a' b' c' d' = q) :
    (q.1 ≤ x ∧ x < q.2.2.1 ∧ q.2.1 ≤ y ∧ y < q.2.2.2) ↔ (a ≤ x ∧ x < c ∧ b ≤ y ∧ y < d) ∧ (a' ≤ x ∧ x < c' ∧ b' ≤ y ∧ y < d') := by
  have x0 := mx_spec a a'
  have x1 := mx_spec b b'
  have x2 := mn_spec c c'
  have x3 := mn_spec d d'
  unfold Inter at hq
  by_cases hc : mn c c' ≤ mx a a' ∨ mn d d' ≤ mx b b'
  · rw [if_pos hc] at hq
    subst hq
    show (0 ≤ x ∧ x < 0 ∧ 0 ≤ y ∧ y < 0) ↔ _
    omega
  · rw [if_neg hc] at hq
    subst hq
    show (mx a a' ≤ x ∧ x < mn c c' ∧ mx b b' ≤ y ∧ y < mn d d') ↔ _
    omega
theorem inter_within (a b c d a' b' c' d' : Int) (q : Int × Int × Int × Int) (hq : Inter a b c d a' b' c' d' = q) :
    Within a b c d q.1 q.2.1 q.2.2.1 q.2.2.2 ∧ Within a' b' c' d' q.1 q.2.1 q.2.2.1 q.2.2.2 := by
  have x0 := mx_spec a a'
  have x1 := mx_spec b b'
  have x2 := mn_spec c c'
  have x3 := mn_spec d d'
  unfold Inter at hq
  unfold Within
  by_cases hc : mn c c' ≤ mx a a' ∨ mn d d' ≤ mx b b'
  · rw [if_pos hc] at hq
    subst hq
    exact ⟨.inl (Int.le_refl _), .inl (Int.le_refl _)⟩
  · rw [if_neg hc] at hq
    subst hq
    show (mn c c' ≤ mx a a' ∨ mn d d' ≤ mx b b' ∨ (a ≤ mx a a' ∧ mn c c' ≤ c ∧ b ≤ mx b b' ∧ mn d d' ≤ d)) ∧ (mn c c' ≤ mx a a' ∨ mn d d' ≤ mx b b' ∨ (a' ≤ mx a a' ∧ mn c c' ≤ c' ∧ b' ≤ mx b b' ∧ mn d d' ≤ d'))
    omega
theorem RectCommon (a0_0 : Int) (a0_1 : Int) (a0_2 : Int) (a0_3 : Int) (a1_0 : Int) (a1_1 : Int) (a1_2 : Int) (a1_3 : Int) (a2_0 : Int) (a2_1 : Int) (w0_0 : (Lit.int .i64 a0_0).wf = true) (w0_1 : (Lit.int .i64 a0_1).wf = true) (w0_2 : (Lit.int .i64 a0_2).wf = true) (w0_3 : (Lit.int .i64 a0_3).wf = true) (w1_0 : (Lit.int .i64 a1_0).wf = true) (w1_1 : (Lit.int .i64 a1_1).wf = true) (w1_2 : (Lit.int .i64 a1_2).wf = true) (w1_3 : (Lit.int .i64 a1_3).wf = true) (w2_0 : (Lit.int .i64 a2_0).wf = true) (w2_1 : (Lit.int .i64 a2_1).wf = true) : ∃ k, waveletlaw01_RectCommon.f k a0_0 a0_1 a0_2 a0_3 a1_0 a1_1 a1_2 a1_3 a2_0 a2_1 = some true := by
  obtain ⟨k, hk⟩ := example_holds
  have hE : ∀ m, waveletlaw01_exampleHolds.f (k + m) = some true := fun m => at_rounds waveletlaw01_exampleHolds.mono (by omega) hk
  refine ⟨k + 1, ?_⟩
  obtain ⟨q, hq⟩ : ∃ q, Inter a0_0 a0_1 a0_2 a0_3 a1_0 a1_1 a1_2 a1_3 = q := ⟨_, rfl⟩
  have hend := common_end k hE a0_0 a0_1 a0_2 a0_3 a1_0 a1_1 a1_2 a1_3 q hq
  have hh := inter_has a0_0 a0_1 a0_2 a0_3 a1_0 a1_1 a1_2 a1_3 a2_0 a2_1 q hq
  have hw := inter_within a0_0 a0_1 a0_2 a0_3 a1_0 a1_1 a1_2 a1_3 q hq
  unfold waveletlaw01_RectCommon.f
  rw [inter_eq, hq]
  simp only [Option.bind_some]
  rw [has_eq, has_eq]
  simp only [Option.bind_some, decide_eq_true_eq, inter_eq, inter_comm, hq, contains_eq, decide_eq_true hw.1, decide_eq_true hw.2, has_eq, if_true, beq_self_eq_true, Bool.not_true, Bool.or_false, hend]
  by_cases ha : a0_0 ≤ a2_0 ∧ a2_0 < a0_2 ∧ a0_1 ≤ a2_1 ∧ a2_1 < a0_3
  · rw [if_pos ha, if_neg]
    · simp
    · rw [bne_iff_ne, ne_eq, Decidable.not_not, decide_eq_decide, hh]
      exact ⟨fun h => h.2, fun h => ⟨ha, h⟩⟩
  · rw [if_neg ha, if_neg]
    · simp
    · rw [bne_iff_ne, ne_eq, Decidable.not_not, decide_eq_false_iff_not, hh]
      exact fun h => ha h.1
end Go.Proofs.Ytibaclnknialbaa.Pure
