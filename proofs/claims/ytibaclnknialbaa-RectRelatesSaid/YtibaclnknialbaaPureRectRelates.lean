/- RectRelates: Contains and Intersect of the program return what the reference returns, for all rectangles, and the examples of the chapter hold. No condition. -/
import Derived.Test.YtibaclnknialbaaPureLib
import Derived.Test.YtibaclnknialbaaQ26
import Derived.Test.YtibaclnknialbaaPureRef
namespace Go.Proofs.Ytibaclnknialbaa.Pure
open Go.RowKit Go.Proofs.Ytibaclnknialbaa.Q Go.Proofs.YtibaclnknialbaaW.PrintWords
set_option linter.unusedVariables false
theorem rinter_eq (a b c d a' b' c' d' : Int) : waveletref01_Intersect.f a b c d a' b' c' d' = some (Inter a b c d a' b' c' d') := inter_eq a b c d a' b' c' d'
theorem rcontains_eq (a b c d a' b' c' d' : Int) : waveletref01_Contains.f a b c d a' b' c' d' = some (decide (Within a b c d a' b' c' d')) := by
  unfold waveletref01_Contains.f
  rw [rempty_eq]
  simp only [Option.bind_some, decide_eq_true_eq]
  repeat' split
  all_goals (congr 1; first | (rw [decide_eq_decide]; unfold Within; omega) | (symm; rw [decide_eq_false_iff_not]; unfold Within; omega) | (symm; rw [decide_eq_true_iff]; unfold Within; omega))
theorem RectRelates (a0_0 : Int) (a0_1 : Int) (a0_2 : Int) (a0_3 : Int) (a1_0 : Int) (a1_1 : Int) (a1_2 : Int) (a1_3 : Int) (w0_0 : (Lit.int .i64 a0_0).wf = true) (w0_1 : (Lit.int .i64 a0_1).wf = true) (w0_2 : (Lit.int .i64 a0_2).wf = true) (w0_3 : (Lit.int .i64 a0_3).wf = true) (w1_0 : (Lit.int .i64 a1_0).wf = true) (w1_1 : (Lit.int .i64 a1_1).wf = true) (w1_2 : (Lit.int .i64 a1_2).wf = true) (w1_3 : (Lit.int .i64 a1_3).wf = true) : ∃ k, waveletlaw01_RectRelates.f k a0_0 a0_1 a0_2 a0_3 a1_0 a1_1 a1_2 a1_3 = some true := by
  obtain ⟨k, hk⟩ := example_holds
  refine ⟨k, ?_⟩
  unfold waveletlaw01_RectRelates.f
  rw [contains_eq, rcontains_eq, contains_eq, rcontains_eq, inter_eq, rinter_eq, hk]
  simp
end Go.Proofs.Ytibaclnknialbaa.Pure
