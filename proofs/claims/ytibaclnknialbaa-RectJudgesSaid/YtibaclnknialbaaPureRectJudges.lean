/- RectJudges: Valid, Area, Empty and Has of the program return what the reference returns, for all rectangles and points, and the examples of the chapter hold. No condition. -/
import Derived.Test.YtibaclnknialbaaPureLib
import Derived.Test.YtibaclnknialbaaQ23
import Derived.Test.YtibaclnknialbaaPureRef
namespace Go.Proofs.Ytibaclnknialbaa.Pure
open Go.RowKit Go.Proofs.Ytibaclnknialbaa.Q Go.Proofs.YtibaclnknialbaaW.PrintWords
set_option linter.unusedVariables false
theorem rhas_eq (a b c d x y : Int) : waveletref01_Has.f a b c d x y = some (decide (a ≤ x ∧ x < c ∧ b ≤ y ∧ y < d)) := has_eq a b c d x y
theorem rarea_eq (a b c d : Int) : waveletref01_Area.f a b c d = some (Area a b c d) := area_eq a b c d
theorem RectJudges (a0_0 : Int) (a0_1 : Int) (a0_2 : Int) (a0_3 : Int) (a1_0 : Int) (a1_1 : Int) (w0_0 : (Lit.int .i64 a0_0).wf = true) (w0_1 : (Lit.int .i64 a0_1).wf = true) (w0_2 : (Lit.int .i64 a0_2).wf = true) (w0_3 : (Lit.int .i64 a0_3).wf = true) (w1_0 : (Lit.int .i64 a1_0).wf = true) (w1_1 : (Lit.int .i64 a1_1).wf = true) : ∃ k, waveletlaw01_RectJudges.f k a0_0 a0_1 a0_2 a0_3 a1_0 a1_1 = some true := by
  obtain ⟨k, hk⟩ := example_holds
  refine ⟨k, ?_⟩
  unfold waveletlaw01_RectJudges.f
  rw [valid_eq, rvalid_eq, area_eq, rarea_eq, empty_eq, rempty_eq, has_eq, rhas_eq, hk]
  simp
end Go.Proofs.Ytibaclnknialbaa.Pure
