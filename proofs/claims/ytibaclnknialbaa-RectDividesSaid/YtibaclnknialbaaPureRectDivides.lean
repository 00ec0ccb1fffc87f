/- RectDivides: for all integers a and b, CeilDiv and FloorDiv of the program return what the reference returns, and the examples of the chapter hold. No condition. -/
import Derived.Test.YtibaclnknialbaaPureLib
import Derived.Test.YtibaclnknialbaaQ18
namespace Go.Proofs.Ytibaclnknialbaa.Pure
open Go.RowKit Go.Proofs.Ytibaclnknialbaa.Q Go.Proofs.YtibaclnknialbaaW.PrintWords
set_option linter.unusedVariables false
theorem ceil_same (a b : Int) : ∃ r, rect_CeilDiv.f a b = some r ∧ waveletref01_CeilDiv.f a b = some r := by
  unfold rect_CeilDiv.f waveletref01_CeilDiv.f
  by_cases h : b < 1
  · exact ⟨_, if_pos h, if_pos h⟩
  · rw [if_neg h, if_neg (by omega)]
    split <;> exact ⟨_, rfl, rfl⟩
theorem floor_same (a b : Int) : ∃ r, rect_FloorDiv.f a b = some r ∧ waveletref01_FloorDiv.f a b = some r := by
  unfold rect_FloorDiv.f waveletref01_FloorDiv.f
  by_cases h : b < 1
  · exact ⟨_, if_pos h, if_pos h⟩
  · rw [if_neg h, if_neg (by omega)]
    split <;> exact ⟨_, rfl, rfl⟩
theorem RectDivides (a0 : Int) (a1 : Int) (w0 : (Lit.int .i64 a0).wf = true) (w1 : (Lit.int .i64 a1).wf = true) : ∃ k, waveletlaw01_RectDivides.f k a0 a1 = some true := by
  obtain ⟨k, hk⟩ := example_holds
  obtain ⟨r, h1, h2⟩ := ceil_same a0 a1
  obtain ⟨q, h3, h4⟩ := floor_same a0 a1
  refine ⟨k, ?_⟩
  unfold waveletlaw01_RectDivides.f
  rw [h1, h2, h3, h4, hk]
  simp
end Go.Proofs.Ytibaclnknialbaa.Pure
