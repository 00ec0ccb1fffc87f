/- MarkerAppends: Append of the program returns the bytes, or the error, of the reference, for at most 1000 bytes before and payloads of at most 70000 bytes, and leaves the bytes before unchanged (for longer ones the law asks for the examples alone); the examples of the chapter hold. No condition. -/
import Derived.Test.YtbkgcppiipknpaaPureRef
import Derived.Test.YtbkgcppiipknpaaQ15
namespace Go.Proofs.Ytbkgcppiipknpaa.Pure
open Go.RowKit Go.Proofs.Ytbkgcppiipknpaa.Q Go.Proofs.YtbkgcppiipknpaaW.PrintWords
set_option linter.unusedVariables false
theorem MarkerAppends (l0 : List (Int)) (a1_0 : Int) (l1_1 : List (Int)) (y0 : l0.length * 1 ≤ 140737488351232) (w0 : ∀ x ∈ l0, (Lit.int .u8 x).wf = true) (w1_0 : (Lit.int .i64 a1_0).wf = true) (y1_1 : l1_1.length * 1 ≤ 140737488351232) (w1_1 : ∀ x ∈ l1_1, (Lit.int .u8 x).wf = true) : ∃ k, waveletlaw28_MarkerAppends.f k l0 a1_0 l1_1 = some true := by
  obtain ⟨k, hk⟩ := example_holds
  have hE : ∀ m, waveletlaw28_exampleHolds.f (k + m) = some true := fun m => at_rounds waveletlaw28_exampleHolds.mono (by omega) hk
  refine ⟨k + 1 + 1, ?_⟩
  have hjt : waveletlaw28_MarkerAppends.j0 (k + 1 + 1) l0 true a1_0 l1_1 = some true := by
    rw [waveletlaw28_MarkerAppends.j0, if_pos rfl, hE 1]; rfl
  unfold waveletlaw28_MarkerAppends.f
  by_cases h1 : (l0.length : Int) > 1000
  · rw [if_pos h1, hjt]
  rw [if_neg h1]
  by_cases h2 : (l1_1.length : Int) > 70000
  · rw [show decide ((l1_1.length : Int) > 70000) = true from decide_eq_true h2, hjt]
  · rw [show decide ((l1_1.length : Int) > 70000) = false from decide_eq_false h2, waveletlaw28_MarkerAppends.j0, if_neg (by simp), append_eq _ _ _ (by omega) (by omega), rappend_eq _ _ _ (by omega) (by omega), hE 1]
    simp
end Go.Proofs.Ytbkgcppiipknpaa.Pure
