/- MarkerKinds: Known and Bare of the program tell of every number what the reference tells, and the examples of the chapter hold. No condition. -/
import Derived.Test.YtbkgcppiipknpaaPureRef
import Derived.Test.YtbkgcppiipknpaaQ13
namespace Go.Proofs.Ytbkgcppiipknpaa.Pure
open Go.RowKit Go.Proofs.Ytbkgcppiipknpaa.Q Go.Proofs.YtbkgcppiipknpaaW.PrintWords
set_option linter.unusedVariables false
theorem MarkerKinds (a0 : Int) (w0 : (Lit.int .i64 a0).wf = true) : ∃ k, waveletlaw28_MarkerKinds.f k a0 = some true := by
  obtain ⟨k, hk⟩ := example_holds
  refine ⟨k, ?_⟩
  unfold waveletlaw28_MarkerKinds.f
  rw [known_eq, rknown_eq, bare_eq, rbare_eq, hk]
  simp
end Go.Proofs.Ytbkgcppiipknpaa.Pure
