/- RectReduces: Reduce of the program returns what the reference returns, for all arguments, and the examples of the chapter hold. No condition. -/
import Derived.Test.YtibaclnknialbaaPureLib
import Derived.Test.YtibaclnknialbaaQ30
import Derived.Test.YtibaclnknialbaaPureRef
namespace Go.Proofs.Ytibaclnknialbaa.Pure
open Go.RowKit Go.Proofs.Ytibaclnknialbaa.Q Go.Proofs.YtibaclnknialbaaW.PrintWords
set_option linter.unusedVariables false
theorem rreduce_eq (k : Nat) (a b c d x y : Int) : waveletref01_Reduce.f (k + 1) a b c d x y = some (Red a b c d x y) := by
  rw [← reduce_eq k]
  unfold rect_Reduce.f waveletref01_Reduce.f
  simp only [rvalid_eq, valid_eq, Option.bind_some, rect_Reduce.j0, waveletref01_Reduce.j0, ceil_eq, rceil_eq]
theorem RectReduces (a0_0 : Int) (a0_1 : Int) (a0_2 : Int) (a0_3 : Int) (a1 : Int) (a2 : Int) (w0_0 : (Lit.int .i64 a0_0).wf = true) (w0_1 : (Lit.int .i64 a0_1).wf = true) (w0_2 : (Lit.int .i64 a0_2).wf = true) (w0_3 : (Lit.int .i64 a0_3).wf = true) (w1 : (Lit.int .i64 a1).wf = true) (w2 : (Lit.int .i64 a2).wf = true) : ∃ k, waveletlaw01_RectReduces.f k a0_0 a0_1 a0_2 a0_3 a1 a2 = some true := by
  obtain ⟨k, hk⟩ := example_holds
  refine ⟨k + 1, ?_⟩
  unfold waveletlaw01_RectReduces.f
  rw [reduce_eq, rreduce_eq]
  rw [waveletlaw01_exampleHolds.mono k _ hk]
  simp
end Go.Proofs.Ytibaclnknialbaa.Pure
