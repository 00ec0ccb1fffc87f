/- MarkerNumbers: Uint and ReadUint of the program return the bytes and the number, or the errors, of the reference, for all numbers, sizes and offsets and at most 1000 bytes (for more the law asks for the examples alone); the examples of the chapter hold. No condition. -/
import Derived.Test.YtbkgcppiipknpaaPureRef
import Derived.Test.YtbkgcppiipknpaaQ23
namespace Go.Proofs.Ytbkgcppiipknpaa.Pure
open Go.RowKit Go.Proofs.Ytbkgcppiipknpaa.Q Go.Proofs.YtbkgcppiipknpaaW.PrintWords
set_option linter.unusedVariables false
theorem MarkerNumbers (l0 : List (Int)) (a1 : Int) (a2 : Int) (a3 : Int) (y0 : l0.length * 1 ≤ 140737488351232) (w0 : ∀ x ∈ l0, (Lit.int .u8 x).wf = true) (w1 : (Lit.int .i64 a1).wf = true) (w2 : (Lit.int .i64 a2).wf = true) (w3 : (Lit.int .i64 a3).wf = true) : ∃ k, waveletlaw28_MarkerNumbers.f k l0 a1 a2 a3 = some true := by
  obtain ⟨k, hk⟩ := example_holds
  have hE : ∀ m, waveletlaw28_exampleHolds.f (k + m) = some true := fun m => at_rounds waveletlaw28_exampleHolds.mono (by omega) hk
  have b3 := wf_bd w3
  refine ⟨k + 6, ?_⟩
  unfold waveletlaw28_MarkerNumbers.f
  rw [hE 6]
  by_cases h1 : (l0.length : Int) > 1000
  · rw [if_pos h1]; rfl
  rw [if_neg h1, ruint_eq _ _ _ _ (by omega), uint_eq _ _ _ (by omega), ru_eq _ _ _ (by omega) (by omega), rru_eq _ _ _ (by omega) (by omega)]
  simp
end Go.Proofs.Ytbkgcppiipknpaa.Pure
