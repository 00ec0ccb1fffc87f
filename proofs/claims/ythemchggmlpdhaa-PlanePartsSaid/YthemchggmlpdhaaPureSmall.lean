/- A small plane that is valid. -/
import Derived.Test.YthemchggmlpdhaaPureRef
import Derived.Test.YthemchggmlpdhaaQ47
namespace Go.Proofs.Ythemchggmlpdhaa.Pure
open Go Go.RowKit Go.Proofs.Ythemchggmlpdhaa.Q Go.Proofs.YthemchggmlpdhaaW.PrintWords
set_option linter.unusedVariables false
theorem vs (a b c d : Int) (l : List Int) : ∃ t : Bool, waveletref02_ValidSmall.f a b c d l = some t ∧ (t = true → VP a b c d l) := by
  unfold waveletref02_ValidSmall.f
  rw [rpv]
  by_cases h : VP a b c d l
  · have e : ∃ t : Bool, waveletref01_Small.f a b c d = some t := by
      unfold waveletref01_Small.f
      rw [rvalid_eq]
      simp only [Option.bind_some]
      repeat' split
      all_goals exact ⟨_, rfl⟩
    obtain ⟨t, ht⟩ := e
    refine ⟨t, ?_, fun _ => h⟩
    rw [decide_eq_true h, Option.bind_some, if_pos rfl, ht]
    rfl
  · refine ⟨false, ?_, fun e => absurd e (by decide)⟩
    rw [decide_eq_false h]
    rfl
end Go.Proofs.Ythemchggmlpdhaa.Pure
