/- PlaneCrops: Crop returns the part of a plane, or the error, that the reference returns, for planes of at most 400 samples and all rectangles, and the examples of the chapter hold. No condition. -/
import Derived.Test.YthemchggmlpdhaaPureEx
import Derived.Test.YthemchggmlpdhaaPureRefCrop
import Derived.Test.YthemchggmlpdhaaQ39
namespace Go.Proofs.Ythemchggmlpdhaa.Pure
open Go.RowKit Go.Proofs.Ythemchggmlpdhaa.Q Go.Proofs.YthemchggmlpdhaaW.PrintWords
set_option linter.unusedVariables false
theorem PlaneCrops (a0_0 : Int) (a0_1 : Int) (a0_2 : Int) (a0_3 : Int) (l0_4 : List (Int)) (a1_0 : Int) (a1_1 : Int) (a1_2 : Int) (a1_3 : Int) (w0_0 : (Lit.int .i64 a0_0).wf = true) (w0_1 : (Lit.int .i64 a0_1).wf = true) (w0_2 : (Lit.int .i64 a0_2).wf = true) (w0_3 : (Lit.int .i64 a0_3).wf = true) (y0_4 : l0_4.length * 8 ≤ 140737488351232) (w0_4 : ∀ x ∈ l0_4, (Lit.int .i64 x).wf = true) (w1_0 : (Lit.int .i64 a1_0).wf = true) (w1_1 : (Lit.int .i64 a1_1).wf = true) (w1_2 : (Lit.int .i64 a1_2).wf = true) (w1_3 : (Lit.int .i64 a1_3).wf = true) : ∃ k, waveletlaw02_PlaneCrops.f k a0_0 a0_1 a0_2 a0_3 l0_4 a1_0 a1_1 a1_2 a1_3 = some true := by
  refine Ev.ex ?_
  refine Ev.eq (fun k => by rw [waveletlaw02_PlaneCrops.f, waveletref02_Few.f, Option.bind_some]) ?_
  by_cases h : (l0_4.length : Int) ≤ 400
  · rw [decide_eq_true h]
    refine Ev.eq (fun k => if_pos rfl) ?_
    refine Ev.bind (crop_ev _ _ _ _ _ _ _ _ _) ?_
    refine Ev.bind (rcrop_ev _ _ _ _ _ _ _ _ _) ?_
    refine Ev.eq (fun k => if_pos rfl) ?_
    refine Ev.bind (rsame_ev _ _ _ _ _ _ _ _ _ _ (crop_len _ _ _ _ _ _ _ _ _)) ?_
    rw [SM_refl]
    exact Ev.eq (fun k => if_pos rfl) ex_ev
  · rw [decide_eq_false h]
    exact Ev.eq (fun k => if_neg (by decide)) ex_ev
end Go.Proofs.Ythemchggmlpdhaa.Pure
