/- PlanePastes: Paste returns the plane, or the error, that the reference returns, for planes of at most 400 samples, and the examples of the chapter hold. No condition. -/
import Derived.Test.YthemchggmlpdhaaPureEx
import Derived.Test.YthemchggmlpdhaaPureRefPaste
import Derived.Test.YthemchggmlpdhaaQ41
namespace Go.Proofs.Ythemchggmlpdhaa.Pure
open Go.RowKit Go.Proofs.Ythemchggmlpdhaa.Q Go.Proofs.YthemchggmlpdhaaW.PrintWords
set_option linter.unusedVariables false
theorem PlanePastes (a0_0 : Int) (a0_1 : Int) (a0_2 : Int) (a0_3 : Int) (l0_4 : List (Int)) (a1_0 : Int) (a1_1 : Int) (a1_2 : Int) (a1_3 : Int) (l1_4 : List (Int)) (w0_0 : (Lit.int .i64 a0_0).wf = true) (w0_1 : (Lit.int .i64 a0_1).wf = true) (w0_2 : (Lit.int .i64 a0_2).wf = true) (w0_3 : (Lit.int .i64 a0_3).wf = true) (y0_4 : l0_4.length * 8 ≤ 140737488351232) (w0_4 : ∀ x ∈ l0_4, (Lit.int .i64 x).wf = true) (w1_0 : (Lit.int .i64 a1_0).wf = true) (w1_1 : (Lit.int .i64 a1_1).wf = true) (w1_2 : (Lit.int .i64 a1_2).wf = true) (w1_3 : (Lit.int .i64 a1_3).wf = true) (y1_4 : l1_4.length * 8 ≤ 140737488351232) (w1_4 : ∀ x ∈ l1_4, (Lit.int .i64 x).wf = true) : ∃ k, waveletlaw02_PlanePastes.f k a0_0 a0_1 a0_2 a0_3 l0_4 a1_0 a1_1 a1_2 a1_3 l1_4 = some true := by
  refine Ev.ex ?_
  refine Ev.eq (fun k => by rw [waveletlaw02_PlanePastes.f, waveletref02_Few.f, waveletref02_Few.f, Option.bind_some]) ?_
  have hex : ∀ a b c d l a' b' c' d' l', Ev (fun k => waveletlaw02_PlanePastes.j0 k true a b c d l a' b' c' d' l') true := fun a b c d l a' b' c' d' l' => Ev.step (fun k => by rw [waveletlaw02_PlanePastes.j0, if_pos rfl]) ex_ev
  by_cases h : (l0_4.length : Int) ≤ 400
  · rw [decide_eq_true h]
    refine Ev.eq (fun k => by rw [if_pos rfl, Option.bind_some]) ?_
    by_cases h2 : (l1_4.length : Int) ≤ 400
    · rw [decide_eq_true h2]
      refine Ev.step (fun k => by rw [waveletlaw02_PlanePastes.j0, if_neg (by decide)]) ?_
      refine Ev.bind (paste_ev _ _ _ _ _ _ _ _ _ _) ?_
      refine Ev.bind (rpaste_ev _ _ _ _ _ _ _ _ _ _) ?_
      refine Ev.eq (fun k => if_pos rfl) ?_
      refine Ev.bind (rsame_ev _ _ _ _ _ _ _ _ _ _ (paste_len _ _ _ _ _ _ _ _ _ _)) ?_
      rw [SM_refl]
      exact Ev.eq (fun k => if_pos rfl) ex_ev
    · rw [decide_eq_false h2]
      exact hex _ _ _ _ _ _ _ _ _ _
  · rw [decide_eq_false h]
    refine Ev.eq (fun k => by rw [if_neg (by decide)]) ?_
    exact hex _ _ _ _ _ _ _ _ _ _
end Go.Proofs.Ythemchggmlpdhaa.Pure
