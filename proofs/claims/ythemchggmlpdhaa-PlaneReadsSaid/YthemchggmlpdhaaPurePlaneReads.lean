/- PlaneReads: Valid, At, Row and Column return what the reference returns, for planes of at most 400 samples and all coordinates, and the examples of the chapter hold. No condition. -/
import Derived.Test.YthemchggmlpdhaaPureEx
import Derived.Test.YthemchggmlpdhaaPureRead
import Derived.Test.YthemchggmlpdhaaQ35
namespace Go.Proofs.Ythemchggmlpdhaa.Pure
open Go.RowKit Go.Proofs.Ythemchggmlpdhaa.Q Go.Proofs.YthemchggmlpdhaaW.PrintWords
set_option linter.unusedVariables false
theorem reads_j1 (x a b c d : Int) (l : List Int) : Ev (fun k => waveletlaw02_PlaneReads.j1 k x false a b c d l) true := by
  refine Ev.step (fun k => by rw [waveletlaw02_PlaneReads.j1, if_neg (by decide)]) ?_
  refine Ev.bind (col_ev a b c d l x) ?_
  refine Ev.bind (rcol_ev a b c d l x) ?_
  refine Ev.eq (fun k => by rw [if_pos (by simp)]) ?_
  refine Ev.bind (ints_ev _ _ ?_) ?_
  · by_cases h : VP a b c d l ∧ a ≤ x ∧ x < c
    · rw [if_pos h]
      have := vp_len h.1
      simp [colT]
      omega
    · rw [if_neg h]
      simp
  · rw [decide_eq_true rfl]
    exact Ev.eq (fun k => if_pos rfl) ex_ev
theorem reads_j0 (x y a b c d : Int) (l : List Int) : Ev (fun k => waveletlaw02_PlaneReads.j0 k x y false a b c d l) true := by
  refine Ev.step (fun k => by rw [waveletlaw02_PlaneReads.j0, if_neg (by decide)]) ?_
  refine Ev.bind (row_ev a b c d l y) ?_
  refine Ev.bind (rrow_ev a b c d l y) ?_
  refine Ev.eq (fun k => by rw [if_neg (by simp)]) ?_
  refine Ev.bind (ints_ev _ _ ?_) ?_
  · by_cases h : VP a b c d l ∧ b ≤ y ∧ y < d
    · rw [if_pos h]
      have := vp_len h.1
      simp [rowT]
      omega
    · rw [if_neg h]
      simp
  · rw [decide_eq_true rfl]
    exact reads_j1 x a b c d l
theorem PlaneReads (a0_0 : Int) (a0_1 : Int) (a0_2 : Int) (a0_3 : Int) (l0_4 : List (Int)) (a1 : Int) (a2 : Int) (w0_0 : (Lit.int .i64 a0_0).wf = true) (w0_1 : (Lit.int .i64 a0_1).wf = true) (w0_2 : (Lit.int .i64 a0_2).wf = true) (w0_3 : (Lit.int .i64 a0_3).wf = true) (y0_4 : l0_4.length * 8 ≤ 140737488351232) (w0_4 : ∀ x ∈ l0_4, (Lit.int .i64 x).wf = true) (w1 : (Lit.int .i64 a1).wf = true) (w2 : (Lit.int .i64 a2).wf = true) : ∃ k, waveletlaw02_PlaneReads.f k a0_0 a0_1 a0_2 a0_3 l0_4 a1 a2 = some true := by
  refine Ev.ex ?_
  refine Ev.eq (fun k => by rw [waveletlaw02_PlaneReads.f, waveletref02_Few.f, Option.bind_some]) ?_
  by_cases h : (l0_4.length : Int) ≤ 400
  · rw [decide_eq_true h]
    refine Ev.eq (fun k => by rw [if_pos rfl, at_eq, Option.bind_some, rat_eq, Option.bind_some, pvalid_eq, Option.bind_some, rpv, Option.bind_some, if_neg (by simp), if_pos rfl, bne_self_eq_false]) ?_
    exact reads_j0 _ _ _ _ _ _ _
  · rw [decide_eq_false h]
    exact Ev.eq (fun k => if_neg (by decide)) ex_ev
end Go.Proofs.Ythemchggmlpdhaa.Pure
