/- PlaneNews: New returns the plane of zeros, or the error, that the reference returns, for all rectangles, and the examples of the chapter hold. No condition. -/
import Derived.Test.YthemchggmlpdhaaPureEx
import Derived.Test.YthemchggmlpdhaaPureRef
import Derived.Test.YthemchggmlpdhaaQ27
namespace Go.Proofs.Ythemchggmlpdhaa.Pure
open Go.RowKit Go.Proofs.Ythemchggmlpdhaa.Q Go.Proofs.YthemchggmlpdhaaW.PrintWords
set_option linter.unusedVariables false
theorem rnew_eq (a b c d : Int) : waveletref02_New.f a b c d = some (NewT a b c d) := by
  unfold waveletref02_New.f NewT
  rw [rvalid_eq, rarea_eq]
  have h := area_nonneg a b c d
  simp only [Option.bind_some, decide_eq_true_eq]
  split
  · split
    · rfl
    · rw [if_pos (by omega), if_pos (by omega)]
  · rfl
theorem new_len (a b c d : Int) : (NewT a b c d).2.2.2.2.1.length < 1000000000000000 := by
  unfold NewT
  have h := area_nonneg a b c d
  split
  · split
    · simp
    · simp; omega
  · simp
theorem news_else (a b c d : Int) : Ev (fun k => waveletlaw02_PlaneNews.j0 k (NewT a b c d).2.2.2.2.2 false a b c d (NewT a b c d).1 (NewT a b c d).2.1 (NewT a b c d).2.2.1 (NewT a b c d).2.2.2.1 (NewT a b c d).2.2.2.2.1) true := by
  refine Ev.step (fun k => by rw [waveletlaw02_PlaneNews.j0, if_neg (by decide), rnew_eq, Option.bind_some, if_pos rfl]) ?_
  refine Ev.bind (rsame_ev _ _ _ _ _ _ _ _ _ _ (new_len a b c d)) ?_
  rw [SM_refl]
  exact Ev.eq (fun k => if_pos rfl) ex_ev
theorem PlaneNews (a0_0 : Int) (a0_1 : Int) (a0_2 : Int) (a0_3 : Int) (w0_0 : (Lit.int .i64 a0_0).wf = true) (w0_1 : (Lit.int .i64 a0_1).wf = true) (w0_2 : (Lit.int .i64 a0_2).wf = true) (w0_3 : (Lit.int .i64 a0_3).wf = true) : ∃ k, waveletlaw02_PlaneNews.f k a0_0 a0_1 a0_2 a0_3 = some true := by
  refine Ev.ex ?_
  refine Ev.eq (fun k => by rw [waveletlaw02_PlaneNews.f, new_eq, Option.bind_some, rarea_eq, Option.bind_some]) ?_
  by_cases h : Area a0_0 a0_1 a0_2 a0_3 > 4096
  · refine Ev.eq (fun k => by rw [if_pos h, Option.bind_some]) ?_
    by_cases h2 : Area a0_0 a0_1 a0_2 a0_3 ≤ 1048576
    · rw [decide_eq_true h2]
      have hv : Valid a0_0 a0_1 a0_2 a0_3 := by
        unfold Area at h
        by_cases e : Valid a0_0 a0_1 a0_2 a0_3
        · exact e
        · rw [if_neg e] at h
          omega
      have hn : NewT a0_0 a0_1 a0_2 a0_3 = (a0_0, a0_1, a0_2, a0_3, List.replicate (Area a0_0 a0_1 a0_2 a0_3).toNat 0, 0) := by
        unfold NewT
        rw [if_pos hv, if_neg (by omega)]
      rw [hn]
      refine Ev.step (fun k => by rw [waveletlaw02_PlaneNews.j0, if_pos rfl, if_pos rfl, if_pos (by simp), rarea_eq, Option.bind_some, if_pos (by rw [List.length_replicate]; exact Int.toNat_of_nonneg (by omega))]) ex_ev
    · rw [decide_eq_false h2]
      exact news_else _ _ _ _
  · refine Ev.eq (fun k => by rw [if_neg h]) ?_
    exact news_else _ _ _ _
end Go.Proofs.Ythemchggmlpdhaa.Pure
