/- PlaneClips: Clip and Limits return what the reference returns, for planes of at most 400 samples and all limits, and the examples of the chapter hold. No condition. -/
import Derived.Test.YthemchggmlpdhaaPureEx
import Derived.Test.YthemchggmlpdhaaPureRefClip
import Derived.Test.YthemchggmlpdhaaQ44
namespace Go.Proofs.Ythemchggmlpdhaa.Pure
open Go.RowKit Go.Proofs.Ythemchggmlpdhaa.Q Go.Proofs.YthemchggmlpdhaaW.PrintWords
set_option linter.unusedVariables false
theorem clip_len (a b c d : Int) (l : List Int) (lo hi : Int) (hl : l.length < 1000000000000000) : (ClipT a b c d l lo hi).2.2.2.2.1.length < 1000000000000000 := by
  unfold ClipT
  split
  · split
    · simp
    · simpa [clipL] using hl
  · simp
theorem PlaneClips (a0_0 : Int) (a0_1 : Int) (a0_2 : Int) (a0_3 : Int) (l0_4 : List (Int)) (a1 : Int) (a2 : Int) (w0_0 : (Lit.int .i64 a0_0).wf = true) (w0_1 : (Lit.int .i64 a0_1).wf = true) (w0_2 : (Lit.int .i64 a0_2).wf = true) (w0_3 : (Lit.int .i64 a0_3).wf = true) (y0_4 : l0_4.length * 8 ≤ 140737488351232) (w0_4 : ∀ x ∈ l0_4, (Lit.int .i64 x).wf = true) (w1 : (Lit.int .i64 a1).wf = true) (w2 : (Lit.int .i64 a2).wf = true) : ∃ k, waveletlaw02_PlaneClips.f k a0_0 a0_1 a0_2 a0_3 l0_4 a1 a2 = some true := by
  refine Ev.ex ?_
  refine Ev.eq (fun k => by rw [waveletlaw02_PlaneClips.f, waveletref02_Few.f, Option.bind_some]) ?_
  by_cases h : (l0_4.length : Int) ≤ 400
  · rw [decide_eq_true h]
    refine Ev.eq (fun k => if_pos rfl) ?_
    refine Ev.bind (clip_ev _ _ _ _ _ _ _) ?_
    refine Ev.bind (rclip_ev _ _ _ _ _ _ _) ?_
    refine Ev.eq (fun k => if_pos rfl) ?_
    refine Ev.bind (rsame_ev _ _ _ _ _ _ _ _ _ _ (clip_len _ _ _ _ _ _ _ (by omega))) ?_
    rw [SM_refl]
    refine Ev.step (fun k => by rw [waveletlaw02_PlaneClips.j0, if_neg (by decide)]) ?_
    refine Ev.bind (lim_ev _ _ _ _ _) ?_
    refine Ev.bind (rlim_ev _ _ _ _ _) ?_
    exact Ev.eq (fun k => by rw [if_pos rfl, if_pos rfl, if_pos (by simp)]) ex_ev
  · rw [decide_eq_false h]
    exact Ev.eq (fun k => if_neg (by decide)) ex_ev
end Go.Proofs.Ythemchggmlpdhaa.Pure
