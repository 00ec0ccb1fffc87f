/- What SameInts computes: whether two lists are equal. -/
import Derived.Test.YtfihdlekeainpaaPureLib
namespace Go.Proofs.Ytfihdlekeainpaa.Pure
open Go.RowKit Go.Proofs.Ytfihdlekeainpaa.Q Go.Proofs.YtfihdlekeainpaaW.PrintWords
set_option linter.unusedVariables false
theorem ints_l0 (p q : List Int) (hp : p.length < 1000000000000000) : ∀ post postq pre preq, p = pre ++ post → q = preq ++ postq → pre.length = preq.length → post.length = postq.length →
    Ev (fun k => waveletref02_SameInts.l0 k p q (pre.length : Int)) (decide (post = postq)) := by
  intro post
  induction post with
  | nil =>
    intro postq pre preq h h' hl hpq
    rw [List.append_nil] at h
    subst h
    have : postq = [] := by cases postq with
      | nil => rfl
      | cons y t => simp at hpq
    subst this
    refine Ev.step (fun k => by rw [waveletref02_SameInts.l0, if_neg (by omega)]) ?_
    exact Ev.const _
  | cons x post ih =>
    intro postq pre preq h h' hl hpq
    match postq, hpq with
    | y :: postq, hpq =>
      have hx : rd p (pre.length : Int) = x := by rw [h]; exact rd_at _ _ _
      have hy : rd q (pre.length : Int) = y := by rw [h', hl]; exact rd_at _ _ _
      have hi1 : (pre.length : Int) < (p.length : Int) := by rw [h]; exact in_app _ _ _
      have hi2 : (pre.length : Int) < (q.length : Int) := by rw [h', hl]; exact in_app _ _ _
      have hs : wrap64 ((pre.length : Int) + 1) = ((pre ++ [x]).length : Int) := nx pre x (by omega)
      by_cases e : x = y
      · refine Ev.step (fun k => by rw [waveletref02_SameInts.l0, if_pos hi1, if_pos (by omega), if_pos hi2, hx, hy, if_pos e, hs]) ?_
        have h1 := ih postq (pre ++ [x]) (preq ++ [y]) (by simp [h]) (by simp [h']) (by simp [hl]) (by simpa using hpq)
        have h2 : decide (x :: post = y :: postq) = decide (post = postq) := by rw [decide_eq_decide, e]; simp
        rw [h2]
        exact h1
      · refine Ev.step (fun k => by rw [waveletref02_SameInts.l0, if_pos hi1, if_pos (by omega), if_pos hi2, hx, hy, if_neg e]) ?_
        have h2 : decide (x :: post = y :: postq) = false := by rw [decide_eq_false_iff_not]; intro h3; injection h3 with h4; exact e h4
        rw [h2]
        exact Ev.const _
theorem ints_ev (p q : List Int) (hp : p.length < 1000000000000000) : Ev (fun k => waveletref02_SameInts.f k p q) (decide (p = q)) := by
  by_cases h : p.length = q.length
  · refine Ev.eq (fun k => by rw [waveletref02_SameInts.f, if_pos (by omega)]) ?_
    exact ints_l0 p q hp p q [] [] rfl rfl rfl h
  · rw [decide_eq_false (fun e => h (by rw [e]))]
    refine Ev.eq (fun k => by rw [waveletref02_SameInts.f, if_neg (by omega)]) ?_
    exact Ev.const _
end Go.Proofs.Ytfihdlekeainpaa.Pure
