/- What Clip and Limits return. -/
import Derived.Test.YthemchggmlpdhaaPureSem
namespace Go.Proofs.Ythemchggmlpdhaa.Pure
open Go Go.RowKit Go.Proofs.Ythemchggmlpdhaa.Q Go.Proofs.YthemchggmlpdhaaW.PrintWords
set_option linter.unusedVariables false
def clipL (lo hi : Int) (l : List Int) : List Int := l.map (fun v => mn (mx v lo) hi)
theorem clip_l0 (lo hi a b c d : Int) (l : List Int) (hl : l.length < 1000000000000000) : ∀ post pre, l = pre ++ post →
    Ev (fun k => plane_Clip.l0 k lo hi l (l.length : Int) (pre.length : Int) a b c d (clipL lo hi pre ++ List.replicate post.length 0)) (a, b, c, d, clipL lo hi l, 0) := by
  intro post
  induction post with
  | nil =>
    intro pre h
    rw [List.append_nil] at h
    subst h
    refine Ev.step (g' := fun _ => some (a, b, c, d, clipL lo hi l, 0)) (fun k => ?_) (Ev.const _)
    rw [plane_Clip.l0, if_neg (by omega)]
    simp
  | cons x post ih =>
    intro pre h
    have hx : rd l (pre.length : Int) = x := by rw [h]; exact rd_at _ _ _
    have l1 : (pre.length : Int) < (l.length : Int) := by rw [h]; exact in_app _ _ _
    have hs : wrap64 ((pre.length : Int) + 1) = ((pre ++ [x]).length : Int) := nx pre x (by omega)
    refine Ev.step (fun k => ?_) (ih (pre ++ [x]) (by simp [h]))
    rw [plane_Clip.l0, if_pos l1, if_pos (by omega), if_pos l1, if_pos (by simp [clipL]; omega), hx, hs, Int.toNat_natCast]
    congr 1
    have hp : (clipL lo hi pre).length = pre.length := by unfold clipL; rw [List.length_map]
    rw [List.set_append_right _ _ (by omega), hp, Nat.sub_self]
    simp [clipL, List.replicate_succ]
def ClipT (a b c d : Int) (l : List Int) (lo hi : Int) : Int × Int × Int × Int × List Int × Int := if VP a b c d l then (if lo > hi then (0, 0, 0, 0, [], 2) else (a, b, c, d, clipL lo hi l, 0)) else (0, 0, 0, 0, [], 1)
theorem clip_ev (a b c d : Int) (l : List Int) (lo hi : Int) : Ev (fun k => plane_Clip.f k a b c d l lo hi) (ClipT a b c d l lo hi) := by
  unfold ClipT
  by_cases h : VP a b c d l
  · rw [if_pos h]
    have h1 := vp_len h
    by_cases h2 : lo > hi
    · rw [if_pos h2]
      exact Ev.eq (g' := fun _ => some (0, 0, 0, 0, [], 2)) (fun k => by rw [plane_Clip.f, pvalid_eq, decide_eq_true h, Option.bind_some, if_pos rfl, if_pos h2]) (Ev.const _)
    · rw [if_neg h2]
      refine Ev.eq (fun k => by rw [plane_Clip.f, pvalid_eq, decide_eq_true h, Option.bind_some, if_pos rfl, if_neg h2, if_pos (by omega), if_pos (by omega), Int.toNat_natCast]) ?_
      exact clip_l0 lo hi a b c d l (by omega) l [] rfl
  · rw [if_neg h]
    exact Ev.eq (g' := fun _ => some (0, 0, 0, 0, [], 1)) (fun k => by rw [plane_Clip.f, pvalid_eq, decide_eq_false h, Option.bind_some, if_neg (by decide)]) (Ev.const _)
theorem lim_l0 (l : List Int) (hl : l.length < 1000000000000000) : ∀ post pre lo hi, l = pre ++ post →
    Ev (fun k => plane_Limits.l0 k lo hi l (l.length : Int) (pre.length : Int)) (post.foldl mn lo, post.foldl mx hi, true) := by
  intro post
  induction post with
  | nil =>
    intro pre lo hi h
    rw [List.append_nil] at h
    subst h
    exact Ev.step (g' := fun _ => some (lo, hi, true)) (fun k => by rw [plane_Limits.l0, if_neg (by omega)]) (Ev.const _)
  | cons x post ih =>
    intro pre lo hi h
    have hx : rd l (pre.length : Int) = x := by rw [h]; exact rd_at _ _ _
    have l1 : (pre.length : Int) < (l.length : Int) := by rw [h]; exact in_app _ _ _
    have hs : wrap64 ((pre.length : Int) + 1) = ((pre ++ [x]).length : Int) := nx pre x (by omega)
    refine Ev.step (fun k => ?_) (ih (pre ++ [x]) (mn lo x) (mx hi x) (by simp [h]))
    rw [plane_Limits.l0, if_pos l1, if_pos (by omega), if_pos l1, hx, hs]
def LimT (a b c d : Int) (l : List Int) : Int × Int × Bool := if VP a b c d l ∧ l ≠ [] then (l.foldl mn (rd l 0), l.foldl mx (rd l 0), true) else (0, 0, false)
theorem lim_ev (a b c d : Int) (l : List Int) : Ev (fun k => plane_Limits.f k a b c d l) (LimT a b c d l) := by
  unfold LimT
  by_cases h : VP a b c d l
  · have h1 := vp_len h
    by_cases h2 : l = []
    · rw [if_neg (fun e => e.2 h2)]
      subst h2
      refine Ev.eq (fun k => by rw [plane_Limits.f, pvalid_eq, decide_eq_true h, Option.bind_some, if_pos rfl]) ?_
      exact Ev.step (g' := fun _ => some (0, 0, false)) (fun k => by rw [plane_Limits.j0, if_pos (by rfl)]) (Ev.const _)
    · rw [if_pos ⟨h, h2⟩]
      have hp : 0 < l.length := List.length_pos_iff.2 h2
      refine Ev.eq (fun k => by rw [plane_Limits.f, pvalid_eq, decide_eq_true h, Option.bind_some, if_pos rfl]) ?_
      refine Ev.step (fun k => ?_) (lim_l0 l (by omega) l [] (rd l 0) (rd l 0) rfl)
      rw [plane_Limits.j0, if_neg (by simp [h2]), if_pos (by omega)]
      rfl
  · rw [if_neg (fun e => h e.1)]
    refine Ev.eq (fun k => by rw [plane_Limits.f, pvalid_eq, decide_eq_false h, Option.bind_some, if_neg (by decide)]) ?_
    exact Ev.step (g' := fun _ => some (0, 0, false)) (fun k => by rw [plane_Limits.j0, if_pos rfl]) (Ev.const _)
end Go.Proofs.Ythemchggmlpdhaa.Pure
