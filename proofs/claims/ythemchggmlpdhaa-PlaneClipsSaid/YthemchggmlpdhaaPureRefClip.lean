/- The reference's Clip and Limits. -/
import Derived.Test.YthemchggmlpdhaaPureClip
import Derived.Test.YthemchggmlpdhaaPureRef
import Derived.Test.YthemchggmlpdhaaQ42
import Derived.Test.YthemchggmlpdhaaQ43
namespace Go.Proofs.Ythemchggmlpdhaa.Pure
open Go Go.RowKit Go.Proofs.Ythemchggmlpdhaa.Q Go.Proofs.YthemchggmlpdhaaW.PrintWords
set_option linter.unusedVariables false
theorem rclip_l0 (lo hi a b c d : Int) (l : List Int) (hl : l.length < 10000000000) : ∀ post pre, l = pre ++ post →
    Ev (fun k => waveletref02_Clip.l0 k lo hi (pre.length : Int) a b c d l a b c d (clipL lo hi pre)) (a, b, c, d, clipL lo hi l, 0) := by
  intro post
  induction post with
  | nil =>
    intro pre h
    rw [List.append_nil] at h
    subst h
    exact Ev.step (g' := fun _ => some (a, b, c, d, clipL lo hi l, 0)) (fun k => by rw [waveletref02_Clip.l0, if_neg (by omega)]) (Ev.const _)
  | cons x post ih =>
    intro pre h
    have hx : rd l (pre.length : Int) = x := by rw [h]; exact rd_at _ _ _
    have l1 : (pre.length : Int) < (l.length : Int) := by rw [h]; exact in_app _ _ _
    have hs : wrap64 ((pre.length : Int) + 1) = ((pre ++ [x]).length : Int) := nx pre x (by omega)
    have hp : (clipL lo hi pre).length = pre.length := by unfold clipL; rw [List.length_map]
    refine Ev.step (fun k => ?_) (ih (pre ++ [x]) (by simp [h]))
    rw [waveletref02_Clip.l0, if_pos l1, if_pos (by omega), if_pos (by rw [hp]; omega), hx, hs]
    congr 1
    simp [clipL]
theorem rclip_ev (a b c d : Int) (l : List Int) (lo hi : Int) : Ev (fun k => waveletref02_Clip.f k a b c d l lo hi) (ClipT a b c d l lo hi) := by
  unfold ClipT
  by_cases h : VP a b c d l
  · rw [if_pos h]
    have h1 := vp_len h
    by_cases h2 : lo > hi
    · rw [if_pos h2]
      exact Ev.eq (g' := fun _ => some (0, 0, 0, 0, [], 2)) (fun k => by rw [waveletref02_Clip.f, rpv, decide_eq_true h, Option.bind_some, if_pos rfl, if_pos h2]) (Ev.const _)
    · rw [if_neg h2]
      refine Ev.eq (fun k => by rw [waveletref02_Clip.f, rpv, decide_eq_true h, Option.bind_some, if_pos rfl, if_neg h2]) ?_
      exact rclip_l0 lo hi a b c d l (by omega) l [] rfl
  · rw [if_neg h]
    exact Ev.eq (g' := fun _ => some (0, 0, 0, 0, [], 1)) (fun k => by rw [waveletref02_Clip.f, rpv, decide_eq_false h, Option.bind_some, if_neg (by decide)]) (Ev.const _)
theorem rlim_l0 (a b c d : Int) (l : List Int) (hl : l.length < 1000000000000000) : ∀ post pre lo hi, l = pre ++ post →
    Ev (fun k => waveletref02_Limits.l0 k lo hi (pre.length : Int) a b c d l) (post.foldl mn lo, post.foldl mx hi, true) := by
  intro post
  induction post with
  | nil =>
    intro pre lo hi h
    rw [List.append_nil] at h
    subst h
    exact Ev.step (g' := fun _ => some (lo, hi, true)) (fun k => by rw [waveletref02_Limits.l0, if_neg (by omega)]) (Ev.const _)
  | cons x post ih =>
    intro pre lo hi h
    have hx : rd l (pre.length : Int) = x := by rw [h]; exact rd_at _ _ _
    have l1 : (pre.length : Int) < (l.length : Int) := by rw [h]; exact in_app _ _ _
    have hs : wrap64 ((pre.length : Int) + 1) = ((pre ++ [x]).length : Int) := nx pre x (by omega)
    refine Ev.step (fun k => ?_) (ih (pre ++ [x]) (mn lo x) (mx hi x) (by simp [h]))
    rw [waveletref02_Limits.l0, if_pos l1, if_pos (by omega), hx, hs]
theorem rlim_ev (a b c d : Int) (l : List Int) : Ev (fun k => waveletref02_Limits.f k a b c d l) (LimT a b c d l) := by
  unfold LimT
  by_cases h : VP a b c d l
  · have h1 := vp_len h
    by_cases h2 : l = []
    · rw [if_neg (fun e => e.2 h2)]
      subst h2
      refine Ev.eq (fun k => by rw [waveletref02_Limits.f, rpv, decide_eq_true h, Option.bind_some, if_pos rfl]) ?_
      exact Ev.step (g' := fun _ => some (0, 0, false)) (fun k => by rw [waveletref02_Limits.j0, if_pos (by rfl)]) (Ev.const _)
    · rw [if_pos ⟨h, h2⟩]
      have hp : 0 < l.length := List.length_pos_iff.2 h2
      refine Ev.eq (fun k => by rw [waveletref02_Limits.f, rpv, decide_eq_true h, Option.bind_some, if_pos rfl]) ?_
      refine Ev.step (fun k => ?_) (rlim_l0 a b c d l (by omega) l [] (rd l 0) (rd l 0) rfl)
      rw [waveletref02_Limits.j0, if_neg (by simp [h2]), if_pos (by omega)]
      rfl
  · rw [if_neg (fun e => h e.1)]
    refine Ev.eq (fun k => by rw [waveletref02_Limits.f, rpv, decide_eq_false h, Option.bind_some, if_neg (by decide)]) ?_
    exact Ev.step (g' := fun _ => some (0, 0, false)) (fun k => by rw [waveletref02_Limits.j0, if_pos rfl]) (Ev.const _)
end Go.Proofs.Ythemchggmlpdhaa.Pure
