/- What the functions of planes compute, in plain numbers: used by the pure laws of this chapter. -/
import Derived.Test.YthemchggmlpdhaaQ4
import Derived.Test.YthemchggmlpdhaaQ7
import Derived.Test.YthemchggmlpdhaaQ8
import Derived.Test.YthemchggmlpdhaaQ9
import Derived.Test.YthemchggmlpdhaaQ10
import Derived.Test.YthemchggmlpdhaaQ12
import Derived.Test.YthemchggmlpdhaaQ13
import Derived.Test.YthemchggmlpdhaaQ14
import Derived.Test.YthemchggmlpdhaaQ17
import Derived.Test.YthemchggmlpdhaaQ19
import Derived.Test.YthemchggmlpdhaaQ20
import Derived.Test.YthemchggmlpdhaaQ21
import Derived.Test.YthemchggmlpdhaaQ22
import Derived.Test.YthemchggmlpdhaaQ23
namespace Go.Proofs.Ythemchggmlpdhaa.Pure
open Go Go.RowKit Go.Proofs.Ythemchggmlpdhaa.Q Go.Proofs.YthemchggmlpdhaaW.PrintWords
set_option linter.unusedVariables false

/-- From some number of rounds on, the answer is there. -/
def Ev {α : Type} (g : Nat → Option α) (v : α) : Prop := ∃ K, ∀ k, K ≤ k → g k = some v
theorem Ev.const {α : Type} (v : α) : Ev (fun _ => some v) v := ⟨0, fun _ _ => rfl⟩
theorem Ev.bind {α β : Type} {f : Nat → Option α} {h : Nat → α → Option β} {a : α} {v : β} (hf : Ev f a) (hh : Ev (fun k => h k a) v) : Ev (fun k => (f k).bind (h k)) v := by
  obtain ⟨K, hK⟩ := hf
  obtain ⟨L, hL⟩ := hh
  refine ⟨K + L, fun k hk => ?_⟩
  show (f k).bind (h k) = some v
  rw [hK k (by omega)]
  exact hL k (by omega)
theorem Ev.step {α : Type} {g g' : Nat → Option α} {v : α} (h : ∀ k, g (k + 1) = g' k) (hg : Ev g' v) : Ev g v := by
  obtain ⟨K, hK⟩ := hg
  refine ⟨K + 1, fun k hk => ?_⟩
  obtain ⟨j, rfl⟩ : ∃ j, k = j + 1 := ⟨k - 1, by omega⟩
  rw [h]
  exact hK j (by omega)
theorem Ev.eq {α : Type} {g g' : Nat → Option α} {v : α} (h : ∀ k, g k = g' k) (hg : Ev g' v) : Ev g v := by
  obtain ⟨K, hK⟩ := hg
  exact ⟨K, fun k hk => (h k).trans (hK k hk)⟩
theorem Ev.ex {α : Type} {g : Nat → Option α} {v : α} (h : Ev g v) : ∃ k, g k = some v := by
  obtain ⟨K, hK⟩ := h
  exact ⟨K, hK K (Nat.le_refl _)⟩
theorem Ev.at {α : Type} {g : Nat → Option α} {v : α} (h : ∀ k, LeO (g k) (g (k + 1))) (e : ∃ k, g k = some v) : Ev g v := by
  obtain ⟨K, hK⟩ := e
  exact ⟨K, fun k hk => at_rounds h hk hK⟩

theorem rd_at (pre post : List Int) (x : Int) : rd (pre ++ x :: post) (pre.length : Int) = x := by simp [rd, List.getD]
theorem nx {α : Type} (pre : List α) (x : α) (h : pre.length < 1000000000000000) : wrap64 ((pre.length : Int) + 1) = ((pre ++ [x]).length : Int) := by
  rw [List.length_append, List.length_singleton]
  unfold wrap64
  omega
theorem in_app {α : Type} (pre post : List α) (x : α) : (pre.length : Int) < ((pre ++ x :: post).length : Int) := by
  rw [List.length_append, List.length_cons]; omega

def Valid (a b c d : Int) : Prop := 0 ≤ a ∧ a ≤ c ∧ c ≤ 4096 ∧ 0 ≤ b ∧ b ≤ d ∧ d ≤ 4096
instance (a b c d : Int) : Decidable (Valid a b c d) := inferInstanceAs (Decidable (0 ≤ a ∧ a ≤ c ∧ c ≤ 4096 ∧ 0 ≤ b ∧ b ≤ d ∧ d ≤ 4096))
theorem valid_eq (a b c d : Int) : rect_Valid.f a b c d = some (decide (Valid a b c d)) := by
  unfold rect_Valid.f
  repeat' split
  all_goals (congr 1; first | (rw [decide_eq_decide]; unfold Valid; omega) | (symm; rw [decide_eq_false_iff_not]; unfold Valid; omega))
def Area (a b c d : Int) : Int := if Valid a b c d then (c - a) * (d - b) else 0
theorem mul_bd {x y m n : Int} (h0 : 0 ≤ x) (h1 : x ≤ m) (h2 : 0 ≤ y) (h3 : y ≤ n) : 0 ≤ x * y ∧ x * y ≤ m * n :=
  ⟨Int.mul_nonneg h0 h2, Int.mul_le_mul h1 h3 h2 (by omega)⟩
theorem area_eq (a b c d : Int) : rect_Area.f a b c d = some (Area a b c d) := by
  unfold rect_Area.f Area
  rw [valid_eq]
  simp only [Option.bind_some, decide_eq_true_eq]
  split
  · rename_i h
    have h' := h
    unfold Valid at h'
    congr 1
    have hm := @mul_bd (c - a) (d - b) 4096 4096 (by omega) (by omega) (by omega) (by omega)
    rw [show wrap64 (c - a) = c - a by unfold wrap64; omega, show wrap64 (d - b) = d - b by unfold wrap64; omega]
    unfold wrap64
    omega
  · rfl
/-- A plane that is valid. -/
def VP (a b c d : Int) (l : List Int) : Prop := Valid a b c d ∧ Area a b c d ≤ 1048576 ∧ (l.length : Int) = Area a b c d
instance (a b c d : Int) (l : List Int) : Decidable (VP a b c d l) := inferInstanceAs (Decidable (Valid a b c d ∧ Area a b c d ≤ 1048576 ∧ (l.length : Int) = Area a b c d))
theorem pvalid_eq (a b c d : Int) (l : List Int) : plane_Valid.f a b c d l = some (decide (VP a b c d l)) := by
  unfold plane_Valid.f
  rw [valid_eq, area_eq]
  simp only [Option.bind_some, decide_eq_true_eq]
  by_cases h : Valid a b c d
  · rw [if_pos h]
    by_cases h2 : Area a b c d ≤ 1048576
    · rw [if_pos h2]
      congr 1
      rw [Bool.eq_iff_iff]
      simp only [beq_iff_eq, decide_eq_true_eq]
      exact ⟨fun e => ⟨h, h2, e⟩, fun e => e.2.2⟩
    · rw [if_neg h2]
      congr 1
      symm
      rw [decide_eq_false_iff_not]
      exact fun e => h2 e.2.1
  · rw [if_neg h]
    congr 1
    symm
    rw [decide_eq_false_iff_not]
    exact fun e => h e.1
theorem empty_eq (a b c d : Int) : rect_Empty.f a b c d = some (decide (c ≤ a ∨ d ≤ b)) := by
  unfold rect_Empty.f
  repeat' split
  all_goals (congr 1; first | (rw [decide_eq_decide]; omega) | (symm; rw [decide_eq_true_iff]; omega))


theorem has_eq (a b c d x y : Int) : rect_Has.f a b c d x y = some (decide (a ≤ x ∧ x < c ∧ b ≤ y ∧ y < d)) := by
  unfold rect_Has.f
  repeat' split
  all_goals (congr 1; first | (rw [decide_eq_decide]; omega) | (symm; rw [decide_eq_false_iff_not]; omega))


theorem mx_spec (a b : Int) : a ≤ mx a b ∧ b ≤ mx a b ∧ (mx a b = a ∨ mx a b = b) := by unfold mx; omega
theorem mn_spec (a b : Int) : mn a b ≤ a ∧ mn a b ≤ b ∧ (mn a b = a ∨ mn a b = b) := by unfold mn; omega
def Inter (a b c d a' b' c' d' : Int) : Int × Int × Int × Int :=
  if mn c c' ≤ mx a a' ∨ mn d d' ≤ mx b b' then (0, 0, 0, 0) else (mx a a', mx b b', mn c c', mn d d')
theorem inter_eq (a b c d a' b' c' d' : Int) : rect_Intersect.f a b c d a' b' c' d' = some (Inter a b c d a' b' c' d') := by
  unfold rect_Intersect.f Inter
  rw [empty_eq]
  simp only [Option.bind_some, decide_eq_true_eq]
  split <;> rfl


/-- Each point of the second is a point of the first. -/
def Within (a b c d a' b' c' d' : Int) : Prop := c' ≤ a' ∨ d' ≤ b' ∨ (a ≤ a' ∧ c' ≤ c ∧ b ≤ b' ∧ d' ≤ d)
instance (a b c d a' b' c' d' : Int) : Decidable (Within a b c d a' b' c' d') := inferInstanceAs (Decidable (c' ≤ a' ∨ d' ≤ b' ∨ (a ≤ a' ∧ c' ≤ c ∧ b ≤ b' ∧ d' ≤ d)))
theorem inter_is (a b c d a' b' c' d' : Int) (h : a' < c') (h2 : b' < d') : Inter a b c d a' b' c' d' = (a', b', c', d') ↔ (a ≤ a' ∧ c' ≤ c ∧ b ≤ b' ∧ d' ≤ d) := by
  have x0 := mx_spec a a'
  have x1 := mx_spec b b'
  have x2 := mn_spec c c'
  have x3 := mn_spec d d'
  by_cases hc : mn c c' ≤ mx a a' ∨ mn d d' ≤ mx b b'
  · rw [Inter, if_pos hc]
    simp only [Prod.mk.injEq]
    omega
  · rw [Inter, if_neg hc]
    simp only [Prod.mk.injEq]
    omega
theorem contains_eq (a b c d a' b' c' d' : Int) : rect_Contains.f a b c d a' b' c' d' = some (decide (Within a b c d a' b' c' d')) := by
  unfold rect_Contains.f
  rw [empty_eq, inter_eq]
  simp only [Option.bind_some, decide_eq_true_eq]
  split
  · congr 1; symm; rw [decide_eq_true_iff]; unfold Within; omega
  · have h := inter_is a b c d a' b' c' d' (by omega) (by omega)
    congr 1
    rw [Bool.eq_iff_iff]
    simp only [Bool.and_eq_true, beq_iff_eq, decide_eq_true_eq]
    rw [show Within a b c d a' b' c' d' ↔ (a ≤ a' ∧ c' ≤ c ∧ b ≤ b' ∧ d' ≤ d) by unfold Within; omega, ← h]
    constructor
    · rintro ⟨h1, h2, h3, h4⟩; exact Prod.ext h1 (Prod.ext h2 (Prod.ext h3 h4))
    · intro e; rw [e]; exact ⟨rfl, rfl, rfl, rfl⟩




theorem ints_l0 (p q : List Int) (hp : p.length < 1000000000000000) : ∀ post postq pre preq, p = pre ++ post → q = preq ++ postq → pre.length = preq.length → post.length = postq.length →
    Ev (fun k => waveletref02_SameInts.l0 k p q (pre.length : Int)) (decide (post = postq)) := by
  intro post
  induction post with
  | nil =>
    intro postq pre preq h h' hl hpq
    rw [List.append_nil] at h
    subst h
    have : postq = [] := by cases postq with
      | nil => rfl
      | cons y t => simp at hpq
    subst this
    refine Ev.step (fun k => by rw [waveletref02_SameInts.l0, if_neg (by omega)]) ?_
    exact Ev.const _
  | cons x post ih =>
    intro postq pre preq h h' hl hpq
    match postq, hpq with
    | y :: postq, hpq =>
      have hx : rd p (pre.length : Int) = x := by rw [h]; exact rd_at _ _ _
      have hy : rd q (pre.length : Int) = y := by rw [h', hl]; exact rd_at _ _ _
      have hi1 : (pre.length : Int) < (p.length : Int) := by rw [h]; exact in_app _ _ _
      have hi2 : (pre.length : Int) < (q.length : Int) := by rw [h', hl]; exact in_app _ _ _
      have hs : wrap64 ((pre.length : Int) + 1) = ((pre ++ [x]).length : Int) := nx pre x (by omega)
      by_cases e : x = y
      · refine Ev.step (fun k => by rw [waveletref02_SameInts.l0, if_pos hi1, if_pos (by omega), if_pos hi2, hx, hy, if_pos e, hs]) ?_
        have h1 := ih postq (pre ++ [x]) (preq ++ [y]) (by simp [h]) (by simp [h']) (by simp [hl]) (by simpa using hpq)
        have h2 : decide (x :: post = y :: postq) = decide (post = postq) := by rw [decide_eq_decide, e]; simp
        rw [h2]
        exact h1
      · refine Ev.step (fun k => by rw [waveletref02_SameInts.l0, if_pos hi1, if_pos (by omega), if_pos hi2, hx, hy, if_neg e]) ?_
        have h2 : decide (x :: post = y :: postq) = false := by rw [decide_eq_false_iff_not]; intro h3; injection h3 with h4; exact e h4
        rw [h2]
        exact Ev.const _
theorem ints_ev (p q : List Int) (hp : p.length < 1000000000000000) : Ev (fun k => waveletref02_SameInts.f k p q) (decide (p = q)) := by
  by_cases h : p.length = q.length
  · refine Ev.eq (fun k => by rw [waveletref02_SameInts.f, if_pos (by omega)]) ?_
    exact ints_l0 p q hp p q [] [] rfl rfl rfl h
  · rw [decide_eq_false (fun e => h (by rw [e]))]
    refine Ev.eq (fun k => by rw [waveletref02_SameInts.f, if_neg (by omega)]) ?_
    exact Ev.const _
end Go.Proofs.Ythemchggmlpdhaa.Pure
