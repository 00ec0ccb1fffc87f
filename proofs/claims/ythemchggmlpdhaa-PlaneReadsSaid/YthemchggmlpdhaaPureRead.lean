/- The reference's At, Row and Column. -/
import Derived.Test.YthemchggmlpdhaaPureRef
import Derived.Test.YthemchggmlpdhaaQ32
import Derived.Test.YthemchggmlpdhaaQ33
import Derived.Test.YthemchggmlpdhaaQ34
namespace Go.Proofs.Ythemchggmlpdhaa.Pure
open Go Go.RowKit Go.Proofs.Ythemchggmlpdhaa.Q Go.Proofs.YthemchggmlpdhaaW.PrintWords
set_option linter.unusedVariables false
theorem rat_eq (a b c d : Int) (l : List Int) (x y : Int) : waveletref02_At.f a b c d l x y = some (if VP a b c d l ∧ (a ≤ x ∧ x < c ∧ b ≤ y ∧ y < d) then (G a b c l x y, true) else (0, false)) := by
  unfold waveletref02_At.f
  rw [rpv, rhas_eq]
  simp only [Option.bind_some, decide_eq_true_eq]
  by_cases h : VP a b c d l
  · rw [if_pos h]
    by_cases h2 : a ≤ x ∧ x < c ∧ b ≤ y ∧ y < d
    · rw [if_pos h2, get_eq h (by omega) (by omega), if_pos ⟨h, h2⟩]
      rfl
    · rw [if_neg h2, if_neg (fun e => h2 e.2)]
  · rw [if_neg h, if_neg (fun e => h e.1)]
theorem rrow_l0 (a b c d : Int) (l : List Int) (h : VP a b c d l) (y : Int) (hy : b ≤ y ∧ y < d) : ∀ (m n : Nat), (n + m : Nat) = (c - a).toNat →
    Ev (fun k => waveletref02_Row.l0 k y ((List.range n).map (fun i : Nat => G a b c l (a + (i : Int)) y)) (a + (n : Int)) a b c d l) (rowT a b c l y, true) := by
  have h1 := vp_len h
  intro m
  induction m with
  | zero =>
    intro n hn
    refine Ev.step (g' := fun _ => some (rowT a b c l y, true)) (fun k => ?_) (Ev.const _)
    rw [waveletref02_Row.l0, if_neg (by omega)]
    unfold rowT
    rw [← hn, Nat.add_zero]
  | succ m ih =>
    intro n hn
    refine Ev.step (fun k => ?_) (ih (n + 1) (by omega))
    rw [waveletref02_Row.l0, if_pos (by omega), get_eq h (by omega) hy, Option.bind_some, if_pos (by simp; omega), List.range_succ, List.map_append]
    have e1 : wrap64 (a + (n : Int) + 1) = a + ((n + 1 : Nat) : Int) := by unfold wrap64; omega
    rw [e1]
    rfl
theorem rrow_ev (a b c d : Int) (l : List Int) (y : Int) : Ev (fun k => waveletref02_Row.f k a b c d l y) (if VP a b c d l ∧ b ≤ y ∧ y < d then (rowT a b c l y, true) else ([], false)) := by
  by_cases h : VP a b c d l
  · have h1 := vp_len h
    by_cases h2 : b ≤ y ∧ y < d
    · rw [if_pos ⟨h, h2⟩]
      refine Ev.eq (fun k => by rw [waveletref02_Row.f, rpv, decide_eq_true h, Option.bind_some, if_pos rfl, if_neg (by omega), decide_eq_false (by omega)]) ?_
      refine Ev.step (fun k => ?_) (rrow_l0 a b c d l h y h2 (c - a).toNat 0 (by omega))
      rw [waveletref02_Row.j0, if_neg (by decide), show a + ((0 : Nat) : Int) = a from Int.add_zero a]
      rfl
    · rw [if_neg (fun e => h2 e.2)]
      by_cases h3 : y < b
      · refine Ev.eq (fun k => by rw [waveletref02_Row.f, rpv, decide_eq_true h, Option.bind_some, if_pos rfl, if_pos h3]) ?_
        exact Ev.step (g' := fun _ => some ([], false)) (fun k => by rw [waveletref02_Row.j0, if_pos rfl]) (Ev.const _)
      · refine Ev.eq (fun k => by rw [waveletref02_Row.f, rpv, decide_eq_true h, Option.bind_some, if_pos rfl, if_neg h3, decide_eq_true (by omega)]) ?_
        exact Ev.step (g' := fun _ => some ([], false)) (fun k => by rw [waveletref02_Row.j0, if_pos rfl]) (Ev.const _)
  · rw [if_neg (fun e => h e.1)]
    refine Ev.eq (fun k => by rw [waveletref02_Row.f, rpv, decide_eq_false h, Option.bind_some, if_neg (by decide)]) ?_
    exact Ev.step (g' := fun _ => some ([], false)) (fun k => by rw [waveletref02_Row.j0, if_pos rfl]) (Ev.const _)
theorem rcol_l0 (a b c d : Int) (l : List Int) (h : VP a b c d l) (x : Int) (hx : a ≤ x ∧ x < c) : ∀ (m n : Nat), (n + m : Nat) = (d - b).toNat →
    Ev (fun k => waveletref02_Column.l0 k x ((List.range n).map (fun j : Nat => G a b c l x (b + (j : Int)))) (b + (n : Int)) a b c d l) (colT a b c d l x, true) := by
  have h1 := vp_len h
  intro m
  induction m with
  | zero =>
    intro n hn
    refine Ev.step (g' := fun _ => some (colT a b c d l x, true)) (fun k => ?_) (Ev.const _)
    rw [waveletref02_Column.l0, if_neg (by omega)]
    unfold colT
    rw [← hn, Nat.add_zero]
  | succ m ih =>
    intro n hn
    refine Ev.step (fun k => ?_) (ih (n + 1) (by omega))
    rw [waveletref02_Column.l0, if_pos (by omega), get_eq h hx (by omega), Option.bind_some, if_pos (by simp; omega), List.range_succ, List.map_append]
    have e1 : wrap64 (b + (n : Int) + 1) = b + ((n + 1 : Nat) : Int) := by unfold wrap64; omega
    rw [e1]
    rfl
theorem rcol_ev (a b c d : Int) (l : List Int) (x : Int) : Ev (fun k => waveletref02_Column.f k a b c d l x) (if VP a b c d l ∧ a ≤ x ∧ x < c then (colT a b c d l x, true) else ([], false)) := by
  by_cases h : VP a b c d l
  · have h1 := vp_len h
    by_cases h2 : a ≤ x ∧ x < c
    · rw [if_pos ⟨h, h2⟩]
      refine Ev.eq (fun k => by rw [waveletref02_Column.f, rpv, decide_eq_true h, Option.bind_some, if_pos rfl, if_neg (by omega), decide_eq_false (by omega)]) ?_
      refine Ev.step (fun k => ?_) (rcol_l0 a b c d l h x h2 (d - b).toNat 0 (by omega))
      rw [waveletref02_Column.j0, if_neg (by decide), show b + ((0 : Nat) : Int) = b from Int.add_zero b]
      rfl
    · rw [if_neg (fun e => h2 e.2)]
      by_cases h3 : x < a
      · refine Ev.eq (fun k => by rw [waveletref02_Column.f, rpv, decide_eq_true h, Option.bind_some, if_pos rfl, if_pos h3]) ?_
        exact Ev.step (g' := fun _ => some ([], false)) (fun k => by rw [waveletref02_Column.j0, if_pos rfl]) (Ev.const _)
      · refine Ev.eq (fun k => by rw [waveletref02_Column.f, rpv, decide_eq_true h, Option.bind_some, if_pos rfl, if_neg h3, decide_eq_true (by omega)]) ?_
        exact Ev.step (g' := fun _ => some ([], false)) (fun k => by rw [waveletref02_Column.j0, if_pos rfl]) (Ev.const _)
  · rw [if_neg (fun e => h e.1)]
    refine Ev.eq (fun k => by rw [waveletref02_Column.f, rpv, decide_eq_false h, Option.bind_some, if_neg (by decide)]) ?_
    exact Ev.step (g' := fun _ => some ([], false)) (fun k => by rw [waveletref02_Column.j0, if_pos rfl]) (Ev.const _)
end Go.Proofs.Ythemchggmlpdhaa.Pure
