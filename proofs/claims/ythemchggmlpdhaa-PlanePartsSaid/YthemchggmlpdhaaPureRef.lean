/- The reference's functions of planes, by the point. -/
import Derived.Test.YthemchggmlpdhaaPureSem
import Derived.Test.YthemchggmlpdhaaQ29
import Derived.Test.YthemchggmlpdhaaQ30
import Derived.Test.YthemchggmlpdhaaQ31
namespace Go.Proofs.Ythemchggmlpdhaa.Pure
open Go Go.RowKit Go.Proofs.Ythemchggmlpdhaa.Q Go.Proofs.YthemchggmlpdhaaW.PrintWords
set_option linter.unusedVariables false
theorem rvalid_eq (a b c d : Int) : waveletref01_Valid.f a b c d = some (decide (Valid a b c d)) := valid_eq a b c d
theorem rarea_eq (a b c d : Int) : waveletref01_Area.f a b c d = some (Area a b c d) := area_eq a b c d
theorem rpv (a b c d : Int) (l : List Int) : waveletref02_Valid.f a b c d l = some (decide (VP a b c d l)) := by
  unfold waveletref02_Valid.f
  rw [rvalid_eq, rarea_eq]
  simp only [Option.bind_some, decide_eq_true_eq]
  by_cases h : Valid a b c d
  · rw [if_pos h]
    by_cases h2 : Area a b c d ≤ 1048576
    · rw [if_pos h2]
      congr 1
      rw [Bool.eq_iff_iff]
      simp only [beq_iff_eq, decide_eq_true_eq]
      exact ⟨fun e => ⟨h, h2, e⟩, fun e => e.2.2⟩
    · rw [if_neg h2]
      congr 1
      symm
      rw [decide_eq_false_iff_not]
      exact fun e => h2 e.2.1
  · rw [if_neg h]
    congr 1
    symm
    rw [decide_eq_false_iff_not]
    exact fun e => h e.1
theorem rhas_eq (a b c d x y : Int) : waveletref01_Has.f a b c d x y = some (decide (a ≤ x ∧ x < c ∧ b ≤ y ∧ y < d)) := has_eq a b c d x y
theorem get_eq {a b c d : Int} {l : List Int} (h : VP a b c d l) {x y : Int} (hx : a ≤ x ∧ x < c) (hy : b ≤ y ∧ y < d) : waveletref02_Get.f a b c d l x y = some (G a b c l x y) := by
  have hb := ix_bd h hx hy
  unfold waveletref02_Get.f
  rw [ix_w h hx hy, if_pos hb.1, if_pos hb.2]
  rfl
end Go.Proofs.Ythemchggmlpdhaa.Pure
