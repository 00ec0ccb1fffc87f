/- What the rectangle functions of chapter 1 compute, in plain numbers: used by the pure laws of this chapter. -/
import Derived.Test.YtibaclnknialbaaQ17
namespace Go.Proofs.Ytibaclnknialbaa.Pure
open Go.RowKit Go.Proofs.Ytibaclnknialbaa.Q Go.Proofs.YtibaclnknialbaaW.PrintWords

theorem example_holds : ∃ k, waveletlaw01_exampleHolds.f k = some true := ⟨40, by kernel_rfl⟩

theorem wf_bd {a : Int} (h : (Lit.int .i64 a).wf = true) : -9223372036854775808 ≤ a ∧ a ≤ 9223372036854775807 := by
  simp [Lit.wf, IntKind.min, IntKind.max, IntKind.signed, IntKind.bits] at h
  omega

def Valid (a b c d : Int) : Prop := 0 ≤ a ∧ a ≤ c ∧ c ≤ 4096 ∧ 0 ≤ b ∧ b ≤ d ∧ d ≤ 4096
instance (a b c d : Int) : Decidable (Valid a b c d) := inferInstanceAs (Decidable (0 ≤ a ∧ a ≤ c ∧ c ≤ 4096 ∧ 0 ≤ b ∧ b ≤ d ∧ d ≤ 4096))

theorem valid_eq (a b c d : Int) : rect_Valid.f a b c d = some (decide (Valid a b c d)) := by
  unfold rect_Valid.f
  repeat' split
  all_goals (congr 1; first | (rw [decide_eq_decide]; unfold Valid; omega) | (symm; rw [decide_eq_false_iff_not]; unfold Valid; omega))


theorem empty_eq (a b c d : Int) : rect_Empty.f a b c d = some (decide (c ≤ a ∨ d ≤ b)) := by
  unfold rect_Empty.f
  repeat' split
  all_goals (congr 1; first | (rw [decide_eq_decide]; omega) | (symm; rw [decide_eq_true_iff]; omega))


theorem has_eq (a b c d x y : Int) : rect_Has.f a b c d x y = some (decide (a ≤ x ∧ x < c ∧ b ≤ y ∧ y < d)) := by
  unfold rect_Has.f
  repeat' split
  all_goals (congr 1; first | (rw [decide_eq_decide]; omega) | (symm; rw [decide_eq_false_iff_not]; omega))


theorem mx_spec (a b : Int) : a ≤ mx a b ∧ b ≤ mx a b ∧ (mx a b = a ∨ mx a b = b) := by unfold mx; omega
theorem mn_spec (a b : Int) : mn a b ≤ a ∧ mn a b ≤ b ∧ (mn a b = a ∨ mn a b = b) := by unfold mn; omega
def Inter (a b c d a' b' c' d' : Int) : Int × Int × Int × Int :=
  if mn c c' ≤ mx a a' ∨ mn d d' ≤ mx b b' then (0, 0, 0, 0) else (mx a a', mx b b', mn c c', mn d d')
theorem inter_eq (a b c d a' b' c' d' : Int) : rect_Intersect.f a b c d a' b' c' d' = some (Inter a b c d a' b' c' d') := by
  unfold rect_Intersect.f Inter
  rw [empty_eq]
  simp only [Option.bind_some, decide_eq_true_eq]
  split <;> rfl


/-- Each point of the second is a point of the first. -/
def Within (a b c d a' b' c' d' : Int) : Prop := c' ≤ a' ∨ d' ≤ b' ∨ (a ≤ a' ∧ c' ≤ c ∧ b ≤ b' ∧ d' ≤ d)
instance (a b c d a' b' c' d' : Int) : Decidable (Within a b c d a' b' c' d') := inferInstanceAs (Decidable (c' ≤ a' ∨ d' ≤ b' ∨ (a ≤ a' ∧ c' ≤ c ∧ b ≤ b' ∧ d' ≤ d)))
theorem inter_is (a b c d a' b' c' d' : Int) (h : a' < c') (h2 : b' < d') : Inter a b c d a' b' c' d' = (a', b', c', d') ↔ (a ≤ a' ∧ c' ≤ c ∧ b ≤ b' ∧ d' ≤ d) := by
  have x0 := mx_spec a a'
  have x1 := mx_spec b b'
  have x2 := mn_spec c c'
  have x3 := mn_spec d d'
  by_cases hc : mn c c' ≤ mx a a' ∨ mn d d' ≤ mx b b'
  · rw [Inter, if_pos hc]
    simp only [Prod.mk.injEq]
    omega
  · rw [Inter, if_neg hc]
    simp only [Prod.mk.injEq]
    omega
theorem contains_eq (a b c d a' b' c' d' : Int) : rect_Contains.f a b c d a' b' c' d' = some (decide (Within a b c d a' b' c' d')) := by
  unfold rect_Contains.f
  rw [empty_eq, inter_eq]
  simp only [Option.bind_some, decide_eq_true_eq]
  split
  · congr 1; symm; rw [decide_eq_true_iff]; unfold Within; omega
  · have h := inter_is a b c d a' b' c' d' (by omega) (by omega)
    congr 1
    rw [Bool.eq_iff_iff]
    simp only [Bool.and_eq_true, beq_iff_eq, decide_eq_true_eq]
    rw [show Within a b c d a' b' c' d' ↔ (a ≤ a' ∧ c' ≤ c ∧ b ≤ b' ∧ d' ≤ d) by unfold Within; omega, ← h]
    constructor
    · rintro ⟨h1, h2, h3, h4⟩; exact Prod.ext h1 (Prod.ext h2 (Prod.ext h3 h4))
    · intro e; rw [e]; exact ⟨rfl, rfl, rfl, rfl⟩




def Area (a b c d : Int) : Int := if Valid a b c d then (c - a) * (d - b) else 0
theorem mul_bd {x y m n : Int} (h0 : 0 ≤ x) (h1 : x ≤ m) (h2 : 0 ≤ y) (h3 : y ≤ n) : 0 ≤ x * y ∧ x * y ≤ m * n :=
  ⟨Int.mul_nonneg h0 h2, Int.mul_le_mul h1 h3 h2 (by omega)⟩
theorem area_eq (a b c d : Int) : rect_Area.f a b c d = some (Area a b c d) := by
  unfold rect_Area.f Area
  rw [valid_eq]
  simp only [Option.bind_some, decide_eq_true_eq]
  split
  · rename_i h
    have h' := h
    unfold Valid at h'
    congr 1
    have hm := @mul_bd (c - a) (d - b) 4096 4096 (by omega) (by omega) (by omega) (by omega)
    rw [show wrap64 (c - a) = c - a by unfold wrap64; omega, show wrap64 (d - b) = d - b by unfold wrap64; omega]
    unfold wrap64
    omega
  · rfl


def cdiv (a b : Int) : Int := if b < 1 then 0 else if Int.tmod a b > 0 then wrap64 (wrap64 (Int.tdiv a b) + 1) else wrap64 (Int.tdiv a b)
def fdiv (a b : Int) : Int := if b < 1 then 0 else if Int.tmod a b < 0 then wrap64 (wrap64 (Int.tdiv a b) - 1) else wrap64 (Int.tdiv a b)
theorem ceil_eq (a b : Int) : rect_CeilDiv.f a b = some (cdiv a b) := by
  unfold rect_CeilDiv.f cdiv
  by_cases h : b < 1
  · rw [if_pos h, if_pos h]
  · rw [if_neg h, if_neg (by omega), if_neg h]
    split <;> rfl
theorem floor_eq (a b : Int) : rect_FloorDiv.f a b = some (fdiv a b) := by
  unfold rect_FloorDiv.f fdiv
  by_cases h : b < 1
  · rw [if_pos h, if_pos h]
  · rw [if_neg h, if_neg (by omega), if_neg h]
    split <;> rfl


def Red (a b c d x y : Int) : Int × Int × Int × Int :=
  if Valid a b c d ∧ 1 ≤ x ∧ x ≤ 4096 ∧ 1 ≤ y ∧ y ≤ 4096 then (cdiv a x, cdiv b y, cdiv c x, cdiv d y) else (0, 0, 0, 0)
theorem reduce_eq (k : Nat) (a b c d x y : Int) : rect_Reduce.f (k + 1) a b c d x y = some (Red a b c d x y) := by
  unfold rect_Reduce.f Red
  rw [valid_eq]
  simp only [Option.bind_some, decide_eq_true_eq, rect_Reduce.j0, ceil_eq, if_true]
  by_cases h0 : Valid a b c d
  · rw [if_pos h0]
    by_cases h1 : x < 1
    · rw [if_pos h1, if_neg (by omega)]
    rw [if_neg h1]
    by_cases h2 : x > 4096
    · rw [if_pos h2, if_neg (by omega)]
    rw [if_neg h2]
    by_cases h3 : y < 1
    · rw [if_pos h3, if_neg (by omega)]
    rw [if_neg h3]
    by_cases h4 : y > 4096
    · rw [if_pos h4, if_neg (by omega)]
    rw [if_neg h4, if_pos ⟨h0, by omega, by omega, by omega, by omega⟩]
  · rw [if_neg h0, if_neg (fun h => h0 h.1)]
end Go.Proofs.Ytibaclnknialbaa.Pure
