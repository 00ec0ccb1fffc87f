/- The reference's Crop. -/
import Derived.Test.YthemchggmlpdhaaPurePre
import Derived.Test.YthemchggmlpdhaaQ37
import Derived.Test.YthemchggmlpdhaaQ38
namespace Go.Proofs.Ythemchggmlpdhaa.Pure
open Go Go.RowKit Go.Proofs.Ythemchggmlpdhaa.Q Go.Proofs.YthemchggmlpdhaaW.PrintWords
set_option linter.unusedVariables false
theorem rempty_eq (a b c d : Int) : waveletref01_Empty.f a b c d = some (decide (c ≤ a ∨ d ≤ b)) := empty_eq a b c d
theorem rcontains_eq (a b c d a' b' c' d' : Int) : waveletref01_Contains.f a b c d a' b' c' d' = some (decide (Within a b c d a' b' c' d')) := by
  unfold waveletref01_Contains.f
  rw [rempty_eq]
  simp only [Option.bind_some, decide_eq_true_eq]
  repeat' split
  all_goals (congr 1; first | (rw [decide_eq_decide]; unfold Within; omega) | (symm; rw [decide_eq_true_iff]; unfold Within; omega) | (symm; rw [decide_eq_false_iff_not]; unfold Within; omega))
theorem rcrop_l1 (a b c d : Int) (l : List Int) (h : VP a b c d l) (p q u v : Int) (hin : In p q u v a b c d) (j : Nat) (hj : (j : Int) < v - q) (R : Int × Int × Int × Int × List Int × Int)
    (hout : Ev (fun k => waveletref02_Crop.l0 k (wrap64 (q + (j : Int) + 1)) a b c d l p q u v p q u v (pre p q u (G a b c l) ((j + 1) * (u - p).toNat))) R) :
    ∀ (m i : Nat), i + m = (u - p).toNat → Ev (fun k => waveletref02_Crop.l1 k (q + (j : Int)) (p + (i : Int)) a b c d l p q u v p q u v (pre p q u (G a b c l) (j * (u - p).toNat + i))) R := by
  have h1 := vp_len h
  unfold In at hin
  intro m
  induction m with
  | zero =>
    intro i hi
    refine Ev.step (fun k => ?_) hout
    rw [waveletref02_Crop.l1, if_neg (by omega), Nat.succ_mul, show i = (u - p).toNat by omega]
  | succ m ih =>
    intro i hi
    refine Ev.step (fun k => ?_) (ih (i + 1) (by omega))
    have hsm := @small_mul j (u - p).toNat (by omega) (by omega)
    rw [waveletref02_Crop.l1, if_pos (by omega), get_eq h (by omega) (by omega), Option.bind_some, if_pos (by rw [pre_len]; omega), pre_succ _ _ _ _ _ _ (by omega)]
    have e1 : wrap64 (p + (i : Int) + 1) = p + ((i + 1 : Nat) : Int) := by unfold wrap64; omega
    rw [e1]
theorem rcrop_l0 (a b c d : Int) (l : List Int) (h : VP a b c d l) (p q u v : Int) (hin : In p q u v a b c d) :
    ∀ (m j : Nat), j + m = (v - q).toNat → Ev (fun k => waveletref02_Crop.l0 k (q + (j : Int)) a b c d l p q u v p q u v (pre p q u (G a b c l) (j * (u - p).toNat))) (p, q, u, v, tabT p q u v (G a b c l), 0) := by
  have h1 := vp_len h
  have hin' := hin
  unfold In at hin'
  intro m
  induction m with
  | zero =>
    intro j hj
    refine Ev.step (g' := fun _ => some (p, q, u, v, tabT p q u v (G a b c l), 0)) (fun k => ?_) (Ev.const _)
    rw [waveletref02_Crop.l0, if_neg (by omega), show j = (v - q).toNat by omega, pre_all _ _ _ _ _ (by omega) (by omega)]
  | succ m ih =>
    intro j hj
    refine Ev.step (fun k => ?_) (rcrop_l1 a b c d l h p q u v hin j (by omega) _ ?_ (u - p).toNat 0 (by omega))
    · rw [waveletref02_Crop.l0, if_pos (by omega), Nat.add_zero, show p + ((0 : Nat) : Int) = p from Int.add_zero p]
    · have e1 : wrap64 (q + (j : Int) + 1) = q + ((j + 1 : Nat) : Int) := by unfold wrap64; omega
      rw [e1]
      exact ih (j + 1) (by omega)
theorem rcrop_empty_l1 (a b c d : Int) (l : List Int) (p q u v y : Int) (hW : u ≤ p) (R : Int × Int × Int × Int × List Int × Int) (hout : Ev (fun k => waveletref02_Crop.l0 k (wrap64 (y + 1)) a b c d l p q u v p q u v []) R) :
    Ev (fun k => waveletref02_Crop.l1 k y p a b c d l p q u v p q u v []) R :=
  Ev.step (fun k => by rw [waveletref02_Crop.l1, if_neg (by omega)]) hout
theorem rcrop_empty (a b c d : Int) (l : List Int) (p q u v : Int) (hv : Valid p q u v) (he : u ≤ p ∨ v ≤ q) : ∀ (m j : Nat), j + m = (v - q).toNat →
    Ev (fun k => waveletref02_Crop.l0 k (q + (j : Int)) a b c d l p q u v p q u v []) (p, q, u, v, [], 0) := by
  unfold Valid at hv
  intro m
  induction m with
  | zero =>
    intro j hj
    exact Ev.step (g' := fun _ => some (p, q, u, v, [], 0)) (fun k => by rw [waveletref02_Crop.l0, if_neg (by omega)]) (Ev.const _)
  | succ m ih =>
    intro j hj
    refine Ev.step (fun k => by rw [waveletref02_Crop.l0, if_pos (by omega)]) (rcrop_empty_l1 a b c d l p q u v _ (by omega) _ ?_)
    have e1 : wrap64 (q + (j : Int) + 1) = q + ((j + 1 : Nat) : Int) := by unfold wrap64; omega
    rw [e1]
    exact ih (j + 1) (by omega)
theorem rcrop_ev (a b c d : Int) (l : List Int) (p q u v : Int) : Ev (fun k => waveletref02_Crop.f k a b c d l p q u v) (CropT a b c d l p q u v) := by
  unfold CropT
  by_cases h : VP a b c d l
  · rw [if_pos h]
    have h1 := vp_len h
    by_cases hv : Valid p q u v
    · by_cases hw : Within a b c d p q u v
      · rw [if_pos ⟨hv, hw⟩]
        refine Ev.eq (fun k => by rw [waveletref02_Crop.f, rpv, decide_eq_true h, Option.bind_some, if_pos rfl, rvalid_eq, decide_eq_true hv, Option.bind_some, if_pos rfl, rcontains_eq, decide_eq_true hw, Option.bind_some]) ?_
        have hv' := hv
        unfold Valid at hv'
        by_cases he : u ≤ p ∨ v ≤ q
        · have hz : (u - p) * (v - q) = 0 := by
            rcases he with e | e
            · rw [show u - p = 0 by omega, Int.zero_mul]
            · rw [show v - q = 0 by omega, Int.mul_zero]
          rw [tab_nil _ _ _ _ _ hz]
          refine Ev.step (fun k => ?_) (rcrop_empty a b c d l p q u v hv he (v - q).toNat 0 (by omega))
          rw [waveletref02_Crop.j0, if_neg (by decide), show q + ((0 : Nat) : Int) = q from Int.add_zero q]
        · unfold Within at hw
          have hi : In p q u v a b c d := by unfold In; omega
          refine Ev.step (fun k => ?_) (rcrop_l0 a b c d l h p q u v hi (v - q).toNat 0 (by omega))
          rw [waveletref02_Crop.j0, if_neg (by decide), show q + ((0 : Nat) : Int) = q from Int.add_zero q, Nat.zero_mul]
          rfl
      · rw [if_neg (fun e => hw e.2)]
        refine Ev.eq (fun k => by rw [waveletref02_Crop.f, rpv, decide_eq_true h, Option.bind_some, if_pos rfl, rvalid_eq, decide_eq_true hv, Option.bind_some, if_pos rfl, rcontains_eq, decide_eq_false hw, Option.bind_some]) ?_
        exact Ev.step (g' := fun _ => some (0, 0, 0, 0, [], 2)) (fun k => by rw [waveletref02_Crop.j0, if_pos (by decide)]) (Ev.const _)
    · rw [if_neg (fun e => hv e.1)]
      refine Ev.eq (fun k => by rw [waveletref02_Crop.f, rpv, decide_eq_true h, Option.bind_some, if_pos rfl, rvalid_eq, decide_eq_false hv, Option.bind_some, if_neg (by decide)]) ?_
      exact Ev.step (g' := fun _ => some (0, 0, 0, 0, [], 2)) (fun k => by rw [waveletref02_Crop.j0, if_pos (by decide)]) (Ev.const _)
  · rw [if_neg h]
    refine Ev.eq (g' := fun _ => some (0, 0, 0, 0, [], 1)) (fun k => by rw [waveletref02_Crop.f, rpv, decide_eq_false h, Option.bind_some, if_neg (by decide)]) (Ev.const _)
end Go.Proofs.Ythemchggmlpdhaa.Pure
