/- The reference's Paste. -/
import Derived.Test.YthemchggmlpdhaaPurePre
import Derived.Test.YthemchggmlpdhaaQ40
namespace Go.Proofs.Ythemchggmlpdhaa.Pure
open Go Go.RowKit Go.Proofs.Ythemchggmlpdhaa.Q Go.Proofs.YthemchggmlpdhaaW.PrintWords
set_option linter.unusedVariables false
theorem rpaste_l1 (a b c d : Int) (l : List Int) (h : VP a b c d l) (a' b' c' d' : Int) (l' : List Int) (h' : VP a' b' c' d' l') (j : Nat) (hj : (j : Int) < d - b) (R : Int × Int × Int × Int × List Int × Int)
    (hout : Ev (fun k => waveletref02_Paste.l0 k (wrap64 (b + (j : Int) + 1)) a b c d l a' b' c' d' l' a b c d (pre a b c (PG a b c l a' b' c' d' l') ((j + 1) * (c - a).toNat))) R) :
    ∀ (m i : Nat), i + m = (c - a).toNat → Ev (fun k => waveletref02_Paste.l1 k (b + (j : Int)) (a + (i : Int)) a b c d l a' b' c' d' l' a b c d (pre a b c (PG a b c l a' b' c' d' l') (j * (c - a).toNat + i))) R := by
  have h1 := vp_len h
  intro m
  induction m with
  | zero =>
    intro i hi
    refine Ev.step (fun k => ?_) hout
    rw [waveletref02_Paste.l1, if_neg (by omega), Nat.succ_mul, show i = (c - a).toNat by omega]
  | succ m ih =>
    intro i hi
    refine Ev.step (fun k => ?_) (ih (i + 1) (by omega))
    have hsm := @small_mul j (c - a).toNat (by omega) (by omega)
    have e1 : wrap64 (a + (i : Int) + 1) = a + ((i + 1 : Nat) : Int) := by unfold wrap64; omega
    rw [waveletref02_Paste.l1, if_pos (by omega), get_eq h (by omega) (by omega), Option.bind_some, rhas_eq, Option.bind_some, e1, ← pre_succ _ _ _ _ _ _ (by omega)]
    by_cases hk : a' ≤ a + (i : Int) ∧ a + (i : Int) < c' ∧ b' ≤ b + (j : Int) ∧ b + (j : Int) < d'
    · rw [decide_eq_true hk, if_pos rfl, get_eq h' (by omega) (by omega), Option.bind_some, if_pos (by rw [pre_len]; omega)]
      rw [show PG a b c l a' b' c' d' l' (a + (i : Int)) (b + (j : Int)) = G a' b' c' l' (a + (i : Int)) (b + (j : Int)) from if_pos hk]
    · rw [decide_eq_false hk, if_neg (by decide), if_pos (by rw [pre_len]; omega)]
      rw [show PG a b c l a' b' c' d' l' (a + (i : Int)) (b + (j : Int)) = G a b c l (a + (i : Int)) (b + (j : Int)) from if_neg hk]
theorem rpaste_l0 (a b c d : Int) (l : List Int) (h : VP a b c d l) (a' b' c' d' : Int) (l' : List Int) (h' : VP a' b' c' d' l') :
    ∀ (m j : Nat), j + m = (d - b).toNat → Ev (fun k => waveletref02_Paste.l0 k (b + (j : Int)) a b c d l a' b' c' d' l' a b c d (pre a b c (PG a b c l a' b' c' d' l') (j * (c - a).toNat))) (a, b, c, d, tabT a b c d (PG a b c l a' b' c' d' l'), 0) := by
  have h1 := vp_len h
  intro m
  induction m with
  | zero =>
    intro j hj
    refine Ev.step (g' := fun _ => some (a, b, c, d, tabT a b c d (PG a b c l a' b' c' d' l'), 0)) (fun k => ?_) (Ev.const _)
    rw [waveletref02_Paste.l0, if_neg (by omega), show j = (d - b).toNat by omega, pre_all _ _ _ _ _ (by omega) (by omega)]
  | succ m ih =>
    intro j hj
    refine Ev.step (fun k => ?_) (rpaste_l1 a b c d l h a' b' c' d' l' h' j (by omega) _ ?_ (c - a).toNat 0 (by omega))
    · rw [waveletref02_Paste.l0, if_pos (by omega), Nat.add_zero, show a + ((0 : Nat) : Int) = a from Int.add_zero a]
    · have e1 : wrap64 (b + (j : Int) + 1) = b + ((j + 1 : Nat) : Int) := by unfold wrap64; omega
      rw [e1]
      exact ih (j + 1) (by omega)
theorem rpaste_ev (a b c d : Int) (l : List Int) (a' b' c' d' : Int) (l' : List Int) : Ev (fun k => waveletref02_Paste.f k a b c d l a' b' c' d' l') (PasteT a b c d l a' b' c' d' l') := by
  unfold PasteT
  by_cases h : VP a b c d l
  · by_cases h' : VP a' b' c' d' l'
    · rw [if_pos ⟨h, h'⟩]
      refine Ev.eq (fun k => by rw [waveletref02_Paste.f, rpv, decide_eq_true h, Option.bind_some, if_pos rfl, rpv, decide_eq_true h', Option.bind_some]) ?_
      have h1 := vp_len h
      refine Ev.step (fun k => ?_) (rpaste_l0 a b c d l h a' b' c' d' l' h' (d - b).toNat 0 (by omega))
      rw [waveletref02_Paste.j0, if_neg (by decide), show b + ((0 : Nat) : Int) = b from Int.add_zero b, Nat.zero_mul]
      rfl
    · rw [if_neg (fun e => h' e.2)]
      refine Ev.eq (fun k => by rw [waveletref02_Paste.f, rpv, decide_eq_true h, Option.bind_some, if_pos rfl, rpv, decide_eq_false h', Option.bind_some]) ?_
      exact Ev.step (g' := fun _ => some (0, 0, 0, 0, [], 1)) (fun k => by rw [waveletref02_Paste.j0, if_pos (by decide)]) (Ev.const _)
  · rw [if_neg (fun e => h e.1)]
    refine Ev.eq (fun k => by rw [waveletref02_Paste.f, rpv, decide_eq_false h, Option.bind_some, if_neg (by decide)]) ?_
    exact Ev.step (g' := fun _ => some (0, 0, 0, 0, [], 1)) (fun k => by rw [waveletref02_Paste.j0, if_pos (by decide)]) (Ev.const _)
end Go.Proofs.Ythemchggmlpdhaa.Pure
