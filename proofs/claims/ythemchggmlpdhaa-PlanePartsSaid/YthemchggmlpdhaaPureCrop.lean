/- What Crop and Paste return. -/
import Derived.Test.YthemchggmlpdhaaPurePart
namespace Go.Proofs.Ythemchggmlpdhaa.Pure
open Go Go.RowKit Go.Proofs.Ythemchggmlpdhaa.Q Go.Proofs.YthemchggmlpdhaaW.PrintWords
set_option linter.unusedVariables false
theorem tab_congr (p q u v : Int) (F F' : Int → Int → Int) (hW : p ≤ u) (hH : q ≤ v) (h : ∀ x y, p ≤ x ∧ x < u → q ≤ y ∧ y < v → F x y = F' x y) : tabT p q u v F = tabT p q u v F' :=
  tab_of_G p q u v F' _ hW (tab_len p q u v F hW hH) (fun x y hx hy => (tab_at p q u v F hx hy).trans (h x y hx hy))
theorem tab_self {a b c d : Int} {l : List Int} (h : VP a b c d l) : tabT a b c d (G a b c l) = l := by
  have h1 := vp_len h
  exact (tab_of_G a b c d _ l (by omega) (by omega) (fun _ _ _ _ => rfl)).symm
theorem tab_nil (p q u v : Int) (F : Int → Int → Int) (h : (u - p) * (v - q) = 0) : tabT p q u v F = [] := by unfold tabT; rw [h]; rfl
def CropT (a b c d : Int) (l : List Int) (p q u v : Int) : Int × Int × Int × Int × List Int × Int :=
  if VP a b c d l then (if Valid p q u v ∧ Within a b c d p q u v then (p, q, u, v, tabT p q u v (G a b c l), 0) else (0, 0, 0, 0, [], 2)) else (0, 0, 0, 0, [], 1)
theorem crop_ev (a b c d : Int) (l : List Int) (p q u v : Int) : Ev (fun k => plane_Crop.f k a b c d l p q u v) (CropT a b c d l p q u v) := by
  unfold CropT
  by_cases h : VP a b c d l
  · rw [if_pos h]
    have h1 := vp_len h
    by_cases hv : Valid p q u v
    · by_cases hw : Within a b c d p q u v
      · rw [if_pos ⟨hv, hw⟩]
        refine Ev.eq (fun k => by rw [plane_Crop.f, pvalid_eq, decide_eq_true h, Option.bind_some, if_pos rfl, valid_eq, decide_eq_true hv, Option.bind_some, if_pos rfl, contains_eq, decide_eq_true hw, Option.bind_some]) ?_
        have ha : Area p q u v = (u - p) * (v - q) := by unfold Area; rw [if_pos hv]
        have hn := area_nonneg p q u v
        have hv' := hv
        unfold Valid at hv'
        by_cases he : u ≤ p ∨ v ≤ q
        · have hz : (u - p) * (v - q) = 0 := by
            rcases he with e | e
            · rw [show u - p = 0 by omega, Int.zero_mul]
            · rw [show v - q = 0 by omega, Int.mul_zero]
          refine Ev.step (g' := fun _ => some (p, q, u, v, tabT p q u v (G a b c l), 0)) (fun k => ?_) (Ev.const _)
          rw [plane_Crop.j0, if_neg (by decide), area_eq, Option.bind_some, if_pos (by omega), if_pos (by omega), Option.bind_some, empty_eq, decide_eq_true he, Option.bind_some, if_pos rfl, tab_nil _ _ _ _ _ hz, ha, hz]
          rfl
        · refine Ev.step (g' := fun k => (plane_part.f k p q u v (List.replicate (Area p q u v).toNat 0) a b c d l p q u v).bind fun t182 => (some (p, q, u, v, t182, 0))) (fun k => ?_) ?_
          · rw [plane_Crop.j0, if_neg (by decide), area_eq, Option.bind_some, if_pos (by omega), if_pos (by omega), Option.bind_some, empty_eq, decide_eq_false he, Option.bind_some, if_neg (by decide)]
          · unfold Within at hw
            have hi : In p q u v a b c d := by unfold In; omega
            refine Ev.bind (part_ev p q u v a b c d l h p q u v hi (by unfold In; omega) (by omega) _ (by rw [List.length_replicate, ha]; exact Int.toNat_of_nonneg (by rw [← ha]; omega))) ?_
            rw [tab_congr p q u v _ (G a b c l) (by omega) (by omega) (fun x y hx hy => if_pos (by omega))]
            exact Ev.const _
      · rw [if_neg (fun e => hw e.2)]
        refine Ev.eq (fun k => by rw [plane_Crop.f, pvalid_eq, decide_eq_true h, Option.bind_some, if_pos rfl, valid_eq, decide_eq_true hv, Option.bind_some, if_pos rfl, contains_eq, decide_eq_false hw, Option.bind_some]) ?_
        exact Ev.step (g' := fun _ => some (0, 0, 0, 0, [], 2)) (fun k => by rw [plane_Crop.j0, if_pos (by decide)]) (Ev.const _)
    · rw [if_neg (fun e => hv e.1)]
      refine Ev.eq (fun k => by rw [plane_Crop.f, pvalid_eq, decide_eq_true h, Option.bind_some, if_pos rfl, valid_eq, decide_eq_false hv, Option.bind_some, if_neg (by decide)]) ?_
      exact Ev.step (g' := fun _ => some (0, 0, 0, 0, [], 2)) (fun k => by rw [plane_Crop.j0, if_pos (by decide)]) (Ev.const _)
  · rw [if_neg h]
    refine Ev.eq (g' := fun _ => some (0, 0, 0, 0, [], 1)) (fun k => by rw [plane_Crop.f, pvalid_eq, decide_eq_false h, Option.bind_some, if_neg (by decide)]) (Ev.const _)
/-- The sample of a pasted plane. -/
def PG (a b c : Int) (l : List Int) (a' b' c' d' : Int) (l' : List Int) (x y : Int) : Int := if a' ≤ x ∧ x < c' ∧ b' ≤ y ∧ y < d' then G a' b' c' l' x y else G a b c l x y
def PasteT (a b c d : Int) (l : List Int) (a' b' c' d' : Int) (l' : List Int) : Int × Int × Int × Int × List Int × Int :=
  if VP a b c d l ∧ VP a' b' c' d' l' then (a, b, c, d, tabT a b c d (PG a b c l a' b' c' d' l'), 0) else (0, 0, 0, 0, [], 1)
theorem paste_ev (a b c d : Int) (l : List Int) (a' b' c' d' : Int) (l' : List Int) : Ev (fun k => plane_Paste.f k a b c d l a' b' c' d' l') (PasteT a b c d l a' b' c' d' l') := by
  unfold PasteT
  by_cases h : VP a b c d l
  · have h1 := vp_len h
    by_cases h' : VP a' b' c' d' l'
    · have h1' := vp_len h'
      rw [if_pos ⟨h, h'⟩]
      refine Ev.eq (fun k => by rw [plane_Paste.f, pvalid_eq, decide_eq_true h, Option.bind_some, if_pos rfl, pvalid_eq, decide_eq_true h', Option.bind_some]) ?_
      refine Ev.step (fun k => by rw [plane_Paste.j0, if_neg (by decide), Option.bind_some, if_pos (by simp; omega), Option.bind_some, inter_eq, Option.bind_some, List.nil_append]) ?_
      unfold Inter
      split
      · rename_i he
        refine Ev.eq (g' := fun _ => some (a, b, c, d, l, 0)) (fun k => by rw [if_neg (by decide)]) ?_
        have e : tabT a b c d (PG a b c l a' b' c' d' l') = l := by
          rw [tab_congr a b c d (PG a b c l a' b' c' d' l') (G a b c l) (by omega) (by omega) (fun x y hx hy => if_neg (by
            have := mx_spec a a'; have := mx_spec b b'; have := mn_spec c c'; have := mn_spec d d'
            omega))]
          exact tab_self h
        rw [e]
        exact Ev.const _
      · rename_i he
        have m1 := mx_spec a a'
        have m2 := mx_spec b b'
        have m3 := mn_spec c c'
        have m4 := mn_spec d d'
        refine Ev.eq (fun k => by rw [if_pos (by simp; omega)]) ?_
        refine Ev.bind (part_ev a b c d a' b' c' d' l' h' (mx a a') (mx b b') (mn c c') (mn d d') (by unfold In; omega) (by unfold In; omega) (by omega) l (by omega)) ?_
        rw [tab_congr a b c d _ (PG a b c l a' b' c' d' l') (by omega) (by omega) (fun x y hx hy => by
          unfold PG
          by_cases hk : a' ≤ x ∧ x < c' ∧ b' ≤ y ∧ y < d'
          · rw [if_pos (by omega), if_pos hk]
          · rw [if_neg (by omega), if_neg hk])]
        exact Ev.const _
    · rw [if_neg (fun e => h' e.2)]
      refine Ev.eq (fun k => by rw [plane_Paste.f, pvalid_eq, decide_eq_true h, Option.bind_some, if_pos rfl, pvalid_eq, decide_eq_false h', Option.bind_some]) ?_
      exact Ev.step (g' := fun _ => some (0, 0, 0, 0, [], 1)) (fun k => by rw [plane_Paste.j0, if_pos (by decide)]) (Ev.const _)
  · rw [if_neg (fun e => h e.1)]
    refine Ev.eq (fun k => by rw [plane_Paste.f, pvalid_eq, decide_eq_false h, Option.bind_some, if_neg (by decide)]) ?_
    exact Ev.step (g' := fun _ => some (0, 0, 0, 0, [], 1)) (fun k => by rw [plane_Paste.j0, if_pos (by decide)]) (Ev.const _)
theorem crop_len (a b c d : Int) (l : List Int) (p q u v : Int) : (CropT a b c d l p q u v).2.2.2.2.1.length < 1000000000000000 := by
  unfold CropT
  split
  · split
    · rename_i hw
      have hv := hw.1
      unfold Valid at hv
      have h1 := tab_len p q u v (G a b c l) (by omega) (by omega)
      have h2 := @mul_bd (u - p) (v - q) 4096 4096 (by omega) (by omega) (by omega) (by omega)
      show (tabT p q u v (G a b c l)).length < _
      omega
    · simp
  · simp
theorem paste_len (a b c d : Int) (l : List Int) (a' b' c' d' : Int) (l' : List Int) : (PasteT a b c d l a' b' c' d' l').2.2.2.2.1.length < 1000000000000000 := by
  unfold PasteT
  split
  · rename_i hw
    have hv := vp_len hw.1
    have h1 := tab_len a b c d (PG a b c l a' b' c' d' l') (by omega) (by omega)
    have h2 := @mul_bd (c - a) (d - b) 4096 4096 (by omega) (by omega) (by omega) (by omega)
    show (tabT a b c d (PG a b c l a' b' c' d' l')).length < _
    omega
  · simp
end Go.Proofs.Ythemchggmlpdhaa.Pure
