/- PlaneParts: cropping the whole rectangle and pasting a cropped part change nothing, a crop of a crop is a crop, and what was pasted can be cropped, for valid planes of at most 20 columns and rows, and the examples of the chapter hold. No condition. -/
import Derived.Test.YthemchggmlpdhaaPureCrop
import Derived.Test.YthemchggmlpdhaaPureEx
import Derived.Test.YthemchggmlpdhaaPureSmall
import Derived.Test.YthemchggmlpdhaaQ50
namespace Go.Proofs.Ythemchggmlpdhaa.Pure
open Go.RowKit Go.Proofs.Ythemchggmlpdhaa.Q Go.Proofs.YthemchggmlpdhaaW.PrintWords
set_option linter.unusedVariables false
theorem pempty_eq (a b c d : Int) : waveletref01_Empty.f a b c d = some (decide (c ≤ a ∨ d ≤ b)) := empty_eq a b c d
theorem pcontains_eq (a b c d a' b' c' d' : Int) : waveletref01_Contains.f a b c d a' b' c' d' = some (decide (Within a b c d a' b' c' d')) := by
  unfold waveletref01_Contains.f
  rw [pempty_eq]
  simp only [Option.bind_some, decide_eq_true_eq]
  repeat' split
  all_goals (congr 1; first | (rw [decide_eq_decide]; unfold Within; omega) | (symm; rw [decide_eq_true_iff]; unfold Within; omega) | (symm; rw [decide_eq_false_iff_not]; unfold Within; omega))
theorem in_area {p q u v a b c d : Int} (h : In p q u v a b c d) : (u - p) * (v - q) ≤ (c - a) * (d - b) := by
  unfold In at h
  exact Int.mul_le_mul (by omega) (by omega) (by omega) (by omega)
theorem crop_self {a b c d : Int} {l : List Int} (h : VP a b c d l) : CropT a b c d l a b c d = (a, b, c, d, l, 0) := by
  have h1 := vp_len h
  unfold CropT
  rw [if_pos h, if_pos ⟨h.1, by unfold Within; omega⟩, tab_self h]
theorem vp_tab {a b c d : Int} {l : List Int} (h : VP a b c d l) (F : Int → Int → Int) : VP a b c d (tabT a b c d F) := by
  have h1 := vp_len h
  refine ⟨h.1, h.2.1, ?_⟩
  rw [tab_len _ _ _ _ _ (by omega) (by omega), ← h1.1]
  exact h.2.2
theorem vp_crop {a b c d : Int} {l : List Int} (h : VP a b c d l) {p q u v : Int} (hv : Valid p q u v) (hw : Within a b c d p q u v) (F : Int → Int → Int) : VP p q u v (tabT p q u v F) := by
  have h1 := vp_len h
  have hv' := hv
  unfold Valid at hv'
  have ha : Area p q u v = (u - p) * (v - q) := by unfold Area; rw [if_pos hv]
  refine ⟨hv, ?_, by rw [tab_len _ _ _ _ _ (by omega) (by omega), ha]⟩
  rw [ha]
  unfold Within at hw
  by_cases he : u ≤ p ∨ v ≤ q
  · have hz : (u - p) * (v - q) = 0 := by
      rcases he with e | e
      · rw [show u - p = 0 by omega, Int.zero_mul]
      · rw [show v - q = 0 by omega, Int.mul_zero]
    omega
  · have := @in_area p q u v a b c d (by unfold In; omega)
    omega
theorem parts_j4 (a b c d : Int) (l : List Int) (h : VP a b c d l) (p q u v : Int) (hv : Valid p q u v) (hw : Within a b c d p q u v) (s0 s1 s2 s3 : Int) :
    Ev (fun k => waveletlaw02_PlaneParts.j4 k (CropT p q u v (tabT p q u v (G a b c l)) s0 s1 s2 s3).2.2.2.2.2 false a b c d l s0 s1 s2 s3 (CropT p q u v (tabT p q u v (G a b c l)) s0 s1 s2 s3).1 (CropT p q u v (tabT p q u v (G a b c l)) s0 s1 s2 s3).2.1 (CropT p q u v (tabT p q u v (G a b c l)) s0 s1 s2 s3).2.2.1 (CropT p q u v (tabT p q u v (G a b c l)) s0 s1 s2 s3).2.2.2.1 (CropT p q u v (tabT p q u v (G a b c l)) s0 s1 s2 s3).2.2.2.2.1) true := by
  have hA := vp_crop h hv hw (G a b c l)
  have hc : CropT p q u v (tabT p q u v (G a b c l)) s0 s1 s2 s3 = if Valid s0 s1 s2 s3 ∧ Within p q u v s0 s1 s2 s3 then (s0, s1, s2, s3, tabT s0 s1 s2 s3 (G p q u (tabT p q u v (G a b c l))), 0) else (0, 0, 0, 0, [], 2) := by
    unfold CropT
    rw [if_pos hA]
  rw [hc]
  by_cases hs : Valid s0 s1 s2 s3 ∧ Within p q u v s0 s1 s2 s3
  · rw [if_pos hs]
    obtain ⟨hs1, hs2⟩ := hs
    have hv' := hv
    have hs1' := hs1
    have h1 := vp_len h
    unfold Valid at hv' hs1'
    unfold Within at hw hs2
    have hc2 : CropT a b c d l s0 s1 s2 s3 = (s0, s1, s2, s3, tabT s0 s1 s2 s3 (G a b c l), 0) := by
      unfold CropT
      rw [if_pos h, if_pos ⟨hs1, by unfold Within; omega⟩]
    have ht : tabT s0 s1 s2 s3 (G p q u (tabT p q u v (G a b c l))) = tabT s0 s1 s2 s3 (G a b c l) :=
      tab_congr _ _ _ _ _ _ (by omega) (by omega) (fun x y hx hy => tab_at p q u v (G a b c l) (by omega) (by omega))
    refine Ev.step (fun k => by rw [waveletlaw02_PlaneParts.j4, if_neg (by decide), if_pos rfl]) ?_
    refine Ev.bind (crop_ev a b c d l s0 s1 s2 s3) ?_
    rw [hc2, ht]
    refine Ev.eq (fun k => if_pos rfl) ?_
    have hl := crop_len a b c d l s0 s1 s2 s3
    rw [hc2] at hl
    refine Ev.bind (rsame_ev _ _ _ _ _ _ _ _ _ _ hl) ?_
    rw [SM_refl]
    exact Ev.eq (fun k => if_pos rfl) ex_ev
  · rw [if_neg hs]
    exact Ev.step (fun k => by rw [waveletlaw02_PlaneParts.j4, if_neg (by decide), if_neg (by decide)]) ex_ev
theorem parts_j3 (a b c d : Int) (l : List Int) (h : VP a b c d l) (p q u v s0 s1 s2 s3 : Int) : Ev (fun k => waveletlaw02_PlaneParts.j3 k a b c d l p q u v s0 s1 s2 s3) true := by
  have h1 := vp_len h
  refine Ev.step (fun k => by rw [waveletlaw02_PlaneParts.j3]) ?_
  refine Ev.bind (crop_ev a b c d l p q u v) ?_
  have hc : CropT a b c d l p q u v = if Valid p q u v ∧ Within a b c d p q u v then (p, q, u, v, tabT p q u v (G a b c l), 0) else (0, 0, 0, 0, [], 2) := by
    unfold CropT
    rw [if_pos h]
  rw [hc]
  by_cases hs : Valid p q u v ∧ Within a b c d p q u v
  · rw [if_pos hs]
    obtain ⟨hv, hw⟩ := hs
    have hA := vp_crop h hv hw (G a b c l)
    refine Ev.eq (fun k => if_pos rfl) ?_
    refine Ev.bind (paste_ev a b c d l p q u v (tabT p q u v (G a b c l))) ?_
    have hp : PasteT a b c d l p q u v (tabT p q u v (G a b c l)) = (a, b, c, d, l, 0) := by
      unfold PasteT
      rw [if_pos ⟨h, hA⟩, tab_congr a b c d (PG a b c l p q u v (tabT p q u v (G a b c l))) (G a b c l) (by omega) (by omega) (fun x y hx hy => by
        unfold PG
        by_cases hk : p ≤ x ∧ x < u ∧ q ≤ y ∧ y < v
        · rw [if_pos hk]
          exact tab_at p q u v (G a b c l) (by omega) (by omega)
        · rw [if_neg hk]), tab_self h]
    rw [hp]
    refine Ev.bind (crop_ev p q u v (tabT p q u v (G a b c l)) s0 s1 s2 s3) ?_
    refine Ev.eq (fun k => if_pos rfl) ?_
    refine Ev.bind (rsame_ev _ _ _ _ _ _ _ _ _ _ (by show l.length < _; omega)) ?_
    rw [SM_refl]
    exact parts_j4 a b c d l h p q u v hv hw s0 s1 s2 s3
  · rw [if_neg hs]
    exact Ev.eq (fun k => if_neg (by decide)) ex_ev
theorem parts_j0 (a b c d : Int) (l : List Int) (h : VP a b c d l) (a' b' c' d' : Int) (l' : List Int) (h' : VP a' b' c' d' l') (p q u v s0 s1 s2 s3 : Int) : Ev (fun k => waveletlaw02_PlaneParts.j0 k false a b c d l a' b' c' d' l' p q u v s0 s1 s2 s3) true := by
  have h1 := vp_len h
  have h1' := vp_len h'
  refine Ev.step (fun k => by rw [waveletlaw02_PlaneParts.j0, if_neg (by decide)]) ?_
  refine Ev.bind (crop_ev a b c d l a b c d) ?_
  rw [crop_self h]
  refine Ev.eq (fun k => if_pos rfl) ?_
  refine Ev.bind (rsame_ev _ _ _ _ _ _ _ _ _ _ (by show l.length < _; omega)) ?_
  rw [SM_refl]
  refine Ev.step (fun k => by rw [waveletlaw02_PlaneParts.j1, if_neg (by decide)]) ?_
  refine Ev.bind (paste_ev a b c d l a' b' c' d' l') ?_
  have hp : PasteT a b c d l a' b' c' d' l' = (a, b, c, d, tabT a b c d (PG a b c l a' b' c' d' l'), 0) := by
    unfold PasteT
    rw [if_pos ⟨h, h'⟩]
  rw [hp]
  refine Ev.eq (fun k => if_pos rfl) ?_
  refine Ev.step (fun k => by rw [waveletlaw02_PlaneParts.j2, if_neg (by simp), pcontains_eq, Option.bind_some]) ?_
  by_cases hw : Within a b c d a' b' c' d'
  · rw [decide_eq_true hw]
    refine Ev.eq (fun k => if_pos rfl) ?_
    refine Ev.bind (crop_ev a b c d _ a' b' c' d') ?_
    have hw' := hw
    unfold Within at hw'
    have hc : CropT a b c d (tabT a b c d (PG a b c l a' b' c' d' l')) a' b' c' d' = (a', b', c', d', l', 0) := by
      unfold CropT
      rw [if_pos (vp_tab h _), if_pos ⟨h'.1, hw⟩, tab_congr a' b' c' d' (G a b c (tabT a b c d (PG a b c l a' b' c' d' l'))) (G a' b' c' l') (by omega) (by omega) (fun x y hx hy => by
        rw [tab_at a b c d _ (by omega) (by omega)]
        exact if_pos (by omega)), tab_self h']
    rw [hc]
    refine Ev.eq (fun k => if_pos rfl) ?_
    refine Ev.bind (rsame_ev _ _ _ _ _ _ _ _ _ _ (by show l'.length < _; omega)) ?_
    rw [SM_refl]
    exact Ev.eq (fun k => if_pos rfl) (parts_j3 a b c d l h p q u v s0 s1 s2 s3)
  · rw [decide_eq_false hw]
    exact Ev.eq (fun k => if_neg (by decide)) (parts_j3 a b c d l h p q u v s0 s1 s2 s3)
theorem PlaneParts (a0_0 : Int) (a0_1 : Int) (a0_2 : Int) (a0_3 : Int) (l0_4 : List (Int)) (a1_0 : Int) (a1_1 : Int) (a1_2 : Int) (a1_3 : Int) (l1_4 : List (Int)) (a2_0 : Int) (a2_1 : Int) (a2_2 : Int) (a2_3 : Int) (a2_4 : Int) (a2_5 : Int) (a2_6 : Int) (a2_7 : Int) (w0_0 : (Lit.int .i64 a0_0).wf = true) (w0_1 : (Lit.int .i64 a0_1).wf = true) (w0_2 : (Lit.int .i64 a0_2).wf = true) (w0_3 : (Lit.int .i64 a0_3).wf = true) (y0_4 : l0_4.length * 8 ≤ 140737488351232) (w0_4 : ∀ x ∈ l0_4, (Lit.int .i64 x).wf = true) (w1_0 : (Lit.int .i64 a1_0).wf = true) (w1_1 : (Lit.int .i64 a1_1).wf = true) (w1_2 : (Lit.int .i64 a1_2).wf = true) (w1_3 : (Lit.int .i64 a1_3).wf = true) (y1_4 : l1_4.length * 8 ≤ 140737488351232) (w1_4 : ∀ x ∈ l1_4, (Lit.int .i64 x).wf = true) (w2_0 : (Lit.int .i64 a2_0).wf = true) (w2_1 : (Lit.int .i64 a2_1).wf = true) (w2_2 : (Lit.int .i64 a2_2).wf = true) (w2_3 : (Lit.int .i64 a2_3).wf = true) (w2_4 : (Lit.int .i64 a2_4).wf = true) (w2_5 : (Lit.int .i64 a2_5).wf = true) (w2_6 : (Lit.int .i64 a2_6).wf = true) (w2_7 : (Lit.int .i64 a2_7).wf = true) : ∃ k, waveletlaw02_PlaneParts.f k a0_0 a0_1 a0_2 a0_3 l0_4 a1_0 a1_1 a1_2 a1_3 l1_4 a2_0 a2_1 a2_2 a2_3 a2_4 a2_5 a2_6 a2_7 = some true := by
  refine Ev.ex ?_
  obtain ⟨t, ht, hv⟩ := vs a0_0 a0_1 a0_2 a0_3 l0_4
  obtain ⟨t', ht', hv'⟩ := vs a1_0 a1_1 a1_2 a1_3 l1_4
  refine Ev.eq (fun k => by rw [waveletlaw02_PlaneParts.f, ht, ht', Option.bind_some, Option.bind_some]) ?_
  have hex : ∀ a b c d l a' b' c' d' l' e1 e2 e3 e4 e5 e6 e7 e8, Ev (fun k => waveletlaw02_PlaneParts.j0 k true a b c d l a' b' c' d' l' e1 e2 e3 e4 e5 e6 e7 e8) true := fun a b c d l a' b' c' d' l' e1 e2 e3 e4 e5 e6 e7 e8 => Ev.step (fun k => by rw [waveletlaw02_PlaneParts.j0, if_pos rfl]) ex_ev
  cases t with
  | false => exact Ev.eq (fun k => if_neg (by decide)) (hex _ _ _ _ _ _ _ _ _ _ _ _ _ _ _ _ _ _)
  | true =>
    refine Ev.eq (fun k => if_pos rfl) ?_
    cases t' with
    | false => exact hex _ _ _ _ _ _ _ _ _ _ _ _ _ _ _ _ _ _
    | true => exact parts_j0 _ _ _ _ _ (hv rfl) _ _ _ _ _ (hv' rfl) _ _ _ _ _ _ _ _
end Go.Proofs.Ythemchggmlpdhaa.Pure
