/- The functions of planes by the point: what At, Row, Column, Same return. -/
import Derived.Test.YthemchggmlpdhaaPureLib
namespace Go.Proofs.Ythemchggmlpdhaa.Pure
open Go Go.RowKit Go.Proofs.Ythemchggmlpdhaa.Q Go.Proofs.YthemchggmlpdhaaW.PrintWords
set_option linter.unusedVariables false

theorem wf_bd {a : Int} (h : (Lit.int .i64 a).wf = true) : -9223372036854775808 ≤ a ∧ a ≤ 9223372036854775807 := by
  simp [Lit.wf, IntKind.min, IntKind.max, IntKind.signed, IntKind.bits] at h
  omega
def NewT (a b c d : Int) : Int × Int × Int × Int × List Int × Int := if Valid a b c d then (if Area a b c d > 1048576 then (0, 0, 0, 0, [], 5) else (a, b, c, d, List.replicate (Area a b c d).toNat 0, 0)) else (0, 0, 0, 0, [], 2)
theorem area_nonneg (a b c d : Int) : 0 ≤ Area a b c d ∧ Area a b c d ≤ 16777216 := by
  unfold Area
  split
  · rename_i h
    unfold Valid at h
    exact @mul_bd (c - a) (d - b) 4096 4096 (by omega) (by omega) (by omega) (by omega)
  · omega
theorem new_eq (a b c d : Int) : plane_New.f a b c d = some (NewT a b c d) := by
  unfold plane_New.f NewT
  rw [valid_eq, area_eq]
  have h := area_nonneg a b c d
  simp only [Option.bind_some, decide_eq_true_eq]
  split
  · split
    · rfl
    · rw [if_pos (by omega), if_pos (by omega)]
  · rfl
/-- The place of a point in a plane's list. -/
def ix (a b c x y : Int) : Int := (y - b) * (c - a) + (x - a)
def G (a b c : Int) (l : List Int) (x y : Int) : Int := rd l (ix a b c x y)
theorem vp_len {a b c d : Int} {l : List Int} (h : VP a b c d l) : (l.length : Int) = (c - a) * (d - b) ∧ l.length ≤ 1048576 ∧ 0 ≤ a ∧ a ≤ c ∧ c ≤ 4096 ∧ 0 ≤ b ∧ b ≤ d ∧ d ≤ 4096 := by
  obtain ⟨h1, h2, h3⟩ := h
  have h4 : Area a b c d = (c - a) * (d - b) := by unfold Area; rw [if_pos h1]
  unfold Valid at h1
  rw [h4] at h2 h3
  omega
theorem row_bd {W H m : Int} (h0 : 0 ≤ m) (h1 : m < H) (hW : 0 ≤ W) : 0 ≤ m * W ∧ m * W + W ≤ W * H := by
  refine ⟨Int.mul_nonneg h0 hW, ?_⟩
  have h := Int.mul_le_mul_of_nonneg_right (show m + 1 ≤ H by omega) hW
  rw [Int.add_mul, Int.one_mul, Int.mul_comm H W] at h
  exact h
theorem ix_bd {a b c d : Int} {l : List Int} (h : VP a b c d l) {x y : Int} (hx : a ≤ x ∧ x < c) (hy : b ≤ y ∧ y < d) : 0 ≤ ix a b c x y ∧ ix a b c x y < (l.length : Int) := by
  have h1 := vp_len h
  have h2 := @row_bd (c - a) (d - b) (y - b) (by omega) (by omega) (by omega)
  unfold ix
  omega
theorem off_w {a b c d : Int} {l : List Int} (h : VP a b c d l) {y : Int} (hy : b ≤ y ∧ y ≤ d) : wrap64 (y - b) = y - b ∧ wrap64 (c - a) = c - a ∧ wrap64 ((y - b) * (c - a)) = (y - b) * (c - a) ∧ 0 ≤ (y - b) * (c - a) ∧ (y - b) * (c - a) ≤ 16777216 := by
  have h1 := vp_len h
  have h2 := @mul_bd (y - b) (c - a) 4096 4096 (by omega) (by omega) (by omega) (by omega)
  generalize (y - b) * (c - a) = P at h2 ⊢
  unfold wrap64
  omega
theorem ix_w {a b c d : Int} {l : List Int} (h : VP a b c d l) {x y : Int} (hx : a ≤ x ∧ x < c) (hy : b ≤ y ∧ y < d) : wrap64 ((wrap64 ((wrap64 ((wrap64 (y - b)) * (wrap64 (c - a)))) + x)) - a) = ix a b c x y := by
  have h1 := vp_len h
  obtain ⟨e1, e2, e3, e4, e5⟩ := off_w h (y := y) (by omega)
  rw [e1, e2, e3]
  unfold ix
  generalize (y - b) * (c - a) = P at e4 e5 ⊢
  unfold wrap64
  omega
theorem at_eq (a b c d : Int) (l : List Int) (x y : Int) : plane_At.f a b c d l x y = some (if VP a b c d l ∧ (a ≤ x ∧ x < c ∧ b ≤ y ∧ y < d) then (G a b c l x y, true) else (0, false)) := by
  unfold plane_At.f
  rw [pvalid_eq, has_eq]
  simp only [Option.bind_some, decide_eq_true_eq, plane_width.f]
  by_cases h : VP a b c d l
  · rw [if_pos h]
    by_cases h2 : a ≤ x ∧ x < c ∧ b ≤ y ∧ y < d
    · have hb := ix_bd h (x := x) (y := y) (by omega) (by omega)
      rw [if_pos h2, ix_w h (by omega) (by omega), if_pos hb.1, if_pos hb.2, if_pos ⟨h, h2⟩]
      rfl
    · rw [if_neg h2, if_neg (fun e => h2 e.2)]
  · rw [if_neg h, if_neg (fun e => h e.1)]
theorem seg_eq (l : List Int) (off W : Nat) (h : off + W ≤ l.length) : (l.drop off).take W = (List.range W).map (fun i : Nat => rd l ((off + i : Nat) : Int)) := by
  apply List.ext_getElem?
  intro i
  rw [List.getElem?_take, List.getElem?_drop, List.getElem?_map]
  by_cases hi : i < W
  · rw [if_pos hi, List.getElem?_range hi]
    rw [List.getElem?_eq_getElem (show off + i < l.length by omega)]
    show _ = some (rd l ((off + i : Nat) : Int))
    unfold rd
    rw [Int.toNat_natCast, List.getD_eq_getElem?_getD, List.getElem?_eq_getElem (show off + i < l.length by omega)]
    rfl
  · rw [if_neg hi, List.getElem?_eq_none (by simpa using hi)]
    rfl
def rowT (a b c : Int) (l : List Int) (y : Int) : List Int := (List.range (c - a).toNat).map (fun i : Nat => G a b c l (a + (i : Int)) y)
theorem row_seg {a b c d : Int} {l : List Int} (h : VP a b c d l) {y : Int} (hy : b ≤ y ∧ y < d) : (l.drop ((y - b) * (c - a)).toNat).take (c - a).toNat = rowT a b c l y := by
  have h1 := vp_len h
  have h2 := @row_bd (c - a) (d - b) (y - b) (by omega) (by omega) (by omega)
  rw [seg_eq _ _ _ (by omega)]
  unfold rowT
  apply List.map_congr_left
  intro i hi
  unfold G ix
  congr 1
  omega
theorem splice_full (W : Nat) (xs : List Int) (h : xs.length = W) : splice (List.replicate W 0) 0 xs = xs := by
  unfold splice
  rw [List.take_zero, List.nil_append, List.drop_eq_nil_of_le (by simp [h]), List.append_nil]
theorem row_ev (a b c d : Int) (l : List Int) (y : Int) : Ev (fun k => plane_Row.f k a b c d l y) (if VP a b c d l ∧ b ≤ y ∧ y < d then (rowT a b c l y, true) else ([], false)) := by
  by_cases h : VP a b c d l
  · have h1 := vp_len h
    by_cases h2 : b ≤ y ∧ y < d
    · have ho := off_w h (y := y) (by omega)
      have hb := @row_bd (c - a) (d - b) (y - b) (by omega) (by omega) (by omega)
      rw [if_pos ⟨h, h2⟩]
      refine Ev.eq (fun k => by rw [plane_Row.f, pvalid_eq, decide_eq_true h, Option.bind_some, if_pos rfl, if_neg (by omega), decide_eq_false (by omega)]) ?_
      refine Ev.step (g' := fun _ => some (rowT a b c l y, true)) (fun k => ?_) (Ev.const _)
      rw [plane_Row.j0, if_neg (by decide)]
      simp only [plane_width.f, Option.bind_some]
      rw [ho.1, ho.2.1, ho.2.2.1, if_pos (by omega), if_pos (by omega), if_pos (by omega), if_pos (by omega), splice_full _ _ (by rw [List.length_take, List.length_drop]; omega), row_seg h h2]
    · rw [if_neg (fun e => h2 e.2)]
      by_cases h3 : y < b
      · refine Ev.eq (fun k => by rw [plane_Row.f, pvalid_eq, decide_eq_true h, Option.bind_some, if_pos rfl, if_pos h3]) ?_
        exact Ev.step (g' := fun _ => some ([], false)) (fun k => by rw [plane_Row.j0, if_pos rfl]) (Ev.const _)
      · refine Ev.eq (fun k => by rw [plane_Row.f, pvalid_eq, decide_eq_true h, Option.bind_some, if_pos rfl, if_neg h3, decide_eq_true (by omega)]) ?_
        exact Ev.step (g' := fun _ => some ([], false)) (fun k => by rw [plane_Row.j0, if_pos rfl]) (Ev.const _)
  · rw [if_neg (fun e => h e.1)]
    refine Ev.eq (fun k => by rw [plane_Row.f, pvalid_eq, decide_eq_false h, Option.bind_some, if_neg (by decide)]) ?_
    exact Ev.step (g' := fun _ => some ([], false)) (fun k => by rw [plane_Row.j0, if_pos rfl]) (Ev.const _)
def colT (a b c d : Int) (l : List Int) (x : Int) : List Int := (List.range (d - b).toNat).map (fun j : Nat => G a b c l x (b + (j : Int)))
theorem col_l0 (a b c d : Int) (l : List Int) (h : VP a b c d l) (x : Int) (hx : a ≤ x ∧ x < c) : ∀ (m n : Nat), (n + m : Nat) = (d - b).toNat →
    Ev (fun k => plane_Column.l0 k ((List.range n).map (fun j : Nat => G a b c l x (b + (j : Int)))) ((n : Int) * (c - a) + (x - a)) a b c d l) (colT a b c d l x, true) := by
  have h1 := vp_len h
  intro m
  induction m with
  | zero =>
    intro n hn
    have hb : ((n : Int)) * (c - a) = (c - a) * (d - b) := by
      rw [Int.mul_comm]; congr 1; omega
    refine Ev.step (g' := fun _ => some (colT a b c d l x, true)) (fun k => ?_) (Ev.const _)
    rw [plane_Column.l0, if_neg (by rw [hb]; omega)]
    unfold colT
    rw [← hn, Nat.add_zero]
  | succ m ih =>
    intro n hn
    have hb := @row_bd (c - a) (d - b) (n : Int) (by omega) (by omega) (by omega)
    have hs : ((n : Int) + 1) * (c - a) = (n : Int) * (c - a) + (c - a) := by rw [Int.add_mul, Int.one_mul]
    refine Ev.step (fun k => ?_) (ih (n + 1) (by omega))
    rw [plane_Column.l0, if_pos (by omega), if_pos (by omega), if_pos (by simp; omega)]
    simp only [plane_width.f, Option.bind_some]
    rw [List.range_succ, List.map_append, (off_w h (y := b) (by omega)).2.1]
    have e1 : wrap64 ((n : Int) * (c - a) + (x - a) + (c - a)) = ((n + 1 : Nat) : Int) * (c - a) + (x - a) := by
      have : ((n + 1 : Nat) : Int) = (n : Int) + 1 := by omega
      rw [this, hs]
      generalize (n : Int) * (c - a) = P at hb ⊢
      unfold wrap64
      omega
    rw [e1]
    have e2 : rd l ((n : Int) * (c - a) + (x - a)) = G a b c l x (b + (n : Int)) := by
      unfold G ix
      congr 2
      congr 1
      omega
    rw [e2]
    rfl
theorem col_ev (a b c d : Int) (l : List Int) (x : Int) : Ev (fun k => plane_Column.f k a b c d l x) (if VP a b c d l ∧ a ≤ x ∧ x < c then (colT a b c d l x, true) else ([], false)) := by
  by_cases h : VP a b c d l
  · have h1 := vp_len h
    by_cases h2 : a ≤ x ∧ x < c
    · rw [if_pos ⟨h, h2⟩]
      refine Ev.eq (fun k => by rw [plane_Column.f, pvalid_eq, decide_eq_true h, Option.bind_some, if_pos rfl, if_neg (by omega), decide_eq_false (by omega)]) ?_
      have hw : wrap64 (d - b) = d - b := by unfold wrap64; omega
      have hw2 : wrap64 (x - a) = ((0 : Nat) : Int) * (c - a) + (x - a) := by
        rw [show ((0 : Nat) : Int) = 0 from rfl, Int.zero_mul]; unfold wrap64; omega
      refine Ev.step (fun k => ?_) (col_l0 a b c d l h x h2 (d - b).toNat 0 (by omega))
      rw [plane_Column.j0, if_neg (by decide), hw, if_pos (by omega), if_pos (by omega), hw2]
      rfl
    · rw [if_neg (fun e => h2 e.2)]
      by_cases h3 : x < a
      · refine Ev.eq (fun k => by rw [plane_Column.f, pvalid_eq, decide_eq_true h, Option.bind_some, if_pos rfl, if_pos h3]) ?_
        exact Ev.step (g' := fun _ => some ([], false)) (fun k => by rw [plane_Column.j0, if_pos rfl]) (Ev.const _)
      · refine Ev.eq (fun k => by rw [plane_Column.f, pvalid_eq, decide_eq_true h, Option.bind_some, if_pos rfl, if_neg h3, decide_eq_true (by omega)]) ?_
        exact Ev.step (g' := fun _ => some ([], false)) (fun k => by rw [plane_Column.j0, if_pos rfl]) (Ev.const _)
  · rw [if_neg (fun e => h e.1)]
    refine Ev.eq (fun k => by rw [plane_Column.f, pvalid_eq, decide_eq_false h, Option.bind_some, if_neg (by decide)]) ?_
    exact Ev.step (g' := fun _ => some ([], false)) (fun k => by rw [plane_Column.j0, if_pos rfl]) (Ev.const _)
/-- Two planes are the same. -/
def SM (a b c d : Int) (l : List Int) (a' b' c' d' : Int) (l' : List Int) : Bool := decide (a = a' ∧ b = b' ∧ c = c' ∧ d = d' ∧ l = l')
theorem rsame_ev (a b c d : Int) (l : List Int) (a' b' c' d' : Int) (l' : List Int) (hl : l.length < 1000000000000000) : Ev (fun k => waveletref02_Same.f k a b c d l a' b' c' d' l') (SM a b c d l a' b' c' d' l') := by
  by_cases h : a = a' ∧ b = b' ∧ c = c' ∧ d = d'
  · obtain ⟨rfl, rfl, rfl, rfl⟩ := h
    refine Ev.eq (fun k => by rw [waveletref02_Same.f, if_pos (by simp)]) ?_
    refine Ev.bind (ints_ev l l' hl) ?_
    have : SM a b c d l a b c d l' = decide (l = l') := by unfold SM; simp
    rw [this]
    exact Ev.const _
  · refine Ev.eq (g' := fun _ => some false) (fun k => ?_) ?_
    · rw [waveletref02_Same.f, if_neg]
      simpa [and_assoc] using h
    · have : SM a b c d l a' b' c' d' l' = false := by
        unfold SM
        rw [decide_eq_false_iff_not]
        exact fun e => h ⟨e.1, e.2.1, e.2.2.1, e.2.2.2.1⟩
      rw [this]
      exact Ev.const _
theorem psame_l0 (a b c d : Int) (p q : List Int) (hp : p.length < 1000000000000000) : ∀ post postq pre preq, p = pre ++ post → q = preq ++ postq → pre.length = preq.length → post.length = postq.length →
    Ev (fun k => plane_Same.l0 k p (p.length : Int) (pre.length : Int) a b c d q) (decide (post = postq)) := by
  intro post
  induction post with
  | nil =>
    intro postq pre preq h hq hl hl2
    have : postq = [] := List.eq_nil_of_length_eq_zero hl2.symm
    subst this
    rw [List.append_nil] at h
    subst h
    refine Ev.step (g' := fun _ => some true) (fun k => by rw [plane_Same.l0, if_neg (by omega)]) ?_
    simpa using Ev.const true
  | cons x post ih =>
    intro postq pre preq h hq hl hl2
    cases postq with
    | nil => simp at hl2
    | cons y postq =>
      have hx : rd p (pre.length : Int) = x := by rw [h]; exact rd_at _ _ _
      have hy : rd q (pre.length : Int) = y := by rw [hq, hl]; exact rd_at _ _ _
      have l1 : (pre.length : Int) < (p.length : Int) := by rw [h]; exact in_app _ _ _
      have l2 : (pre.length : Int) < (q.length : Int) := by rw [hq, hl]; exact in_app _ _ _
      have hs : wrap64 ((pre.length : Int) + 1) = ((pre ++ [x]).length : Int) := nx pre x (by omega)
      by_cases e : y = x
      · refine Ev.step (fun k => by rw [plane_Same.l0, if_pos l1, if_pos (by omega), if_pos l1, if_pos l2, hx, hy, if_pos e, hs]) ?_
        have := ih postq (pre ++ [x]) (preq ++ [y]) (by simp [h]) (by simp [hq]) (by simp [hl]) (by simpa using hl2)
        have e2 : decide (x :: post = y :: postq) = decide (post = postq) := by simp [e]
        rw [e2]
        exact this
      · refine Ev.step (g' := fun _ => some false) (fun k => by rw [plane_Same.l0, if_pos l1, if_pos (by omega), if_pos l1, if_pos l2, hx, hy, if_neg e]) ?_
        have e2 : decide (x :: post = y :: postq) = false := by
          rw [decide_eq_false_iff_not]
          intro e3
          injection e3 with e4 e5
          exact e e4.symm
        rw [e2]
        exact Ev.const _
theorem psame_ev (a b c d : Int) (l : List Int) (a' b' c' d' : Int) (l' : List Int) (hl : l.length < 1000000000000000) : Ev (fun k => plane_Same.f k a b c d l a' b' c' d' l') (SM a b c d l a' b' c' d' l') := by
  by_cases h : a = a' ∧ b = b' ∧ c = c' ∧ d = d'
  · obtain ⟨rfl, rfl, rfl, rfl⟩ := h
    refine Ev.eq (fun k => by rw [plane_Same.f, if_neg (by simp)]) ?_
    have e : SM a b c d l a b c d l' = decide (l = l') := by unfold SM; simp
    rw [e]
    by_cases h2 : l.length = l'.length
    · refine Ev.step (fun k => by rw [plane_Same.j0, if_neg (by simp [h2])]; rfl) (psame_l0 a b c d l l' hl l l' [] [] rfl rfl rfl h2)
    · refine Ev.step (g' := fun _ => some false) (fun k => by rw [plane_Same.j0, if_pos (by simp; omega)]) ?_
      have : decide (l = l') = false := by
        rw [decide_eq_false_iff_not]
        exact fun e => h2 (by rw [e])
      rw [this]
      exact Ev.const _
  · refine Ev.eq (fun k => by rw [plane_Same.f, if_pos]; simp; omega) ?_
    refine Ev.step (g' := fun _ => some false) (fun k => by rw [plane_Same.j0, if_pos rfl]) ?_
    have : SM a b c d l a' b' c' d' l' = false := by
      unfold SM
      rw [decide_eq_false_iff_not]
      exact fun e => h ⟨e.1, e.2.1, e.2.2.1, e.2.2.2.1⟩
    rw [this]
    exact Ev.const _
theorem SM_comm (a b c d : Int) (l : List Int) (a' b' c' d' : Int) (l' : List Int) : SM a' b' c' d' l' a b c d l = SM a b c d l a' b' c' d' l' := by
  unfold SM
  rw [decide_eq_decide]
  constructor <;> (rintro ⟨rfl, rfl, rfl, rfl, rfl⟩; exact ⟨rfl, rfl, rfl, rfl, rfl⟩)
theorem SM_refl (a b c d : Int) (l : List Int) : SM a b c d l a b c d l = true := by unfold SM; simp
end Go.Proofs.Ythemchggmlpdhaa.Pure
