/- What Cells computes: the parts of a rectangle in the cells of a grid, row by row. -/
import Derived.Test.YtibaclnknialbaaPureBound
namespace Go.Proofs.Ytibaclnknialbaa.Pure
open Go.RowKit Go.Proofs.Ytibaclnknialbaa.Q Go.Proofs.YtibaclnknialbaaW.PrintWords
set_option linter.unusedVariables false

def rng (a : Int) : Nat → List Int
  | 0 => []
  | n + 1 => a :: rng (a + 1) n
theorem rng_length (n : Nat) : ∀ a, (rng a n).length = n := by
  induction n with
  | zero => intro a; rfl
  | succ n ih => intro a; simp [rng, ih]

def cellOf (a b c d w h j i : Int) : S26 :=
  ⟨(Inter a b c d (wrap64 (i * w)) (wrap64 (j * h)) (wrap64 (wrap64 (i + 1) * w)) (wrap64 (wrap64 (j + 1) * h))).1,
   (Inter a b c d (wrap64 (i * w)) (wrap64 (j * h)) (wrap64 (wrap64 (i + 1) * w)) (wrap64 (wrap64 (j + 1) * h))).2.1,
   (Inter a b c d (wrap64 (i * w)) (wrap64 (j * h)) (wrap64 (wrap64 (i + 1) * w)) (wrap64 (wrap64 (j + 1) * h))).2.2.1,
   (Inter a b c d (wrap64 (i * w)) (wrap64 (j * h)) (wrap64 (wrap64 (i + 1) * w)) (wrap64 (wrap64 (j + 1) * h))).2.2.2⟩

theorem cells_row (a b c d w h left right bottom j : Int) (hr : right ≤ 100000) (n : Nat) : ∀ (k : Nat) (i : Int) (acc : List S26), 0 ≤ i → right - i = n → acc.length + n < 4398046511104 →
    rect_Cells.l1 (k + n + 1) w h left right bottom acc j i a b c d = rect_Cells.l0 k w h left right bottom (acc ++ (rng i n).map (cellOf a b c d w h j)) (wrap64 (j + 1)) a b c d := by
  induction n with
  | zero =>
    intro k i acc h0 hi hl
    rw [show k + 0 + 1 = k + 1 from rfl]
    simp only [rect_Cells.l1]
    rw [if_neg (by omega)]
    simp [rng]
  | succ n ih =>
    intro k i acc h0 hi hl
    rw [show k + (n + 1) + 1 = (k + n + 1) + 1 by omega]
    rw [rect_Cells.l1]
    rw [if_pos (by omega), inter_eq]
    simp only [Option.bind_some]
    rw [if_pos (by omega), show wrap64 (i + 1) = i + 1 by unfold wrap64; omega]
    rw [ih k (i + 1) _ (by omega) (by omega) (by simp; omega)]
    simp only [rng, List.map_cons, List.append_assoc, List.singleton_append, cellOf]
    rw [show wrap64 (i + 1) = i + 1 by unfold wrap64; omega]
theorem cells_rows (a b c d w h left right bottom : Int) (hr : right ≤ 100000) (h0 : 0 ≤ left) (hb : bottom ≤ 100000) (n : Nat) (hn : right - left = n) (m : Nat) : ∀ (k : Nat) (j : Int) (acc : List S26), 0 ≤ j → bottom - j = m → acc.length + m * n < 4398046511104 →
    rect_Cells.l0 (k + m * (n + 2) + 1) w h left right bottom acc j a b c d = some (acc ++ (rng j m).flatMap (fun j => (rng left n).map (cellOf a b c d w h j))) := by
  induction m with
  | zero =>
    intro k j acc hj hm hl
    rw [show k + 0 * (n + 2) + 1 = k + 1 by omega, rect_Cells.l0, if_neg (by omega)]
    simp [rng]
  | succ m ih =>
    intro k j acc hj hm hl
    rw [Nat.succ_mul] at hl
    rw [show k + (m + 1) * (n + 2) + 1 = (k + m * (n + 2) + 1 + n + 1) + 1 by rw [Nat.succ_mul]; omega, rect_Cells.l0, if_pos (by omega)]
    rw [cells_row a b c d w h left right bottom j hr n _ left acc h0 hn (by omega), show wrap64 (j + 1) = j + 1 by unfold wrap64; omega]
    rw [ih k (j + 1) _ (by omega) (by omega) (by simp [rng_length]; omega)]
    simp [rng, List.append_assoc]

theorem fdiv_pos {a w : Int} (ha : 0 ≤ a) (h4 : a ≤ 4096) (hw : 1 ≤ w) : fdiv a w = a / w ∧ 0 ≤ fdiv a w ∧ fdiv a w ≤ 4096 := by
  have h1 : Int.tdiv a w = a / w := Int.tdiv_eq_ediv_of_nonneg ha
  have h2 : Int.tmod a w = a % w := Int.tmod_eq_emod_of_nonneg ha
  have h3 : 0 ≤ a % w := Int.emod_nonneg _ (by omega)
  have h5 : 0 ≤ a / w := Int.ediv_nonneg ha (by omega)
  have h6 : a / w ≤ a := Int.ediv_le_self _ ha
  have e : fdiv a w = a / w := by
    unfold fdiv
    rw [if_neg (by omega), h1, h2, if_neg (by omega)]
    unfold wrap64; omega
  exact ⟨e, by omega, by omega⟩
theorem cdiv_pos {a w : Int} (ha : 0 ≤ a) (h4 : a ≤ 4096) (hw : 1 ≤ w) : cdiv a w = (if a % w > 0 then a / w + 1 else a / w) ∧ 0 ≤ cdiv a w ∧ cdiv a w ≤ 4097 := by
  have h1 : Int.tdiv a w = a / w := Int.tdiv_eq_ediv_of_nonneg ha
  have h2 : Int.tmod a w = a % w := Int.tmod_eq_emod_of_nonneg ha
  have h3 : 0 ≤ a % w := Int.emod_nonneg _ (by omega)
  have h5 : 0 ≤ a / w := Int.ediv_nonneg ha (by omega)
  have h6 : a / w ≤ a := Int.ediv_le_self _ ha
  have e : cdiv a w = (if a % w > 0 then a / w + 1 else a / w) := by
    unfold cdiv
    rw [if_neg (by omega), h1, h2]
    split <;> (unfold wrap64; omega)
  refine ⟨e, ?_, ?_⟩ <;> (rw [e]; split <;> omega)

/-- The list that Cells returns. -/
def CellsOf (a b c d w h : Int) : List S26 :=
  if Valid a b c d ∧ a < c ∧ b < d ∧ 1 ≤ w ∧ 1 ≤ h ∧ (cdiv c w - fdiv a w) * (cdiv d h - fdiv b h) ≤ 65536 then
    (rng (fdiv b h) (cdiv d h - fdiv b h).toNat).flatMap fun j => (rng (fdiv a w) (cdiv c w - fdiv a w).toNat).map (cellOf a b c d w h j)
  else []

theorem floor_le_ceil {a c w : Int} (ha : 0 ≤ a) (hc : c ≤ 4096) (h : a < c) (hw : 1 ≤ w) : fdiv a w < cdiv c w := by
  have h1 := (fdiv_pos ha (by omega) hw).1
  have h2 := (cdiv_pos (a := c) (by omega) hc hw).1
  have h3 : a / w ≤ c / w := Int.ediv_le_ediv (by omega) (by omega)
  rw [h1, h2]
  split
  · omega
  · have e1 : c % w = 0 := by have := Int.emod_nonneg c (show w ≠ 0 by omega); omega
    have e2 := Int.emod_add_mul_ediv c w
    have e3 := Int.emod_add_mul_ediv a w
    have e4 := Int.emod_nonneg a (show w ≠ 0 by omega)
    rcases Int.lt_or_le (a / w) (c / w) with h5 | h5
    · exact h5
    · exfalso
      have e5 : a / w = c / w := by omega
      rw [e5] at e3
      omega

theorem cells_eq (a b c d w h : Int) : ∃ K, ∀ k, rect_Cells.f (K + k) a b c d w h = some (CellsOf a b c d w h) := by
  by_cases h0 : Valid a b c d ∧ a < c ∧ b < d ∧ 1 ≤ w ∧ 1 ≤ h
  · obtain ⟨hv, hac, hbd, hw, hh⟩ := h0
    have hv' := hv
    unfold Valid at hv'
    have f1 := fdiv_pos (a := a) (w := w) (by omega) (by omega) hw
    have f2 := fdiv_pos (a := b) (w := h) (by omega) (by omega) hh
    have c1 := cdiv_pos (a := c) (w := w) (by omega) (by omega) hw
    have c2 := cdiv_pos (a := d) (w := h) (by omega) (by omega) hh
    have l1 := floor_le_ceil (a := a) (c := c) (w := w) (by omega) (by omega) hac hw
    have l2 := floor_le_ceil (a := b) (c := d) (w := h) (by omega) (by omega) hbd hh
    have hm := @mul_bd (cdiv c w - fdiv a w) (cdiv d h - fdiv b h) 4097 4097 (by omega) (by omega) (by omega) (by omega)
    have hw1 : wrap64 (wrap64 (cdiv c w - fdiv a w) * wrap64 (cdiv d h - fdiv b h)) = (cdiv c w - fdiv a w) * (cdiv d h - fdiv b h) := by
      rw [show wrap64 (cdiv c w - fdiv a w) = cdiv c w - fdiv a w by unfold wrap64; omega, show wrap64 (cdiv d h - fdiv b h) = cdiv d h - fdiv b h by unfold wrap64; omega]
      unfold wrap64; omega
    refine ⟨(cdiv d h - fdiv b h).toNat * ((cdiv c w - fdiv a w).toNat + 2) + 2, fun k => ?_⟩
    unfold rect_Cells.f
    rw [valid_eq, empty_eq]
    simp only [Option.bind_some, decide_eq_true_eq]
    rw [if_pos hv, if_neg (by omega), if_neg (by omega), show decide (h < 1) = false from decide_eq_false (by omega)]
    rw [show (cdiv d h - fdiv b h).toNat * ((cdiv c w - fdiv a w).toNat + 2) + 2 + k = (k + (cdiv d h - fdiv b h).toNat * ((cdiv c w - fdiv a w).toNat + 2) + 1) + 1 by omega]
    rw [rect_Cells.j0, if_neg (by simp)]
    simp only [floor_eq, ceil_eq, Option.bind_some]
    rw [hw1]
    by_cases hc : (cdiv c w - fdiv a w) * (cdiv d h - fdiv b h) > 65536
    · rw [if_pos hc, CellsOf, if_neg (by omega)]
    · rw [if_neg hc, CellsOf, if_pos ⟨hv, hac, hbd, hw, hh, by omega⟩]
      have hmn : (cdiv d h - fdiv b h).toNat * (cdiv c w - fdiv a w).toNat ≤ 4097 * 4097 := Nat.mul_le_mul (by omega) (by omega)
      rw [cells_rows a b c d w h (fdiv a w) (cdiv c w) (cdiv d h) (by omega) (by omega) (by omega) _ (by omega) _ k (fdiv b h) [] (by omega) (by omega) (by simp; omega)]
      rfl
  · refine ⟨1, fun k => ?_⟩
    rw [CellsOf, if_neg (fun hx => h0 ⟨hx.1, hx.2.1, hx.2.2.1, hx.2.2.2.1, hx.2.2.2.2.1⟩)]
    unfold rect_Cells.f
    rw [valid_eq, empty_eq]
    simp only [Option.bind_some, decide_eq_true_eq]
    have hj : ∀ x1 x2, rect_Cells.j0 (1 + k) x1 x2 true a b c d = some [] := fun x1 x2 => by
      rw [show 1 + k = k + 1 by omega, rect_Cells.j0, if_pos rfl]
    by_cases hv : Valid a b c d
    · rw [if_pos hv]
      by_cases he : c ≤ a ∨ d ≤ b
      · rw [if_pos he, hj]
      rw [if_neg he]
      by_cases h1 : w < 1
      · rw [if_pos h1, hj]
      rw [if_neg h1]
      have h2 : h < 1 := by
        by_cases h2 : h < 1
        · exact h2
        · exact absurd ⟨hv, by omega, by omega, by omega, by omega⟩ h0
      rw [show decide (h < 1) = true from decide_eq_true h2, hj]
    · rw [if_neg hv, hj]

theorem wrap_ex (n : Int) : ∃ q, wrap64 n = n - 18446744073709551616 * q := ⟨(n + 9223372036854775808) / 18446744073709551616, by unfold wrap64; omega⟩
theorem wrap_sub (n t : Int) : wrap64 (n - 18446744073709551616 * t) = wrap64 n := by unfold wrap64; omega
theorem wrap_next (i w : Int) : wrap64 (wrap64 (i + 1) * w) = wrap64 (wrap64 (i * w) + w) := by
  obtain ⟨q, hq⟩ := wrap_ex (i + 1)
  obtain ⟨p, hp⟩ := wrap_ex (i * w)
  rw [hq, hp]
  rw [show (i + 1 - 18446744073709551616 * q) * w = (i * w + w) - 18446744073709551616 * (q * w) by rw [Int.sub_mul, Int.add_mul, Int.mul_assoc]; omega]
  rw [show i * w - 18446744073709551616 * p + w = (i * w + w) - 18446744073709551616 * p by omega]
  rw [wrap_sub, wrap_sub]

theorem same_self (l : List S26) (hl : l.length * 32 ≤ 140737488351232) (m : Nat) : ∀ (k i : Nat), i + m = l.length → waveletref01_Same.l0 (k + m + 1) l l (i : Int) = some true := by
  induction m with
  | zero =>
    intro k i hi
    rw [show k + 0 + 1 = k + 1 from rfl, waveletref01_Same.l0, if_neg (by omega)]
  | succ m ih =>
    intro k i hi
    rw [show k + (m + 1) + 1 = (k + m + 1) + 1 by omega, waveletref01_Same.l0, if_pos (by omega), if_pos (by omega), if_pos (by omega), step_nat i l hl (by omega)]
    rw [if_neg (by simp)]
    exact ih k (i + 1) (by omega)
end Go.Proofs.Ytibaclnknialbaa.Pure
