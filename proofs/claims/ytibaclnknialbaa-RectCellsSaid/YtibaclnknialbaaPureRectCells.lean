/- RectCells: Cells of the program returns the rectangles that the reference returns, for all arguments, and the examples of the chapter hold. No condition. -/
import Derived.Test.YtibaclnknialbaaPureCells
import Derived.Test.YtibaclnknialbaaQ32
import Derived.Test.YtibaclnknialbaaPureRef
namespace Go.Proofs.Ytibaclnknialbaa.Pure
open Go.RowKit Go.Proofs.Ytibaclnknialbaa.Q Go.Proofs.YtibaclnknialbaaW.PrintWords
set_option linter.unusedVariables false
theorem rinter_eq (a b c d a' b' c' d' : Int) : waveletref01_Intersect.f a b c d a' b' c' d' = some (Inter a b c d a' b' c' d') := inter_eq a b c d a' b' c' d'
mutual
theorem rcells_l0 : ∀ (k : Nat) (w h left right bottom : Int) (acc : List S26) (j a b c d : Int), waveletref01_Cells.l0 k w h left right bottom acc j a b c d = rect_Cells.l0 k w h left right bottom acc j a b c d
  | 0, _, _, _, _, _, _, _, _, _, _, _ => by rw [waveletref01_Cells.l0, rect_Cells.l0]
  | k + 1, w, h, left, right, bottom, acc, j, a, b, c, d => by
    rw [waveletref01_Cells.l0, rect_Cells.l0, rcells_l1 k]
theorem rcells_l1 : ∀ (k : Nat) (w h left right bottom : Int) (acc : List S26) (j i a b c d : Int), waveletref01_Cells.l1 k w h left right bottom acc j i a b c d = rect_Cells.l1 k w h left right bottom acc j i a b c d
  | 0, _, _, _, _, _, _, _, _, _, _, _, _ => by rw [waveletref01_Cells.l1, rect_Cells.l1]
  | k + 1, w, h, left, right, bottom, acc, j, i, a, b, c, d => by
    rw [waveletref01_Cells.l1, rect_Cells.l1, rcells_l0 k, rinter_eq, inter_eq, wrap_next, wrap_next]
    simp only [Option.bind_some]
    split
    · split
      · rw [rcells_l1 k]
      · rfl
    · rfl
end
theorem rcells_eq (k : Nat) (a b c d w h : Int) : waveletref01_Cells.f k a b c d w h = rect_Cells.f k a b c d w h := by
  have hj : ∀ x, waveletref01_Cells.j0 k w h x a b c d = rect_Cells.j0 k w h x a b c d := fun x => by
    cases k with
    | zero => rw [waveletref01_Cells.j0, rect_Cells.j0]
    | succ k => simp only [waveletref01_Cells.j0, rect_Cells.j0, rfloor_eq, floor_eq, rceil_eq, ceil_eq, rcells_l0]
  unfold waveletref01_Cells.f rect_Cells.f
  simp only [rvalid_eq, valid_eq, rempty_eq, empty_eq, hj]
theorem cells_short (a b c d w h : Int) : (CellsOf a b c d w h).length ≤ 65536 := by
  unfold CellsOf
  split
  · rename_i h0
    obtain ⟨hv, hac, hbd, hw, hh, hm⟩ := h0
    unfold Valid at hv
    have l1 := floor_le_ceil (a := a) (c := c) (w := w) (by omega) (by omega) hac hw
    have l2 := floor_le_ceil (a := b) (c := d) (w := h) (by omega) (by omega) hbd hh
    have key : ∀ (l : List Int) (n : Nat) (g : Int → List S26), (∀ j, (g j).length = n) → (l.flatMap g).length = l.length * n := by
      intro l n g hg
      induction l with
      | nil => simp
      | cons x xs ih => simp [List.flatMap_cons, ih, hg, Nat.succ_mul]; omega
    rw [key _ (cdiv c w - fdiv a w).toNat _ (fun j => by rw [List.length_map, rng_length]), rng_length]
    have e1 : ((cdiv d h - fdiv b h).toNat : Int) = cdiv d h - fdiv b h := by omega
    have e2 : ((cdiv c w - fdiv a w).toNat : Int) = cdiv c w - fdiv a w := by omega
    have : (((cdiv d h - fdiv b h).toNat * (cdiv c w - fdiv a w).toNat : Nat) : Int) ≤ 65536 := by
      rw [Int.natCast_mul, e1, e2, Int.mul_comm]; exact hm
    omega
  · simp
theorem RectCells (a0_0 : Int) (a0_1 : Int) (a0_2 : Int) (a0_3 : Int) (a1 : Int) (a2 : Int) (w0_0 : (Lit.int .i64 a0_0).wf = true) (w0_1 : (Lit.int .i64 a0_1).wf = true) (w0_2 : (Lit.int .i64 a0_2).wf = true) (w0_3 : (Lit.int .i64 a0_3).wf = true) (w1 : (Lit.int .i64 a1).wf = true) (w2 : (Lit.int .i64 a2).wf = true) : ∃ k, waveletlaw01_RectCells.f k a0_0 a0_1 a0_2 a0_3 a1 a2 = some true := by
  obtain ⟨k, hk⟩ := example_holds
  obtain ⟨K, hK⟩ := cells_eq a0_0 a0_1 a0_2 a0_3 a1 a2
  have hs := cells_short a0_0 a0_1 a0_2 a0_3 a1 a2
  have hE : ∀ m, waveletlaw01_exampleHolds.f (k + m) = some true := fun m => at_rounds waveletlaw01_exampleHolds.mono (by omega) hk
  refine ⟨k + (K + ((CellsOf a0_0 a0_1 a0_2 a0_3 a1 a2).length + 1)), ?_⟩
  unfold waveletlaw01_RectCells.f
  rw [hE, rcells_eq, show k + (K + ((CellsOf a0_0 a0_1 a0_2 a0_3 a1 a2).length + 1)) = K + (k + ((CellsOf a0_0 a0_1 a0_2 a0_3 a1 a2).length + 1)) by omega, hK]
  simp only [Option.bind_some]
  have h1 := same_self (CellsOf a0_0 a0_1 a0_2 a0_3 a1 a2) (by omega) (CellsOf a0_0 a0_1 a0_2 a0_3 a1 a2).length (K + k) 0 (by omega)
  unfold waveletref01_Same.f
  rw [if_pos rfl, show K + (k + ((CellsOf a0_0 a0_1 a0_2 a0_3 a1 a2).length + 1)) = K + k + (CellsOf a0_0 a0_1 a0_2 a0_3 a1 a2).length + 1 by omega, show (0 : Int) = ((0 : Nat) : Int) from rfl, h1]
  rfl
end Go.Proofs.Ytibaclnknialbaa.Pure
