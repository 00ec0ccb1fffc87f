/- PlanePieces: the rows of a plane are its data, and a sample is found in its row and in its column, for valid planes of at most 20 columns and rows, and the examples of the chapter hold. No condition. -/
import Derived.Test.YthemchggmlpdhaaPureEx
import Derived.Test.YthemchggmlpdhaaPureSmall
import Derived.Test.YthemchggmlpdhaaQ48
namespace Go.Proofs.Ythemchggmlpdhaa.Pure
open Go.RowKit Go.Proofs.Ythemchggmlpdhaa.Q Go.Proofs.YthemchggmlpdhaaW.PrintWords
set_option linter.unusedVariables false
theorem rd_range (n : Nat) (f : Nat → Int) (i : Int) (h0 : 0 ≤ i) (h1 : i < (n : Int)) : rd ((List.range n).map f) i = f i.toNat := by
  unfold rd
  rw [List.getD_eq_getElem?_getD, List.getElem?_map, List.getElem?_range (by omega), Option.map_some, Option.getD_some]
theorem pieces_l1 (all : List Int) (a b c d : Int) (l : List Int) (h : VP a b c d l) (y : Int) (hy : b ≤ y ∧ y < d) (hout : Ev (fun k => waveletlaw02_PlanePieces.l0 k all (wrap64 (y + 1)) a b c d l) true) :
    ∀ (m i : Nat), i + m = (c - a).toNat → Ev (fun k => waveletlaw02_PlanePieces.l1 k all y (rowT a b c l y) (a + (i : Int)) a b c d l) true := by
  have h1 := vp_len h
  have hw : wrap64 (d - b) = d - b := by unfold wrap64; omega
  have hrl : ((rowT a b c l y).length : Int) = c - a := by unfold rowT; rw [List.length_map, List.length_range]; omega
  intro m
  induction m with
  | zero =>
    intro i hi
    exact Ev.step (fun k => by rw [waveletlaw02_PlanePieces.l1, if_neg (by omega)]) hout
  | succ m ih =>
    intro i hi
    have hx : a ≤ a + (i : Int) ∧ a + (i : Int) < c := by omega
    have e1 : wrap64 (a + (i : Int) + 1) = a + ((i + 1 : Nat) : Int) := by unfold wrap64; omega
    have e2 : wrap64 (a + (i : Int) - a) = (i : Int) := by unfold wrap64; omega
    have e3 : wrap64 (y - b) = y - b := by unfold wrap64; omega
    have hcl : ((colT a b c d l (a + (i : Int))).length : Int) = d - b := by unfold colT; rw [List.length_map, List.length_range]; omega
    have r1 : rd (rowT a b c l y) (i : Int) = G a b c l (a + (i : Int)) y := by
      unfold rowT
      rw [rd_range _ _ _ (by omega) (by omega), Int.toNat_natCast]
    have r2 : rd (colT a b c d l (a + (i : Int))) (y - b) = G a b c l (a + (i : Int)) y := by
      unfold colT
      rw [rd_range _ _ _ (by omega) (by omega)]
      congr 1
      omega
    refine Ev.step (fun k => by rw [waveletlaw02_PlanePieces.l1, if_pos hx.2, at_eq, if_pos ⟨h, hx.1, hx.2, hy.1, hy.2⟩, Option.bind_some]) ?_
    refine Ev.bind (col_ev a b c d l (a + (i : Int))) ?_
    rw [if_pos ⟨h, hx.1, hx.2⟩]
    refine Ev.eq (fun k => by rw [if_pos rfl, if_pos rfl, if_pos (by rw [hw]; exact hcl), e2, e3, if_pos (by omega), if_pos (by omega), if_pos r1.symm, if_pos (by omega), if_pos (by rw [hcl]; omega), if_pos r2.symm, e1]) ?_
    exact ih (i + 1) (by omega)
theorem pieces_l0 (a b c d : Int) (l : List Int) (h : VP a b c d l) : ∀ (m j : Nat), j + m = (d - b).toNat →
    Ev (fun k => waveletlaw02_PlanePieces.l0 k (l.take ((j : Int) * (c - a)).toNat) (b + (j : Int)) a b c d l) true := by
  have h1 := vp_len h
  intro m
  induction m with
  | zero =>
    intro j hj
    have e : (j : Int) * (c - a) = (l.length : Int) := by
      rw [h1.1, Int.mul_comm]; congr 1; omega
    refine Ev.step (fun k => by rw [waveletlaw02_PlanePieces.l0, if_neg (by omega), e, Int.toNat_natCast, List.take_length]) ?_
    refine Ev.bind (ints_ev l l (by omega)) ?_
    rw [decide_eq_true rfl]
    exact Ev.eq (fun k => if_pos rfl) ex_ev
  | succ m ih =>
    intro j hj
    have hb := @row_bd (c - a) (d - b) (j : Int) (by omega) (by omega) (by omega)
    have hy : b ≤ b + (j : Int) ∧ b + (j : Int) < d := by omega
    have hw : wrap64 (c - a) = c - a := by unfold wrap64; omega
    have hrl : ((rowT a b c l (b + (j : Int))).length : Int) = c - a := by unfold rowT; rw [List.length_map, List.length_range]; omega
    refine Ev.step (fun k => by rw [waveletlaw02_PlanePieces.l0, if_pos (by omega)]) ?_
    refine Ev.bind (row_ev a b c d l (b + (j : Int))) ?_
    rw [if_pos ⟨h, hy.1, hy.2⟩]
    refine Ev.eq (fun k => if_pos rfl) ?_
    have hs := row_seg h hy
    rw [show b + (j : Int) - b = (j : Int) by omega] at hs
    have e1 : wrap64 (b + (j : Int) + 1) = b + ((j + 1 : Nat) : Int) := by unfold wrap64; omega
    have e2 : l.take ((j : Int) * (c - a)).toNat ++ rowT a b c l (b + (j : Int)) = l.take (((j + 1 : Nat) : Int) * (c - a)).toNat := by
      rw [← hs, ← List.take_add]
      congr 1
      have : ((j + 1 : Nat) : Int) = (j : Int) + 1 := by omega
      rw [this, Int.add_mul, Int.one_mul]
      omega
    refine Ev.step (fun k => by rw [waveletlaw02_PlanePieces.j1, if_neg (by rw [hw]; simp [hrl]), if_pos (by show (List.take _ l).length + (rowT a b c l (b + (j : Int))).length < _; rw [List.length_take]; omega), e2]) ?_
    have := pieces_l1 (l.take (((j + 1 : Nat) : Int) * (c - a)).toNat) a b c d l h (b + (j : Int)) hy (by rw [e1]; exact ih (j + 1) (by omega)) (c - a).toNat 0 (by omega)
    rw [show a + ((0 : Nat) : Int) = a from Int.add_zero a] at this
    exact this
theorem PlanePieces (a0_0 : Int) (a0_1 : Int) (a0_2 : Int) (a0_3 : Int) (l0_4 : List (Int)) (w0_0 : (Lit.int .i64 a0_0).wf = true) (w0_1 : (Lit.int .i64 a0_1).wf = true) (w0_2 : (Lit.int .i64 a0_2).wf = true) (w0_3 : (Lit.int .i64 a0_3).wf = true) (y0_4 : l0_4.length * 8 ≤ 140737488351232) (w0_4 : ∀ x ∈ l0_4, (Lit.int .i64 x).wf = true) : ∃ k, waveletlaw02_PlanePieces.f k a0_0 a0_1 a0_2 a0_3 l0_4 = some true := by
  refine Ev.ex ?_
  obtain ⟨t, ht, hv⟩ := vs a0_0 a0_1 a0_2 a0_3 l0_4
  refine Ev.eq (fun k => by rw [waveletlaw02_PlanePieces.f, ht, Option.bind_some]) ?_
  cases t with
  | false => exact Ev.eq (fun k => if_neg (by decide)) ex_ev
  | true =>
    have h := hv rfl
    have h1 := vp_len h
    refine Ev.eq (fun k => if_pos rfl) ?_
    have := pieces_l0 a0_0 a0_1 a0_2 a0_3 l0_4 h (a0_3 - a0_1).toNat 0 (by omega)
    rw [show a0_1 + ((0 : Nat) : Int) = a0_1 from Int.add_zero a0_1, show ((0 : Nat) : Int) * (a0_2 - a0_0) = 0 from Int.zero_mul _] at this
    exact this
end Go.Proofs.Ythemchggmlpdhaa.Pure
