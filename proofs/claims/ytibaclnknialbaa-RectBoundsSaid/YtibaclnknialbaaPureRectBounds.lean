/- RectBounds: Bound of the program returns what the reference returns, for at most 100 rectangles (for more the law asks for the examples alone), and the examples of the chapter hold. No condition. -/
import Derived.Test.YtibaclnknialbaaPureBound
import Derived.Test.YtibaclnknialbaaQ28
import Derived.Test.YtibaclnknialbaaPureRef
namespace Go.Proofs.Ytibaclnknialbaa.Pure
open Go.RowKit Go.Proofs.Ytibaclnknialbaa.Q Go.Proofs.YtibaclnknialbaaW.PrintWords
set_option linter.unusedVariables false
theorem rbound_eq (l : List S26) (hl : l.length * 32 ≤ 140737488351232) (d : Nat) : ∀ (k i : Nat) (a b c e : Int) (f : Bool), i + d = l.length → d < k → (f = false → (a, b, c, e) = (0, 0, 0, 0)) → (f = true → a < c ∧ b < e) →
    waveletref01_Bound.l0 k l (i : Int) a b c e = some (bnd f (a, b, c, e) (l.drop i)) := by
  induction d with
  | zero =>
    intro k i a b c e f hi hk _ _
    obtain ⟨k, rfl⟩ : ∃ m, k = m + 1 := ⟨k - 1, by omega⟩
    simp only [waveletref01_Bound.l0]
    rw [if_neg (by omega), List.drop_eq_nil_of_le (by omega)]
    rfl
  | succ d ih =>
    intro k i a b c e f hi hk hf ht
    obtain ⟨k, rfl⟩ : ∃ m, k = m + 1 := ⟨k - 1, by omega⟩
    simp only [waveletref01_Bound.l0]
    have hlt : i < l.length := by omega
    rw [if_pos (by omega), if_pos (by omega), rd_at l i hlt, rempty_eq, step_nat i l hl hlt, List.drop_eq_getElem_cons hlt]
    simp only [Option.bind_some, decide_eq_true_eq]
    by_cases h : l[i].f2 ≤ l[i].f0 ∨ l[i].f3 ≤ l[i].f1
    · rw [if_pos h, bnd_skip f _ _ _ h]
      exact ih k (i + 1) a b c e f (by omega) (by omega) hf ht
    · rw [if_neg h, rempty_eq]
      simp only [Option.bind_some, decide_eq_true_eq]
      cases f with
      | false =>
        have h0 := hf rfl
        simp only [Prod.mk.injEq] at h0
        obtain ⟨rfl, rfl, rfl, rfl⟩ := h0
        rw [if_pos (by omega), bnd_first _ _ _ h]
        rw [show mn l[i].f0 l[i].f0 = l[i].f0 by unfold mn; omega, show mn l[i].f1 l[i].f1 = l[i].f1 by unfold mn; omega, show mx l[i].f2 l[i].f2 = l[i].f2 by unfold mx; omega, show mx l[i].f3 l[i].f3 = l[i].f3 by unfold mx; omega]
        exact ih k (i + 1) _ _ _ _ true (by omega) (by omega) (by simp) (fun _ => by omega)
      | true =>
        have h0 := ht rfl
        rw [if_neg (by omega), bnd_more _ _ _ h]
        have x0 := mn_spec a l[i].f0
        have x1 := mn_spec b l[i].f1
        have x2 := mx_spec c l[i].f2
        have x3 := mx_spec e l[i].f3
        exact ih k (i + 1) _ _ _ _ true (by omega) (by omega) (by simp) (fun _ => by omega)
theorem RectBounds (l0 : List (S26)) (y0 : l0.length * 32 ≤ 140737488351232) (w0 : ∀ x ∈ l0, ((Lit.int .i64 x.f0).wf = true ∧ (Lit.int .i64 x.f1).wf = true ∧ (Lit.int .i64 x.f2).wf = true ∧ (Lit.int .i64 x.f3).wf = true)) : ∃ k, waveletlaw01_RectBounds.f k l0 = some true := by
  obtain ⟨k, hk⟩ := example_holds
  have hK : ∀ m, waveletlaw01_exampleHolds.f (k + m) = some true := fun m => at_rounds waveletlaw01_exampleHolds.mono (by omega) hk
  refine ⟨k + (l0.length + 1), ?_⟩
  unfold waveletlaw01_RectBounds.f
  rw [hK]
  split
  · rfl
  · have h1 := bound_eq l0 y0 l0.length (k + (l0.length + 1)) 0 0 0 0 0 false (by omega) (by omega)
    have h2 := rbound_eq l0 y0 l0.length (k + (l0.length + 1)) 0 0 0 0 0 false (by omega) (by omega) (fun _ => rfl) (by simp)
    unfold rect_Bound.f waveletref01_Bound.f
    rw [show (0 : Int) = ((0 : Nat) : Int) from rfl] at *
    rw [h1, h2]
    simp
end Go.Proofs.Ytibaclnknialbaa.Pure
