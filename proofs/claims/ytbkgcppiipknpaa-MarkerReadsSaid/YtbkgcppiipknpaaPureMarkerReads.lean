/- MarkerReads: Read and All of the program return what the reference returns, for at most 3000 bytes (for more the law asks for the examples alone) and all offsets; the examples of the chapter hold. No condition. -/
import Derived.Test.YtbkgcppiipknpaaPureRead
import Derived.Test.YtbkgcppiipknpaaPureRef
import Derived.Test.YtbkgcppiipknpaaQ21
namespace Go.Proofs.Ytbkgcppiipknpaa.Pure
open Go.RowKit Go.Proofs.Ytbkgcppiipknpaa.Q Go.Proofs.YtbkgcppiipknpaaW.PrintWords
set_option linter.unusedVariables false
theorem rread_eq (l : List Int) (hb : Bytes l) (a : Int) (hl : l.length ≤ 1000000) (ha : a ≤ 9223372036854775807) (k : Nat) : waveletref28_Read.f (k + 7) l a = some (RD l a) := by
  have hout : a < 0 ∨ (l.length : Int) < a → RD l a = (0, [], 0, 2) := fun h => by
    have e : RU l a 2 = (0, 2) := by unfold RU; rw [if_pos (by omega)]
    unfold RD
    rw [e]
    rfl
  unfold waveletref28_Read.f
  by_cases h1 : a < 0
  · rw [if_pos h1, show k + 7 = (k + 6) + 1 from rfl, waveletref28_Read.j0, if_pos rfl, hout (.inl h1)]
  rw [if_neg h1]
  by_cases h2 : (l.length : Int) < a
  · rw [show decide (a > (l.length : Int)) = true from decide_eq_true h2, show k + 7 = (k + 6) + 1 from rfl, waveletref28_Read.j0, if_pos rfl, hout (.inr h2)]
  rw [show decide (a > (l.length : Int)) = false from decide_eq_false h2, show k + 7 = (k + 6) + 1 from rfl, waveletref28_Read.j0, if_neg (by simp), rru_eq l a 2 hl ha, RD]
  simp only [Option.bind_some]
  by_cases g1 : (RU l a 2).2 = 0
  · obtain ⟨a0, a1, _⟩ := ru_two l hb a g1
    rw [if_pos g1, if_pos g1, rknown_eq]
    simp only [Option.bind_some, decide_eq_true_eq]
    by_cases g2 : Kn (RU l a 2).1
    · rw [if_pos g2, if_pos g2, rbare_eq]
      simp only [Option.bind_some, decide_eq_true_eq]
      have hw : wrap64 (a + 2) = a + 2 := by unfold wrap64; omega
      by_cases g3 : Ba (RU l a 2).1
      · rw [if_pos g3, if_pos g3, hw]
      · rw [if_neg g3, if_neg g3, hw, rru_eq l (a + 2) 2 hl (by omega)]
        simp only [Option.bind_some]
        by_cases g4 : (RU l (a + 2) 2).2 = 0
        · obtain ⟨_, b1, x, y, _, hx, hy, hv⟩ := ru_two l hb (a + 2) g4
          rw [if_pos g4, if_pos g4]
          by_cases g5 : (RU l (a + 2) 2).1 < 2
          · rw [if_pos g5, if_pos g5]
          · rw [if_neg g5, if_neg g5, show wrap64 (wrap64 ((l.length : Int) - a) - 2) = (l.length : Int) - a - 2 by unfold wrap64; omega]
            by_cases g6 : (l.length : Int) < a + 2 + (RU l (a + 2) 2).1
            · rw [if_pos (by omega), if_pos g6]
            · rw [if_neg (by omega), if_neg g6, show wrap64 (a + 4) = a + 4 by unfold wrap64; omega, show wrap64 (a + 2 + (RU l (a + 2) 2).1) = a + 2 + (RU l (a + 2) 2).1 by unfold wrap64; omega]
              rw [if_pos (by omega), if_pos (by omega), if_pos (by omega)]
              simp only [List.length_nil, List.nil_append]
              rw [if_pos (by rw [List.length_drop, List.length_take]; omega)]
        · rw [if_neg g4, if_neg g4]
    · rw [if_neg g2, if_neg g2]
  · rw [if_neg g1, if_neg g1]
theorem rall_eq (l : List Int) (hb : Bytes l) (hl : l.length ≤ 1000000) (d : Nat) : ∀ (k : Nat) (a : Int) (acc : List S26), a ≤ 9223372036854775807 → (a < 0 ∨ (l.length : Int) - a ≤ d) → acc.length + d ≤ 4000000 →
    waveletref28_All.l0 (k + 8 + 2 * d) l a acc = some (AL l (d + 1) a acc) := by
  have key : ∀ (m : Nat) (a : Int) (acc : List S26), a ≤ 9223372036854775807 → waveletref28_All.l0 (m + 7 + 1) l a acc = waveletref28_All.j1 (m + 7) l a acc (RD l a).2.2.1 (RD l a).2.2.2 (St l a) (RD l a).1 (RD l a).2.1 := by
    intro m a acc ha
    rw [waveletref28_All.l0, rread_eq l hb a hl ha, show m + 7 = (m + 1) + 6 by omega, rru_eq l a 2 hl ha]
    simp only [Option.bind_some]
    unfold St
    by_cases h1 : (RU l a 2).2 = 0
    · rw [if_pos h1]
      by_cases h2 : (RU l a 2).1 = 65456
      · rw [if_pos h2, decide_eq_true (show _ from ⟨h1, .inl h2⟩)]
      rw [if_neg h2]
      by_cases h3 : (RU l a 2).1 = 65458
      · rw [if_pos h3, decide_eq_true (show _ from ⟨h1, .inr (.inl h3)⟩)]
      rw [if_neg h3]
      congr 1
      rw [Bool.eq_iff_iff, beq_iff_eq, decide_eq_true_iff]; omega
    · rw [if_neg h1, decide_eq_false (show ¬ _ from fun h => h1 h.1)]
  induction d with
  | zero =>
    intro k a acc ha hd hc
    have hne : (RD l a).2.2.2 ≠ 0 := fun h => by have := rd_ok l hb a h; omega
    rw [show k + 8 + 2 * 0 = k + 7 + 1 from rfl, key k a acc ha, show k + 7 = (k + 6) + 1 from rfl, waveletref28_All.j1, AL]
    split
    · rfl
    · rfl
  | succ d ih =>
    intro k a acc ha hd hc
    rw [show k + 8 + 2 * (d + 1) = (k + 2 * d + 2) + 7 + 1 by omega, key _ a acc ha, show k + 2 * d + 2 + 7 = (k + 8 + 2 * d) + 1 by omega, waveletref28_All.j1, AL]
    split
    · rfl
    · by_cases h : (RD l a).2.2.2 = 0
      · have := rd_ok l hb a h
        rw [if_pos h, if_pos h, if_pos (by omega)]
        exact ih k _ _ (by omega) (by omega) (by simp; omega)
      · simp only [if_neg h]
theorem seg_self (a : Int) (p : List Int) : waveletref28_SameSegment.f a p a p = some true := by
  unfold waveletref28_SameSegment.f
  rw [if_pos rfl]
  simp
theorem segs_self (l : List S26) (hl : l.length ≤ 100000) (d : Nat) : ∀ (k j : Nat), j + d = l.length → waveletref28_SameSegments.l0 (k + d + 1) l l (l.length : Int) (j : Int) = some true := by
  induction d with
  | zero =>
    intro k j hj
    rw [show k + 0 + 1 = k + 1 from rfl, waveletref28_SameSegments.l0, if_neg (by omega)]
  | succ d ih =>
    intro k j hj
    obtain ⟨s, hs⟩ : ∃ s, rd_T26 l (j : Int) = s := ⟨_, rfl⟩
    have h1 := ih k (j + 1) (by omega)
    obtain ⟨q, hq⟩ : ∃ q, k + d + 1 = q := ⟨_, rfl⟩
    rw [hq] at h1
    rw [show k + (d + 1) + 1 = q + 1 by omega, waveletref28_SameSegments.l0, if_pos (by omega), if_pos (by omega), if_pos (by omega), if_pos (by omega), hs, seg_self]
    rw [show wrap64 ((j : Int) + 1) = ((j + 1 : Nat) : Int) by unfold wrap64; omega, h1]
    rfl
theorem MarkerReads (l0 : List (Int)) (a1 : Int) (y0 : l0.length * 1 ≤ 140737488351232) (w0 : ∀ x ∈ l0, (Lit.int .u8 x).wf = true) (w1 : (Lit.int .i64 a1).wf = true) : ∃ k, waveletlaw28_MarkerReads.f k l0 a1 = some true := by
  obtain ⟨k, hk⟩ := example_holds
  have hE : ∀ m, waveletlaw28_exampleHolds.f (k + m) = some true := fun m => at_rounds waveletlaw28_exampleHolds.mono (by omega) hk
  have b1 := wf_bd w1
  have hb : Bytes l0 := fun x hx => wf_u8 (w0 x hx)
  refine ⟨k + 20000, ?_⟩
  unfold waveletlaw28_MarkerReads.f
  rw [hE]
  by_cases h1 : (l0.length : Int) > 3000
  · rw [if_pos h1]; rfl
  rw [if_neg h1]
  have hd : a1 < 0 ∨ (l0.length : Int) - a1 ≤ (l0.length : Nat) := by omega
  rw [show k + 20000 = (k + 19994) + 6 by omega, read_eq l0 hb a1 (by omega) (by omega), show k + 19994 + 6 = (k + 19993) + 7 by omega, rread_eq l0 hb a1 (by omega) (by omega)]
  unfold marker_All.f waveletref28_All.f
  rw [show k + 19993 + 7 = (k + 19993 - l0.length) + 7 + l0.length by omega, all_eq l0 hb (by omega) l0.length _ a1 [] (by omega) hd (by simp; omega)]
  rw [show k + 19993 - l0.length + 7 + l0.length = (k + 19992 - 2 * l0.length) + 8 + 2 * l0.length by omega, rall_eq l0 hb (by omega) l0.length _ a1 [] (by omega) hd (by simp; omega)]
  have hlen := al_length l0 (l0.length + 1) a1 []
  simp only [Option.bind_some, seg_self, if_true]
  unfold waveletref28_SameSegments.f
  rw [if_pos rfl]
  have hs := segs_self (AL l0 (l0.length + 1) a1 []).1 (by simp at hlen; omega) (AL l0 (l0.length + 1) a1 []).1.length (k + 19999 - (AL l0 (l0.length + 1) a1 []).1.length) 0 (by omega)
  rw [show k + 19999 - (AL l0 (l0.length + 1) a1 []).1.length + (AL l0 (l0.length + 1) a1 []).1.length + 1 = k + 19992 - 2 * l0.length + 8 + 2 * l0.length by simp at hlen; omega] at hs
  rw [show (0 : Int) = ((0 : Nat) : Int) from rfl] at *
  rw [hs]
  simp
end Go.Proofs.Ytbkgcppiipknpaa.Pure
