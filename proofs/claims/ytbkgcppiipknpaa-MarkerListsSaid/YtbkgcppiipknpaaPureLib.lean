/- What the functions of chapter 28 compute, in plain lists and numbers: used by the pure laws of this chapter. -/
import Derived.Test.YtbkgcppiipknpaaQ12
import Derived.Laws.BitsLemmas
namespace Go.Proofs.Ytbkgcppiipknpaa.Pure
open Go.RowKit Go.Proofs.Ytbkgcppiipknpaa.Q Go.Proofs.YtbkgcppiipknpaaW.PrintWords
set_option linter.unusedVariables false

theorem example_holds : ∃ k, waveletlaw28_exampleHolds.f k = some true := ⟨100, by kernel_rfl⟩
theorem wf_bd {a : Int} (h : (Lit.int .i64 a).wf = true) : -9223372036854775808 ≤ a ∧ a ≤ 9223372036854775807 := by
  simp [Lit.wf, IntKind.min, IntKind.max, IntKind.signed, IntKind.bits] at h
  omega
theorem wf_u8 {a : Int} (h : (Lit.int .u8 a).wf = true) : 0 ≤ a ∧ a ≤ 255 := by
  simp [Lit.wf, IntKind.min, IntKind.max, IntKind.signed, IntKind.bits] at h
  omega

def Kn (c : Int) : Prop := (65440 ≤ c ∧ c ≤ 65445) ∨ (65455 ≤ c ∧ c ≤ 65458)
instance (c : Int) : Decidable (Kn c) := inferInstanceAs (Decidable ((65440 ≤ c ∧ c ≤ 65445) ∨ (65455 ≤ c ∧ c ≤ 65458)))
def Ba (c : Int) : Prop := c = 65440 ∨ c = 65458 ∨ c = 65455
instance (c : Int) : Decidable (Ba c) := inferInstanceAs (Decidable (c = 65440 ∨ c = 65458 ∨ c = 65455))
theorem known_eq (c : Int) : marker_Known.f c = some (decide (Kn c)) := by
  unfold marker_Known.f
  repeat' split
  all_goals (congr 1; first | (symm; rw [decide_eq_true_iff]; unfold Kn; omega) | (symm; rw [decide_eq_false_iff_not]; unfold Kn; omega))
theorem bare_eq (c : Int) : marker_Bare.f c = some (decide (Ba c)) := by
  unfold marker_Bare.f
  repeat' split
  · congr 1; symm; rw [decide_eq_true_iff]; unfold Ba; omega
  · congr 1; symm; rw [decide_eq_true_iff]; unfold Ba; omega
  · congr 1
    rw [Bool.eq_iff_iff, beq_iff_eq, decide_eq_true_iff]
    unfold Ba; omega
theorem extend_eq (l : List Int) (n : Int) (hl : l.length ≤ 1000000) (h0 : 0 ≤ n) (hn : n ≤ 1000000) : marker_extend.f l n = some l := by
  unfold marker_extend.f
  rw [show wrap64 ((l.length : Int) + n) = (l.length : Int) + n by unfold wrap64; omega, if_pos (by omega), if_pos (by omega)]
  simp only [List.replicate_zero, Option.bind_some, List.length_nil, List.nil_append]
  rw [if_pos (by omega)]

/-- The two bytes of a number. -/
def two (n : Int) : List Int := [(n / 256) % 256, n % 256]
/-- What Append returns. -/
def App (b : List Int) (c : Int) (p : List Int) : List Int × Int :=
  if ¬ Kn c then ([], 11) else if Ba c ∧ 0 < p.length then ([], 4) else if 65533 < p.length then ([], 5) else
  if Ba c then (b ++ two c, 0) else (b ++ two c ++ two (p.length + 2) ++ p, 0)
theorem append_eq (b : List Int) (c : Int) (p : List Int) (hb : b.length ≤ 100000) (hp : p.length ≤ 100000) (k : Nat) : marker_Append.f (k + 1) b c p = some (App b c p) := by
  unfold marker_Append.f
  rw [known_eq, bare_eq]
  simp only [Option.bind_some, decide_eq_true_eq]
  by_cases hk : Kn c
  · rw [if_pos hk]
    by_cases hz : Ba c
    · rw [if_pos hz]
      by_cases hn : 0 < p.length
      · rw [show decide ((p.length : Int) > 0) = true from decide_eq_true (by omega), App, if_neg (fun h => h hk), if_pos ⟨hz, hn⟩]
        simp [marker_Append.j0]
      · rw [show decide ((p.length : Int) > 0) = false from decide_eq_false (by omega), App, if_neg (fun h => h hk), if_neg (fun h => hn h.2), if_neg (by omega), if_pos hz]
        simp only [marker_Append.j0]
        rw [if_neg (by simp), if_neg (by omega), extend_eq b _ (by omega) (by unfold wrap64; omega) (by unfold wrap64; omega), bare_eq, decide_eq_true hz]
        simp only [Option.bind_some]
        rw [if_pos (by simp; omega)]
        simp [two]
    · rw [if_neg hz]
      have hA : App b c p = if 65533 < p.length then ([], 5) else (b ++ two c ++ two (p.length + 2) ++ p, 0) := by
        rw [App, if_neg (fun h => h hk), if_neg (fun h => hz h.1), if_neg hz]
      rw [hA]
      simp only [marker_Append.j0]
      rw [if_neg (by simp)]
      by_cases hn : 65533 < p.length
      · rw [if_pos (by omega), if_pos hn]
      · rw [if_neg (by omega), if_neg hn, extend_eq b _ (by omega) (by unfold wrap64; omega) (by unfold wrap64; omega), bare_eq, decide_eq_false hz]
        simp only [Option.bind_some]
        rw [show wrap64 ((p.length : Int) + 2) = (p.length : Int) + 2 by unfold wrap64; omega]
        rw [if_pos (by simp; omega), if_neg (by simp), if_pos (by simp; omega), if_pos (by simp; omega)]
        rfl
  · rw [if_neg hk, App, if_pos hk]

/-- One byte more. -/
def step (v x : Int) : Int := Go.bits .or .i64 (wrap64 (v * 256)) (wrap64 x)
theorem step_eq {v x : Int} (h0 : 0 ≤ v) (h1 : v < 16777216) (h2 : 0 ≤ x) (h3 : x ≤ 255) : step v x = v * 256 + x := by
  unfold step
  rw [show wrap64 (v * 256) = v * 256 by unfold wrap64; omega, show wrap64 x = x by unfold wrap64; omega]
  exact bits_join .i64 40 (by decide) (fun n a b => by rw [IntKind.wrap_i64]; omega) 8 _ _ (by omega) (by omega) (by omega) h2 (by omega) (by omega)
/-- The number of some bytes. -/
def num (l : List Int) : Int := l.foldl step 0
/-- What ReadUint returns. -/
def RU (l : List Int) (at_ n : Int) : Int × Int :=
  if n < 1 ∨ 4 < n ∨ at_ < 0 ∨ (l.length : Int) < at_ then (0, 2) else if (l.length : Int) - at_ < n then (0, 7) else (num ((l.take (at_ + n).toNat).drop at_.toNat), 0)
theorem ru_loop (m : List Int) (hm : m.length ≤ 4) (d : Nat) : ∀ (k j : Nat) (v : Int), j + d = m.length → marker_ReadUint.l0 (k + d + 1) v m (m.length : Int) (j : Int) = some ((m.drop j).foldl step v, 0) := by
  induction d with
  | zero =>
    intro k j v hj
    rw [show k + 0 + 1 = k + 1 from rfl, marker_ReadUint.l0, if_neg (by omega), List.drop_eq_nil_of_le (by omega)]
    rfl
  | succ d ih =>
    intro k j v hj
    have hlt : j < m.length := by omega
    rw [show k + (d + 1) + 1 = (k + d + 1) + 1 by omega, marker_ReadUint.l0, if_pos (by omega), if_pos (by omega), if_pos (by omega), List.drop_eq_getElem_cons hlt]
    rw [show wrap64 ((j : Int) + 1) = ((j + 1 : Nat) : Int) by unfold wrap64; omega, ih k (j + 1) _ (by omega)]
    unfold rd
    rw [Int.toNat_natCast, List.getD_eq_getElem?_getD, List.getElem?_eq_getElem hlt]
    rfl
theorem ru_eq (l : List Int) (at_ n : Int) (hl : l.length ≤ 1000000) (hat : at_ ≤ 9223372036854775807) (k : Nat) : marker_ReadUint.f (k + 6) l at_ n = some (RU l at_ n) := by
  have hj : marker_ReadUint.j0 (k + 6) l at_ n true = some (0, 2) := by rw [show k + 6 = (k + 5) + 1 from rfl, marker_ReadUint.j0, if_pos rfl]
  unfold marker_ReadUint.f RU
  by_cases h1 : n < 1
  · rw [if_pos h1, if_pos (.inl h1), hj]
  rw [if_neg h1]
  by_cases h2 : n > 4
  · rw [if_pos h2, if_pos (.inr (.inl h2)), hj]
  rw [if_neg h2]
  by_cases h3 : at_ < 0
  · rw [if_pos h3, if_pos (.inr (.inr (.inl h3))), hj]
  rw [if_neg h3]
  by_cases h4 : (l.length : Int) < at_
  · rw [show decide (at_ > (l.length : Int)) = true from decide_eq_true h4, if_pos (.inr (.inr (.inr h4))), hj]
  rw [show decide (at_ > (l.length : Int)) = false from decide_eq_false h4, if_neg (by omega), show k + 6 = (k + 5) + 1 from rfl, marker_ReadUint.j0, if_neg (by simp)]
  rw [show wrap64 ((l.length : Int) - at_) = (l.length : Int) - at_ by unfold wrap64; omega, show wrap64 (at_ + n) = at_ + n by unfold wrap64; omega]
  by_cases h5 : (l.length : Int) - at_ < n
  · rw [if_pos h5, if_pos h5]
  rw [if_neg h5, if_neg h5, if_pos (by omega), if_pos (by omega), if_pos (by omega)]
  have hm : ((l.take (at_ + n).toNat).drop at_.toNat).length = n.toNat := by rw [List.length_drop, List.length_take]; omega
  have := ru_loop ((l.take (at_ + n).toNat).drop at_.toNat) (by omega) n.toNat (k + (4 - n.toNat)) 0 0 (by omega)
  rw [show k + (4 - n.toNat) + n.toNat + 1 = k + 5 by omega] at this
  rw [show (0 : Int) = ((0 : Nat) : Int) from rfl] at *
  rw [this]
  rfl
end Go.Proofs.Ytbkgcppiipknpaa.Pure
