/- What Read and All compute: the segment at an offset, and the segments up to the next Tile, Data or End. -/
import Derived.Test.YtbkgcppiipknpaaPureLib
namespace Go.Proofs.Ytbkgcppiipknpaa.Pure
open Go.RowKit Go.Proofs.Ytbkgcppiipknpaa.Q Go.Proofs.YtbkgcppiipknpaaW.PrintWords
set_option linter.unusedVariables false

def Bytes (l : List Int) : Prop := ∀ x ∈ l, 0 ≤ x ∧ x ≤ 255
theorem num_two (x y : Int) (hx : 0 ≤ x ∧ x ≤ 255) (hy : 0 ≤ y ∧ y ≤ 255) : num [x, y] = x * 256 + y := by
  show step (step 0 x) y = _
  rw [step_eq (by omega) (by omega) hx.1 hx.2, step_eq (by omega) (by omega) hy.1 hy.2]
  omega
theorem ru_two (l : List Int) (hb : Bytes l) (a : Int) (he : (RU l a 2).2 = 0) :
    0 ≤ a ∧ a + 2 ≤ l.length ∧ ∃ (x y : Int), (l.take (a + 2).toNat).drop a.toNat = [x, y] ∧ (0 ≤ x ∧ x ≤ 255) ∧ (0 ≤ y ∧ y ≤ 255) ∧ (RU l a 2).1 = x * 256 + y := by
  unfold RU at he ⊢
  by_cases h1 : (2 : Int) < 1 ∨ 4 < (2 : Int) ∨ a < 0 ∨ (l.length : Int) < a
  · rw [if_pos h1] at he; simp at he
  rw [if_neg h1] at he ⊢
  by_cases h2 : (l.length : Int) - a < 2
  · rw [if_pos h2] at he; simp at he
  rw [if_neg h2]
  refine ⟨by omega, by omega, ?_⟩
  have hm : ((l.take (a + 2).toNat).drop a.toNat).length = 2 := by rw [List.length_drop, List.length_take]; omega
  have hB : ∀ z ∈ (l.take (a + 2).toNat).drop a.toNat, 0 ≤ z ∧ z ≤ 255 := fun z hz => hb z (List.mem_of_mem_take (List.mem_of_mem_drop hz))
  match hq : (l.take (a + 2).toNat).drop a.toNat, hm with
  | [x, y], _ =>
    rw [hq] at hB
    have hx := hB x (by simp)
    have hy := hB y (by simp)
    exact ⟨x, y, rfl, hx, hy, num_two x y hx hy⟩

/-- What Read returns. -/
def RD (l : List Int) (a : Int) : Int × List Int × Int × Int :=
  if (RU l a 2).2 = 0 then
    if Kn (RU l a 2).1 then
      if Ba (RU l a 2).1 then ((RU l a 2).1, [], a + 2, 0)
      else if (RU l (a + 2) 2).2 = 0 then
        if (RU l (a + 2) 2).1 < 2 then (0, [], 0, 4)
        else if (l.length : Int) < a + 2 + (RU l (a + 2) 2).1 then (0, [], 0, 7)
        else ((RU l a 2).1, (l.take (a + 2 + (RU l (a + 2) 2).1).toNat).drop (a + 4).toNat, a + 2 + (RU l (a + 2) 2).1, 0)
      else (0, [], 0, (RU l (a + 2) 2).2)
    else (0, [], 0, 11)
  else (0, [], 0, (RU l a 2).2)
theorem read_eq (l : List Int) (hb : Bytes l) (a : Int) (hl : l.length ≤ 1000000) (ha : a ≤ 9223372036854775807) (k : Nat) : marker_Read.f (k + 6) l a = some (RD l a) := by
  unfold marker_Read.f RD
  rw [ru_eq l a 2 hl ha]
  simp only [Option.bind_some]
  by_cases h1 : (RU l a 2).2 = 0
  · obtain ⟨a0, a1, _⟩ := ru_two l hb a h1
    rw [if_pos h1, if_pos h1, known_eq]
    simp only [Option.bind_some, decide_eq_true_eq]
    by_cases h2 : Kn (RU l a 2).1
    · rw [if_pos h2, if_pos h2, bare_eq]
      simp only [Option.bind_some, decide_eq_true_eq]
      have hw : wrap64 (a + 2) = a + 2 := by unfold wrap64; omega
      by_cases h3 : Ba (RU l a 2).1
      · rw [if_pos h3, if_pos h3, hw]
      · rw [if_neg h3, if_neg h3, hw, ru_eq l (a + 2) 2 hl (by omega)]
        simp only [Option.bind_some]
        by_cases h4 : (RU l (a + 2) 2).2 = 0
        · obtain ⟨_, b1, x, y, _, hx, hy, hv⟩ := ru_two l hb (a + 2) h4
          rw [if_pos h4, if_pos h4]
          by_cases h5 : (RU l (a + 2) 2).1 < 2
          · rw [if_pos h5, if_pos h5]
          · rw [if_neg h5, if_neg h5, show wrap64 (a + 2 + (RU l (a + 2) 2).1) = a + 2 + (RU l (a + 2) 2).1 by unfold wrap64; omega, show wrap64 (a + 2 + 2) = a + 4 by unfold wrap64; omega]
            by_cases h6 : (l.length : Int) < a + 2 + (RU l (a + 2) 2).1
            · rw [if_pos h6, if_pos h6]
            · rw [if_neg h6, if_neg h6, if_pos (by omega), if_pos (by omega), if_pos (by omega)]
              simp only [List.length_nil, List.nil_append]
              rw [if_pos (by rw [List.length_drop, List.length_take]; omega)]
        · rw [if_neg h4, if_neg h4]
    · rw [if_neg h2, if_neg h2]
  · rw [if_neg h1, if_neg h1]
theorem rd_ok (l : List Int) (hb : Bytes l) (a : Int) (h : (RD l a).2.2.2 = 0) : 0 ≤ a ∧ a + 2 ≤ (RD l a).2.2.1 ∧ (RD l a).2.2.1 ≤ l.length := by
  unfold RD at h ⊢
  by_cases h1 : (RU l a 2).2 = 0
  · obtain ⟨a0, a1, _⟩ := ru_two l hb a h1
    rw [if_pos h1] at h ⊢
    by_cases h2 : Kn (RU l a 2).1
    · rw [if_pos h2] at h ⊢
      by_cases h3 : Ba (RU l a 2).1
      · rw [if_pos h3]
        show 0 ≤ a ∧ a + 2 ≤ a + 2 ∧ a + 2 ≤ (l.length : Int)
        omega
      · rw [if_neg h3] at h ⊢
        by_cases h4 : (RU l (a + 2) 2).2 = 0
        · rw [if_pos h4] at h ⊢
          by_cases h5 : (RU l (a + 2) 2).1 < 2
          · rw [if_pos h5] at h; simp at h
          · rw [if_neg h5] at h ⊢
            by_cases h6 : (l.length : Int) < a + 2 + (RU l (a + 2) 2).1
            · rw [if_pos h6] at h; simp at h
            · rw [if_neg h6]
              show 0 ≤ a ∧ a + 2 ≤ a + 2 + (RU l (a + 2) 2).1 ∧ a + 2 + (RU l (a + 2) 2).1 ≤ (l.length : Int)
              omega
        · rw [if_neg h4] at h
          exact absurd h h4
    · rw [if_neg h2] at h; simp at h
  · rw [if_neg h1] at h
    exact absurd h h1

/-- Does All stop here. -/
def St (l : List Int) (a : Int) : Bool := decide ((RU l a 2).2 = 0 ∧ ((RU l a 2).1 = 65456 ∨ (RU l a 2).1 = 65458 ∨ (RU l a 2).1 = 65455))
theorem stops_eq (l : List Int) (a : Int) (hl : l.length ≤ 1000000) (ha : a ≤ 9223372036854775807) (k : Nat) : marker_stops.f (k + 6) l a = some (St l a) := by
  unfold marker_stops.f St
  rw [ru_eq l a 2 hl ha]
  simp only [Option.bind_some]
  repeat' split
  · congr 1; symm; rw [decide_eq_true_iff]; omega
  · congr 1; symm; rw [decide_eq_true_iff]; omega
  · congr 1; rw [Bool.eq_iff_iff, beq_iff_eq, decide_eq_true_iff]; omega
  · congr 1; symm; rw [decide_eq_false_iff_not]; omega
/-- What All returns, d rounds long. -/
def AL (l : List Int) : Nat → Int → List S26 → List S26 × Int × Int
  | 0, _, _ => ([], 0, 0)
  | d + 1, a, acc => if St l a = true then (acc, a, 0) else if (RD l a).2.2.2 = 0 then AL l d (RD l a).2.2.1 (acc ++ [⟨(RD l a).1, (RD l a).2.1⟩]) else ([], 0, (RD l a).2.2.2)
theorem all_eq (l : List Int) (hb : Bytes l) (hl : l.length ≤ 1000000) (d : Nat) : ∀ (k : Nat) (a : Int) (acc : List S26), a ≤ 9223372036854775807 → (a < 0 ∨ (l.length : Int) - a ≤ d) → acc.length + d ≤ 4000000 →
    marker_All.l0 (k + 7 + d) l a acc = some (AL l (d + 1) a acc) := by
  induction d with
  | zero =>
    intro k a acc ha hd hc
    have hne : (RD l a).2.2.2 ≠ 0 := fun h => by have := rd_ok l hb a h; omega
    rw [show k + 7 + 0 = (k + 6) + 1 from rfl, marker_All.l0, read_eq l hb a hl ha, AL]
    simp only [Option.bind_some]
    rw [stops_eq l a hl ha]
    simp only [Option.bind_some]
    split
    · rfl
    · rfl
  | succ d ih =>
    intro k a acc ha hd hc
    rw [show k + 7 + (d + 1) = (k + d + 1 + 6) + 1 by omega, marker_All.l0, read_eq l hb a hl ha, AL]
    simp only [Option.bind_some]
    rw [stops_eq l a hl ha]
    simp only [Option.bind_some]
    split
    · rfl
    · by_cases h : (RD l a).2.2.2 = 0
      · have := rd_ok l hb a h
        rw [if_pos h, if_pos h, if_pos (by omega), show k + d + 1 + 6 = k + 7 + d by omega]
        exact ih k _ _ (by omega) (by omega) (by simp; omega)
      · simp only [if_neg h]
theorem al_length (l : List Int) (d : Nat) : ∀ (a : Int) (acc : List S26), (AL l d a acc).1.length ≤ acc.length + d := by
  induction d with
  | zero => intro a acc; simp [AL]
  | succ d ih =>
    intro a acc
    rw [AL]
    split
    · simp only; omega
    · split
      · have := ih (RD l a).2.2.1 (acc ++ [⟨(RD l a).1, (RD l a).2.1⟩])
        simp at this
        omega
      · simp
end Go.Proofs.Ytbkgcppiipknpaa.Pure
