/- Tile and ParseTile in plain lists and numbers. -/
import Derived.Test.YtihfopblmjgfaaaPureRef
import Derived.Test.YtihfopblmjgfaaaQ24
import Derived.Test.YtihfopblmjgfaaaQ25
namespace Go.Proofs.Ytihfopblmjgfaaa.Pure
open Go.RowKit Go.Proofs.Ytihfopblmjgfaaa.Q Go.Proofs.YtihfopblmjgfaaaW.PrintWords
set_option linter.unusedVariables false

/-- What Tile returns. -/
def TileF (t p q s : Int) : Int × List Int × Int :=
  if (0 ≤ t ∧ t ≤ 65535) ∧ (0 ≤ p ∧ p ≤ 255) ∧ (0 ≤ q ∧ q ≤ 255) ∧ (0 ≤ s ∧ s ≤ 4294967295) then (65456, be t 2 ++ [p % 256, q % 256] ++ be s 4, 0) else (0, [], 2)
theorem inside_one (lo hi a : Int) : inside lo hi [a] = (decide (lo ≤ a) && decide (a ≤ hi)) := by simp [inside]
theorem inside_two (lo hi a b : Int) : inside lo hi [a, b] = ((decide (lo ≤ a) && decide (a ≤ hi)) && (decide (lo ≤ b) && decide (b ≤ hi))) := by simp [inside]
theorem tile_eq (t p q s : Int) (k : Nat) : headseg_Tile.f (k + 20) t p q s = some (TileF t p q s) := by
  have hw1 := within_eq 0 65535 [t] (by simp) (k + 18)
  have hw2 := within_eq 0 255 [p, q] (by simp) (k + 17)
  have hw3 := within_eq 0 4294967295 [s] (by simp) (k + 18)
  simp only [List.length_cons, List.length_nil] at hw1 hw2 hw3
  have hj : headseg_Tile.j0 (k + 20) t p q s true = some (0, [], 2) := by rw [show k + 20 = (k + 19) + 1 from rfl, headseg_Tile.j0, if_pos rfl]
  unfold headseg_Tile.f TileF
  rw [show k + 20 = k + 18 + (0 + 1) + 1 from rfl, hw1, show k + 18 + (0 + 1) + 1 = k + 17 + (0 + 1 + 1) + 1 from rfl, hw2, show k + 17 + (0 + 1 + 1) + 1 = k + 18 + (0 + 1) + 1 from rfl, hw3, show k + 18 + (0 + 1) + 1 = k + 20 from rfl]
  simp only [Option.bind_some, inside_one, inside_two, hj]
  by_cases h1 : 0 ≤ t ∧ t ≤ 65535
  rotate_left
  · rw [if_neg (by simp; omega), if_neg (fun h => h1 h.1)]
  rw [if_pos (by simp; omega)]
  by_cases h2 : (0 ≤ p ∧ p ≤ 255) ∧ (0 ≤ q ∧ q ≤ 255)
  rotate_left
  · rw [if_neg (by simp; omega), if_neg (fun h => h2 ⟨h.2.1, h.2.2.1⟩)]
  rw [if_pos (by simp; omega)]
  by_cases h3 : 0 ≤ s ∧ s ≤ 4294967295
  rotate_left
  · rw [show (!(decide (0 ≤ s) && decide (s ≤ 4294967295))) = true by simp; omega, hj, if_neg (fun h => h3 h.2.2.2)]
  rw [show (!(decide (0 ≤ s) && decide (s ≤ 4294967295))) = false by simp; omega, if_pos ⟨h1, h2.1, h2.2, h3⟩, show k + 20 = (k + 19) + 1 from rfl, headseg_Tile.j0, if_neg (by simp)]
  have hp1 := put_eq [] t 2 (by omega) (by simp) (k + 10)
  have hp2 := put_eq (be t 2 ++ [p % 256, q % 256]) s 4 (by omega) (by simp [be_length]) (k + 10)
  rw [show ((2 : Nat) : Int) = 2 from rfl] at hp1
  rw [show ((4 : Nat) : Int) = 4 from rfl] at hp2
  rw [hp1]
  simp only [Option.bind_some, List.nil_append]
  rw [if_pos (by simp [be_length]), hp2]
  rfl
theorem rtile_eq (t p q s : Int) (k : Nat) : waveletref29_Tile.f (k + 20) t p q s = some (TileF t p q s) := by
  have hj : waveletref29_Tile.j0 (k + 20) t p q s true = some (0, [], 2) := by rw [show k + 20 = (k + 19) + 1 from rfl, waveletref29_Tile.j0, if_pos rfl]
  unfold waveletref29_Tile.f TileF
  simp only [rin_eq, Option.bind_some, hj]
  by_cases h1 : 0 ≤ t ∧ t ≤ 65535
  rotate_left
  · rw [if_neg (by simp; omega), if_neg (fun h => h1 h.1)]
  rw [if_pos (by simp; omega)]
  by_cases h2 : 0 ≤ p ∧ p ≤ 255
  rotate_left
  · rw [if_neg (by simp; omega), if_neg (fun h => h2 h.2.1)]
  rw [if_pos (by simp; omega)]
  by_cases h4 : 0 ≤ q ∧ q ≤ 255
  rotate_left
  · rw [if_neg (by simp; omega), if_neg (fun h => h4 h.2.2.1)]
  rw [if_pos (by simp; omega)]
  by_cases h3 : 0 ≤ s ∧ s ≤ 4294967295
  rotate_left
  · rw [show (!(decide (0 ≤ s) && decide (s ≤ 4294967295))) = true by simp; omega, hj, if_neg (fun h => h3 h.2.2.2)]
  rw [show (!(decide (0 ≤ s) && decide (s ≤ 4294967295))) = false by simp; omega, if_pos ⟨h1, h2, h4, h3⟩, show k + 20 = (k + 19) + 1 from rfl, waveletref29_Tile.j0, if_neg (by simp)]
  have hp1 := rput_eq [] t 2 (by omega) (by simp) (k + 10)
  have hp2 := rput_eq (be t 2) p 1 (by omega) (by simp [be_length]) (k + 10)
  have hp3 := rput_eq (be t 2 ++ be p 1) q 1 (by omega) (by simp [be_length]) (k + 10)
  have hp4 := rput_eq (be t 2 ++ be p 1 ++ be q 1) s 4 (by omega) (by simp [be_length]) (k + 10)
  rw [show ((2 : Nat) : Int) = 2 from rfl] at hp1
  rw [show ((1 : Nat) : Int) = 1 from rfl] at hp2 hp3
  rw [show ((4 : Nat) : Int) = 4 from rfl] at hp4
  rw [hp1]
  simp only [Option.bind_some, List.nil_append]
  rw [hp2]
  simp only [Option.bind_some]
  rw [hp3]
  simp only [Option.bind_some]
  rw [hp4]
  simp [be]
theorem TileF_length (t p q s : Int) : (TileF t p q s).2.1.length ≤ 8 := by
  unfold TileF
  split
  · simp [be_length]
  · simp
/-- What ParseTile returns. -/
def PTile (c : Int) (l : List Int) : Int × Int × Int × Int × Int :=
  if c = 65456 then (if l.length < 8 then (0, 0, 0, 0, 7) else if 8 < l.length then (0, 0, 0, 0, 9) else (num (sub l 0 2), num (sub l 2 1), num (sub l 3 1), num (sub l 4 4), 0)) else (0, 0, 0, 0, 11)
theorem tileRead_eq (l : List Int) (hl : l.length ≤ 1000000) (k : Nat) : ∃ t, tileRead (k + 6) l = some t ∧ (if 8 ≤ l.length then t = (0, num (sub l 0 2), num (sub l 2 1), num (sub l 3 1), num (sub l 4 4)) else t.1 = 7) := by
  have h0 := ru_eq l 0 2 hl (by omega) k
  have h1 := ru_eq l 2 1 hl (by omega) k
  have h2 := ru_eq l 3 1 hl (by omega) k
  have h3 := ru_eq l 4 4 hl (by omega) k
  unfold tileRead
  rw [h0, h1, h2, h3]
  simp only [Option.bind_some]
  by_cases c0 : 2 ≤ l.length
  rotate_left
  · rw [show RU l 0 2 = (0, 7) from RU_out l 0 2 (by omega) (by omega) (by omega) (by omega), if_neg (by simp)]
    exact ⟨_, rfl, by rw [if_neg (by omega)]⟩
  rw [show RU l 0 2 = _ from RU_in l 0 2 (by omega) (by omega) (by omega), if_pos rfl]
  by_cases c1 : 3 ≤ l.length
  rotate_left
  · rw [show RU l 2 1 = (0, 7) from RU_out l 2 1 (by omega) (by omega) (by omega) (by omega), if_neg (by simp)]
    exact ⟨_, rfl, by rw [if_neg (by omega)]⟩
  rw [show RU l 2 1 = _ from RU_in l 2 1 (by omega) (by omega) (by omega), if_pos rfl]
  by_cases c2 : 4 ≤ l.length
  rotate_left
  · rw [show RU l 3 1 = (0, 7) from RU_out l 3 1 (by omega) (by omega) (by omega) (by omega), if_neg (by simp)]
    exact ⟨_, rfl, by rw [if_neg (by omega)]⟩
  rw [show RU l 3 1 = _ from RU_in l 3 1 (by omega) (by omega) (by omega), if_pos rfl]
  by_cases c3 : 8 ≤ l.length
  rotate_left
  · rw [show RU l 4 4 = (0, 7) from RU_out l 4 4 (by omega) (by omega) (by omega) (by omega), if_neg (by simp)]
    exact ⟨_, rfl, by rw [if_neg (by omega)]⟩
  rw [show RU l 4 4 = _ from RU_in l 4 4 (by omega) (by omega) (by omega), if_pos rfl]
  exact ⟨_, rfl, by rw [if_pos c3]⟩
theorem ptile_eq (c : Int) (l : List Int) (hl : l.length ≤ 1000000) (k : Nat) : headseg_ParseTile.f (k + 6) c l = some (PTile c l) := by
  obtain ⟨t, ht, h⟩ := tileRead_eq l hl k
  unfold headseg_ParseTile.f PTile
  rw [ht]
  simp only [Option.bind_some, Option.some.injEq]
  by_cases hc : c = 65456
  · rw [if_pos hc, if_pos hc]
    by_cases h8 : 8 ≤ l.length
    · rw [if_pos h8] at h
      subst h
      rw [if_pos rfl, if_neg (show ¬ l.length < 8 by omega)]
      by_cases h9 : 8 < l.length
      · rw [if_pos (by omega), if_pos h9]
      · rw [if_neg (by omega), if_neg h9]
    · rw [if_neg h8] at h
      rw [if_neg (by omega), if_pos (by omega), h]
  · rw [if_neg hc, if_neg hc]
theorem rptile_eq (c : Int) (l : List Int) (hb : ∀ x ∈ l, (Lit.int .u8 x).wf = true) (hl : l.length ≤ 1000000) (k : Nat) : waveletref29_ParseTile.f (k + 6) c l = some (PTile c l) := by
  unfold waveletref29_ParseTile.f PTile
  rw [framed_eq]
  simp only [Option.bind_some]
  by_cases hc : c = 65456
  · rw [if_pos hc, if_pos hc]
    by_cases h8 : l.length < 8
    · rw [if_pos (show (l.length : Int) < 8 by omega), if_pos h8, if_neg (by omega)]
    · rw [if_neg (show ¬ (l.length : Int) < 8 by omega), if_neg h8]
      by_cases h9 : 8 < l.length
      · rw [if_pos (show (l.length : Int) > 8 by omega), if_pos h9, if_neg (by omega)]
      · rw [if_neg (show ¬ (l.length : Int) > 8 by omega), if_neg h9, if_pos rfl]
        have g0 := get_eq hb hl 0 2 (by omega) (by omega) k
        have g1 := get_eq hb hl 2 1 (by omega) (by omega) k
        have g2 := get_eq hb hl 3 1 (by omega) (by omega) k
        have g3 := get_eq hb hl 4 4 (by omega) (by omega) k
        rw [show ((0 : Nat) : Int) = 0 from rfl, show ((2 : Nat) : Int) = 2 from rfl] at g0
        rw [show ((2 : Nat) : Int) = 2 from rfl, show ((1 : Nat) : Int) = 1 from rfl] at g1
        rw [show ((3 : Nat) : Int) = 3 from rfl, show ((1 : Nat) : Int) = 1 from rfl] at g2
        rw [show ((4 : Nat) : Int) = 4 from rfl] at g3
        rw [g0, g1, g2, g3]
        rfl
  · rw [if_neg hc, if_neg hc, if_neg (by omega)]
end Go.Proofs.Ytihfopblmjgfaaa.Pure
