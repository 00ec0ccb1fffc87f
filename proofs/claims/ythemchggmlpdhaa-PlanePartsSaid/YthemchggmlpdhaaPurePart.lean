/- What part, Crop and Paste return, by the point. -/
import Derived.Test.YthemchggmlpdhaaPureSem
namespace Go.Proofs.Ythemchggmlpdhaa.Pure
open Go Go.RowKit Go.Proofs.Ythemchggmlpdhaa.Q Go.Proofs.YthemchggmlpdhaaW.PrintWords
set_option linter.unusedVariables false
/-- The list of a rectangle's points, row by row. -/
def tabT (p q u v : Int) (F : Int → Int → Int) : List Int := (List.range ((u - p) * (v - q)).toNat).map (fun i : Nat => F (p + (i : Int) % (u - p)) (q + (i : Int) / (u - p)))
theorem row_step {W m n : Int} (h : m < n) (hW : 0 ≤ W) : m * W + W ≤ n * W := by
  have h := Int.mul_le_mul_of_nonneg_right (show m + 1 ≤ n by omega) hW
  rw [Int.add_mul, Int.one_mul] at h
  exact h
theorem dm {W m r : Int} (h0 : 0 ≤ r) (h1 : r < W) : (m * W + r) / W = m ∧ (m * W + r) % W = r := by
  have hW : W ≠ 0 := by omega
  constructor
  · rw [Int.add_comm, Int.add_mul_ediv_right _ _ hW, Int.ediv_eq_zero_of_lt h0 h1, Int.zero_add]
  · rw [Int.add_comm, Int.add_mul_emod_self_right, Int.emod_eq_of_lt h0 h1]
theorem place {W H i : Int} (hW : 0 ≤ W) (h0 : 0 ≤ i) (h1 : i < W * H) : 0 < W ∧ 0 ≤ i % W ∧ i % W < W ∧ 0 ≤ i / W ∧ i / W < H ∧ i / W * W + i % W = i := by
  have hW2 : 0 < W := by
    rcases Int.lt_or_eq_of_le hW with h | h
    · exact h
    · rw [← h, Int.zero_mul] at h1
      omega
  refine ⟨hW2, Int.emod_nonneg _ (by omega), Int.emod_lt_of_pos _ hW2, Int.ediv_nonneg h0 hW, Int.ediv_lt_of_lt_mul hW2 (by rw [Int.mul_comm]; exact h1), ?_⟩
  rw [Int.mul_comm]
  exact Int.mul_ediv_add_emod i W
theorem tab_of_G (p q u v : Int) (F : Int → Int → Int) (t : List Int) (hW : p ≤ u) (hl : (t.length : Int) = (u - p) * (v - q)) (h : ∀ x y, p ≤ x ∧ x < u → q ≤ y ∧ y < v → G p q u t x y = F x y) : t = tabT p q u v F := by
  apply List.ext_getElem?
  intro i
  unfold tabT
  rw [List.getElem?_map]
  by_cases hi : i < t.length
  · have hp := @place (u - p) (v - q) (i : Int) (by omega) (by omega) (by omega)
    rw [List.getElem?_range (by omega), Option.map_some, ← h _ _ (by omega) (by omega)]
    unfold G ix
    have e : (q + (i : Int) / (u - p) - q) * (u - p) + (p + (i : Int) % (u - p) - p) = (i : Int) := by
      rw [show q + (i : Int) / (u - p) - q = (i : Int) / (u - p) by omega]
      omega
    rw [e]
    unfold rd
    rw [Int.toNat_natCast, List.getD_eq_getElem?_getD, List.getElem?_eq_getElem hi]
    rfl
  · rw [List.getElem?_eq_none (by omega), List.getElem?_eq_none (by rw [List.length_range]; omega)]
    rfl
theorem tab_len (p q u v : Int) (F : Int → Int → Int) (hW : p ≤ u) (hH : q ≤ v) : ((tabT p q u v F).length : Int) = (u - p) * (v - q) := by
  unfold tabT
  rw [List.length_map, List.length_range]
  exact Int.toNat_of_nonneg (Int.mul_nonneg (by omega) (by omega))
theorem tab_at (p q u v : Int) (F : Int → Int → Int) {x y : Int} (hx : p ≤ x ∧ x < u) (hy : q ≤ y ∧ y < v) : G p q u (tabT p q u v F) x y = F x y := by
  have h2 := @row_bd (u - p) (v - q) (y - q) (by omega) (by omega) (by omega)
  obtain ⟨d1, d2⟩ := @dm (u - p) (y - q) (x - p) (by omega) (by omega)
  unfold G tabT rd
  have e : ((ix p q u x y).toNat : Int) = (y - q) * (u - p) + (x - p) := by unfold ix; omega
  rw [List.getD_eq_getElem?_getD, List.getElem?_map, List.getElem?_range (by omega), Option.map_some, Option.getD_some, e, d1, d2]
  congr 1 <;> omega
theorem rd_splice (t cs : List Int) (off : Nat) (i : Int) (h0 : 0 ≤ i) (hf : off + cs.length ≤ t.length) : rd (splice t off cs) i = if (off : Int) ≤ i ∧ i < (off : Int) + (cs.length : Int) then rd cs (i - (off : Int)) else rd t i := by
  obtain ⟨j, rfl⟩ := Int.eq_ofNat_of_zero_le h0
  unfold rd splice
  simp only [List.getD_eq_getElem?_getD, Int.toNat_natCast]
  have ho : (t.take off).length = off := by rw [List.length_take]; omega
  by_cases h1 : j < off
  · rw [if_neg (by omega), List.getElem?_append_left (by omega), List.getElem?_take_of_lt h1]
  · rw [List.getElem?_append_right (by omega), ho]
    by_cases h2 : j < off + cs.length
    · rw [if_pos (by omega), List.getElem?_append_left (by omega)]
      congr 2
      omega
    · rw [if_neg (by omega), List.getElem?_append_right (by omega), List.getElem?_drop]
      congr 2
      omega
/-- A rectangle in another. -/
def In (p q u v a b c d : Int) : Prop := a ≤ p ∧ p ≤ u ∧ u ≤ c ∧ b ≤ q ∧ q ≤ v ∧ v ≤ d
theorem part_l0 (A B C D a b c d : Int) (l : List Int) (h : VP a b c d l) (p q u v : Int) (h1 : In p q u v a b c d) (h2 : In p q u v A B C D) (hA : 0 ≤ A ∧ C ≤ 4096 ∧ 0 ≤ B ∧ D ≤ 4096) : ∀ (m : Nat) (Y : Int), v - Y = (m : Int) → q ≤ Y → ∀ t : List Int, (t.length : Int) = (C - A) * (D - B) →
    ∃ t', Ev (fun k => plane_part.l0 k Y A B C D t a b c d l p q u v) t' ∧ t'.length = t.length ∧ ∀ x y, A ≤ x ∧ x < C → B ≤ y ∧ y < D → G A B C t' x y = if p ≤ x ∧ x < u ∧ Y ≤ y ∧ y < v then G a b c l x y else G A B C t x y := by
  have hv := vp_len h
  unfold In at h1 h2
  intro m
  induction m with
  | zero =>
    intro Y hY hq t ht
    refine ⟨t, Ev.step (g' := fun _ => some t) (fun k => by rw [plane_part.l0, if_neg (by omega)]) (Ev.const _), rfl, fun x y hx hy => ?_⟩
    rw [if_neg (by omega)]
  | succ m ih =>
    intro Y hY hq t ht
    have b1 := @row_bd (C - A) (D - B) (Y - B) (by omega) (by omega) (by omega)
    have b2 := @row_bd (c - a) (d - b) (Y - b) (by omega) (by omega) (by omega)
    have b3 := @mul_bd (Y - B) (C - A) 4096 4096 (by omega) (by omega) (by omega) (by omega)
    have b4 := @mul_bd (Y - b) (c - a) 4096 4096 (by omega) (by omega) (by omega) (by omega)
    have w1 : wrap64 ((wrap64 ((wrap64 ((wrap64 (Y - b)) * (wrap64 (c - a)))) + p)) - a) = (Y - b) * (c - a) + (p - a) := by
      rw [show wrap64 (Y - b) = Y - b by unfold wrap64; omega, show wrap64 (c - a) = c - a by unfold wrap64; omega]
      generalize (Y - b) * (c - a) = P at b4 ⊢
      unfold wrap64
      omega
    have w2 : wrap64 ((wrap64 ((wrap64 ((wrap64 (Y - B)) * (wrap64 (C - A)))) + p)) - A) = (Y - B) * (C - A) + (p - A) := by
      rw [show wrap64 (Y - B) = Y - B by unfold wrap64; omega, show wrap64 (C - A) = C - A by unfold wrap64; omega]
      generalize (Y - B) * (C - A) = P at b3 ⊢
      unfold wrap64
      omega
    have w3 : wrap64 ((wrap64 ((Y - b) * (c - a) + (p - a) + u)) - p) = (Y - b) * (c - a) + (u - a) := by
      generalize (Y - b) * (c - a) = P at b4 ⊢
      unfold wrap64
      omega
    have w4 : wrap64 ((wrap64 ((Y - B) * (C - A) + (p - A) + u)) - p) = (Y - B) * (C - A) + (u - A) := by
      generalize (Y - B) * (C - A) = P at b3 ⊢
      unfold wrap64
      omega
    have w5 : wrap64 (Y + 1) = Y + 1 := by unfold wrap64; omega
    obtain ⟨cs, hcs⟩ : ∃ cs, cs = List.take (((Y - B) * (C - A) + (u - A)).toNat - ((Y - B) * (C - A) + (p - A)).toNat) (List.drop ((Y - b) * (c - a) + (p - a)).toNat (List.take ((Y - b) * (c - a) + (u - a)).toNat l)) := ⟨_, rfl⟩
    have hcl : cs.length = (u - p).toNat := by
      rw [hcs, List.length_take, List.length_drop, List.length_take]
      omega
    have hcr : ∀ j : Int, 0 ≤ j → j < u - p → rd cs j = rd l ((Y - b) * (c - a) + (p - a) + j) := by
      intro j j0 j1
      unfold rd
      rw [hcs, List.getD_eq_getElem?_getD, List.getD_eq_getElem?_getD, List.getElem?_take_of_lt (by omega), List.getElem?_drop, List.getElem?_take_of_lt (by omega)]
      congr 2
      omega
    obtain ⟨t1, ht1⟩ : ∃ t1, t1 = splice t ((Y - B) * (C - A) + (p - A)).toNat cs := ⟨_, rfl⟩
    have hl1 : t1.length = t.length := by rw [ht1]; exact length_splice _ _ _ (by omega)
    obtain ⟨t', ev, hl', hG⟩ := ih (Y + 1) (by omega) (by omega) t1 (by rw [hl1]; exact ht)
    refine ⟨t', ?_, hl'.trans hl1, fun x y hx hy => ?_⟩
    · refine Ev.step (fun k => ?_) ev
      rw [plane_part.l0, if_pos (by omega)]
      simp only [plane_width.f, Option.bind_some]
      rw [w1, w2, w3, w4, w5, if_pos (by omega), if_pos (by omega), if_pos (by omega), if_pos (by omega), ← hcs, ← ht1]
    · rw [hG x y hx hy]
      have e1 : G A B C t1 x y = if p ≤ x ∧ x < u ∧ y = Y then G a b c l x y else G A B C t x y := by
        unfold G
        have bx := @row_bd (C - A) (D - B) (y - B) (by omega) (by omega) (by omega)
        have i0 : 0 ≤ ix A B C x y := by unfold ix; omega
        rw [ht1, rd_splice _ _ _ _ i0 (by omega)]
        have key : (((((Y - B) * (C - A) + (p - A)).toNat : Nat) : Int) ≤ ix A B C x y ∧ ix A B C x y < ((((Y - B) * (C - A) + (p - A)).toNat : Nat) : Int) + (cs.length : Int)) ↔ (p ≤ x ∧ x < u ∧ y = Y) := by
          have ho : (((((Y - B) * (C - A) + (p - A)).toNat : Nat) : Int)) = (Y - B) * (C - A) + (p - A) := by omega
          rw [ho, hcl]
          unfold ix
          rcases Int.lt_trichotomy y Y with hy2 | hy2 | hy2
          · have := @row_step (C - A) (y - B) (Y - B) (by omega) (by omega)
            omega
          · rw [hy2]
            omega
          · have := @row_step (C - A) (Y - B) (y - B) (by omega) (by omega)
            omega
        by_cases hk : p ≤ x ∧ x < u ∧ y = Y
        · rw [if_pos (key.2 hk), if_pos hk]
          have ho : (((((Y - B) * (C - A) + (p - A)).toNat : Nat) : Int)) = (Y - B) * (C - A) + (p - A) := by omega
          obtain ⟨k1, k2, rfl⟩ := hk
          rw [ho]
          have e2 : ix A B C x y - ((y - B) * (C - A) + (p - A)) = x - p := by unfold ix; omega
          rw [e2, hcr _ (by omega) (by omega)]
          congr 1
          unfold ix
          omega
        · rw [if_neg (fun e => hk (key.1 e)), if_neg hk]
      rw [e1]
      by_cases k1 : p ≤ x ∧ x < u ∧ Y + 1 ≤ y ∧ y < v
      · rw [if_pos k1, if_pos (by omega)]
      · rw [if_neg k1]
        by_cases k2 : p ≤ x ∧ x < u ∧ y = Y
        · rw [if_pos k2, if_pos (by omega)]
        · rw [if_neg k2, if_neg (by omega)]
theorem part_ev (A B C D a b c d : Int) (l : List Int) (h : VP a b c d l) (p q u v : Int) (h1 : In p q u v a b c d) (h2 : In p q u v A B C D) (hA : 0 ≤ A ∧ C ≤ 4096 ∧ 0 ≤ B ∧ D ≤ 4096) (t : List Int) (ht : (t.length : Int) = (C - A) * (D - B)) :
    Ev (fun k => plane_part.f k A B C D t a b c d l p q u v) (tabT A B C D (fun x y => if p ≤ x ∧ x < u ∧ q ≤ y ∧ y < v then G a b c l x y else G A B C t x y)) := by
  have h1' := h1
  have h2' := h2
  unfold In at h1' h2'
  obtain ⟨t', ev, hl, hG⟩ := part_l0 A B C D a b c d l h p q u v h1 h2 hA (v - q).toNat q (by omega) (by omega) t ht
  have e := tab_of_G A B C D _ t' (by omega) (by rw [hl]; exact ht) hG
  rw [← e]
  exact ev
end Go.Proofs.Ythemchggmlpdhaa.Pure
