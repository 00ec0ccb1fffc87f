/- RectSamples: a point is in a reduced rectangle exactly if its multiple is in the rectangle, and reducing twice is reducing by the product, for valid rectangles, factors from 1 to 64 and points from 0 to MaxSide (for others the law asks for the examples alone); the examples of the chapter hold. No condition. -/
import Derived.Test.YtibaclnknialbaaPureCells
import Derived.Test.YtibaclnknialbaaQS
namespace Go.Proofs.Ytibaclnknialbaa.Pure
open Go.RowKit Go.Proofs.Ytibaclnknialbaa.Q Go.Proofs.YtibaclnknialbaaW.PrintWords
set_option linter.unusedVariables false
theorem rvalid_eq (a b c d : Int) : waveletref01_Valid.f a b c d = some (decide (Valid a b c d)) := valid_eq a b c d
theorem wf_u8 {a : Int} (h : (Lit.int .u8 a).wf = true) : 0 ≤ a ∧ a ≤ 255 := by
  simp [Lit.wf, IntKind.min, IntKind.max, IntKind.signed, IntKind.bits] at h
  omega
theorem factor {a : Int} (h : 0 ≤ a ∧ a ≤ 255) : 1 ≤ wrap64 (Int.tmod (wrap64 a) 64 + 1) ∧ wrap64 (Int.tmod (wrap64 a) 64 + 1) ≤ 64 := by
  rw [show wrap64 a = a by unfold wrap64; omega]
  have h1 := Int.tmod_nonneg 64 h.1
  have h2 : Int.tmod a 64 < 64 := Int.tmod_lt_of_pos _ (by omega)
  unfold wrap64
  omega
/-- CeilDiv is the least whose multiple reaches a. -/
theorem cdiv_le {a w : Int} (ha : 0 ≤ a) (hw : 1 ≤ w) (hb : a ≤ 4096) (x : Int) : cdiv a w ≤ x ↔ a ≤ x * w := by
  have c1 := cdiv_pos (a := a) (w := w) ha hb hw
  have e2 := Int.emod_add_mul_ediv a w
  have e3 := Int.emod_lt_of_pos a (show 0 < w by omega)
  have e4 := Int.emod_nonneg a (show w ≠ 0 by omega)
  have e5 : w * (a / w) = a / w * w := Int.mul_comm _ _
  rw [c1.1]
  constructor
  · intro h
    split at h
    · have := Int.mul_le_mul_of_nonneg_right h (show 0 ≤ w by omega)
      rw [Int.add_mul, Int.one_mul] at this
      omega
    · have := Int.mul_le_mul_of_nonneg_right h (show 0 ≤ w by omega)
      omega
  · intro h
    split
    · rename_i hr
      rcases Int.lt_or_le x (a / w + 1) with hx | hx
      · have := Int.mul_le_mul_of_nonneg_right (show x ≤ a / w by omega) (show 0 ≤ w by omega)
        omega
      · exact hx
    · rcases Int.lt_or_le x (a / w) with hx | hx
      · have := Int.mul_le_mul_of_nonneg_right (show x + 1 ≤ a / w by omega) (show 0 ≤ w by omega)
        rw [Int.add_mul, Int.one_mul] at this
        omega
      · exact hx
theorem cdiv_cdiv {a w v : Int} (ha : 0 ≤ a) (hb : a ≤ 4096) (hw : 1 ≤ w) (hv : 1 ≤ v) (hwv : 1 ≤ w * v) : cdiv (cdiv a w) v = cdiv a (w * v) := by
  have c0 := cdiv_pos (a := a) (w := w) ha hb hw
  have c9 : cdiv a w ≤ 4096 := (cdiv_le ha hw hb 4096).2 (by
    have := Int.mul_le_mul_of_nonneg_left hw (show (0 : Int) ≤ 4096 by omega)
    omega)
  have key : ∀ x, cdiv (cdiv a w) v ≤ x ↔ cdiv a (w * v) ≤ x := fun x => by
    rw [cdiv_le c0.2.1 hv c9, cdiv_le ha hw hb, cdiv_le ha hwv hb, Int.mul_assoc, Int.mul_comm v w]
  have h1 := (key (cdiv a (w * v))).2 (Int.le_refl _)
  have h2 := (key (cdiv (cdiv a w) v)).1 (Int.le_refl _)
  omega
theorem samples_end (kE : Nat) (hE : ∀ m, waveletlaw01_exampleHolds.f (kE + m) = some true) (a b c d x y dx dy ex ey : Int) (hv : Valid a b c d) (hx : 0 ≤ x ∧ x ≤ 4096) (hy : 0 ≤ y ∧ y ≤ 4096) (h1 : 1 ≤ dx ∧ dx ≤ 64) (h2 : 1 ≤ dy ∧ dy ≤ 64) (h3 : 1 ≤ ex ∧ ex ≤ 64) (h4 : 1 ≤ ey ∧ ey ≤ 64) :
    waveletlaw01_RectSamples.j0 (kE + 1 + 1) dx dy ex ey false a b c d x y = some true := by
  have hv' := hv
  unfold Valid at hv'
  have p1 := @mul_bd dx ex 64 64 (by omega) h1.2 (by omega) h3.2
  have p2 := @mul_bd dy ey 64 64 (by omega) h2.2 (by omega) h4.2
  have p3 : 1 * ex ≤ dx * ex := Int.mul_le_mul_of_nonneg_right h1.1 (by omega)
  have p4 : 1 * ey ≤ dy * ey := Int.mul_le_mul_of_nonneg_right h2.1 (by omega)
  have p5 := @mul_bd x dx 4096 64 hx.1 hx.2 (by omega) h1.2
  have p6 := @mul_bd y dy 4096 64 hy.1 hy.2 (by omega) h2.2
  have le4 : ∀ {a w : Int}, 0 ≤ a → a ≤ 4096 → 1 ≤ w → cdiv a w ≤ 4096 := fun {a w} ha hb hw => (cdiv_le ha hw hb 4096).2 (by
    have := Int.mul_le_mul_of_nonneg_left hw (show (0 : Int) ≤ 4096 by omega)
    omega)
  have mono : ∀ {a c w : Int}, 0 ≤ a → a ≤ c → c ≤ 4096 → 1 ≤ w → cdiv a w ≤ cdiv c w := fun {a c w} ha hac hc hw => (cdiv_le ha hw (by omega) _).2 (by
    have := (cdiv_le (a := c) (by omega) hw hc _).1 (Int.le_refl _)
    omega)
  have hs : Valid (cdiv a dx) (cdiv b dy) (cdiv c dx) (cdiv d dy) := by
    unfold Valid
    refine ⟨(cdiv_pos (by omega) (by omega) h1.1).2.1, mono (by omega) (by omega) (by omega) h1.1, le4 (by omega) (by omega) h1.1, (cdiv_pos (by omega) (by omega) h2.1).2.1, mono (by omega) (by omega) (by omega) h2.1, le4 (by omega) (by omega) h2.1⟩
  rw [waveletlaw01_RectSamples.j0, if_neg (by simp), reduce_eq, Red, if_pos ⟨hv, h1.1, by omega, h2.1, by omega⟩]
  simp only [Option.bind_some]
  rw [has_eq, has_eq, reduce_eq, reduce_eq, show wrap64 (x * dx) = x * dx by unfold wrap64; omega, show wrap64 (y * dy) = y * dy by unfold wrap64; omega, show wrap64 (dx * ex) = dx * ex by unfold wrap64; omega, show wrap64 (dy * ey) = dy * ey by unfold wrap64; omega]
  rw [Red, if_pos ⟨hs, h3.1, by omega, h4.1, by omega⟩, Red, if_pos ⟨hv, by omega, by omega, by omega, by omega⟩]
  simp only [Option.bind_some]
  rw [cdiv_cdiv (by omega) (by omega) h1.1 h3.1 (by omega), cdiv_cdiv (by omega) (by omega) h2.1 h4.1 (by omega), cdiv_cdiv (by omega) (by omega) h1.1 h3.1 (by omega), cdiv_cdiv (by omega) (by omega) h2.1 h4.1 (by omega)]
  have q1 := cdiv_le (a := a) (w := dx) (by omega) h1.1 (by omega) x
  have q2 := cdiv_le (a := c) (w := dx) (by omega) h1.1 (by omega) x
  have q3 := cdiv_le (a := b) (w := dy) (by omega) h2.1 (by omega) y
  have q4 := cdiv_le (a := d) (w := dy) (by omega) h2.1 (by omega) y
  rw [if_neg, if_pos (by simp), hE]
  · rfl
  · rw [bne_iff_ne, ne_eq, Decidable.not_not, decide_eq_decide]
    omega
theorem RectSamples (a0_0 : Int) (a0_1 : Int) (a0_2 : Int) (a0_3 : Int) (a1_0 : Int) (a1_1 : Int) (a1_2 : Int) (a1_3 : Int) (a2_0 : Int) (a2_1 : Int) (w0_0 : (Lit.int .i64 a0_0).wf = true) (w0_1 : (Lit.int .i64 a0_1).wf = true) (w0_2 : (Lit.int .i64 a0_2).wf = true) (w0_3 : (Lit.int .i64 a0_3).wf = true) (w1_0 : (Lit.int .u8 a1_0).wf = true) (w1_1 : (Lit.int .u8 a1_1).wf = true) (w1_2 : (Lit.int .u8 a1_2).wf = true) (w1_3 : (Lit.int .u8 a1_3).wf = true) (w2_0 : (Lit.int .i64 a2_0).wf = true) (w2_1 : (Lit.int .i64 a2_1).wf = true) : ∃ k, waveletlaw01_RectSamples.f k a0_0 a0_1 a0_2 a0_3 a1_0 a1_1 a1_2 a1_3 a2_0 a2_1 = some true := by
  obtain ⟨k, hk⟩ := example_holds
  have hE : ∀ m, waveletlaw01_exampleHolds.f (k + m) = some true := fun m => at_rounds waveletlaw01_exampleHolds.mono (by omega) hk
  have f1 := factor (wf_u8 w1_0)
  have f2 := factor (wf_u8 w1_1)
  have f3 := factor (wf_u8 w1_2)
  have f4 := factor (wf_u8 w1_3)
  refine ⟨k + 1 + 1, ?_⟩
  unfold waveletlaw01_RectSamples.f
  rw [rvalid_eq]
  obtain ⟨dx, hdx⟩ : ∃ z, wrap64 (Int.tmod (wrap64 a1_0) 64 + 1) = z := ⟨_, rfl⟩
  obtain ⟨dy, hdy⟩ : ∃ z, wrap64 (Int.tmod (wrap64 a1_1) 64 + 1) = z := ⟨_, rfl⟩
  obtain ⟨ex, hex⟩ : ∃ z, wrap64 (Int.tmod (wrap64 a1_2) 64 + 1) = z := ⟨_, rfl⟩
  obtain ⟨ey, hey⟩ : ∃ z, wrap64 (Int.tmod (wrap64 a1_3) 64 + 1) = z := ⟨_, rfl⟩
  rw [hdx] at f1
  rw [hdy] at f2
  rw [hex] at f3
  rw [hey] at f4
  simp only [Option.bind_some, hdx, hdy, hex, hey, decide_eq_true_eq]
  have ht : waveletlaw01_RectSamples.j0 (k + 1 + 1) dx dy ex ey true a0_0 a0_1 a0_2 a0_3 a2_0 a2_1 = some true := by
    rw [waveletlaw01_RectSamples.j0, if_pos rfl, hE]; rfl
  by_cases hv : Valid a0_0 a0_1 a0_2 a0_3
  · rw [if_pos hv]
    by_cases h1 : a2_0 < 0
    · rw [if_pos h1, ht]
    rw [if_neg h1]
    by_cases h2 : a2_0 > 4096
    · rw [if_pos h2, ht]
    rw [if_neg h2]
    by_cases h3 : a2_1 < 0
    · rw [if_pos h3, ht]
    rw [if_neg h3]
    by_cases h4 : a2_1 > 4096
    · rw [show decide (a2_1 > 4096) = true from decide_eq_true h4, ht]
    · rw [show decide (a2_1 > 4096) = false from decide_eq_false h4]
      exact samples_end k hE _ _ _ _ _ _ _ _ _ _ hv ⟨by omega, by omega⟩ ⟨by omega, by omega⟩ f1 f2 f3 f4
  · rw [if_neg hv, ht]
end Go.Proofs.Ytibaclnknialbaa.Pure
