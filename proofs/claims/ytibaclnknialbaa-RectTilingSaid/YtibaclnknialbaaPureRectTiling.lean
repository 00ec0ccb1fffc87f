/- RectTiling: the cells of a rectangle of at most 20 columns and 20 rows are not empty, lie in it, have at most the given size, are disjoint and in order, and their areas add up to that of the rectangle (for other arguments the law asks for the examples alone); the examples of the chapter hold. No condition. -/
import Derived.Test.YtibaclnknialbaaPureCells
import Derived.Test.YtibaclnknialbaaQ37
namespace Go.Proofs.Ytibaclnknialbaa.Pure
open Go.RowKit Go.Proofs.Ytibaclnknialbaa.Q Go.Proofs.YtibaclnknialbaaW.PrintWords
set_option linter.unusedVariables false
theorem rvalid_eq (a b c d : Int) : waveletref01_Valid.f a b c d = some (decide (Valid a b c d)) := valid_eq a b c d
/-- The border of column i in [a, c). -/
def bd (a c w i : Int) : Int := mx a (mn c (i * w))
theorem bd_mono {a c w i i' : Int} (hw : 1 ≤ w) (h : i ≤ i') : bd a c w i ≤ bd a c w i' := by
  have h1 : i * w ≤ i' * w := Int.mul_le_mul_of_nonneg_right h (by omega)
  unfold bd mx mn
  omega
theorem bd_step {a c w i : Int} (hac : a < c) (hw : 1 ≤ w) (h1 : i * w < c) (h2 : a < (i + 1) * w) : bd a c w i = mx a (i * w) ∧ bd a c w (i + 1) = mn c ((i + 1) * w) ∧ bd a c w i < bd a c w (i + 1) ∧ bd a c w (i + 1) - bd a c w i ≤ w ∧ a ≤ bd a c w i ∧ bd a c w (i + 1) ≤ c := by
  have e : (i + 1) * w = i * w + w := by rw [Int.add_mul, Int.one_mul]
  rw [e] at h2 ⊢
  unfold bd
  rw [e]
  unfold mx mn
  omega
/-- i is a column that [a, c) touches. -/
def Touch (a c w i : Int) : Prop := 0 ≤ i ∧ i * w < c ∧ a < (i + 1) * w
theorem touch_of {a c w i : Int} (ha : 0 ≤ a) (hc : c ≤ 4096) (hac : a < c) (hw : 1 ≤ w) (h1 : fdiv a w ≤ i) (h2 : i < cdiv c w) : Touch a c w i := by
  have f1 := fdiv_pos (a := a) (w := w) ha (by omega) hw
  have c1 := cdiv_pos (a := c) (w := w) (by omega) hc hw
  have e0 := Int.emod_add_mul_ediv a w
  have e1 := Int.emod_lt_of_pos a (show 0 < w by omega)
  have e2 := Int.emod_add_mul_ediv c w
  have e3 := Int.emod_nonneg c (show w ≠ 0 by omega)
  refine ⟨by omega, ?_, ?_⟩
  · rcases Int.lt_or_le (c % w) 1 with h3 | h3
    · have hi : i ≤ c / w - 1 := by rw [c1.1, if_neg (by omega)] at h2; omega
      have := Int.mul_le_mul_of_nonneg_right hi (show 0 ≤ w by omega)
      rw [Int.sub_mul, Int.one_mul, Int.mul_comm (c / w) w] at this
      omega
    · have hi : i ≤ c / w := by rw [c1.1, if_pos (by omega)] at h2; omega
      have := Int.mul_le_mul_of_nonneg_right hi (show 0 ≤ w by omega)
      rw [Int.mul_comm (c / w) w] at this
      omega
  · have hi : a / w + 1 ≤ i + 1 := by rw [f1.1] at h1; omega
    have := Int.mul_le_mul_of_nonneg_right hi (show 0 ≤ w by omega)
    rw [Int.add_mul, Int.one_mul, Int.mul_comm (a / w) w] at this
    omega
theorem touch_wrap {a c w i : Int} (hc : c ≤ 4096) (hw : 1 ≤ w) (hw2 : w ≤ 9223372036854775807) (h : Touch a c w i) : wrap64 (i * w) = i * w ∧ wrap64 (wrap64 (i + 1) * w) = (i + 1) * w := by
  obtain ⟨h0, h1, h2⟩ := h
  have e : (i + 1) * w = i * w + w := by rw [Int.add_mul, Int.one_mul]
  have hp : 0 ≤ i * w := Int.mul_nonneg h0 (by omega)
  have hi : i ≤ 4096 := by
    have : i * 1 ≤ i * w := Int.mul_le_mul_of_nonneg_left hw h0
    omega
  have hz : i = 0 ∨ w ≤ 4096 := by
    rcases Int.lt_or_le 0 i with h3 | h3
    · have : 1 * w ≤ i * w := Int.mul_le_mul_of_nonneg_right (by omega) (by omega)
      omega
    · omega
  rw [show wrap64 (i + 1) = i + 1 by unfold wrap64; omega, e]
  rcases hz with rfl | h3
  · rw [Int.zero_mul]; unfold wrap64; omega
  · unfold wrap64; omega
theorem cell_at {a b c d w h j i : Int} (hac : a < c) (hbd : b < d) (hc : c ≤ 4096) (hd : d ≤ 4096) (hw : 1 ≤ w) (hw2 : w ≤ 9223372036854775807) (hh : 1 ≤ h) (hh2 : h ≤ 9223372036854775807) (ti : Touch a c w i) (tj : Touch b d h j) :
    cellOf a b c d w h j i = ⟨bd a c w i, bd b d h j, bd a c w (i + 1), bd b d h (j + 1)⟩ := by
  have w1 := touch_wrap hc hw hw2 ti
  have w2 := touch_wrap hd hh hh2 tj
  have s1 := bd_step hac hw ti.2.1 ti.2.2
  have s2 := bd_step hbd hh tj.2.1 tj.2.2
  have e : Inter a b c d (i * w) (j * h) ((i + 1) * w) ((j + 1) * h) = (bd a c w i, bd b d h j, bd a c w (i + 1), bd b d h (j + 1)) := by
    unfold Inter
    rw [if_neg (by omega), s1.1, s1.2.1, s2.1, s2.2.1]
  unfold cellOf
  rw [w1.1, w1.2, w2.1, w2.2, e]
theorem rng_mem (n : Nat) : ∀ (a x : Int), x ∈ rng a n ↔ a ≤ x ∧ x < a + n := by
  induction n with
  | zero => intro a x; simp only [rng, List.not_mem_nil, false_iff]; omega
  | succ n ih => intro a x; simp only [rng, List.mem_cons, ih]; omega
theorem rng_lt (n : Nat) : ∀ (a : Int), (rng a n).Pairwise (· < ·) := by
  induction n with
  | zero => intro a; exact .nil
  | succ n ih => intro a; exact .cons (fun x hx => by have := (rng_mem n (a + 1) x).1 hx; omega) (ih (a + 1))
theorem rng_sum (g : Int → Int) (n : Nat) : ∀ (a : Int), ((rng a n).map fun i => g (i + 1) - g i).sum = g (a + n) - g a := by
  induction n with
  | zero => intro a; simp [rng]
  | succ n ih =>
    intro a
    simp only [rng, List.map_cons, List.sum_cons, ih]
    rw [show a + 1 + (n : Int) = a + ((n + 1 : Nat) : Int) by omega]
    omega
def Fits (a b c d w h : Int) (x : S26) : Prop := a ≤ x.f0 ∧ x.f0 < x.f2 ∧ x.f2 ≤ c ∧ b ≤ x.f1 ∧ x.f1 < x.f3 ∧ x.f3 ≤ d ∧ x.f2 - x.f0 ≤ w ∧ x.f3 - x.f1 ≤ h
def Before (x y : S26) : Prop := (x.f2 ≤ y.f0 ∧ x.f1 = y.f1) ∨ (x.f3 ≤ y.f1 ∧ x.f1 < y.f1)
def ar (x : S26) : Int := (x.f2 - x.f0) * (x.f3 - x.f1)
theorem sum_mul (l : List Int) (g : Int → Int) (m : Int) : (l.map fun i => g i * m).sum = (l.map g).sum * m := by
  induction l with
  | nil => simp
  | cons x xs ih => simp only [List.map_cons, List.sum_cons, ih, Int.add_mul]
theorem tiles {a b c d w h : Int} (hv : Valid a b c d) (hs : c - a ≤ 20 ∧ d - b ≤ 20) (hw : 1 ≤ w) (hw2 : w ≤ 9223372036854775807) (hh : 1 ≤ h) (hh2 : h ≤ 9223372036854775807) :
    (∀ x ∈ CellsOf a b c d w h, Fits a b c d w h x) ∧ (CellsOf a b c d w h).Pairwise Before ∧ ((CellsOf a b c d w h).map ar).sum = (c - a) * (d - b) := by
  have hv' := hv
  unfold Valid at hv'
  by_cases hne : a < c ∧ b < d
  · obtain ⟨hac, hbd⟩ := hne
    have l1 := floor_le_ceil (a := a) (c := c) (w := w) (by omega) (by omega) hac hw
    have l2 := floor_le_ceil (a := b) (c := d) (w := h) (by omega) (by omega) hbd hh
    have f1 := fdiv_pos (a := a) (w := w) (by omega) (by omega) hw
    have f2 := fdiv_pos (a := b) (w := h) (by omega) (by omega) hh
    have c1 := cdiv_pos (a := c) (w := w) (by omega) (by omega) hw
    have c2 := cdiv_pos (a := d) (w := h) (by omega) (by omega) hh
    have ends : ∀ {a c w : Int}, 0 ≤ a → c ≤ 4096 → a < c → 1 ≤ w → bd a c w (cdiv c w) = c ∧ bd a c w (fdiv a w) = a := by
      intro a c w ha hc hac hw
      have f1 := fdiv_pos (a := a) (w := w) ha (by omega) hw
      have c1 := cdiv_pos (a := c) (w := w) (by omega) hc hw
      have e0 := Int.emod_add_mul_ediv a w
      have e1 := Int.emod_nonneg a (show w ≠ 0 by omega)
      have e2 := Int.emod_add_mul_ediv c w
      have e3 := Int.emod_lt_of_pos c (show 0 < w by omega)
      have e4 := Int.emod_nonneg c (show w ≠ 0 by omega)
      constructor
      · have : c ≤ cdiv c w * w := by
          rw [c1.1]
          split
          · rw [Int.add_mul, Int.one_mul, Int.mul_comm (c / w) w]; omega
          · rw [Int.mul_comm (c / w) w]; omega
        unfold bd mx mn; omega
      · have : fdiv a w * w ≤ a := by rw [f1.1, Int.mul_comm (a / w) w]; omega
        unfold bd mx mn; omega
    have wide : ∀ {a c w : Int}, 0 ≤ a → c ≤ 4096 → a < c → 1 ≤ w → c - a ≤ 20 → cdiv c w - fdiv a w ≤ 30 := by
      intro a c w ha hc hac hw hs
      have f1 := fdiv_pos (a := a) (w := w) ha (by omega) hw
      have c1 := cdiv_pos (a := c) (w := w) (by omega) hc hw
      have h1 : c / w ≤ a / w + 20 := by
        have e : a / w + 20 = (a + 20 * w) / w := by rw [Int.add_mul_ediv_right a 20 (by omega)]
        rw [e]
        exact Int.ediv_le_ediv (by omega) (by omega)
      rw [c1.1, f1.1]
      split <;> omega
    have k1 := wide (a := a) (c := c) (w := w) (by omega) (by omega) hac hw hs.1
    have k2 := wide (a := b) (c := d) (w := h) (by omega) (by omega) hbd hh hs.2
    have hcnt := @mul_bd (cdiv c w - fdiv a w) (cdiv d h - fdiv b h) 30 30 (by omega) k1 (by omega) k2
    have ti : ∀ i ∈ rng (fdiv a w) (cdiv c w - fdiv a w).toNat, Touch a c w i := fun i hi => by
      have := (rng_mem _ _ _).1 hi
      exact touch_of (by omega) (by omega) hac hw (by omega) (by omega)
    have tj : ∀ j ∈ rng (fdiv b h) (cdiv d h - fdiv b h).toNat, Touch b d h j := fun j hj => by
      have := (rng_mem _ _ _).1 hj
      exact touch_of (by omega) (by omega) hbd hh (by omega) (by omega)
    have cell : ∀ j ∈ rng (fdiv b h) (cdiv d h - fdiv b h).toNat, ∀ i ∈ rng (fdiv a w) (cdiv c w - fdiv a w).toNat, cellOf a b c d w h j i = ⟨bd a c w i, bd b d h j, bd a c w (i + 1), bd b d h (j + 1)⟩ := fun j hj i hi =>
      cell_at hac hbd (by omega) (by omega) hw hw2 hh hh2 (ti i hi) (tj j hj)
    have eL : CellsOf a b c d w h = (rng (fdiv b h) (cdiv d h - fdiv b h).toNat).flatMap fun j => (rng (fdiv a w) (cdiv c w - fdiv a w).toNat).map (cellOf a b c d w h j) := by
      unfold CellsOf
      rw [if_pos ⟨hv, hac, hbd, hw, hh, by omega⟩]
    rw [eL]
    refine ⟨?_, ?_, ?_⟩
    · intro x hx
      obtain ⟨j, hj, hx⟩ := List.mem_flatMap.1 hx
      obtain ⟨i, hi, rfl⟩ := List.mem_map.1 hx
      rw [cell j hj i hi]
      have s1 := bd_step hac hw (ti i hi).2.1 (ti i hi).2.2
      have s2 := bd_step hbd hh (tj j hj).2.1 (tj j hj).2.2
      show a ≤ bd a c w i ∧ bd a c w i < bd a c w (i + 1) ∧ bd a c w (i + 1) ≤ c ∧ b ≤ bd b d h j ∧ bd b d h j < bd b d h (j + 1) ∧ bd b d h (j + 1) ≤ d ∧ bd a c w (i + 1) - bd a c w i ≤ w ∧ bd b d h (j + 1) - bd b d h j ≤ h
      omega
    · rw [List.pairwise_flatMap]
      constructor
      · intro j hj
        rw [List.pairwise_map]
        refine List.Pairwise.imp_of_mem ?_ (rng_lt _ _)
        intro i i' hi hi' hlt
        rw [cell j hj i hi, cell j hj i' hi']
        exact .inl ⟨bd_mono hw (by omega), rfl⟩
      · refine List.Pairwise.imp_of_mem ?_ (rng_lt _ _)
        intro j j' hj hj' hlt x hx y hy
        obtain ⟨i, hi, rfl⟩ := List.mem_map.1 hx
        obtain ⟨i', hi', rfl⟩ := List.mem_map.1 hy
        rw [cell j hj i hi, cell j' hj' i' hi']
        have s2 := bd_step hbd hh (tj j hj).2.1 (tj j hj).2.2
        have m : bd b d h (j + 1) ≤ bd b d h j' := bd_mono hh (by omega)
        exact .inr ⟨m, by show bd b d h j < bd b d h j'; omega⟩
    · have inner : ∀ j ∈ rng (fdiv b h) (cdiv d h - fdiv b h).toNat, (((rng (fdiv a w) (cdiv c w - fdiv a w).toNat).map (cellOf a b c d w h j)).map ar).sum = (c - a) * (bd b d h (j + 1) - bd b d h j) := by
        intro j hj
        rw [List.map_map]
        rw [List.map_congr_left (g := fun i => (bd a c w (i + 1) - bd a c w i) * (bd b d h (j + 1) - bd b d h j)) (fun i hi => by rw [Function.comp, cell j hj i hi]; rfl)]
        rw [sum_mul (rng (fdiv a w) (cdiv c w - fdiv a w).toNat) (fun i => bd a c w (i + 1) - bd a c w i), rng_sum]
        rw [show fdiv a w + ((cdiv c w - fdiv a w).toNat : Int) = cdiv c w by omega, (ends (by omega) (by omega) hac hw).1, (ends (by omega) (by omega) hac hw).2]
      have outer : ∀ l : List Int, (∀ j ∈ l, j ∈ rng (fdiv b h) (cdiv d h - fdiv b h).toNat) → ((l.flatMap fun j => (rng (fdiv a w) (cdiv c w - fdiv a w).toNat).map (cellOf a b c d w h j)).map ar).sum = (l.map fun j => (bd b d h (j + 1) - bd b d h j) * (c - a)).sum := by
        intro l
        induction l with
        | nil => intro _; rfl
        | cons x xs ih =>
          intro hm
          simp only [List.flatMap_cons, List.map_append, List.sum_append, List.map_cons, List.sum_cons]
          rw [inner x (hm x List.mem_cons_self), ih (fun j hj => hm j (List.mem_cons_of_mem _ hj)), Int.mul_comm]
      rw [outer _ (fun j hj => hj), sum_mul (rng (fdiv b h) (cdiv d h - fdiv b h).toNat) (fun j => bd b d h (j + 1) - bd b d h j), rng_sum]
      rw [show fdiv b h + ((cdiv d h - fdiv b h).toNat : Int) = cdiv d h by omega, (ends (by omega) (by omega) hbd hh).1, (ends (by omega) (by omega) hbd hh).2, Int.mul_comm]
  · have eL : CellsOf a b c d w h = [] := by
      unfold CellsOf
      rw [if_neg (fun hx => hne ⟨hx.2.1, hx.2.2.1⟩)]
    rw [eL]
    refine ⟨by simp, .nil, ?_⟩
    have : c - a = 0 ∨ d - b = 0 := by omega
    rcases this with e | e <;> simp [e]
theorem tiling_inner (L : List S26) (hL : L.length ≤ 65536) (w h a b c d : Int) (hp : L.Pairwise Before) (hf : ∀ x ∈ L, Fits a b c d w h x) (i : Nat) (hi : i < L.length) (s : Int) (n : Nat) : ∀ (m k : Nat), k + n = i →
    waveletlaw01_RectTiling.l1 (m + n + 1) w h L s (i : Int) (k : Int) a b c d L[i].f0 L[i].f1 L[i].f2 L[i].f3 =
      (rect_Area.f L[i].f0 L[i].f1 L[i].f2 L[i].f3).bind fun t => waveletlaw01_RectTiling.l0 m w h L (wrap64 (s + t)) (wrap64 ((i : Int) + 1)) a b c d := by
  induction n with
  | zero =>
    intro m k hk
    rw [show m + 0 + 1 = m + 1 from rfl, waveletlaw01_RectTiling.l1, if_neg (by omega)]
  | succ n ih =>
    intro m k hk
    have hkl : k < L.length := by omega
    rw [show m + (n + 1) + 1 = (m + n + 1) + 1 by omega, waveletlaw01_RectTiling.l1, if_pos (by omega), if_pos (by omega), if_pos (by omega), rd_at L k hkl, inter_eq]
    have hb : Before L[k] L[i] := List.pairwise_iff_getElem.1 hp k i hkl hi (by omega)
    have f1 := hf _ (List.getElem_mem hkl)
    have f2 := hf _ (List.getElem_mem hi)
    unfold Before at hb
    unfold Fits at f1 f2
    have hz : Inter L[k].f0 L[k].f1 L[k].f2 L[k].f3 L[i].f0 L[i].f1 L[i].f2 L[i].f3 = (0, 0, 0, 0) := by
      unfold Inter
      rw [if_pos]
      have x0 := mx_spec L[k].f0 L[i].f0
      have x1 := mx_spec L[k].f1 L[i].f1
      have x2 := mn_spec L[k].f2 L[i].f2
      have x3 := mn_spec L[k].f3 L[i].f3
      omega
    rw [hz]
    simp only [Option.bind_some]
    rw [empty_eq]
    simp only [Option.bind_some]
    rw [if_pos (by simp), if_neg (by omega), step_nat k L (by omega) hkl]
    split
    · rw [if_neg (by omega)]; exact ih m (k + 1) (by omega)
    · exact ih m (k + 1) (by omega)
theorem tiling_outer (L : List S26) (hL : L.length ≤ 65536) (w h a b c d : Int) (hv : Valid a b c d) (hs : c - a ≤ 20 ∧ d - b ≤ 20) (hp : L.Pairwise Before) (hf : ∀ x ∈ L, Fits a b c d w h x) (hsum : (L.map ar).sum = (c - a) * (d - b)) (kE : Nat) (hE : ∀ m, waveletlaw01_exampleHolds.f (kE + m) = some true) (n : Nat) :
    ∀ (k i : Nat), i + n = L.length → kE + 5 + n * (L.length + 10) ≤ k → waveletlaw01_RectTiling.l0 k w h L ((L.take i).map ar).sum (i : Int) a b c d = some true := by
  have hv' := hv
  unfold Valid at hv'
  have har : ∀ x ∈ L, 0 ≤ ar x := fun x hx => by
    have := hf x hx
    unfold Fits at this
    exact Int.mul_nonneg (by omega) (by omega)
  have hnn : ∀ l : List S26, (∀ x ∈ l, 0 ≤ ar x) → 0 ≤ (l.map ar).sum := fun l => by
    induction l with
    | nil => intro _; simp
    | cons x xs ih =>
      intro hx
      simp only [List.map_cons, List.sum_cons]
      have := hx x List.mem_cons_self
      have := ih (fun y hy => hx y (List.mem_cons_of_mem _ hy))
      omega
  have htot := @mul_bd (c - a) (d - b) 20 20 (by omega) hs.1 (by omega) hs.2
  induction n with
  | zero =>
    intro k i hi hk
    obtain ⟨k, rfl⟩ : ∃ m, k = kE + m + 1 := ⟨k - 1 - kE, by omega⟩
    rw [waveletlaw01_RectTiling.l0, if_neg (by omega), area_eq, List.take_of_length_le (by omega), hsum, hE]
    simp [Area, if_pos hv]
  | succ n ih =>
    intro k i hi hk
    rw [Nat.succ_mul] at hk
    have hlt : i < L.length := by omega
    obtain ⟨k, rfl⟩ : ∃ m, k = ((m + i + 1) + 1) + 1 := ⟨k - 3 - i, by omega⟩
    have f1 := hf _ (List.getElem_mem hlt)
    have f1' := f1
    unfold Fits at f1
    rw [waveletlaw01_RectTiling.l0, if_pos (by omega), if_pos (by omega), rd_at L i hlt, empty_eq, contains_eq]
    simp only [Option.bind_some]
    rw [if_neg (by simp; omega), if_pos (by simp only [decide_eq_true_eq]; unfold Within; omega)]
    rw [show wrap64 (L[i].f2 - L[i].f0) = L[i].f2 - L[i].f0 by unfold wrap64; omega, show wrap64 (L[i].f3 - L[i].f1) = L[i].f3 - L[i].f1 by unfold wrap64; omega]
    rw [if_neg (by omega), show decide (L[i].f3 - L[i].f1 > h) = false from decide_eq_false (by omega), waveletlaw01_RectTiling.j2, if_neg (by simp)]
    rw [show (0 : Int) = ((0 : Nat) : Int) from rfl, tiling_inner L hL w h a b c d hp hf i hlt _ i k 0 (by omega), area_eq]
    simp only [Option.bind_some]
    have hA : Area L[i].f0 L[i].f1 L[i].f2 L[i].f3 = ar L[i] := by
      unfold Area ar
      rw [if_pos (by unfold Valid; omega)]
    have e1 : ((L.take (i + 1)).map ar).sum = ((L.take i).map ar).sum + ar L[i] := by
      rw [List.take_succ_eq_append_getElem hlt, List.map_append, List.sum_append]
      simp
    have e2 : ((L.take (i + 1)).map ar).sum + ((L.drop (i + 1)).map ar).sum = (c - a) * (d - b) := by
      rw [← hsum, ← List.sum_append, ← List.map_append, List.take_append_drop]
    have p1 := hnn (L.take (i + 1)) (fun x hx => har x (List.mem_of_mem_take hx))
    have p2 := hnn (L.drop (i + 1)) (fun x hx => har x (List.mem_of_mem_drop hx))
    rw [hA, ← e1, step_nat i L (by omega) hlt, show wrap64 ((L.take (i + 1)).map ar).sum = ((L.take (i + 1)).map ar).sum by unfold wrap64; omega]
    exact ih k (i + 1) (by omega) (by omega)
theorem cells_few (a b c d w h : Int) : (CellsOf a b c d w h).length ≤ 65536 := by
  unfold CellsOf
  split
  · rename_i h0
    obtain ⟨hv, hac, hbd, hw, hh, hm⟩ := h0
    unfold Valid at hv
    have l1 := floor_le_ceil (a := a) (c := c) (w := w) (by omega) (by omega) hac hw
    have l2 := floor_le_ceil (a := b) (c := d) (w := h) (by omega) (by omega) hbd hh
    have key : ∀ (l : List Int) (n : Nat) (g : Int → List S26), (∀ j, (g j).length = n) → (l.flatMap g).length = l.length * n := by
      intro l n g hg
      induction l with
      | nil => simp
      | cons x xs ih => simp [List.flatMap_cons, ih, hg, Nat.succ_mul]; omega
    rw [key _ (cdiv c w - fdiv a w).toNat _ (fun j => by rw [List.length_map, rng_length]), rng_length]
    have e1 : ((cdiv d h - fdiv b h).toNat : Int) = cdiv d h - fdiv b h := by omega
    have e2 : ((cdiv c w - fdiv a w).toNat : Int) = cdiv c w - fdiv a w := by omega
    have : (((cdiv d h - fdiv b h).toNat * (cdiv c w - fdiv a w).toNat : Nat) : Int) ≤ 65536 := by
      rw [Int.natCast_mul, e1, e2, Int.mul_comm]; exact hm
    omega
  · simp
theorem RectTiling (a0_0 : Int) (a0_1 : Int) (a0_2 : Int) (a0_3 : Int) (a1 : Int) (a2 : Int) (w0_0 : (Lit.int .i64 a0_0).wf = true) (w0_1 : (Lit.int .i64 a0_1).wf = true) (w0_2 : (Lit.int .i64 a0_2).wf = true) (w0_3 : (Lit.int .i64 a0_3).wf = true) (w1 : (Lit.int .i64 a1).wf = true) (w2 : (Lit.int .i64 a2).wf = true) : ∃ k, waveletlaw01_RectTiling.f k a0_0 a0_1 a0_2 a0_3 a1 a2 = some true := by
  obtain ⟨kE, hk⟩ := example_holds
  have hE : ∀ m, waveletlaw01_exampleHolds.f (kE + m) = some true := fun m => at_rounds waveletlaw01_exampleHolds.mono (by omega) hk
  obtain ⟨K, hK⟩ := cells_eq a0_0 a0_1 a0_2 a0_3 a1 a2
  have hlen := cells_few a0_0 a0_1 a0_2 a0_3 a1 a2
  have b1 := wf_bd w1
  have b2 := wf_bd w2
  have hjt : ∀ m, waveletlaw01_RectTiling.j0 (kE + m + 1) a1 a2 true a0_0 a0_1 a0_2 a0_3 = some true := fun m => by
    rw [waveletlaw01_RectTiling.j0, if_pos rfl, hE]; rfl
  obtain ⟨M, hM⟩ : ∃ M, M = (CellsOf a0_0 a0_1 a0_2 a0_3 a1 a2).length * ((CellsOf a0_0 a0_1 a0_2 a0_3 a1 a2).length + 10) := ⟨_, rfl⟩
  refine ⟨kE + (K + 10 + M) + 1, ?_⟩
  unfold waveletlaw01_RectTiling.f waveletref01_Small.f
  rw [rvalid_eq]
  by_cases hv : Valid a0_0 a0_1 a0_2 a0_3
  · have hv' := hv
    unfold Valid at hv'
    rw [decide_eq_true hv]
    simp only [Option.bind_some, if_true]
    rw [show wrap64 (a0_2 - a0_0) = a0_2 - a0_0 by unfold wrap64; omega, show wrap64 (a0_3 - a0_1) = a0_3 - a0_1 by unfold wrap64; omega]
    by_cases h1 : a0_2 - a0_0 ≤ 20
    · rw [if_pos h1]
      simp only [Option.bind_some, decide_eq_true_eq]
      by_cases h2 : a0_3 - a0_1 ≤ 20
      · rw [if_pos h2]
        by_cases h3 : a1 < 1
        · rw [if_pos h3, hjt]
        rw [if_neg h3]
        by_cases h4 : a2 < 1
        · rw [show decide (a2 < 1) = true from decide_eq_true h4, hjt]
        rw [show decide (a2 < 1) = false from decide_eq_false h4]
        obtain ⟨t1, t2, t3⟩ := tiles hv ⟨h1, h2⟩ (w := a1) (h := a2) (by omega) (by omega) (by omega) (by omega)
        rw [waveletlaw01_RectTiling.j0, if_neg (by simp), show kE + (K + 10 + M) = K + (kE + 10 + M) by omega, hK]
        simp only [Option.bind_some]
        exact tiling_outer _ hlen a1 a2 a0_0 a0_1 a0_2 a0_3 hv ⟨h1, h2⟩ t2 t1 t3 kE hE (CellsOf a0_0 a0_1 a0_2 a0_3 a1 a2).length (K + (kE + 10 + M)) 0 (by omega) (by omega)
      · rw [if_neg h2, hjt]
    · rw [if_neg h1]
      simp only [Option.bind_some]
      rw [if_neg (by simp), hjt]
  · rw [decide_eq_false hv]
    simp [hjt]
end Go.Proofs.Ytibaclnknialbaa.Pure
