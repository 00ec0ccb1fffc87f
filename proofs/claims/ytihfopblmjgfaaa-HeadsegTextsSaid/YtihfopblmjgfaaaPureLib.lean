/- What the functions of chapter 29 compute, in plain lists and numbers: used by the pure laws of this chapter. -/
import Derived.Test.YtihfopblmjgfaaaQ16
import Derived.Laws.BitsLemmas
namespace Go.Proofs.Ytihfopblmjgfaaa.Pure
open Go.RowKit Go.Proofs.Ytihfopblmjgfaaa.Q Go.Proofs.YtihfopblmjgfaaaW.PrintWords
set_option linter.unusedVariables false

theorem awake_holds : ∃ k, waveletlaw29_awake.f k = some true := ⟨100, by kernel_rfl⟩
theorem wf_bd {a : Int} (h : (Lit.int .i64 a).wf = true) : -9223372036854775808 ≤ a ∧ a ≤ 9223372036854775807 := by
  simp [Lit.wf, IntKind.min, IntKind.max, IntKind.signed, IntKind.bits] at h
  omega
theorem wf_u8 {a : Int} (h : (Lit.int .u8 a).wf = true) : 0 ≤ a ∧ a ≤ 255 := by
  simp [Lit.wf, IntKind.min, IntKind.max, IntKind.signed, IntKind.bits] at h
  omega

/-- One byte more. -/
def step (v x : Int) : Int := Go.bits .or .i64 (wrap64 (v * 256)) (wrap64 x)
theorem step_eq {v x : Int} (h0 : 0 ≤ v) (h1 : v < 16777216) (h2 : 0 ≤ x) (h3 : x ≤ 255) : step v x = v * 256 + x := by
  unfold step
  rw [show wrap64 (v * 256) = v * 256 by unfold wrap64; omega, show wrap64 x = x by unfold wrap64; omega]
  exact bits_join .i64 40 (by decide) (fun n a b => by rw [IntKind.wrap_i64]; omega) 8 _ _ (by omega) (by omega) (by omega) h2 (by omega) (by omega)
/-- The number of some bytes. -/
def num (l : List Int) : Int := l.foldl step 0
/-- What ReadUint returns. -/
def RU (l : List Int) (at_ n : Int) : Int × Int :=
  if n < 1 ∨ 4 < n ∨ at_ < 0 ∨ (l.length : Int) < at_ then (0, 2) else if (l.length : Int) - at_ < n then (0, 7) else (num ((l.take (at_ + n).toNat).drop at_.toNat), 0)
theorem ru_loop (m : List Int) (hm : m.length ≤ 4) (d : Nat) : ∀ (k j : Nat) (v : Int), j + d = m.length → marker_ReadUint.l0 (k + d + 1) v m (m.length : Int) (j : Int) = some ((m.drop j).foldl step v, 0) := by
  induction d with
  | zero =>
    intro k j v hj
    rw [show k + 0 + 1 = k + 1 from rfl, marker_ReadUint.l0, if_neg (by omega), List.drop_eq_nil_of_le (by omega)]
    rfl
  | succ d ih =>
    intro k j v hj
    have hlt : j < m.length := by omega
    rw [show k + (d + 1) + 1 = (k + d + 1) + 1 by omega, marker_ReadUint.l0, if_pos (by omega), if_pos (by omega), if_pos (by omega), List.drop_eq_getElem_cons hlt]
    rw [show wrap64 ((j : Int) + 1) = ((j + 1 : Nat) : Int) by unfold wrap64; omega, ih k (j + 1) _ (by omega)]
    unfold rd
    rw [Int.toNat_natCast, List.getD_eq_getElem?_getD, List.getElem?_eq_getElem hlt]
    rfl
theorem ru_eq (l : List Int) (at_ n : Int) (hl : l.length ≤ 1000000) (hat : at_ ≤ 9223372036854775807) (k : Nat) : marker_ReadUint.f (k + 6) l at_ n = some (RU l at_ n) := by
  have hj : marker_ReadUint.j0 (k + 6) l at_ n true = some (0, 2) := by rw [show k + 6 = (k + 5) + 1 from rfl, marker_ReadUint.j0, if_pos rfl]
  unfold marker_ReadUint.f RU
  by_cases h1 : n < 1
  · rw [if_pos h1, if_pos (.inl h1), hj]
  rw [if_neg h1]
  by_cases h2 : n > 4
  · rw [if_pos h2, if_pos (.inr (.inl h2)), hj]
  rw [if_neg h2]
  by_cases h3 : at_ < 0
  · rw [if_pos h3, if_pos (.inr (.inr (.inl h3))), hj]
  rw [if_neg h3]
  by_cases h4 : (l.length : Int) < at_
  · rw [show decide (at_ > (l.length : Int)) = true from decide_eq_true h4, if_pos (.inr (.inr (.inr h4))), hj]
  rw [show decide (at_ > (l.length : Int)) = false from decide_eq_false h4, if_neg (by omega), show k + 6 = (k + 5) + 1 from rfl, marker_ReadUint.j0, if_neg (by simp)]
  rw [show wrap64 ((l.length : Int) - at_) = (l.length : Int) - at_ by unfold wrap64; omega, show wrap64 (at_ + n) = at_ + n by unfold wrap64; omega]
  by_cases h5 : (l.length : Int) - at_ < n
  · rw [if_pos h5, if_pos h5]
  rw [if_neg h5, if_neg h5, if_pos (by omega), if_pos (by omega), if_pos (by omega)]
  have hm : ((l.take (at_ + n).toNat).drop at_.toNat).length = n.toNat := by rw [List.length_drop, List.length_take]; omega
  have := ru_loop ((l.take (at_ + n).toNat).drop at_.toNat) (by omega) n.toNat (k + (4 - n.toNat)) 0 0 (by omega)
  rw [show k + (4 - n.toNat) + n.toNat + 1 = k + 5 by omega] at this
  rw [show (0 : Int) = ((0 : Nat) : Int) from rfl] at *
  rw [this]
  rfl
theorem shift_small (n : Nat) (h : n ≤ 4) : IntKind.u64.wrap (wrap64 (8 * (n : Int))) = ((8 * n : Nat) : Int) := by
  have : IntKind.u64.wrap (wrap64 (8 * (n : Int))) = wrap64 (8 * (n : Int)) % 18446744073709551616 := by simp [IntKind.wrap, IntKind.bits, IntKind.signed]
  rw [this]
  unfold wrap64
  omega

/-- The bytes of a number, the highest first. -/
def be (v : Int) : Nat → List Int
  | 0 => []
  | i + 1 => (v / 2 ^ (8 * i)) % 256 :: be v i
theorem be_length (v : Int) : ∀ n, (be v n).length = n
  | 0 => rfl
  | n + 1 => by simp [be, be_length v n]
theorem shr_eq (v : Int) (m : Nat) (hm : m ≤ 8) : shr .i64 v ((8 * m : Nat) : Int) = v / 2 ^ (8 * m) := by
  unfold shr
  rw [Int.toNat_natCast, Nat.min_eq_left (by show 8 * m ≤ 64; omega)]
theorem shift_eq (n : Nat) (h : n ≤ 8) : IntKind.u64.wrap (wrap64 (8 * (n : Int))) = ((8 * n : Nat) : Int) := by
  have : IntKind.u64.wrap (wrap64 (8 * (n : Int))) = wrap64 (8 * (n : Int)) % 18446744073709551616 := by simp [IntKind.wrap, IntKind.bits, IntKind.signed]
  rw [this]
  unfold wrap64
  omega
theorem put_loop (v : Int) (m : Nat) (hm : m ≤ 8) : ∀ (k : Nat) (acc : List Int), acc.length + m ≤ 140737488355328 → headseg_put.l0 (k + m + 1) acc v ((m : Int) - 1) = some (acc ++ be v m) := by
  induction m with
  | zero =>
    intro k acc ha
    rw [show k + 0 + 1 = k + 1 from rfl, headseg_put.l0, if_neg (by omega)]
    simp [be]
  | succ m ih =>
    intro k acc ha
    rw [show k + (m + 1) + 1 = (k + m + 1) + 1 by omega, headseg_put.l0, if_pos (by omega), show (((m + 1 : Nat) : Int) - 1) = (m : Int) by omega, shift_eq m (by omega), if_pos (by omega), if_pos (by omega), show wrap64 ((m : Int) - 1) = (m : Int) - 1 by unfold wrap64; omega]
    rw [shr_eq v m (by omega), ih (by omega) k _ (by simp; omega)]
    simp [be]
theorem put_eq (acc : List Int) (v : Int) (n : Nat) (hn : n ≤ 8) (ha : acc.length + n ≤ 140737488355328) (k : Nat) : headseg_put.f (k + 9) acc (n : Int) v = some (acc ++ be v n) := by
  unfold headseg_put.f
  rw [show wrap64 ((n : Int) - 1) = (n : Int) - 1 by unfold wrap64; omega]
  have := put_loop v n hn (k + (8 - n)) acc ha
  rwa [show k + (8 - n) + n + 1 = k + 9 by omega] at this
/-- What within returns. -/
def inside (lo hi : Int) (l : List Int) : Bool := l.all fun x => decide (lo ≤ x) && decide (x ≤ hi)
theorem within_loop (lo hi : Int) (l : List Int) (hl : l.length ≤ 9223372036854775807) (d : Nat) : ∀ (k j : Nat), j + d = l.length → headseg_within.l0 (k + d + 1) lo hi l (l.length : Int) (j : Int) = some (inside lo hi (l.drop j)) := by
  induction d with
  | zero =>
    intro k j hj
    rw [show k + 0 + 1 = k + 1 from rfl, headseg_within.l0, if_neg (by omega), List.drop_eq_nil_of_le (by omega)]
    rfl
  | succ d ih =>
    intro k j hj
    have hlt : j < l.length := by omega
    have hrd : rd l (j : Int) = l[j] := by
      unfold rd
      rw [Int.toNat_natCast, List.getD_eq_getElem?_getD, List.getElem?_eq_getElem hlt]
      rfl
    rw [show k + (d + 1) + 1 = (k + d + 1) + 1 by omega, headseg_within.l0, if_pos (by omega), if_pos (by omega), if_pos (by omega), hrd, List.drop_eq_getElem_cons hlt]
    rw [show wrap64 ((j : Int) + 1) = ((j + 1 : Nat) : Int) by unfold wrap64; omega, ih k (j + 1) (by omega)]
    unfold inside
    rw [List.all_cons]
    by_cases h1 : l[j] < lo
    · rw [if_pos h1, decide_eq_false (show ¬ lo ≤ l[j] by omega)]; rfl
    · rw [if_neg h1, decide_eq_true (show lo ≤ l[j] by omega)]
      by_cases h2 : l[j] > hi
      · rw [if_pos h2, decide_eq_false (show ¬ l[j] ≤ hi by omega)]; rfl
      · rw [if_neg h2, decide_eq_true (show l[j] ≤ hi by omega)]; rfl
theorem within_eq (lo hi : Int) (l : List Int) (hl : l.length ≤ 9223372036854775807) (k : Nat) : headseg_within.f (k + l.length + 1) lo hi l = some (inside lo hi l) := by
  have := within_loop lo hi l hl l.length k 0 (by omega)
  simpa [headseg_within.f] using this
end Go.Proofs.Ytihfopblmjgfaaa.Pure
