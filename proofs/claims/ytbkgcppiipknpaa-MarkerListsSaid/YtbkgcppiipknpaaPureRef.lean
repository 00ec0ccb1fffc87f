/- What the reference's functions of chapter 28 compute: the same. -/
import Derived.Test.YtbkgcppiipknpaaPureLib
import Derived.Test.YtbkgcppiipknpaaQ2
import Derived.Test.YtbkgcppiipknpaaQ4
import Derived.Test.YtbkgcppiipknpaaQ14
import Derived.Test.YtbkgcppiipknpaaQ16
import Derived.Test.YtbkgcppiipknpaaQ17
import Derived.Test.YtbkgcppiipknpaaQ22
namespace Go.Proofs.Ytbkgcppiipknpaa.Pure
open Go.RowKit Go.Proofs.Ytbkgcppiipknpaa.Q Go.Proofs.YtbkgcppiipknpaaW.PrintWords
open Go.Proofs.YtbkgcppiipknpaaW.PrintMore
set_option linter.unusedVariables false

theorem rknown_eq (c : Int) : waveletref28_Known.f c = some (decide (Kn c)) := by
  unfold waveletref28_Known.f
  repeat' split
  all_goals (congr 1; first | (rw [decide_eq_decide]; unfold Kn; omega) | (symm; rw [decide_eq_true_iff]; unfold Kn; omega) | (symm; rw [decide_eq_false_iff_not]; unfold Kn; omega))
theorem rbare_eq (c : Int) : waveletref28_Bare.f c = some (decide (Ba c)) := bare_eq c
theorem rappend_eq (b : List Int) (c : Int) (p : List Int) (hb : b.length ≤ 100000) (hp : p.length ≤ 100000) (k : Nat) : waveletref28_Append.f (k + 1) b c p = some (App b c p) := by
  unfold waveletref28_Append.f
  rw [rknown_eq, rbare_eq]
  simp only [Option.bind_some, decide_eq_true_eq]
  by_cases hk : Kn c
  · rw [if_pos hk]
    by_cases hz : Ba c
    · rw [if_pos hz]
      by_cases hn : 0 < p.length
      · rw [show decide ((p.length : Int) > 0) = true from decide_eq_true (by omega), App, if_neg (fun h => h hk), if_pos ⟨hz, hn⟩]
        simp [waveletref28_Append.j0]
      · rw [show decide ((p.length : Int) > 0) = false from decide_eq_false (by omega), App, if_neg (fun h => h hk), if_neg (fun h => hn h.2), if_neg (by omega), if_pos hz]
        simp only [waveletref28_Append.j0]
        rw [if_neg (by simp), if_neg (by omega), rbare_eq, decide_eq_true hz]
        simp only [Option.bind_some, List.length_nil, List.nil_append]
        rw [if_pos (by omega), if_pos (by simp; omega)]
        simp [two]
    · rw [if_neg hz]
      have hA : App b c p = if 65533 < p.length then ([], 5) else (b ++ two c ++ two (p.length + 2) ++ p, 0) := by
        rw [App, if_neg (fun h => h hk), if_neg (fun h => hz h.1), if_neg hz]
      rw [hA]
      simp only [waveletref28_Append.j0]
      rw [if_neg (by simp)]
      by_cases hn : 65533 < p.length
      · rw [if_pos (by omega), if_pos hn]
      · rw [if_neg (by omega), if_neg hn, rbare_eq, decide_eq_false hz]
        simp only [Option.bind_some, List.length_nil, List.nil_append]
        rw [show wrap64 ((p.length : Int) + 2) = (p.length : Int) + 2 by unfold wrap64; omega]
        rw [if_pos (by omega), if_pos (by simp; omega), if_neg (by simp), if_pos (by simp; omega), if_pos (by simp; omega)]
        rfl
  · rw [if_neg hk, App, if_pos hk]

theorem rru_loop (l : List Int) (hl : l.length ≤ 1000000) (a n : Int) (ha : 0 ≤ a) (hn : 1 ≤ n ∧ n ≤ 4) (han : a + n ≤ l.length) (d : Nat) : ∀ (k j : Nat) (v : Int), j + d = n.toNat →
    waveletref28_ReadUint.l0 (k + d + 1) l a n v (j : Int) = some ((((l.take (a + n).toNat).drop a.toNat).drop j).foldl step v, 0) := by
  have hm : ((l.take (a + n).toNat).drop a.toNat).length = n.toNat := by rw [List.length_drop, List.length_take]; omega
  induction d with
  | zero =>
    intro k j v hj
    rw [show k + 0 + 1 = k + 1 from rfl, waveletref28_ReadUint.l0, if_neg (by omega), List.drop_eq_nil_of_le (by omega)]
    rfl
  | succ d ih =>
    intro k j v hj
    have hlt : j < ((l.take (a + n).toNat).drop a.toNat).length := by omega
    rw [show k + (d + 1) + 1 = (k + d + 1) + 1 by omega, waveletref28_ReadUint.l0, if_pos (by omega), show wrap64 (a + (j : Int)) = a + (j : Int) by unfold wrap64; omega, if_pos (by omega), if_pos (by omega), List.drop_eq_getElem_cons hlt]
    rw [show wrap64 ((j : Int) + 1) = ((j + 1 : Nat) : Int) by unfold wrap64; omega, ih k (j + 1) _ (by omega)]
    have he : rd l (a + (j : Int)) = ((l.take (a + n).toNat).drop a.toNat)[j] := by
      unfold rd
      rw [List.getElem_drop, List.getElem_take, List.getD_eq_getElem?_getD, List.getElem?_eq_getElem (show (a + (j : Int)).toNat < l.length by omega)]
      show l[(a + (j : Int)).toNat] = _
      congr 1
      omega
    rw [he]
    rfl
theorem rru_eq (l : List Int) (at_ n : Int) (hl : l.length ≤ 1000000) (hat : at_ ≤ 9223372036854775807) (k : Nat) : waveletref28_ReadUint.f (k + 6) l at_ n = some (RU l at_ n) := by
  have hj : waveletref28_ReadUint.j0 (k + 6) l at_ n true = some (0, 2) := by rw [show k + 6 = (k + 5) + 1 from rfl, waveletref28_ReadUint.j0, if_pos rfl]
  unfold waveletref28_ReadUint.f RU
  by_cases h1 : n < 1
  · rw [if_pos h1, if_pos (.inl h1), hj]
  rw [if_neg h1]
  by_cases h2 : n > 4
  · rw [if_pos h2, if_pos (.inr (.inl h2)), hj]
  rw [if_neg h2]
  by_cases h3 : at_ < 0
  · rw [if_pos h3, if_pos (.inr (.inr (.inl h3))), hj]
  rw [if_neg h3]
  by_cases h4 : (l.length : Int) < at_
  · rw [show decide (at_ > (l.length : Int)) = true from decide_eq_true h4, if_pos (.inr (.inr (.inr h4))), hj]
  rw [show decide (at_ > (l.length : Int)) = false from decide_eq_false h4, if_neg (by omega), show k + 6 = (k + 5) + 1 from rfl, waveletref28_ReadUint.j0, if_neg (by simp)]
  rw [show wrap64 ((l.length : Int) - at_) = (l.length : Int) - at_ by unfold wrap64; omega]
  by_cases h5 : (l.length : Int) - at_ < n
  · rw [if_pos h5, if_pos h5]
  rw [if_neg h5, if_neg h5]
  have := rru_loop l hl at_ n (by omega) (by omega) (by omega) n.toNat (k + (4 - n.toNat)) 0 0 (by omega)
  rw [show k + (4 - n.toNat) + n.toNat + 1 = k + 5 by omega] at this
  rw [show (0 : Int) = ((0 : Nat) : Int) from rfl] at *
  rw [this]
  rfl

theorem ruint_l0 : ∀ (k : Nat) (v : Int) (l : List Int) (i : Int), waveletref28_Uint.l0 k v l i = marker_Uint.l0 k v l i
  | 0, _, _, _ => by rw [waveletref28_Uint.l0, marker_Uint.l0]
  | k + 1, v, l, i => by rw [waveletref28_Uint.l0, marker_Uint.l0, ruint_l0 k]
theorem shift_small (n : Nat) (h : n ≤ 4) : IntKind.u64.wrap (wrap64 (8 * (n : Int))) = ((8 * n : Nat) : Int) := by
  have : IntKind.u64.wrap (wrap64 (8 * (n : Int))) = wrap64 (8 * (n : Int)) % 18446744073709551616 := by simp [IntKind.wrap, IntKind.bits, IntKind.signed]
  rw [this]
  unfold wrap64
  omega
theorem big_same (v : Int) (n : Int) (h0 : 0 ≤ v) (h1 : 1 ≤ n) (h4 : n ≤ 4) :
    decide (v ≥ shl .i64 1 (IntKind.u64.wrap (wrap64 (8 * n)))) = decide (shr .i64 v (IntKind.u64.wrap (wrap64 (8 * n))) > 0) := by
  obtain ⟨m, rfl⟩ := Int.eq_ofNat_of_zero_le (show 0 ≤ n by omega)
  rw [shift_small m (by omega), decide_eq_decide]
  unfold shl shr
  have hm : m = 1 ∨ m = 2 ∨ m = 3 ∨ m = 4 := by omega
  rcases hm with rfl | rfl | rfl | rfl
  · show IntKind.i64.wrap (1 * 2 ^ 8) ≤ v ↔ 0 < v / 2 ^ 8
    rw [IntKind.wrap_i64]; omega
  · show IntKind.i64.wrap (1 * 2 ^ 16) ≤ v ↔ 0 < v / 2 ^ 16
    rw [IntKind.wrap_i64]; omega
  · show IntKind.i64.wrap (1 * 2 ^ 24) ≤ v ↔ 0 < v / 2 ^ 24
    rw [IntKind.wrap_i64]; omega
  · show IntKind.i64.wrap (1 * 2 ^ 32) ≤ v ↔ 0 < v / 2 ^ 32
    rw [IntKind.wrap_i64]; omega
theorem ruint_eq (k : Nat) (b : List Int) (v n : Int) (hb : b.length ≤ 100000) : waveletref28_Uint.f k b v n = marker_Uint.f k b v n := by
  have hj : ∀ x, 0 ≤ n → n ≤ 1000 → waveletref28_Uint.j0 k b v n x = marker_Uint.j0 k b v n x := fun x h0 h1 => by
    cases k with
    | zero => rw [waveletref28_Uint.j0, marker_Uint.j0]
    | succ k =>
      rw [waveletref28_Uint.j0, marker_Uint.j0, extend_eq b n (by omega) h0 (by omega)]
      simp only [Option.bind_some, List.length_nil, List.nil_append, ruint_l0]
      rw [if_pos (by omega : 0 + b.length < 140737488355328)]
  have hjt : waveletref28_Uint.j0 k b v n true = marker_Uint.j0 k b v n true := by
    cases k with
    | zero => rw [waveletref28_Uint.j0, marker_Uint.j0]
    | succ k => rw [waveletref28_Uint.j0, marker_Uint.j0, if_pos rfl, if_pos rfl]
  unfold waveletref28_Uint.f marker_Uint.f
  by_cases h1 : n < 1
  · rw [if_pos h1, if_pos h1, hjt]
  rw [if_neg h1, if_neg h1]
  by_cases h2 : n > 4
  · rw [if_pos h2, if_pos h2, hjt]
  rw [if_neg h2, if_neg h2]
  by_cases h3 : v < 0
  · rw [if_pos h3, if_pos h3, hjt]
  rw [if_neg h3, if_neg h3, big_same v n (by omega) (by omega) (by omega), hj _ (by omega) (by omega)]

/-- The bytes of a number, the highest first. -/
def be (v : Int) : Nat → List Int
  | 0 => []
  | i + 1 => (v / 2 ^ (8 * i)) % 256 :: be v i
theorem uint_loop (v : Int) (m : Nat) (hm : m ≤ 4) : ∀ (k : Nat) (acc : List Int), acc.length + m ≤ 200000 → marker_Uint.l0 (k + m + 1) v acc ((m : Int) - 1) = some (acc ++ be v m, 0) := by
  induction m with
  | zero =>
    intro k acc ha
    rw [show k + 0 + 1 = k + 1 from rfl, marker_Uint.l0, if_neg (by omega)]
    simp [be]
  | succ m ih =>
    intro k acc ha
    rw [show k + (m + 1) + 1 = (k + m + 1) + 1 by omega, marker_Uint.l0, if_pos (by omega), show (((m + 1 : Nat) : Int) - 1) = (m : Int) by omega, shift_small m (by omega), if_pos (by omega), if_pos (by omega), show wrap64 ((m : Int) - 1) = (m : Int) - 1 by unfold wrap64; omega]
    have hs : shr .i64 v (((8 * m : Nat) : Int)) = v / 2 ^ (8 * m) := by
      unfold shr
      rw [Int.toNat_natCast, Nat.min_eq_left (by show 8 * m ≤ 64; omega)]
    rw [hs, ih (by omega) k _ (by simp; omega)]
    simp [be]
def UI (b : List Int) (v n : Int) : List Int × Int := if n < 1 ∨ 4 < n ∨ v < 0 ∨ 0 < v / 2 ^ (8 * n.toNat) then ([], 2) else (b ++ be v n.toNat, 0)
theorem uint_eq (b : List Int) (v n : Int) (hb : b.length ≤ 100000) (k : Nat) : marker_Uint.f (k + 6) b v n = some (UI b v n) := by
  have hjt : marker_Uint.j0 (k + 6) b v n true = some ([], 2) := by rw [show k + 6 = (k + 5) + 1 from rfl, marker_Uint.j0, if_pos rfl]
  unfold marker_Uint.f UI
  by_cases h1 : n < 1
  · rw [if_pos h1, hjt, if_pos (.inl h1)]
  rw [if_neg h1]
  by_cases h2 : n > 4
  · rw [if_pos h2, hjt, if_pos (.inr (.inl h2))]
  rw [if_neg h2]
  by_cases h3 : v < 0
  · rw [if_pos h3, hjt, if_pos (.inr (.inr (.inl h3)))]
  rw [if_neg h3]
  obtain ⟨m, rfl⟩ := Int.eq_ofNat_of_zero_le (show 0 ≤ n by omega)
  rw [shift_small m (by omega), if_pos (by omega)]
  have hs : shr .i64 v (((8 * m : Nat) : Int)) = v / 2 ^ (8 * m) := by
    unfold shr
    rw [Int.toNat_natCast, Nat.min_eq_left (by show 8 * m ≤ 64; omega)]
  rw [hs, Int.toNat_natCast]
  by_cases h4 : v / 2 ^ (8 * m) > 0
  · rw [show decide (v / 2 ^ (8 * m) > 0) = true from decide_eq_true h4, hjt, if_pos (.inr (.inr (.inr h4)))]
  · rw [show decide (v / 2 ^ (8 * m) > 0) = false from decide_eq_false h4, if_neg (by omega), show k + 6 = (k + 5) + 1 from rfl, marker_Uint.j0, if_neg (by simp), extend_eq b _ (by omega) (by omega) (by omega)]
    simp only [Option.bind_some]
    rw [show wrap64 ((m : Int) - 1) = (m : Int) - 1 by unfold wrap64; omega]
    have := uint_loop v m (by omega) (k + (4 - m)) b (by omega)
    rw [show k + (4 - m) + m + 1 = k + 5 by omega] at this
    exact this
end Go.Proofs.Ytbkgcppiipknpaa.Pure
