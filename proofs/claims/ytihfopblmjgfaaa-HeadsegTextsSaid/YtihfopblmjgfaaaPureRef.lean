/- What the reference's small functions of chapter 29 compute: the same. -/
import Derived.Test.YtihfopblmjgfaaaPureLib
import Derived.Test.YtihfopblmjgfaaaQ10
import Derived.Test.YtihfopblmjgfaaaQ11
import Derived.Test.YtihfopblmjgfaaaQ21
import Derived.Test.YtihfopblmjgfaaaQ22
import Derived.Test.YtihfopblmjgfaaaQ23
namespace Go.Proofs.Ytihfopblmjgfaaa.Pure
open Go.RowKit Go.Proofs.Ytihfopblmjgfaaa.Q Go.Proofs.YtihfopblmjgfaaaW.PrintWords
set_option linter.unusedVariables false

theorem rin_eq (a lo hi : Int) : waveletref29_in.f a lo hi = some (decide (lo ≤ a) && decide (a ≤ hi)) := by
  unfold waveletref29_in.f
  by_cases h : lo ≤ a
  · rw [if_pos h, decide_eq_true h]; rfl
  · rw [if_neg h, decide_eq_false h]; rfl
theorem rshift_eq (n : Nat) (h : n ≤ 8) : wrap64 (8 * (n : Int)) = ((8 * n : Nat) : Int) := by
  unfold wrap64
  omega
theorem rput_loop (v : Int) (m : Nat) (hm : m ≤ 8) : ∀ (k : Nat) (acc : List Int), acc.length + m ≤ 140737488355328 → waveletref29_put.l0 (k + m + 1) acc v ((m : Int) - 1) = some (acc ++ be v m) := by
  induction m with
  | zero =>
    intro k acc ha
    rw [show k + 0 + 1 = k + 1 from rfl, waveletref29_put.l0, if_neg (by omega)]
    simp [be]
  | succ m ih =>
    intro k acc ha
    rw [show k + (m + 1) + 1 = (k + m + 1) + 1 by omega, waveletref29_put.l0, if_pos (by omega), show (((m + 1 : Nat) : Int) - 1) = (m : Int) by omega, rshift_eq m (by omega), if_pos (by omega), if_pos (by omega), show wrap64 ((m : Int) - 1) = (m : Int) - 1 by unfold wrap64; omega]
    rw [shr_eq v m (by omega), ih (by omega) k _ (by simp; omega)]
    simp [be]
theorem rput_eq (acc : List Int) (v : Int) (n : Nat) (hn : n ≤ 8) (ha : acc.length + n ≤ 140737488355328) (k : Nat) : waveletref29_put.f (k + 9) acc v (n : Int) = some (acc ++ be v n) := by
  unfold waveletref29_put.f
  rw [show wrap64 ((n : Int) - 1) = (n : Int) - 1 by unfold wrap64; omega]
  have := rput_loop v n hn (k + (8 - n)) acc ha
  rwa [show k + (8 - n) + n + 1 = k + 9 by omega] at this
/-- Some bytes of a list of bytes. -/
def sub (l : List Int) (a n : Nat) : List Int := (l.take (a + n)).drop a
theorem sub_length (l : List Int) (a n : Nat) (h : a + n ≤ l.length) : (sub l a n).length = n := by
  unfold sub
  rw [List.length_drop, List.length_take]
  omega
theorem rd_bytes {l : List Int} (hb : ∀ x ∈ l, (Lit.int .u8 x).wf = true) (i : Nat) (hi : i < l.length) : rd l (i : Int) = l[i] ∧ 0 ≤ l[i] ∧ l[i] ≤ 255 := by
  refine ⟨?_, wf_u8 (hb _ (List.getElem_mem hi))⟩
  unfold rd
  rw [Int.toNat_natCast, List.getD_eq_getElem?_getD, List.getElem?_eq_getElem hi]
  rfl
theorem get_loop {l : List Int} (hb : ∀ x ∈ l, (Lit.int .u8 x).wf = true) (hl : l.length ≤ 1000000) (a n : Nat) (hn : n ≤ 4) (han : a + n ≤ l.length) (d : Nat) : ∀ (k j : Nat) (v : Int), j + d = n → 0 ≤ v → v < 256 ^ j →
    waveletref29_get.l0 (k + d + 1) l (a : Int) (n : Int) v (j : Int) = some (((sub l a n).drop j).foldl step v) := by
  have hm := sub_length l a n han
  induction d with
  | zero =>
    intro k j v hj _ _
    rw [show k + 0 + 1 = k + 1 from rfl, waveletref29_get.l0, if_neg (by omega), List.drop_eq_nil_of_le (by omega)]
    rfl
  | succ d ih =>
    intro k j v hj h0 h1
    have hlt : j < (sub l a n).length := by omega
    have hi : a + j < l.length := by omega
    obtain ⟨hrd, hx0, hx1⟩ := rd_bytes hb (a + j) hi
    have he : (sub l a n)[j] = l[a + j] := by simp only [sub, List.getElem_drop, List.getElem_take]
    have hv : v < 16777216 := by
      have hj : j = 0 ∨ j = 1 ∨ j = 2 ∨ j = 3 := by omega
      rcases hj with rfl | rfl | rfl | rfl <;> simp at h1 <;> omega
    have hs : wrap64 (wrap64 (256 * v) + wrap64 l[a + j]) = step v l[a + j] := by
      rw [step_eq h0 hv hx0 hx1]
      unfold wrap64
      omega
    rw [show k + (d + 1) + 1 = (k + d + 1) + 1 by omega, waveletref29_get.l0, if_pos (by omega), show wrap64 ((a : Int) + (j : Int)) = ((a + j : Nat) : Int) by unfold wrap64; omega, if_pos (by omega), if_pos (by omega), hrd, hs, List.drop_eq_getElem_cons hlt]
    rw [show wrap64 ((j : Int) + 1) = ((j + 1 : Nat) : Int) by unfold wrap64; omega, ih k (j + 1) _ (by omega) (by rw [step_eq h0 hv hx0 hx1]; omega) (by rw [step_eq h0 hv hx0 hx1, Int.pow_succ]; omega), he]
    rfl
theorem get_eq {l : List Int} (hb : ∀ x ∈ l, (Lit.int .u8 x).wf = true) (hl : l.length ≤ 1000000) (a n : Nat) (hn : n ≤ 4) (han : a + n ≤ l.length) (k : Nat) : waveletref29_get.f (k + 6) l (a : Int) (n : Int) = some (num (sub l a n)) := by
  have := get_loop hb hl a n hn han n (k + (5 - n)) 0 0 (by omega) (by omega) (by simp)
  rw [show k + (5 - n) + n + 1 = k + 6 by omega] at this
  simpa [waveletref29_get.f, num] using this
/-- ReadUint at a place within. -/
theorem RU_in (l : List Int) (a n : Nat) (h1 : 1 ≤ n) (hn : n ≤ 4) (han : a + n ≤ l.length) : RU l (a : Int) (n : Int) = (num (sub l a n), 0) := by
  unfold RU
  rw [if_neg (by omega), if_neg (by omega)]
  rfl
theorem RU_out (l : List Int) (a n : Nat) (h1 : 1 ≤ n) (hn : n ≤ 4) (ha : a ≤ l.length) (han : l.length < a + n) : RU l (a : Int) (n : Int) = (0, 7) := by
  unfold RU
  rw [if_neg (by omega), if_pos (by omega)]
theorem same_loop (a : List Int) (ha : a.length ≤ 1000000000000) (d : Nat) : ∀ (k j : Nat), j + d = a.length → waveletlaw29_same.l0 (k + d + 1) a a (a.length : Int) (j : Int) = some true := by
  induction d with
  | zero =>
    intro k j hj
    rw [show k + 0 + 1 = k + 1 from rfl, waveletlaw29_same.l0, if_neg (by omega)]
  | succ d ih =>
    intro k j hj
    rw [show k + (d + 1) + 1 = (k + d + 1) + 1 by omega, waveletlaw29_same.l0, if_pos (by omega), if_pos (by omega), if_pos (by omega), if_pos (by omega), if_pos rfl]
    rw [show wrap64 ((j : Int) + 1) = ((j + 1 : Nat) : Int) by unfold wrap64; omega, ih k (j + 1) (by omega)]
theorem same_refl (a : List Int) (ha : a.length ≤ 1000000000000) (k : Nat) : waveletlaw29_same.f (k + a.length + 1) a a = some true := by
  have := same_loop a ha a.length k 0 (by omega)
  simpa [waveletlaw29_same.f] using this
theorem sameSegment_refl (c : Int) (a : List Int) (ha : a.length ≤ 1000000000000) (k : Nat) : waveletlaw29_sameSegment.f (k + a.length + 1) c a c a = some true := by
  unfold waveletlaw29_sameSegment.f
  rw [if_pos rfl, same_refl a ha k]
  rfl
theorem framed_eq (c : Int) (l : List Int) (code n : Int) : waveletref29_framed.f c l code n = some (if c = code then (if (l.length : Int) < n then 7 else if (l.length : Int) > n then 9 else 0) else 11) := by
  unfold waveletref29_framed.f
  repeat' split
  all_goals rfl
end Go.Proofs.Ytihfopblmjgfaaa.Pure
