/- The first samples of a rectangle. -/
import Derived.Test.YthemchggmlpdhaaPureCrop
import Derived.Test.YthemchggmlpdhaaPureRef
namespace Go.Proofs.Ythemchggmlpdhaa.Pure
open Go Go.RowKit Go.Proofs.Ythemchggmlpdhaa.Q Go.Proofs.YthemchggmlpdhaaW.PrintWords
set_option linter.unusedVariables false
/-- The first n samples of a rectangle. -/
def pre (p q u : Int) (F : Int → Int → Int) (n : Nat) : List Int := (List.range n).map (fun i : Nat => F (p + (i : Int) % (u - p)) (q + (i : Int) / (u - p)))
theorem pre_succ (p q u : Int) (F : Int → Int → Int) (j i : Nat) (hi : (i : Int) < u - p) : pre p q u F (j * (u - p).toNat + i) ++ [F (p + (i : Int)) (q + (j : Int))] = pre p q u F (j * (u - p).toNat + (i + 1)) := by
  unfold pre
  rw [← Nat.add_assoc, List.range_succ, List.map_append]
  have e : ((j * (u - p).toNat + i : Nat) : Int) = (j : Int) * (u - p) + (i : Int) := by
    rw [Int.natCast_add, Int.natCast_mul, Int.toNat_of_nonneg (by omega)]
  obtain ⟨d1, d2⟩ := @dm (u - p) (j : Int) (i : Int) (by omega) hi
  rw [List.map_singleton, e, d1, d2]
theorem pre_len (p q u : Int) (F : Int → Int → Int) (n : Nat) : (pre p q u F n).length = n := by unfold pre; rw [List.length_map, List.length_range]
theorem pre_all (p q u v : Int) (F : Int → Int → Int) (hW : p ≤ u) (hH : q ≤ v) : pre p q u F ((v - q).toNat * (u - p).toNat) = tabT p q u v F := by
  unfold pre tabT
  have e : (v - q).toNat * (u - p).toNat = ((u - p) * (v - q)).toNat := by
    have h1 : (((u - p) * (v - q)).toNat : Int) = (u - p) * (v - q) := Int.toNat_of_nonneg (Int.mul_nonneg (by omega) (by omega))
    have h2 : (((v - q).toNat * (u - p).toNat : Nat) : Int) = (v - q) * (u - p) := by
      rw [Int.natCast_mul, Int.toNat_of_nonneg (by omega), Int.toNat_of_nonneg (by omega)]
    rw [Int.mul_comm] at h2
    omega
  rw [e]
theorem small_mul {j W : Nat} (h : j ≤ 4096) (h2 : W ≤ 4096) : j * W ≤ 16777216 := Nat.mul_le_mul h h2
end Go.Proofs.Ythemchggmlpdhaa.Pure
