/- MarkerReturns: a segment that Append accepts is read back by Read between at most 1000 bytes before and at most 100 behind it, and a number that Uint accepts is read back by ReadUint (for longer arguments the law asks for the examples alone); the examples of the chapter hold. No condition. -/
import Derived.Test.YtbkgcppiipknpaaPureRead
import Derived.Test.YtbkgcppiipknpaaPureRef
import Derived.Test.YtbkgcppiipknpaaQ24
namespace Go.Proofs.Ytbkgcppiipknpaa.Pure
open Go.RowKit Go.Proofs.Ytbkgcppiipknpaa.Q Go.Proofs.YtbkgcppiipknpaaW.PrintWords
set_option linter.unusedVariables false
theorem seg_self (a : Int) (p : List Int) : waveletref28_SameSegment.f a p a p = some true := by
  unfold waveletref28_SameSegment.f
  rw [if_pos rfl]
  simp
theorem mid (b m c : List Int) (n : Nat) (hn : m.length = n) : ((b ++ m ++ c).take (b.length + n)).drop b.length = m := by
  rw [List.take_append_of_le_length (by simp; omega), List.take_of_length_le (by simp; omega), List.drop_left]
theorem be_length (v : Int) (n : Nat) : (be v n).length = n := by
  induction n with
  | zero => rfl
  | succ n ih => simp [be, ih]
theorem ru_mid (b m c : List Int) (n : Int) (h1 : 1 ≤ n) (h4 : n ≤ 4) (hm : m.length = n.toNat) : RU (b ++ m ++ c) (b.length : Int) n = (num m, 0) := by
  unfold RU
  rw [if_neg (by simp; omega), if_neg (by simp; omega)]
  have := mid b m c n.toNat hm
  rw [show ((b.length : Int) + n).toNat = b.length + n.toNat by omega, show ((b.length : Int)).toNat = b.length by omega, this]
/-- One byte behind another: the number of the bytes. -/
theorem num_be (v : Int) (h0 : 0 ≤ v) : ∀ (n : Nat), n ≤ 4 → v / 2 ^ (8 * n) = 0 → num (be v n) = v := by
  have go : ∀ (n : Nat) (u : Int), n ≤ 4 → 0 ≤ u → u = v / 2 ^ (8 * n) → v < 4294967296 → (be v n).foldl step u = v := by
    intro n
    induction n with
    | zero =>
      intro u _ _ hu _
      show u = v
      rw [hu]
      simp
    | succ n ih =>
      intro u hn h1 hu hv
      show (be v n).foldl step (step u (v / 2 ^ (8 * n) % 256)) = v
      have hm := Int.emod_nonneg (v / 2 ^ (8 * n)) (show (256 : Int) ≠ 0 by omega)
      have hm2 := Int.emod_lt_of_pos (v / 2 ^ (8 * n)) (show (0 : Int) < 256 by omega)
      have e : v / 2 ^ (8 * (n + 1)) = v / 2 ^ (8 * n) / 256 := by
        rw [show 8 * (n + 1) = 8 * n + 8 by omega, Int.pow_add, ← Int.ediv_ediv_of_nonneg (Int.pow_nonneg (by omega))]
        rfl
      have hle : v / 2 ^ (8 * n) ≤ v := Int.ediv_le_self _ h0
      have hnn : 0 ≤ v / 2 ^ (8 * n) := Int.ediv_nonneg h0 (Int.pow_nonneg (by omega))
      rw [e] at hu
      rw [step_eq h1 (by omega) hm (by omega)]
      exact ih _ (by omega) (by omega) (by omega) hv
  intro n hn hz
  have hv : v < 4294967296 := by
    have hp : (2 : Int) ^ (8 * n) ≤ 2 ^ 32 := by
      have := Nat.pow_le_pow_right (show 0 < 2 by omega) (show 8 * n ≤ 32 by omega)
      exact_mod_cast this
    have h2 := Int.lt_mul_ediv_self_add (x := v) (k := 2 ^ (8 * n)) (Int.pow_pos (by omega))
    rw [hz] at h2
    have : (2 : Int) ^ 32 = 4294967296 := by decide
    omega
  exact go n 0 hn (by omega) (by rw [hz]) hv
theorem two_byte (n : Int) : ∃ x y, two n = [x, y] ∧ (0 ≤ x ∧ x ≤ 255) ∧ (0 ≤ y ∧ y ≤ 255) ∧ (0 ≤ n → n ≤ 65535 → x * 256 + y = n) := by
  refine ⟨(n / 256) % 256, n % 256, rfl, by omega, by omega, fun h0 h1 => by omega⟩
theorem read_back (b p c : List Int) (code : Int) (he : (App b code p).2 = 0) : RD ((App b code p).1 ++ c) (b.length : Int) = (code, p, ((App b code p).1.length : Int), 0) := by
  unfold App at he ⊢
  by_cases h1 : Kn code
  · rw [if_neg (fun h => h h1)] at he ⊢
    by_cases h2 : Ba code ∧ 0 < p.length
    · rw [if_pos h2] at he; simp at he
    rw [if_neg h2] at he ⊢
    by_cases h3 : 65533 < p.length
    · rw [if_pos h3] at he; simp at he
    rw [if_neg h3] at he ⊢
    obtain ⟨x, y, e1, hx, hy, hxy⟩ := two_byte code
    have hc : num (two code) = code := by
      rw [e1, num_two x y hx hy]
      unfold Kn at h1
      omega
    by_cases h4 : Ba code
    · have hp : p = [] := by
        have : ¬ 0 < p.length := fun h => h2 ⟨h4, h⟩
        exact List.eq_nil_of_length_eq_zero (by omega)
      rw [if_pos h4]
      have hr : RU (b ++ two code ++ c) (b.length : Int) 2 = (code, 0) := by rw [ru_mid b (two code) c 2 (by omega) (by omega) rfl, hc]
      show RD (b ++ two code ++ c) (b.length : Int) = (code, p, ((b ++ two code).length : Int), 0)
      unfold RD
      rw [hr]
      rw [if_pos rfl, if_pos h1, if_pos h4, hp]
      simp [two]
    · rw [if_neg h4]
      obtain ⟨x2, y2, e2, hx2, hy2, hxy2⟩ := two_byte ((p.length : Int) + 2)
      have hn : num (two ((p.length : Int) + 2)) = (p.length : Int) + 2 := by rw [e2, num_two x2 y2 hx2 hy2]; exact hxy2 (by omega) (by omega)
      have hl1 : (two code).length = 2 := rfl
      have hl2 : (two ((p.length : Int) + 2)).length = 2 := rfl
      have hr : RU (b ++ two code ++ two ((p.length : Int) + 2) ++ p ++ c) (b.length : Int) 2 = (code, 0) := by
        rw [show b ++ two code ++ two ((p.length : Int) + 2) ++ p ++ c = b ++ two code ++ (two ((p.length : Int) + 2) ++ (p ++ c)) by simp [List.append_assoc], ru_mid b (two code) _ 2 (by omega) (by omega) rfl, hc]
      have hr2 : RU (b ++ two code ++ two ((p.length : Int) + 2) ++ p ++ c) ((b.length : Int) + 2) 2 = ((p.length : Int) + 2, 0) := by
        rw [show b ++ two code ++ two ((p.length : Int) + 2) ++ p ++ c = (b ++ two code) ++ two ((p.length : Int) + 2) ++ (p ++ c) by simp [List.append_assoc], show (b.length : Int) + 2 = ((b ++ two code).length : Int) by simp [two], ru_mid (b ++ two code) (two ((p.length : Int) + 2)) _ 2 (by omega) (by omega) rfl, hn]
      show RD (b ++ two code ++ two ((p.length : Int) + 2) ++ p ++ c) (b.length : Int) = (code, p, ((b ++ two code ++ two ((p.length : Int) + 2) ++ p).length : Int), 0)
      unfold RD
      rw [hr, hr2]
      have hcut : ((b ++ two code ++ two ((p.length : Int) + 2) ++ p ++ c).take ((b.length : Int) + 2 + ((p.length : Int) + 2)).toNat).drop ((b.length : Int) + 4).toNat = p := by
        have := mid (b ++ two code ++ two ((p.length : Int) + 2)) p c p.length rfl
        rw [show ((b.length : Int) + 2 + ((p.length : Int) + 2)).toNat = (b ++ two code ++ two ((p.length : Int) + 2)).length + p.length by simp [two]; omega, show ((b.length : Int) + 4).toNat = (b ++ two code ++ two ((p.length : Int) + 2)).length by simp [two]; omega]
        exact this
      rw [if_pos rfl, if_pos h1, if_neg h4, if_pos rfl]
      show (if (p.length : Int) + 2 < 2 then _ else if ((b ++ two code ++ two ((p.length : Int) + 2) ++ p ++ c).length : Int) < (b.length : Int) + 2 + ((p.length : Int) + 2) then _ else (code, ((b ++ two code ++ two ((p.length : Int) + 2) ++ p ++ c).take ((b.length : Int) + 2 + ((p.length : Int) + 2)).toNat).drop ((b.length : Int) + 4).toNat, (b.length : Int) + 2 + ((p.length : Int) + 2), (0 : Int))) = _
      rw [if_neg (by omega), if_neg (by simp [two]; omega), hcut]
      simp [two]
      omega
  · rw [if_pos h1] at he; simp at he
theorem MarkerReturns (l0 : List (Int)) (a1_0 : Int) (l1_1 : List (Int)) (l2 : List (Int)) (a3 : Int) (a4 : Int) (y0 : l0.length * 1 ≤ 140737488351232) (w0 : ∀ x ∈ l0, (Lit.int .u8 x).wf = true) (w1_0 : (Lit.int .i64 a1_0).wf = true) (y1_1 : l1_1.length * 1 ≤ 140737488351232) (w1_1 : ∀ x ∈ l1_1, (Lit.int .u8 x).wf = true) (y2 : l2.length * 1 ≤ 140737488351232) (w2 : ∀ x ∈ l2, (Lit.int .u8 x).wf = true) (w3 : (Lit.int .i64 a3).wf = true) (w4 : (Lit.int .i64 a4).wf = true) : ∃ k, waveletlaw28_MarkerReturns.f k l0 a1_0 l1_1 l2 a3 a4 = some true := by
  obtain ⟨k, hk⟩ := example_holds
  have hE : ∀ m, waveletlaw28_exampleHolds.f (k + m) = some true := fun m => at_rounds waveletlaw28_exampleHolds.mono (by omega) hk
  have b3 := wf_bd w3
  have b4 := wf_bd w4
  have hb0 : Bytes l0 := fun x hx => wf_u8 (w0 x hx)
  have hb1 : Bytes l1_1 := fun x hx => wf_u8 (w1_1 x hx)
  have hb2 : Bytes l2 := fun x hx => wf_u8 (w2 x hx)
  refine ⟨k + 10, ?_⟩
  have hjt : waveletlaw28_MarkerReturns.j0 (k + 10) l0 l2 a3 a4 true a1_0 l1_1 = some true := by
    rw [show k + 10 = (k + 9) + 1 from rfl, waveletlaw28_MarkerReturns.j0, if_pos rfl, hE]; rfl
  unfold waveletlaw28_MarkerReturns.f
  by_cases h1 : (l0.length : Int) > 1000
  · rw [if_pos h1, hjt]
  rw [if_neg h1]
  by_cases h2 : (l1_1.length : Int) > 70000
  · rw [if_pos h2, hjt]
  rw [if_neg h2]
  by_cases h3 : (l2.length : Int) > 100
  · rw [show decide ((l2.length : Int) > 100) = true from decide_eq_true h3, hjt]
  rw [show decide ((l2.length : Int) > 100) = false from decide_eq_false h3]
  have hj1 : waveletlaw28_MarkerReturns.j1 (k + 9) l0 l2 a3 a4 = some true := by
    rw [show k + 9 = (k + 8) + 1 from rfl, waveletlaw28_MarkerReturns.j1, show k + 8 = (k + 2) + 6 from rfl, uint_eq l0 a3 a4 (by omega), show waveletlaw28_exampleHolds.f (k + 2 + 6) = some true from hE 8]
    simp only [Option.bind_some]
    by_cases he : (UI l0 a3 a4).2 = 0
    · have hu : UI l0 a3 a4 = (l0 ++ be a3 a4.toNat, 0) ∧ 1 ≤ a4 ∧ a4 ≤ 4 ∧ 0 ≤ a3 ∧ ¬ 0 < a3 / 2 ^ (8 * a4.toNat) := by
        unfold UI at he ⊢
        by_cases hc : a4 < 1 ∨ 4 < a4 ∨ a3 < 0 ∨ 0 < a3 / 2 ^ (8 * a4.toNat)
        · rw [if_pos hc] at he; simp at he
        · rw [if_neg hc]
          exact ⟨rfl, by omega, by omega, by omega, fun h => hc (.inr (.inr (.inr h)))⟩
      obtain ⟨hu, n1, n4, v0, vz⟩ := hu
      have hlen := be_length a3 a4.toNat
      have hnn : 0 ≤ a3 / 2 ^ (8 * a4.toNat) := Int.ediv_nonneg v0 (Int.pow_nonneg (by omega))
      rw [if_pos he, hu]
      simp only
      rw [if_pos (by simp [hlen]; omega), ru_eq _ _ _ (by simp [hlen]; omega) (by omega)]
      simp only [Option.bind_some]
      rw [ru_mid l0 (be a3 a4.toNat) l2 a4 n1 n4 hlen, num_be a3 v0 a4.toNat (by omega) (by omega)]
      rw [if_pos rfl, if_pos rfl, if_pos (by simp [hlen]; unfold wrap64; omega)]
    · rw [if_neg he]
  rw [show k + 10 = (k + 9) + 1 from rfl, waveletlaw28_MarkerReturns.j0, if_neg (by simp), show k + 9 = (k + 8) + 1 from rfl, append_eq l0 a1_0 l1_1 (by omega) (by omega)]
  simp only [Option.bind_some]
  by_cases he : (App l0 a1_0 l1_1).2 = 0
  · have hA : (App l0 a1_0 l1_1).1.length ≤ 100000 ∧ Bytes (App l0 a1_0 l1_1).1 := by
      have ht : ∀ n : Int, Bytes (two n) := fun n x hx => by
        obtain ⟨a, b, e, ha, hb, _⟩ := two_byte n
        rw [e] at hx
        simp at hx
        rcases hx with rfl | rfl
        · exact ha
        · exact hb
      have happ : ∀ {a b : List Int}, Bytes a → Bytes b → Bytes (a ++ b) := fun ha hb x hx => by
        rcases List.mem_append.1 hx with h | h
        · exact ha x h
        · exact hb x h
      unfold App at he ⊢
      by_cases g1 : Kn a1_0
      · rw [if_neg (fun h => h g1)] at he ⊢
        by_cases g2 : Ba a1_0 ∧ 0 < l1_1.length
        · rw [if_pos g2] at he; simp at he
        rw [if_neg g2] at he ⊢
        by_cases g3 : 65533 < l1_1.length
        · rw [if_pos g3] at he; simp at he
        rw [if_neg g3]
        by_cases g4 : Ba a1_0
        · rw [if_pos g4]
          exact ⟨by simp [two]; omega, happ hb0 (ht _)⟩
        · rw [if_neg g4]
          exact ⟨by simp [two]; omega, happ (happ (happ hb0 (ht _)) (ht _)) hb1⟩
      · rw [if_pos g1] at he; simp at he
    have hB : Bytes ((App l0 a1_0 l1_1).1 ++ l2) := fun x hx => by
      rcases List.mem_append.1 hx with h | h
      · exact hA.2 x h
      · exact hb2 x h
    have hrd := read_eq ((App l0 a1_0 l1_1).1 ++ l2) hB (l0.length : Int) (by have := hA.1; simp; omega) (by omega) (k + 3)
    rw [if_pos he, if_pos (by have := hA.1; omega), show k + 8 + 1 = (k + 3) + 6 from rfl, hrd, read_back l0 l1_1 l2 a1_0 he]
    simp only [Option.bind_some]
    rw [seg_self]
    simp only [Option.bind_some, if_true]
    exact hj1
  · rw [if_neg he]
    exact hj1
end Go.Proofs.Ytbkgcppiipknpaa.Pure
