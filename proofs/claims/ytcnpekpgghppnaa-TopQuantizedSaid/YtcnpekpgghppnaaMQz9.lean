/- Texts of this session (words and printed walks, merged by wip/tools/merge.py) for the statement of the claim. -/
import Derived.Test.YtcnpekpgghppnaaMQz2
import Derived.Test.YtcnpekpgghppnaaMQz5
import Derived.Test.YtcnpekpgghppnaaMQz6
import Derived.Test.YtcnpekpgghppnaaMQz8
import Derived.Test.YtcnpekpgghppnaaMQz3
import Derived.Test.YtcnpekpgghppnaaMQz1
/- The plain law of a line: what is transformed forward is restored, and how large the halves' numbers are. -/
namespace Go.Proofs.Ytcnpekpgghppnaa.Q
open Go.RowKit Go.Proofs.YtcnpekpgghppnaaW.PrintWords Go.Proofs.YtcnpekpgghppnaaW.PrintLast Go.Proofs.YtcnpekpgghppnaaW.PrintMore
set_option linter.unusedVariables false
set_option linter.unusedSimpArgs false

theorem rd_nat (xs : List Int) (i : Nat) : rd xs (i : Int) = xs.getD i 0 := by simp [rd]
theorem rd_mem {xs : List Int} {i : Nat} (h : i < xs.length) : rd xs (i : Int) ∈ xs := by
  rw [rd_nat, List.getD_eq_getElem?_getD, List.getElem?_eq_getElem h]
  exact List.getElem_mem h
theorem ext_rd {xs ys : List Int} (hl : xs.length = ys.length) (h : ∀ j : Nat, j < xs.length → rd xs (j : Int) = rd ys (j : Int)) : xs = ys := by
  apply List.ext_getElem hl
  intro j h1 h2
  have := h j h1
  rw [rd_nat, rd_nat, List.getD_eq_getElem?_getD, List.getD_eq_getElem?_getD, List.getElem?_eq_getElem h1, List.getElem?_eq_getElem h2] at this
  exact this
theorem rd_set_same {xs : List Int} {i : Nat} (h : i < xs.length) (v : Int) : rd (xs.set i v) (i : Int) = v := by
  rw [rd_nat, List.getD_eq_getElem?_getD, List.getElem?_set_self h]
  rfl
theorem rd_set_ne {xs : List Int} {i j : Nat} (h : i ≠ j) (v : Int) : rd (xs.set i v) (j : Int) = rd xs (j : Int) := by
  rw [rd_nat, rd_nat, List.getD_eq_getElem?_getD, List.getD_eq_getElem?_getD, List.getElem?_set_ne h]
theorem tmod_par {s i : Int} (h0 : 0 ≤ s) (h1 : s ≤ 4096) (h2 : 0 ≤ i) (h3 : i ≤ 100000) : Int.tmod (wrap64 (s + i)) 2 = (s + i) % 2 := by
  rw [show wrap64 (s + i) = s + i by unfold wrap64; omega, Int.tmod_eq_emod_of_nonneg (by omega)]
/-- All numbers of a list lie within a bound. -/
def Bd (b : Int) (xs : List Int) : Prop := ∀ v ∈ xs, -b ≤ v ∧ v ≤ b
theorem Bd.at_ {b : Int} {xs : List Int} (h : Bd b xs) (hb : 0 ≤ b) (i : Nat) : -b ≤ rd xs (i : Int) ∧ rd xs (i : Int) ≤ b := by
  by_cases hi : i < xs.length
  · exact h _ (rd_mem hi)
  · rw [rd_nat, List.getD_eq_getElem?_getD, List.getElem?_eq_none (by omega)]
    show -b ≤ 0 ∧ 0 ≤ b
    omega
theorem Bd.of_rd {b : Int} {xs : List Int} (h : ∀ i : Nat, i < xs.length → -b ≤ rd xs (i : Int) ∧ rd xs (i : Int) ≤ b) : Bd b xs := by
  intro v hv
  obtain ⟨i, hi, rfl⟩ := List.getElem_of_mem hv
  have := h i hi
  rwa [rd_nat, List.getD_eq_getElem?_getD, List.getElem?_eq_getElem hi] at this

/-! ### the mirror -/
theorem mir_in {k : Nat} {last i : Int} (h0 : 0 ≤ i) (h1 : i ≤ last) : mirF (k + 1) last i = some i := by
  rw [mirF.eq_2, if_neg (by omega), if_neg (by omega)]
theorem mir_neg {k : Nat} {last i : Int} (h0 : i < 0) (h1 : -100000000 ≤ i) : mirF (k + 1) last i = mirF k last (-i) := by
  rw [mirF.eq_2, if_pos h0, show wrap64 (-i) = -i by unfold wrap64; omega]
theorem mir_pos {k : Nat} {last i : Int} (h0 : 0 ≤ i) (h1 : last < i) (h2 : 0 ≤ last) (h3 : i ≤ 100000000) : mirF (k + 1) last i = mirF k last (2 * last - i) := by
  rw [mirF.eq_2, if_neg (by omega), if_pos (by omega), show wrap64 (wrap64 (2 * last) - i) = 2 * last - i by unfold wrap64; omega]
theorem mirF_ok (k : Nat) (last i : Int) (hk : 6 ≤ k) (h1 : 1 ≤ last) (h2 : last ≤ 1000000) (h3 : -3 ≤ i) (h4 : i ≤ last + 3) : ∃ m, mirF k last i = some m ∧ 0 ≤ m ∧ m ≤ last ∧ (m - i) % 2 = 0 := by
  obtain ⟨k, rfl⟩ : ∃ q, k = q + 1 + 1 + 1 + 1 + 1 + 1 := ⟨k - 6, by omega⟩
  by_cases c0 : i < 0
  · rw [mir_neg c0 (by omega)]
    by_cases c1 : -i ≤ last
    · exact ⟨_, mir_in (by omega) c1, by omega, c1, by omega⟩
    · rw [mir_pos (by omega) (by omega) (by omega) (by omega)]
      by_cases c2 : 2 * last - -i < 0
      · rw [mir_neg c2 (by omega)]
        exact ⟨_, mir_in (by omega) (by omega), by omega, by omega, by omega⟩
      · exact ⟨_, mir_in (by omega) (by omega), by omega, by omega, by omega⟩
  · by_cases c1 : i ≤ last
    · exact ⟨_, mir_in (by omega) c1, by omega, c1, by omega⟩
    · rw [mir_pos (by omega) (by omega) (by omega) (by omega)]
      by_cases c2 : 2 * last - i < 0
      · rw [mir_neg c2 (by omega)]
        by_cases c3 : -(2 * last - i) ≤ last
        · exact ⟨_, mir_in (by omega) c3, by omega, c3, by omega⟩
        · rw [mir_pos (by omega) (by omega) (by omega) (by omega)]
          exact ⟨_, mir_in (by omega) (by omega), by omega, by omega, by omega⟩
      · exact ⟨_, mir_in (by omega) (by omega), by omega, by omega, by omega⟩
theorem atF_ok (k n : Nat) (i : Int) (hk : 6 ≤ k) (h1 : 2 ≤ n) (h2 : n ≤ 1000000) (h3 : -3 ≤ i) (h4 : i ≤ (n : Int) + 2) : ∃ m : Nat, m < n ∧ ((m : Int) - i) % 2 = 0 ∧ ∀ xs : List Int, xs.length = n → atF k xs i = some (rd xs (m : Int)) := by
  obtain ⟨m, hm, a, b, c⟩ := mirF_ok k ((n : Int) - 1) i hk (by omega) (by omega) h3 (by omega)
  obtain ⟨q, rfl⟩ := Int.eq_ofNat_of_zero_le a
  refine ⟨q, by omega, c, fun xs hx => ?_⟩
  unfold atF
  rw [hx, show wrap64 ((n : Int) - 1) = (n : Int) - 1 by unfold wrap64; omega, hm]
  simp only [Option.bind_some]
  rw [if_pos (by omega)]

/-! ### what is predicted, what is updated -/
/-- A function of a line that depends on the numbers of the other parity alone. -/
structure Oth (fq : List Int → Int → Option Int) (start par : Int) (n : Nat) : Prop where
  ex : ∀ xs : List Int, xs.length = n → ∀ i : Nat, i < n → (start + i) % 2 = par → ∃ v, fq xs i = some v
  loc : ∀ xs ys : List Int, xs.length = n → ys.length = n → (∀ j : Nat, j < n → (start + j) % 2 ≠ par → rd xs (j : Int) = rd ys (j : Int)) → ∀ i : Nat, i < n → (start + i) % 2 = par → fq xs i = fq ys i
theorem w1 {i : Nat} {c : Int} (h : i ≤ 1000000) (h0 : -3 ≤ c) (h1 : c ≤ 3) : wrap64 ((i : Int) + c) = (i : Int) + c := by unfold wrap64; omega
theorem w2 {i : Nat} {c : Int} (h : i ≤ 1000000) (h0 : -3 ≤ c) (h1 : c ≤ 3) : wrap64 ((i : Int) - c) = (i : Int) - c := by unfold wrap64; omega
/-- The mirrored places near a place. -/
theorem near (k n i : Nat) (c : Int) (hk : 6 ≤ k) (h1 : 2 ≤ n) (h2 : n ≤ 1000000) (hi : i < n) (hc : c = -3 ∨ c = -1 ∨ c = 1 ∨ c = 3) : ∃ m : Nat, m < n ∧ ((m : Int) - i) % 2 = 1 ∧ ∀ xs : List Int, xs.length = n → atF k xs ((i : Int) + c) = some (rd xs (m : Int)) := by
  obtain ⟨m, a, b, h⟩ := atF_ok k n ((i : Int) + c) hk h1 h2 (by omega) (by omega)
  exact ⟨m, a, by omega, h⟩
theorem pr_ok (kk : Int) (k n : Nat) (start par : Int) (hkk : 1 ≤ kk ∧ kk ≤ 3) (hk : 6 ≤ k) (h1 : 2 ≤ n) (h2 : n ≤ 1000000) : ∀ i : Nat, i < n → ∃ a b c d : Nat, (a < n ∧ ((a : Int) - i) % 2 = 1) ∧ (b < n ∧ ((b : Int) - i) % 2 = 1) ∧ (c < n ∧ ((c : Int) - i) % 2 = 1) ∧ (d < n ∧ ((d : Int) - i) % 2 = 1) ∧ ∀ xs : List Int, xs.length = n → prF kk k xs (i : Int) = some (if kk = 1 then rd xs (a : Int) else if kk = 2 then wrap64 (rd xs (a : Int) + rd xs (b : Int)) / 2 else wrap64 (wrap64 (wrap64 (9 * wrap64 (rd xs (a : Int) + rd xs (b : Int))) - wrap64 (rd xs (c : Int) + rd xs (d : Int))) + 8) / 16) := by
  intro i hi
  obtain ⟨a, a1, a2, a3⟩ := near k n i (-1) hk h1 h2 hi (by omega)
  obtain ⟨b, b1, b2, b3⟩ := near k n i 1 hk h1 h2 hi (by omega)
  obtain ⟨c, c1, c2, c3⟩ := near k n i (-3) hk h1 h2 hi (by omega)
  obtain ⟨d, d1, d2, d3⟩ := near k n i 3 hk h1 h2 hi (by omega)
  refine ⟨a, b, c, d, ⟨a1, a2⟩, ⟨b1, b2⟩, ⟨c1, c2⟩, ⟨d1, d2⟩, fun xs hx => ?_⟩
  have A := a3 xs hx
  have B := b3 xs hx
  have C := c3 xs hx
  have D := d3 xs hx
  rw [show (i : Int) + -1 = (i : Int) - 1 by omega] at A
  rw [show (i : Int) + -3 = (i : Int) - 3 by omega] at C
  unfold prF
  by_cases e1 : kk = 1
  · rw [if_pos e1, if_pos e1]
    unfold pr1F
    rw [w2 (by omega) (by omega) (by omega), A]
  · rw [if_neg e1, if_neg e1]
    by_cases e2 : kk = 2
    · rw [if_pos e2, if_pos e2]
      unfold pr2F
      rw [w2 (by omega) (by omega) (by omega), w1 (by omega) (by omega) (by omega), A, B]
      rfl
    · rw [if_neg e2, if_neg e2]
      unfold pr3F
      rw [w2 (by omega) (by omega) (by omega), w1 (by omega) (by omega) (by omega), w2 (by omega) (by omega) (by omega), w1 (by omega) (by omega) (by omega), A, B, C, D]
      rfl
theorem up_ok (kk : Int) (k n : Nat) (start par : Int) (hkk : 1 ≤ kk ∧ kk ≤ 3) (hk : 6 ≤ k) (h1 : 2 ≤ n) (h2 : n ≤ 1000000) : ∀ i : Nat, i < n → ∃ a b : Nat, (a < n ∧ ((a : Int) - i) % 2 = 1) ∧ (b < n ∧ ((b : Int) - i) % 2 = 1) ∧ ∀ xs : List Int, xs.length = n → upF kk k xs (i : Int) = some (if kk = 1 then rd xs (b : Int) / 2 else wrap64 (wrap64 (rd xs (a : Int) + rd xs (b : Int)) + 2) / 4) := by
  intro i hi
  obtain ⟨a, a1, a2, a3⟩ := near k n i (-1) hk h1 h2 hi (by omega)
  obtain ⟨b, b1, b2, b3⟩ := near k n i 1 hk h1 h2 hi (by omega)
  refine ⟨a, b, ⟨a1, a2⟩, ⟨b1, b2⟩, fun xs hx => ?_⟩
  have A := a3 xs hx
  have B := b3 xs hx
  rw [show (i : Int) + -1 = (i : Int) - 1 by omega] at A
  unfold upF
  by_cases e1 : kk = 1
  · rw [if_pos e1, if_pos e1]
    unfold up1F
    rw [w1 (by omega) (by omega) (by omega), B]
    rfl
  · rw [if_neg e1, if_neg e1]
    unfold up2F
    rw [w2 (by omega) (by omega) (by omega), w1 (by omega) (by omega) (by omega), A, B]
    rfl
theorem pr_oth (kk : Int) (k n : Nat) (start par : Int) (hkk : 1 ≤ kk ∧ kk ≤ 3) (hk : 6 ≤ k) (h1 : 2 ≤ n) (h2 : n ≤ 1000000) : Oth (prF kk k) start par n :=
  ⟨fun xs hx i hi _ => by
    obtain ⟨a, b, c, d, _, _, _, _, h⟩ := pr_ok kk k n start par hkk hk h1 h2 i hi
    exact ⟨_, h xs hx⟩, fun xs ys hx hy hj i hi hp => by
    obtain ⟨a, b, c, d, ha, hb, hc, hd, h⟩ := pr_ok kk k n start par hkk hk h1 h2 i hi
    rw [h xs hx, h ys hy, hj a ha.1 (by omega), hj b hb.1 (by omega), hj c hc.1 (by omega), hj d hd.1 (by omega)]⟩
theorem up_oth (kk : Int) (k n : Nat) (start par : Int) (hkk : 1 ≤ kk ∧ kk ≤ 3) (hk : 6 ≤ k) (h1 : 2 ≤ n) (h2 : n ≤ 1000000) : Oth (upF kk k) start par n :=
  ⟨fun xs hx i hi _ => by
    obtain ⟨a, b, _, _, h⟩ := up_ok kk k n start par hkk hk h1 h2 i hi
    exact ⟨_, h xs hx⟩, fun xs ys hx hy hj i hi hp => by
    obtain ⟨a, b, ha, hb, h⟩ := up_ok kk k n start par hkk hk h1 h2 i hi
    rw [h xs hx, h ys hy, hj a ha.1 (by omega), hj b hb.1 (by omega)]⟩
theorem pr_bound {kk : Int} {k n : Nat} {C v : Int} (hkk : 1 ≤ kk ∧ kk ≤ 3) (hk : 6 ≤ k) (h1 : 2 ≤ n) (h2 : n ≤ 1000000) (hC : 0 ≤ C) (hC1 : C ≤ 1152921504606846976 / 16) {xs : List Int} (hx : xs.length = n) (hb : Bd C xs) {i : Nat} (hi : i < n) (h : prF kk k xs (i : Int) = some v) : -(5 * C + 2) ≤ 4 * v ∧ 4 * v ≤ 5 * C + 2 := by
  obtain ⟨a, b, c, d, _, _, _, _, h'⟩ := pr_ok kk k n 0 0 hkk hk h1 h2 i hi
  rw [h' xs hx] at h
  have A := hb.at_ hC a
  have B := hb.at_ hC b
  have Cc := hb.at_ hC c
  have D := hb.at_ hC d
  generalize rd xs (a : Int) = a at *
  generalize rd xs (b : Int) = b at *
  generalize rd xs (c : Int) = c at *
  generalize rd xs (d : Int) = d at *
  obtain rfl := Option.some.inj h
  by_cases e1 : kk = 1
  · rw [if_pos e1]; omega
  · rw [if_neg e1]
    by_cases e2 : kk = 2
    · rw [if_pos e2, show wrap64 (a + b) = a + b by unfold wrap64; omega]; omega
    · rw [if_neg e2, show wrap64 (wrap64 (wrap64 (9 * wrap64 (a + b)) - wrap64 (c + d)) + 8) = 9 * (a + b) - (c + d) + 8 by unfold wrap64; omega]; omega
theorem up_bound {kk : Int} {k n : Nat} {C v : Int} {start : Int} (hkk : 1 ≤ kk ∧ kk ≤ 3) (hk : 6 ≤ k) (h1 : 2 ≤ n) (h2 : n ≤ 1000000) (hC : 0 ≤ C) (hC1 : C ≤ 1152921504606846976 / 4) {xs : List Int} (hx : xs.length = n) (hb : ∀ j : Nat, j < n → (start + j) % 2 ≠ 0 → -C ≤ rd xs (j : Int) ∧ rd xs (j : Int) ≤ C) {i : Nat} (hi : i < n) (hp : (start + i) % 2 = 0) (h : upF kk k xs (i : Int) = some v) : -(2 * C + 2) ≤ 4 * v ∧ 4 * v ≤ 2 * C + 2 := by
  obtain ⟨a, b, ha, hb', h'⟩ := up_ok kk k n 0 0 hkk hk h1 h2 i hi
  rw [h' xs hx] at h
  have A := hb a ha.1 (by omega)
  have B := hb b hb'.1 (by omega)
  generalize rd xs (a : Int) = a at *
  generalize rd xs (b : Int) = b at *
  obtain rfl := Option.some.inj h
  by_cases e1 : kk = 1
  · rw [if_pos e1]; omega
  · rw [if_neg e1, show wrap64 (wrap64 (a + b) + 2) = a + b + 2 by unfold wrap64; omega]; omega

/-! ### a step -/
theorem stepF_spec {fq : List Int → Int → Option Int} {start par sg : Int} {n : Nat} (hs0 : 0 ≤ start) (hs1 : start ≤ 4096) (hn : n ≤ 4096) (ho : Oth fq start par n) :
    ∀ (k i : Nat) (xs : List Int), xs.length = n → i ≤ n → n < k + i → ∃ ys, stepF fq start par sg k (i : Int) xs = some ys ∧ ys.length = n ∧ (∀ j : Nat, j < i → rd ys (j : Int) = rd xs (j : Int)) ∧ ∀ j : Nat, i ≤ j → j < n → ((start + j) % 2 ≠ par → rd ys (j : Int) = rd xs (j : Int)) ∧ ((start + j) % 2 = par → ∃ v, fq xs (j : Int) = some v ∧ rd ys (j : Int) = wrap64 (rd xs (j : Int) + wrap64 (sg * v)))
  | 0, i, xs, hx, hi, hk => by omega
  | k + 1, i, xs, hx, hi, hk => by
    rw [stepF.eq_2]
    by_cases c : i < n
    · rw [if_pos (by omega), if_pos (by omega), tmod_par hs0 hs1 (by omega) (by omega)]
      have hw : wrap64 ((i : Int) + 1) = ((i + 1 : Nat) : Int) := by unfold wrap64; omega
      by_cases p : (start + i) % 2 = par
      · rw [if_pos p]
        obtain ⟨v, hv⟩ := ho.ex xs hx i c p
        rw [hv]
        simp only [Option.bind_some]
        rw [hw, Int.toNat_natCast]
        obtain ⟨ys, h1, h2, h3, h4⟩ := stepF_spec hs0 hs1 hn ho k (i + 1) (xs.set i (wrap64 (rd xs i + wrap64 (sg * v)))) (by rw [List.length_set, hx]) (by omega) (by omega)
        refine ⟨ys, h1, h2, fun j hj => by rw [h3 j (by omega), rd_set_ne (by omega)], fun j hj hjn => ?_⟩
        by_cases e : j = i
        · subst e
          rw [h3 j (by omega), rd_set_same (by omega)]
          exact ⟨fun h => absurd p h, fun _ => ⟨v, hv, rfl⟩⟩
        · have := h4 j (by omega) hjn
          rw [rd_set_ne (by omega)] at this
          refine ⟨this.1, fun hp => ?_⟩
          obtain ⟨u, hu, hr⟩ := this.2 hp
          refine ⟨u, ?_, hr⟩
          rw [← hu]
          refine ho.loc _ _ hx (by rw [List.length_set, hx]) (fun q _ hq => ?_) j hjn hp
          rw [rd_set_ne (by intro e; subst e; exact hq p)]
      · rw [if_neg p, hw]
        obtain ⟨ys, h1, h2, h3, h4⟩ := stepF_spec hs0 hs1 hn ho k (i + 1) xs hx (by omega) (by omega)
        refine ⟨ys, h1, h2, fun j hj => h3 j (by omega), fun j hj hjn => ?_⟩
        by_cases e : j = i
        · subst e
          exact ⟨fun _ => h3 j (by omega), fun h => absurd h p⟩
        · exact h4 j (by omega) hjn
    · rw [if_neg (by omega)]
      exact ⟨xs, rfl, hx, fun _ _ => rfl, fun j hj hjn => by omega⟩
theorem step_back {fq : List Int → Int → Option Int} {start par sg : Int} {n k : Nat} (hs0 : 0 ≤ start) (hs1 : start ≤ 4096) (hn : n ≤ 4096) (ho : Oth fq start par n) (hk : n < k) (hsg : sg = 1 ∨ sg = -1) {xs ys : List Int} (hx : xs.length = n) (hb : Bd 9223372036854775807 xs) (h : stepF fq start par sg k 0 xs = some ys) : stepF fq start par (-sg) k 0 ys = some xs := by
  obtain ⟨ys', h1, h2, _, h4⟩ := stepF_spec (sg := sg) hs0 hs1 hn ho k 0 xs hx (by omega) (by omega)
  obtain rfl : ys' = ys := by
    have := h1.symm.trans h
    exact Option.some.inj this
  obtain ⟨zs, g1, g2, _, g4⟩ := stepF_spec (sg := -sg) hs0 hs1 hn ho k 0 ys' h2 (by omega) (by omega)
  rw [show (0 : Int) = ((0 : Nat) : Int) from rfl, g1]
  congr 1
  refine ext_rd (by rw [g2, hx]) fun j hj => ?_
  have a := h4 j (by omega) (by omega)
  have b := g4 j (by omega) (by omega)
  by_cases p : (start + j) % 2 = par
  · obtain ⟨v, hv, e1⟩ := a.2 p
    obtain ⟨u, hu, e2⟩ := b.2 p
    have : fq xs j = fq ys' j := ho.loc _ _ hx h2 (fun q hq hp => ((h4 q (by omega) hq).1 hp).symm) j (by omega) p
    rw [← this, hv] at hu
    obtain rfl := Option.some.inj hu
    rw [e2, e1]
    have := hb.at_ (by decide) j
    generalize rd xs (j : Int) = x at *
    rcases hsg with rfl | rfl <;> · unfold wrap64; omega
  · rw [b.1 p, a.1 p]

/-! ### apart and together -/
theorem splitF_spec {start : Int} {n : Nat} {z : List Int} (hs0 : 0 ≤ start) (hs1 : start ≤ 4096) (hn : n ≤ 4096) (hz : z.length = n) :
    ∀ (k i : Nat) (lo hi : List Int), i ≤ n → n < k + i → lo.length + hi.length ≤ i → ∃ lo1 hi1, splitF start z k (i : Int) lo hi = some (lo ++ lo1, hi ++ hi1) ∧ lo1.length + hi1.length = n - i ∧ (lo1.length : Int) = (start + n + 1) / 2 - (start + i + 1) / 2 ∧ (∀ v ∈ lo1, v ∈ z) ∧ (∀ v ∈ hi1, v ∈ z) ∧ ∀ (L H : List Int) (a b : Nat) (x : List Int), L.drop a = lo1 → H.drop b = hi1 → x.length = n → a + b ≤ i → joinF start L H (n : Int) k (i : Int) (a : Int) (b : Int) x = some (x.take i ++ z.drop i)
  | 0, i, lo, hi, h1, h2, h3 => by omega
  | k + 1, i, lo, hi, h1, h2, h3 => by
    rw [splitF.eq_2]
    by_cases c : i < n
    · rw [if_pos (by omega), if_pos (by omega), if_pos (by omega), tmod_par hs0 hs1 (by omega) (by omega)]
      have hw : wrap64 ((i : Int) + 1) = ((i + 1 : Nat) : Int) := by unfold wrap64; omega
      have hzd : z.drop i = rd z (i : Int) :: z.drop (i + 1) := by
        rw [List.drop_eq_getElem_cons (by omega), rd_nat, List.getD_eq_getElem?_getD, List.getElem?_eq_getElem (by omega)]
        rfl
      have hset : ∀ (x : List Int), x.length = n → (x.set i (rd z (i : Int))).take (i + 1) ++ z.drop (i + 1) = x.take i ++ z.drop i := by
        intro x hx
        rw [hzd, List.take_succ_eq_append_getElem (by simp; omega), List.take_set_of_le (Nat.le_refl _)]
        simp
      have hat : ∀ (L : List Int) (a : Nat) (l : List Int), L.drop a = rd z (i : Int) :: l → a < L.length ∧ rd L (a : Int) = rd z (i : Int) ∧ L.drop (a + 1) = l := by
        intro L a l h
        have ha : a < L.length := by
          have := congrArg List.length h
          simp at this
          omega
        rw [List.drop_eq_getElem_cons ha] at h
        have h' := List.cons.inj h
        refine ⟨ha, ?_, h'.2⟩
        rw [rd_nat, List.getD_eq_getElem?_getD, List.getElem?_eq_getElem ha]
        exact h'.1
      by_cases p : (start + i) % 2 = 0
      · rw [if_pos p, hw]
        obtain ⟨lo1, hi1, e1, e2, e3, e4, e5, e6⟩ := splitF_spec hs0 hs1 hn hz k (i + 1) (lo ++ [rd z i]) hi (by omega) (by omega) (by simp; omega)
        refine ⟨rd z i :: lo1, hi1, by rw [e1]; simp, by simp; omega, by simp; omega, ?_, e5, ?_⟩
        · intro v hv
          rcases List.mem_cons.mp hv with rfl | hv
          · exact rd_mem (by omega)
          · exact e4 v hv
        · intro L H a b x hL hH hx hab
          obtain ⟨q1, q2, q3⟩ := hat L a lo1 hL
          rw [joinF.eq_2, if_pos (by omega), if_pos (by omega), tmod_par hs0 hs1 (by omega) (by omega), if_pos p, if_pos (by omega), hw, show wrap64 ((a : Int) + 1) = ((a + 1 : Nat) : Int) by unfold wrap64; omega, q2, Int.toNat_natCast,
            e6 L H (a + 1) b _ q3 hH (by rw [List.length_set, hx]) (by omega), hset x hx]
      · rw [if_neg p, hw]
        obtain ⟨lo1, hi1, e1, e2, e3, e4, e5, e6⟩ := splitF_spec hs0 hs1 hn hz k (i + 1) lo (hi ++ [rd z i]) (by omega) (by omega) (by simp; omega)
        refine ⟨lo1, rd z i :: hi1, by rw [e1]; simp, by simp; omega, by omega, e4, ?_, ?_⟩
        · intro v hv
          rcases List.mem_cons.mp hv with rfl | hv
          · exact rd_mem (by omega)
          · exact e5 v hv
        · intro L H a b x hL hH hx hab
          obtain ⟨q1, q2, q3⟩ := hat H b hi1 hH
          rw [joinF.eq_2, if_pos (by omega), if_pos (by omega), tmod_par hs0 hs1 (by omega) (by omega), if_neg p, if_pos (by omega), hw, show wrap64 ((b : Int) + 1) = ((b + 1 : Nat) : Int) by unfold wrap64; omega, q2, Int.toNat_natCast,
            e6 L H a (b + 1) _ hL q3 (by rw [List.length_set, hx]) (by omega), hset x hx]
    · rw [if_neg (by omega)]
      have : i = n := by omega
      subst this
      refine ⟨[], [], by simp, by simp, by simp, by simp, by simp, ?_⟩
      intro L H a b x hL hH hx hab
      rw [joinF.eq_2, if_neg (by omega), ← hx, List.take_length, hx, ← hz, List.drop_length, List.append_nil]

/-! ### a line -/
theorem split_join {start : Int} {n k : Nat} {z : List Int} (hs0 : 0 ≤ start) (hs1 : start ≤ 4096) (hn : n ≤ 4096) (hz : z.length = n) (hk : n < k) : ∃ lo hi, splitF start z k 0 [] [] = some (lo, hi) ∧ lo.length + hi.length = n ∧ (lo.length : Int) = (start + n + 1) / 2 - (start + 1) / 2 ∧ (∀ v ∈ lo, v ∈ z) ∧ (∀ v ∈ hi, v ∈ z) ∧ joinF start lo hi ((lo.length + hi.length : Nat) : Int) k 0 0 0 (List.replicate (lo.length + hi.length) 0) = some z := by
  obtain ⟨lo, hi, e1, e2, e3, e4, e5, e6⟩ := splitF_spec hs0 hs1 hn hz k 0 [] [] (by omega) (by omega) (by simp)
  refine ⟨lo, hi, by simpa using e1, by omega, by simpa using e3, e4, e5, ?_⟩
  rw [e2]
  have := e6 lo hi 0 0 (List.replicate n 0) rfl rfl (by simp) (by omega)
  simpa using this
theorem fwd_ok (kk : Int) (start : Int) (k : Nat) (xs : List Int) (b : Int) (hkk : 1 ≤ kk ∧ kk ≤ 3) (hs0 : 0 ≤ start) (hs1 : start ≤ 4096) (hn : xs.length ≤ 4096) (hk : 4096 < k) (hb1 : 1 ≤ b) (hb2 : b ≤ 17592186044416) (hb : Bd (2 * b) xs) :
    ∃ lo hi, fwdF kk k start xs = some (lo, hi) ∧ lo.length + hi.length = xs.length ∧ (lo.length : Int) = (start + xs.length + 1) / 2 - (start + 1) / 2 ∧ Bd (5 * b) lo ∧ Bd (5 * b) hi ∧ invF kk k start lo hi = some xs := by
  unfold fwdF invF
  obtain ⟨n, hxn⟩ : ∃ n, xs.length = n := ⟨_, rfl⟩
  by_cases c : 1 < xs.length
  · rw [if_pos (by omega)]
    rw [hxn] at c hn
    have op := pr_oth kk k n start 1 hkk (by omega) (by omega) (by omega)
    have ou := up_oth kk k n start 0 hkk (by omega) (by omega) (by omega)
    obtain ⟨y, y1, y2, _, y4⟩ := stepF_spec (sg := -1) hs0 hs1 hn op k 0 xs hxn (by omega) (by omega)
    obtain ⟨z, z1, z2, _, z4⟩ := stepF_spec (sg := 1) hs0 hs1 hn ou k 0 y y2 (by omega) (by omega)
    rw [show ((0 : Nat) : Int) = 0 from rfl] at y1 z1
    obtain ⟨lo, hi, s1, s2, s3, s4, s5, s6⟩ := split_join hs0 hs1 hn z2 (k := k) (by omega)
    have hyb : ∀ j : Nat, j < n → (start + j) % 2 ≠ 0 → 4 * rd y (j : Int) ≤ 18 * b + 2 ∧ -(18 * b + 2) ≤ 4 * rd y (j : Int) := by
      intro j hj hp
      obtain ⟨v, hv, e⟩ := (y4 j (by omega) hj).2 (by omega)
      have hv' := pr_bound hkk (by omega) (by omega) (by omega) (by omega) (by omega) hxn hb hj hv
      have hx := hb.at_ (by omega) j
      rw [e, show wrap64 (rd xs (j : Int) + wrap64 (-1 * v)) = rd xs (j : Int) - v by unfold wrap64; omega]
      omega
    have hzb : Bd (5 * b) z := by
      refine Bd.of_rd fun j hj => ?_
      rw [z2] at hj
      by_cases p : (start + j) % 2 = 0
      · obtain ⟨v, hv, e⟩ := (z4 j (by omega) hj).2 p
        have hv' := up_bound (C := (18 * b + 2) / 4) hkk (by omega) (by omega) (by omega) (by omega) (by omega) y2 (fun q hq hp => by have := hyb q hq hp; omega) hj p hv
        have hx := hb.at_ (by omega) j
        have hy := (y4 j (by omega) hj).1 (by omega)
        rw [e, hy, show wrap64 (rd xs (j : Int) + wrap64 (1 * v)) = rd xs (j : Int) + v by unfold wrap64; omega]
        omega
      · rw [(z4 j (by omega) hj).1 p]
        have := hyb j hj p
        omega
    have hyB : Bd 9223372036854775807 y := by
      refine Bd.of_rd fun j hj => ?_
      rw [y2] at hj
      by_cases p : (start + j) % 2 = 0
      · rw [(y4 j (by omega) hj).1 (by omega)]
        have hx := hb.at_ (by omega) j
        omega
      · have := hyb j hj p
        omega
    refine ⟨lo, hi, by rw [y1, Option.bind_some, z1, Option.bind_some, s1], by omega, by rw [hxn]; exact s3, fun v hv => hzb v (s4 v hv), fun v hv => hzb v (s5 v hv), ?_⟩
    rw [s6, Option.bind_some, if_pos (by omega), step_back (sg := 1) hs0 hs1 hn ou (by omega) (Or.inl rfl) y2 hyB z1, Option.bind_some]
    exact step_back (sg := -1) hs0 hs1 hn op (by omega) (Or.inr rfl) hxn (fun v hv => by have := hb v hv; omega) y1
  · rw [if_neg (by omega)]
    rw [hxn] at c hn
    obtain ⟨lo, hi, s1, s2, s3, s4, s5, s6⟩ := split_join hs0 hs1 hn hxn (k := k) (by omega)
    refine ⟨lo, hi, s1, by omega, by rw [hxn]; exact s3, fun v hv => by have := hb v (s4 v hv); omega, fun v hv => by have := hb v (s5 v hv); omega, ?_⟩
    rw [s6, Option.bind_some, if_neg (by omega)]
end Go.Proofs.Ytcnpekpgghppnaa.Q

/- The plain law of rows and columns: what the two-dimensional transform takes apart is put together again. -/
namespace Go.Proofs.Ytcnpekpgghppnaa.Q
open Go.RowKit Go.Proofs.YtcnpekpgghppnaaW.PrintWords Go.Proofs.YtcnpekpgghppnaaW.PrintLast Go.Proofs.YtcnpekpgghppnaaW.PrintMore
set_option linter.unusedVariables false
set_option linter.unusedSimpArgs false

/-! ### bounds -/
theorem wid {n : Int} (h0 : -4611686018427387904 ≤ n) (h1 : n ≤ 4611686018427387904) : wrap64 n = n := by unfold wrap64; omega
theorem bounded_l0 {b : Int} {xs : List Int} (hb : Bd b xs) (h0 : 0 ≤ b) (h1 : b ≤ 4611686018427387904) (hn : xs.length ≤ 4611686018427387904) : ∀ (k i : Nat), i ≤ xs.length → xs.length < k + i → lift_bounded.l0 k b xs (xs.length : Int) (i : Int) = some true
  | 0, i, hi, hk => by omega
  | k + 1, i, hi, hk => by
    rw [lift_bounded.l0.eq_2]
    by_cases c : i < xs.length
    · have := hb.at_ h0 i
      rw [if_pos (by omega), if_pos (by omega), if_pos (by omega), if_neg (by rw [wid (by omega) (by omega)]; omega), if_neg (by omega), show wrap64 ((i : Int) + 1) = ((i + 1 : Nat) : Int) from wid (by omega) (by omega)]
      exact bounded_l0 hb h0 h1 hn k (i + 1) (by omega) (by omega)
    · rw [if_neg (by omega)]
theorem bounded_f {b : Int} {xs : List Int} {k : Nat} (hb : Bd b xs) (h0 : 0 ≤ b) (h1 : b ≤ 4611686018427387904) (hn : xs.length < k) (hk : k ≤ 4611686018427387904) : lift_bounded.f k xs b = some true :=
  bounded_l0 hb h0 h1 (by omega) k 0 (by omega) (by omega)
theorem dexceeds_l0 {b : Int} {xs : List Int} (hb : Bd b xs) (h0 : 0 ≤ b) (h1 : b ≤ 4611686018427387904) (hn : xs.length ≤ 4611686018427387904) : ∀ (k i : Nat), i ≤ xs.length → xs.length < k + i → dwt_exceeds.l0 k b xs (xs.length : Int) (i : Int) = some false
  | 0, i, hi, hk => by omega
  | k + 1, i, hi, hk => by
    rw [dwt_exceeds.l0.eq_2]
    by_cases c : i < xs.length
    · have := hb.at_ h0 i
      rw [if_pos (by omega), if_pos (by omega), if_pos (by omega), if_neg (by omega), if_neg (by rw [wid (by omega) (by omega)]; omega), show wrap64 ((i : Int) + 1) = ((i + 1 : Nat) : Int) from wid (by omega) (by omega)]
      exact dexceeds_l0 hb h0 h1 hn k (i + 1) (by omega) (by omega)
    · rw [if_neg (by omega)]
theorem dexceeds_f {b : Int} {xs : List Int} {k : Nat} (hb : Bd b xs) (h0 : 0 ≤ b) (h1 : b ≤ 4611686018427387904) (hn : xs.length < k) (hk : k ≤ 4611686018427387904) : dwt_exceeds.f k xs b = some false :=
  dexceeds_l0 hb h0 h1 (by omega) k 0 (by omega) (by omega)
theorem pexceeds_l0 {b : Int} {xs : List Int} (hb : Bd b xs) (h0 : 0 ≤ b) (h1 : b ≤ 4611686018427387904) (hn : xs.length ≤ 4611686018427387904) : ∀ (k i : Nat), i ≤ xs.length → xs.length < k + i → pyramid_exceeds.l0 k b xs (xs.length : Int) (i : Int) = some false
  | 0, i, hi, hk => by omega
  | k + 1, i, hi, hk => by
    rw [pyramid_exceeds.l0.eq_2]
    by_cases c : i < xs.length
    · have := hb.at_ h0 i
      rw [if_pos (by omega), if_pos (by omega), if_pos (by omega), if_neg (by omega), if_neg (by rw [wid (by omega) (by omega)]; omega), show wrap64 ((i : Int) + 1) = ((i + 1 : Nat) : Int) from wid (by omega) (by omega)]
      exact pexceeds_l0 hb h0 h1 hn k (i + 1) (by omega) (by omega)
    · rw [if_neg (by omega)]
theorem pexceeds_f {b : Int} {xs : List Int} {k : Nat} (hb : Bd b xs) (h0 : 0 ≤ b) (h1 : b ≤ 4611686018427387904) (hn : xs.length < k) (hk : k ≤ 4611686018427387904) : pyramid_exceeds.f k xs b = some false :=
  pexceeds_l0 hb h0 h1 (by omega) k 0 (by omega) (by omega)
theorem Bd.mono {b c : Int} {xs : List Int} (h : Bd b xs) (hc : b ≤ c) : Bd c xs := fun v hv => by have := h v hv; omega

/-! ### cells -/
/-- The j-th number of the i-th row. -/
def cell (w : Nat) (D : List Int) (i j : Nat) : Int := rd D ((i * w + j : Nat) : Int)
theorem in_rows {h w i j : Nat} (hi : i < h) (hj : j < w) : i * w + j < h * w := by
  have : (i + 1) * w ≤ h * w := Nat.mul_le_mul_right w hi
  rw [Nat.succ_mul] at this
  omega
theorem ext_cell {w h : Nat} {D E : List Int} (hD : D.length = h * w) (hE : E.length = h * w) (H : ∀ i j : Nat, i < h → j < w → cell w D i j = cell w E i j) : D = E := by
  refine ext_rd (by rw [hD, hE]) fun p hp => ?_
  rw [hD] at hp
  have hw : 0 < w := by
    rcases Nat.eq_zero_or_pos w with e | e
    · subst e; simp at hp
    · exact e
  have h1 : p / w < h := Nat.div_lt_of_lt_mul (by rwa [Nat.mul_comm] at hp)
  have h2 := H (p / w) (p % w) h1 (Nat.mod_lt _ hw)
  unfold cell at h2
  rwa [show p / w * w + p % w = p from by rw [Nat.mul_comm]; exact Nat.div_add_mod p w] at h2
theorem place_ne {w i j a b : Nat} (hj : j < w) (hb : b < w) (h : ¬ (i = a ∧ j = b)) : i * w + j ≠ a * w + b := by
  intro e
  apply h
  have h1 : (i * w + j) % w = (a * w + b) % w := by rw [e]
  have h2 : (i * w + j) / w = (a * w + b) / w := by rw [e]
  rw [Nat.add_comm, Nat.add_comm (a * w), Nat.add_mul_mod_self_right, Nat.add_mul_mod_self_right, Nat.mod_eq_of_lt hj, Nat.mod_eq_of_lt hb] at h1
  rw [Nat.add_comm, Nat.add_comm (a * w), Nat.add_mul_div_right _ _ (by omega), Nat.add_mul_div_right _ _ (by omega), Nat.div_eq_of_lt hj, Nat.div_eq_of_lt hb] at h2
  omega
/-- A column. -/
def colOf (w h : Nat) (D : List Int) (j : Nat) : List Int := (List.range h).map fun i => cell w D i j
theorem colOf_len (w h : Nat) (D : List Int) (j : Nat) : (colOf w h D j).length = h := by simp [colOf]
theorem colOf_rd {w h : Nat} {D : List Int} {i j : Nat} (hi : i < h) : rd (colOf w h D j) (i : Int) = cell w D i j := by
  rw [rd_nat, List.getD_eq_getElem?_getD, colOf, List.getElem?_map, List.getElem?_range hi]
  rfl
theorem colOf_bd {b : Int} {w h : Nat} {D : List Int} {j : Nat} (hb : Bd b D) (h0 : 0 ≤ b) : Bd b (colOf w h D j) := Bd.of_rd fun i hi => by
  rw [colOf_len] at hi
  rw [colOf_rd hi]
  exact hb.at_ h0 _
/-- A row. -/
def rowOf (w : Nat) (D : List Int) (i : Nat) : List Int := List.take w (List.drop (i * w) D)
theorem rowOf_len {w h : Nat} {D : List Int} (hD : D.length = h * w) {i : Nat} (hi : i < h) : (rowOf w D i).length = w := by
  have : (i + 1) * w ≤ h * w := Nat.mul_le_mul_right w hi
  rw [Nat.succ_mul] at this
  rw [rowOf, List.length_take, List.length_drop, hD]
  omega
theorem rowOf_bd {b : Int} {w : Nat} {D : List Int} {i : Nat} (hb : Bd b D) : Bd b (rowOf w D i) := fun v hv => hb v (List.mem_of_mem_drop (List.mem_of_mem_take hv))
theorem rowOf_rd {w : Nat} {D : List Int} {i j : Nat} (hj : j < w) : rd (rowOf w D i) (j : Int) = cell w D i j := by
  unfold rowOf cell
  rw [rd_nat, rd_nat, List.getD_eq_getElem?_getD, List.getD_eq_getElem?_getD, List.getElem?_take_of_lt hj, List.getElem?_drop]
theorem colF_spec {w h : Nat} {D : List Int} (hD : D.length = h * w) (hm : h * w ≤ 1048576) (hw : w ≤ 4096) (hh : h ≤ 4096) {j : Nat} (hj : j < w) :
    ∀ (k i : Nat) (acc : List Int), i ≤ h → h < k + i → acc.length = i → colF (w : Int) D k ((i * w + j : Nat) : Int) acc = some (acc ++ ((List.range h).drop i).map fun i => cell w D i j)
  | 0, i, acc, h1, h2, h3 => by omega
  | k + 1, i, acc, h1, h2, h3 => by
    rw [colF.eq_2]
    by_cases c : i < h
    · have hp := in_rows c hj
      have e : (i + 1) * w = i * w + w := Nat.succ_mul i w
      rw [if_pos (by omega), if_pos (by omega), if_pos (by omega), show wrap64 (((i * w + j : Nat) : Int) + (w : Int)) = (((i + 1) * w + j : Nat) : Int) by rw [e, wid (by omega) (by omega)]; omega,
        colF_spec hD hm hw hh hj k (i + 1) _ (by omega) (by omega) (by simp [h3])]
      rw [List.append_assoc]
      congr 2
      rw [List.drop_eq_getElem_cons (l := List.range h) (i := i) (by simpa using c), List.map_cons, List.getElem_range]
      rfl
    · obtain rfl : i = h := by omega
      rw [if_neg (by omega), List.drop_of_length_le (by simp)]
      simp
theorem colF_ok {w h : Nat} {D : List Int} (hD : D.length = h * w) (hm : h * w ≤ 1048576) (hw : w ≤ 4096) (hh : h ≤ 4096) {j k : Nat} (hj : j < w) (hk : h < k) : colF (w : Int) D k (j : Int) [] = some (colOf w h D j) := by
  have := colF_spec hD hm hw hh hj k 0 [] (by omega) (by omega) rfl
  simpa [colOf] using this
theorem setF_spec {w h : Nat} (hm : h * w ≤ 1048576) (hw : w ≤ 4096) (hh : h ≤ 4096) {x0 : Int} (h0 : 0 ≤ x0) (h1 : x0 ≤ 4096) {j : Nat} (hj : j < w) {col : List Int} (hc : col.length = h) :
    ∀ (k i : Nat) (D : List Int), D.length = h * w → i ≤ h → h < k + i → ∃ E, setF (x0 + (j : Int)) x0 (w : Int) col k (i : Int) D = some E ∧ E.length = h * w ∧ ∀ a b : Nat, a < h → b < w → cell w E a b = if b = j ∧ i ≤ a then rd col (a : Int) else cell w D a b
  | 0, i, D, hD, h1, h2 => by omega
  | k + 1, i, D, hD, h1, h2 => by
    rw [setF.eq_2]
    by_cases c : i < h
    · have hp := in_rows c hj
      have hca : colAt (x0 + (j : Int)) x0 (w : Int) (i : Int) = ((i * w + j : Nat) : Int) := by
        unfold colAt
        rw [← Int.natCast_mul]
        generalize i * w = p at hp
        rw [wid (n := (p : Int)) (by omega) (by omega), wid (n := (p : Int) + (x0 + (j : Int))) (by omega) (by omega), wid (n := (p : Int) + (x0 + (j : Int)) - x0) (by omega) (by omega)]
        omega
      rw [if_pos (by omega), if_pos (by omega), hca]
      clear hca
      rw [if_pos (by omega), show wrap64 ((i : Int) + 1) = ((i + 1 : Nat) : Int) from wid (by omega) (by omega), Int.toNat_natCast]
      obtain ⟨E, e1, e2, e3⟩ := setF_spec hm hw hh h0 (by omega) hj hc k (i + 1) (D.set (i * w + j) (rd col (i : Int))) (by rw [List.length_set, hD]) (by omega) (by omega)
      refine ⟨E, e1, e2, fun a b ha hb => ?_⟩
      rw [e3 a b ha hb]
      by_cases q : b = j ∧ i + 1 ≤ a
      · rw [if_pos q, if_pos ⟨q.1, by omega⟩]
      · rw [if_neg q]
        by_cases q2 : b = j ∧ i ≤ a
        · obtain ⟨rfl, q3⟩ := q2
          obtain rfl : a = i := by omega
          rw [if_pos ⟨rfl, Nat.le_refl _⟩]
          unfold cell
          rw [rd_set_same (by omega)]
        · rw [if_neg q2]
          unfold cell
          rw [rd_set_ne (place_ne hj hb (by omega))]
    · obtain rfl : i = h := by omega
      rw [if_neg (by omega)]
      exact ⟨D, rfl, hD, fun a b ha hb => by rw [if_neg (by omega)]⟩
theorem setF_ok {w h : Nat} (hm : h * w ≤ 1048576) (hw : w ≤ 4096) (hh : h ≤ 4096) {x0 : Int} (h0 : 0 ≤ x0) (h1 : x0 ≤ 4096) {j k : Nat} (hj : j < w) {col : List Int} (hc : col.length = h) {D : List Int} (hD : D.length = h * w) (hk : h < k) : ∃ E, setF (x0 + (j : Int)) x0 (w : Int) col k 0 D = some E ∧ E.length = h * w ∧ ∀ a b : Nat, a < h → b < w → cell w E a b = if b = j then rd col (a : Int) else cell w D a b := by
  obtain ⟨E, e1, e2, e3⟩ := setF_spec hm hw hh h0 h1 hj hc k 0 D hD (by omega) (by omega)
  refine ⟨E, e1, e2, fun a b ha hb => ?_⟩
  rw [e3 a b ha hb]
  by_cases q : b = j
  · rw [if_pos ⟨q, by omega⟩, if_pos q]
  · rw [if_neg (by omega), if_neg q]

/-! ### columns -/
theorem colsF_spec {kk : Int} {k w h lh hh : Nat} {x0 x1 y0 : Int} {D : List Int} {lo hi : Nat → List Int} (hx1 : x1 = x0 + (w : Int)) (h0 : 0 ≤ x0) (h1 : x1 ≤ 4096) (hD : D.length = h * w) (hm : h * w ≤ 1048576) (hh4 : h ≤ 4096) (hk : 4096 < k) (hk2 : k ≤ 1000000) (hs : lh + hh = h)
    (hb : Bd 281474976710656 D) (hf : ∀ j, j < w → fwdF kk k y0 (colOf w h D j) = some (lo j, hi j) ∧ (lo j).length = lh ∧ (hi j).length = hh) :
    ∀ (f j : Nat) (E1 E2 : List Int), j ≤ w → w < f + j → E1.length = lh * w → E2.length = hh * w → ∃ F1 F2, colsF kk k x0 x1 y0 D f (x0 + (j : Int)) E1 E2 = some (F1, F2) ∧ F1.length = lh * w ∧ F2.length = hh * w ∧ (∀ a b : Nat, a < lh → b < w → cell w F1 a b = if j ≤ b then rd (lo b) (a : Int) else cell w E1 a b) ∧ (∀ a b : Nat, a < hh → b < w → cell w F2 a b = if j ≤ b then rd (hi b) (a : Int) else cell w E2 a b)
  | 0, j, E1, E2, hj, hfj, _, _ => by omega
  | f + 1, j, E1, E2, hj, hfj, hE1, hE2 => by
    rw [colsF.eq_2]
    by_cases c : j < w
    · have l1 : lh * w ≤ h * w := Nat.mul_le_mul_right w (by omega)
      have l2 : hh * w ≤ h * w := Nat.mul_le_mul_right w (by omega)
      obtain ⟨g1, g2, g3⟩ := hf j c
      rw [if_pos (by omega), show x1 - x0 = (w : Int) by omega, show x0 + (j : Int) - x0 = (j : Int) by omega, colF_ok hD hm (by omega) hh4 c (by omega), Option.bind_some,
        if_pos ⟨bounded_f (colOf_bd hb (by decide)) (by decide) (by decide) (by rw [colOf_len]; omega) (by omega), by rw [colOf_len]; omega⟩, g1, Option.bind_some, wid (n := (w : Int)) (by omega) (by omega)]
      obtain ⟨M1, m1, m2, m3⟩ := setF_ok (h := lh) (k := k) (by omega) (by omega) (by omega) h0 (by omega) c g2 hE1 (by omega)
      obtain ⟨M2, n1, n2, n3⟩ := setF_ok (h := hh) (k := k) (by omega) (by omega) (by omega) h0 (by omega) c g3 hE2 (by omega)
      rw [m1, Option.bind_some, n1, Option.bind_some, show x0 + (j : Int) + 1 = x0 + ((j + 1 : Nat) : Int) by omega]
      obtain ⟨F1, F2, r1, r2, r3, r4, r5⟩ := colsF_spec hx1 h0 h1 hD hm hh4 hk hk2 hs hb hf f (j + 1) M1 M2 (by omega) (by omega) m2 n2
      refine ⟨F1, F2, r1, r2, r3, fun a b ha hb' => ?_, fun a b ha hb' => ?_⟩
      · rw [r4 a b ha hb', m3 a b ha hb']
        by_cases q : j + 1 ≤ b
        · rw [if_pos q, if_pos (by omega)]
        · rw [if_neg q]
          by_cases q2 : b = j
          · rw [if_pos q2, if_pos (by omega), q2]
          · rw [if_neg q2, if_neg (by omega)]
      · rw [r5 a b ha hb', n3 a b ha hb']
        by_cases q : j + 1 ≤ b
        · rw [if_pos q, if_pos (by omega)]
        · rw [if_neg q]
          by_cases q2 : b = j
          · rw [if_pos q2, if_pos (by omega), q2]
          · rw [if_neg q2, if_neg (by omega)]
    · obtain rfl : j = w := by omega
      rw [if_neg (by omega)]
      exact ⟨E1, E2, rfl, hE1, hE2, fun a b ha hb' => by rw [if_neg (by omega)], fun a b ha hb' => by rw [if_neg (by omega)]⟩
theorem mcolsF_spec {kk : Int} {k w h lh hh : Nat} {x0 x1 y0 : Int} {D D2 : List Int} {z : Nat → List Int} (hx1 : x1 = x0 + (w : Int)) (h0 : 0 ≤ x0) (h1 : x1 ≤ 4096) (hD : D.length = lh * w) (hD2 : D2.length = hh * w) (hm : h * w ≤ 1048576) (hh4 : h ≤ 4096) (hk : 4096 < k) (hk2 : k ≤ 1000000) (hs : lh + hh = h)
    (hb : Bd 1125899906842624 D) (hb2 : Bd 1125899906842624 D2) (hce : cntE y0 (h : Int) = (lh : Int)) (hf : ∀ j, j < w → invF kk k y0 (colOf w lh D j) (colOf w hh D2 j) = some (z j) ∧ (z j).length = h) :
    ∀ (f j : Nat) (E : List Int), j ≤ w → w < f + j → E.length = h * w → ∃ F, mcolsF kk k x0 x1 y0 D D2 f (x0 + (j : Int)) E = some F ∧ F.length = h * w ∧ (∀ a b : Nat, a < h → b < w → cell w F a b = if j ≤ b then rd (z b) (a : Int) else cell w E a b)
  | 0, j, E, hj, hfj, _ => by omega
  | f + 1, j, E, hj, hfj, hE => by
    rw [mcolsF.eq_2]
    by_cases c : j < w
    · have l1 : lh * w ≤ h * w := Nat.mul_le_mul_right w (by omega)
      have l2 : hh * w ≤ h * w := Nat.mul_le_mul_right w (by omega)
      obtain ⟨g1, g2⟩ := hf j c
      rw [if_pos (by omega), show x1 - x0 = (w : Int) by omega, show x0 + (j : Int) - x0 = (j : Int) by omega, colF_ok hD (by omega) (by omega) (by omega) c (by omega), Option.bind_some, colF_ok hD2 (by omega) (by omega) (by omega) c (by omega), Option.bind_some,
        if_pos ⟨by rw [colOf_len, colOf_len]; omega, by rw [colOf_len, colOf_len, hs]; exact hce, bounded_f (colOf_bd hb (by decide)) (by decide) (by decide) (by rw [colOf_len]; omega) (by omega), bounded_f (colOf_bd hb2 (by decide)) (by decide) (by decide) (by rw [colOf_len]; omega) (by omega)⟩,
        g1, Option.bind_some, wid (n := (w : Int)) (by omega) (by omega)]
      obtain ⟨M1, m1, m2, m3⟩ := setF_ok (h := h) (k := k) (by omega) (by omega) (by omega) h0 (by omega) c g2 hE (by omega)
      rw [m1, Option.bind_some, show x0 + (j : Int) + 1 = x0 + ((j + 1 : Nat) : Int) by omega]
      obtain ⟨F, r1, r2, r4⟩ := mcolsF_spec hx1 h0 h1 hD hD2 hm hh4 hk hk2 hs hb hb2 hce hf f (j + 1) M1 (by omega) (by omega) m2
      refine ⟨F, r1, r2, fun a b ha hb' => ?_⟩
      rw [r4 a b ha hb', m3 a b ha hb']
      by_cases q : j + 1 ≤ b
      · rw [if_pos q, if_pos (by omega)]
      · rw [if_neg q]
        by_cases q2 : b = j
        · rw [if_pos q2, if_pos (by omega), q2]
        · rw [if_neg q2, if_neg (by omega)]
    · obtain rfl : j = w := by omega
      rw [if_neg (by omega)]
      exact ⟨E, rfl, hE, fun a b ha hb' => by rw [if_neg (by omega)]⟩

/-! ### rows -/
theorem rowOf_app {w : Nat} {P L : List Int} {i : Nat} (h : (i + 1) * w ≤ P.length) : rowOf w (P ++ L) i = rowOf w P i := by
  rw [Nat.succ_mul] at h
  unfold rowOf
  rw [List.drop_append_of_le_length (by omega), List.take_append_of_le_length (by rw [List.length_drop]; omega)]
theorem rowOf_new {w : Nat} {P L : List Int} {i : Nat} (h : P.length = i * w) (hL : L.length = w) : rowOf w (P ++ L) i = L := by
  unfold rowOf
  rw [← h, List.drop_left, ← hL, List.take_length]
theorem rowsF_spec {kk : Int} {k w h lw hw : Nat} {x0 x1 y0 y1 : Int} {D : List Int} {lo hi : Nat → List Int} (hx1 : x1 = x0 + (w : Int)) (hy1 : y1 = y0 + (h : Int)) (hD : D.length = h * w) (hm : h * w ≤ 1048576) (hw4 : w ≤ 4096) (hk : 4096 < k) (hk2 : k ≤ 1000000) (hs : lw + hw = w)
    (hb : Bd 281474976710656 D) (hf : ∀ i, i < h → fwdF kk k x0 (rowOf w D i) = some (lo i, hi i) ∧ (lo i).length = lw ∧ (hi i).length = hw) :
    ∀ (f i : Nat) (P Q : List Int), i ≤ h → h < f + i → P.length = i * lw → Q.length = i * hw → (∀ a, a < i → rowOf lw P a = lo a ∧ rowOf hw Q a = hi a) → ∃ P' Q', rowsF kk k x0 x1 y0 y1 D f (y0 + (i : Int)) P Q = some (P', Q') ∧ P'.length = h * lw ∧ Q'.length = h * hw ∧ ∀ a, a < h → rowOf lw P' a = lo a ∧ rowOf hw Q' a = hi a
  | 0, i, P, Q, h1, h2, h3, h4, h5 => by omega
  | f + 1, i, P, Q, h1, h2, h3, h4, h5 => by
    rw [rowsF.eq_2]
    by_cases c : i < h
    · have hr : List.take (x1 - x0).toNat (List.drop ((y0 + (i : Int) - y0) * (x1 - x0)).toNat D) = rowOf w D i := by
        rw [show x1 - x0 = (w : Int) by omega, show y0 + (i : Int) - y0 = (i : Int) by omega, ← Int.natCast_mul, Int.toNat_natCast, Int.toNat_natCast]
        rfl
      have hl := rowOf_len hD c
      obtain ⟨g1, g2, g3⟩ := hf i c
      have l1 : (i + 1) * lw ≤ h * w := Nat.mul_le_mul (by omega) (by omega)
      have l2 : (i + 1) * hw ≤ h * w := Nat.mul_le_mul (by omega) (by omega)
      have e1 : (i + 1) * lw = i * lw + lw := Nat.succ_mul _ _
      have e2 : (i + 1) * hw = i * hw + hw := Nat.succ_mul _ _
      rw [if_pos (by omega), hr, if_pos ⟨bounded_f (rowOf_bd hb) (by decide) (by decide) (by rw [hl]; omega) (by omega), by rw [hl]; omega⟩, g1, Option.bind_some, if_pos ⟨by show P.length + (lo i).length ≤ _; omega, by show Q.length + (hi i).length ≤ _; omega⟩, show y0 + (i : Int) + 1 = y0 + ((i + 1 : Nat) : Int) by omega]
      refine rowsF_spec hx1 hy1 hD hm hw4 hk hk2 hs hb hf f (i + 1) (P ++ lo i) (Q ++ hi i) (by omega) (by omega) (by rw [List.length_append]; omega) (by rw [List.length_append]; omega) fun a ha => ?_
      by_cases q : a = i
      · subst q
        exact ⟨rowOf_new h3 g2, rowOf_new h4 g3⟩
      · have m1 : (a + 1) * lw ≤ i * lw := Nat.mul_le_mul_right _ (by omega)
        have m2 : (a + 1) * hw ≤ i * hw := Nat.mul_le_mul_right _ (by omega)
        rw [rowOf_app (by omega), rowOf_app (by omega)]
        exact h5 a (by omega)
    · obtain rfl : i = h := by omega
      rw [if_neg (by omega)]
      exact ⟨P, Q, rfl, h3, h4, h5⟩
theorem mrowsF_spec {kk : Int} {k w h lw hw : Nat} {w0 w1 x0 y0 y1 : Int} {H0 H1 D : List Int} (hw0 : w0 = (lw : Int)) (hw1 : w1 = (hw : Int)) (hy1 : y1 = y0 + (h : Int)) (hD : D.length = h * w) (hH0 : H0.length = h * lw) (hH1 : H1.length = h * hw) (hm : h * w ≤ 1048576) (hw4 : w ≤ 4096) (hk : 4096 < k) (hk2 : k ≤ 1000000) (hs : lw + hw = w)
    (hb : Bd 1125899906842624 H0) (hb2 : Bd 1125899906842624 H1) (hce : cntE x0 (w : Int) = (lw : Int)) (hf : ∀ i, i < h → invF kk k x0 (rowOf lw H0 i) (rowOf hw H1 i) = some (rowOf w D i)) :
    ∀ (f i : Nat), i ≤ h → h < f + i → mrowsF kk k w0 w1 x0 y0 y1 H0 H1 f (y0 + (i : Int)) (D.take (i * w)) = some D
  | 0, i, h1, h2 => by omega
  | f + 1, i, h1, h2 => by
    rw [mrowsF.eq_2]
    by_cases c : i < h
    · have hr0 : List.take w0.toNat (List.drop ((y0 + (i : Int) - y0) * w0).toNat H0) = rowOf lw H0 i := by
        rw [hw0, show y0 + (i : Int) - y0 = (i : Int) by omega, ← Int.natCast_mul, Int.toNat_natCast, Int.toNat_natCast]
        rfl
      have hr1 : List.take w1.toNat (List.drop ((y0 + (i : Int) - y0) * w1).toNat H1) = rowOf hw H1 i := by
        rw [hw1, show y0 + (i : Int) - y0 = (i : Int) by omega, ← Int.natCast_mul, Int.toNat_natCast, Int.toNat_natCast]
        rfl
      have n0 := rowOf_len hH0 c
      have n1 := rowOf_len hH1 c
      have n2 := rowOf_len hD c
      have l1 : (i + 1) * w ≤ h * w := Nat.mul_le_mul_right w c
      have e1 : (i + 1) * w = i * w + w := Nat.succ_mul _ _
      rw [if_pos (by omega), hr0, hr1, if_pos ⟨by omega, by rw [n0, n1, hs]; exact hce, bounded_f (rowOf_bd hb) (by decide) (by decide) (by rw [n0]; omega) (by omega), bounded_f (rowOf_bd hb2) (by decide) (by decide) (by rw [n1]; omega) (by omega)⟩, hf i c, Option.bind_some,
        if_pos (by rw [List.length_take, n2]; omega), show y0 + (i : Int) + 1 = y0 + ((i + 1 : Nat) : Int) by omega]
      have : D.take (i * w) ++ rowOf w D i = D.take ((i + 1) * w) := by
        unfold rowOf
        rw [e1, List.take_add]
      rw [this]
      exact mrowsF_spec hw0 hw1 hy1 hD hH0 hH1 hm hw4 hk hk2 hs hb hb2 hce hf f (i + 1) (by omega) (by omega)
    · obtain rfl : i = h := by omega
      rw [if_neg (by omega), ← hD, List.take_length]
end Go.Proofs.Ytcnpekpgghppnaa.Q

/- quant.Reconstruct with the step 1 and the threshold 1: a number comes back. -/
namespace Go.Proofs.Ytcnpekpgghppnaa.Q
open Go.RowKit Go.Proofs.YtcnpekpgghppnaaW.PrintWords Go.Proofs.YtcnpekpgghppnaaW.PrintLast Go.Proofs.YtcnpekpgghppnaaW.PrintMore
set_option linter.unusedVariables false
set_option linter.unusedSimpArgs false

theorem limit_in {a b c : Int} (h0 : b ≤ a) (h1 : a ≤ c) : quant_limit_int.f a b c = some a := by
  unfold quant_limit_int.f mn mx
  congr 1
  split <;> split <;> omega
set_option maxHeartbeats 8000000 in
set_option maxRecDepth 100000 in
theorem quant_times.good (a : Int) (h0 : 0 ≤ a) (h1 : a ≤ 1099511627776) (w : World) : Calls Try.prog 71 #[.int .i64 a, .int .i64 1] w fun e w' => e = .returned (.int .i64 a) ∧ Below w.heap.size w w' := by
  have b0 : decide (1152921504606846976 < a) = false := decide_eq_false (by omega)
  have b1 : decide (a > 1152921504606846976) = false := decide_eq_false (by omega)
  have HL := Aside0.mk (limit_in (a := a) (b := 0) (c := 1152921504606846976) h0 (by omega))
  have hw : wrap64 a = a := wid (by omega) (by omega)
  clear h0 h1
  go_enter Try.func71, Try.ntmps71
  go_wp2_with (go_at_call 50; (try (rw [hw])); (with_reducible refine (quant_limit_int.calls a 0 1152921504606846976 a _ HL.out).mono ?_); rintro _ w1 ⟨rfl, b⟩; have HB := Aside0.mk b; clear b)
  go_ret
  exact ⟨rfl, HB.out⟩
set_option maxHeartbeats 8000000 in
set_option maxRecDepth 100000 in
theorem quant_ends.good (a d : Int) (h0 : 1 ≤ a) (h1 : a ≤ 1099511627776) (hd : quant_Threshold.f 1 d = some 1) (w : World) : Calls Try.prog 48 #[.int .i64 a, .int .i64 0, .int .i64 1, .int .i64 d] w fun e w' => e = .returned (.tuple #[.int .i64 a, .int .i64 a]) ∧ Below w.heap.size w w' := by
  have b0 : decide (a = 0) = false := decide_eq_false (by omega)
  have b1 : (a == 0) = false := beq_eq_false_iff_ne.mpr (by omega)
  have e1 : wrap64 (a - 1) = a - 1 := wid (by omega) (by omega)
  have e2 : wrap64 (1 + (a - 1)) = a := by rw [wid (by omega) (by omega)]; omega
  have e3 : wrap64 (wrap64 (a + 1) - 1) = a := by rw [wid (n := a + 1) (by omega) (by omega), wid (by omega) (by omega)]; omega
  have HA := Aside0.mk (And.intro (show 0 ≤ a - 1 by omega) (show a - 1 ≤ 1099511627776 by omega))
  have HT := Aside0.mk hd
  have HB := Aside0.mk (Below.refl w.heap.size w)
  clear h0 h1 hd
  go_enter Try.func48, Try.ntmps48
  go_wp2_with (first
    | (go_at_call 70; (with_reducible refine (quant_Threshold.calls 1 d 1 _ HT.out).mono ?_); rintro _ w1 ⟨rfl, b⟩; have HB' := Aside0.mk (HB.out.trans (b.mono (below_size HB.out))); clear HB; have HB := HB'; clear HB'; clear b)
    | (go_at_call 71; (with_reducible refine (quant_times.good 1 (by decide) (by decide) _).mono ?_); rintro _ w2 ⟨rfl, b⟩; have HB' := Aside0.mk (HB.out.trans (b.mono (below_size HB.out))); clear HB; have HB := HB'; clear HB'; clear b)
    | (go_at_call 71; (try (rw [e1])); (with_reducible refine (quant_times.good (a - 1) HA.out.1 HA.out.2 _).mono ?_); rintro _ w2 ⟨rfl, b⟩; have HB' := Aside0.mk (HB.out.trans (b.mono (below_size HB.out))); clear HB; have HB := HB'; clear HB'; clear b))
  rw [e2, e3]
  go_ret2
  exact ⟨rfl, HB.out⟩
theorem size_of {v : Int} (h0 : -4294967296 ≤ v) (h1 : v ≤ 4294967296) : quant_size.f v = some (if v < 0 then -v else v) := by
  unfold quant_size.f mx
  rw [if_neg (by omega), wid (n := -v) (by omega) (by omega)]
  congr 1
  split <;> split <;> omega
set_option maxHeartbeats 8000000 in
set_option maxRecDepth 100000 in
theorem quant_Reconstruct.good (v d : Int) (h0 : -4294967296 ≤ v) (h1 : v ≤ 4294967296) (hd : quant_Threshold.f 1 d = some 1) (hg : quant_good.f 0 1 d = some true) (w : World) : Calls Try.prog 20 #[.int .i64 v, .int .i64 0, .int .i64 1, .int .i64 d] w fun e w' => e = .returned (.int .i64 v) ∧ Below w.heap.size w w' := by
  have HT := Aside0.mk hd
  have HG := Aside0.mk hg
  have HB := Aside0.mk (Below.refl w.heap.size w)
  have HS := Aside0.mk (size_of h0 h1)
  clear hd hg
  by_cases c : v = 0
  · subst c
    clear h0 h1
    go_enter Try.func20, Try.ntmps20
    go_wp2
    go_ret
    exact ⟨rfl, HB.out⟩
  have b0 : decide (v = 0) = false := decide_eq_false c
  have b1 : (v == 0) = false := beq_eq_false_iff_ne.mpr c
  by_cases c2 : v < 0
  · have b2 : decide (v < 0) = true := decide_eq_true c2
    rw [if_pos c2] at HS
    have HV := Aside0.mk (show 1 ≤ -v ∧ -v ≤ 1099511627776 by omega)
    have HL := Aside0.mk (limit_in (a := -v) (b := 0) (c := 4294967296) (by omega) (by omega))
    have e1 : wrap64 (-v + -v) = 2 * -v := by rw [wid (by omega) (by omega)]; omega
    have e2 : wrap64 (Int.tdiv (2 * -v) 2) = -v := by rw [Int.tdiv_eq_ediv_of_nonneg (by omega), wid (by omega) (by omega)]; omega
    have e4 : wrap64 (-v) = -v := wid (by omega) (by omega)
    have e3 : wrap64 (- -v) = v := by rw [wid (by omega) (by omega)]; omega
    clear h0 h1 c c2
    generalize -v = u at *
    go_enter Try.func20, Try.ntmps20
    go_wp2_with (first
      | ((try (refine gate_guard (by rfl) ?_; dsimp only)); go_at_call 47; (with_reducible refine (quant_good.calls 0 1 d true _ HG.out).mono ?_); rintro _ w1 ⟨rfl, b⟩; have HB' := Aside0.mk (HB.out.trans (b.below.mono (below_size HB.out))); clear HB; have HB := HB'; clear HB'; clear b)
      | (go_at_call 49; (with_reducible refine (quant_size.calls v u _ HS.out).mono ?_); rintro _ w2 ⟨rfl, b⟩; have HB' := Aside0.mk (HB.out.trans (b.mono (below_size HB.out))); clear HB; have HB := HB'; clear HB'; clear b)
      | (go_at_call 48; (with_reducible refine (quant_ends.good u d HV.out.1 HV.out.2 HT.out _).mono ?_); rintro _ w2 ⟨rfl, b⟩; have HB' := Aside0.mk (HB.out.trans (b.mono (below_size HB.out))); clear HB; have HB := HB'; clear HB'; clear b)
      | (go_at_call 50; (try (rw [e4])); (with_reducible refine (quant_limit_int.calls u 0 4294967296 u _ HL.out).mono ?_); rintro _ w1 ⟨rfl, b⟩; have HB' := Aside0.mk (HB.out.trans (b.mono (below_size HB.out))); clear HB; have HB := HB'; clear HB'; clear b))
    go_ret
    exact ⟨by rw [e3]; rfl, HB.out⟩
  · have b2 : decide (v < 0) = false := decide_eq_false c2
    rw [if_neg c2] at HS
    have HV := Aside0.mk (show 1 ≤ v ∧ v ≤ 1099511627776 by omega)
    have HL := Aside0.mk (limit_in (a := v) (b := 0) (c := 4294967296) (by omega) (by omega))
    have e1 : wrap64 (v + v) = 2 * v := by rw [wid (by omega) (by omega)]; omega
    have e2 : wrap64 (Int.tdiv (2 * v) 2) = v := by rw [Int.tdiv_eq_ediv_of_nonneg (by omega), wid (by omega) (by omega)]; omega
    have e4 : wrap64 v = v := wid (by omega) (by omega)
    clear h0 h1 c c2
    go_enter Try.func20, Try.ntmps20
    go_wp2_with (first
      | ((try (refine gate_guard (by rfl) ?_; dsimp only)); go_at_call 47; (with_reducible refine (quant_good.calls 0 1 d true _ HG.out).mono ?_); rintro _ w1 ⟨rfl, b⟩; have HB' := Aside0.mk (HB.out.trans (b.below.mono (below_size HB.out))); clear HB; have HB := HB'; clear HB'; clear b)
      | (go_at_call 49; (with_reducible refine (quant_size.calls v v _ HS.out).mono ?_); rintro _ w2 ⟨rfl, b⟩; have HB' := Aside0.mk (HB.out.trans (b.mono (below_size HB.out))); clear HB; have HB := HB'; clear HB'; clear b)
      | (go_at_call 48; (with_reducible refine (quant_ends.good v d HV.out.1 HV.out.2 HT.out _).mono ?_); rintro _ w2 ⟨rfl, b⟩; have HB' := Aside0.mk (HB.out.trans (b.mono (below_size HB.out))); clear HB; have HB := HB'; clear HB'; clear b)
      | (go_at_call 50; (try (rw [e4])); (with_reducible refine (quant_limit_int.calls v 0 4294967296 v _ HL.out).mono ?_); rintro _ w1 ⟨rfl, b⟩; have HB' := Aside0.mk (HB.out.trans (b.mono (below_size HB.out))); clear HB; have HB := HB'; clear HB'; clear b))
    go_ret
    exact ⟨rfl, HB.out⟩
end Go.Proofs.Ytcnpekpgghppnaa.Q

namespace Go.Proofs.Ytcnpekpgghppnaa.Q
open Go.RowKit Go.Proofs.YtcnpekpgghppnaaW.PrintWords Go.Proofs.YtcnpekpgghppnaaW.PrintLast Go.Proofs.YtcnpekpgghppnaaW.PrintMore
attribute [local go_sem] max2_int min2_int max_two min_two max_three min_three max_four min_four   -- for this text's walks alone
set_option linter.unusedVariables false
set_option linter.unusedSimpArgs false

/-! ### waveletref01_Valid: function 8 -/
def waveletref01_Valid.f (a0_0 : Int) (a0_1 : Int) (a0_2 : Int) (a0_3 : Int) : Option (Bool) := if 0 ≤ a0_0 then (if a0_0 ≤ a0_2 then (if a0_2 ≤ 4096 then (if 0 ≤ a0_1 then (if a0_1 ≤ a0_3 then (some (decide (a0_3 ≤ 4096))) else (some false)) else (some false)) else (some false)) else (some false)) else (some false)
set_option maxHeartbeats 8000000 in
set_option maxRecDepth 100000 in
theorem waveletref01_Valid.calls (a0_0 : Int) (a0_1 : Int) (a0_2 : Int) (a0_3 : Int) (r : Bool) (w : World) (h : waveletref01_Valid.f a0_0 a0_1 a0_2 a0_3 = some r) :
    Calls Try.prog 8 #[.agg #[.int .i64 a0_0, .int .i64 a0_1, .int .i64 a0_2, .int .i64 a0_3]] w fun e w' => e = .returned (.bool r) ∧ Below w.heap.size w w' := by
  have hu23 := Try.underlying23
  have HB := Aside0.mk (Below.refl w.heap.size w)
  have H : (if 0 ≤ a0_0 then (if a0_0 ≤ a0_2 then (if a0_2 ≤ 4096 then (if 0 ≤ a0_1 then (if a0_1 ≤ a0_3 then (some (decide (a0_3 ≤ 4096))) else (some false)) else (some false)) else (some false)) else (some false)) else (some false)) = some r := h
  clear h
  by_cases c2 : 0 ≤ a0_0
  · rw [if_pos c2] at H
    have c2b0 : decide (0 ≤ a0_0) = true := decide_eq_true c2
    clear c2
    by_cases c3 : a0_0 ≤ a0_2
    · rw [if_pos c3] at H
      have c3b0 : decide (a0_0 ≤ a0_2) = true := decide_eq_true c3
      clear c3
      by_cases c4 : a0_2 ≤ 4096
      · rw [if_pos c4] at H
        have c4b0 : decide (a0_2 ≤ 4096) = true := decide_eq_true c4
        clear c4
        by_cases c5 : 0 ≤ a0_1
        · rw [if_pos c5] at H
          have c5b0 : decide (0 ≤ a0_1) = true := decide_eq_true c5
          clear c5
          by_cases c6 : a0_1 ≤ a0_3
          · rw [if_pos c6] at H
            have c6b0 : decide (a0_1 ≤ a0_3) = true := decide_eq_true c6
            clear c6
            obtain rfl := Option.some.inj H
            go_enter Try.func8, Try.ntmps8
            go_wp2_with (first | ((with_reducible refine gate_dst (N := 1) rfl ?_); refine box_event ?hg (N := 1) ?hd (cs := #[.int .i64 a0_0, .int .i64 a0_1, .int .i64 a0_2, .int .i64 a0_3]) (t := 23) ?hr ?_; (case hd => rfl); (case hg => rfl); (case hr => first | (go_simp; done) | (go_simp; rfl)); intro gb101 hg w7 hbox hb; have n0_ := Aside0.mk (below_step (by repeat (first | (with_reducible first | exact HB.out | apply below_alloc | apply pw_below_drewN | apply below_drew1) | exact HB.out)) hb); have n1_ := Aside0.mk (hbox); have n2_ := Aside0.mk ((by rw [hg]; exact (below_size (by repeat (first | (with_reducible first | exact HB.out | apply below_alloc | apply pw_below_drewN | apply below_drew1) | exact HB.out))) : w.heap.size ≤ gb101)); have n3_ := Aside0.mk ((by rw [hg]; exact (below_size (by repeat (first | (with_reducible first | exact HB.out | apply below_alloc | apply pw_below_drewN | apply below_drew1) | exact HB.out))) : w.heap.size ≤ gb101)); clear HB; have HB := n0_; have BK101 := n1_; have GW101 := n2_; have GE101 := n3_; clear n0_ n1_ n2_ n3_; clear hb hbox hg; have hcz8_0 : w7.cell? ⟨gb101, 0, none⟩ = some (.int .i64 a0_0) := (blk_cell BK101.out 0).trans rfl; have hcz8_1 : w7.cell? ⟨gb101, 1, none⟩ = some (.int .i64 a0_1) := (blk_cell BK101.out 1).trans rfl; have hcz8_2 : w7.cell? ⟨gb101, 2, none⟩ = some (.int .i64 a0_2) := (blk_cell BK101.out 2).trans rfl; have hcz8_3 : w7.cell? ⟨gb101, 3, none⟩ = some (.int .i64 a0_3) := (blk_cell BK101.out 3).trans rfl; have hfz8_0 := blk_frozen BK101.out 0; have hfz8_1 := blk_frozen BK101.out 1; have hfz8_2 := blk_frozen BK101.out 2; have hfz8_3 := blk_frozen BK101.out 3))
            go_ret
            exact ⟨by first | rfl | (simp [errW_none, errW_some] <;> rfl) | (simp [*, errW_none, errW_some] <;> rfl), by repeat (first | (with_reducible first | exact HB.out | apply below_alloc | apply pw_below_drewN | apply below_drew1 | refine below_set ?_ GE101.out) | exact HB.out)⟩
          · rw [if_neg c6] at H
            have c6b0 : decide (a0_1 ≤ a0_3) = false := decide_eq_false c6
            clear c6
            obtain rfl := Option.some.inj H
            go_enter Try.func8, Try.ntmps8
            go_wp2_with (first | ((with_reducible refine gate_dst (N := 1) rfl ?_); refine box_event ?hg (N := 1) ?hd (cs := #[.int .i64 a0_0, .int .i64 a0_1, .int .i64 a0_2, .int .i64 a0_3]) (t := 23) ?hr ?_; (case hd => rfl); (case hg => rfl); (case hr => first | (go_simp; done) | (go_simp; rfl)); intro gb101 hg w9 hbox hb; have n0_ := Aside0.mk (below_step (by repeat (first | (with_reducible first | exact HB.out | apply below_alloc | apply pw_below_drewN | apply below_drew1) | exact HB.out)) hb); have n1_ := Aside0.mk (hbox); have n2_ := Aside0.mk ((by rw [hg]; exact (below_size (by repeat (first | (with_reducible first | exact HB.out | apply below_alloc | apply pw_below_drewN | apply below_drew1) | exact HB.out))) : w.heap.size ≤ gb101)); have n3_ := Aside0.mk ((by rw [hg]; exact (below_size (by repeat (first | (with_reducible first | exact HB.out | apply below_alloc | apply pw_below_drewN | apply below_drew1) | exact HB.out))) : w.heap.size ≤ gb101)); clear HB; have HB := n0_; have BK101 := n1_; have GW101 := n2_; have GE101 := n3_; clear n0_ n1_ n2_ n3_; clear hb hbox hg; have hcz10_0 : w9.cell? ⟨gb101, 0, none⟩ = some (.int .i64 a0_0) := (blk_cell BK101.out 0).trans rfl; have hcz10_1 : w9.cell? ⟨gb101, 1, none⟩ = some (.int .i64 a0_1) := (blk_cell BK101.out 1).trans rfl; have hcz10_2 : w9.cell? ⟨gb101, 2, none⟩ = some (.int .i64 a0_2) := (blk_cell BK101.out 2).trans rfl; have hcz10_3 : w9.cell? ⟨gb101, 3, none⟩ = some (.int .i64 a0_3) := (blk_cell BK101.out 3).trans rfl; have hfz10_0 := blk_frozen BK101.out 0; have hfz10_1 := blk_frozen BK101.out 1; have hfz10_2 := blk_frozen BK101.out 2; have hfz10_3 := blk_frozen BK101.out 3))
            go_ret
            exact ⟨by first | rfl | (simp [errW_none, errW_some] <;> rfl) | (simp [*, errW_none, errW_some] <;> rfl), by repeat (first | (with_reducible first | exact HB.out | apply below_alloc | apply pw_below_drewN | apply below_drew1 | refine below_set ?_ GE101.out) | exact HB.out)⟩
        · rw [if_neg c5] at H
          have c5b0 : decide (0 ≤ a0_1) = false := decide_eq_false c5
          clear c5
          obtain rfl := Option.some.inj H
          go_enter Try.func8, Try.ntmps8
          go_wp2_with (first | ((with_reducible refine gate_dst (N := 1) rfl ?_); refine box_event ?hg (N := 1) ?hd (cs := #[.int .i64 a0_0, .int .i64 a0_1, .int .i64 a0_2, .int .i64 a0_3]) (t := 23) ?hr ?_; (case hd => rfl); (case hg => rfl); (case hr => first | (go_simp; done) | (go_simp; rfl)); intro gb101 hg w11 hbox hb; have n0_ := Aside0.mk (below_step (by repeat (first | (with_reducible first | exact HB.out | apply below_alloc | apply pw_below_drewN | apply below_drew1) | exact HB.out)) hb); have n1_ := Aside0.mk (hbox); have n2_ := Aside0.mk ((by rw [hg]; exact (below_size (by repeat (first | (with_reducible first | exact HB.out | apply below_alloc | apply pw_below_drewN | apply below_drew1) | exact HB.out))) : w.heap.size ≤ gb101)); have n3_ := Aside0.mk ((by rw [hg]; exact (below_size (by repeat (first | (with_reducible first | exact HB.out | apply below_alloc | apply pw_below_drewN | apply below_drew1) | exact HB.out))) : w.heap.size ≤ gb101)); clear HB; have HB := n0_; have BK101 := n1_; have GW101 := n2_; have GE101 := n3_; clear n0_ n1_ n2_ n3_; clear hb hbox hg; have hcz12_0 : w11.cell? ⟨gb101, 0, none⟩ = some (.int .i64 a0_0) := (blk_cell BK101.out 0).trans rfl; have hcz12_1 : w11.cell? ⟨gb101, 1, none⟩ = some (.int .i64 a0_1) := (blk_cell BK101.out 1).trans rfl; have hcz12_2 : w11.cell? ⟨gb101, 2, none⟩ = some (.int .i64 a0_2) := (blk_cell BK101.out 2).trans rfl; have hcz12_3 : w11.cell? ⟨gb101, 3, none⟩ = some (.int .i64 a0_3) := (blk_cell BK101.out 3).trans rfl; have hfz12_0 := blk_frozen BK101.out 0; have hfz12_1 := blk_frozen BK101.out 1; have hfz12_2 := blk_frozen BK101.out 2; have hfz12_3 := blk_frozen BK101.out 3))
          go_ret
          exact ⟨by first | rfl | (simp [errW_none, errW_some] <;> rfl) | (simp [*, errW_none, errW_some] <;> rfl), by repeat (first | (with_reducible first | exact HB.out | apply below_alloc | apply pw_below_drewN | apply below_drew1 | refine below_set ?_ GE101.out) | exact HB.out)⟩
      · rw [if_neg c4] at H
        have c4b0 : decide (a0_2 ≤ 4096) = false := decide_eq_false c4
        clear c4
        obtain rfl := Option.some.inj H
        go_enter Try.func8, Try.ntmps8
        go_wp2_with (first | ((with_reducible refine gate_dst (N := 1) rfl ?_); refine box_event ?hg (N := 1) ?hd (cs := #[.int .i64 a0_0, .int .i64 a0_1, .int .i64 a0_2, .int .i64 a0_3]) (t := 23) ?hr ?_; (case hd => rfl); (case hg => rfl); (case hr => first | (go_simp; done) | (go_simp; rfl)); intro gb101 hg w13 hbox hb; have n0_ := Aside0.mk (below_step (by repeat (first | (with_reducible first | exact HB.out | apply below_alloc | apply pw_below_drewN | apply below_drew1) | exact HB.out)) hb); have n1_ := Aside0.mk (hbox); have n2_ := Aside0.mk ((by rw [hg]; exact (below_size (by repeat (first | (with_reducible first | exact HB.out | apply below_alloc | apply pw_below_drewN | apply below_drew1) | exact HB.out))) : w.heap.size ≤ gb101)); have n3_ := Aside0.mk ((by rw [hg]; exact (below_size (by repeat (first | (with_reducible first | exact HB.out | apply below_alloc | apply pw_below_drewN | apply below_drew1) | exact HB.out))) : w.heap.size ≤ gb101)); clear HB; have HB := n0_; have BK101 := n1_; have GW101 := n2_; have GE101 := n3_; clear n0_ n1_ n2_ n3_; clear hb hbox hg; have hcz14_0 : w13.cell? ⟨gb101, 0, none⟩ = some (.int .i64 a0_0) := (blk_cell BK101.out 0).trans rfl; have hcz14_1 : w13.cell? ⟨gb101, 1, none⟩ = some (.int .i64 a0_1) := (blk_cell BK101.out 1).trans rfl; have hcz14_2 : w13.cell? ⟨gb101, 2, none⟩ = some (.int .i64 a0_2) := (blk_cell BK101.out 2).trans rfl; have hcz14_3 : w13.cell? ⟨gb101, 3, none⟩ = some (.int .i64 a0_3) := (blk_cell BK101.out 3).trans rfl; have hfz14_0 := blk_frozen BK101.out 0; have hfz14_1 := blk_frozen BK101.out 1; have hfz14_2 := blk_frozen BK101.out 2; have hfz14_3 := blk_frozen BK101.out 3))
        go_ret
        exact ⟨by first | rfl | (simp [errW_none, errW_some] <;> rfl) | (simp [*, errW_none, errW_some] <;> rfl), by repeat (first | (with_reducible first | exact HB.out | apply below_alloc | apply pw_below_drewN | apply below_drew1 | refine below_set ?_ GE101.out) | exact HB.out)⟩
    · rw [if_neg c3] at H
      have c3b0 : decide (a0_0 ≤ a0_2) = false := decide_eq_false c3
      clear c3
      obtain rfl := Option.some.inj H
      go_enter Try.func8, Try.ntmps8
      go_wp2_with (first | ((with_reducible refine gate_dst (N := 1) rfl ?_); refine box_event ?hg (N := 1) ?hd (cs := #[.int .i64 a0_0, .int .i64 a0_1, .int .i64 a0_2, .int .i64 a0_3]) (t := 23) ?hr ?_; (case hd => rfl); (case hg => rfl); (case hr => first | (go_simp; done) | (go_simp; rfl)); intro gb101 hg w15 hbox hb; have n0_ := Aside0.mk (below_step (by repeat (first | (with_reducible first | exact HB.out | apply below_alloc | apply pw_below_drewN | apply below_drew1) | exact HB.out)) hb); have n1_ := Aside0.mk (hbox); have n2_ := Aside0.mk ((by rw [hg]; exact (below_size (by repeat (first | (with_reducible first | exact HB.out | apply below_alloc | apply pw_below_drewN | apply below_drew1) | exact HB.out))) : w.heap.size ≤ gb101)); have n3_ := Aside0.mk ((by rw [hg]; exact (below_size (by repeat (first | (with_reducible first | exact HB.out | apply below_alloc | apply pw_below_drewN | apply below_drew1) | exact HB.out))) : w.heap.size ≤ gb101)); clear HB; have HB := n0_; have BK101 := n1_; have GW101 := n2_; have GE101 := n3_; clear n0_ n1_ n2_ n3_; clear hb hbox hg; have hcz16_0 : w15.cell? ⟨gb101, 0, none⟩ = some (.int .i64 a0_0) := (blk_cell BK101.out 0).trans rfl; have hcz16_1 : w15.cell? ⟨gb101, 1, none⟩ = some (.int .i64 a0_1) := (blk_cell BK101.out 1).trans rfl; have hcz16_2 : w15.cell? ⟨gb101, 2, none⟩ = some (.int .i64 a0_2) := (blk_cell BK101.out 2).trans rfl; have hcz16_3 : w15.cell? ⟨gb101, 3, none⟩ = some (.int .i64 a0_3) := (blk_cell BK101.out 3).trans rfl; have hfz16_0 := blk_frozen BK101.out 0; have hfz16_1 := blk_frozen BK101.out 1; have hfz16_2 := blk_frozen BK101.out 2; have hfz16_3 := blk_frozen BK101.out 3))
      go_ret
      exact ⟨by first | rfl | (simp [errW_none, errW_some] <;> rfl) | (simp [*, errW_none, errW_some] <;> rfl), by repeat (first | (with_reducible first | exact HB.out | apply below_alloc | apply pw_below_drewN | apply below_drew1 | refine below_set ?_ GE101.out) | exact HB.out)⟩
  · rw [if_neg c2] at H
    have c2b0 : decide (0 ≤ a0_0) = false := decide_eq_false c2
    clear c2
    obtain rfl := Option.some.inj H
    go_enter Try.func8, Try.ntmps8
    go_wp2_with (first | ((with_reducible refine gate_dst (N := 1) rfl ?_); refine box_event ?hg (N := 1) ?hd (cs := #[.int .i64 a0_0, .int .i64 a0_1, .int .i64 a0_2, .int .i64 a0_3]) (t := 23) ?hr ?_; (case hd => rfl); (case hg => rfl); (case hr => first | (go_simp; done) | (go_simp; rfl)); intro gb101 hg w17 hbox hb; have n0_ := Aside0.mk (below_step (by repeat (first | (with_reducible first | exact HB.out | apply below_alloc | apply pw_below_drewN | apply below_drew1) | exact HB.out)) hb); have n1_ := Aside0.mk (hbox); have n2_ := Aside0.mk ((by rw [hg]; exact (below_size (by repeat (first | (with_reducible first | exact HB.out | apply below_alloc | apply pw_below_drewN | apply below_drew1) | exact HB.out))) : w.heap.size ≤ gb101)); have n3_ := Aside0.mk ((by rw [hg]; exact (below_size (by repeat (first | (with_reducible first | exact HB.out | apply below_alloc | apply pw_below_drewN | apply below_drew1) | exact HB.out))) : w.heap.size ≤ gb101)); clear HB; have HB := n0_; have BK101 := n1_; have GW101 := n2_; have GE101 := n3_; clear n0_ n1_ n2_ n3_; clear hb hbox hg; have hcz18_0 : w17.cell? ⟨gb101, 0, none⟩ = some (.int .i64 a0_0) := (blk_cell BK101.out 0).trans rfl; have hcz18_1 : w17.cell? ⟨gb101, 1, none⟩ = some (.int .i64 a0_1) := (blk_cell BK101.out 1).trans rfl; have hcz18_2 : w17.cell? ⟨gb101, 2, none⟩ = some (.int .i64 a0_2) := (blk_cell BK101.out 2).trans rfl; have hcz18_3 : w17.cell? ⟨gb101, 3, none⟩ = some (.int .i64 a0_3) := (blk_cell BK101.out 3).trans rfl; have hfz18_0 := blk_frozen BK101.out 0; have hfz18_1 := blk_frozen BK101.out 1; have hfz18_2 := blk_frozen BK101.out 2; have hfz18_3 := blk_frozen BK101.out 3))
    go_ret
    exact ⟨by first | rfl | (simp [errW_none, errW_some] <;> rfl) | (simp [*, errW_none, errW_some] <;> rfl), by repeat (first | (with_reducible first | exact HB.out | apply below_alloc | apply pw_below_drewN | apply below_drew1 | refine below_set ?_ GE101.out) | exact HB.out)⟩

end Go.Proofs.Ytcnpekpgghppnaa.Q

namespace Go.Proofs.Ytcnpekpgghppnaa.Q
open Go.RowKit Go.Proofs.YtcnpekpgghppnaaW.PrintWords Go.Proofs.YtcnpekpgghppnaaW.PrintLast Go.Proofs.YtcnpekpgghppnaaW.PrintMore
attribute [local go_sem] max2_int min2_int max_two min_two max_three min_three max_four min_four   -- for this text's walks alone
set_option linter.unusedVariables false
set_option linter.unusedSimpArgs false

/-! ### waveletref01_Area: function 55 -/
def waveletref01_Area.f (a0_0 : Int) (a0_1 : Int) (a0_2 : Int) (a0_3 : Int) : Option (Int) := (waveletref01_Valid.f a0_0 a0_1 a0_2 a0_3).bind fun t103 => (if t103 = true then (some (wrap64 ((wrap64 (a0_2 - a0_0)) * (wrap64 (a0_3 - a0_1))))) else (some 0))
set_option maxHeartbeats 8000000 in
set_option maxRecDepth 100000 in
theorem waveletref01_Area.calls (a0_0 : Int) (a0_1 : Int) (a0_2 : Int) (a0_3 : Int) (r : Int) (w : World) (h : waveletref01_Area.f a0_0 a0_1 a0_2 a0_3 = some r) :
    Calls Try.prog 55 #[.agg #[.int .i64 a0_0, .int .i64 a0_1, .int .i64 a0_2, .int .i64 a0_3]] w fun e w' => e = .returned (.int .i64 r) ∧ Below w.heap.size w w' := by
  have hu23 := Try.underlying23
  have HB := Aside0.mk (Below.refl w.heap.size w)
  have H : ((waveletref01_Valid.f a0_0 a0_1 a0_2 a0_3).bind fun t103 => (if t103 = true then (some (wrap64 ((wrap64 (a0_2 - a0_0)) * (wrap64 (a0_3 - a0_1))))) else (some 0))) = some r := h
  clear h
  replace H := Option.bind_eq_some_iff.mp H
  obtain ⟨t103, A20, H⟩ := H
  replace H : (if t103 = true then (some (wrap64 ((wrap64 (a0_2 - a0_0)) * (wrap64 (a0_3 - a0_1))))) else (some 0)) = some r := H
  have A2 := Aside0.mk A20
  clear A20
  by_cases c3 : t103 = true
  · subst c3
    have H1 : (some (wrap64 ((wrap64 (a0_2 - a0_0)) * (wrap64 (a0_3 - a0_1))))) = some r := by rw [if_pos rfl] at H; exact H
    clear H
    have H := H1
    clear H1
    obtain rfl := Option.some.inj H
    go_enter Try.func55, Try.ntmps55
    go_wp2_with (first | ((with_reducible refine gate_dst (N := 1) rfl ?_); refine box_event ?hg (N := 1) ?hd (cs := #[.int .i64 a0_0, .int .i64 a0_1, .int .i64 a0_2, .int .i64 a0_3]) (t := 23) ?hr ?_; (case hd => rfl); (case hg => rfl); (case hr => first | (go_simp; done) | (go_simp; rfl)); intro gb102 hg w4 hbox hb; have n0_ := Aside0.mk (below_step (by repeat (first | (with_reducible first | exact HB.out | apply below_alloc | apply pw_below_drewN | apply below_drew1) | exact HB.out)) hb); have n1_ := Aside0.mk (hbox); have n2_ := Aside0.mk ((by rw [hg]; exact (below_size (by repeat (first | (with_reducible first | exact HB.out | apply below_alloc | apply pw_below_drewN | apply below_drew1) | exact HB.out))) : w.heap.size ≤ gb102)); have n3_ := Aside0.mk ((by rw [hg]; exact (below_size (by repeat (first | (with_reducible first | exact HB.out | apply below_alloc | apply pw_below_drewN | apply below_drew1) | exact HB.out))) : w.heap.size ≤ gb102)); clear HB; have HB := n0_; have BK102 := n1_; have GW102 := n2_; have GE102 := n3_; clear n0_ n1_ n2_ n3_; clear hb hbox hg; have hcz5_0 : w4.cell? ⟨gb102, 0, none⟩ = some (.int .i64 a0_0) := (blk_cell BK102.out 0).trans rfl; have hcz5_1 : w4.cell? ⟨gb102, 1, none⟩ = some (.int .i64 a0_1) := (blk_cell BK102.out 1).trans rfl; have hcz5_2 : w4.cell? ⟨gb102, 2, none⟩ = some (.int .i64 a0_2) := (blk_cell BK102.out 2).trans rfl; have hcz5_3 : w4.cell? ⟨gb102, 3, none⟩ = some (.int .i64 a0_3) := (blk_cell BK102.out 3).trans rfl; have hfz5_0 := blk_frozen BK102.out 0; have hfz5_1 := blk_frozen BK102.out 1; have hfz5_2 := blk_frozen BK102.out 2; have hfz5_3 := blk_frozen BK102.out 3) | ((with_reducible refine gate_callee (f := 8) rfl ?_); refine goesL_ (some 4) rfl rfl Try.func8 (by kernel_rfl) rfl #[.agg #[.int .i64 a0_0, .int .i64 a0_1, .int .i64 a0_2, .int .i64 a0_3]] rfl (by (try simp only [List.map_toArray, List.map_cons, List.map_nil]); first | done | rfl | (simp only [List.length_drop, List.length_take]; rfl)) ?_; (with_reducible refine (waveletref01_Valid.calls a0_0 a0_1 a0_2 a0_3 true _ A2.out).mono ?_); rintro e w6 ⟨rfl, hb⟩; refine ⟨_, rfl, ?_⟩; have n0_ := Aside0.mk (blk_below (g := gb102) (o := .cells #[.int .i64 a0_0, .int .i64 a0_1, .int .i64 a0_2, .int .i64 a0_3] 23 (0, 0)) (by (with_reducible repeat (first | refine blk_drewN ?_ _ | refine blk_drew ?_ | refine blk_alloc ?_ _)); exact BK102.out) hb); have n1_ := Aside0.mk (below_step (by repeat (first | (with_reducible first | exact HB.out | apply below_alloc | apply pw_below_drewN | apply below_drew1 | refine below_set ?_ GE102.out) | exact HB.out)) hb); clear BK102; clear HB; have BK102 := n0_; have HB := n1_; clear n0_ n1_; (try clear hb); (try clear hb2); (try clear hk); (try clear hi); have hcz7_0 : w6.cell? ⟨gb102, 0, none⟩ = some (.int .i64 a0_0) := (blk_cell BK102.out 0).trans rfl; have hcz7_1 : w6.cell? ⟨gb102, 1, none⟩ = some (.int .i64 a0_1) := (blk_cell BK102.out 1).trans rfl; have hcz7_2 : w6.cell? ⟨gb102, 2, none⟩ = some (.int .i64 a0_2) := (blk_cell BK102.out 2).trans rfl; have hcz7_3 : w6.cell? ⟨gb102, 3, none⟩ = some (.int .i64 a0_3) := (blk_cell BK102.out 3).trans rfl; have hfz7_0 := blk_frozen BK102.out 0; have hfz7_1 := blk_frozen BK102.out 1; have hfz7_2 := blk_frozen BK102.out 2; have hfz7_3 := blk_frozen BK102.out 3))
    go_ret
    exact ⟨by first | rfl | (simp [errW_none, errW_some] <;> rfl) | (simp [*, errW_none, errW_some] <;> rfl), by repeat (first | (with_reducible first | exact HB.out | apply below_alloc | apply pw_below_drewN | apply below_drew1 | refine below_set ?_ GE102.out) | exact HB.out)⟩
  · replace c3 := Bool.eq_false_iff.mpr c3
    subst c3
    have H1 : (some 0) = some r := by rw [if_neg (show ¬ (false = true) by decide)] at H; exact H
    clear H
    have H := H1
    clear H1
    obtain rfl := Option.some.inj H
    go_enter Try.func55, Try.ntmps55
    go_wp2_with (first | ((with_reducible refine gate_dst (N := 1) rfl ?_); refine box_event ?hg (N := 1) ?hd (cs := #[.int .i64 a0_0, .int .i64 a0_1, .int .i64 a0_2, .int .i64 a0_3]) (t := 23) ?hr ?_; (case hd => rfl); (case hg => rfl); (case hr => first | (go_simp; done) | (go_simp; rfl)); intro gb102 hg w8 hbox hb; have n0_ := Aside0.mk (below_step (by repeat (first | (with_reducible first | exact HB.out | apply below_alloc | apply pw_below_drewN | apply below_drew1) | exact HB.out)) hb); have n1_ := Aside0.mk (hbox); have n2_ := Aside0.mk ((by rw [hg]; exact (below_size (by repeat (first | (with_reducible first | exact HB.out | apply below_alloc | apply pw_below_drewN | apply below_drew1) | exact HB.out))) : w.heap.size ≤ gb102)); have n3_ := Aside0.mk ((by rw [hg]; exact (below_size (by repeat (first | (with_reducible first | exact HB.out | apply below_alloc | apply pw_below_drewN | apply below_drew1) | exact HB.out))) : w.heap.size ≤ gb102)); clear HB; have HB := n0_; have BK102 := n1_; have GW102 := n2_; have GE102 := n3_; clear n0_ n1_ n2_ n3_; clear hb hbox hg; have hcz9_0 : w8.cell? ⟨gb102, 0, none⟩ = some (.int .i64 a0_0) := (blk_cell BK102.out 0).trans rfl; have hcz9_1 : w8.cell? ⟨gb102, 1, none⟩ = some (.int .i64 a0_1) := (blk_cell BK102.out 1).trans rfl; have hcz9_2 : w8.cell? ⟨gb102, 2, none⟩ = some (.int .i64 a0_2) := (blk_cell BK102.out 2).trans rfl; have hcz9_3 : w8.cell? ⟨gb102, 3, none⟩ = some (.int .i64 a0_3) := (blk_cell BK102.out 3).trans rfl; have hfz9_0 := blk_frozen BK102.out 0; have hfz9_1 := blk_frozen BK102.out 1; have hfz9_2 := blk_frozen BK102.out 2; have hfz9_3 := blk_frozen BK102.out 3) | ((with_reducible refine gate_callee (f := 8) rfl ?_); refine goesL_ (some 4) rfl rfl Try.func8 (by kernel_rfl) rfl #[.agg #[.int .i64 a0_0, .int .i64 a0_1, .int .i64 a0_2, .int .i64 a0_3]] rfl (by (try simp only [List.map_toArray, List.map_cons, List.map_nil]); first | done | rfl | (simp only [List.length_drop, List.length_take]; rfl)) ?_; (with_reducible refine (waveletref01_Valid.calls a0_0 a0_1 a0_2 a0_3 false _ A2.out).mono ?_); rintro e w10 ⟨rfl, hb⟩; refine ⟨_, rfl, ?_⟩; have n0_ := Aside0.mk (blk_below (g := gb102) (o := .cells #[.int .i64 a0_0, .int .i64 a0_1, .int .i64 a0_2, .int .i64 a0_3] 23 (0, 0)) (by (with_reducible repeat (first | refine blk_drewN ?_ _ | refine blk_drew ?_ | refine blk_alloc ?_ _)); exact BK102.out) hb); have n1_ := Aside0.mk (below_step (by repeat (first | (with_reducible first | exact HB.out | apply below_alloc | apply pw_below_drewN | apply below_drew1 | refine below_set ?_ GE102.out) | exact HB.out)) hb); clear BK102; clear HB; have BK102 := n0_; have HB := n1_; clear n0_ n1_; (try clear hb); (try clear hb2); (try clear hk); (try clear hi)))
    go_ret
    exact ⟨by first | rfl | (simp [errW_none, errW_some] <;> rfl) | (simp [*, errW_none, errW_some] <;> rfl), by repeat (first | (with_reducible first | exact HB.out | apply below_alloc | apply pw_below_drewN | apply below_drew1 | refine below_set ?_ GE102.out) | exact HB.out)⟩

end Go.Proofs.Ytcnpekpgghppnaa.Q

namespace Go.Proofs.Ytcnpekpgghppnaa.Q
open Go.RowKit Go.Proofs.YtcnpekpgghppnaaW.PrintWords Go.Proofs.YtcnpekpgghppnaaW.PrintLast Go.Proofs.YtcnpekpgghppnaaW.PrintMore
attribute [local go_sem] max2_int min2_int max_two min_two max_three min_three max_four min_four   -- for this text's walks alone
set_option linter.unusedVariables false
set_option linter.unusedSimpArgs false

/-! ### waveletref02_Valid: function 24 -/
def waveletref02_Valid.f (a0_0 : Int) (a0_1 : Int) (a0_2 : Int) (a0_3 : Int) (l0_4 : List Int) : Option (Bool) := (waveletref01_Area.f a0_0 a0_1 a0_2 a0_3).bind fun t105 => ((waveletref01_Valid.f a0_0 a0_1 a0_2 a0_3).bind fun t106 => (if t106 = true then (if t105 ≤ 1048576 then (some ((l0_4.length : Int) == t105)) else (some false)) else (some false)))
set_option maxHeartbeats 8000000 in
set_option maxRecDepth 100000 in
theorem waveletref02_Valid.calls (a0_0 : Int) (a0_1 : Int) (a0_2 : Int) (a0_3 : Int) (A0_4 : Option Addr) (c0_4 : Nat) (l0_4 : List Int) (r : Bool) (w : World) (hr0_4 : Kd.C (Kd.int .i64) w A0_4 l0_4.length l0_4) (hc0_4 : l0_4.length ≤ c0_4) (h : waveletref02_Valid.f a0_0 a0_1 a0_2 a0_3 l0_4 = some r) :
    Calls Try.prog 24 #[.agg #[.int .i64 a0_0, .int .i64 a0_1, .int .i64 a0_2, .int .i64 a0_3, .slice A0_4 l0_4.length c0_4]] w fun e w' => e = .returned (.bool r) ∧ Below w.heap.size w w' := by
  have hu26 := Try.underlying26
  have hu23 := Try.underlying23
  have HR0_4 := Aside0.mk hr0_4
  have HC0_4 := Aside0.mk hc0_4
  clear hr0_4 hc0_4
  have HB := Aside0.mk (Below.refl w.heap.size w)
  have H : ((waveletref01_Area.f a0_0 a0_1 a0_2 a0_3).bind fun t105 => ((waveletref01_Valid.f a0_0 a0_1 a0_2 a0_3).bind fun t106 => (if t106 = true then (if t105 ≤ 1048576 then (some ((l0_4.length : Int) == t105)) else (some false)) else (some false)))) = some r := h
  clear h
  replace H := Option.bind_eq_some_iff.mp H
  obtain ⟨t105, A20, H⟩ := H
  replace H : ((waveletref01_Valid.f a0_0 a0_1 a0_2 a0_3).bind fun t106 => (if t106 = true then (if t105 ≤ 1048576 then (some ((l0_4.length : Int) == t105)) else (some false)) else (some false))) = some r := H
  have A2 := Aside0.mk A20
  clear A20
  replace H := Option.bind_eq_some_iff.mp H
  obtain ⟨t106, A30, H⟩ := H
  replace H : (if t106 = true then (if t105 ≤ 1048576 then (some ((l0_4.length : Int) == t105)) else (some false)) else (some false)) = some r := H
  have A3 := Aside0.mk A30
  clear A30
  by_cases c4 : t106 = true
  · subst c4
    have H1 : (if t105 ≤ 1048576 then (some ((l0_4.length : Int) == t105)) else (some false)) = some r := by rw [if_pos rfl] at H; exact H
    clear H
    have H := H1
    clear H1
    by_cases c5 : t105 ≤ 1048576
    · rw [if_pos c5] at H
      have c5b0 : decide (t105 ≤ 1048576) = true := decide_eq_true c5
      clear c5
      obtain rfl := Option.some.inj H
      go_enter Try.func24, Try.ntmps24
      go_wp2_with (first | ((with_reducible refine gate_dst (N := 1) rfl ?_); (try (refine gate_guard (by rfl) ?_; dsimp only)); refine box_event ?hg (N := 1) ?hd (cs := #[.int .i64 a0_0, .int .i64 a0_1, .int .i64 a0_2, .int .i64 a0_3, .slice A0_4 l0_4.length c0_4]) (t := 26) ?hr ?_; (case hd => rfl); (case hg => rfl); (case hr => first | (go_simp; done) | (go_simp; rfl)); intro gb104 hg w6 hbox hb; have n0_ := Aside0.mk (below_step (by repeat (first | (with_reducible first | exact HB.out | apply below_alloc | apply pw_below_drewN | apply below_drew1) | exact HB.out)) hb); have n1_ := Aside0.mk (hbox); have n2_ := Aside0.mk ((by rw [hg]; exact (below_size (by repeat (first | (with_reducible first | exact HB.out | apply below_alloc | apply pw_below_drewN | apply below_drew1) | exact HB.out))) : w.heap.size ≤ gb104)); have n3_ := Aside0.mk ((by rw [hg]; exact (below_size (by repeat (first | (with_reducible first | exact HB.out | apply below_alloc | apply pw_below_drewN | apply below_drew1) | exact HB.out))) : w.heap.size ≤ gb104)); clear HB; have HB := n0_; have BK104 := n1_; have GW104 := n2_; have GE104 := n3_; clear n0_ n1_ n2_ n3_; clear hb hbox hg; have hcz7_0 : w6.cell? ⟨gb104, 0, none⟩ = some (.int .i64 a0_0) := (blk_cell BK104.out 0).trans rfl; have hcz7_1 : w6.cell? ⟨gb104, 1, none⟩ = some (.int .i64 a0_1) := (blk_cell BK104.out 1).trans rfl; have hcz7_2 : w6.cell? ⟨gb104, 2, none⟩ = some (.int .i64 a0_2) := (blk_cell BK104.out 2).trans rfl; have hcz7_3 : w6.cell? ⟨gb104, 3, none⟩ = some (.int .i64 a0_3) := (blk_cell BK104.out 3).trans rfl; have hcz7_4 : w6.cell? ⟨gb104, 4, none⟩ = some (.slice A0_4 l0_4.length c0_4) := (blk_cell BK104.out 4).trans rfl; have hfz7_0 := blk_frozen BK104.out 0; have hfz7_1 := blk_frozen BK104.out 1; have hfz7_2 := blk_frozen BK104.out 2; have hfz7_3 := blk_frozen BK104.out 3; have hfz7_4 := blk_frozen BK104.out 4) | ((with_reducible refine gate_callee (f := 55) rfl ?_); refine goesL_ (some 6) rfl rfl Try.func55 (by kernel_rfl) rfl #[.agg #[.int .i64 a0_0, .int .i64 a0_1, .int .i64 a0_2, .int .i64 a0_3]] rfl (by (try simp only [List.map_toArray, List.map_cons, List.map_nil]); first | done | rfl | (simp only [List.length_drop, List.length_take]; rfl)) ?_; (with_reducible refine (waveletref01_Area.calls a0_0 a0_1 a0_2 a0_3 t105 _ A2.out).mono ?_); rintro e w8 ⟨rfl, hb⟩; refine ⟨_, rfl, ?_⟩; have n0_ := Aside0.mk (blk_below (g := gb104) (o := .cells #[.int .i64 a0_0, .int .i64 a0_1, .int .i64 a0_2, .int .i64 a0_3, .slice A0_4 l0_4.length c0_4] 26 (0, 0)) (by (with_reducible repeat (first | refine blk_drewN ?_ _ | refine blk_drew ?_ | refine blk_alloc ?_ _)); exact BK104.out) hb); have n1_ := Aside0.mk (below_step (by repeat (first | (with_reducible first | exact HB.out | apply below_alloc | apply pw_below_drewN | apply below_drew1 | refine below_set ?_ GE104.out) | exact HB.out)) hb); clear BK104; clear HB; have BK104 := n0_; have HB := n1_; clear n0_ n1_; (try clear hb); (try clear hb2); (try clear hk); (try clear hi); have hcz9_0 : w8.cell? ⟨gb104, 0, none⟩ = some (.int .i64 a0_0) := (blk_cell BK104.out 0).trans rfl; have hcz9_1 : w8.cell? ⟨gb104, 1, none⟩ = some (.int .i64 a0_1) := (blk_cell BK104.out 1).trans rfl; have hcz9_2 : w8.cell? ⟨gb104, 2, none⟩ = some (.int .i64 a0_2) := (blk_cell BK104.out 2).trans rfl; have hcz9_3 : w8.cell? ⟨gb104, 3, none⟩ = some (.int .i64 a0_3) := (blk_cell BK104.out 3).trans rfl; have hcz9_4 : w8.cell? ⟨gb104, 4, none⟩ = some (.slice A0_4 l0_4.length c0_4) := (blk_cell BK104.out 4).trans rfl; have hfz9_0 := blk_frozen BK104.out 0; have hfz9_1 := blk_frozen BK104.out 1; have hfz9_2 := blk_frozen BK104.out 2; have hfz9_3 := blk_frozen BK104.out 3; have hfz9_4 := blk_frozen BK104.out 4) | ((with_reducible refine gate_callee (f := 8) rfl ?_); refine goesL_ (some 9) rfl rfl Try.func8 (by kernel_rfl) rfl #[.agg #[.int .i64 a0_0, .int .i64 a0_1, .int .i64 a0_2, .int .i64 a0_3]] rfl (by (try simp only [List.map_toArray, List.map_cons, List.map_nil]); first | done | rfl | (simp only [List.length_drop, List.length_take]; rfl)) ?_; (with_reducible refine (waveletref01_Valid.calls a0_0 a0_1 a0_2 a0_3 true _ A3.out).mono ?_); rintro e w10 ⟨rfl, hb⟩; refine ⟨_, rfl, ?_⟩; have n0_ := Aside0.mk (blk_below (g := gb104) (o := .cells #[.int .i64 a0_0, .int .i64 a0_1, .int .i64 a0_2, .int .i64 a0_3, .slice A0_4 l0_4.length c0_4] 26 (0, 0)) (by (with_reducible repeat (first | refine blk_drewN ?_ _ | refine blk_drew ?_ | refine blk_alloc ?_ _)); exact BK104.out) hb); have n1_ := Aside0.mk (below_step (by repeat (first | (with_reducible first | exact HB.out | apply below_alloc | apply pw_below_drewN | apply below_drew1 | refine below_set ?_ GE104.out) | exact HB.out)) hb); clear BK104; clear HB; have BK104 := n0_; have HB := n1_; clear n0_ n1_; (try clear hb); (try clear hb2); (try clear hk); (try clear hi); have hcz11_0 : w10.cell? ⟨gb104, 0, none⟩ = some (.int .i64 a0_0) := (blk_cell BK104.out 0).trans rfl; have hcz11_1 : w10.cell? ⟨gb104, 1, none⟩ = some (.int .i64 a0_1) := (blk_cell BK104.out 1).trans rfl; have hcz11_2 : w10.cell? ⟨gb104, 2, none⟩ = some (.int .i64 a0_2) := (blk_cell BK104.out 2).trans rfl; have hcz11_3 : w10.cell? ⟨gb104, 3, none⟩ = some (.int .i64 a0_3) := (blk_cell BK104.out 3).trans rfl; have hcz11_4 : w10.cell? ⟨gb104, 4, none⟩ = some (.slice A0_4 l0_4.length c0_4) := (blk_cell BK104.out 4).trans rfl; have hfz11_0 := blk_frozen BK104.out 0; have hfz11_1 := blk_frozen BK104.out 1; have hfz11_2 := blk_frozen BK104.out 2; have hfz11_3 := blk_frozen BK104.out 3; have hfz11_4 := blk_frozen BK104.out 4))
      go_ret
      exact ⟨by first | rfl | (simp [errW_none, errW_some] <;> rfl) | (simp [*, errW_none, errW_some] <;> rfl), by repeat (first | (with_reducible first | exact HB.out | apply below_alloc | apply pw_below_drewN | apply below_drew1 | refine below_set ?_ GE104.out) | exact HB.out)⟩
    · rw [if_neg c5] at H
      have c5b0 : decide (t105 ≤ 1048576) = false := decide_eq_false c5
      clear c5
      obtain rfl := Option.some.inj H
      go_enter Try.func24, Try.ntmps24
      go_wp2_with (first | ((with_reducible refine gate_dst (N := 1) rfl ?_); (try (refine gate_guard (by rfl) ?_; dsimp only)); refine box_event ?hg (N := 1) ?hd (cs := #[.int .i64 a0_0, .int .i64 a0_1, .int .i64 a0_2, .int .i64 a0_3, .slice A0_4 l0_4.length c0_4]) (t := 26) ?hr ?_; (case hd => rfl); (case hg => rfl); (case hr => first | (go_simp; done) | (go_simp; rfl)); intro gb104 hg w12 hbox hb; have n0_ := Aside0.mk (below_step (by repeat (first | (with_reducible first | exact HB.out | apply below_alloc | apply pw_below_drewN | apply below_drew1) | exact HB.out)) hb); have n1_ := Aside0.mk (hbox); have n2_ := Aside0.mk ((by rw [hg]; exact (below_size (by repeat (first | (with_reducible first | exact HB.out | apply below_alloc | apply pw_below_drewN | apply below_drew1) | exact HB.out))) : w.heap.size ≤ gb104)); have n3_ := Aside0.mk ((by rw [hg]; exact (below_size (by repeat (first | (with_reducible first | exact HB.out | apply below_alloc | apply pw_below_drewN | apply below_drew1) | exact HB.out))) : w.heap.size ≤ gb104)); clear HB; have HB := n0_; have BK104 := n1_; have GW104 := n2_; have GE104 := n3_; clear n0_ n1_ n2_ n3_; clear hb hbox hg; have hcz13_0 : w12.cell? ⟨gb104, 0, none⟩ = some (.int .i64 a0_0) := (blk_cell BK104.out 0).trans rfl; have hcz13_1 : w12.cell? ⟨gb104, 1, none⟩ = some (.int .i64 a0_1) := (blk_cell BK104.out 1).trans rfl; have hcz13_2 : w12.cell? ⟨gb104, 2, none⟩ = some (.int .i64 a0_2) := (blk_cell BK104.out 2).trans rfl; have hcz13_3 : w12.cell? ⟨gb104, 3, none⟩ = some (.int .i64 a0_3) := (blk_cell BK104.out 3).trans rfl; have hcz13_4 : w12.cell? ⟨gb104, 4, none⟩ = some (.slice A0_4 l0_4.length c0_4) := (blk_cell BK104.out 4).trans rfl; have hfz13_0 := blk_frozen BK104.out 0; have hfz13_1 := blk_frozen BK104.out 1; have hfz13_2 := blk_frozen BK104.out 2; have hfz13_3 := blk_frozen BK104.out 3; have hfz13_4 := blk_frozen BK104.out 4) | ((with_reducible refine gate_callee (f := 55) rfl ?_); refine goesL_ (some 6) rfl rfl Try.func55 (by kernel_rfl) rfl #[.agg #[.int .i64 a0_0, .int .i64 a0_1, .int .i64 a0_2, .int .i64 a0_3]] rfl (by (try simp only [List.map_toArray, List.map_cons, List.map_nil]); first | done | rfl | (simp only [List.length_drop, List.length_take]; rfl)) ?_; (with_reducible refine (waveletref01_Area.calls a0_0 a0_1 a0_2 a0_3 t105 _ A2.out).mono ?_); rintro e w14 ⟨rfl, hb⟩; refine ⟨_, rfl, ?_⟩; have n0_ := Aside0.mk (blk_below (g := gb104) (o := .cells #[.int .i64 a0_0, .int .i64 a0_1, .int .i64 a0_2, .int .i64 a0_3, .slice A0_4 l0_4.length c0_4] 26 (0, 0)) (by (with_reducible repeat (first | refine blk_drewN ?_ _ | refine blk_drew ?_ | refine blk_alloc ?_ _)); exact BK104.out) hb); have n1_ := Aside0.mk (below_step (by repeat (first | (with_reducible first | exact HB.out | apply below_alloc | apply pw_below_drewN | apply below_drew1 | refine below_set ?_ GE104.out) | exact HB.out)) hb); clear BK104; clear HB; have BK104 := n0_; have HB := n1_; clear n0_ n1_; (try clear hb); (try clear hb2); (try clear hk); (try clear hi); have hcz15_0 : w14.cell? ⟨gb104, 0, none⟩ = some (.int .i64 a0_0) := (blk_cell BK104.out 0).trans rfl; have hcz15_1 : w14.cell? ⟨gb104, 1, none⟩ = some (.int .i64 a0_1) := (blk_cell BK104.out 1).trans rfl; have hcz15_2 : w14.cell? ⟨gb104, 2, none⟩ = some (.int .i64 a0_2) := (blk_cell BK104.out 2).trans rfl; have hcz15_3 : w14.cell? ⟨gb104, 3, none⟩ = some (.int .i64 a0_3) := (blk_cell BK104.out 3).trans rfl; have hcz15_4 : w14.cell? ⟨gb104, 4, none⟩ = some (.slice A0_4 l0_4.length c0_4) := (blk_cell BK104.out 4).trans rfl; have hfz15_0 := blk_frozen BK104.out 0; have hfz15_1 := blk_frozen BK104.out 1; have hfz15_2 := blk_frozen BK104.out 2; have hfz15_3 := blk_frozen BK104.out 3; have hfz15_4 := blk_frozen BK104.out 4) | ((with_reducible refine gate_callee (f := 8) rfl ?_); refine goesL_ (some 9) rfl rfl Try.func8 (by kernel_rfl) rfl #[.agg #[.int .i64 a0_0, .int .i64 a0_1, .int .i64 a0_2, .int .i64 a0_3]] rfl (by (try simp only [List.map_toArray, List.map_cons, List.map_nil]); first | done | rfl | (simp only [List.length_drop, List.length_take]; rfl)) ?_; (with_reducible refine (waveletref01_Valid.calls a0_0 a0_1 a0_2 a0_3 true _ A3.out).mono ?_); rintro e w16 ⟨rfl, hb⟩; refine ⟨_, rfl, ?_⟩; have n0_ := Aside0.mk (blk_below (g := gb104) (o := .cells #[.int .i64 a0_0, .int .i64 a0_1, .int .i64 a0_2, .int .i64 a0_3, .slice A0_4 l0_4.length c0_4] 26 (0, 0)) (by (with_reducible repeat (first | refine blk_drewN ?_ _ | refine blk_drew ?_ | refine blk_alloc ?_ _)); exact BK104.out) hb); have n1_ := Aside0.mk (below_step (by repeat (first | (with_reducible first | exact HB.out | apply below_alloc | apply pw_below_drewN | apply below_drew1 | refine below_set ?_ GE104.out) | exact HB.out)) hb); clear BK104; clear HB; have BK104 := n0_; have HB := n1_; clear n0_ n1_; (try clear hb); (try clear hb2); (try clear hk); (try clear hi)))
      go_ret
      exact ⟨by first | rfl | (simp [errW_none, errW_some] <;> rfl) | (simp [*, errW_none, errW_some] <;> rfl), by repeat (first | (with_reducible first | exact HB.out | apply below_alloc | apply pw_below_drewN | apply below_drew1 | refine below_set ?_ GE104.out) | exact HB.out)⟩
  · replace c4 := Bool.eq_false_iff.mpr c4
    subst c4
    have H1 : (some false) = some r := by rw [if_neg (show ¬ (false = true) by decide)] at H; exact H
    clear H
    have H := H1
    clear H1
    obtain rfl := Option.some.inj H
    go_enter Try.func24, Try.ntmps24
    go_wp2_with (first | ((with_reducible refine gate_dst (N := 1) rfl ?_); (try (refine gate_guard (by rfl) ?_; dsimp only)); refine box_event ?hg (N := 1) ?hd (cs := #[.int .i64 a0_0, .int .i64 a0_1, .int .i64 a0_2, .int .i64 a0_3, .slice A0_4 l0_4.length c0_4]) (t := 26) ?hr ?_; (case hd => rfl); (case hg => rfl); (case hr => first | (go_simp; done) | (go_simp; rfl)); intro gb104 hg w17 hbox hb; have n0_ := Aside0.mk (below_step (by repeat (first | (with_reducible first | exact HB.out | apply below_alloc | apply pw_below_drewN | apply below_drew1) | exact HB.out)) hb); have n1_ := Aside0.mk (hbox); have n2_ := Aside0.mk ((by rw [hg]; exact (below_size (by repeat (first | (with_reducible first | exact HB.out | apply below_alloc | apply pw_below_drewN | apply below_drew1) | exact HB.out))) : w.heap.size ≤ gb104)); have n3_ := Aside0.mk ((by rw [hg]; exact (below_size (by repeat (first | (with_reducible first | exact HB.out | apply below_alloc | apply pw_below_drewN | apply below_drew1) | exact HB.out))) : w.heap.size ≤ gb104)); clear HB; have HB := n0_; have BK104 := n1_; have GW104 := n2_; have GE104 := n3_; clear n0_ n1_ n2_ n3_; clear hb hbox hg; have hcz18_0 : w17.cell? ⟨gb104, 0, none⟩ = some (.int .i64 a0_0) := (blk_cell BK104.out 0).trans rfl; have hcz18_1 : w17.cell? ⟨gb104, 1, none⟩ = some (.int .i64 a0_1) := (blk_cell BK104.out 1).trans rfl; have hcz18_2 : w17.cell? ⟨gb104, 2, none⟩ = some (.int .i64 a0_2) := (blk_cell BK104.out 2).trans rfl; have hcz18_3 : w17.cell? ⟨gb104, 3, none⟩ = some (.int .i64 a0_3) := (blk_cell BK104.out 3).trans rfl; have hcz18_4 : w17.cell? ⟨gb104, 4, none⟩ = some (.slice A0_4 l0_4.length c0_4) := (blk_cell BK104.out 4).trans rfl; have hfz18_0 := blk_frozen BK104.out 0; have hfz18_1 := blk_frozen BK104.out 1; have hfz18_2 := blk_frozen BK104.out 2; have hfz18_3 := blk_frozen BK104.out 3; have hfz18_4 := blk_frozen BK104.out 4) | ((with_reducible refine gate_callee (f := 55) rfl ?_); refine goesL_ (some 6) rfl rfl Try.func55 (by kernel_rfl) rfl #[.agg #[.int .i64 a0_0, .int .i64 a0_1, .int .i64 a0_2, .int .i64 a0_3]] rfl (by (try simp only [List.map_toArray, List.map_cons, List.map_nil]); first | done | rfl | (simp only [List.length_drop, List.length_take]; rfl)) ?_; (with_reducible refine (waveletref01_Area.calls a0_0 a0_1 a0_2 a0_3 t105 _ A2.out).mono ?_); rintro e w19 ⟨rfl, hb⟩; refine ⟨_, rfl, ?_⟩; have n0_ := Aside0.mk (blk_below (g := gb104) (o := .cells #[.int .i64 a0_0, .int .i64 a0_1, .int .i64 a0_2, .int .i64 a0_3, .slice A0_4 l0_4.length c0_4] 26 (0, 0)) (by (with_reducible repeat (first | refine blk_drewN ?_ _ | refine blk_drew ?_ | refine blk_alloc ?_ _)); exact BK104.out) hb); have n1_ := Aside0.mk (below_step (by repeat (first | (with_reducible first | exact HB.out | apply below_alloc | apply pw_below_drewN | apply below_drew1 | refine below_set ?_ GE104.out) | exact HB.out)) hb); clear BK104; clear HB; have BK104 := n0_; have HB := n1_; clear n0_ n1_; (try clear hb); (try clear hb2); (try clear hk); (try clear hi); have hcz20_0 : w19.cell? ⟨gb104, 0, none⟩ = some (.int .i64 a0_0) := (blk_cell BK104.out 0).trans rfl; have hcz20_1 : w19.cell? ⟨gb104, 1, none⟩ = some (.int .i64 a0_1) := (blk_cell BK104.out 1).trans rfl; have hcz20_2 : w19.cell? ⟨gb104, 2, none⟩ = some (.int .i64 a0_2) := (blk_cell BK104.out 2).trans rfl; have hcz20_3 : w19.cell? ⟨gb104, 3, none⟩ = some (.int .i64 a0_3) := (blk_cell BK104.out 3).trans rfl; have hcz20_4 : w19.cell? ⟨gb104, 4, none⟩ = some (.slice A0_4 l0_4.length c0_4) := (blk_cell BK104.out 4).trans rfl; have hfz20_0 := blk_frozen BK104.out 0; have hfz20_1 := blk_frozen BK104.out 1; have hfz20_2 := blk_frozen BK104.out 2; have hfz20_3 := blk_frozen BK104.out 3; have hfz20_4 := blk_frozen BK104.out 4) | ((with_reducible refine gate_callee (f := 8) rfl ?_); refine goesL_ (some 9) rfl rfl Try.func8 (by kernel_rfl) rfl #[.agg #[.int .i64 a0_0, .int .i64 a0_1, .int .i64 a0_2, .int .i64 a0_3]] rfl (by (try simp only [List.map_toArray, List.map_cons, List.map_nil]); first | done | rfl | (simp only [List.length_drop, List.length_take]; rfl)) ?_; (with_reducible refine (waveletref01_Valid.calls a0_0 a0_1 a0_2 a0_3 false _ A3.out).mono ?_); rintro e w21 ⟨rfl, hb⟩; refine ⟨_, rfl, ?_⟩; have n0_ := Aside0.mk (blk_below (g := gb104) (o := .cells #[.int .i64 a0_0, .int .i64 a0_1, .int .i64 a0_2, .int .i64 a0_3, .slice A0_4 l0_4.length c0_4] 26 (0, 0)) (by (with_reducible repeat (first | refine blk_drewN ?_ _ | refine blk_drew ?_ | refine blk_alloc ?_ _)); exact BK104.out) hb); have n1_ := Aside0.mk (below_step (by repeat (first | (with_reducible first | exact HB.out | apply below_alloc | apply pw_below_drewN | apply below_drew1 | refine below_set ?_ GE104.out) | exact HB.out)) hb); clear BK104; clear HB; have BK104 := n0_; have HB := n1_; clear n0_ n1_; (try clear hb); (try clear hb2); (try clear hk); (try clear hi)))
    go_ret
    exact ⟨by first | rfl | (simp [errW_none, errW_some] <;> rfl) | (simp [*, errW_none, errW_some] <;> rfl), by repeat (first | (with_reducible first | exact HB.out | apply below_alloc | apply pw_below_drewN | apply below_drew1 | refine below_set ?_ GE104.out) | exact HB.out)⟩

end Go.Proofs.Ytcnpekpgghppnaa.Q

namespace Go.Proofs.Ytcnpekpgghppnaa.Q
open Go.RowKit Go.Proofs.YtcnpekpgghppnaaW.PrintWords Go.Proofs.YtcnpekpgghppnaaW.PrintLast Go.Proofs.YtcnpekpgghppnaaW.PrintMore
attribute [local go_sem] max2_int min2_int max_two min_two max_three min_three max_four min_four   -- for this text's walks alone
set_option linter.unusedVariables false
set_option linter.unusedSimpArgs false

/-! ### wavelettop_smallPlane: function 6 -/
mutual
def wavelettop_smallPlane.j0 : Nat → Bool → Int → Int → Int → Int → List Int → Option (Bool)
  | 0, _, _, _, _, _, _ => none
  | k + 1, x13, x108000, x108001, x108002, x108003, x108004 => if x13 = true then (some false) else (wavelettop_smallPlane.l0 k x108004 (x108004.length : Int) 0)
def wavelettop_smallPlane.l0 : Nat → List Int → Int → Int → Option (Bool)
  | 0, _, _, _ => none
  | k + 1, x15, x16, x17 => if x17 < x16 then (if 0 ≤ x17 then (if x17 < (x15.length : Int) then (if (rd x15 x17) < (-65536) then (some false) else (if (rd x15 x17) > 65536 then (some false) else (wavelettop_smallPlane.l0 k x15 x16 (wrap64 (x17 + 1))))) else (none)) else (none)) else (some true)
end
def wavelettop_smallPlane.f (k : Nat) (a0_0 : Int) (a0_1 : Int) (a0_2 : Int) (a0_3 : Int) (l0_4 : List Int) : Option (Bool) := (waveletref02_Valid.f a0_0 a0_1 a0_2 a0_3 l0_4).bind fun t108 => (if t108 = true then (wavelettop_smallPlane.j0 k (decide ((l0_4.length : Int) > 900)) a0_0 a0_1 a0_2 a0_3 l0_4) else (wavelettop_smallPlane.j0 k true a0_0 a0_1 a0_2 a0_3 l0_4))
theorem wavelettop_smallPlane.mono_l : ∀ k, (∀ y0 y1 y2 y3 y4 y5, LeO (wavelettop_smallPlane.j0 k y0 y1 y2 y3 y4 y5) (wavelettop_smallPlane.j0 (k + 1) y0 y1 y2 y3 y4 y5)) ∧ (∀ y0 y1 y2, LeO (wavelettop_smallPlane.l0 k y0 y1 y2) (wavelettop_smallPlane.l0 (k + 1) y0 y1 y2))
  | 0 => ⟨fun _ _ _ _ _ _ r h => by simp [wavelettop_smallPlane.j0] at h, fun _ _ _ r h => by simp [wavelettop_smallPlane.l0] at h⟩
  | k + 1 => by
    obtain ⟨ih0, ih1⟩ := wavelettop_smallPlane.mono_l k
    refine ⟨?_, ?_⟩
    · intro y0 y1 y2 y3 y4 y5
      unfold wavelettop_smallPlane.j0
      repeat' first
      | (with_reducible exact ih0 _ _ _ _ _ _)
      | (with_reducible exact ih1 _ _ _)
      | (with_reducible exact LeO.refl _)
      | (with_reducible exact LeO.none _)
      | (with_reducible refine LeO.ite ?_ ?_)
      | (with_reducible refine LeO.bind ?_ (fun _ => ?_))
      | exact ih0 _ _ _ _ _ _
      | exact ih1 _ _ _
      | exact LeO.none _
      | refine LeO.ite ?_ ?_
      | refine LeO.bind ?_ (fun _ => ?_)
    · intro y0 y1 y2
      unfold wavelettop_smallPlane.l0
      repeat' first
      | (with_reducible exact ih0 _ _ _ _ _ _)
      | (with_reducible exact ih1 _ _ _)
      | (with_reducible exact LeO.refl _)
      | (with_reducible exact LeO.none _)
      | (with_reducible refine LeO.ite ?_ ?_)
      | (with_reducible refine LeO.bind ?_ (fun _ => ?_))
      | exact ih0 _ _ _ _ _ _
      | exact ih1 _ _ _
      | exact LeO.none _
      | refine LeO.ite ?_ ?_
      | refine LeO.bind ?_ (fun _ => ?_)
theorem wavelettop_smallPlane.mono : ∀ a0 a1 a2 a3 a4 k, LeO (wavelettop_smallPlane.f k a0 a1 a2 a3 a4) (wavelettop_smallPlane.f (k + 1) a0 a1 a2 a3 a4) := by
  intro a0 a1 a2 a3 a4 k
  obtain ⟨ih0, ih1⟩ := wavelettop_smallPlane.mono_l k
  unfold wavelettop_smallPlane.f
  repeat' first
      | (with_reducible exact ih0 _ _ _ _ _ _)
      | (with_reducible exact ih1 _ _ _)
      | (with_reducible exact LeO.refl _)
      | (with_reducible exact LeO.none _)
      | (with_reducible refine LeO.ite ?_ ?_)
      | (with_reducible refine LeO.bind ?_ (fun _ => ?_))
      | exact ih0 _ _ _ _ _ _
      | exact ih1 _ _ _
      | exact LeO.none _
      | refine LeO.ite ?_ ?_
      | refine LeO.bind ?_ (fun _ => ?_)
set_option maxHeartbeats 8000000 in
set_option maxRecDepth 100000 in
theorem wavelettop_smallPlane.calls (k : Nat) (a0_0 : Int) (a0_1 : Int) (a0_2 : Int) (a0_3 : Int) (A0_4 : Option Addr) (c0_4 : Nat) (l0_4 : List Int) (r : Bool) (w : World) (hr0_4 : Kd.C (Kd.int .i64) w A0_4 l0_4.length l0_4) (hc0_4 : l0_4.length ≤ c0_4) (h : wavelettop_smallPlane.f k a0_0 a0_1 a0_2 a0_3 l0_4 = some r) :
    Calls Try.prog 6 #[.agg #[.int .i64 a0_0, .int .i64 a0_1, .int .i64 a0_2, .int .i64 a0_3, .slice A0_4 l0_4.length c0_4]] w fun e w' => e = .returned (.bool r) ∧ Below w.heap.size w w' := by
  have hu26 := Try.underlying26
  have HR0_4 := Aside0.mk hr0_4
  have HC0_4 := Aside0.mk hc0_4
  clear hr0_4 hc0_4
  have HB := Aside0.mk (Below.refl w.heap.size w)
  have H : ((waveletref02_Valid.f a0_0 a0_1 a0_2 a0_3 l0_4).bind fun t108 => (if t108 = true then (wavelettop_smallPlane.j0 k (decide ((l0_4.length : Int) > 900)) a0_0 a0_1 a0_2 a0_3 l0_4) else (wavelettop_smallPlane.j0 k true a0_0 a0_1 a0_2 a0_3 l0_4))) = some r := h
  clear h
  have HC2 := Aside0.mk H
  clear H
  go_enter Try.func6, Try.ntmps6
  go_upto_region 1 with (first | ((with_reducible refine gate_dst (N := 1) rfl ?_); (try (refine gate_guard (by rfl) ?_; dsimp only)); refine box_event ?hg (N := 1) ?hd (cs := #[.int .i64 a0_0, .int .i64 a0_1, .int .i64 a0_2, .int .i64 a0_3, .slice A0_4 l0_4.length c0_4]) (t := 26) ?hr ?_; (case hd => rfl); (case hg => rfl); (case hr => first | (go_simp; done) | (go_simp; rfl)); intro gb107 hg w3 hbox hb; have n0_ := Aside0.mk (below_step (by repeat (first | (with_reducible first | exact HB.out | apply below_alloc | apply pw_below_drewN | apply below_drew1) | exact HB.out)) hb); have n1_ := Aside0.mk (hbox); have n2_ := Aside0.mk ((by rw [hg]; exact (below_size (by repeat (first | (with_reducible first | exact HB.out | apply below_alloc | apply pw_below_drewN | apply below_drew1) | exact HB.out))) : w.heap.size ≤ gb107)); have n3_ := Aside0.mk ((by rw [hg]; exact (below_size (by repeat (first | (with_reducible first | exact HB.out | apply below_alloc | apply pw_below_drewN | apply below_drew1) | exact HB.out))) : w.heap.size ≤ gb107)); clear HB; have HB := n0_; have BK107 := n1_; have GW107 := n2_; have GE107 := n3_; clear n0_ n1_ n2_ n3_; clear hb hbox hg))
  (try simp only [Act.put, List.setIfInBounds_toArray, List.set_cons_zero, List.set_cons_succ])
  go_cut [13] (fun v13 wc => ∃ (kq : Nat) (x13_1 : Bool), v13 = .bool x13_1 ∧ Aside0 (wavelettop_smallPlane.j0 kq x13_1 a0_0 a0_1 a0_2 a0_3 l0_4 = some r) ∧ Aside0 (kq ≤ k) ∧ Aside0 (wc.heap[gb107]? = some (.cells #[.int .i64 a0_0, .int .i64 a0_1, .int .i64 a0_2, .int .i64 a0_3, (.slice A0_4 l0_4.length c0_4)] 26 (0, 0))) ∧ Aside0 (Below w.heap.size w wc))
  case first =>
    have H := HC2.out
    clear HC2
    replace H := Option.bind_eq_some_iff.mp H
    obtain ⟨t108, A40, H⟩ := H
    replace H : (if t108 = true then (wavelettop_smallPlane.j0 k (decide ((l0_4.length : Int) > 900)) a0_0 a0_1 a0_2 a0_3 l0_4) else (wavelettop_smallPlane.j0 k true a0_0 a0_1 a0_2 a0_3 l0_4)) = some r := H
    have A4 := Aside0.mk A40
    clear A40
    by_cases c5 : t108 = true
    · subst c5
      have H1 : (wavelettop_smallPlane.j0 k (decide ((l0_4.length : Int) > 900)) a0_0 a0_1 a0_2 a0_3 l0_4) = some r := by rw [if_pos rfl] at H; exact H
      clear H
      have H := H1
      clear H1
      have H' := Aside0.mk H
      clear H
      have hcz6_0 : w3.cell? ⟨gb107, 0, none⟩ = some (.int .i64 a0_0) := (blk_cell BK107.out 0).trans rfl
      have hcz6_1 : w3.cell? ⟨gb107, 1, none⟩ = some (.int .i64 a0_1) := (blk_cell BK107.out 1).trans rfl
      have hcz6_2 : w3.cell? ⟨gb107, 2, none⟩ = some (.int .i64 a0_2) := (blk_cell BK107.out 2).trans rfl
      have hcz6_3 : w3.cell? ⟨gb107, 3, none⟩ = some (.int .i64 a0_3) := (blk_cell BK107.out 3).trans rfl
      have hcz6_4 : w3.cell? ⟨gb107, 4, none⟩ = some (.slice A0_4 l0_4.length c0_4) := (blk_cell BK107.out 4).trans rfl
      have hfz6_0 := blk_frozen BK107.out 0
      have hfz6_1 := blk_frozen BK107.out 1
      have hfz6_2 := blk_frozen BK107.out 2
      have hfz6_3 := blk_frozen BK107.out 3
      have hfz6_4 := blk_frozen BK107.out 4
      go_wp2_with (first | ((with_reducible refine gate_callee (f := 24) rfl ?_); refine goesL_ (some 6) rfl rfl Try.func24 (by kernel_rfl) rfl #[.agg #[.int .i64 a0_0, .int .i64 a0_1, .int .i64 a0_2, .int .i64 a0_3, .slice A0_4 l0_4.length c0_4]] rfl (by (try simp only [List.map_toArray, List.map_cons, List.map_nil]); first | done | rfl | (simp only [List.length_drop, List.length_take]; rfl)) ?_; (with_reducible refine (waveletref02_Valid.calls a0_0 a0_1 a0_2 a0_3 _ _ l0_4 true _ ?side1 ?side2 A4.out).mono ?_); (case side1 => repeat (first | exact (Kd.C_below HR0_4.out HB.out) | (with_reducible refine Kd.C_alloc ?_ _) | (with_reducible refine Kd.C_drewN ?_ _) | (with_reducible refine Kd.C_drew ?_))); (case side2 => exact HC0_4.out); rintro e w7 ⟨rfl, hb⟩; refine ⟨_, rfl, ?_⟩; have n0_ := Aside0.mk (blk_below (g := gb107) (o := .cells #[.int .i64 a0_0, .int .i64 a0_1, .int .i64 a0_2, .int .i64 a0_3, .slice A0_4 l0_4.length c0_4] 26 (0, 0)) (by (with_reducible repeat (first | refine blk_drewN ?_ _ | refine blk_drew ?_ | refine blk_alloc ?_ _)); exact BK107.out) hb); have n1_ := Aside0.mk (below_step (by repeat (first | (with_reducible first | exact HB.out | apply below_alloc | apply pw_below_drewN | apply below_drew1 | refine below_set ?_ GE107.out) | exact HB.out)) hb); clear BK107; clear HB; have BK107 := n0_; have HB := n1_; clear n0_ n1_; (try clear hb); (try clear hb2); (try clear hk); (try clear hi); have hcz8_0 : w7.cell? ⟨gb107, 0, none⟩ = some (.int .i64 a0_0) := (blk_cell BK107.out 0).trans rfl; have hcz8_1 : w7.cell? ⟨gb107, 1, none⟩ = some (.int .i64 a0_1) := (blk_cell BK107.out 1).trans rfl; have hcz8_2 : w7.cell? ⟨gb107, 2, none⟩ = some (.int .i64 a0_2) := (blk_cell BK107.out 2).trans rfl; have hcz8_3 : w7.cell? ⟨gb107, 3, none⟩ = some (.int .i64 a0_3) := (blk_cell BK107.out 3).trans rfl; have hcz8_4 : w7.cell? ⟨gb107, 4, none⟩ = some (.slice A0_4 l0_4.length c0_4) := (blk_cell BK107.out 4).trans rfl; have hfz8_0 := blk_frozen BK107.out 0; have hfz8_1 := blk_frozen BK107.out 1; have hfz8_2 := blk_frozen BK107.out 2; have hfz8_3 := blk_frozen BK107.out 3; have hfz8_4 := blk_frozen BK107.out 4))
      go_meet
      case rel => exact ⟨_, (decide ((l0_4.length : Int) > 900)), (by first | rfl | (simp; done) | (simp [*]; done)), H', ⟨by first | omega | exact Nat.le_refl _⟩, ⟨by (with_reducible repeat (first | refine blk_drewN ?_ _ | refine blk_drew ?_ | refine blk_alloc ?_ _)); exact BK107.out⟩, ⟨by repeat (first | (with_reducible first | exact HB.out | apply below_alloc | apply pw_below_drewN | apply below_drew1 | refine below_set ?_ GE107.out) | exact HB.out)⟩⟩
    · replace c5 := Bool.eq_false_iff.mpr c5
      subst c5
      have H1 : (wavelettop_smallPlane.j0 k true a0_0 a0_1 a0_2 a0_3 l0_4) = some r := by rw [if_neg (show ¬ (false = true) by decide)] at H; exact H
      clear H
      have H := H1
      clear H1
      have H' := Aside0.mk H
      clear H
      have hcz9_0 : w3.cell? ⟨gb107, 0, none⟩ = some (.int .i64 a0_0) := (blk_cell BK107.out 0).trans rfl
      have hcz9_1 : w3.cell? ⟨gb107, 1, none⟩ = some (.int .i64 a0_1) := (blk_cell BK107.out 1).trans rfl
      have hcz9_2 : w3.cell? ⟨gb107, 2, none⟩ = some (.int .i64 a0_2) := (blk_cell BK107.out 2).trans rfl
      have hcz9_3 : w3.cell? ⟨gb107, 3, none⟩ = some (.int .i64 a0_3) := (blk_cell BK107.out 3).trans rfl
      have hcz9_4 : w3.cell? ⟨gb107, 4, none⟩ = some (.slice A0_4 l0_4.length c0_4) := (blk_cell BK107.out 4).trans rfl
      have hfz9_0 := blk_frozen BK107.out 0
      have hfz9_1 := blk_frozen BK107.out 1
      have hfz9_2 := blk_frozen BK107.out 2
      have hfz9_3 := blk_frozen BK107.out 3
      have hfz9_4 := blk_frozen BK107.out 4
      go_wp2_with (first | ((with_reducible refine gate_callee (f := 24) rfl ?_); refine goesL_ (some 6) rfl rfl Try.func24 (by kernel_rfl) rfl #[.agg #[.int .i64 a0_0, .int .i64 a0_1, .int .i64 a0_2, .int .i64 a0_3, .slice A0_4 l0_4.length c0_4]] rfl (by (try simp only [List.map_toArray, List.map_cons, List.map_nil]); first | done | rfl | (simp only [List.length_drop, List.length_take]; rfl)) ?_; (with_reducible refine (waveletref02_Valid.calls a0_0 a0_1 a0_2 a0_3 _ _ l0_4 false _ ?side1 ?side2 A4.out).mono ?_); (case side1 => repeat (first | exact (Kd.C_below HR0_4.out HB.out) | (with_reducible refine Kd.C_alloc ?_ _) | (with_reducible refine Kd.C_drewN ?_ _) | (with_reducible refine Kd.C_drew ?_))); (case side2 => exact HC0_4.out); rintro e w10 ⟨rfl, hb⟩; refine ⟨_, rfl, ?_⟩; have n0_ := Aside0.mk (blk_below (g := gb107) (o := .cells #[.int .i64 a0_0, .int .i64 a0_1, .int .i64 a0_2, .int .i64 a0_3, .slice A0_4 l0_4.length c0_4] 26 (0, 0)) (by (with_reducible repeat (first | refine blk_drewN ?_ _ | refine blk_drew ?_ | refine blk_alloc ?_ _)); exact BK107.out) hb); have n1_ := Aside0.mk (below_step (by repeat (first | (with_reducible first | exact HB.out | apply below_alloc | apply pw_below_drewN | apply below_drew1 | refine below_set ?_ GE107.out) | exact HB.out)) hb); clear BK107; clear HB; have BK107 := n0_; have HB := n1_; clear n0_ n1_; (try clear hb); (try clear hb2); (try clear hk); (try clear hi)))
      go_meet
      case rel => exact ⟨_, (true), (by first | rfl | (simp; done) | (simp [*]; done)), H', ⟨by first | omega | exact Nat.le_refl _⟩, ⟨by (with_reducible repeat (first | refine blk_drewN ?_ _ | refine blk_drew ?_ | refine blk_alloc ?_ _)); exact BK107.out⟩, ⟨by repeat (first | (with_reducible first | exact HB.out | apply below_alloc | apply pw_below_drewN | apply below_drew1 | refine below_set ?_ GE107.out) | exact HB.out)⟩⟩
  case rest =>
    clear HC2
    try clear c2
    try clear p2
    try clear c5
    try clear c6
    try clear hcz6_0
    try clear hcz6_1
    try clear hcz6_2
    try clear hcz6_3
    try clear hcz6_4
    try clear hcz8_0
    try clear hcz8_1
    try clear hcz8_2
    try clear hcz8_3
    try clear hcz8_4
    try clear hcz9_0
    try clear hcz9_1
    try clear hcz9_2
    try clear hcz9_3
    try clear hcz9_4
    try clear hfz6_0
    try clear hfz6_1
    try clear hfz6_2
    try clear hfz6_3
    try clear hfz6_4
    try clear hfz8_0
    try clear hfz8_1
    try clear hfz8_2
    try clear hfz8_3
    try clear hfz8_4
    try clear hfz9_0
    try clear hfz9_1
    try clear hfz9_2
    try clear hfz9_3
    try clear hfz9_4
    obtain ⟨kq, x13_1, rfl, HA, HJ1, BK107, HB⟩ := hcut
    cases kq with
    | zero => exact absurd HA.out (by simp [wavelettop_smallPlane.j0])
    | succ kj1 =>
      have H := HA.out
      clear HA
      simp only [wavelettop_smallPlane.j0] at H
      by_cases c11 : x13_1 = true
      · subst c11
        have H1 : (some false) = some r := by rw [if_pos rfl] at H; exact H
        clear H
        have H := H1
        clear H1
        obtain rfl := Option.some.inj H
        go_wp2
        go_ret
        exact ⟨by first | rfl | (simp [errW_none, errW_some] <;> rfl) | (simp [*, errW_none, errW_some] <;> rfl), by repeat (first | (with_reducible first | exact HB.out | apply below_alloc | apply pw_below_drewN | apply below_drew1 | refine below_set ?_ GE107.out) | exact HB.out)⟩
      · replace c11 := Bool.eq_false_iff.mpr c11
        subst c11
        have H1 : (wavelettop_smallPlane.l0 kj1 l0_4 (l0_4.length : Int) 0) = some r := by rw [if_neg (show ¬ (false = true) by decide)] at H; exact H
        clear H
        have H := H1
        clear H1
        have H' := Aside0.mk H
        clear H
        have hcz12_0 : wc.cell? ⟨gb107, 0, none⟩ = some (.int .i64 a0_0) := (blk_cell BK107.out 0).trans rfl
        have hcz12_1 : wc.cell? ⟨gb107, 1, none⟩ = some (.int .i64 a0_1) := (blk_cell BK107.out 1).trans rfl
        have hcz12_2 : wc.cell? ⟨gb107, 2, none⟩ = some (.int .i64 a0_2) := (blk_cell BK107.out 2).trans rfl
        have hcz12_3 : wc.cell? ⟨gb107, 3, none⟩ = some (.int .i64 a0_3) := (blk_cell BK107.out 3).trans rfl
        have hcz12_4 : wc.cell? ⟨gb107, 4, none⟩ = some (.slice A0_4 l0_4.length c0_4) := (blk_cell BK107.out 4).trans rfl
        have hfz12_0 := blk_frozen BK107.out 0
        have hfz12_1 := blk_frozen BK107.out 1
        have hfz12_2 := blk_frozen BK107.out 2
        have hfz12_3 := blk_frozen BK107.out 3
        have hfz12_4 := blk_frozen BK107.out 4
        go_wp2
        go_loopg [17] kj1 (fun kq v17 w' => ∃ (x17_2 : Int), v17 = .int .i64 x17_2 ∧ Aside0 (wavelettop_smallPlane.l0 kq l0_4 (l0_4.length : Int) x17_2 = some r) ∧ Aside0 (kq ≤ kj1) ∧ Aside0 (w'.heap[gb107]? = some (.cells #[.int .i64 a0_0, .int .i64 a0_1, .int .i64 a0_2, .int .i64 a0_3, (.slice A0_4 l0_4.length c0_4)] 26 (0, 0))) ∧ Aside0 (Below w.heap.size w w'))
        case atStart => exact ⟨(0), (by first | rfl | (simp; done) | (simp [*]; done)), H', ⟨Nat.le_refl _⟩, ⟨by (with_reducible repeat (first | refine blk_drewN ?_ _ | refine blk_drew ?_ | refine blk_alloc ?_ _)); exact BK107.out⟩, ⟨by repeat (first | (with_reducible first | exact HB.out | apply below_alloc | apply pw_below_drewN | apply below_drew1 | refine below_set ?_ GE107.out) | exact HB.out)⟩⟩
        case round =>
          clear H'
          try clear c1
          try clear c2
          try clear p2
          try clear c5
          try clear c6
          try clear c11
          try clear hcz12_0
          try clear hcz12_1
          try clear hcz12_2
          try clear hcz12_3
          try clear hcz12_4
          try clear hcz6_0
          try clear hcz6_1
          try clear hcz6_2
          try clear hcz6_3
          try clear hcz6_4
          try clear hcz8_0
          try clear hcz8_1
          try clear hcz8_2
          try clear hcz8_3
          try clear hcz8_4
          try clear hcz9_0
          try clear hcz9_1
          try clear hcz9_2
          try clear hcz9_3
          try clear hcz9_4
          try clear hfz12_0
          try clear hfz12_1
          try clear hfz12_2
          try clear hfz12_3
          try clear hfz12_4
          try clear hfz6_0
          try clear hfz6_1
          try clear hfz6_2
          try clear hfz6_3
          try clear hfz6_4
          try clear hfz8_0
          try clear hfz8_1
          try clear hfz8_2
          try clear hfz8_3
          try clear hfz8_4
          try clear hfz9_0
          try clear hfz9_1
          try clear hfz9_2
          try clear hfz9_3
          try clear hfz9_4
          try clear p2
          obtain ⟨x17_2, rfl, HA, HK2, BK107, HB⟩ := hrel
          cases gk with
          | zero => exact absurd HA.out (by simp [wavelettop_smallPlane.l0])
          | succ k2 =>
            have H := HA.out
            clear HA
            simp only [wavelettop_smallPlane.l0] at H
            by_cases c13 : x17_2 < (l0_4.length : Int)
            · rw [if_pos c13] at H
              have c13b0 : decide (x17_2 < (l0_4.length : Int)) = true := decide_eq_true c13
              clear c13
              by_cases c14 : 0 ≤ x17_2
              · rw [if_pos c14] at H
                have c14b0 : decide (0 ≤ x17_2) = true := decide_eq_true c14
                clear c14
                by_cases c15 : x17_2 < (l0_4.length : Int)
                · rw [if_pos c15] at H
                  have c15b0 : decide (x17_2 < (l0_4.length : Int)) = true := decide_eq_true c15
                  clear c15
                  by_cases c16 : (rd l0_4 x17_2) < (-65536)
                  · rw [if_pos c16] at H
                    have c16b0 : decide ((rd l0_4 x17_2) < (-65536)) = true := decide_eq_true c16
                    clear c16
                    obtain rfl := Option.some.inj H
                    have p109 : 0 ≤ (x17_2 : Int) := of_decide_eq_true (by first | (with_reducible assumption) | assumption)
                    have q109 : x17_2 < (l0_4.length : Int) := of_decide_eq_true (by first | (with_reducible assumption) | assumption)
                    obtain ⟨ad109, e109, hx109_0⟩ := Kd.at_int HR0_4.out x17_2 p109 q109
                    cases e109
                    replace hx109_0 := (HB.out.cell (World.block_lt_of_cell? w _ hx109_0)).trans hx109_0
                    replace p109 := eq_true p109
                    replace q109 := eq_true q109
                    go_wp2
                    go_ret
                    exact ⟨by first | rfl | (simp [errW_none, errW_some] <;> rfl) | (simp [*, errW_none, errW_some] <;> rfl), by repeat (first | (with_reducible first | exact HB.out | apply below_alloc | apply pw_below_drewN | apply below_drew1 | refine below_set ?_ GE107.out) | exact HB.out)⟩
                  · rw [if_neg c16] at H
                    have c16b0 : decide ((rd l0_4 x17_2) < (-65536)) = false := decide_eq_false c16
                    clear c16
                    by_cases c17 : (rd l0_4 x17_2) > 65536
                    · rw [if_pos c17] at H
                      have c17b0 : decide (65536 < (rd l0_4 x17_2)) = true := decide_eq_true c17
                      clear c17
                      obtain rfl := Option.some.inj H
                      have p109 : 0 ≤ (x17_2 : Int) := of_decide_eq_true (by first | (with_reducible assumption) | assumption)
                      have q109 : x17_2 < (l0_4.length : Int) := of_decide_eq_true (by first | (with_reducible assumption) | assumption)
                      obtain ⟨ad109, e109, hx109_0⟩ := Kd.at_int HR0_4.out x17_2 p109 q109
                      cases e109
                      replace hx109_0 := (HB.out.cell (World.block_lt_of_cell? w _ hx109_0)).trans hx109_0
                      replace p109 := eq_true p109
                      replace q109 := eq_true q109
                      go_wp2
                      go_ret
                      exact ⟨by first | rfl | (simp [errW_none, errW_some] <;> rfl) | (simp [*, errW_none, errW_some] <;> rfl), by repeat (first | (with_reducible first | exact HB.out | apply below_alloc | apply pw_below_drewN | apply below_drew1 | refine below_set ?_ GE107.out) | exact HB.out)⟩
                    · rw [if_neg c17] at H
                      have c17b0 : decide (65536 < (rd l0_4 x17_2)) = false := decide_eq_false c17
                      clear c17
                      have H' := Aside0.mk H
                      clear H
                      have p109 : 0 ≤ (x17_2 : Int) := of_decide_eq_true (by first | (with_reducible assumption) | assumption)
                      have q109 : x17_2 < (l0_4.length : Int) := of_decide_eq_true (by first | (with_reducible assumption) | assumption)
                      obtain ⟨ad109, e109, hx109_0⟩ := Kd.at_int HR0_4.out x17_2 p109 q109
                      cases e109
                      replace hx109_0 := (HB.out.cell (World.block_lt_of_cell? w _ hx109_0)).trans hx109_0
                      replace p109 := eq_true p109
                      replace q109 := eq_true q109
                      go_wp2
                      go_roundg k2
                      case measure => have := HJ1.out; have := HK2.out; omega
                      case rel => exact ⟨(wrap64 (x17_2 + 1)), (by first | rfl | (simp; done) | (simp [*]; done)), H', ⟨by have := HJ1.out; have := HK2.out; omega⟩, ⟨by (with_reducible repeat (first | refine blk_drewN ?_ _ | refine blk_drew ?_ | refine blk_alloc ?_ _)); exact BK107.out⟩, ⟨by repeat (first | (with_reducible first | exact HB.out | apply below_alloc | apply pw_below_drewN | apply below_drew1 | refine below_set ?_ GE107.out) | exact HB.out)⟩⟩
                · rw [if_neg c15] at H
                  exact absurd H (by simp)
              · rw [if_neg c14] at H
                exact absurd H (by simp)
            · rw [if_neg c13] at H
              have c13b0 : decide (x17_2 < (l0_4.length : Int)) = false := decide_eq_false c13
              clear c13
              obtain rfl := Option.some.inj H
              go_wp2
              go_ret
              exact ⟨by first | rfl | (simp [errW_none, errW_some] <;> rfl) | (simp [*, errW_none, errW_some] <;> rfl), by repeat (first | (with_reducible first | exact HB.out | apply below_alloc | apply pw_below_drewN | apply below_drew1 | refine below_set ?_ GE107.out) | exact HB.out)⟩

end Go.Proofs.Ytcnpekpgghppnaa.Q

namespace Go.Proofs.Ytcnpekpgghppnaa.Q
open Go.RowKit Go.Proofs.YtcnpekpgghppnaaW.PrintWords Go.Proofs.YtcnpekpgghppnaaW.PrintLast Go.Proofs.YtcnpekpgghppnaaW.PrintMore
attribute [local go_sem] max2_int min2_int max_two min_two max_three min_three max_four min_four   -- for this text's walks alone
set_option linter.unusedVariables false
set_option linter.unusedSimpArgs false

/-! ### wavelettop_knownKernel: function 7 -/
def wavelettop_knownKernel.f (a0 : Int) : Option (Bool) := if a0 ≥ 1 then (some (decide (a0 ≤ 3))) else (some false)
set_option maxHeartbeats 8000000 in
set_option maxRecDepth 100000 in
theorem wavelettop_knownKernel.calls (a0 : Int) (r : Bool) (w : World) (h : wavelettop_knownKernel.f a0 = some r) :
    Calls Try.prog 7 #[.int .i64 a0] w fun e w' => e = .returned (.bool r) ∧ Drawn0 w w' := by
  have H : (if a0 ≥ 1 then (some (decide (a0 ≤ 3))) else (some false)) = some r := h
  clear h
  by_cases c2 : a0 ≥ 1
  · rw [if_pos c2] at H
    have c2b0 : decide (1 ≤ a0) = true := decide_eq_true c2
    clear c2
    obtain rfl := Option.some.inj H
    go_enter Try.func7, Try.ntmps7
    go_wp2
    go_ret
    exact ⟨by first | rfl | (simp; done) | (simp [*]; done), by repeat (first | exact Drawn0.refl _ | apply Drawn0.step)⟩
  · rw [if_neg c2] at H
    have c2b0 : decide (1 ≤ a0) = false := decide_eq_false c2
    clear c2
    obtain rfl := Option.some.inj H
    go_enter Try.func7, Try.ntmps7
    go_wp2
    go_ret
    exact ⟨by first | rfl | (simp; done) | (simp [*]; done), by repeat (first | exact Drawn0.refl _ | apply Drawn0.step)⟩

end Go.Proofs.Ytcnpekpgghppnaa.Q
