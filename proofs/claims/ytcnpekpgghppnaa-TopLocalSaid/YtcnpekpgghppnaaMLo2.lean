/- Texts of this session (words and printed walks, merged by wip/tools/merge.py) for the statement of the claim. -/
import Derived.Test.YtcnpekpgghppnaaMLo1
import Derived.Laws.CopyOwn
import Derived.Test.YtcnpekpgghppnaaMLo0
namespace Go.Proofs.Ytcnpekpgghppnaa.Q
open Go.RowKit Go.Proofs.YtcnpekpgghppnaaW.PrintWords Go.Proofs.YtcnpekpgghppnaaW.PrintLast Go.Proofs.YtcnpekpgghppnaaW.PrintMore
set_option linter.unusedVariables false
set_option linter.unusedSimpArgs false
theorem rd_nat (xs : List Int) (i : Nat) : rd xs (i : Int) = xs.getD i 0 := by simp [rd]
theorem rd_mem {xs : List Int} {i : Nat} (h : i < xs.length) : rd xs (i : Int) ∈ xs := by
 rw [rd_nat, List.getD_eq_getElem?_getD, List.getElem?_eq_getElem h]
 exact List.getElem_mem h
theorem ext_rd {xs ys : List Int} (hl : xs.length = ys.length) (h : ∀ j : Nat, j < xs.length → rd xs (j : Int) = rd ys (j : Int)) : xs = ys := by
 apply List.ext_getElem hl
 intro j h1 h2
 have := h j h1
 rw [rd_nat, rd_nat, List.getD_eq_getElem?_getD, List.getD_eq_getElem?_getD, List.getElem?_eq_getElem h1, List.getElem?_eq_getElem h2] at this
 exact this
theorem rd_set_same {xs : List Int} {i : Nat} (h : i < xs.length) (v : Int) : rd (xs.set i v) (i : Int) = v := by
 rw [rd_nat, List.getD_eq_getElem?_getD, List.getElem?_set_self h]
 rfl
theorem rd_set_ne {xs : List Int} {i j : Nat} (h : i ≠ j) (v : Int) : rd (xs.set i v) (j : Int) = rd xs (j : Int) := by
 rw [rd_nat, rd_nat, List.getD_eq_getElem?_getD, List.getD_eq_getElem?_getD, List.getElem?_set_ne h]
theorem tmod_par {s i : Int} (h0 : 0 ≤ s) (h1 : s ≤ 4096) (h2 : 0 ≤ i) (h3 : i ≤ 100000) : Int.tmod (wrap64 (s + i)) 2 = (s + i) % 2 := by
 rw [show wrap64 (s + i) = s + i by unfold wrap64; omega, Int.tmod_eq_emod_of_nonneg (by omega)]
/-- All numbers of a list lie within a bound. -/
def Bd (b : Int) (xs : List Int) : Prop := ∀ v ∈ xs, -b ≤ v ∧ v ≤ b
theorem Bd.at_ {b : Int} {xs : List Int} (h : Bd b xs) (hb : 0 ≤ b) (i : Nat) : -b ≤ rd xs (i : Int) ∧ rd xs (i : Int) ≤ b := by
 by_cases hi : i < xs.length
 ·exact h _ (rd_mem hi)
 ·rw [rd_nat, List.getD_eq_getElem?_getD, List.getElem?_eq_none (by omega)]
  show -b ≤ 0 ∧ 0 ≤ b
  omega
theorem Bd.of_rd {b : Int} {xs : List Int} (h : ∀ i : Nat, i < xs.length → -b ≤ rd xs (i : Int) ∧ rd xs (i : Int) ≤ b) : Bd b xs := by
 intro v hv
 obtain ⟨i, hi, rfl⟩ := List.getElem_of_mem hv
 have := h i hi
 rwa [rd_nat, List.getD_eq_getElem?_getD, List.getElem?_eq_getElem hi] at this
theorem mir_in {k : Nat} {last i : Int} (h0 : 0 ≤ i) (h1 : i ≤ last) : mirF (k + 1) last i = some i := by
 rw [mirF.eq_2, if_neg (by omega), if_neg (by omega)]
theorem mir_neg {k : Nat} {last i : Int} (h0 : i < 0) (h1 : -100000000 ≤ i) : mirF (k + 1) last i = mirF k last (-i) := by
 rw [mirF.eq_2, if_pos h0, show wrap64 (-i) = -i by unfold wrap64; omega]
theorem mir_pos {k : Nat} {last i : Int} (h0 : 0 ≤ i) (h1 : last < i) (h2 : 0 ≤ last) (h3 : i ≤ 100000000) : mirF (k + 1) last i = mirF k last (2 * last - i) := by
 rw [mirF.eq_2, if_neg (by omega), if_pos (by omega), show wrap64 (wrap64 (2 * last) - i) = 2 * last - i by unfold wrap64; omega]
theorem mirF_ok (k : Nat) (last i : Int) (hk : 6 ≤ k) (h1 : 1 ≤ last) (h2 : last ≤ 1000000) (h3 : -3 ≤ i) (h4 : i ≤ last + 3) : ∃ m, mirF k last i = some m ∧ 0 ≤ m ∧ m ≤ last ∧ (m - i) % 2 = 0 := by
 obtain ⟨k, rfl⟩ : ∃ q, k = q + 1 + 1 + 1 + 1 + 1 + 1 := ⟨k - 6, by omega⟩
 by_cases c0 : i < 0
 ·rw [mir_neg c0 (by omega)]
  by_cases c1 : -i ≤ last
  ·exact ⟨_, mir_in (by omega) c1, by omega, c1, by omega⟩
  ·rw [mir_pos (by omega) (by omega) (by omega) (by omega)]
   by_cases c2 : 2 * last - -i < 0
   ·rw [mir_neg c2 (by omega)]
    exact ⟨_, mir_in (by omega) (by omega), by omega, by omega, by omega⟩
   ·exact ⟨_, mir_in (by omega) (by omega), by omega, by omega, by omega⟩
 ·by_cases c1 : i ≤ last
  ·exact ⟨_, mir_in (by omega) c1, by omega, c1, by omega⟩
  ·rw [mir_pos (by omega) (by omega) (by omega) (by omega)]
   by_cases c2 : 2 * last - i < 0
   ·rw [mir_neg c2 (by omega)]
    by_cases c3 : -(2 * last - i) ≤ last
    ·exact ⟨_, mir_in (by omega) c3, by omega, c3, by omega⟩
    ·rw [mir_pos (by omega) (by omega) (by omega) (by omega)]
     exact ⟨_, mir_in (by omega) (by omega), by omega, by omega, by omega⟩
   ·exact ⟨_, mir_in (by omega) (by omega), by omega, by omega, by omega⟩
theorem atF_ok (k n : Nat) (i : Int) (hk : 6 ≤ k) (h1 : 2 ≤ n) (h2 : n ≤ 1000000) (h3 : -3 ≤ i) (h4 : i ≤ (n : Int) + 2) : ∃ m : Nat, m < n ∧ ((m : Int) - i) % 2 = 0 ∧ ∀ xs : List Int, xs.length = n → atF k xs i = some (rd xs (m : Int)) := by
 obtain ⟨m, hm, a, b, c⟩ := mirF_ok k ((n : Int) - 1) i hk (by omega) (by omega) h3 (by omega)
 obtain ⟨q, rfl⟩ := Int.eq_ofNat_of_zero_le a
 refine ⟨q, by omega, c, fun xs hx => ?_⟩
 unfold atF
 rw [hx, show wrap64 ((n : Int) - 1) = (n : Int) - 1 by unfold wrap64; omega, hm]
 simp only [Option.bind_some]
 rw [if_pos (by omega)]
/-- A function of a line that depends on the numbers of the other parity alone. -/
structure Oth (fq : List Int → Int → Option Int) (start par : Int) (n : Nat) : Prop where
 ex : ∀ xs : List Int, xs.length = n → ∀ i : Nat, i < n → (start + i) % 2 = par → ∃ v, fq xs i = some v
 loc : ∀ xs ys : List Int, xs.length = n → ys.length = n → (∀ j : Nat, j < n → (start + j) % 2 ≠ par → rd xs (j : Int) = rd ys (j : Int)) → ∀ i : Nat, i < n → (start + i) % 2 = par → fq xs i = fq ys i
theorem w1 {i : Nat} {c : Int} (h : i ≤ 1000000) (h0 : -3 ≤ c) (h1 : c ≤ 3) : wrap64 ((i : Int) + c) = (i : Int) + c := by unfold wrap64; omega
theorem w2 {i : Nat} {c : Int} (h : i ≤ 1000000) (h0 : -3 ≤ c) (h1 : c ≤ 3) : wrap64 ((i : Int) - c) = (i : Int) - c := by unfold wrap64; omega
/-- The mirrored places near a place. -/
theorem near (k n i : Nat) (c : Int) (hk : 6 ≤ k) (h1 : 2 ≤ n) (h2 : n ≤ 1000000) (hi : i < n) (hc : c = -3 ∨ c = -1 ∨ c = 1 ∨ c = 3) : ∃ m : Nat, m < n ∧ ((m : Int) - i) % 2 = 1 ∧ ∀ xs : List Int, xs.length = n → atF k xs ((i : Int) + c) = some (rd xs (m : Int)) := by
 obtain ⟨m, a, b, h⟩ := atF_ok k n ((i : Int) + c) hk h1 h2 (by omega) (by omega)
 exact ⟨m, a, by omega, h⟩
theorem pr_ok (kk : Int) (k n : Nat) (start par : Int) (hkk : 1 ≤ kk ∧ kk ≤ 3) (hk : 6 ≤ k) (h1 : 2 ≤ n) (h2 : n ≤ 1000000) : ∀ i : Nat, i < n → ∃ a b c d : Nat, (a < n ∧ ((a : Int) - i) % 2 = 1) ∧ (b < n ∧ ((b : Int) - i) % 2 = 1) ∧ (c < n ∧ ((c : Int) - i) % 2 = 1) ∧ (d < n ∧ ((d : Int) - i) % 2 = 1) ∧ ∀ xs : List Int, xs.length = n → prF kk k xs (i : Int) = some (if kk = 1 then rd xs (a : Int) else if kk = 2 then wrap64 (rd xs (a : Int) + rd xs (b : Int)) / 2 else wrap64 (wrap64 (wrap64 (9 * wrap64 (rd xs (a : Int) + rd xs (b : Int))) - wrap64 (rd xs (c : Int) + rd xs (d : Int))) + 8) / 16) := by
 intro i hi
 obtain ⟨a, a1, a2, a3⟩ := near k n i (-1) hk h1 h2 hi (by omega)
 obtain ⟨b, b1, b2, b3⟩ := near k n i 1 hk h1 h2 hi (by omega)
 obtain ⟨c, c1, c2, c3⟩ := near k n i (-3) hk h1 h2 hi (by omega)
 obtain ⟨d, d1, d2, d3⟩ := near k n i 3 hk h1 h2 hi (by omega)
 refine ⟨a, b, c, d, ⟨a1, a2⟩, ⟨b1, b2⟩, ⟨c1, c2⟩, ⟨d1, d2⟩, fun xs hx => ?_⟩
 have A := a3 xs hx
 have B := b3 xs hx
 have C := c3 xs hx
 have D := d3 xs hx
 rw [show (i : Int) + -1 = (i : Int) - 1 by omega] at A
 rw [show (i : Int) + -3 = (i : Int) - 3 by omega] at C
 unfold prF
 by_cases e1 : kk = 1
 ·rw [if_pos e1, if_pos e1]
  unfold pr1F
  rw [w2 (by omega) (by omega) (by omega), A]
 ·rw [if_neg e1, if_neg e1]
  by_cases e2 : kk = 2
  ·rw [if_pos e2, if_pos e2]
   unfold pr2F
   rw [w2 (by omega) (by omega) (by omega), w1 (by omega) (by omega) (by omega), A, B]
   rfl
  ·rw [if_neg e2, if_neg e2]
   unfold pr3F
   rw [w2 (by omega) (by omega) (by omega), w1 (by omega) (by omega) (by omega), w2 (by omega) (by omega) (by omega), w1 (by omega) (by omega) (by omega), A, B, C, D]
   rfl
theorem up_ok (kk : Int) (k n : Nat) (start par : Int) (hkk : 1 ≤ kk ∧ kk ≤ 3) (hk : 6 ≤ k) (h1 : 2 ≤ n) (h2 : n ≤ 1000000) : ∀ i : Nat, i < n → ∃ a b : Nat, (a < n ∧ ((a : Int) - i) % 2 = 1) ∧ (b < n ∧ ((b : Int) - i) % 2 = 1) ∧ ∀ xs : List Int, xs.length = n → upF kk k xs (i : Int) = some (if kk = 1 then rd xs (b : Int) / 2 else wrap64 (wrap64 (rd xs (a : Int) + rd xs (b : Int)) + 2) / 4) := by
 intro i hi
 obtain ⟨a, a1, a2, a3⟩ := near k n i (-1) hk h1 h2 hi (by omega)
 obtain ⟨b, b1, b2, b3⟩ := near k n i 1 hk h1 h2 hi (by omega)
 refine ⟨a, b, ⟨a1, a2⟩, ⟨b1, b2⟩, fun xs hx => ?_⟩
 have A := a3 xs hx
 have B := b3 xs hx
 rw [show (i : Int) + -1 = (i : Int) - 1 by omega] at A
 unfold upF
 by_cases e1 : kk = 1
 ·rw [if_pos e1, if_pos e1]
  unfold up1F
  rw [w1 (by omega) (by omega) (by omega), B]
  rfl
 ·rw [if_neg e1, if_neg e1]
  unfold up2F
  rw [w2 (by omega) (by omega) (by omega), w1 (by omega) (by omega) (by omega), A, B]
  rfl
theorem pr_oth (kk : Int) (k n : Nat) (start par : Int) (hkk : 1 ≤ kk ∧ kk ≤ 3) (hk : 6 ≤ k) (h1 : 2 ≤ n) (h2 : n ≤ 1000000) : Oth (prF kk k) start par n :=
 ⟨fun xs hx i hi _ => by
  obtain ⟨a, b, c, d, _, _, _, _, h⟩ := pr_ok kk k n start par hkk hk h1 h2 i hi
  exact ⟨_, h xs hx⟩, fun xs ys hx hy hj i hi hp => by
  obtain ⟨a, b, c, d, ha, hb, hc, hd, h⟩ := pr_ok kk k n start par hkk hk h1 h2 i hi
  rw [h xs hx, h ys hy, hj a ha.1 (by omega), hj b hb.1 (by omega), hj c hc.1 (by omega), hj d hd.1 (by omega)]⟩
theorem up_oth (kk : Int) (k n : Nat) (start par : Int) (hkk : 1 ≤ kk ∧ kk ≤ 3) (hk : 6 ≤ k) (h1 : 2 ≤ n) (h2 : n ≤ 1000000) : Oth (upF kk k) start par n :=
 ⟨fun xs hx i hi _ => by
  obtain ⟨a, b, _, _, h⟩ := up_ok kk k n start par hkk hk h1 h2 i hi
  exact ⟨_, h xs hx⟩, fun xs ys hx hy hj i hi hp => by
  obtain ⟨a, b, ha, hb, h⟩ := up_ok kk k n start par hkk hk h1 h2 i hi
  rw [h xs hx, h ys hy, hj a ha.1 (by omega), hj b hb.1 (by omega)]⟩
theorem pr_bound {kk : Int} {k n : Nat} {C v : Int} (hkk : 1 ≤ kk ∧ kk ≤ 3) (hk : 6 ≤ k) (h1 : 2 ≤ n) (h2 : n ≤ 1000000) (hC : 0 ≤ C) (hC1 : C ≤ 1152921504606846976 / 16) {xs : List Int} (hx : xs.length = n) (hb : Bd C xs) {i : Nat} (hi : i < n) (h : prF kk k xs (i : Int) = some v) : -(5 * C + 2) ≤ 4 * v ∧ 4 * v ≤ 5 * C + 2 := by
 obtain ⟨a, b, c, d, _, _, _, _, h'⟩ := pr_ok kk k n 0 0 hkk hk h1 h2 i hi
 rw [h' xs hx] at h
 have A := hb.at_ hC a
 have B := hb.at_ hC b
 have Cc := hb.at_ hC c
 have D := hb.at_ hC d
 generalize rd xs (a : Int) = a at *
 generalize rd xs (b : Int) = b at *
 generalize rd xs (c : Int) = c at *
 generalize rd xs (d : Int) = d at *
 obtain rfl := Option.some.inj h
 by_cases e1 : kk = 1
 ·rw [if_pos e1]; omega
 ·rw [if_neg e1]
  by_cases e2 : kk = 2
  ·rw [if_pos e2, show wrap64 (a + b) = a + b by unfold wrap64; omega]; omega
  ·rw [if_neg e2, show wrap64 (wrap64 (wrap64 (9 * wrap64 (a + b)) - wrap64 (c + d)) + 8) = 9 * (a + b) - (c + d) + 8 by unfold wrap64; omega]; omega
theorem up_bound {kk : Int} {k n : Nat} {C v : Int} {start : Int} (hkk : 1 ≤ kk ∧ kk ≤ 3) (hk : 6 ≤ k) (h1 : 2 ≤ n) (h2 : n ≤ 1000000) (hC : 0 ≤ C) (hC1 : C ≤ 1152921504606846976 / 4) {xs : List Int} (hx : xs.length = n) (hb : ∀ j : Nat, j < n → (start + j) % 2 ≠ 0 → -C ≤ rd xs (j : Int) ∧ rd xs (j : Int) ≤ C) {i : Nat} (hi : i < n) (hp : (start + i) % 2 = 0) (h : upF kk k xs (i : Int) = some v) : -(2 * C + 2) ≤ 4 * v ∧ 4 * v ≤ 2 * C + 2 := by
 obtain ⟨a, b, ha, hb', h'⟩ := up_ok kk k n 0 0 hkk hk h1 h2 i hi
 rw [h' xs hx] at h
 have A := hb a ha.1 (by omega)
 have B := hb b hb'.1 (by omega)
 generalize rd xs (a : Int) = a at *
 generalize rd xs (b : Int) = b at *
 obtain rfl := Option.some.inj h
 by_cases e1 : kk = 1
 ·rw [if_pos e1]; omega
 ·rw [if_neg e1, show wrap64 (wrap64 (a + b) + 2) = a + b + 2 by unfold wrap64; omega]; omega
theorem stepF_spec {fq : List Int → Int → Option Int} {start par sg : Int} {n : Nat} (hs0 : 0 ≤ start) (hs1 : start ≤ 4096) (hn : n ≤ 4096) (ho : Oth fq start par n) :
  ∀ (k i : Nat) (xs : List Int), xs.length = n → i ≤ n → n < k + i → ∃ ys, stepF fq start par sg k (i : Int) xs = some ys ∧ ys.length = n ∧ (∀ j : Nat, j < i → rd ys (j : Int) = rd xs (j : Int)) ∧ ∀ j : Nat, i ≤ j → j < n → ((start + j) % 2 ≠ par → rd ys (j : Int) = rd xs (j : Int)) ∧ ((start + j) % 2 = par → ∃ v, fq xs (j : Int) = some v ∧ rd ys (j : Int) = wrap64 (rd xs (j : Int) + wrap64 (sg * v)))
 | 0, i, xs, hx, hi, hk => by omega
 | k + 1, i, xs, hx, hi, hk => by
  rw [stepF.eq_2]
  by_cases c : i < n
  ·rw [if_pos (by omega), if_pos (by omega), tmod_par hs0 hs1 (by omega) (by omega)]
   have hw : wrap64 ((i : Int) + 1) = ((i + 1 : Nat) : Int) := by unfold wrap64; omega
   by_cases p : (start + i) % 2 = par
   ·rw [if_pos p]
    obtain ⟨v, hv⟩ := ho.ex xs hx i c p
    rw [hv]
    simp only [Option.bind_some]
    rw [hw, Int.toNat_natCast]
    obtain ⟨ys, h1, h2, h3, h4⟩ := stepF_spec hs0 hs1 hn ho k (i + 1) (xs.set i (wrap64 (rd xs i + wrap64 (sg * v)))) (by rw [List.length_set, hx]) (by omega) (by omega)
    refine ⟨ys, h1, h2, fun j hj => by rw [h3 j (by omega), rd_set_ne (by omega)], fun j hj hjn => ?_⟩
    by_cases e : j = i
    ·subst e
     rw [h3 j (by omega), rd_set_same (by omega)]
     exact ⟨fun h => absurd p h, fun _ => ⟨v, hv, rfl⟩⟩
    ·have := h4 j (by omega) hjn
     rw [rd_set_ne (by omega)] at this
     refine ⟨this.1, fun hp => ?_⟩
     obtain ⟨u, hu, hr⟩ := this.2 hp
     refine ⟨u, ?_, hr⟩
     rw [← hu]
     refine ho.loc _ _ hx (by rw [List.length_set, hx]) (fun q _ hq => ?_) j hjn hp
     rw [rd_set_ne (by intro e; subst e; exact hq p)]
   ·rw [if_neg p, hw]
    obtain ⟨ys, h1, h2, h3, h4⟩ := stepF_spec hs0 hs1 hn ho k (i + 1) xs hx (by omega) (by omega)
    refine ⟨ys, h1, h2, fun j hj => h3 j (by omega), fun j hj hjn => ?_⟩
    by_cases e : j = i
    ·subst e
     exact ⟨fun _ => h3 j (by omega), fun h => absurd h p⟩
    ·exact h4 j (by omega) hjn
  ·rw [if_neg (by omega)]
   exact ⟨xs, rfl, hx, fun _ _ => rfl, fun j hj hjn => by omega⟩
theorem step_back {fq : List Int → Int → Option Int} {start par sg : Int} {n k : Nat} (hs0 : 0 ≤ start) (hs1 : start ≤ 4096) (hn : n ≤ 4096) (ho : Oth fq start par n) (hk : n < k) (hsg : sg = 1 ∨ sg = -1) {xs ys : List Int} (hx : xs.length = n) (hb : Bd 9223372036854775807 xs) (h : stepF fq start par sg k 0 xs = some ys) : stepF fq start par (-sg) k 0 ys = some xs := by
 obtain ⟨ys', h1, h2, _, h4⟩ := stepF_spec (sg := sg) hs0 hs1 hn ho k 0 xs hx (by omega) (by omega)
 obtain rfl : ys' = ys := by
  have := h1.symm.trans h
  exact Option.some.inj this
 obtain ⟨zs, g1, g2, _, g4⟩ := stepF_spec (sg := -sg) hs0 hs1 hn ho k 0 ys' h2 (by omega) (by omega)
 rw [show (0 : Int) = ((0 : Nat) : Int) from rfl, g1]
 congr 1
 refine ext_rd (by rw [g2, hx]) fun j hj => ?_
 have a := h4 j (by omega) (by omega)
 have b := g4 j (by omega) (by omega)
 by_cases p : (start + j) % 2 = par
 ·obtain ⟨v, hv, e1⟩ := a.2 p
  obtain ⟨u, hu, e2⟩ := b.2 p
  have : fq xs j = fq ys' j := ho.loc _ _ hx h2 (fun q hq hp => ((h4 q (by omega) hq).1 hp).symm) j (by omega) p
  rw [← this, hv] at hu
  obtain rfl := Option.some.inj hu
  rw [e2, e1]
  have := hb.at_ (by decide) j
  generalize rd xs (j : Int) = x at *
  rcases hsg with rfl | rfl <;> · unfold wrap64; omega
 ·rw [b.1 p, a.1 p]
theorem splitF_spec {start : Int} {n : Nat} {z : List Int} (hs0 : 0 ≤ start) (hs1 : start ≤ 4096) (hn : n ≤ 4096) (hz : z.length = n) :
  ∀ (k i : Nat) (lo hi : List Int), i ≤ n → n < k + i → lo.length + hi.length ≤ i → ∃ lo1 hi1, splitF start z k (i : Int) lo hi = some (lo ++ lo1, hi ++ hi1) ∧ lo1.length + hi1.length = n - i ∧ (lo1.length : Int) = (start + n + 1) / 2 - (start + i + 1) / 2 ∧ (∀ v ∈ lo1, v ∈ z) ∧ (∀ v ∈ hi1, v ∈ z) ∧ ∀ (L H : List Int) (a b : Nat) (x : List Int), L.drop a = lo1 → H.drop b = hi1 → x.length = n → a + b ≤ i → joinF start L H (n : Int) k (i : Int) (a : Int) (b : Int) x = some (x.take i ++ z.drop i)
 | 0, i, lo, hi, h1, h2, h3 => by omega
 | k + 1, i, lo, hi, h1, h2, h3 => by
  rw [splitF.eq_2]
  by_cases c : i < n
  ·rw [if_pos (by omega), if_pos (by omega), if_pos (by omega), tmod_par hs0 hs1 (by omega) (by omega)]
   have hw : wrap64 ((i : Int) + 1) = ((i + 1 : Nat) : Int) := by unfold wrap64; omega
   have hzd : z.drop i = rd z (i : Int) :: z.drop (i + 1) := by
    rw [List.drop_eq_getElem_cons (by omega), rd_nat, List.getD_eq_getElem?_getD, List.getElem?_eq_getElem (by omega)]
    rfl
   have hset : ∀ (x : List Int), x.length = n → (x.set i (rd z (i : Int))).take (i + 1) ++ z.drop (i + 1) = x.take i ++ z.drop i := by
    intro x hx
    rw [hzd, List.take_succ_eq_append_getElem (by simp; omega), List.take_set_of_le (Nat.le_refl _)]
    simp
   have hat : ∀ (L : List Int) (a : Nat) (l : List Int), L.drop a = rd z (i : Int) :: l → a < L.length ∧ rd L (a : Int) = rd z (i : Int) ∧ L.drop (a + 1) = l := by
    intro L a l h
    have ha : a < L.length := by
     have := congrArg List.length h
     simp at this
     omega
    rw [List.drop_eq_getElem_cons ha] at h
    have h' := List.cons.inj h
    refine ⟨ha, ?_, h'.2⟩
    rw [rd_nat, List.getD_eq_getElem?_getD, List.getElem?_eq_getElem ha]
    exact h'.1
   by_cases p : (start + i) % 2 = 0
   ·rw [if_pos p, hw]
    obtain ⟨lo1, hi1, e1, e2, e3, e4, e5, e6⟩ := splitF_spec hs0 hs1 hn hz k (i + 1) (lo ++ [rd z i]) hi (by omega) (by omega) (by simp; omega)
    refine ⟨rd z i :: lo1, hi1, by rw [e1]; simp, by simp; omega, by simp; omega, ?_, e5, ?_⟩
    ·intro v hv
     rcases List.mem_cons.mp hv with rfl | hv
     ·exact rd_mem (by omega)
     ·exact e4 v hv
    ·intro L H a b x hL hH hx hab
     obtain ⟨q1, q2, q3⟩ := hat L a lo1 hL
     rw [joinF.eq_2, if_pos (by omega), if_pos (by omega), tmod_par hs0 hs1 (by omega) (by omega), if_pos p, if_pos (by omega), hw, show wrap64 ((a : Int) + 1) = ((a + 1 : Nat) : Int) by unfold wrap64; omega, q2, Int.toNat_natCast,
      e6 L H (a + 1) b _ q3 hH (by rw [List.length_set, hx]) (by omega), hset x hx]
   ·rw [if_neg p, hw]
    obtain ⟨lo1, hi1, e1, e2, e3, e4, e5, e6⟩ := splitF_spec hs0 hs1 hn hz k (i + 1) lo (hi ++ [rd z i]) (by omega) (by omega) (by simp; omega)
    refine ⟨lo1, rd z i :: hi1, by rw [e1]; simp, by simp; omega, by omega, e4, ?_, ?_⟩
    ·intro v hv
     rcases List.mem_cons.mp hv with rfl | hv
     ·exact rd_mem (by omega)
     ·exact e5 v hv
    ·intro L H a b x hL hH hx hab
     obtain ⟨q1, q2, q3⟩ := hat H b hi1 hH
     rw [joinF.eq_2, if_pos (by omega), if_pos (by omega), tmod_par hs0 hs1 (by omega) (by omega), if_neg p, if_pos (by omega), hw, show wrap64 ((b : Int) + 1) = ((b + 1 : Nat) : Int) by unfold wrap64; omega, q2, Int.toNat_natCast,
      e6 L H a (b + 1) _ hL q3 (by rw [List.length_set, hx]) (by omega), hset x hx]
  ·rw [if_neg (by omega)]
   have : i = n := by omega
   subst this
   refine ⟨[], [], by simp, by simp, by simp, by simp, by simp, ?_⟩
   intro L H a b x hL hH hx hab
   rw [joinF.eq_2, if_neg (by omega), ← hx, List.take_length, hx, ← hz, List.drop_length, List.append_nil]
theorem split_join {start : Int} {n k : Nat} {z : List Int} (hs0 : 0 ≤ start) (hs1 : start ≤ 4096) (hn : n ≤ 4096) (hz : z.length = n) (hk : n < k) : ∃ lo hi, splitF start z k 0 [] [] = some (lo, hi) ∧ lo.length + hi.length = n ∧ (lo.length : Int) = (start + n + 1) / 2 - (start + 1) / 2 ∧ (∀ v ∈ lo, v ∈ z) ∧ (∀ v ∈ hi, v ∈ z) ∧ joinF start lo hi ((lo.length + hi.length : Nat) : Int) k 0 0 0 (List.replicate (lo.length + hi.length) 0) = some z := by
 obtain ⟨lo, hi, e1, e2, e3, e4, e5, e6⟩ := splitF_spec hs0 hs1 hn hz k 0 [] [] (by omega) (by omega) (by simp)
 refine ⟨lo, hi, by simpa using e1, by omega, by simpa using e3, e4, e5, ?_⟩
 rw [e2]
 have := e6 lo hi 0 0 (List.replicate n 0) rfl rfl (by simp) (by omega)
 simpa using this
theorem fwd_ok (kk : Int) (start : Int) (k : Nat) (xs : List Int) (b : Int) (hkk : 1 ≤ kk ∧ kk ≤ 3) (hs0 : 0 ≤ start) (hs1 : start ≤ 4096) (hn : xs.length ≤ 4096) (hk : 4096 < k) (hb1 : 1 ≤ b) (hb2 : b ≤ 17592186044416) (hb : Bd (2 * b) xs) :
  ∃ lo hi, fwdF kk k start xs = some (lo, hi) ∧ lo.length + hi.length = xs.length ∧ (lo.length : Int) = (start + xs.length + 1) / 2 - (start + 1) / 2 ∧ Bd (5 * b) lo ∧ Bd (5 * b) hi ∧ invF kk k start lo hi = some xs := by
 unfold fwdF invF
 obtain ⟨n, hxn⟩ : ∃ n, xs.length = n := ⟨_, rfl⟩
 by_cases c : 1 < xs.length
 ·rw [if_pos (by omega)]
  rw [hxn] at c hn
  have op := pr_oth kk k n start 1 hkk (by omega) (by omega) (by omega)
  have ou := up_oth kk k n start 0 hkk (by omega) (by omega) (by omega)
  obtain ⟨y, y1, y2, _, y4⟩ := stepF_spec (sg := -1) hs0 hs1 hn op k 0 xs hxn (by omega) (by omega)
  obtain ⟨z, z1, z2, _, z4⟩ := stepF_spec (sg := 1) hs0 hs1 hn ou k 0 y y2 (by omega) (by omega)
  rw [show ((0 : Nat) : Int) = 0 from rfl] at y1 z1
  obtain ⟨lo, hi, s1, s2, s3, s4, s5, s6⟩ := split_join hs0 hs1 hn z2 (k := k) (by omega)
  have hyb : ∀ j : Nat, j < n → (start + j) % 2 ≠ 0 → 4 * rd y (j : Int) ≤ 18 * b + 2 ∧ -(18 * b + 2) ≤ 4 * rd y (j : Int) := by
   intro j hj hp
   obtain ⟨v, hv, e⟩ := (y4 j (by omega) hj).2 (by omega)
   have hv' := pr_bound hkk (by omega) (by omega) (by omega) (by omega) (by omega) hxn hb hj hv
   have hx := hb.at_ (by omega) j
   rw [e, show wrap64 (rd xs (j : Int) + wrap64 (-1 * v)) = rd xs (j : Int) - v by unfold wrap64; omega]
   omega
  have hzb : Bd (5 * b) z := by
   refine Bd.of_rd fun j hj => ?_
   rw [z2] at hj
   by_cases p : (start + j) % 2 = 0
   ·obtain ⟨v, hv, e⟩ := (z4 j (by omega) hj).2 p
    have hv' := up_bound (C := (18 * b + 2) / 4) hkk (by omega) (by omega) (by omega) (by omega) (by omega) y2 (fun q hq hp => by have := hyb q hq hp; omega) hj p hv
    have hx := hb.at_ (by omega) j
    have hy := (y4 j (by omega) hj).1 (by omega)
    rw [e, hy, show wrap64 (rd xs (j : Int) + wrap64 (1 * v)) = rd xs (j : Int) + v by unfold wrap64; omega]
    omega
   ·rw [(z4 j (by omega) hj).1 p]
    have := hyb j hj p
    omega
  have hyB : Bd 9223372036854775807 y := by
   refine Bd.of_rd fun j hj => ?_
   rw [y2] at hj
   by_cases p : (start + j) % 2 = 0
   ·rw [(y4 j (by omega) hj).1 (by omega)]
    have hx := hb.at_ (by omega) j
    omega
   ·have := hyb j hj p
    omega
  refine ⟨lo, hi, by rw [y1, Option.bind_some, z1, Option.bind_some, s1], by omega, by rw [hxn]; exact s3, fun v hv => hzb v (s4 v hv), fun v hv => hzb v (s5 v hv), ?_⟩
  rw [s6, Option.bind_some, if_pos (by omega), step_back (sg := 1) hs0 hs1 hn ou (by omega) (Or.inl rfl) y2 hyB z1, Option.bind_some]
  exact step_back (sg := -1) hs0 hs1 hn op (by omega) (Or.inr rfl) hxn (fun v hv => by have := hb v hv; omega) y1
 ·rw [if_neg (by omega)]
  rw [hxn] at c hn
  obtain ⟨lo, hi, s1, s2, s3, s4, s5, s6⟩ := split_join hs0 hs1 hn hxn (k := k) (by omega)
  refine ⟨lo, hi, s1, by omega, by rw [hxn]; exact s3, fun v hv => by have := hb v (s4 v hv); omega, fun v hv => by have := hb v (s5 v hv); omega, ?_⟩
  rw [s6, Option.bind_some, if_neg (by omega)]
end Go.Proofs.Ytcnpekpgghppnaa.Q
namespace Go.Proofs.Ytcnpekpgghppnaa.Q
open Go.RowKit Go.Proofs.YtcnpekpgghppnaaW.PrintWords Go.Proofs.YtcnpekpgghppnaaW.PrintLast Go.Proofs.YtcnpekpgghppnaaW.PrintMore
attribute [local go_sem] max2_int min2_int max_two min_two max_three min_three max_four min_four
set_option linter.unusedVariables false
set_option linter.unusedSimpArgs false
def rect_Valid.f (a0_0 : Int) (a0_1 : Int) (a0_2 : Int) (a0_3 : Int) : Option (Bool) := if 0 ≤ a0_0 then (if a0_0 ≤ a0_2 then (if a0_2 ≤ 4096 then (if 0 ≤ a0_1 then (if a0_1 ≤ a0_3 then (some (decide (a0_3 ≤ 4096))) else (some false)) else (some false)) else (some false)) else (some false)) else (some false)
set_option maxHeartbeats 8000000 in
set_option maxRecDepth 100000 in
theorem rect_Valid.calls (a0_0 : Int) (a0_1 : Int) (a0_2 : Int) (a0_3 : Int) (r : Bool) (w : World) (h : rect_Valid.f a0_0 a0_1 a0_2 a0_3 = some r) :
  Calls Try.prog 31 #[.agg #[.int .i64 a0_0, .int .i64 a0_1, .int .i64 a0_2, .int .i64 a0_3]] w fun e w' => e = .returned (.bool r) ∧ Below w.heap.size w w' := by
 have hu23 := Try.underlying23
 have HB := Aside0.mk (Below.refl w.heap.size w)
 have H : (if 0 ≤ a0_0 then (if a0_0 ≤ a0_2 then (if a0_2 ≤ 4096 then (if 0 ≤ a0_1 then (if a0_1 ≤ a0_3 then (some (decide (a0_3 ≤ 4096))) else (some false)) else (some false)) else (some false)) else (some false)) else (some false)) = some r := h
 clear h
 by_cases c2 : 0 ≤ a0_0
 ·rw [if_pos c2] at H
  have c2b0 : decide (0 ≤ a0_0) = true := decide_eq_true c2
  clear c2
  by_cases c3 : a0_0 ≤ a0_2
  ·rw [if_pos c3] at H
   have c3b0 : decide (a0_0 ≤ a0_2) = true := decide_eq_true c3
   clear c3
   by_cases c4 : a0_2 ≤ 4096
   ·rw [if_pos c4] at H
    have c4b0 : decide (a0_2 ≤ 4096) = true := decide_eq_true c4
    clear c4
    by_cases c5 : 0 ≤ a0_1
    ·rw [if_pos c5] at H
     have c5b0 : decide (0 ≤ a0_1) = true := decide_eq_true c5
     clear c5
     by_cases c6 : a0_1 ≤ a0_3
     ·rw [if_pos c6] at H
      have c6b0 : decide (a0_1 ≤ a0_3) = true := decide_eq_true c6
      clear c6
      obtain rfl := Option.some.inj H
      go_enter Try.func31, Try.ntmps31
      go_wp2_with (first | ((with_reducible refine gate_dst (N := 1) rfl ?_); refine bT (N := 1) (#[.int .i64 a0_0, .int .i64 a0_1, .int .i64 a0_2, .int .i64 a0_3]) 23 ?_; intro gb110 hg w7 hbox hb; have n0_ := Aside0.mk (below_step (by repeat (first | (with_reducible first | exact HB.out | apply below_alloc | apply pw_below_drewN | apply below_drew1) | exact HB.out)) hb); have n1_ := Aside0.mk (hbox); have n2_ := Aside0.mk ((by rw [hg]; exact (below_size (by repeat (first | (with_reducible first | exact HB.out | apply below_alloc | apply pw_below_drewN | apply below_drew1) | exact HB.out))) : w.heap.size ≤ gb110)); have n3_ := Aside0.mk ((by rw [hg]; exact (below_size (by repeat (first | (with_reducible first | exact HB.out | apply below_alloc | apply pw_below_drewN | apply below_drew1) | exact HB.out))) : w.heap.size ≤ gb110)); clear HB; have HB := n0_; have BK110 := n1_; have GW110 := n2_; have GE110 := n3_; clear n0_ n1_ n2_ n3_; clear hb hbox hg; have hcz8_0 : w7.cell? ⟨gb110, 0, none⟩ = some (.int .i64 a0_0) := (blk_cell BK110.out 0).trans rfl; have hcz8_1 : w7.cell? ⟨gb110, 1, none⟩ = some (.int .i64 a0_1) := (blk_cell BK110.out 1).trans rfl; have hcz8_2 : w7.cell? ⟨gb110, 2, none⟩ = some (.int .i64 a0_2) := (blk_cell BK110.out 2).trans rfl; have hcz8_3 : w7.cell? ⟨gb110, 3, none⟩ = some (.int .i64 a0_3) := (blk_cell BK110.out 3).trans rfl; have hfz8_0 := blk_frozen BK110.out 0; have hfz8_1 := blk_frozen BK110.out 1; have hfz8_2 := blk_frozen BK110.out 2; have hfz8_3 := blk_frozen BK110.out 3))
      go_ret
      exact ⟨by first | rfl | (simp [errW_none, errW_some] <;> rfl) | (simp [*, errW_none, errW_some] <;> rfl), by repeat (first | (with_reducible first | exact HB.out | apply below_alloc | apply pw_below_drewN | apply below_drew1 | refine below_set ?_ GE110.out) | exact HB.out)⟩
     ·rw [if_neg c6] at H
      have c6b0 : decide (a0_1 ≤ a0_3) = false := decide_eq_false c6
      clear c6
      obtain rfl := Option.some.inj H
      go_enter Try.func31, Try.ntmps31
      go_wp2_with (first | ((with_reducible refine gate_dst (N := 1) rfl ?_); refine bT (N := 1) (#[.int .i64 a0_0, .int .i64 a0_1, .int .i64 a0_2, .int .i64 a0_3]) 23 ?_; intro gb110 hg w9 hbox hb; have n0_ := Aside0.mk (below_step (by repeat (first | (with_reducible first | exact HB.out | apply below_alloc | apply pw_below_drewN | apply below_drew1) | exact HB.out)) hb); have n1_ := Aside0.mk (hbox); have n2_ := Aside0.mk ((by rw [hg]; exact (below_size (by repeat (first | (with_reducible first | exact HB.out | apply below_alloc | apply pw_below_drewN | apply below_drew1) | exact HB.out))) : w.heap.size ≤ gb110)); have n3_ := Aside0.mk ((by rw [hg]; exact (below_size (by repeat (first | (with_reducible first | exact HB.out | apply below_alloc | apply pw_below_drewN | apply below_drew1) | exact HB.out))) : w.heap.size ≤ gb110)); clear HB; have HB := n0_; have BK110 := n1_; have GW110 := n2_; have GE110 := n3_; clear n0_ n1_ n2_ n3_; clear hb hbox hg; have hcz10_0 : w9.cell? ⟨gb110, 0, none⟩ = some (.int .i64 a0_0) := (blk_cell BK110.out 0).trans rfl; have hcz10_1 : w9.cell? ⟨gb110, 1, none⟩ = some (.int .i64 a0_1) := (blk_cell BK110.out 1).trans rfl; have hcz10_2 : w9.cell? ⟨gb110, 2, none⟩ = some (.int .i64 a0_2) := (blk_cell BK110.out 2).trans rfl; have hcz10_3 : w9.cell? ⟨gb110, 3, none⟩ = some (.int .i64 a0_3) := (blk_cell BK110.out 3).trans rfl; have hfz10_0 := blk_frozen BK110.out 0; have hfz10_1 := blk_frozen BK110.out 1; have hfz10_2 := blk_frozen BK110.out 2; have hfz10_3 := blk_frozen BK110.out 3))
      go_ret
      exact ⟨by first | rfl | (simp [errW_none, errW_some] <;> rfl) | (simp [*, errW_none, errW_some] <;> rfl), by repeat (first | (with_reducible first | exact HB.out | apply below_alloc | apply pw_below_drewN | apply below_drew1 | refine below_set ?_ GE110.out) | exact HB.out)⟩
    ·rw [if_neg c5] at H
     have c5b0 : decide (0 ≤ a0_1) = false := decide_eq_false c5
     clear c5
     obtain rfl := Option.some.inj H
     go_enter Try.func31, Try.ntmps31
     go_wp2_with (first | ((with_reducible refine gate_dst (N := 1) rfl ?_); refine bT (N := 1) (#[.int .i64 a0_0, .int .i64 a0_1, .int .i64 a0_2, .int .i64 a0_3]) 23 ?_; intro gb110 hg w11 hbox hb; have n0_ := Aside0.mk (below_step (by repeat (first | (with_reducible first | exact HB.out | apply below_alloc | apply pw_below_drewN | apply below_drew1) | exact HB.out)) hb); have n1_ := Aside0.mk (hbox); have n2_ := Aside0.mk ((by rw [hg]; exact (below_size (by repeat (first | (with_reducible first | exact HB.out | apply below_alloc | apply pw_below_drewN | apply below_drew1) | exact HB.out))) : w.heap.size ≤ gb110)); have n3_ := Aside0.mk ((by rw [hg]; exact (below_size (by repeat (first | (with_reducible first | exact HB.out | apply below_alloc | apply pw_below_drewN | apply below_drew1) | exact HB.out))) : w.heap.size ≤ gb110)); clear HB; have HB := n0_; have BK110 := n1_; have GW110 := n2_; have GE110 := n3_; clear n0_ n1_ n2_ n3_; clear hb hbox hg; have hcz12_0 : w11.cell? ⟨gb110, 0, none⟩ = some (.int .i64 a0_0) := (blk_cell BK110.out 0).trans rfl; have hcz12_1 : w11.cell? ⟨gb110, 1, none⟩ = some (.int .i64 a0_1) := (blk_cell BK110.out 1).trans rfl; have hcz12_2 : w11.cell? ⟨gb110, 2, none⟩ = some (.int .i64 a0_2) := (blk_cell BK110.out 2).trans rfl; have hcz12_3 : w11.cell? ⟨gb110, 3, none⟩ = some (.int .i64 a0_3) := (blk_cell BK110.out 3).trans rfl; have hfz12_0 := blk_frozen BK110.out 0; have hfz12_1 := blk_frozen BK110.out 1; have hfz12_2 := blk_frozen BK110.out 2; have hfz12_3 := blk_frozen BK110.out 3))
     go_ret
     exact ⟨by first | rfl | (simp [errW_none, errW_some] <;> rfl) | (simp [*, errW_none, errW_some] <;> rfl), by repeat (first | (with_reducible first | exact HB.out | apply below_alloc | apply pw_below_drewN | apply below_drew1 | refine below_set ?_ GE110.out) | exact HB.out)⟩
   ·rw [if_neg c4] at H
    have c4b0 : decide (a0_2 ≤ 4096) = false := decide_eq_false c4
    clear c4
    obtain rfl := Option.some.inj H
    go_enter Try.func31, Try.ntmps31
    go_wp2_with (first | ((with_reducible refine gate_dst (N := 1) rfl ?_); refine bT (N := 1) (#[.int .i64 a0_0, .int .i64 a0_1, .int .i64 a0_2, .int .i64 a0_3]) 23 ?_; intro gb110 hg w13 hbox hb; have n0_ := Aside0.mk (below_step (by repeat (first | (with_reducible first | exact HB.out | apply below_alloc | apply pw_below_drewN | apply below_drew1) | exact HB.out)) hb); have n1_ := Aside0.mk (hbox); have n2_ := Aside0.mk ((by rw [hg]; exact (below_size (by repeat (first | (with_reducible first | exact HB.out | apply below_alloc | apply pw_below_drewN | apply below_drew1) | exact HB.out))) : w.heap.size ≤ gb110)); have n3_ := Aside0.mk ((by rw [hg]; exact (below_size (by repeat (first | (with_reducible first | exact HB.out | apply below_alloc | apply pw_below_drewN | apply below_drew1) | exact HB.out))) : w.heap.size ≤ gb110)); clear HB; have HB := n0_; have BK110 := n1_; have GW110 := n2_; have GE110 := n3_; clear n0_ n1_ n2_ n3_; clear hb hbox hg; have hcz14_0 : w13.cell? ⟨gb110, 0, none⟩ = some (.int .i64 a0_0) := (blk_cell BK110.out 0).trans rfl; have hcz14_1 : w13.cell? ⟨gb110, 1, none⟩ = some (.int .i64 a0_1) := (blk_cell BK110.out 1).trans rfl; have hcz14_2 : w13.cell? ⟨gb110, 2, none⟩ = some (.int .i64 a0_2) := (blk_cell BK110.out 2).trans rfl; have hcz14_3 : w13.cell? ⟨gb110, 3, none⟩ = some (.int .i64 a0_3) := (blk_cell BK110.out 3).trans rfl; have hfz14_0 := blk_frozen BK110.out 0; have hfz14_1 := blk_frozen BK110.out 1; have hfz14_2 := blk_frozen BK110.out 2; have hfz14_3 := blk_frozen BK110.out 3))
    go_ret
    exact ⟨by first | rfl | (simp [errW_none, errW_some] <;> rfl) | (simp [*, errW_none, errW_some] <;> rfl), by repeat (first | (with_reducible first | exact HB.out | apply below_alloc | apply pw_below_drewN | apply below_drew1 | refine below_set ?_ GE110.out) | exact HB.out)⟩
  ·rw [if_neg c3] at H
   have c3b0 : decide (a0_0 ≤ a0_2) = false := decide_eq_false c3
   clear c3
   obtain rfl := Option.some.inj H
   go_enter Try.func31, Try.ntmps31
   go_wp2_with (first | ((with_reducible refine gate_dst (N := 1) rfl ?_); refine bT (N := 1) (#[.int .i64 a0_0, .int .i64 a0_1, .int .i64 a0_2, .int .i64 a0_3]) 23 ?_; intro gb110 hg w15 hbox hb; have n0_ := Aside0.mk (below_step (by repeat (first | (with_reducible first | exact HB.out | apply below_alloc | apply pw_below_drewN | apply below_drew1) | exact HB.out)) hb); have n1_ := Aside0.mk (hbox); have n2_ := Aside0.mk ((by rw [hg]; exact (below_size (by repeat (first | (with_reducible first | exact HB.out | apply below_alloc | apply pw_below_drewN | apply below_drew1) | exact HB.out))) : w.heap.size ≤ gb110)); have n3_ := Aside0.mk ((by rw [hg]; exact (below_size (by repeat (first | (with_reducible first | exact HB.out | apply below_alloc | apply pw_below_drewN | apply below_drew1) | exact HB.out))) : w.heap.size ≤ gb110)); clear HB; have HB := n0_; have BK110 := n1_; have GW110 := n2_; have GE110 := n3_; clear n0_ n1_ n2_ n3_; clear hb hbox hg; have hcz16_0 : w15.cell? ⟨gb110, 0, none⟩ = some (.int .i64 a0_0) := (blk_cell BK110.out 0).trans rfl; have hcz16_1 : w15.cell? ⟨gb110, 1, none⟩ = some (.int .i64 a0_1) := (blk_cell BK110.out 1).trans rfl; have hcz16_2 : w15.cell? ⟨gb110, 2, none⟩ = some (.int .i64 a0_2) := (blk_cell BK110.out 2).trans rfl; have hcz16_3 : w15.cell? ⟨gb110, 3, none⟩ = some (.int .i64 a0_3) := (blk_cell BK110.out 3).trans rfl; have hfz16_0 := blk_frozen BK110.out 0; have hfz16_1 := blk_frozen BK110.out 1; have hfz16_2 := blk_frozen BK110.out 2; have hfz16_3 := blk_frozen BK110.out 3))
   go_ret
   exact ⟨by first | rfl | (simp [errW_none, errW_some] <;> rfl) | (simp [*, errW_none, errW_some] <;> rfl), by repeat (first | (with_reducible first | exact HB.out | apply below_alloc | apply pw_below_drewN | apply below_drew1 | refine below_set ?_ GE110.out) | exact HB.out)⟩
 ·rw [if_neg c2] at H
  have c2b0 : decide (0 ≤ a0_0) = false := decide_eq_false c2
  clear c2
  obtain rfl := Option.some.inj H
  go_enter Try.func31, Try.ntmps31
  go_wp2_with (first | ((with_reducible refine gate_dst (N := 1) rfl ?_); refine bT (N := 1) (#[.int .i64 a0_0, .int .i64 a0_1, .int .i64 a0_2, .int .i64 a0_3]) 23 ?_; intro gb110 hg w17 hbox hb; have n0_ := Aside0.mk (below_step (by repeat (first | (with_reducible first | exact HB.out | apply below_alloc | apply pw_below_drewN | apply below_drew1) | exact HB.out)) hb); have n1_ := Aside0.mk (hbox); have n2_ := Aside0.mk ((by rw [hg]; exact (below_size (by repeat (first | (with_reducible first | exact HB.out | apply below_alloc | apply pw_below_drewN | apply below_drew1) | exact HB.out))) : w.heap.size ≤ gb110)); have n3_ := Aside0.mk ((by rw [hg]; exact (below_size (by repeat (first | (with_reducible first | exact HB.out | apply below_alloc | apply pw_below_drewN | apply below_drew1) | exact HB.out))) : w.heap.size ≤ gb110)); clear HB; have HB := n0_; have BK110 := n1_; have GW110 := n2_; have GE110 := n3_; clear n0_ n1_ n2_ n3_; clear hb hbox hg; have hcz18_0 : w17.cell? ⟨gb110, 0, none⟩ = some (.int .i64 a0_0) := (blk_cell BK110.out 0).trans rfl; have hcz18_1 : w17.cell? ⟨gb110, 1, none⟩ = some (.int .i64 a0_1) := (blk_cell BK110.out 1).trans rfl; have hcz18_2 : w17.cell? ⟨gb110, 2, none⟩ = some (.int .i64 a0_2) := (blk_cell BK110.out 2).trans rfl; have hcz18_3 : w17.cell? ⟨gb110, 3, none⟩ = some (.int .i64 a0_3) := (blk_cell BK110.out 3).trans rfl; have hfz18_0 := blk_frozen BK110.out 0; have hfz18_1 := blk_frozen BK110.out 1; have hfz18_2 := blk_frozen BK110.out 2; have hfz18_3 := blk_frozen BK110.out 3))
  go_ret
  exact ⟨by first | rfl | (simp [errW_none, errW_some] <;> rfl) | (simp [*, errW_none, errW_some] <;> rfl), by repeat (first | (with_reducible first | exact HB.out | apply below_alloc | apply pw_below_drewN | apply below_drew1 | refine below_set ?_ GE110.out) | exact HB.out)⟩
end Go.Proofs.Ytcnpekpgghppnaa.Q
namespace Go.Proofs.Ytcnpekpgghppnaa.Q
open Go.RowKit Go.Proofs.YtcnpekpgghppnaaW.PrintWords Go.Proofs.YtcnpekpgghppnaaW.PrintLast Go.Proofs.YtcnpekpgghppnaaW.PrintMore
attribute [local go_sem] max2_int min2_int max_two min_two max_three min_three max_four min_four
set_option linter.unusedVariables false
set_option linter.unusedSimpArgs false
def rect_Area.f (a0_0 : Int) (a0_1 : Int) (a0_2 : Int) (a0_3 : Int) : Option (Int) := (rect_Valid.f a0_0 a0_1 a0_2 a0_3).bind fun t112 => (if t112 = true then (some (wrap64 ((wrap64 (a0_2 - a0_0)) * (wrap64 (a0_3 - a0_1))))) else (some 0))
set_option maxHeartbeats 8000000 in
set_option maxRecDepth 100000 in
theorem rect_Area.calls (a0_0 : Int) (a0_1 : Int) (a0_2 : Int) (a0_3 : Int) (r : Int) (w : World) (h : rect_Area.f a0_0 a0_1 a0_2 a0_3 = some r) :
  Calls Try.prog 36 #[.agg #[.int .i64 a0_0, .int .i64 a0_1, .int .i64 a0_2, .int .i64 a0_3]] w fun e w' => e = .returned (.int .i64 r) ∧ Below w.heap.size w w' := by
 have hu23 := Try.underlying23
 have HB := Aside0.mk (Below.refl w.heap.size w)
 have H : ((rect_Valid.f a0_0 a0_1 a0_2 a0_3).bind fun t112 => (if t112 = true then (some (wrap64 ((wrap64 (a0_2 - a0_0)) * (wrap64 (a0_3 - a0_1))))) else (some 0))) = some r := h
 clear h
 replace H := Option.bind_eq_some_iff.mp H
 obtain ⟨t112, A20, H⟩ := H
 replace H : (if t112 = true then (some (wrap64 ((wrap64 (a0_2 - a0_0)) * (wrap64 (a0_3 - a0_1))))) else (some 0)) = some r := H
 have A2 := Aside0.mk A20
 clear A20
 by_cases c3 : t112 = true
 ·subst c3
  have H1 : (some (wrap64 ((wrap64 (a0_2 - a0_0)) * (wrap64 (a0_3 - a0_1))))) = some r := by rw [if_pos rfl] at H; exact H
  clear H
  have H := H1
  clear H1
  obtain rfl := Option.some.inj H
  go_enter Try.func36, Try.ntmps36
  go_wp2_with (first | ((with_reducible refine gate_dst (N := 1) rfl ?_); refine bT (N := 1) (#[.int .i64 a0_0, .int .i64 a0_1, .int .i64 a0_2, .int .i64 a0_3]) 23 ?_; intro gb111 hg w4 hbox hb; have n0_ := Aside0.mk (below_step (by repeat (first | (with_reducible first | exact HB.out | apply below_alloc | apply pw_below_drewN | apply below_drew1) | exact HB.out)) hb); have n1_ := Aside0.mk (hbox); have n2_ := Aside0.mk ((by rw [hg]; exact (below_size (by repeat (first | (with_reducible first | exact HB.out | apply below_alloc | apply pw_below_drewN | apply below_drew1) | exact HB.out))) : w.heap.size ≤ gb111)); have n3_ := Aside0.mk ((by rw [hg]; exact (below_size (by repeat (first | (with_reducible first | exact HB.out | apply below_alloc | apply pw_below_drewN | apply below_drew1) | exact HB.out))) : w.heap.size ≤ gb111)); clear HB; have HB := n0_; have BK111 := n1_; have GW111 := n2_; have GE111 := n3_; clear n0_ n1_ n2_ n3_; clear hb hbox hg; have hcz5_0 : w4.cell? ⟨gb111, 0, none⟩ = some (.int .i64 a0_0) := (blk_cell BK111.out 0).trans rfl; have hcz5_1 : w4.cell? ⟨gb111, 1, none⟩ = some (.int .i64 a0_1) := (blk_cell BK111.out 1).trans rfl; have hcz5_2 : w4.cell? ⟨gb111, 2, none⟩ = some (.int .i64 a0_2) := (blk_cell BK111.out 2).trans rfl; have hcz5_3 : w4.cell? ⟨gb111, 3, none⟩ = some (.int .i64 a0_3) := (blk_cell BK111.out 3).trans rfl; have hfz5_0 := blk_frozen BK111.out 0; have hfz5_1 := blk_frozen BK111.out 1; have hfz5_2 := blk_frozen BK111.out 2; have hfz5_3 := blk_frozen BK111.out 3) | ((with_reducible refine gate_callee (f := 31) rfl ?_); refine goesL_ (some 4) rfl rfl Try.func31 (by kernel_rfl) rfl #[.agg #[.int .i64 a0_0, .int .i64 a0_1, .int .i64 a0_2, .int .i64 a0_3]] rfl (by (try simp only [List.map_toArray, List.map_cons, List.map_nil]); first | done | rfl | (simp only [List.length_drop, List.length_take]; rfl)) ?_; (with_reducible refine (rect_Valid.calls a0_0 a0_1 a0_2 a0_3 true _ A2.out).mono ?_); rintro e w6 ⟨rfl, hb⟩; refine ⟨_, rfl, ?_⟩; have n0_ := Aside0.mk (blk_below (g := gb111) (o := .cells #[.int .i64 a0_0, .int .i64 a0_1, .int .i64 a0_2, .int .i64 a0_3] 23 (0, 0)) (by exact upK BK111.out) hb); have n1_ := Aside0.mk (below_step (by repeat (first | (with_reducible first | exact HB.out | apply below_alloc | apply pw_below_drewN | apply below_drew1 | refine below_set ?_ GE111.out) | exact HB.out)) hb); clear BK111; clear HB; have BK111 := n0_; have HB := n1_; clear n0_ n1_; (try clear hb); (try clear hb2); (try clear hk); (try clear hi); have hcz7_0 : w6.cell? ⟨gb111, 0, none⟩ = some (.int .i64 a0_0) := (blk_cell BK111.out 0).trans rfl; have hcz7_1 : w6.cell? ⟨gb111, 1, none⟩ = some (.int .i64 a0_1) := (blk_cell BK111.out 1).trans rfl; have hcz7_2 : w6.cell? ⟨gb111, 2, none⟩ = some (.int .i64 a0_2) := (blk_cell BK111.out 2).trans rfl; have hcz7_3 : w6.cell? ⟨gb111, 3, none⟩ = some (.int .i64 a0_3) := (blk_cell BK111.out 3).trans rfl; have hfz7_0 := blk_frozen BK111.out 0; have hfz7_1 := blk_frozen BK111.out 1; have hfz7_2 := blk_frozen BK111.out 2; have hfz7_3 := blk_frozen BK111.out 3))
  go_ret
  exact ⟨by first | rfl | (simp [errW_none, errW_some] <;> rfl) | (simp [*, errW_none, errW_some] <;> rfl), by repeat (first | (with_reducible first | exact HB.out | apply below_alloc | apply pw_below_drewN | apply below_drew1 | refine below_set ?_ GE111.out) | exact HB.out)⟩
 ·replace c3 := Bool.eq_false_iff.mpr c3
  subst c3
  have H1 : (some 0) = some r := by rw [if_neg (show ¬ (false = true) by decide)] at H; exact H
  clear H
  have H := H1
  clear H1
  obtain rfl := Option.some.inj H
  go_enter Try.func36, Try.ntmps36
  go_wp2_with (first | ((with_reducible refine gate_dst (N := 1) rfl ?_); refine bT (N := 1) (#[.int .i64 a0_0, .int .i64 a0_1, .int .i64 a0_2, .int .i64 a0_3]) 23 ?_; intro gb111 hg w8 hbox hb; have n0_ := Aside0.mk (below_step (by repeat (first | (with_reducible first | exact HB.out | apply below_alloc | apply pw_below_drewN | apply below_drew1) | exact HB.out)) hb); have n1_ := Aside0.mk (hbox); have n2_ := Aside0.mk ((by rw [hg]; exact (below_size (by repeat (first | (with_reducible first | exact HB.out | apply below_alloc | apply pw_below_drewN | apply below_drew1) | exact HB.out))) : w.heap.size ≤ gb111)); have n3_ := Aside0.mk ((by rw [hg]; exact (below_size (by repeat (first | (with_reducible first | exact HB.out | apply below_alloc | apply pw_below_drewN | apply below_drew1) | exact HB.out))) : w.heap.size ≤ gb111)); clear HB; have HB := n0_; have BK111 := n1_; have GW111 := n2_; have GE111 := n3_; clear n0_ n1_ n2_ n3_; clear hb hbox hg; have hcz9_0 : w8.cell? ⟨gb111, 0, none⟩ = some (.int .i64 a0_0) := (blk_cell BK111.out 0).trans rfl; have hcz9_1 : w8.cell? ⟨gb111, 1, none⟩ = some (.int .i64 a0_1) := (blk_cell BK111.out 1).trans rfl; have hcz9_2 : w8.cell? ⟨gb111, 2, none⟩ = some (.int .i64 a0_2) := (blk_cell BK111.out 2).trans rfl; have hcz9_3 : w8.cell? ⟨gb111, 3, none⟩ = some (.int .i64 a0_3) := (blk_cell BK111.out 3).trans rfl; have hfz9_0 := blk_frozen BK111.out 0; have hfz9_1 := blk_frozen BK111.out 1; have hfz9_2 := blk_frozen BK111.out 2; have hfz9_3 := blk_frozen BK111.out 3) | ((with_reducible refine gate_callee (f := 31) rfl ?_); refine goesL_ (some 4) rfl rfl Try.func31 (by kernel_rfl) rfl #[.agg #[.int .i64 a0_0, .int .i64 a0_1, .int .i64 a0_2, .int .i64 a0_3]] rfl (by (try simp only [List.map_toArray, List.map_cons, List.map_nil]); first | done | rfl | (simp only [List.length_drop, List.length_take]; rfl)) ?_; (with_reducible refine (rect_Valid.calls a0_0 a0_1 a0_2 a0_3 false _ A2.out).mono ?_); rintro e w10 ⟨rfl, hb⟩; refine ⟨_, rfl, ?_⟩; have n0_ := Aside0.mk (blk_below (g := gb111) (o := .cells #[.int .i64 a0_0, .int .i64 a0_1, .int .i64 a0_2, .int .i64 a0_3] 23 (0, 0)) (by exact upK BK111.out) hb); have n1_ := Aside0.mk (below_step (by repeat (first | (with_reducible first | exact HB.out | apply below_alloc | apply pw_below_drewN | apply below_drew1 | refine below_set ?_ GE111.out) | exact HB.out)) hb); clear BK111; clear HB; have BK111 := n0_; have HB := n1_; clear n0_ n1_; (try clear hb); (try clear hb2); (try clear hk); (try clear hi)))
  go_ret
  exact ⟨by first | rfl | (simp [errW_none, errW_some] <;> rfl) | (simp [*, errW_none, errW_some] <;> rfl), by repeat (first | (with_reducible first | exact HB.out | apply below_alloc | apply pw_below_drewN | apply below_drew1 | refine below_set ?_ GE111.out) | exact HB.out)⟩
end Go.Proofs.Ytcnpekpgghppnaa.Q
namespace Go.Proofs.Ytcnpekpgghppnaa.Q
open Go.RowKit Go.Proofs.YtcnpekpgghppnaaW.PrintWords Go.Proofs.YtcnpekpgghppnaaW.PrintLast Go.Proofs.YtcnpekpgghppnaaW.PrintMore
attribute [local go_sem] max2_int min2_int max_two min_two max_three min_three max_four min_four
set_option linter.unusedVariables false
set_option linter.unusedSimpArgs false
def plane_Valid.f (a0_0 : Int) (a0_1 : Int) (a0_2 : Int) (a0_3 : Int) (l0_4 : List Int) : Option (Bool) := (rect_Valid.f a0_0 a0_1 a0_2 a0_3).bind fun t114 => (if t114 = true then ((rect_Area.f a0_0 a0_1 a0_2 a0_3).bind fun t115 => (if t115 ≤ 1048576 then ((rect_Area.f a0_0 a0_1 a0_2 a0_3).bind fun t116 => (some ((l0_4.length : Int) == t116))) else (some false))) else (some false))
def plane_Valid.T1 : Bool × List (List Nat × List Nat) := (true, [([], []), ([0], [0]), ([1], [1]), ([2, 2], [2]), ([3], [3]), ([4, 3], [3, 4]), ([5, 3, 3], [3, 5]), ([6, 3], [3, 6]), ([3, 7], [3, 7]), ([8, 6], [8]), ([9], [9]), ([10, 9], [9, 10]), ([11, 9], [9, 11]), ([9], [9]), ([13, 9], [9, 13]), ([14, 9, 9], [9, 14]), ([12, 15, 9], [9, 12, 15]), ([9, 16], [9, 16]), ([17, 15, 0, 1, 2, 3, 4, 5, 6, 7, 8, 9, 10, 11, 12, 13, 14, 15, 16, 17], [17])])
def plane_Valid.B1 : List Nat := [0, 1, 3, 7, 15, 31, 63, 127, 255, 511, 1023, 2047, 4095, 1023, 9215, 25599, 65535, 131071, 262143]
theorem plane_Valid.tab1 : rtab .any (opsOf Try.f25 1) = plane_Valid.T1 := by kernel_rfl
theorem plane_Valid.bits1 : waitsOk plane_Valid.T1.2 plane_Valid.B1 = true := by kernel_rfl
set_option maxHeartbeats 8000000 in
set_option maxRecDepth 100000 in
theorem plane_Valid.calls (a0_0 : Int) (a0_1 : Int) (a0_2 : Int) (a0_3 : Int) (A0_4 : Option Addr) (c0_4 : Nat) (l0_4 : List Int) (r : Bool) (w : World) (hr0_4 : Kd.C (Kd.int .i64) w A0_4 l0_4.length l0_4) (hc0_4 : l0_4.length ≤ c0_4) (h : plane_Valid.f a0_0 a0_1 a0_2 a0_3 l0_4 = some r) :
  Calls Try.prog 25 #[.agg #[.int .i64 a0_0, .int .i64 a0_1, .int .i64 a0_2, .int .i64 a0_3, .slice A0_4 l0_4.length c0_4]] w fun e w' => e = .returned (.bool r) ∧ Below w.heap.size w w' := by
 have hu26 := Try.underlying26
 have hu23 := Try.underlying23
 have HR0_4 := Aside0.mk hr0_4
 have HC0_4 := Aside0.mk hc0_4
 clear hr0_4 hc0_4
 have HB := Aside0.mk (Below.refl w.heap.size w)
 have H : ((rect_Valid.f a0_0 a0_1 a0_2 a0_3).bind fun t114 => (if t114 = true then ((rect_Area.f a0_0 a0_1 a0_2 a0_3).bind fun t115 => (if t115 ≤ 1048576 then ((rect_Area.f a0_0 a0_1 a0_2 a0_3).bind fun t116 => (some ((l0_4.length : Int) == t116))) else (some false))) else (some false))) = some r := h
 clear h
 replace H := Option.bind_eq_some_iff.mp H
 obtain ⟨t114, A20, H⟩ := H
 replace H : (if t114 = true then ((rect_Area.f a0_0 a0_1 a0_2 a0_3).bind fun t115 => (if t115 ≤ 1048576 then ((rect_Area.f a0_0 a0_1 a0_2 a0_3).bind fun t116 => (some ((l0_4.length : Int) == t116))) else (some false))) else (some false)) = some r := H
 have A2 := Aside0.mk A20
 clear A20
 by_cases c3 : t114 = true
 ·subst c3
  have H1 : ((rect_Area.f a0_0 a0_1 a0_2 a0_3).bind fun t115 => (if t115 ≤ 1048576 then ((rect_Area.f a0_0 a0_1 a0_2 a0_3).bind fun t116 => (some ((l0_4.length : Int) == t116))) else (some false))) = some r := by rw [if_pos rfl] at H; exact H
  clear H
  have H := H1
  clear H1
  replace H := Option.bind_eq_some_iff.mp H
  obtain ⟨t115, A40, H⟩ := H
  replace H : (if t115 ≤ 1048576 then ((rect_Area.f a0_0 a0_1 a0_2 a0_3).bind fun t116 => (some ((l0_4.length : Int) == t116))) else (some false)) = some r := H
  have A4 := Aside0.mk A40
  clear A40
  by_cases c5 : t115 ≤ 1048576
  ·rw [if_pos c5] at H
   have c5b0 : decide (t115 ≤ 1048576) = true := decide_eq_true c5
   clear c5
   replace H := Option.bind_eq_some_iff.mp H
   obtain ⟨t116, A60, H⟩ := H
   obtain rfl : t115 = t116 := by have E_ := A4.out.symm.trans A60; simpa using E_
   replace H : (some ((l0_4.length : Int) == t115)) = some r := H
   have A6 := Aside0.mk A60
   clear A60
   obtain rfl := Option.some.inj H
   go_enter Try.func25, Try.ntmps25
   try go_wp2_with (first | ((with_reducible refine gate_dst (N := 1) rfl ?_); (try (refine gate_guard (by rfl) ?_; dsimp only)); refine bT (N := 1) (#[.int .i64 a0_0, .int .i64 a0_1, .int .i64 a0_2, .int .i64 a0_3, .slice A0_4 l0_4.length c0_4]) 26 ?_; intro gb113 hg w7 hbox hb; have n0_ := Aside0.mk (below_step (by repeat (first | (with_reducible first | exact HB.out | apply below_alloc | apply pw_below_drewN | apply below_drew1) | exact HB.out)) hb); have n1_ := Aside0.mk (hbox); have n2_ := Aside0.mk ((by rw [hg]; exact (below_size (by repeat (first | (with_reducible first | exact HB.out | apply below_alloc | apply pw_below_drewN | apply below_drew1) | exact HB.out))) : w.heap.size ≤ gb113)); have n3_ := Aside0.mk ((by rw [hg]; exact (below_size (by repeat (first | (with_reducible first | exact HB.out | apply below_alloc | apply pw_below_drewN | apply below_drew1) | exact HB.out))) : w.heap.size ≤ gb113)); clear HB; have HB := n0_; have BK113 := n1_; have GW113 := n2_; have GE113 := n3_; clear n0_ n1_ n2_ n3_; clear hb hbox hg))
   have n0_ := Aside0.mk (blk_drew BK113.out)
   have n1_ := Aside0.mk (below_drew1 HB.out)
   clear BK113
   clear HB
   have BK113 := n0_
   have HB := n1_
   clear n0_ n1_
   refine start_ (n := 19) (S := fun w' => w'.cell? ⟨gb113, 0, none⟩ = some (.int .i64 a0_0) ∧ w'.cell? ⟨gb113, 1, none⟩ = some (.int .i64 a0_1) ∧ w'.cell? ⟨gb113, 2, none⟩ = some (.int .i64 a0_2) ∧ w'.cell? ⟨gb113, 3, none⟩ = some (.int .i64 a0_3) ∧ w'.cell? ⟨gb113, 4, none⟩ = some (.slice A0_4 l0_4.length c0_4)) (ds := []) #[false, false, false, false, false, false, false, false, false, false, false, false, false, false, false, false, false, false, false] (by kernel_rfl) rfl rfl ⟨(blk_cell BK113.out 0).trans rfl, (blk_cell BK113.out 1).trans rfl, (blk_cell BK113.out 2).trans rfl, (blk_cell BK113.out 3).trans rfl, (blk_cell BK113.out 4).trans rfl⟩ (fun hHeld => ?_); refine with_tabW plane_Valid.tab1 plane_Valid.bits1 (fun HT_ HW_ => ?_)
   generalize w7.drew = w8 at BK113 HB hHeld ⊢
   refine pTT (i := 0) (N := some 3) HT_.out ?_
   refine take_ (i := 1) (N := some 4) (v := ?_) (a' := ?_) #[true, true, false, false, false, false, false, false, false, false, false, false, false, false, false, false, false, false, false] rfl rfl (take_ofW HT_.out HW_.out (by kernel_rfl)) (fun _ _ _ h => h) (Or.inl ⟨by rfl, ?_⟩) hHeld ?_ ?_
   rotate_left
   ·rintro w' ⟨s0, s1, s2, s3, s4⟩
    go_simp
    with_reducible rfl
   rotate_left
   ·simp only [Act.put, List.setIfInBounds_toArray, List.set_cons_zero, List.set_cons_succ, i64_w, i32_w]
    rfl
   refine one_ (i := 2) (N := some 5) #[true, true, true, false, false, false, false, false, false, false, false, false, false, false, false, false, false, false, false] rfl rfl (one_of HT_.out (by kernel_rfl)) (by decide) (fun K hK => ?_)
   refine goes_ Try.func31 (by kernel_rfl) rfl #[.agg #[.int .i64 a0_0, .int .i64 a0_1, .int .i64 a0_2, .int .i64 a0_3]] (by rfl) rfl rfl (by (try simp only [List.map_toArray, List.map_cons, List.map_nil]); first | done | rfl | (simp only [List.length_drop, List.length_take]; rfl)) ?_
   with_reducible refine (rect_Valid.calls a0_0 a0_1 a0_2 a0_3 true _ A2.out).mono ?_
   rintro e w9 ⟨rfl, hb⟩
   refine ⟨_, rfl, ?_⟩
   have n0_ := Aside0.mk (blk_below (g := gb113) (o := .cells #[.int .i64 a0_0, .int .i64 a0_1, .int .i64 a0_2, .int .i64 a0_3, .slice A0_4 l0_4.length c0_4] 26 (0, 0)) (by exact upK BK113.out) hb)
   have n1_ := Aside0.mk (below_step (by repeat (first | (with_reducible first | exact HB.out | apply below_alloc | apply pw_below_drewN | apply below_drew1 | refine below_set ?_ GE113.out) | exact HB.out)) hb)
   clear BK113
   clear HB
   have BK113 := n0_
   have HB := n1_
   clear n0_ n1_
   (try clear hb)
   (try clear hb2)
   (try clear hk)
   (try clear hi)
   refine hK.out _ _ ⟨(blk_cell BK113.out 0).trans rfl, (blk_cell BK113.out 1).trans rfl, (blk_cell BK113.out 2).trans rfl, (blk_cell BK113.out 3).trans rfl, (blk_cell BK113.out 4).trans rfl⟩ (fun hHeld => ?_)
   clear hK K
   refine nT ?_
   refine pTT (i := 3) (N := some 6) HT_.out ?_
   refine pTT (i := 4) (N := some 7) HT_.out ?_
   refine take_ (i := 5) (N := some 8) (v := ?_) (a' := ?_) #[true, true, true, true, true, true, false, false, false, false, false, false, false, false, false, false, false, false, false] rfl rfl (take_ofW HT_.out HW_.out (by kernel_rfl)) (fun _ _ _ h => h) (Or.inl ⟨by rfl, ?_⟩) hHeld ?_ ?_
   rotate_left
   ·rintro w' ⟨s0, s1, s2, s3, s4⟩
    go_simp
    with_reducible rfl
   rotate_left
   ·simp only [Act.put, List.setIfInBounds_toArray, List.set_cons_zero, List.set_cons_succ, i64_w, i32_w]
    rfl
   refine one_ (i := 6) (N := some 9) #[true, true, true, true, true, true, true, false, false, false, false, false, false, false, false, false, false, false, false] rfl rfl (one_of HT_.out (by kernel_rfl)) (by decide) (fun K hK => ?_)
   refine goes_ Try.func36 (by kernel_rfl) rfl #[.agg #[.int .i64 a0_0, .int .i64 a0_1, .int .i64 a0_2, .int .i64 a0_3]] (by rfl) rfl rfl (by (try simp only [List.map_toArray, List.map_cons, List.map_nil]); first | done | rfl | (simp only [List.length_drop, List.length_take]; rfl)) ?_
   with_reducible refine (rect_Area.calls a0_0 a0_1 a0_2 a0_3 t115 _ A4.out).mono ?_
   rintro e w10 ⟨rfl, hb⟩
   refine ⟨_, rfl, ?_⟩
   have n0_ := Aside0.mk (blk_below (g := gb113) (o := .cells #[.int .i64 a0_0, .int .i64 a0_1, .int .i64 a0_2, .int .i64 a0_3, .slice A0_4 l0_4.length c0_4] 26 (0, 0)) (by exact upK BK113.out) hb)
   have n1_ := Aside0.mk (below_step (by repeat (first | (with_reducible first | exact HB.out | apply below_alloc | apply pw_below_drewN | apply below_drew1 | refine below_set ?_ GE113.out) | exact HB.out)) hb)
   clear BK113
   clear HB
   have BK113 := n0_
   have HB := n1_
   clear n0_ n1_
   (try clear hb)
   (try clear hb2)
   (try clear hk)
   (try clear hi)
   refine hK.out _ _ ⟨(blk_cell BK113.out 0).trans rfl, (blk_cell BK113.out 1).trans rfl, (blk_cell BK113.out 2).trans rfl, (blk_cell BK113.out 3).trans rfl, (blk_cell BK113.out 4).trans rfl⟩ (fun hHeld => ?_)
   clear hK K
   refine nT ?_
   refine pTT (i := 7) (N := some 10) HT_.out ?_
   refine pTT (i := 8) (N := some 11) HT_.out ?_
   refine pTT (i := 9) (N := some 12) HT_.out ?_
   refine pTT (i := 10) (N := some 13) HT_.out ?_
   refine pTT (i := 13) (N := some 16) HT_.out ?_
   refine take_ (i := 11) (N := some 14) (v := ?_) (a' := ?_) #[true, true, true, true, true, true, true, true, true, true, true, true, false, true, false, false, false, false, false] rfl rfl (take_ofW HT_.out HW_.out (by kernel_rfl)) (fun _ _ _ h => h) (Or.inl ⟨by rfl, ?_⟩) hHeld ?_ ?_
   rotate_left
   ·rintro w' ⟨s0, s1, s2, s3, s4⟩
    go_simp
    with_reducible rfl
   rotate_left
   ·simp only [Act.put, List.setIfInBounds_toArray, List.set_cons_zero, List.set_cons_succ, i64_w, i32_w]
    rfl
   refine pTT (i := 12) (N := some 15) HT_.out ?_
   refine take_ (i := 14) (N := some 17) (v := ?_) (a' := ?_) #[true, true, true, true, true, true, true, true, true, true, true, true, true, true, true, false, false, false, false] rfl rfl (take_ofW HT_.out HW_.out (by kernel_rfl)) (fun _ _ _ h => h) (Or.inl ⟨by rfl, ?_⟩) hHeld ?_ ?_
   rotate_left
   ·rintro w' ⟨s0, s1, s2, s3, s4⟩
    go_simp
    with_reducible rfl
   rotate_left
   ·simp only [Act.put, List.setIfInBounds_toArray, List.set_cons_zero, List.set_cons_succ, i64_w, i32_w]
    rfl
   refine one_ (i := 15) (N := some 18) #[true, true, true, true, true, true, true, true, true, true, true, true, true, true, true, true, false, false, false] rfl rfl (one_of HT_.out (by kernel_rfl)) (by decide) (fun K hK => ?_)
   refine goes_ Try.func36 (by kernel_rfl) rfl #[.agg #[.int .i64 a0_0, .int .i64 a0_1, .int .i64 a0_2, .int .i64 a0_3]] (by rfl) rfl rfl (by (try simp only [List.map_toArray, List.map_cons, List.map_nil]); first | done | rfl | (simp only [List.length_drop, List.length_take]; rfl)) ?_
   with_reducible refine (rect_Area.calls a0_0 a0_1 a0_2 a0_3 t115 _ A6.out).mono ?_
   rintro e w11 ⟨rfl, hb⟩
   refine ⟨_, rfl, ?_⟩
   have n0_ := Aside0.mk (blk_below (g := gb113) (o := .cells #[.int .i64 a0_0, .int .i64 a0_1, .int .i64 a0_2, .int .i64 a0_3, .slice A0_4 l0_4.length c0_4] 26 (0, 0)) (by exact upK BK113.out) hb)
   have n1_ := Aside0.mk (below_step (by repeat (first | (with_reducible first | exact HB.out | apply below_alloc | apply pw_below_drewN | apply below_drew1 | refine below_set ?_ GE113.out) | exact HB.out)) hb)
   clear BK113
   clear HB
   have BK113 := n0_
   have HB := n1_
   clear n0_ n1_
   (try clear hb)
   (try clear hb2)
   (try clear hk)
   (try clear hi)
   refine hK.out _ _ ⟨(blk_cell BK113.out 0).trans rfl, (blk_cell BK113.out 1).trans rfl, (blk_cell BK113.out 2).trans rfl, (blk_cell BK113.out 3).trans rfl, (blk_cell BK113.out 4).trans rfl⟩ (fun hHeld => ?_)
   clear hK K
   refine nT ?_
   refine pTT (i := 16) (N := some 19) HT_.out ?_
   refine pTT (i := 17) (N := some 20) HT_.out ?_
   refine pTT (i := 18) (N := some 2) HT_.out ?_
   refine done_ (done_of HT_.out (by kernel_rfl)) ?_
   try go_wp2
   go_ret
   exact ⟨by first | rfl | (simp [errW_none, errW_some] <;> rfl) | (simp [*, errW_none, errW_some] <;> rfl), by repeat (first | (with_reducible first | exact HB.out | apply below_alloc | apply pw_below_drewN | apply below_drew1 | refine below_set ?_ GE113.out) | exact HB.out)⟩
  ·rw [if_neg c5] at H
   have c5b0 : decide (t115 ≤ 1048576) = false := decide_eq_false c5
   clear c5
   obtain rfl := Option.some.inj H
   go_enter Try.func25, Try.ntmps25
   try go_wp2_with (first | ((with_reducible refine gate_dst (N := 1) rfl ?_); (try (refine gate_guard (by rfl) ?_; dsimp only)); refine bT (N := 1) (#[.int .i64 a0_0, .int .i64 a0_1, .int .i64 a0_2, .int .i64 a0_3, .slice A0_4 l0_4.length c0_4]) 26 ?_; intro gb113 hg w12 hbox hb; have n0_ := Aside0.mk (below_step (by repeat (first | (with_reducible first | exact HB.out | apply below_alloc | apply pw_below_drewN | apply below_drew1) | exact HB.out)) hb); have n1_ := Aside0.mk (hbox); have n2_ := Aside0.mk ((by rw [hg]; exact (below_size (by repeat (first | (with_reducible first | exact HB.out | apply below_alloc | apply pw_below_drewN | apply below_drew1) | exact HB.out))) : w.heap.size ≤ gb113)); have n3_ := Aside0.mk ((by rw [hg]; exact (below_size (by repeat (first | (with_reducible first | exact HB.out | apply below_alloc | apply pw_below_drewN | apply below_drew1) | exact HB.out))) : w.heap.size ≤ gb113)); clear HB; have HB := n0_; have BK113 := n1_; have GW113 := n2_; have GE113 := n3_; clear n0_ n1_ n2_ n3_; clear hb hbox hg))
   have n0_ := Aside0.mk (blk_drew BK113.out)
   have n1_ := Aside0.mk (below_drew1 HB.out)
   clear BK113
   clear HB
   have BK113 := n0_
   have HB := n1_
   clear n0_ n1_
   refine start_ (n := 19) (S := fun w' => w'.cell? ⟨gb113, 0, none⟩ = some (.int .i64 a0_0) ∧ w'.cell? ⟨gb113, 1, none⟩ = some (.int .i64 a0_1) ∧ w'.cell? ⟨gb113, 2, none⟩ = some (.int .i64 a0_2) ∧ w'.cell? ⟨gb113, 3, none⟩ = some (.int .i64 a0_3) ∧ w'.cell? ⟨gb113, 4, none⟩ = some (.slice A0_4 l0_4.length c0_4)) (ds := []) #[false, false, false, false, false, false, false, false, false, false, false, false, false, false, false, false, false, false, false] (by kernel_rfl) rfl rfl ⟨(blk_cell BK113.out 0).trans rfl, (blk_cell BK113.out 1).trans rfl, (blk_cell BK113.out 2).trans rfl, (blk_cell BK113.out 3).trans rfl, (blk_cell BK113.out 4).trans rfl⟩ (fun hHeld => ?_); refine with_tabW plane_Valid.tab1 plane_Valid.bits1 (fun HT_ HW_ => ?_)
   generalize w12.drew = w13 at BK113 HB hHeld ⊢
   refine pTT (i := 0) (N := some 3) HT_.out ?_
   refine take_ (i := 1) (N := some 4) (v := ?_) (a' := ?_) #[true, true, false, false, false, false, false, false, false, false, false, false, false, false, false, false, false, false, false] rfl rfl (take_ofW HT_.out HW_.out (by kernel_rfl)) (fun _ _ _ h => h) (Or.inl ⟨by rfl, ?_⟩) hHeld ?_ ?_
   rotate_left
   ·rintro w' ⟨s0, s1, s2, s3, s4⟩
    go_simp
    with_reducible rfl
   rotate_left
   ·simp only [Act.put, List.setIfInBounds_toArray, List.set_cons_zero, List.set_cons_succ, i64_w, i32_w]
    rfl
   refine one_ (i := 2) (N := some 5) #[true, true, true, false, false, false, false, false, false, false, false, false, false, false, false, false, false, false, false] rfl rfl (one_of HT_.out (by kernel_rfl)) (by decide) (fun K hK => ?_)
   refine goes_ Try.func31 (by kernel_rfl) rfl #[.agg #[.int .i64 a0_0, .int .i64 a0_1, .int .i64 a0_2, .int .i64 a0_3]] (by rfl) rfl rfl (by (try simp only [List.map_toArray, List.map_cons, List.map_nil]); first | done | rfl | (simp only [List.length_drop, List.length_take]; rfl)) ?_
   with_reducible refine (rect_Valid.calls a0_0 a0_1 a0_2 a0_3 true _ A2.out).mono ?_
   rintro e w14 ⟨rfl, hb⟩
   refine ⟨_, rfl, ?_⟩
   have n0_ := Aside0.mk (blk_below (g := gb113) (o := .cells #[.int .i64 a0_0, .int .i64 a0_1, .int .i64 a0_2, .int .i64 a0_3, .slice A0_4 l0_4.length c0_4] 26 (0, 0)) (by exact upK BK113.out) hb)
   have n1_ := Aside0.mk (below_step (by repeat (first | (with_reducible first | exact HB.out | apply below_alloc | apply pw_below_drewN | apply below_drew1 | refine below_set ?_ GE113.out) | exact HB.out)) hb)
   clear BK113
   clear HB
   have BK113 := n0_
   have HB := n1_
   clear n0_ n1_
   (try clear hb)
   (try clear hb2)
   (try clear hk)
   (try clear hi)
   refine hK.out _ _ ⟨(blk_cell BK113.out 0).trans rfl, (blk_cell BK113.out 1).trans rfl, (blk_cell BK113.out 2).trans rfl, (blk_cell BK113.out 3).trans rfl, (blk_cell BK113.out 4).trans rfl⟩ (fun hHeld => ?_)
   clear hK K
   refine nT ?_
   refine pTT (i := 3) (N := some 6) HT_.out ?_
   refine pTT (i := 4) (N := some 7) HT_.out ?_
   refine take_ (i := 5) (N := some 8) (v := ?_) (a' := ?_) #[true, true, true, true, true, true, false, false, false, false, false, false, false, false, false, false, false, false, false] rfl rfl (take_ofW HT_.out HW_.out (by kernel_rfl)) (fun _ _ _ h => h) (Or.inl ⟨by rfl, ?_⟩) hHeld ?_ ?_
   rotate_left
   ·rintro w' ⟨s0, s1, s2, s3, s4⟩
    go_simp
    with_reducible rfl
   rotate_left
   ·simp only [Act.put, List.setIfInBounds_toArray, List.set_cons_zero, List.set_cons_succ, i64_w, i32_w]
    rfl
   refine one_ (i := 6) (N := some 9) #[true, true, true, true, true, true, true, false, false, false, false, false, false, false, false, false, false, false, false] rfl rfl (one_of HT_.out (by kernel_rfl)) (by decide) (fun K hK => ?_)
   refine goes_ Try.func36 (by kernel_rfl) rfl #[.agg #[.int .i64 a0_0, .int .i64 a0_1, .int .i64 a0_2, .int .i64 a0_3]] (by rfl) rfl rfl (by (try simp only [List.map_toArray, List.map_cons, List.map_nil]); first | done | rfl | (simp only [List.length_drop, List.length_take]; rfl)) ?_
   with_reducible refine (rect_Area.calls a0_0 a0_1 a0_2 a0_3 t115 _ A4.out).mono ?_
   rintro e w15 ⟨rfl, hb⟩
   refine ⟨_, rfl, ?_⟩
   have n0_ := Aside0.mk (blk_below (g := gb113) (o := .cells #[.int .i64 a0_0, .int .i64 a0_1, .int .i64 a0_2, .int .i64 a0_3, .slice A0_4 l0_4.length c0_4] 26 (0, 0)) (by exact upK BK113.out) hb)
   have n1_ := Aside0.mk (below_step (by repeat (first | (with_reducible first | exact HB.out | apply below_alloc | apply pw_below_drewN | apply below_drew1 | refine below_set ?_ GE113.out) | exact HB.out)) hb)
   clear BK113
   clear HB
   have BK113 := n0_
   have HB := n1_
   clear n0_ n1_
   (try clear hb)
   (try clear hb2)
   (try clear hk)
   (try clear hi)
   refine hK.out _ _ ⟨(blk_cell BK113.out 0).trans rfl, (blk_cell BK113.out 1).trans rfl, (blk_cell BK113.out 2).trans rfl, (blk_cell BK113.out 3).trans rfl, (blk_cell BK113.out 4).trans rfl⟩ (fun hHeld => ?_)
   clear hK K
   refine nT ?_
   refine pTT (i := 7) (N := some 10) HT_.out ?_
   refine pTT (i := 8) (N := some 11) HT_.out ?_
   refine pTT (i := 9) (N := some 12) HT_.out ?_
   refine pure_ (i := 10) (N := some 13) (v := undef) (a' := ?_) #[true, true, true, true, true, true, true, true, true, true, true, false, false, false, false, false, false, false, false] rfl rfl (any_of HT_.out (by kernel_rfl)) (fun _ _ _ h => h) (Or.inr ⟨by rfl, rfl⟩) ?_ ?_
   rotate_left
   ·simp only [Act.put, List.setIfInBounds_toArray, List.set_cons_zero, List.set_cons_succ, i64_w, i32_w]
    rfl
   refine pure_ (i := 11) (N := some 14) (v := undef) (a' := ?_) #[true, true, true, true, true, true, true, true, true, true, true, true, false, false, false, false, false, false, false] rfl rfl (any_of HT_.out (by kernel_rfl)) (fun _ _ _ h => h) (Or.inr ⟨by rfl, rfl⟩) ?_ ?_
   rotate_left
   ·simp only [Act.put, List.setIfInBounds_toArray, List.set_cons_zero, List.set_cons_succ, i64_w, i32_w]
    rfl
   refine pure_ (i := 12) (N := some 15) (v := undef) (a' := ?_) #[true, true, true, true, true, true, true, true, true, true, true, true, true, false, false, false, false, false, false] rfl rfl (any_of HT_.out (by kernel_rfl)) (fun _ _ _ h => h) (Or.inr ⟨by rfl, rfl⟩) ?_ ?_
   rotate_left
   ·simp only [Act.put, List.setIfInBounds_toArray, List.set_cons_zero, List.set_cons_succ, i64_w, i32_w]
    rfl
   refine pure_ (i := 13) (N := some 16) (v := undef) (a' := ?_) #[true, true, true, true, true, true, true, true, true, true, true, true, true, true, false, false, false, false, false] rfl rfl (any_of HT_.out (by kernel_rfl)) (fun _ _ _ h => h) (Or.inr ⟨by rfl, rfl⟩) ?_ ?_
   rotate_left
   ·simp only [Act.put, List.setIfInBounds_toArray, List.set_cons_zero, List.set_cons_succ, i64_w, i32_w]
    rfl
   refine pure_ (i := 14) (N := some 17) (v := undef) (a' := ?_) #[true, true, true, true, true, true, true, true, true, true, true, true, true, true, true, false, false, false, false] rfl rfl (any_of HT_.out (by kernel_rfl)) (fun _ _ _ h => h) (Or.inr ⟨by rfl, rfl⟩) ?_ ?_
   rotate_left
   ·simp only [Act.put, List.setIfInBounds_toArray, List.set_cons_zero, List.set_cons_succ, i64_w, i32_w]
    rfl
   refine pure_ (i := 15) (N := some 18) (v := undef) (a' := ?_) #[true, true, true, true, true, true, true, true, true, true, true, true, true, true, true, true, false, false, false] rfl rfl (any_of HT_.out (by kernel_rfl)) (fun _ _ _ h => h) (Or.inr ⟨by rfl, rfl⟩) ?_ ?_
   rotate_left
   ·simp only [Act.put, List.setIfInBounds_toArray, List.set_cons_zero, List.set_cons_succ, i64_w, i32_w]
    rfl
   refine pure_ (i := 16) (N := some 19) (v := undef) (a' := ?_) #[true, true, true, true, true, true, true, true, true, true, true, true, true, true, true, true, true, false, false] rfl rfl (any_of HT_.out (by kernel_rfl)) (fun _ _ _ h => h) (Or.inr ⟨by rfl, rfl⟩) ?_ ?_
   rotate_left
   ·simp only [Act.put, List.setIfInBounds_toArray, List.set_cons_zero, List.set_cons_succ, i64_w, i32_w]
    rfl
   refine pTT (i := 17) (N := some 20) HT_.out ?_
   refine pTT (i := 18) (N := some 2) HT_.out ?_
   refine done_ (done_of HT_.out (by kernel_rfl)) ?_
   try go_wp2
   go_ret
   exact ⟨by first | rfl | (simp [errW_none, errW_some] <;> rfl) | (simp [*, errW_none, errW_some] <;> rfl), by repeat (first | (with_reducible first | exact HB.out | apply below_alloc | apply pw_below_drewN | apply below_drew1 | refine below_set ?_ GE113.out) | exact HB.out)⟩
 ·replace c3 := Bool.eq_false_iff.mpr c3
  subst c3
  have H1 : (some false) = some r := by rw [if_neg (show ¬ (false = true) by decide)] at H; exact H
  clear H
  have H := H1
  clear H1
  obtain rfl := Option.some.inj H
  go_enter Try.func25, Try.ntmps25
  try go_wp2_with (first | ((with_reducible refine gate_dst (N := 1) rfl ?_); (try (refine gate_guard (by rfl) ?_; dsimp only)); refine bT (N := 1) (#[.int .i64 a0_0, .int .i64 a0_1, .int .i64 a0_2, .int .i64 a0_3, .slice A0_4 l0_4.length c0_4]) 26 ?_; intro gb113 hg w16 hbox hb; have n0_ := Aside0.mk (below_step (by repeat (first | (with_reducible first | exact HB.out | apply below_alloc | apply pw_below_drewN | apply below_drew1) | exact HB.out)) hb); have n1_ := Aside0.mk (hbox); have n2_ := Aside0.mk ((by rw [hg]; exact (below_size (by repeat (first | (with_reducible first | exact HB.out | apply below_alloc | apply pw_below_drewN | apply below_drew1) | exact HB.out))) : w.heap.size ≤ gb113)); have n3_ := Aside0.mk ((by rw [hg]; exact (below_size (by repeat (first | (with_reducible first | exact HB.out | apply below_alloc | apply pw_below_drewN | apply below_drew1) | exact HB.out))) : w.heap.size ≤ gb113)); clear HB; have HB := n0_; have BK113 := n1_; have GW113 := n2_; have GE113 := n3_; clear n0_ n1_ n2_ n3_; clear hb hbox hg))
  have n0_ := Aside0.mk (blk_drew BK113.out)
  have n1_ := Aside0.mk (below_drew1 HB.out)
  clear BK113
  clear HB
  have BK113 := n0_
  have HB := n1_
  clear n0_ n1_
  refine start_ (n := 19) (S := fun w' => w'.cell? ⟨gb113, 0, none⟩ = some (.int .i64 a0_0) ∧ w'.cell? ⟨gb113, 1, none⟩ = some (.int .i64 a0_1) ∧ w'.cell? ⟨gb113, 2, none⟩ = some (.int .i64 a0_2) ∧ w'.cell? ⟨gb113, 3, none⟩ = some (.int .i64 a0_3) ∧ w'.cell? ⟨gb113, 4, none⟩ = some (.slice A0_4 l0_4.length c0_4)) (ds := []) #[false, false, false, false, false, false, false, false, false, false, false, false, false, false, false, false, false, false, false] (by kernel_rfl) rfl rfl ⟨(blk_cell BK113.out 0).trans rfl, (blk_cell BK113.out 1).trans rfl, (blk_cell BK113.out 2).trans rfl, (blk_cell BK113.out 3).trans rfl, (blk_cell BK113.out 4).trans rfl⟩ (fun hHeld => ?_); refine with_tabW plane_Valid.tab1 plane_Valid.bits1 (fun HT_ HW_ => ?_)
  generalize w16.drew = w17 at BK113 HB hHeld ⊢
  refine pTT (i := 0) (N := some 3) HT_.out ?_
  refine take_ (i := 1) (N := some 4) (v := ?_) (a' := ?_) #[true, true, false, false, false, false, false, false, false, false, false, false, false, false, false, false, false, false, false] rfl rfl (take_ofW HT_.out HW_.out (by kernel_rfl)) (fun _ _ _ h => h) (Or.inl ⟨by rfl, ?_⟩) hHeld ?_ ?_
  rotate_left
  ·rintro w' ⟨s0, s1, s2, s3, s4⟩
   go_simp
   with_reducible rfl
  rotate_left
  ·simp only [Act.put, List.setIfInBounds_toArray, List.set_cons_zero, List.set_cons_succ, i64_w, i32_w]
   rfl
  refine one_ (i := 2) (N := some 5) #[true, true, true, false, false, false, false, false, false, false, false, false, false, false, false, false, false, false, false] rfl rfl (one_of HT_.out (by kernel_rfl)) (by decide) (fun K hK => ?_)
  refine goes_ Try.func31 (by kernel_rfl) rfl #[.agg #[.int .i64 a0_0, .int .i64 a0_1, .int .i64 a0_2, .int .i64 a0_3]] (by rfl) rfl rfl (by (try simp only [List.map_toArray, List.map_cons, List.map_nil]); first | done | rfl | (simp only [List.length_drop, List.length_take]; rfl)) ?_
  with_reducible refine (rect_Valid.calls a0_0 a0_1 a0_2 a0_3 false _ A2.out).mono ?_
  rintro e w18 ⟨rfl, hb⟩
  refine ⟨_, rfl, ?_⟩
  have n0_ := Aside0.mk (blk_below (g := gb113) (o := .cells #[.int .i64 a0_0, .int .i64 a0_1, .int .i64 a0_2, .int .i64 a0_3, .slice A0_4 l0_4.length c0_4] 26 (0, 0)) (by exact upK BK113.out) hb)
  have n1_ := Aside0.mk (below_step (by repeat (first | (with_reducible first | exact HB.out | apply below_alloc | apply pw_below_drewN | apply below_drew1 | refine below_set ?_ GE113.out) | exact HB.out)) hb)
  clear BK113
  clear HB
  have BK113 := n0_
  have HB := n1_
  clear n0_ n1_
  (try clear hb)
  (try clear hb2)
  (try clear hk)
  (try clear hi)
  refine hK.out _ _ ⟨(blk_cell BK113.out 0).trans rfl, (blk_cell BK113.out 1).trans rfl, (blk_cell BK113.out 2).trans rfl, (blk_cell BK113.out 3).trans rfl, (blk_cell BK113.out 4).trans rfl⟩ (fun hHeld => ?_)
  clear hK K
  refine nT ?_
  refine pTT (i := 3) (N := some 6) HT_.out ?_
  refine pure_ (i := 4) (N := some 7) (v := undef) (a' := ?_) #[true, true, true, true, true, false, false, false, false, false, false, false, false, false, false, false, false, false, false] rfl rfl (any_of HT_.out (by kernel_rfl)) (fun _ _ _ h => h) (Or.inr ⟨by rfl, rfl⟩) ?_ ?_
  rotate_left
  ·simp only [Act.put, List.setIfInBounds_toArray, List.set_cons_zero, List.set_cons_succ, i64_w, i32_w]
   rfl
  refine pure_ (i := 5) (N := some 8) (v := undef) (a' := ?_) #[true, true, true, true, true, true, false, false, false, false, false, false, false, false, false, false, false, false, false] rfl rfl (any_of HT_.out (by kernel_rfl)) (fun _ _ _ h => h) (Or.inr ⟨by rfl, rfl⟩) ?_ ?_
  rotate_left
  ·simp only [Act.put, List.setIfInBounds_toArray, List.set_cons_zero, List.set_cons_succ, i64_w, i32_w]
   rfl
  refine pure_ (i := 6) (N := some 9) (v := undef) (a' := ?_) #[true, true, true, true, true, true, true, false, false, false, false, false, false, false, false, false, false, false, false] rfl rfl (any_of HT_.out (by kernel_rfl)) (fun _ _ _ h => h) (Or.inr ⟨by rfl, rfl⟩) ?_ ?_
  rotate_left
  ·simp only [Act.put, List.setIfInBounds_toArray, List.set_cons_zero, List.set_cons_succ, i64_w, i32_w]
   rfl
  refine pure_ (i := 7) (N := some 10) (v := undef) (a' := ?_) #[true, true, true, true, true, true, true, true, false, false, false, false, false, false, false, false, false, false, false] rfl rfl (any_of HT_.out (by kernel_rfl)) (fun _ _ _ h => h) (Or.inr ⟨by rfl, rfl⟩) ?_ ?_
  rotate_left
  ·simp only [Act.put, List.setIfInBounds_toArray, List.set_cons_zero, List.set_cons_succ, i64_w, i32_w]
   rfl
  refine pTT (i := 8) (N := some 11) HT_.out ?_
  refine pTT (i := 9) (N := some 12) HT_.out ?_
  refine pure_ (i := 10) (N := some 13) (v := undef) (a' := ?_) #[true, true, true, true, true, true, true, true, true, true, true, false, false, false, false, false, false, false, false] rfl rfl (any_of HT_.out (by kernel_rfl)) (fun _ _ _ h => h) (Or.inr ⟨by rfl, rfl⟩) ?_ ?_
  rotate_left
  ·simp only [Act.put, List.setIfInBounds_toArray, List.set_cons_zero, List.set_cons_succ, i64_w, i32_w]
   rfl
  refine pure_ (i := 11) (N := some 14) (v := undef) (a' := ?_) #[true, true, true, true, true, true, true, true, true, true, true, true, false, false, false, false, false, false, false] rfl rfl (any_of HT_.out (by kernel_rfl)) (fun _ _ _ h => h) (Or.inr ⟨by rfl, rfl⟩) ?_ ?_
  rotate_left
  ·simp only [Act.put, List.setIfInBounds_toArray, List.set_cons_zero, List.set_cons_succ, i64_w, i32_w]
   rfl
  refine pure_ (i := 12) (N := some 15) (v := undef) (a' := ?_) #[true, true, true, true, true, true, true, true, true, true, true, true, true, false, false, false, false, false, false] rfl rfl (any_of HT_.out (by kernel_rfl)) (fun _ _ _ h => h) (Or.inr ⟨by rfl, rfl⟩) ?_ ?_
  rotate_left
  ·simp only [Act.put, List.setIfInBounds_toArray, List.set_cons_zero, List.set_cons_succ, i64_w, i32_w]
   rfl
  refine pure_ (i := 13) (N := some 16) (v := undef) (a' := ?_) #[true, true, true, true, true, true, true, true, true, true, true, true, true, true, false, false, false, false, false] rfl rfl (any_of HT_.out (by kernel_rfl)) (fun _ _ _ h => h) (Or.inr ⟨by rfl, rfl⟩) ?_ ?_
  rotate_left
  ·simp only [Act.put, List.setIfInBounds_toArray, List.set_cons_zero, List.set_cons_succ, i64_w, i32_w]
   rfl
  refine pure_ (i := 14) (N := some 17) (v := undef) (a' := ?_) #[true, true, true, true, true, true, true, true, true, true, true, true, true, true, true, false, false, false, false] rfl rfl (any_of HT_.out (by kernel_rfl)) (fun _ _ _ h => h) (Or.inr ⟨by rfl, rfl⟩) ?_ ?_
  rotate_left
  ·simp only [Act.put, List.setIfInBounds_toArray, List.set_cons_zero, List.set_cons_succ, i64_w, i32_w]
   rfl
  refine pure_ (i := 15) (N := some 18) (v := undef) (a' := ?_) #[true, true, true, true, true, true, true, true, true, true, true, true, true, true, true, true, false, false, false] rfl rfl (any_of HT_.out (by kernel_rfl)) (fun _ _ _ h => h) (Or.inr ⟨by rfl, rfl⟩) ?_ ?_
  rotate_left
  ·simp only [Act.put, List.setIfInBounds_toArray, List.set_cons_zero, List.set_cons_succ, i64_w, i32_w]
   rfl
  refine pure_ (i := 16) (N := some 19) (v := undef) (a' := ?_) #[true, true, true, true, true, true, true, true, true, true, true, true, true, true, true, true, true, false, false] rfl rfl (any_of HT_.out (by kernel_rfl)) (fun _ _ _ h => h) (Or.inr ⟨by rfl, rfl⟩) ?_ ?_
  rotate_left
  ·simp only [Act.put, List.setIfInBounds_toArray, List.set_cons_zero, List.set_cons_succ, i64_w, i32_w]
   rfl
  refine pTT (i := 17) (N := some 20) HT_.out ?_
  refine pTT (i := 18) (N := some 2) HT_.out ?_
  refine done_ (done_of HT_.out (by kernel_rfl)) ?_
  try go_wp2
  go_ret
  exact ⟨by first | rfl | (simp [errW_none, errW_some] <;> rfl) | (simp [*, errW_none, errW_some] <;> rfl), by repeat (first | (with_reducible first | exact HB.out | apply below_alloc | apply pw_below_drewN | apply below_drew1 | refine below_set ?_ GE113.out) | exact HB.out)⟩
end Go.Proofs.Ytcnpekpgghppnaa.Q
namespace Go.Proofs.Ytcnpekpgghppnaa.Q
open Go.RowKit Go.Proofs.YtcnpekpgghppnaaW.PrintWords Go.Proofs.YtcnpekpgghppnaaW.PrintLast Go.Proofs.YtcnpekpgghppnaaW.PrintMore
attribute [local go_sem] max2_int min2_int max_two min_two max_three min_three max_four min_four
set_option linter.unusedVariables false
set_option linter.unusedSimpArgs false
def plane_width.f (a0_0 : Int) (a0_1 : Int) (a0_2 : Int) (a0_3 : Int) (l0_4 : List Int) : Option (Int) := some (wrap64 (a0_2 - a0_0))
set_option maxHeartbeats 8000000 in
set_option maxRecDepth 100000 in
theorem plane_width.calls (a0_0 : Int) (a0_1 : Int) (a0_2 : Int) (a0_3 : Int) (A0_4 : Option Addr) (c0_4 : Nat) (l0_4 : List Int) (r : Int) (w : World) (hr0_4 : Kd.C (Kd.int .i64) w A0_4 l0_4.length l0_4) (hc0_4 : l0_4.length ≤ c0_4) (h : plane_width.f a0_0 a0_1 a0_2 a0_3 l0_4 = some r) :
  Calls Try.prog 65 #[.agg #[.int .i64 a0_0, .int .i64 a0_1, .int .i64 a0_2, .int .i64 a0_3, .slice A0_4 l0_4.length c0_4]] w fun e w' => e = .returned (.int .i64 r) ∧ Below w.heap.size w w' := by
 have hu26 := Try.underlying26
 have HR0_4 := Aside0.mk hr0_4
 have HC0_4 := Aside0.mk hc0_4
 clear hr0_4 hc0_4
 have HB := Aside0.mk (Below.refl w.heap.size w)
 have H : (some (wrap64 (a0_2 - a0_0))) = some r := h
 clear h
 obtain rfl := Option.some.inj H
 go_enter Try.func65, Try.ntmps65
 go_wp2_with (first | ((with_reducible refine gate_dst (N := 1) rfl ?_); refine bT (N := 1) (#[.int .i64 a0_0, .int .i64 a0_1, .int .i64 a0_2, .int .i64 a0_3, .slice A0_4 l0_4.length c0_4]) 26 ?_; intro gb121 hg w2 hbox hb; have n0_ := Aside0.mk (below_step (by repeat (first | (with_reducible first | exact HB.out | apply below_alloc | apply pw_below_drewN | apply below_drew1) | exact HB.out)) hb); have n1_ := Aside0.mk (hbox); have n2_ := Aside0.mk ((by rw [hg]; exact (below_size (by repeat (first | (with_reducible first | exact HB.out | apply below_alloc | apply pw_below_drewN | apply below_drew1) | exact HB.out))) : w.heap.size ≤ gb121)); have n3_ := Aside0.mk ((by rw [hg]; exact (below_size (by repeat (first | (with_reducible first | exact HB.out | apply below_alloc | apply pw_below_drewN | apply below_drew1) | exact HB.out))) : w.heap.size ≤ gb121)); clear HB; have HB := n0_; have BK121 := n1_; have GW121 := n2_; have GE121 := n3_; clear n0_ n1_ n2_ n3_; clear hb hbox hg; have hcz3_0 : w2.cell? ⟨gb121, 0, none⟩ = some (.int .i64 a0_0) := (blk_cell BK121.out 0).trans rfl; have hcz3_1 : w2.cell? ⟨gb121, 1, none⟩ = some (.int .i64 a0_1) := (blk_cell BK121.out 1).trans rfl; have hcz3_2 : w2.cell? ⟨gb121, 2, none⟩ = some (.int .i64 a0_2) := (blk_cell BK121.out 2).trans rfl; have hcz3_3 : w2.cell? ⟨gb121, 3, none⟩ = some (.int .i64 a0_3) := (blk_cell BK121.out 3).trans rfl; have hcz3_4 : w2.cell? ⟨gb121, 4, none⟩ = some (.slice A0_4 l0_4.length c0_4) := (blk_cell BK121.out 4).trans rfl; have hfz3_0 := blk_frozen BK121.out 0; have hfz3_1 := blk_frozen BK121.out 1; have hfz3_2 := blk_frozen BK121.out 2; have hfz3_3 := blk_frozen BK121.out 3; have hfz3_4 := blk_frozen BK121.out 4))
 go_ret
 exact ⟨by first | rfl | (simp [errW_none, errW_some] <;> rfl) | (simp [*, errW_none, errW_some] <;> rfl), by repeat (first | (with_reducible first | exact HB.out | apply below_alloc | apply pw_below_drewN | apply below_drew1 | refine below_set ?_ GE121.out) | exact HB.out)⟩
end Go.Proofs.Ytcnpekpgghppnaa.Q
namespace Go.Proofs.Ytcnpekpgghppnaa.Q
open Go.RowKit Go.Proofs.YtcnpekpgghppnaaW.PrintWords Go.Proofs.YtcnpekpgghppnaaW.PrintLast Go.Proofs.YtcnpekpgghppnaaW.PrintMore
set_option linter.unusedVariables false
set_option linter.unusedSimpArgs false
theorem Bks.grown1 {α : Type} {d : Kd α} {e : Nat} {n : Nat} {w0 W W' : World} {g t : Nat} {cs : Array Value} (h : Bks n w0 W [(g, t, cs)]) {base : Nat} {ok : Nat → Prop} {v : Value} {xs : List α} (hR : d.R e W base ok v xs) (hg : W.grownBy W' v.ownBlock) (hb : Below n w0 W') (h1 : e ≠ t) : Bks n w0 W' [(g, t, cs)] :=
 ⟨fun i b hi => blk_grown (h.blk i b hi) hg (Kd.R_ne hR (h.blk i b hi) (by
  match i, hi with
  | 0, hi => cases hi; exact h1
  | i + 1, hi => simp at hi)), h.ne, h.ge, hb⟩
/-- A valid plane. -/
def PV (x0 y0 x1 y1 : Int) (D : List Int) : Prop := (0 ≤ x0 ∧ x0 ≤ x1 ∧ x1 ≤ 4096) ∧ (0 ≤ y0 ∧ y0 ≤ y1 ∧ y1 ≤ 4096) ∧ (x1 - x0) * (y1 - y0) ≤ 1048576 ∧ (D.length : Int) = (x1 - x0) * (y1 - y0)
theorem PV.valid {x0 y0 x1 y1 : Int} {D : List Int} (h : PV x0 y0 x1 y1 D) : plane_Valid.f x0 y0 x1 y1 D = some true := by
 obtain ⟨⟨a1, a2, a3⟩, ⟨b1, b2, b3⟩, h3, h4⟩ := h
 have hv : rect_Valid.f x0 y0 x1 y1 = some true := by
  unfold rect_Valid.f
  rw [if_pos a1, if_pos a2, if_pos a3, if_pos b1, if_pos b2, decide_eq_true b3]
 have hnn : 0 ≤ (x1 - x0) * (y1 - y0) := Int.mul_nonneg (by omega) (by omega)
 have ha : rect_Area.f x0 y0 x1 y1 = some ((x1 - x0) * (y1 - y0)) := by
  unfold rect_Area.f
  rw [hv]
  simp only [Option.bind_some, if_true]
  rw [show wrap64 (x1 - x0) = x1 - x0 by unfold wrap64; omega, show wrap64 (y1 - y0) = y1 - y0 by unfold wrap64; omega]
  congr 1
  generalize (x1 - x0) * (y1 - y0) = m at *
  unfold wrap64
  omega
 unfold plane_Valid.f
 rw [hv, ha]
 simp only [Option.bind_some, if_true]
 rw [if_pos h3, h4]
 simp
/-- A column: each w-th number from i on. -/
def colF (w : Int) (D : List Int) : Nat → Int → List Int → Option (List Int)
 | 0, _, _ => none
 | k + 1, i, acc => if i < (D.length : Int) then (if 0 ≤ i then (if acc.length < 1000000 then colF w D k (wrap64 (i + w)) (acc ++ [rd D i]) else none) else none) else some acc
set_option maxHeartbeats 8000000 in
set_option maxRecDepth 100000 in
theorem plane_Column.good (k : Nat) (x0 y0 x1 y1 : Int) (A : Option Addr) (c : Nat) (D : List Int) (x : Int) (col : List Int) (w : World) (hr : Kd.C (Kd.int .i64) w A D.length D) (hc : D.length ≤ c) (hv : PV x0 y0 x1 y1 D) (hx0 : x0 ≤ x) (hx1 : x < x1) (h : colF (x1 - x0) D k (x - x0) [] = some col) :
  Calls Try.prog 62 #[.agg #[.int .i64 x0, .int .i64 y0, .int .i64 x1, .int .i64 y1, .slice A D.length c], .int .i64 x] w fun e w' => ∃ v, e = .returned (.tuple #[v, .bool true]) ∧ Kd.R (Kd.int .i64) 3 w' w.heap.size (fun _ => True) v col ∧ Below w.heap.size w w' := by
 have H := Aside0.mk h
 have HR := Aside0.mk hr
 have HC := Aside0.mk hc
 have HV := Aside0.mk hv.valid
 have hw : wrap64 (x1 - x0) = x1 - x0 := by have := hv.1; unfold wrap64; omega
 have hx : wrap64 (x - x0) = x - x0 := by have := hv.1; unfold wrap64; omega
 have hy : wrap64 (y1 - y0) = y1 - y0 := by have := hv.2.1; unfold wrap64; omega
 have HW := Aside0.mk (show plane_width.f x0 y0 x1 y1 D = some (x1 - x0) by unfold plane_width.f; rw [hw])
 have HY := Aside0.mk (show 0 ≤ wrap64 (y1 - y0) ∧ wrap64 (y1 - y0) ≤ 4096 by have := hv.2.1; omega)
 have b0 : decide (x < x0) = false := decide_eq_false (by omega)
 have b1 : decide (x ≥ x1) = false := decide_eq_false (by omega)
 have b2 : decide (x1 ≤ x) = false := decide_eq_false (by omega)
 clear h hr hc hv hx0 hx1 hw
 have K00 := Aside0.mk (Bks.nil w)
 go_enter Try.func62, Try.ntmps62
 go_wp2_with (first
  | ((with_reducible refine gate_dst (N := 2) rfl ?_); refine bT (N := 2) (#[.int .i64 x0, .int .i64 y0, .int .i64 x1, .int .i64 y1, .slice A D.length c]) 26 ?_; intro g2 hg W2 hbox hb; have K := Aside0.mk (K00.out.box (Nat.le_refl _) hg hbox hb); clear hg hbox hb K00)
  | ((with_reducible refine gate_dst (N := 8) rfl ?_); refine load_ev rfl 26 (.tmp 2) rfl rfl (K.out.get 0 rfl) Try.underlying26 rfl ?_)
  | (go_at_call 25; (with_reducible refine (plane_Valid.calls x0 y0 x1 y1 A c D true _ (Kd.C_below HR.out K.out.below) HC.out HV.out).mono ?_); rintro _ w1 ⟨rfl, b⟩; replace K := Aside0.mk (K.out.call (below_size K.out.below) b); clear b; have f0 : w1.cell? ⟨g2, 0, none⟩ = some (.int .i64 x0) := K.out.cell 0 rfl 0 rfl; have f1 : w1.cell? ⟨g2, 1, none⟩ = some (.int .i64 y0) := K.out.cell 0 rfl 1 rfl; have f2 : w1.cell? ⟨g2, 2, none⟩ = some (.int .i64 x1) := K.out.cell 0 rfl 2 rfl; have f3 : w1.cell? ⟨g2, 3, none⟩ = some (.int .i64 y1) := K.out.cell 0 rfl 3 rfl; have f4 : w1.cell? ⟨g2, 4, none⟩ = some (.slice A D.length c) := K.out.cell 0 rfl 4 rfl)
  | ((with_reducible refine gate_dst (N := 32) rfl ?_); refine Kd.R_make_cap (Kd.int .i64) (w0 := w1) w1.heap.size 3 rfl (N := 32) rfl 24 (.const (.int .i64 0)) (.tmp 31) rfl .i64 .i64 0 (wrap64 (y1 - y0)) rfl rfl Try.underlying24 (.int .i64 0) 8 info3 rfl (by decide) (by omega) (0 : Int) (okp := fun _ => False) (ok := fun _ => True) rfl (fun _ h => h.elim) trivial (by omega) (by have := HY.out; omega) (by have := HY.out; omega) (Below.refl _ _) (Nat.le_refl _) ?_; intro v6 w3 ho hb hg hat; have HL := Aside0.mk (Kd.R_lower ho (below_size K.out.below)); replace K := Aside0.mk (K.out.call (below_size K.out.below) hb); clear ho hb hat hg f0 f1 f2 f3 f4; have f0 : w3.cell? ⟨g2, 0, none⟩ = some (.int .i64 x0) := K.out.cell 0 rfl 0 rfl))
 clear b0 b1 b2 HV hy HY f0
 go_loopg [6, 7] k (fun kq v6 v7 w' => ∃ (i : Int) (acc : List Int), v7 = .int .i64 i ∧ Aside0 (colF (x1 - x0) D kq i acc = some col) ∧ Aside0 (Bks w.heap.size w w' [(g2, 26, #[.int .i64 x0, .int .i64 y0, .int .i64 x1, .int .i64 y1, .slice A D.length c])]) ∧ Aside0 (Kd.R (Kd.int .i64) 3 w' w.heap.size (fun _ => True) v6 acc))
 case atStart => exact ⟨_, [], by rw [hx], H, K, HL⟩
 case round =>
 clear H K HL hx
 obtain ⟨i, acc, rfl, HX, K, HL⟩ := hrel
 cases gk with
 | zero => exact absurd HX.out (by simp [colF])
 | succ kk =>
 have hs := HX.out
 clear HX
 rw [colF.eq_2] at hs
 have f4 : wr.cell? ⟨g2, 4, none⟩ = some (.slice A D.length c) := K.out.cell 0 rfl 4 rfl
 by_cases hi : i < (D.length : Int)
 rotate_left
 ·rw [if_neg hi] at hs
  have hb0 : decide (i < (D.length : Int)) = false := decide_eq_false hi
  obtain rfl := Option.some.inj hs
  clear hs hi
  go_wp2
  go_ret2
  exact ⟨_, rfl, HL.out, K.out.below⟩
 rw [if_pos hi] at hs
 by_cases hi0 : 0 ≤ i
 rotate_left
 ·rw [if_neg hi0] at hs
  cases hs
 rw [if_pos hi0] at hs
 by_cases hlim : acc.length < 1000000
 rotate_left
 ·rw [if_neg hlim] at hs
  cases hs
 rw [if_pos hlim] at hs
 have HX := Aside0.mk hs
 have HLIM := Aside0.mk hlim
 obtain ⟨ad, e0, hx⟩ := Kd.at_int (Kd.C_below HR.out K.out.below) i hi0 hi
 subst e0
 have hb0 : decide (i < (D.length : Int)) = true := decide_eq_true hi
 have p0 : (0 ≤ i) = True := eq_true hi0
 have p1 : (i < (D.length : Int)) = True := eq_true hi
 clear hs hi hi0 hlim
 obtain ⟨A6, c6, rfl⟩ := Kd.R_slice HL.out
 go_wp2_with (first
  | ((with_reducible refine gate_builtin (b := .append) (xs := #[.tmp 47, .tmp 53]) rfl ?_); at_builtin; refine Kd.R_append (Kd.int .i64) (w0 := w) w.heap.size rfl (.tmp 47) (.tmp 53) 24 3 (.int .i64 0) 8 rfl Try.underlying24 info3 rfl (by decide) (by omega) (.slice A6 acc.length c6) acc (rd D i) [.int .i64 (rd D i)] (fun _ => True) (fun _ => False) rfl rfl ?aP (fun _ hk => hk.elim) ?aF ?aO ?aB ?aS ?aL ?_; (case aP => exact rfl); (case aF => exact fun k hk => trivial); (case aO => exact HL.out); (case aB => exact K.out.below); (case aS => exact below_size K.out.below); (case aL => have := HLIM.out; omega); intro v2 w7 ho hb hg hat; have K5 := Aside0.mk (K.out.grown1 HL.out hg hb (by decide)); have HL5 := Aside0.mk ho; clear K HL ho hb hg hat f4 hx; have K := K5; have HL := HL5; clear K5 HL5)
  | ((with_reducible refine gate_dst (N := 44) rfl ?_); refine load_ev rfl 26 (.tmp 2) rfl rfl (K.out.get 0 rfl) Try.underlying26 rfl ?_)
  | (go_at_call 65; (with_reducible refine (plane_width.calls x0 y0 x1 y1 (some ad) c D (x1 - x0) _ (Kd.C_below HR.out K.out.below) HC.out HW.out).mono ?_); rintro _ w9 ⟨rfl, b⟩; replace HL := Aside0.mk (Kd.R_below HL.out b); replace K := Aside0.mk (K.out.call (below_size K.out.below) b); clear b))
 go_roundg kk
 case measure => omega
 case rel => exact ⟨_, _, rfl, HX, K, HL⟩
theorem cell_set_ne {W : World} {g o a j : Nat} (hga : g ≠ a) (u : Value) : (W.setCell ⟨a, j, none⟩ u).cell? ⟨g, o, none⟩ = W.cell? ⟨g, o, none⟩ := by
 have h := Below.heap_setCell W ⟨a, j, none⟩ u g hga
 unfold World.cell?
 rw [h]
/-- The place of the i-th number of a column. -/
def colAt (x x0 w i : Int) : Int := wrap64 (wrap64 (wrap64 (i * w) + x) - x0)
def setF (x x0 w : Int) (col : List Int) : Nat → Int → List Int → Option (List Int)
 | 0, _, _ => none
 | k + 1, i, D => if i < (col.length : Int) then (if 0 ≤ i then (if 0 ≤ colAt x x0 w i ∧ colAt x x0 w i < (D.length : Int) then setF x x0 w col k (wrap64 (i + 1)) (D.set (colAt x x0 w i).toNat (rd col i)) else none) else none) else some D
set_option maxHeartbeats 8000000 in
set_option maxRecDepth 100000 in
theorem dwt_setColumn.good (k g o a n c : Nat) (x0 x1 : Int) (D D' : List Int) (x : Int) (A : Option Addr) (cc : Nat) (col : List Int) (base base2 : Nat) (ok : Nat → Prop) (w0 w : World)
  (hce : w.cell? ⟨g, o, none⟩ = some (.int .i64 x0) ∧ w.cell? ⟨g, o + 2, none⟩ = some (.int .i64 x1) ∧ w.cell? ⟨g, o + 4, none⟩ = some (.slice (some ⟨a, 0, none⟩) n c)) (hga : g ≠ a) (hr : Kd.R (Kd.int .i64) 3 w base ok (.slice (some ⟨a, 0, none⟩) n c) D) (hcol : Kd.R (Kd.int .i64) 3 w base2 (fun k => k ≠ a) (.slice A col.length cc) col) (hB : Below base w0 w) (h : setF x x0 (wrap64 (x1 - x0)) col k 0 D = some D') :
  Calls Try.prog 63 #[.pointer (some ⟨g, o, none⟩), .int .i64 x, .slice A col.length cc] w fun e w' => e = .returned (.tuple #[]) ∧ Kd.R (Kd.int .i64) 3 w' base ok (.slice (some ⟨a, 0, none⟩) n c) D' ∧ Kept w w' (fun k => k = a) ∧ Below base w0 w' := by
 have H := Aside0.mk h
 have HCE := Aside0.mk hce
 have HL := Aside0.mk hr
 have HC := Aside0.mk hcol
 have HB := Aside0.mk hB
 have HK := Aside0.mk (Kept.refl w (fun k => k = a))
 have HA := Aside0.mk (And.intro hga (show base ≤ a from Kd.R_base hr a rfl))
 have HN := Aside0.mk (show n = D.length from (Kd.R_reads' hr).1)
 clear h hce hr hcol hB hga
 go_enter Try.func63, Try.ntmps63
 go_upto_region 0 with (fail)
 go_cut [6] (fun v6 wc => v6 = .int .i64 (wrap64 (x1 - x0)) ∧ wc = w.drew)
 case first =>
  refine start_ (n := 12) (S := fun w' => w'.cell? ⟨g, o, none⟩ = some (.int .i64 x0) ∧ w'.cell? ⟨g, o + 2, none⟩ = some (.int .i64 x1) ∧ w'.cell? ⟨g, o + 4, none⟩ = some (.slice (some ⟨a, 0, none⟩) n c)) (ds := []) #[false, false, false, false, false, false, false, false, false, false, false, false] (by kernel_rfl) rfl rfl HCE.out (fun hHeld0 => ?_)
  generalize hw1 : w.drew = w1 at *
  clear hw1
  have hHeld := Aside0.mk hHeld0
  clear hHeld0
  refine pT (i := 0) (N := some 9) ?_
  refine pT (i := 1) (N := some 10) ?_
  refine pT (i := 2) (N := some 11) ?_
  refine pT (i := 3) (N := some 12) ?_
  refine tT (i := 4) (N := some 13) (v := ?_) hHeld.out ?_
  refine pT (i := 5) (N := some 14) ?_
  refine pT (i := 6) (N := some 15) ?_
  refine pT (i := 7) (N := some 16) ?_
  refine pT (i := 8) (N := some 17) ?_
  refine tT (i := 9) (N := some 18) (v := ?_) hHeld.out ?_
  refine pT (i := 10) (N := some 19) ?_
  refine pT (i := 11) (N := some 6) ?_
  refine done_ (by kernel_rfl) ?_
  clear hHeld
  go_wp2
  go_meet
  case rel => exact ⟨rfl, rfl⟩
 case rest =>
 obtain ⟨rfl, rfl⟩ := hcut
 have HCE' := Aside0.mk (show w.drew.cell? ⟨g, o, none⟩ = some (.int .i64 x0) ∧ w.drew.cell? ⟨g, o + 2, none⟩ = some (.int .i64 x1) ∧ w.drew.cell? ⟨g, o + 4, none⟩ = some (.slice (some ⟨a, 0, none⟩) n c) from HCE.out)
 have HL' := Aside0.mk (Kd.R_drew HL.out)
 have HC' := Aside0.mk (Kd.R_drew HC.out)
 have HB' := Aside0.mk (below_drew1 HB.out)
 have HK' := Aside0.mk HK.out.drew
 clear HCE HL HC HB HK
 go_wp2
 go_loopg [22] k (fun kq v22 w' => ∃ (i : Int) (E : List Int), v22 = .int .i64 i ∧ Aside0 (n = E.length) ∧ Aside0 (setF x x0 (wrap64 (x1 - x0)) col kq i E = some D') ∧ Aside0 (w'.cell? ⟨g, o, none⟩ = some (.int .i64 x0) ∧ w'.cell? ⟨g, o + 2, none⟩ = some (.int .i64 x1) ∧ w'.cell? ⟨g, o + 4, none⟩ = some (.slice (some ⟨a, 0, none⟩) n c)) ∧ Aside0 (Kd.R (Kd.int .i64) 3 w' base ok (.slice (some ⟨a, 0, none⟩) n c) E) ∧ Aside0 (Kd.R (Kd.int .i64) 3 w' base2 (fun k => k ≠ a) (.slice A col.length cc) col) ∧ Aside0 (Kept w w' (fun k => k = a)) ∧ Aside0 (Below base w0 w'))
 case atStart => exact ⟨0, D, rfl, HN, H, HCE', HL', HC', HK', HB'⟩
 case round =>
 clear H HN HCE' HL' HC' HB' HK'
 obtain ⟨i, E, rfl, HN, HX, HCE, HL, HC, HK, HB⟩ := hrel
 cases gk with
 | zero => exact absurd HX.out (by simp [setF])
 | succ kk =>
 have hs := HX.out
 clear HX
 rw [setF.eq_2] at hs
 by_cases hi : i < (col.length : Int)
 rotate_left
 ·rw [if_neg hi] at hs
  have hb0 : decide (i < (col.length : Int)) = false := decide_eq_false hi
  obtain rfl := Option.some.inj hs
  clear hs hi
  go_wp2
  go_end0
  exact ⟨rfl, HL.out, HK.out, HB.out⟩
 rw [if_pos hi] at hs
 by_cases hi0 : 0 ≤ i
 rotate_left
 ·rw [if_neg hi0] at hs
  cases hs
 rw [if_pos hi0] at hs
 by_cases hj : 0 ≤ colAt x x0 (wrap64 (x1 - x0)) i ∧ colAt x x0 (wrap64 (x1 - x0)) i < (E.length : Int)
 rotate_left
 ·rw [if_neg hj] at hs
  cases hs
 rw [if_pos hj] at hs
 have HX := Aside0.mk hs
 have hb0 : decide (i < (col.length : Int)) = true := decide_eq_true hi
 obtain ⟨ad, e0, hx⟩ := Kd.at_int (Kd.R_reads' HC.out).2.2 i hi0 hi
 subst e0
 have p0 : (0 ≤ i) = True := eq_true hi0
 have p1 : (i < (col.length : Int)) = True := eq_true hi
 obtain ⟨hj0, hj1⟩ := hj
 rw [← HN.out] at hj1
 have q0 : (0 ≤ wrap64 (wrap64 (wrap64 (i * wrap64 (x1 - x0)) + x) - x0)) = True := eq_true hj0
 have q1 : (wrap64 (wrap64 (wrap64 (i * wrap64 (x1 - x0)) + x) - x0) < (n : Int)) = True := eq_true hj1
 have q2 : ((wrap64 (wrap64 (wrap64 (i * wrap64 (x1 - x0)) + x) - x0)).toNat < n) = True := eq_true (by have h1 : 0 ≤ colAt x x0 (wrap64 (x1 - x0)) i := hj0; have h2 : colAt x x0 (wrap64 (x1 - x0)) i < (n : Int) := hj1; show (colAt x x0 (wrap64 (x1 - x0)) i).toNat < n; omega)
 clear hs hi hi0
 go_wp2
 have HCE' := Aside0.mk (show wr.drew.cell? ⟨g, o, none⟩ = some (.int .i64 x0) ∧ wr.drew.cell? ⟨g, o + 2, none⟩ = some (.int .i64 x1) ∧ wr.drew.cell? ⟨g, o + 4, none⟩ = some (.slice (some ⟨a, 0, none⟩) n c) from HCE.out)
 have HL' := Aside0.mk (Kd.R_drew HL.out)
 have HC' := Aside0.mk (Kd.R_drew HC.out)
 have HB' := Aside0.mk (below_drew1 HB.out)
 have HK' := Aside0.mk HK.out.drew
 clear HCE HL HC HB HK hx
 have HCE := HCE'
 have HL := HL'
 have HC := HC'
 have HB := HB'
 have HK := HK'
 clear HCE' HL' HC' HB' HK'
 have hxd : True := trivial
 refine start_ (n := 18) (S := fun w' => w'.cell? ⟨g, o, none⟩ = some (.int .i64 x0) ∧ w'.cell? ⟨g, o + 2, none⟩ = some (.int .i64 x1) ∧ w'.cell? ⟨g, o + 4, none⟩ = some (.slice (some ⟨a, 0, none⟩) n c)) (ds := [17]) #[false, false, false, false, false, false, false, false, false, false, false, false, false, false, false, false, false, false] (by kernel_rfl) rfl rfl HCE.out (fun hHeld0 => ?_)
 generalize hw2 : wr.drew = w2 at *
 clear hw2
 have hHeld := Aside0.mk hHeld0
 clear hHeld0
 refine pT (i := 0) (N := some 27) ?_
 refine pT (i := 1) (N := some 28) ?_
 refine pT (i := 2) (N := some 29) ?_
 refine tT (i := 3) (N := some 30) (v := ?_) hHeld.out ?_
 refine pT (i := 4) (N := some 31) ?_
 refine pT (i := 5) (N := some 32) ?_
 refine pT (i := 6) (N := some 33) ?_
 refine pT (i := 7) (N := some 34) ?_
 refine pT (i := 8) (N := some 35) ?_
 refine pT (i := 9) (N := some 36) ?_
 refine pT (i := 10) (N := some 37) ?_
 refine pT (i := 11) (N := some 38) ?_
 refine pT (i := 12) (N := some 39) ?_
 refine tT (i := 13) (N := some 40) (v := ?_) hHeld.out ?_
 refine pT (i := 14) (N := some 41) ?_
 refine pT (i := 15) (N := some 42) ?_
 refine pT (i := 16) (N := some 43) ?_
 refine last_ (i := 17) (N := none) #[true, true, true, true, true, true, true, true, true, true, true, true, true, true, true, true, true, true] rfl rfl (by kernel_rfl) (by decide) (fun KC hK => ?_)
 obtain ⟨hc9, hz9⟩ := Kd.R_celln (0 : Int) HL.out (colAt x x0 (wrap64 (x1 - x0)) i) hj0 hj1
 replace hc9 : w2.cell? ⟨a, (wrap64 (wrap64 (wrap64 (i * wrap64 (x1 - x0)) + x) - x0)).toNat, none⟩ = some (.int .i64 (rd E (colAt x x0 (wrap64 (x1 - x0)) i))) := hc9
 replace hz9 : w2.frozen? ⟨a, (wrap64 (wrap64 (wrap64 (i * wrap64 (x1 - x0)) + x) - x0)).toNat, none⟩ = false := hz9
 refine skip_ (w1 := ?_) (by rfl) rfl ?_ ?_
 rotate_left
 ·go_simp
  rfl
 refine hK.out _ _ ?_
 clear hK KC
 refine done_ (by kernel_rfl) ?_
 clear hHeld hc9 hz9
 go_wp2
 go_roundg kk
 case measure => omega
 case rel => exact ⟨_, _, rfl, ⟨by rw [List.length_set]; exact HN.out⟩, HX, ⟨(cell_set_ne HA.out.1 _).trans HCE.out.1, (cell_set_ne HA.out.1 _).trans HCE.out.2.1, (cell_set_ne HA.out.1 _).trans HCE.out.2.2⟩, ⟨Kd.R_putn HL.out _ _⟩, ⟨Kd.R_far HC.out (fun k hk => hk) _⟩, ⟨HK.out.setCell (.inl rfl) _⟩, ⟨HB.out.setCell HA.out.2 _⟩⟩
end Go.Proofs.Ytcnpekpgghppnaa.Q
namespace Go.Proofs.YtcnpekpgghppnaaW.PrintWords
open Go Go.RowKit
section
variable {P : Program}
theorem cut_own (t e : TypeId) {i : TypeInfo} (ht : P.underlying t = some (.slice e)) (hi : P.info? e = some i) (hsz : i.size = 1) (A : Option Addr) (n c : Nat) (a b : Int) (h0 : 0 ≤ a) (h1 : a ≤ b) (hm : b ≤ n) (hc : n ≤ c) :
    ∃ D : Option Addr, (0 < b.toNat - a.toNat → D = A.map (·.add a.toNat)) ∧ ∀ W : World, (Instr.slice t (.slice A n c) (some (.int .i64 a)) (some (.int .i64 b)) none).run P W = .ok (.slice D (b.toNat - a.toNat) (c - a.toNat)) W := by
  refine ⟨if c = a.toNat then A else A.map (·.add a.toNat), fun h => if_neg (by omega), fun W => ?_⟩
  have hel : P.elem t = e := by simp [Program.elem, ht]
  have hu : P.underlying t = some (.slice (P.elem t)) := by rw [hel]; exact ht
  rw [run_slice_lh W t A n c hu .i64 .i64 a b h0 h1 (by omega), hel]
  simp [sizeOf, typeInfo, hi, hsz, sliced, Result.andThen]
theorem take_splice {α : Type} (cur cs : List α) (N off : Nat) (h1 : off + cs.length ≤ N) (h2 : N ≤ cur.length) : (cur.take off ++ (cs ++ cur.drop (off + cs.length))).take N = (cur.take N).take off ++ (cs ++ (cur.take N).drop (off + cs.length)) := by
  have hA : (cur.take off).length = off := by rw [List.length_take]; omega
  rw [List.take_append, List.take_append, hA, List.take_take, List.take_take, List.drop_take, Nat.min_eq_right (by omega), Nat.min_eq_left (by omega), List.take_of_length_le (by omega : cs.length ≤ N - off), Nat.sub_sub]
theorem map_add0 (A : Option Addr) : A = A.map (·.add 0) := by cases A <;> simp [Addr.add]
theorem splice_nil {α : Type} (xs : List α) (off : Nat) : splice xs off [] = xs := by simp [splice]
theorem step_copyR {ops : Array Oper} {o : Oper} {a : Act} {w : World} {K : Act → World → Prop} {Q : Exit → Act → World → Prop} {E : Prop} (hgd : o.guard = none) (d s : Operand) (dT sT : TypeId)
    (ho : o.op = .call { callee := .builtin .copy, args := #[d, s], argTypes := #[dT, sT] }) {elem : TypeId} (hu : P.underlying dT = some (.slice elem)) (hsz : (P.info? elem).map (·.size) = some 1)
    {base : Nat} {ok : Nat → Prop} {A : Option Addr} {n cap : Nat} {xs ys : List Int} (HO : Kd.R (Kd.int .i64) elem w base ok (.slice A n cap) xs) (off m dcap : Nat) {D : Option Addr} (hD : 0 < m → D = A.map (·.add off)) (hto : off + m ≤ n)
    {sp : Option Addr} {sCap : Nat} (HR : Kd.C (Kd.int .i64) w sp ys.length ys)
    (hd : a.eval d = .slice D m dcap) (hs : a.eval s = .slice sp ys.length sCap)
    (h : ∀ w', Kd.R (Kd.int .i64) elem w' base ok (.slice A n cap) (splice xs off (ys.take m)) → w.grownBy w' (Value.slice A n cap).ownBlock → K (a.put o.dst (goInt (Nat.min ys.length m))) w') :
    if Region.wanted o (yielded ops a.tmps) = true then Oper.wp P o a w K Q else E := by
  have hw : Region.wanted o (yielded ops a.tmps) = true := by simp [Region.wanted, hgd]
  rw [if_pos hw]
  have hown := Kd.own_of_R HO
  have hokv := HO.1
  by_cases h0 : Nat.min ys.length m = 0
  · have hrun := run_copy_none (P := P) w dT sT o.type elem D sp m dcap ys.length sCap hu hsz h0
    have ht : ys.take m = [] := by
      apply List.eq_nil_of_length_eq_zero
      rw [List.length_take]
      simpa [Nat.min_comm] using h0
    have hk := h w (by rw [ht, splice_nil]; exact HO) ⟨rfl, rfl, rfl, Nat.le_refl _, fun _ _ _ => rfl⟩
    rw [h0] at hk
    unfold Oper.wp
    simp [execOp, ho, resolve, invoke, builtin, hd, hs, hrun, Result.andThen]
    exact hk
  · have hy0 : 0 < ys.length := by
      rcases Nat.eq_zero_or_pos ys.length with e | e
      · exact absurd (by rw [e]; exact Nat.zero_min m) h0
      · exact e
    have hm0 : 0 < m := by
      rcases Nat.eq_zero_or_pos m with e | e
      · exact absurd (by rw [e]; exact Nat.min_zero _) h0
      · exact e
    obtain ⟨hlen, ⟨he, hz⟩ | ⟨g, cap', cur, he, hg, hh, hn1, hcap, hcur, htake⟩⟩ := hown
    · injection he with e1 e2 e3
      omega
    · injection he with e1 e2 e3
      subst e1 e2 e3
      have hD' := hD hm0
      have hD2 : D = some ⟨g, off, none⟩ := by rw [hD']; simp [Addr.add]; intro e; exact e.symm
      subst hD2
      obtain ⟨hyl, _, hcells⟩ := HR
      obtain ⟨ad, rfl, hcell⟩ := hcells hy0
      obtain ⟨cs, hcs⟩ : ∃ cs : List Value, cs = (ys.take m).map (Value.int .i64) := ⟨_, rfl⟩
      have hcl : cs.length = Nat.min ys.length m := by
        rw [hcs, List.length_map, List.length_take]
        exact Nat.min_comm _ _
      have hcm : cs.length ≤ m := by rw [hcl]; exact Nat.min_le_right _ _
      have hsrc : ∀ j v, cs[j]? = some v → w.cell? (ad.add j) = some v := by
        intro j v hv
        have hj : j < cs.length := (List.getElem?_eq_some_iff.1 hv).1
        have hj2 : j < ys.length := by rw [hcl] at hj; exact Nat.lt_of_lt_of_le hj (Nat.min_le_left _ _)
        have hjm : j < m := by omega
        obtain ⟨c, _, hK, hc⟩ := hcell j _ (List.getElem?_eq_getElem hj2)
        have hK' : c = [Value.int .i64 ys[j]] := hK
        subst hK'
        have h3 := hc 0 _ rfl
        have h4 : v = Value.int .i64 ys[j] := by
          rw [hcs, List.getElem?_map, List.getElem?_take_of_lt hjm, List.getElem?_eq_getElem hj2] at hv
          exact (Option.some.inj hv).symm
        rw [h4]
        simpa [Kd.int, Kd.scalar] using h3
      have hfit : off + cs.length ≤ cur.size := by omega
      have h1 : ∀ v ∈ cs, v.oneCell' = true := by
        intro v hv
        rw [hcs] at hv
        obtain ⟨q, _, rfl⟩ := List.mem_map.1 hv
        rfl
      have hrun := run_copy_row (P := P) w dT sT o.type elem g off m dcap ad ys.length sCap cur elem cs hu hsz hh hcl hsrc hfit h1
      unfold Oper.wp
      simp [execOp, ho, resolve, invoke, builtin, hd, hs, hrun, Result.andThen]
      rw [hcl]
      have hsl : (splice xs off (ys.take m)).length = xs.length := length_splice _ _ _ (by rw [List.length_take]; omega)
      refine h _ (Kd.R_of_own ⟨?_, .inr ⟨g, cap, (cur.toList.take off ++ (cs ++ cur.toList.drop (off + cs.length))).toArray, ?_, hg, ?_, ?_, hcap, ?_, ?_⟩⟩ hokv) ?_
      · rw [encs_length]; omega
      · rw [hsl]
      · rw [hcl]; exact setRow_heap w g _ _ elem _ hh
      · omega
      · have : cur.toList.length = cur.size := rfl
        simp
        omega
      · have hx : cur.toList.take (xs.length * 1) = xs.map (Value.int .i64) := htake
        rw [hsl]
        show List.take _ (cur.toList.take off ++ (cs ++ cur.toList.drop (off + cs.length))) = (splice xs off (ys.take m)).map (Value.int .i64)
        unfold splice
        rw [List.map_append, List.map_append, ← hcs, List.map_take, List.map_drop, ← hx]
        have hcl2 : (ys.take m).length = cs.length := by rw [hcs, List.length_map]
        rw [hcl2]
        have hcur2 : cur.toList.length = cap * 1 := hcur
        have ht := take_splice cur.toList cs (xs.length * 1) off (by omega) (by omega)
        simpa using ht
      · refine ⟨rfl, rfl, rfl, by simp [World.setRow], fun k hk hne => setRow_other w g k _ ?_⟩
        intro e
        exact hne (by rw [e]; rfl)
end
end Go.Proofs.YtcnpekpgghppnaaW.PrintWords
namespace Go.Proofs.Ytcnpekpgghppnaa.Q
open Go.RowKit Go.Proofs.YtcnpekpgghppnaaW.PrintWords Go.Proofs.YtcnpekpgghppnaaW.PrintLast Go.Proofs.YtcnpekpgghppnaaW.PrintMore
set_option linter.unusedVariables false
set_option linter.unusedSimpArgs false
theorem splice_all {n : Nat} {cs : List Int} (h : cs.length = n) : splice (List.replicate n 0) 0 cs = cs := by
 simp [splice, h]
set_option maxHeartbeats 8000000 in
set_option maxRecDepth 100000 in
theorem plane_Row.good (x0 y0 x1 y1 : Int) (A : Option Addr) (c : Nat) (D : List Int) (y : Int) (w : World) (hr : Kd.C (Kd.int .i64) w A D.length D) (hc : D.length ≤ c) (hv : PV x0 y0 x1 y1 D) (hy0 : y0 ≤ y) (hy1 : y < y1) :
  Calls Try.prog 58 #[.agg #[.int .i64 x0, .int .i64 y0, .int .i64 x1, .int .i64 y1, .slice A D.length c], .int .i64 y] w fun e w' => ∃ v, e = .returned (.tuple #[v, .bool true]) ∧ Kd.R (Kd.int .i64) 3 w' w.heap.size (fun _ => True) v (List.take (x1 - x0).toNat (List.drop ((y - y0) * (x1 - x0)).toNat D)) ∧ Below w.heap.size w w' := by
 obtain ⟨j, hj⟩ : ∃ j : Int, j = (y - y0) * (x1 - x0) := ⟨_, rfl⟩
 have hx := hv.1
 have hyy := hv.2.1
 have hj0 : 0 ≤ j := by rw [hj]; exact Int.mul_nonneg (by omega) (by omega)
 have hj1 : j + (x1 - x0) ≤ (D.length : Int) := by
  rw [hj, hv.2.2.2, show (y - y0) * (x1 - x0) + (x1 - x0) = (y - y0 + 1) * (x1 - x0) by rw [Int.add_mul, Int.one_mul], Int.mul_comm (x1 - x0)]
  exact Int.mul_le_mul_of_nonneg_right (by omega) (by omega)
 have hj2 : (D.length : Int) ≤ 1048576 := by rw [hv.2.2.2]; exact hv.2.2.1
 rw [← hj]
 have hwj : wrap64 (wrap64 (y - y0) * (x1 - x0)) = j := by
  rw [show wrap64 (y - y0) = y - y0 by unfold wrap64; omega, ← hj]
  unfold wrap64
  omega
 have HR := Aside0.mk hr
 have HC := Aside0.mk hc
 have HV := Aside0.mk hv.valid
 have hw : wrap64 (x1 - x0) = x1 - x0 := by unfold wrap64; omega
 have HW := Aside0.mk (show plane_width.f x0 y0 x1 y1 D = some (x1 - x0) by unfold plane_width.f; rw [hw])
 have HN := Aside0.mk (show 0 ≤ x1 - x0 ∧ x1 - x0 ≤ 4096 by omega)
 have HJ := Aside0.mk (And.intro hj0 hj1)
 obtain ⟨i3, hi3, _, hsz3, _⟩ := info_parts info3
 obtain ⟨Ad, hcut, hA, hCd⟩ := print_drop_of (P := Try.prog) (Value.int .i64) 0 24 3 .i64 Try.underlying24 hi3 hsz3 A c D j hj0 (by omega) hc
 have HRD := Aside0.mk (Kd.C_of_reads (h1 := fun _ => rfl) (hA _ (Kd.reads_of_C hr)))
 have b0 : decide (y < y0) = false := decide_eq_false (by omega)
 have b1 : decide (y ≥ y1) = false := decide_eq_false (by omega)
 have b2 : decide (y1 ≤ y) = false := decide_eq_false (by omega)
 clear hr hc hv hy0 hy1 hw hj hx hyy hj0 hj1 hj2 hA hCd hi3 hsz3
 have K00 := Aside0.mk (Bks.nil w)
 go_enter Try.func58, Try.ntmps58
 go_upto_region 4 with (first
  | ((with_reducible refine gate_dst (N := 2) rfl ?_); refine bT (N := 2) (#[.int .i64 x0, .int .i64 y0, .int .i64 x1, .int .i64 y1, .slice A D.length c]) 26 ?_; intro g2 hg W2 hbox hb; have K := Aside0.mk (K00.out.box (Nat.le_refl _) hg hbox hb); clear hg hbox hb K00)
  | ((with_reducible refine gate_dst (N := 7) rfl ?_); refine load_ev rfl 26 (.tmp 2) rfl rfl (K.out.get 0 rfl) Try.underlying26 rfl ?_)
  | ((with_reducible refine gate_dst (N := 24) rfl ?_); refine load_ev rfl 26 (.tmp 2) rfl rfl (K.out.get 0 rfl) Try.underlying26 rfl ?_)
  | (go_at_call 25; (with_reducible refine (plane_Valid.calls x0 y0 x1 y1 A c D true _ (Kd.C_below HR.out K.out.below) HC.out HV.out).mono ?_); rintro _ w1 ⟨rfl, b⟩; replace K := Aside0.mk (K.out.call (below_size K.out.below) b); clear b; have f1 : w1.cell? ⟨g2, 1, none⟩ = some (.int .i64 y0) := K.out.cell 0 rfl 1 rfl; have f3 : w1.cell? ⟨g2, 3, none⟩ = some (.int .i64 y1) := K.out.cell 0 rfl 3 rfl)
  | (go_at_call 65; (with_reducible refine (plane_width.calls x0 y0 x1 y1 A c D (x1 - x0) _ (Kd.C_below HR.out K.out.below) HC.out HW.out).mono ?_); rintro _ w3 ⟨rfl, b⟩; clear f1 f3; replace K := Aside0.mk (K.out.call (below_size K.out.below) b); clear b)
  | ((with_reducible refine gate_dst (N := 26) rfl ?_); refine Kd.R_make (Kd.int .i64) (w0 := w3) w3.heap.size 3 rfl (N := 26) rfl 24 (.tmp 25) (.tmp 25) rfl (x1 - x0) rfl rfl Try.underlying24 (.int .i64 0) 8 info3 rfl (by decide) (by omega) (0 : Int) (okp := fun _ => False) (ok := fun _ => True) rfl (fun _ h => h.elim) trivial (by have := HN.out; omega) (by have := HN.out; omega) (Below.refl _ _) (Nat.le_refl _) ?_; intro v6 w4 ho hb hg hat; obtain ⟨A6, c6, e6⟩ := Kd.R_slice ho; rw [List.length_replicate] at e6; subst e6; have HL := Aside0.mk (Kd.R_lower ho (below_size K.out.below)); replace K := Aside0.mk (K.out.call (below_size K.out.below) hb); clear ho hb hat hg))
 clear b0 b1 b2 HV
 replace HL := Aside0.mk (Kd.R_drew HL.out)
 replace K := Aside0.mk (K.out.drew)
 refine start_ (n := 13) (S := fun w' => w'.heap[g2]? = some (.cells #[.int .i64 x0, .int .i64 y0, .int .i64 x1, .int .i64 y1, .slice A D.length c] 26 (0, 0))) (ds := []) #[false, false, false, false, false, false, false, false, false, false, false, false, false] (by kernel_rfl) rfl rfl (K.out.get 0 rfl) (fun hHeld0 => ?_)
 generalize hw5 : w4.drew = w5 at *
 clear hw5
 have hHeld := Aside0.mk hHeld0
 clear hHeld0
 refine pT (i := 0) (N := some 27) ?_
 refine pT (i := 1) (N := some 28) ?_
 refine take_ (i := 2) (N := some 29) (v := ?_) (a' := ?_) #[true, true, true, false, false, false, false, false, false, false, false, false, false] rfl rfl (by kernel_rfl) (fun _ _ _ h => h) (Or.inl ⟨by rfl, ?_⟩) hHeld.out ?_ ?_
 rotate_left
 ·rintro w' hb0
  have s1 := blk_cell hb0 4
  clear hb0
  replace s1 := s1.trans rfl
  go_simp
  with_reducible rfl
 rotate_left
 ·simp only [Act.put, List.setIfInBounds_toArray, List.set_cons_zero, List.set_cons_succ, i64_w, i32_w]
  rfl
 refine pT (i := 3) (N := some 30) ?_
 refine pT (i := 4) (N := some 31) ?_
 refine pT (i := 5) (N := some 32) ?_
 refine take_ (i := 6) (N := some 33) (v := ?_) (a' := ?_) #[true, true, true, true, true, true, true, false, false, false, false, false, false] rfl rfl (by kernel_rfl) (fun _ _ _ h => h) (Or.inl ⟨by rfl, ?_⟩) hHeld.out ?_ ?_
 rotate_left
 ·rintro w' hb0
  have s1 := blk_cell hb0 1
  clear hb0
  replace s1 := s1.trans rfl
  go_simp
  with_reducible rfl
 rotate_left
 ·simp only [Act.put, List.setIfInBounds_toArray, List.set_cons_zero, List.set_cons_succ, i64_w, i32_w]
  rfl
 refine pT (i := 7) (N := some 34) ?_
 refine tL (i := 8) (N := some 35) (v := .agg #[.int .i64 x0, .int .i64 y0, .int .i64 x1, .int .i64 y1, .slice A D.length c]) rfl (load_yields (by rfl) 26 (.tmp 2) rfl rfl (fun _ h => h) Try.underlying26 rfl) hHeld.out ?_
 refine one_ (i := 9) (N := some 36) #[true, true, true, true, true, true, true, true, true, true, false, false, false] rfl rfl (by kernel_rfl) (by decide) (fun KC hK => ?_)
 refine goes_ Try.func65 (by kernel_rfl) rfl #[.agg #[.int .i64 x0, .int .i64 y0, .int .i64 x1, .int .i64 y1, .slice A D.length c]] (by rfl) rfl rfl (by simp only [List.map_toArray, List.map_cons, List.map_nil]; rfl) ?_
 refine (plane_width.calls x0 y0 x1 y1 A c D (x1 - x0) _ (Kd.C_below HR.out K.out.below) HC.out HW.out).mono ?_
 rintro _ w6 ⟨rfl, b⟩
 refine ⟨_, rfl, ?_⟩
 replace HL := Aside0.mk (Kd.R_below HL.out b)
 replace K := Aside0.mk (K.out.call (below_size K.out.below) b)
 clear b
 refine hK.out _ _ (K.out.get 0 rfl) (fun hHeld => ?_)
 clear hK KC
 refine nT ?_
 refine pT (i := 10) (N := some 37) ?_
 refine pT (i := 11) (N := some 38) ?_
 refine one_ (i := 12) (N := some 39) #[true, true, true, true, true, true, true, true, true, true, true, true, true] rfl rfl (by kernel_rfl) (by decide) (fun KC hK => ?_)
 refine step_copyR (P := Try.prog) (n := (x1 - x0).toNat) (ys := List.drop j.toNat D) rfl (.tmp 27) (.tmp 38) 24 24 rfl Try.underlying24 (by kernel_rfl) HL.out 0 (x1 - x0).toNat _ (fun _ => map_add0 _) (by omega) (Kd.C_below HRD.out K.out.below) rfl (by rw [List.length_drop]; rfl) ?_
 intro w7 hr hg
 rw [splice_all (by rw [List.length_take, List.length_drop]; have := HJ.out; omega)] at hr
 have K' := Aside0.mk (K.out.grown1 HL.out hg (K.out.below.grown hg (below_size K.out.below) (own_base (Kd.own_of_R HL.out))) (by decide))
 have HL' := Aside0.mk hr
 clear K HL hr hg
 have K := K'
 have HL := HL'
 clear K' HL'
 refine hK.out _ _ (K.out.get 0 rfl) (fun hHeld => ?_)
 clear hK KC
 refine nT ?_
 refine done_ (by kernel_rfl) ?_
 clear hHeld
 go_wp2
 go_ret2
 exact ⟨_, rfl, HL.out, K.out.below⟩
end Go.Proofs.Ytcnpekpgghppnaa.Q
