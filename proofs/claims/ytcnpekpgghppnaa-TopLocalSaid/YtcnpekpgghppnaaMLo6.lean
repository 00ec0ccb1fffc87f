/- Texts of this session (words and printed walks, merged by wip/tools/merge.py) for the statement of the claim. -/
import Derived.Test.YtcnpekpgghppnaaMLo1
import Derived.Test.YtcnpekpgghppnaaMLo5
import Derived.Test.YtcnpekpgghppnaaMLo2
namespace Go.Proofs.Ytcnpekpgghppnaa.Q
open Go.RowKit Go.Proofs.YtcnpekpgghppnaaW.PrintWords Go.Proofs.YtcnpekpgghppnaaW.PrintLast Go.Proofs.YtcnpekpgghppnaaW.PrintMore
set_option linter.unusedVariables false
set_option linter.unusedSimpArgs false
theorem PV.nat {x0 y0 x1 y1 : Int} {D : List Int} (h : PV x0 y0 x1 y1 D) : ∃ w m : Nat, x1 = x0 + (w : Int) ∧ y1 = y0 + (m : Int) ∧ D.length = m * w ∧ m * w ≤ 1048576 := by
 obtain ⟨⟨a1, a2, a3⟩, ⟨b1, b2, b3⟩, h3, h4⟩ := h
 obtain ⟨w, hw⟩ := Int.eq_ofNat_of_zero_le (show 0 ≤ x1 - x0 by omega)
 obtain ⟨m, hm⟩ := Int.eq_ofNat_of_zero_le (show 0 ≤ y1 - y0 by omega)
 rw [hw, hm, ← Int.natCast_mul, Nat.mul_comm] at h3 h4
 exact ⟨w, m, by omega, by omega, by omega, by omega⟩
theorem PV.of_nat {x0 y0 x1 y1 : Int} {D : List Int} {w m : Nat} (hx : 0 ≤ x0 ∧ x1 ≤ 4096) (hy : 0 ≤ y0 ∧ y1 ≤ 4096) (hw : x1 = x0 + (w : Int)) (hm : y1 = y0 + (m : Int)) (hD : D.length = m * w) (hl : m * w ≤ 1048576) : PV x0 y0 x1 y1 D := by
 have e : (x1 - x0) * (y1 - y0) = ((m * w : Nat) : Int) := by rw [show x1 - x0 = (w : Int) by omega, show y1 - y0 = (m : Int) by omega, Nat.mul_comm, Int.natCast_mul]
 refine ⟨by omega, by omega, ?_, ?_⟩
 ·rw [e]; omega
 ·rw [e, hD]
theorem rv_of {x0 y0 x1 y1 : Int} (hx : 0 ≤ x0 ∧ x0 ≤ x1 ∧ x1 ≤ 4096) (hy : 0 ≤ y0 ∧ y0 ≤ y1 ∧ y1 ≤ 4096) : rect_Valid.f x0 y0 x1 y1 = some true := by
 unfold rect_Valid.f
 rw [if_pos hx.1, if_pos hx.2.1, if_pos hx.2.2, if_pos hy.1, if_pos hy.2.1, decide_eq_true hy.2.2]
theorem ra_of {x0 y0 x1 y1 : Int} {w m : Nat} (hx : 0 ≤ x0 ∧ x1 ≤ 4096) (hy : 0 ≤ y0 ∧ y1 ≤ 4096) (hw : x1 = x0 + (w : Int)) (hm : y1 = y0 + (m : Int)) (hl : m * w ≤ 1048576) : rect_Area.f x0 y0 x1 y1 = some ((m * w : Nat) : Int) := by
 unfold rect_Area.f
 rw [rv_of (by omega) (by omega)]
 simp only [Option.bind_some, if_true]
 rw [show wrap64 (x1 - x0) = (w : Int) by rw [wid (by omega) (by omega)]; omega, show wrap64 (y1 - y0) = (m : Int) by rw [wid (by omega) (by omega)]; omega, ← Int.natCast_mul, Nat.mul_comm, wid (by omega) (by omega)]
theorem empty_of {x0 y0 x1 y1 : Int} {w m : Nat} (hx : 0 ≤ x0 ∧ x1 ≤ 4096) (hy : 0 ≤ y0 ∧ y1 ≤ 4096) (hw : x1 = x0 + (w : Int)) (hm : y1 = y0 + (m : Int)) (hl : m * w ≤ 1048576) : dwt_empty.f x0 y0 x1 y1 = some (x0, y0, x1, y1, List.replicate (m * w) 0) := by
 unfold dwt_empty.f
 rw [ra_of hx hy hw hm hl, Option.bind_some, if_pos (by omega), Int.toNat_natCast, if_pos (by omega)]
theorem bd_cell {w h : Nat} {D : List Int} {b : Int} (hD : D.length = h * w) (H : ∀ i j : Nat, i < h → j < w → -b ≤ cell w D i j ∧ cell w D i j ≤ b) : Bd b D := by
 refine Bd.of_rd fun p hp => ?_
 rw [hD] at hp
 have hw : 0 < w := by
  rcases Nat.eq_zero_or_pos w with e | e
  ·subst e; simp at hp
  ·exact e
 have h1 : p / w < h := Nat.div_lt_of_lt_mul (by rwa [Nat.mul_comm] at hp)
 have h2 := H (p / w) (p % w) h1 (Nat.mod_lt _ hw)
 unfold cell at h2
 rwa [show p / w * w + p % w = p from by rw [Nat.mul_comm]; exact Nat.div_add_mod p w] at h2
theorem cnt_of {s : Int} {n l : Nat} (h0 : 0 ≤ s) (h1 : s + n ≤ 4096) (hl : (l : Int) = (s + n + 1) / 2 - (s + 1) / 2) : cntE s (n : Int) = (l : Int) := by
 rw [cntE_eq h0 (by omega) (by omega) (by omega), hl]
theorem known_of {kk : Int} (h : 1 ≤ kk ∧ kk ≤ 3) : dwt_known.f 1 kk = some true := by
 have : kk = 1 ∨ kk = 2 ∨ kk = 3 := by omega
 rcases this with rfl | rfl | rfl <;> decide
/-- The columns of a half, there and back. -/
theorem half_ok {kk a c y0 y1 b : Int} {w m lh hh : Nat} {H : List Int} (hkk : 1 ≤ kk ∧ kk ≤ 3) (ha : 0 ≤ a ∧ c ≤ 4096) (hy : 0 ≤ y0 ∧ y1 ≤ 4096) (hw : c = a + (w : Int)) (hm : y1 = y0 + (m : Int)) (hH : H.length = m * w) (hl : m * w ≤ 1048576) (hlh : (lh : Int) = (y1 + 1) / 2 - (y0 + 1) / 2) (hhh : lh + hh = m)
  (hb1 : 1 ≤ b) (hb2 : b ≤ 17592186044416) (hb : Bd (2 * b) H) :
  ∃ G0 G2, colsF kk 5000 a c y0 H 5000 a (List.replicate (lh * w) 0) (List.replicate (hh * w) 0) = some (G0, G2) ∧ G0.length = lh * w ∧ G2.length = hh * w ∧ Bd (5 * b) G0 ∧ Bd (5 * b) G2 ∧ mcolsF kk 5000 a c y0 G0 G2 5000 a (List.replicate (m * w) 0) = some H := by
 have hx : ∀ j : Nat, ∃ p : List Int × List Int, j < w → fwdF kk 5000 y0 (colOf w m H j) = some p ∧ p.1.length = lh ∧ p.2.length = hh ∧ Bd (5 * b) p.1 ∧ Bd (5 * b) p.2 ∧ invF kk 5000 y0 p.1 p.2 = some (colOf w m H j) := by
  intro j
  by_cases hj : j < w
  ·obtain ⟨lo, hi, q1, q2, q3, q4, q5, q6⟩ := fwd_ok kk y0 5000 (colOf w m H j) b hkk (by omega) (by omega) (by rw [colOf_len]; omega) (by omega) hb1 hb2 (colOf_bd hb (by omega))
   rw [colOf_len] at q2 q3
   exact ⟨(lo, hi), fun _ => ⟨q1, by show lo.length = lh; omega, by show hi.length = hh; omega, q4, q5, q6⟩⟩
  ·exact ⟨([], []), fun h => absurd h hj⟩
 obtain ⟨g, hg⟩ := Classical.axiomOfChoice hx
 obtain ⟨G0, G2, r1, r2, r3, r4, r5⟩ := colsF_spec (kk := kk) (k := 5000) (w := w) (h := m) (lh := lh) (hh := hh) (x0 := a) (x1 := c) (y0 := y0) (D := H) (lo := fun j => (g j).1) (hi := fun j => (g j).2) hw (by omega) (by omega) hH hl (by omega) (by omega) (by omega) hhh (hb.mono (by omega)) (fun j hj => ⟨(hg j hj).1, (hg j hj).2.1, (hg j hj).2.2.1⟩) 5000 0 (List.replicate (lh * w) 0) (List.replicate (hh * w) 0) (by omega) (by omega) (by simp) (by simp)
 have e1 : ∀ j, j < w → colOf w lh G0 j = (g j).1 := by
  intro j hj
  refine ext_rd (by rw [colOf_len, (hg j hj).2.1]) fun i hi => ?_
  rw [colOf_len] at hi
  rw [colOf_rd hi, r4 i j hi hj, if_pos (by omega)]
 have e2 : ∀ j, j < w → colOf w hh G2 j = (g j).2 := by
  intro j hj
  refine ext_rd (by rw [colOf_len, (hg j hj).2.2.1]) fun i hi => ?_
  rw [colOf_len] at hi
  rw [colOf_rd hi, r5 i j hi hj, if_pos (by omega)]
 have B0 : Bd (5 * b) G0 := bd_cell r2 fun i j hi hj => by
  rw [r4 i j hi hj, if_pos (by omega)]
  exact (hg j hj).2.2.2.1.at_ (by omega) i
 have B2 : Bd (5 * b) G2 := bd_cell r3 fun i j hi hj => by
  rw [r5 i j hi hj, if_pos (by omega)]
  exact (hg j hj).2.2.2.2.1.at_ (by omega) i
 refine ⟨G0, G2, by simpa using r1, r2, r3, B0, B2, ?_⟩
 obtain ⟨F, t1, t2, t3⟩ := mcolsF_spec (kk := kk) (k := 5000) (w := w) (h := m) (lh := lh) (hh := hh) (x0 := a) (x1 := c) (y0 := y0) (D := G0) (D2 := G2) (z := fun j => colOf w m H j) hw (by omega) (by omega) r2 r3 hl (by omega) (by omega) (by omega) hhh (B0.mono (by omega)) (B2.mono (by omega)) (cnt_of (by omega) (by omega) (by rw [hlh, hm])) (fun j hj => ⟨by rw [e1 j hj, e2 j hj]; exact (hg j hj).2.2.2.2.2, colOf_len _ _ _ _⟩) 5000 0 (List.replicate (m * w) 0) (by omega) (by omega) (by simp)
 have : F = H := by
  refine ext_cell t2 hH fun i j hi hj => ?_
  rw [t3 i j hi hj, if_pos (by omega), colOf_rd hi]
 subst this
 simpa using t1
/-- The rows of a plane, there and back. -/
theorem rows_ok {kk x0 y0 x1 y1 b : Int} {w m lw hw : Nat} {D : List Int} (hkk : 1 ≤ kk ∧ kk ≤ 3) (hx : 0 ≤ x0 ∧ x1 ≤ 4096) (hy : 0 ≤ y0 ∧ y1 ≤ 4096) (hwx : x1 = x0 + (w : Int)) (hm : y1 = y0 + (m : Int)) (hD : D.length = m * w) (hl : m * w ≤ 1048576) (hlw : (lw : Int) = (x1 + 1) / 2 - (x0 + 1) / 2) (hhw : lw + hw = w)
  (hb1 : 1 ≤ b) (hb2 : b ≤ 17592186044416) (hb : Bd (2 * b) D) :
  ∃ H0 H1, rowsF kk 5000 x0 x1 y0 y1 D 5000 y0 [] [] = some (H0, H1) ∧ H0.length = m * lw ∧ H1.length = m * hw ∧ Bd (5 * b) H0 ∧ Bd (5 * b) H1 ∧ ∀ w0 w1 : Int, w0 = (lw : Int) → w1 = (hw : Int) → mrowsF kk 5000 w0 w1 x0 y0 y1 H0 H1 5000 y0 [] = some D := by
 have hxx : ∀ i : Nat, ∃ p : List Int × List Int, i < m → fwdF kk 5000 x0 (rowOf w D i) = some p ∧ p.1.length = lw ∧ p.2.length = hw ∧ Bd (5 * b) p.1 ∧ Bd (5 * b) p.2 ∧ invF kk 5000 x0 p.1 p.2 = some (rowOf w D i) := by
  intro i
  by_cases hi : i < m
  ·have hrl := rowOf_len hD hi
   obtain ⟨lo, hi, q1, q2, q3, q4, q5, q6⟩ := fwd_ok kk x0 5000 (rowOf w D i) b hkk (by omega) (by omega) (by rw [hrl]; omega) (by omega) hb1 hb2 (rowOf_bd hb)
   rw [hrl] at q2 q3
   exact ⟨(lo, hi), fun _ => ⟨q1, by show lo.length = lw; omega, by show hi.length = hw; omega, q4, q5, q6⟩⟩
  ·exact ⟨([], []), fun h => absurd h hi⟩
 obtain ⟨g, hg⟩ := Classical.axiomOfChoice hxx
 obtain ⟨H0, H1, r1, r2, r3, r4⟩ := rowsF_spec (kk := kk) (k := 5000) (w := w) (h := m) (lw := lw) (hw := hw) (x0 := x0) (x1 := x1) (y0 := y0) (y1 := y1) (D := D) (lo := fun j => (g j).1) (hi := fun j => (g j).2) hwx hm hD hl (by omega) (by omega) (by omega) hhw (hb.mono (by omega)) (fun j hj => ⟨(hg j hj).1, (hg j hj).2.1, (hg j hj).2.2.1⟩) 5000 0 [] [] (by omega) (by omega) (by simp) (by simp) (fun a ha => absurd ha (Nat.not_lt_zero a))
 have B0 : Bd (5 * b) H0 := bd_cell r2 fun i j hi hj => by
  rw [← rowOf_rd hj, (r4 i hi).1]
  exact (hg i hi).2.2.2.1.at_ (by omega) j
 have B1 : Bd (5 * b) H1 := bd_cell r3 fun i j hi hj => by
  rw [← rowOf_rd hj, (r4 i hi).2]
  exact (hg i hi).2.2.2.2.1.at_ (by omega) j
 refine ⟨H0, H1, by simpa using r1, r2, r3, B0, B1, fun w0 w1 h0 h1 => ?_⟩
 have := mrowsF_spec (kk := kk) (k := 5000) (w := w) (h := m) (lw := lw) (hw := hw) (x0 := x0) (y0 := y0) (y1 := y1) (H0 := H0) (H1 := H1) (D := D) h0 h1 hm hD r2 r3 hl (by omega) (by omega) (by omega) hhw (B0.mono (by omega)) (B1.mono (by omega)) (cnt_of (by omega) (by omega) (by rw [hlw, hwx])) (fun i hi => by rw [(r4 i hi).1, (r4 i hi).2]; exact (hg i hi).2.2.2.2.2) 5000 0 (by omega) (by omega)
 simpa using this
theorem tdiv1 {x : Int} (h0 : 0 ≤ x) (h1 : x ≤ 4096) : wrap64 (Int.tdiv (wrap64 (x + 1)) 2) = (x + 1) / 2 := by
 rw [wid (n := x + 1) (by omega) (by omega), Int.tdiv_eq_ediv_of_nonneg (by omega), wid (by omega) (by omega)]
theorem tdiv0 {x : Int} (h0 : 0 ≤ x) (h1 : x ≤ 4096) : wrap64 (Int.tdiv (wrap64 (x + 0)) 2) = x / 2 := by
 rw [wid (n := x + 0) (by omega) (by omega), Int.add_zero, Int.tdiv_eq_ediv_of_nonneg (by omega), wid (by omega) (by omega)]
theorem tdivz {x : Int} (h0 : 0 ≤ x) (h1 : x ≤ 4096) : wrap64 (Int.tdiv (wrap64 x) 2) = x / 2 := by
 rw [wid (n := x) (by omega) (by omega), Int.tdiv_eq_ediv_of_nonneg (by omega), wid (by omega) (by omega)]
theorem bands_of {x0 y0 x1 y1 : Int} (hx : 0 ≤ x0 ∧ x0 ≤ x1 ∧ x1 ≤ 4096) (hy : 0 ≤ y0 ∧ y0 ≤ y1 ∧ y1 ≤ 4096) : bandsC x0 y0 x1 y1 4 = #[.int .i64 ((x0 + 1) / 2), .int .i64 ((y0 + 1) / 2), .int .i64 ((x1 + 1) / 2), .int .i64 ((y1 + 1) / 2), .int .i64 (x0 / 2), .int .i64 ((y0 + 1) / 2), .int .i64 (x1 / 2), .int .i64 ((y1 + 1) / 2), .int .i64 ((x0 + 1) / 2), .int .i64 (y0 / 2), .int .i64 ((x1 + 1) / 2), .int .i64 (y1 / 2), .int .i64 (x0 / 2), .int .i64 (y0 / 2), .int .i64 (x1 / 2), .int .i64 (y1 / 2)] := by
 rw [bandsC.eq_def]
 simp only [tdiv1 hx.1 (show x0 ≤ 4096 by omega), tdiv1 (show 0 ≤ x1 by omega) hx.2.2, tdiv1 hy.1 (show y0 ≤ 4096 by omega), tdiv1 (show 0 ≤ y1 by omega) hy.2.2, tdiv0 hx.1 (show x0 ≤ 4096 by omega), tdiv0 (show 0 ≤ x1 by omega) hx.2.2, tdiv0 hy.1 (show y0 ≤ 4096 by omega), tdiv0 (show 0 ≤ y1 by omega) hy.2.2, tdivz hy.1 (show y0 ≤ 4096 by omega), tdivz (show 0 ≤ y1 by omega) hy.2.2]
/-- A plane's four subbands, and the plane again. -/
theorem split_ok {kk x0 y0 x1 y1 c : Int} {D : List Int} (hkk : 1 ≤ kk ∧ kk ≤ 3) (hv : PV x0 y0 x1 y1 D) (hc1 : 1 ≤ c) (hc2 : c ≤ 1099511627776) (hb : Bd (4 * c) D) :
  ∃ G0 G1 G2 G3, SplitTo kk x0 y0 x1 y1 D ((x0 + 1) / 2) (x0 / 2) ((x1 + 1) / 2) (x1 / 2) ((y0 + 1) / 2) (y0 / 2) ((y1 + 1) / 2) (y1 / 2) G0 G1 G2 G3 ∧ MergeTo kk x0 y0 x1 y1 ((x0 + 1) / 2) (x0 / 2) ((x1 + 1) / 2) (x1 / 2) ((y0 + 1) / 2) (y0 / 2) ((y1 + 1) / 2) (y1 / 2) G0 G1 G2 G3 D ∧
   (PV ((x0 + 1) / 2) ((y0 + 1) / 2) ((x1 + 1) / 2) ((y1 + 1) / 2) G0 ∧ Bd (25 * c) G0) ∧ (PV (x0 / 2) ((y0 + 1) / 2) (x1 / 2) ((y1 + 1) / 2) G1 ∧ Bd (25 * c) G1) ∧ (PV ((x0 + 1) / 2) (y0 / 2) ((x1 + 1) / 2) (y1 / 2) G2 ∧ Bd (25 * c) G2) ∧ (PV (x0 / 2) (y0 / 2) (x1 / 2) (y1 / 2) G3 ∧ Bd (25 * c) G3) := by
 obtain ⟨w, m, hw, hm, hD, hl⟩ := hv.nat
 obtain ⟨⟨p1, p2, p3⟩, ⟨q1, q2, q3⟩, _, _⟩ := id hv
 obtain ⟨lw, hlw⟩ := Int.eq_ofNat_of_zero_le (show 0 ≤ (x1 + 1) / 2 - (x0 + 1) / 2 by omega)
 obtain ⟨uw, huw⟩ := Int.eq_ofNat_of_zero_le (show 0 ≤ x1 / 2 - x0 / 2 by omega)
 obtain ⟨lh, hlh⟩ := Int.eq_ofNat_of_zero_le (show 0 ≤ (y1 + 1) / 2 - (y0 + 1) / 2 by omega)
 obtain ⟨uh, huh⟩ := Int.eq_ofNat_of_zero_le (show 0 ≤ y1 / 2 - y0 / 2 by omega)
 have sw : lw + uw = w := by omega
 have sh : lh + uh = m := by omega
 have m1 : m * lw ≤ m * w := Nat.mul_le_mul_left m (by omega)
 have m2 : m * uw ≤ m * w := Nat.mul_le_mul_left m (by omega)
 have n1 : lh * lw ≤ m * lw := Nat.mul_le_mul_right lw (by omega)
 have n2 : uh * lw ≤ m * lw := Nat.mul_le_mul_right lw (by omega)
 have n3 : lh * uw ≤ m * uw := Nat.mul_le_mul_right uw (by omega)
 have n4 : uh * uw ≤ m * uw := Nat.mul_le_mul_right uw (by omega)
 obtain ⟨H0, H1, r1, r2, r3, r4, r5, r6⟩ := rows_ok (b := 2 * c) hkk ⟨p1, p3⟩ ⟨q1, q3⟩ hw hm hD hl hlw.symm sw (by omega) (by omega) (hb.mono (by omega))
 obtain ⟨G0, G2, s1, s2, s3, s4, s5, s6⟩ := half_ok (kk := kk) (a := (x0 + 1) / 2) (c := (x1 + 1) / 2) (y0 := y0) (y1 := y1) (b := 5 * c) (w := lw) (m := m) (lh := lh) (hh := uh) (H := H0) hkk (by omega) ⟨q1, q3⟩ (by omega) hm r2 (by omega) hlh.symm sh (by omega) (by omega) (r4.mono (by omega))
 obtain ⟨G1, G3, t1, t2, t3, t4, t5, t6⟩ := half_ok (kk := kk) (a := x0 / 2) (c := x1 / 2) (y0 := y0) (y1 := y1) (b := 5 * c) (w := uw) (m := m) (lh := lh) (hh := uh) (H := H1) hkk (by omega) ⟨q1, q3⟩ (by omega) hm r3 (by omega) hlh.symm sh (by omega) (by omega) (r5.mono (by omega))
 have v0 : PV ((x0 + 1) / 2) ((y0 + 1) / 2) ((x1 + 1) / 2) ((y1 + 1) / 2) G0 := PV.of_nat (by omega) (by omega) (w := lw) (m := lh) (by omega) (by omega) s2 (by omega)
 have v1 : PV (x0 / 2) ((y0 + 1) / 2) (x1 / 2) ((y1 + 1) / 2) G1 := PV.of_nat (by omega) (by omega) (w := uw) (m := lh) (by omega) (by omega) t2 (by omega)
 have v2 : PV ((x0 + 1) / 2) (y0 / 2) ((x1 + 1) / 2) (y1 / 2) G2 := PV.of_nat (by omega) (by omega) (w := lw) (m := uh) (by omega) (by omega) s3 (by omega)
 have v3 : PV (x0 / 2) (y0 / 2) (x1 / 2) (y1 / 2) G3 := PV.of_nat (by omega) (by omega) (w := uw) (m := uh) (by omega) (by omega) t3 (by omega)
 have u0 : PV ((x0 + 1) / 2) y0 ((x1 + 1) / 2) y1 H0 := PV.of_nat (by omega) (by omega) (w := lw) (m := m) (by omega) (by omega) r2 (by omega)
 have u1 : PV (x0 / 2) y0 (x1 / 2) y1 H1 := PV.of_nat (by omega) (by omega) (w := uw) (m := m) (by omega) (by omega) r3 (by omega)
 have z0 := empty_of (x0 := (x0 + 1) / 2) (y0 := (y0 + 1) / 2) (x1 := (x1 + 1) / 2) (y1 := (y1 + 1) / 2) (w := lw) (m := lh) (by omega) (by omega) (by omega) (by omega) (by omega)
 have z1 := empty_of (x0 := x0 / 2) (y0 := (y0 + 1) / 2) (x1 := x1 / 2) (y1 := (y1 + 1) / 2) (w := uw) (m := lh) (by omega) (by omega) (by omega) (by omega) (by omega)
 have z2 := empty_of (x0 := (x0 + 1) / 2) (y0 := y0 / 2) (x1 := (x1 + 1) / 2) (y1 := y1 / 2) (w := lw) (m := uh) (by omega) (by omega) (by omega) (by omega) (by omega)
 have z3 := empty_of (x0 := x0 / 2) (y0 := y0 / 2) (x1 := x1 / 2) (y1 := y1 / 2) (w := uw) (m := uh) (by omega) (by omega) (by omega) (by omega) (by omega)
 have z4 := empty_of (x0 := (x0 + 1) / 2) (y0 := y0) (x1 := (x1 + 1) / 2) (y1 := y1) (w := lw) (m := m) (by omega) (by omega) (by omega) (by omega) (by omega)
 have z5 := empty_of (x0 := x0 / 2) (y0 := y0) (x1 := x1 / 2) (y1 := y1) (w := uw) (m := m) (by omega) (by omega) (by omega) (by omega) (by omega)
 have hbc := bands_of (x0 := x0) (y0 := y0) (x1 := x1) (y1 := y1) ⟨p1, p2, p3⟩ ⟨q1, q2, q3⟩
 have hk := known_of hkk
 have hrv := rv_of (x0 := x0) (y0 := y0) (x1 := x1) (y1 := y1) ⟨p1, p2, p3⟩ ⟨q1, q2, q3⟩
 have har := ra_of (x0 := x0) (y0 := y0) (x1 := x1) (y1 := y1) ⟨p1, p3⟩ ⟨q1, q3⟩ hw hm hl
 have ex : ∀ {b B : Int} {X : List Int}, Bd b X → b ≤ B → 0 ≤ B → B ≤ 4611686018427387904 → X.length ≤ 1048576 → dwt_exceeds.f 2000000 X B = some false := fun h h1 h2 h3 h4 => dexceeds_f (h.mono h1) h2 h3 (by omega) (by omega)
 have f0 : Bd (25 * c) G0 := s4.mono (by omega)
 have f1 : Bd (25 * c) G1 := t4.mono (by omega)
 have f2 : Bd (25 * c) G2 := s5.mono (by omega)
 have f3 : Bd (25 * c) G3 := t5.mono (by omega)
 refine ⟨G0, G1, G2, G3, ?_, ?_, ⟨v0, f0⟩, ⟨v1, f1⟩, ⟨v2, f2⟩, ⟨v3, f3⟩⟩
 ·exact ⟨5000, 5000, 1, 2000000, H0, H1, _, _, _, _, hv, hkk, hk, ex hb (by omega) (by decide) (by decide) (by omega), hbc, r1, u0, u1, z0, z1, z2, z3, s1, t1⟩
 ·exact ⟨5000, 5000, 1, 2000000, _, _, _, H0, H1, v0, ex f0 (by omega) (by decide) (by decide) (by omega), v1, ex f1 (by omega) (by decide) (by decide) (by omega), v2, ex f2 (by omega) (by decide) (by decide) (by omega), v3, ex f3 (by omega) (by decide) (by decide) (by omega), ⟨p1, p2, p3⟩, ⟨q1, q2, q3⟩, hrv, har, by omega, hkk, hk, hbc, z4, s6, u0, z5, t6, u1, r6 _ _ (by omega) (by omega)⟩
end Go.Proofs.Ytcnpekpgghppnaa.Q
namespace Go.Proofs.Ytcnpekpgghppnaa.Q
open Go.RowKit Go.Proofs.YtcnpekpgghppnaaW.PrintWords Go.Proofs.YtcnpekpgghppnaaW.PrintLast Go.Proofs.YtcnpekpgghppnaaW.PrintMore
attribute [local go_sem] max2_int min2_int max_two min_two max_three min_three max_four min_four
set_option linter.unusedVariables false
set_option linter.unusedSimpArgs false
def pyramid_validLevels.f (a0 : Int) : Option (Bool) := if a0 ≥ 0 then (some (decide (a0 ≤ 5))) else (some false)
set_option maxHeartbeats 8000000 in
set_option maxRecDepth 100000 in
theorem pyramid_validLevels.calls (a0 : Int) (r : Bool) (w : World) (h : pyramid_validLevels.f a0 = some r) :
  Calls Try.prog 27 #[.int .i64 a0] w fun e w' => e = .returned (.bool r) ∧ Drawn0 w w' := by
 have H : (if a0 ≥ 0 then (some (decide (a0 ≤ 5))) else (some false)) = some r := h
 clear h
 by_cases c2 : a0 ≥ 0
 ·rw [if_pos c2] at H
  have c2b0 : decide (0 ≤ a0) = true := decide_eq_true c2
  clear c2
  obtain rfl := Option.some.inj H
  go_enter Try.func27, Try.ntmps27
  go_wp2
  go_ret
  exact ⟨by first | rfl | (simp; done) | (simp [*]; done), by repeat (first | exact Drawn0.refl _ | apply Drawn0.step)⟩
 ·rw [if_neg c2] at H
  have c2b0 : decide (0 ≤ a0) = false := decide_eq_false c2
  clear c2
  obtain rfl := Option.some.inj H
  go_enter Try.func27, Try.ntmps27
  go_wp2
  go_ret
  exact ⟨by first | rfl | (simp; done) | (simp [*]; done), by repeat (first | exact Drawn0.refl _ | apply Drawn0.step)⟩
end Go.Proofs.Ytcnpekpgghppnaa.Q
namespace Go.Proofs.Ytcnpekpgghppnaa.Q
open Go.RowKit Go.Proofs.YtcnpekpgghppnaaW.PrintWords Go.Proofs.YtcnpekpgghppnaaW.PrintLast Go.Proofs.YtcnpekpgghppnaaW.PrintMore
attribute [local go_sem] max2_int min2_int max_two min_two max_three min_three max_four min_four
set_option linter.unusedVariables false
set_option linter.unusedSimpArgs false
def rect_CeilDiv.f (a0 : Int) (a1 : Int) : Option (Int) := if a1 < 1 then (some 0) else (if a1 = 0 then (none) else (if (Int.tmod a0 a1) > 0 then (some (wrap64 ((wrap64 (Int.tdiv a0 a1)) + 1))) else (some (wrap64 (Int.tdiv a0 a1)))))
set_option maxHeartbeats 8000000 in
set_option maxRecDepth 100000 in
theorem rect_CeilDiv.calls (a0 : Int) (a1 : Int) (r : Int) (w : World) (h : rect_CeilDiv.f a0 a1 = some r) :
  Calls Try.prog 81 #[.int .i64 a0, .int .i64 a1] w fun e w' => e = .returned (.int .i64 r) ∧ Drawn0 w w' := by
 have H : (if a1 < 1 then (some 0) else (if a1 = 0 then (none) else (if (Int.tmod a0 a1) > 0 then (some (wrap64 ((wrap64 (Int.tdiv a0 a1)) + 1))) else (some (wrap64 (Int.tdiv a0 a1)))))) = some r := h
 clear h
 by_cases c3 : a1 < 1
 ·rw [if_pos c3] at H
  have c3b0 : decide (a1 < 1) = true := decide_eq_true c3
  clear c3
  obtain rfl := Option.some.inj H
  go_enter Try.func81, Try.ntmps81
  go_wp2
  go_ret
  exact ⟨by first | rfl | (simp; done) | (simp [*]; done), by repeat (first | exact Drawn0.refl _ | apply Drawn0.step)⟩
 ·rw [if_neg c3] at H
  have c3b0 : decide (a1 < 1) = false := decide_eq_false c3
  clear c3
  by_cases c4 : a1 = 0
  ·rw [if_pos c4] at H
   exact absurd H (by simp)
  ·rw [if_neg c4] at H
   have c4b0 : (a1 == 0) = false := beq_eq_false_iff_ne.mpr c4
   have c4b1 : (a1 != 0) = true := bne_iff_ne.mpr c4
   by_cases c5 : (Int.tmod a0 a1) > 0
   ·rw [if_pos c5] at H
    have c5b0 : decide (0 < (Int.tmod a0 a1)) = true := decide_eq_true c5
    clear c5
    obtain rfl := Option.some.inj H
    go_enter Try.func81, Try.ntmps81
    go_wp2
    go_ret
    exact ⟨by first | rfl | (simp; done) | (simp [*]; done), by repeat (first | exact Drawn0.refl _ | apply Drawn0.step)⟩
   ·rw [if_neg c5] at H
    have c5b0 : decide (0 < (Int.tmod a0 a1)) = false := decide_eq_false c5
    clear c5
    obtain rfl := Option.some.inj H
    go_enter Try.func81, Try.ntmps81
    go_wp2
    go_ret
    exact ⟨by first | rfl | (simp; done) | (simp [*]; done), by repeat (first | exact Drawn0.refl _ | apply Drawn0.step)⟩
end Go.Proofs.Ytcnpekpgghppnaa.Q
namespace Go.Proofs.Ytcnpekpgghppnaa.Q
open Go.RowKit Go.Proofs.YtcnpekpgghppnaaW.PrintWords Go.Proofs.YtcnpekpgghppnaaW.PrintLast Go.Proofs.YtcnpekpgghppnaaW.PrintMore
attribute [local go_sem] max2_int min2_int max_two min_two max_three min_three max_four min_four
set_option linter.unusedVariables false
set_option linter.unusedSimpArgs false
def rect_Reduce.j0 : Nat → Int → Int → Bool → Int → Int → Int → Int → Option (Int × Int × Int × Int)
 | 0, _, _, _, _, _, _, _ => none
 | k + 1, x1, x2, x25, x179000, x179001, x179002, x179003 => if x25 = true then (some (0, 0, 0, 0)) else ((rect_CeilDiv.f x179000 x1).bind fun t181 => ((rect_CeilDiv.f x179001 x2).bind fun t182 => ((rect_CeilDiv.f x179002 x1).bind fun t183 => ((rect_CeilDiv.f x179003 x2).bind fun t184 => (some (t181, t182, t183, t184))))))
def rect_Reduce.f (k : Nat) (a0_0 : Int) (a0_1 : Int) (a0_2 : Int) (a0_3 : Int) (a1 : Int) (a2 : Int) : Option (Int × Int × Int × Int) := (rect_Valid.f a0_0 a0_1 a0_2 a0_3).bind fun t180 => (if t180 = true then (if a1 < 1 then (rect_Reduce.j0 k a1 a2 true a0_0 a0_1 a0_2 a0_3) else (if a1 > 4096 then (rect_Reduce.j0 k a1 a2 true a0_0 a0_1 a0_2 a0_3) else (if a2 < 1 then (rect_Reduce.j0 k a1 a2 true a0_0 a0_1 a0_2 a0_3) else (rect_Reduce.j0 k a1 a2 (decide (a2 > 4096)) a0_0 a0_1 a0_2 a0_3)))) else (rect_Reduce.j0 k a1 a2 true a0_0 a0_1 a0_2 a0_3))
def rect_Reduce.T3 : Bool × List (List Nat × List Nat) := (true, [([], []), ([0], [0]), ([], []), ([1, 2], [1, 2]), ([], []), ([4], [4]), ([], []), ([5, 6, 3], [5, 6]), ([], []), ([8], [8]), ([], []), ([9, 10, 7], [9, 10]), ([], []), ([12], [12]), ([], []), ([13, 14, 11], [13, 14]), ([3, 7, 11, 15], [3, 7, 11, 15]), ([16, 15, 0, 1, 2, 3, 4, 5, 6, 7, 8, 9, 10, 11, 12, 13, 14, 15, 16], [16])])
def rect_Reduce.B3 : List Nat := [0, 1, 0, 7, 0, 16, 0, 127, 0, 256, 0, 2047, 0, 4096, 0, 32767, 65535, 131071]
theorem rect_Reduce.tab3 : rtab .any (opsOf Try.f64 3) = rect_Reduce.T3 := by kernel_rfl
theorem rect_Reduce.bits3 : waitsOk rect_Reduce.T3.2 rect_Reduce.B3 = true := by kernel_rfl
set_option maxHeartbeats 8000000 in
set_option maxRecDepth 100000 in
theorem rect_Reduce.calls (k : Nat) (a0_0 : Int) (a0_1 : Int) (a0_2 : Int) (a0_3 : Int) (a1 : Int) (a2 : Int) (r1 : Int) (r2 : Int) (r3 : Int) (r4 : Int) (w : World) (h : rect_Reduce.f k a0_0 a0_1 a0_2 a0_3 a1 a2 = some (r1, r2, r3, r4)) :
  Calls Try.prog 64 #[.agg #[.int .i64 a0_0, .int .i64 a0_1, .int .i64 a0_2, .int .i64 a0_3], .int .i64 a1, .int .i64 a2] w fun e w' => e = .returned (.agg #[.int .i64 r1, .int .i64 r2, .int .i64 r3, .int .i64 r4]) ∧ Below w.heap.size w w' := by
 have hu23 := Try.underlying23
 have HB := Aside0.mk (Below.refl w.heap.size w)
 have H : ((rect_Valid.f a0_0 a0_1 a0_2 a0_3).bind fun t180 => (if t180 = true then (if a1 < 1 then (rect_Reduce.j0 k a1 a2 true a0_0 a0_1 a0_2 a0_3) else (if a1 > 4096 then (rect_Reduce.j0 k a1 a2 true a0_0 a0_1 a0_2 a0_3) else (if a2 < 1 then (rect_Reduce.j0 k a1 a2 true a0_0 a0_1 a0_2 a0_3) else (rect_Reduce.j0 k a1 a2 (decide (a2 > 4096)) a0_0 a0_1 a0_2 a0_3)))) else (rect_Reduce.j0 k a1 a2 true a0_0 a0_1 a0_2 a0_3))) = some (r1, r2, r3, r4) := h
 clear h
 have HC4 := Aside0.mk H
 clear H
 go_enter Try.func64, Try.ntmps64
 go_upto_region 1 with (first | ((with_reducible refine gate_dst (N := 3) rfl ?_); refine bT (N := 3) (#[.int .i64 a0_0, .int .i64 a0_1, .int .i64 a0_2, .int .i64 a0_3]) 23 ?_; intro gb178 hg w5 hbox hb; have n0_ := Aside0.mk (below_step (by repeat (first | (with_reducible first | exact HB.out | apply below_alloc | apply pw_below_drewN | apply below_drew1) | exact HB.out)) hb); have n1_ := Aside0.mk (hbox); have n2_ := Aside0.mk ((by rw [hg]; exact (below_size (by repeat (first | (with_reducible first | exact HB.out | apply below_alloc | apply pw_below_drewN | apply below_drew1) | exact HB.out))) : w.heap.size ≤ gb178)); have n3_ := Aside0.mk ((by rw [hg]; exact (below_size (by repeat (first | (with_reducible first | exact HB.out | apply below_alloc | apply pw_below_drewN | apply below_drew1) | exact HB.out))) : w.heap.size ≤ gb178)); clear HB; have HB := n0_; have BK178 := n1_; have GW178 := n2_; have GE178 := n3_; clear n0_ n1_ n2_ n3_; clear hb hbox hg) | ((with_reducible refine gate_dst (N := 6) rfl ?_); refine bT (N := 6) (#[.int .i64 0, .int .i64 0, .int .i64 0, .int .i64 0]) 23 ?_; intro gb179 hg w6 hbox hb; have n0_ := Aside0.mk (blk_below (g := gb178) (o := .cells #[.int .i64 a0_0, .int .i64 a0_1, .int .i64 a0_2, .int .i64 a0_3] 23 (0, 0)) (by exact upK BK178.out) hb); have n1_ := Aside0.mk (below_step (by repeat (first | (with_reducible first | exact HB.out | apply below_alloc | apply pw_below_drewN | apply below_drew1 | refine below_set ?_ GE178.out) | exact HB.out)) hb); have n2_ := Aside0.mk (hbox); have n3_ := Aside0.mk ((by rw [hg]; exact (below_size (by repeat (first | (with_reducible first | exact HB.out | apply below_alloc | apply pw_below_drewN | apply below_drew1 | refine below_set ?_ GE178.out) | exact HB.out))) : w.heap.size ≤ gb179)); have n4_ := Aside0.mk ((by rw [hg]; exact (below_size (by repeat (first | (with_reducible first | exact HB.out | apply below_alloc | apply pw_below_drewN | apply below_drew1 | refine below_set ?_ GE178.out) | exact HB.out))) : w.heap.size ≤ gb179)); have n5_ := Aside0.mk ((by rw [hg]; exact Nat.ne_of_lt (blk_lt (g := gb178) (o := .cells #[.int .i64 a0_0, .int .i64 a0_1, .int .i64 a0_2, .int .i64 a0_3] 23 (0, 0)) (by exact upK BK178.out)) : gb178 ≠ gb179)); have n6_ := Aside0.mk ((by rw [hg]; exact Nat.ne_of_gt (blk_lt (g := gb178) (o := .cells #[.int .i64 a0_0, .int .i64 a0_1, .int .i64 a0_2, .int .i64 a0_3] 23 (0, 0)) (by exact upK BK178.out)) : gb179 ≠ gb178)); clear BK178; clear HB; have BK178 := n0_; have HB := n1_; have BK179 := n2_; have GW179 := n3_; have GE179 := n4_; have NB178_179 := n5_; have NB179_178 := n6_; clear n0_ n1_ n2_ n3_ n4_ n5_ n6_; clear hb hbox hg))
 (try simp only [Act.put, List.setIfInBounds_toArray, List.set_cons_zero, List.set_cons_succ])
 go_cut [25] (fun v25 wc => ∃ (kq : Nat) (x25_3 : Bool), v25 = .bool x25_3 ∧ Aside0 (rect_Reduce.j0 kq a1 a2 x25_3 a0_0 a0_1 a0_2 a0_3 = some (r1, r2, r3, r4)) ∧ Aside0 (kq ≤ k) ∧ Aside0 (wc.heap[gb178]? = some (.cells #[.int .i64 a0_0, .int .i64 a0_1, .int .i64 a0_2, .int .i64 a0_3] 23 (0, 0))) ∧ Aside0 (wc.heap[gb179]? = some (.cells #[.int .i64 0, .int .i64 0, .int .i64 0, .int .i64 0] 23 (0, 0))) ∧ Aside0 (Below w.heap.size w wc))
 case first =>
  have H := HC4.out
  clear HC4
  replace H := Option.bind_eq_some_iff.mp H
  obtain ⟨t180, A70, H⟩ := H
  replace H : (if t180 = true then (if a1 < 1 then (rect_Reduce.j0 k a1 a2 true a0_0 a0_1 a0_2 a0_3) else (if a1 > 4096 then (rect_Reduce.j0 k a1 a2 true a0_0 a0_1 a0_2 a0_3) else (if a2 < 1 then (rect_Reduce.j0 k a1 a2 true a0_0 a0_1 a0_2 a0_3) else (rect_Reduce.j0 k a1 a2 (decide (a2 > 4096)) a0_0 a0_1 a0_2 a0_3)))) else (rect_Reduce.j0 k a1 a2 true a0_0 a0_1 a0_2 a0_3)) = some (r1, r2, r3, r4) := H
  have A7 := Aside0.mk A70
  clear A70
  by_cases c8 : t180 = true
  ·subst c8
   have H1 : (if a1 < 1 then (rect_Reduce.j0 k a1 a2 true a0_0 a0_1 a0_2 a0_3) else (if a1 > 4096 then (rect_Reduce.j0 k a1 a2 true a0_0 a0_1 a0_2 a0_3) else (if a2 < 1 then (rect_Reduce.j0 k a1 a2 true a0_0 a0_1 a0_2 a0_3) else (rect_Reduce.j0 k a1 a2 (decide (a2 > 4096)) a0_0 a0_1 a0_2 a0_3)))) = some (r1, r2, r3, r4) := by rw [if_pos rfl] at H; exact H
   clear H
   have H := H1
   clear H1
   by_cases c9 : a1 < 1
   ·rw [if_pos c9] at H
    have c9b0 : decide (a1 < 1) = true := decide_eq_true c9
    clear c9
    (first | rw [c9b0] | (simp only [i64_w, i32_w]; rw [c9b0]) | skip)
    have H' := Aside0.mk H
    clear H
    have hnb10 := NB178_179.out
    have hnc10 := NB179_178.out
    have hcz11_0 : w6.cell? ⟨gb178, 0, none⟩ = some (.int .i64 a0_0) := (blk_cell BK178.out 0).trans rfl
    have hcz11_1 : w6.cell? ⟨gb178, 1, none⟩ = some (.int .i64 a0_1) := (blk_cell BK178.out 1).trans rfl
    have hcz11_2 : w6.cell? ⟨gb178, 2, none⟩ = some (.int .i64 a0_2) := (blk_cell BK178.out 2).trans rfl
    have hcz11_3 : w6.cell? ⟨gb178, 3, none⟩ = some (.int .i64 a0_3) := (blk_cell BK178.out 3).trans rfl
    have hfz11_0 := blk_frozen BK178.out 0
    have hfz11_1 := blk_frozen BK178.out 1
    have hfz11_2 := blk_frozen BK178.out 2
    have hfz11_3 := blk_frozen BK178.out 3
    go_wp2_with (first | ((with_reducible refine gate_callee (f := 31) rfl ?_); refine goesL_ (some 8) rfl rfl Try.func31 (by kernel_rfl) rfl #[.agg #[.int .i64 a0_0, .int .i64 a0_1, .int .i64 a0_2, .int .i64 a0_3]] rfl (by (try simp only [List.map_toArray, List.map_cons, List.map_nil]); first | done | rfl | (simp only [List.length_drop, List.length_take]; rfl)) ?_; (with_reducible refine (rect_Valid.calls a0_0 a0_1 a0_2 a0_3 true _ A7.out).mono ?_); rintro e w12 ⟨rfl, hb⟩; refine ⟨_, rfl, ?_⟩; have n0_ := Aside0.mk (blk_below (g := gb178) (o := .cells #[.int .i64 a0_0, .int .i64 a0_1, .int .i64 a0_2, .int .i64 a0_3] 23 (0, 0)) (by exact upK BK178.out) hb); have n1_ := Aside0.mk (blk_below (g := gb179) (o := .cells #[.int .i64 0, .int .i64 0, .int .i64 0, .int .i64 0] 23 (0, 0)) (by exact upK BK179.out) hb); have n2_ := Aside0.mk (below_step (by repeat (first | (with_reducible first | exact HB.out | apply below_alloc | apply pw_below_drewN | apply below_drew1 | refine below_set ?_ GE178.out | refine below_set ?_ GE179.out) | exact HB.out)) hb); clear BK178; clear BK179; clear HB; have BK178 := n0_; have BK179 := n1_; have HB := n2_; clear n0_ n1_ n2_; (try clear hb); (try clear hb2); (try clear hk); (try clear hi)))
    go_meet
    case rel => exact ⟨_, (true), (by first | rfl | (simp; done) | (simp [*]; done)), H', ⟨by first | omega | exact Nat.le_refl _⟩, ⟨by exact upK BK178.out⟩, ⟨by exact upK BK179.out⟩, ⟨by repeat (first | (with_reducible first | exact HB.out | apply below_alloc | apply pw_below_drewN | apply below_drew1 | refine below_set ?_ GE178.out | refine below_set ?_ GE179.out) | exact HB.out)⟩⟩
   ·rw [if_neg c9] at H
    have c9b0 : decide (a1 < 1) = false := decide_eq_false c9
    clear c9
    (first | rw [c9b0] | (simp only [i64_w, i32_w]; rw [c9b0]) | skip)
    by_cases c13 : a1 > 4096
    ·rw [if_pos c13] at H
     have c13b0 : decide (4096 < a1) = true := decide_eq_true c13
     clear c13
     have H' := Aside0.mk H
     clear H
     have hnb14 := NB178_179.out
     have hnc14 := NB179_178.out
     have hcz15_0 : w6.cell? ⟨gb178, 0, none⟩ = some (.int .i64 a0_0) := (blk_cell BK178.out 0).trans rfl
     have hcz15_1 : w6.cell? ⟨gb178, 1, none⟩ = some (.int .i64 a0_1) := (blk_cell BK178.out 1).trans rfl
     have hcz15_2 : w6.cell? ⟨gb178, 2, none⟩ = some (.int .i64 a0_2) := (blk_cell BK178.out 2).trans rfl
     have hcz15_3 : w6.cell? ⟨gb178, 3, none⟩ = some (.int .i64 a0_3) := (blk_cell BK178.out 3).trans rfl
     have hfz15_0 := blk_frozen BK178.out 0
     have hfz15_1 := blk_frozen BK178.out 1
     have hfz15_2 := blk_frozen BK178.out 2
     have hfz15_3 := blk_frozen BK178.out 3
     go_wp2_with (first | ((with_reducible refine gate_callee (f := 31) rfl ?_); refine goesL_ (some 8) rfl rfl Try.func31 (by kernel_rfl) rfl #[.agg #[.int .i64 a0_0, .int .i64 a0_1, .int .i64 a0_2, .int .i64 a0_3]] rfl (by (try simp only [List.map_toArray, List.map_cons, List.map_nil]); first | done | rfl | (simp only [List.length_drop, List.length_take]; rfl)) ?_; (with_reducible refine (rect_Valid.calls a0_0 a0_1 a0_2 a0_3 true _ A7.out).mono ?_); rintro e w16 ⟨rfl, hb⟩; refine ⟨_, rfl, ?_⟩; have n0_ := Aside0.mk (blk_below (g := gb178) (o := .cells #[.int .i64 a0_0, .int .i64 a0_1, .int .i64 a0_2, .int .i64 a0_3] 23 (0, 0)) (by exact upK BK178.out) hb); have n1_ := Aside0.mk (blk_below (g := gb179) (o := .cells #[.int .i64 0, .int .i64 0, .int .i64 0, .int .i64 0] 23 (0, 0)) (by exact upK BK179.out) hb); have n2_ := Aside0.mk (below_step (by repeat (first | (with_reducible first | exact HB.out | apply below_alloc | apply pw_below_drewN | apply below_drew1 | refine below_set ?_ GE178.out | refine below_set ?_ GE179.out) | exact HB.out)) hb); clear BK178; clear BK179; clear HB; have BK178 := n0_; have BK179 := n1_; have HB := n2_; clear n0_ n1_ n2_; (try clear hb); (try clear hb2); (try clear hk); (try clear hi)))
     go_meet
     case rel => exact ⟨_, (true), (by first | rfl | (simp; done) | (simp [*]; done)), H', ⟨by first | omega | exact Nat.le_refl _⟩, ⟨by exact upK BK178.out⟩, ⟨by exact upK BK179.out⟩, ⟨by repeat (first | (with_reducible first | exact HB.out | apply below_alloc | apply pw_below_drewN | apply below_drew1 | refine below_set ?_ GE178.out | refine below_set ?_ GE179.out) | exact HB.out)⟩⟩
    ·rw [if_neg c13] at H
     have c13b0 : decide (4096 < a1) = false := decide_eq_false c13
     clear c13
     by_cases c17 : a2 < 1
     ·rw [if_pos c17] at H
      have c17b0 : decide (a2 < 1) = true := decide_eq_true c17
      clear c17
      have H' := Aside0.mk H
      clear H
      have hnb18 := NB178_179.out
      have hnc18 := NB179_178.out
      have hcz19_0 : w6.cell? ⟨gb178, 0, none⟩ = some (.int .i64 a0_0) := (blk_cell BK178.out 0).trans rfl
      have hcz19_1 : w6.cell? ⟨gb178, 1, none⟩ = some (.int .i64 a0_1) := (blk_cell BK178.out 1).trans rfl
      have hcz19_2 : w6.cell? ⟨gb178, 2, none⟩ = some (.int .i64 a0_2) := (blk_cell BK178.out 2).trans rfl
      have hcz19_3 : w6.cell? ⟨gb178, 3, none⟩ = some (.int .i64 a0_3) := (blk_cell BK178.out 3).trans rfl
      have hfz19_0 := blk_frozen BK178.out 0
      have hfz19_1 := blk_frozen BK178.out 1
      have hfz19_2 := blk_frozen BK178.out 2
      have hfz19_3 := blk_frozen BK178.out 3
      go_wp2_with (first | ((with_reducible refine gate_callee (f := 31) rfl ?_); refine goesL_ (some 8) rfl rfl Try.func31 (by kernel_rfl) rfl #[.agg #[.int .i64 a0_0, .int .i64 a0_1, .int .i64 a0_2, .int .i64 a0_3]] rfl (by (try simp only [List.map_toArray, List.map_cons, List.map_nil]); first | done | rfl | (simp only [List.length_drop, List.length_take]; rfl)) ?_; (with_reducible refine (rect_Valid.calls a0_0 a0_1 a0_2 a0_3 true _ A7.out).mono ?_); rintro e w20 ⟨rfl, hb⟩; refine ⟨_, rfl, ?_⟩; have n0_ := Aside0.mk (blk_below (g := gb178) (o := .cells #[.int .i64 a0_0, .int .i64 a0_1, .int .i64 a0_2, .int .i64 a0_3] 23 (0, 0)) (by exact upK BK178.out) hb); have n1_ := Aside0.mk (blk_below (g := gb179) (o := .cells #[.int .i64 0, .int .i64 0, .int .i64 0, .int .i64 0] 23 (0, 0)) (by exact upK BK179.out) hb); have n2_ := Aside0.mk (below_step (by repeat (first | (with_reducible first | exact HB.out | apply below_alloc | apply pw_below_drewN | apply below_drew1 | refine below_set ?_ GE178.out | refine below_set ?_ GE179.out) | exact HB.out)) hb); clear BK178; clear BK179; clear HB; have BK178 := n0_; have BK179 := n1_; have HB := n2_; clear n0_ n1_ n2_; (try clear hb); (try clear hb2); (try clear hk); (try clear hi)))
      go_meet
      case rel => exact ⟨_, (true), (by first | rfl | (simp; done) | (simp [*]; done)), H', ⟨by first | omega | exact Nat.le_refl _⟩, ⟨by exact upK BK178.out⟩, ⟨by exact upK BK179.out⟩, ⟨by repeat (first | (with_reducible first | exact HB.out | apply below_alloc | apply pw_below_drewN | apply below_drew1 | refine below_set ?_ GE178.out | refine below_set ?_ GE179.out) | exact HB.out)⟩⟩
     ·rw [if_neg c17] at H
      have c17b0 : decide (a2 < 1) = false := decide_eq_false c17
      clear c17
      have H' := Aside0.mk H
      clear H
      have hnb21 := NB178_179.out
      have hnc21 := NB179_178.out
      have hcz22_0 : w6.cell? ⟨gb178, 0, none⟩ = some (.int .i64 a0_0) := (blk_cell BK178.out 0).trans rfl
      have hcz22_1 : w6.cell? ⟨gb178, 1, none⟩ = some (.int .i64 a0_1) := (blk_cell BK178.out 1).trans rfl
      have hcz22_2 : w6.cell? ⟨gb178, 2, none⟩ = some (.int .i64 a0_2) := (blk_cell BK178.out 2).trans rfl
      have hcz22_3 : w6.cell? ⟨gb178, 3, none⟩ = some (.int .i64 a0_3) := (blk_cell BK178.out 3).trans rfl
      have hfz22_0 := blk_frozen BK178.out 0
      have hfz22_1 := blk_frozen BK178.out 1
      have hfz22_2 := blk_frozen BK178.out 2
      have hfz22_3 := blk_frozen BK178.out 3
      go_wp2_with (first | ((with_reducible refine gate_callee (f := 31) rfl ?_); refine goesL_ (some 8) rfl rfl Try.func31 (by kernel_rfl) rfl #[.agg #[.int .i64 a0_0, .int .i64 a0_1, .int .i64 a0_2, .int .i64 a0_3]] rfl (by (try simp only [List.map_toArray, List.map_cons, List.map_nil]); first | done | rfl | (simp only [List.length_drop, List.length_take]; rfl)) ?_; (with_reducible refine (rect_Valid.calls a0_0 a0_1 a0_2 a0_3 true _ A7.out).mono ?_); rintro e w23 ⟨rfl, hb⟩; refine ⟨_, rfl, ?_⟩; have n0_ := Aside0.mk (blk_below (g := gb178) (o := .cells #[.int .i64 a0_0, .int .i64 a0_1, .int .i64 a0_2, .int .i64 a0_3] 23 (0, 0)) (by exact upK BK178.out) hb); have n1_ := Aside0.mk (blk_below (g := gb179) (o := .cells #[.int .i64 0, .int .i64 0, .int .i64 0, .int .i64 0] 23 (0, 0)) (by exact upK BK179.out) hb); have n2_ := Aside0.mk (below_step (by repeat (first | (with_reducible first | exact HB.out | apply below_alloc | apply pw_below_drewN | apply below_drew1 | refine below_set ?_ GE178.out | refine below_set ?_ GE179.out) | exact HB.out)) hb); clear BK178; clear BK179; clear HB; have BK178 := n0_; have BK179 := n1_; have HB := n2_; clear n0_ n1_ n2_; (try clear hb); (try clear hb2); (try clear hk); (try clear hi)))
      go_meet
      case rel => exact ⟨_, (decide (a2 > 4096)), (by first | rfl | (simp; done) | (simp [*]; done)), H', ⟨by first | omega | exact Nat.le_refl _⟩, ⟨by exact upK BK178.out⟩, ⟨by exact upK BK179.out⟩, ⟨by repeat (first | (with_reducible first | exact HB.out | apply below_alloc | apply pw_below_drewN | apply below_drew1 | refine below_set ?_ GE178.out | refine below_set ?_ GE179.out) | exact HB.out)⟩⟩
  ·replace c8 := Bool.eq_false_iff.mpr c8
   subst c8
   have H1 : (rect_Reduce.j0 k a1 a2 true a0_0 a0_1 a0_2 a0_3) = some (r1, r2, r3, r4) := by rw [if_neg (show ¬ (false = true) by decide)] at H; exact H
   clear H
   have H := H1
   clear H1
   have H' := Aside0.mk H
   clear H
   have hnb24 := NB178_179.out
   have hnc24 := NB179_178.out
   have hcz25_0 : w6.cell? ⟨gb178, 0, none⟩ = some (.int .i64 a0_0) := (blk_cell BK178.out 0).trans rfl
   have hcz25_1 : w6.cell? ⟨gb178, 1, none⟩ = some (.int .i64 a0_1) := (blk_cell BK178.out 1).trans rfl
   have hcz25_2 : w6.cell? ⟨gb178, 2, none⟩ = some (.int .i64 a0_2) := (blk_cell BK178.out 2).trans rfl
   have hcz25_3 : w6.cell? ⟨gb178, 3, none⟩ = some (.int .i64 a0_3) := (blk_cell BK178.out 3).trans rfl
   have hfz25_0 := blk_frozen BK178.out 0
   have hfz25_1 := blk_frozen BK178.out 1
   have hfz25_2 := blk_frozen BK178.out 2
   have hfz25_3 := blk_frozen BK178.out 3
   go_wp2_with (first | ((with_reducible refine gate_callee (f := 31) rfl ?_); refine goesL_ (some 8) rfl rfl Try.func31 (by kernel_rfl) rfl #[.agg #[.int .i64 a0_0, .int .i64 a0_1, .int .i64 a0_2, .int .i64 a0_3]] rfl (by (try simp only [List.map_toArray, List.map_cons, List.map_nil]); first | done | rfl | (simp only [List.length_drop, List.length_take]; rfl)) ?_; (with_reducible refine (rect_Valid.calls a0_0 a0_1 a0_2 a0_3 false _ A7.out).mono ?_); rintro e w26 ⟨rfl, hb⟩; refine ⟨_, rfl, ?_⟩; have n0_ := Aside0.mk (blk_below (g := gb178) (o := .cells #[.int .i64 a0_0, .int .i64 a0_1, .int .i64 a0_2, .int .i64 a0_3] 23 (0, 0)) (by exact upK BK178.out) hb); have n1_ := Aside0.mk (blk_below (g := gb179) (o := .cells #[.int .i64 0, .int .i64 0, .int .i64 0, .int .i64 0] 23 (0, 0)) (by exact upK BK179.out) hb); have n2_ := Aside0.mk (below_step (by repeat (first | (with_reducible first | exact HB.out | apply below_alloc | apply pw_below_drewN | apply below_drew1 | refine below_set ?_ GE178.out | refine below_set ?_ GE179.out) | exact HB.out)) hb); clear BK178; clear BK179; clear HB; have BK178 := n0_; have BK179 := n1_; have HB := n2_; clear n0_ n1_ n2_; (try clear hb); (try clear hb2); (try clear hk); (try clear hi)))
   go_meet
   case rel => exact ⟨_, (true), (by first | rfl | (simp; done) | (simp [*]; done)), H', ⟨by first | omega | exact Nat.le_refl _⟩, ⟨by exact upK BK178.out⟩, ⟨by exact upK BK179.out⟩, ⟨by repeat (first | (with_reducible first | exact HB.out | apply below_alloc | apply pw_below_drewN | apply below_drew1 | refine below_set ?_ GE178.out | refine below_set ?_ GE179.out) | exact HB.out)⟩⟩
 case rest =>
  clear HC4
  try clear c1
  try clear c2
  try clear p2
  try clear c3
  try clear c6
  try clear c8
  try clear c9
  try clear c9b0
  try clear c10
  try clear c13
  try clear c13b0
  try clear c14
  try clear c17
  try clear c17b0
  try clear c18
  try clear c21
  try clear c24
  try clear hcz11_0
  try clear hcz11_1
  try clear hcz11_2
  try clear hcz11_3
  try clear hcz15_0
  try clear hcz15_1
  try clear hcz15_2
  try clear hcz15_3
  try clear hcz19_0
  try clear hcz19_1
  try clear hcz19_2
  try clear hcz19_3
  try clear hcz22_0
  try clear hcz22_1
  try clear hcz22_2
  try clear hcz22_3
  try clear hcz25_0
  try clear hcz25_1
  try clear hcz25_2
  try clear hcz25_3
  try clear hfz11_0
  try clear hfz11_1
  try clear hfz11_2
  try clear hfz11_3
  try clear hfz15_0
  try clear hfz15_1
  try clear hfz15_2
  try clear hfz15_3
  try clear hfz19_0
  try clear hfz19_1
  try clear hfz19_2
  try clear hfz19_3
  try clear hfz22_0
  try clear hfz22_1
  try clear hfz22_2
  try clear hfz22_3
  try clear hfz25_0
  try clear hfz25_1
  try clear hfz25_2
  try clear hfz25_3
  obtain ⟨kq, x25_3, rfl, HA, HJ3, BK178, BK179, HB⟩ := hcut
  cases kq with
  | zero => exact absurd HA.out (by simp [rect_Reduce.j0])
  | succ kj3 =>
   have H := HA.out
   clear HA
   simp only [rect_Reduce.j0] at H
   by_cases c27 : x25_3 = true
   ·subst c27
    have H1 : (some (0, 0, 0, 0)) = some (r1, r2, r3, r4) := by rw [if_pos rfl] at H; exact H
    clear H
    have H := H1
    clear H1
    simp only [Option.some.injEq, Prod.mk.injEq] at H
    obtain ⟨rfl, rfl, rfl, rfl⟩ := H
    have hnb28 := NB179_178.out
    have hnc28 := NB178_179.out
    have hcz29_0 : wc.cell? ⟨gb179, 0, none⟩ = some (.int .i64 0) := (blk_cell BK179.out 0).trans rfl
    have hcz29_1 : wc.cell? ⟨gb179, 1, none⟩ = some (.int .i64 0) := (blk_cell BK179.out 1).trans rfl
    have hcz29_2 : wc.cell? ⟨gb179, 2, none⟩ = some (.int .i64 0) := (blk_cell BK179.out 2).trans rfl
    have hcz29_3 : wc.cell? ⟨gb179, 3, none⟩ = some (.int .i64 0) := (blk_cell BK179.out 3).trans rfl
    have hfz29_0 := blk_frozen BK179.out 0
    have hfz29_1 := blk_frozen BK179.out 1
    have hfz29_2 := blk_frozen BK179.out 2
    have hfz29_3 := blk_frozen BK179.out 3
    go_wp2
    refine bodyPost_ret (results_cell_row rfl _ _ gb179 23 #[.int .i64 0, .int .i64 0, .int .i64 0, .int .i64 0] (0, 0) _ rfl (by (with_reducible repeat (first | refine blk_drewN ?_ _ | refine blk_drew ?_ | refine blk_alloc ?_ _)); refine blk_put (cs := #[.int .i64 0, .int .i64 0, .int .i64 0, .int .i64 0]) ?_ 3 _ rfl; (with_reducible repeat (first | refine blk_drewN ?_ _ | refine blk_drew ?_ | refine blk_alloc ?_ _)); refine blk_put (cs := #[.int .i64 0, .int .i64 0, .int .i64 0, .int .i64 0]) ?_ 2 _ rfl; (with_reducible repeat (first | refine blk_drewN ?_ _ | refine blk_drew ?_ | refine blk_alloc ?_ _)); refine blk_put (cs := #[.int .i64 0, .int .i64 0, .int .i64 0, .int .i64 0]) ?_ 1 _ rfl; (with_reducible repeat (first | refine blk_drewN ?_ _ | refine blk_drew ?_ | refine blk_alloc ?_ _)); refine blk_put (cs := #[.int .i64 0, .int .i64 0, .int .i64 0, .int .i64 0]) ?_ 0 _ rfl; exact upK BK179.out) Try.underlying23 rfl (by kernel_rfl)) rfl ?_
    exact ⟨by first | rfl | (simp [errW_none, errW_some] <;> rfl) | (simp [*, errW_none, errW_some] <;> rfl), by repeat (first | (with_reducible first | exact HB.out | apply below_alloc | apply pw_below_drewN | apply below_drew1 | refine below_set ?_ GE178.out | refine below_set ?_ GE179.out) | exact HB.out)⟩
   ·replace c27 := Bool.eq_false_iff.mpr c27
    subst c27
    have H1 : ((rect_CeilDiv.f a0_0 a1).bind fun t181 => ((rect_CeilDiv.f a0_1 a2).bind fun t182 => ((rect_CeilDiv.f a0_2 a1).bind fun t183 => ((rect_CeilDiv.f a0_3 a2).bind fun t184 => (some (t181, t182, t183, t184)))))) = some (r1, r2, r3, r4) := by rw [if_neg (show ¬ (false = true) by decide)] at H; exact H
    clear H
    have H := H1
    clear H1
    replace H := Option.bind_eq_some_iff.mp H
    obtain ⟨t181, A300, H⟩ := H
    replace H : ((rect_CeilDiv.f a0_1 a2).bind fun t182 => ((rect_CeilDiv.f a0_2 a1).bind fun t183 => ((rect_CeilDiv.f a0_3 a2).bind fun t184 => (some (t181, t182, t183, t184))))) = some (r1, r2, r3, r4) := H
    have A30 := Aside0.mk A300
    clear A300
    replace H := Option.bind_eq_some_iff.mp H
    obtain ⟨t182, A310, H⟩ := H
    replace H : ((rect_CeilDiv.f a0_2 a1).bind fun t183 => ((rect_CeilDiv.f a0_3 a2).bind fun t184 => (some (t181, t182, t183, t184)))) = some (r1, r2, r3, r4) := H
    have A31 := Aside0.mk A310
    clear A310
    replace H := Option.bind_eq_some_iff.mp H
    obtain ⟨t183, A320, H⟩ := H
    replace H : ((rect_CeilDiv.f a0_3 a2).bind fun t184 => (some (t181, t182, t183, t184))) = some (r1, r2, r3, r4) := H
    have A32 := Aside0.mk A320
    clear A320
    replace H := Option.bind_eq_some_iff.mp H
    obtain ⟨t184, A330, H⟩ := H
    replace H : (some (t181, t182, t183, t184)) = some (r1, r2, r3, r4) := H
    have A33 := Aside0.mk A330
    clear A330
    simp only [Option.some.injEq, Prod.mk.injEq] at H
    obtain ⟨rfl, rfl, rfl, rfl⟩ := H
    try go_wp2
    have n0_ := Aside0.mk (blk_drew BK178.out)
    have n1_ := Aside0.mk (blk_drew BK179.out)
    have n2_ := Aside0.mk (below_drew1 HB.out)
    clear BK178
    clear BK179
    clear HB
    have BK178 := n0_
    have BK179 := n1_
    have HB := n2_
    clear n0_ n1_ n2_
    refine start_ (n := 18) (S := fun w' => w'.cell? ⟨gb178, 0, none⟩ = some (.int .i64 a0_0) ∧ w'.cell? ⟨gb178, 1, none⟩ = some (.int .i64 a0_1) ∧ w'.cell? ⟨gb178, 2, none⟩ = some (.int .i64 a0_2) ∧ w'.cell? ⟨gb178, 3, none⟩ = some (.int .i64 a0_3)) (ds := []) #[false, false, false, false, false, false, false, false, false, false, false, false, false, false, false, false, false, false] (by kernel_rfl) rfl rfl ⟨(blk_cell BK178.out 0).trans rfl, (blk_cell BK178.out 1).trans rfl, (blk_cell BK178.out 2).trans rfl, (blk_cell BK178.out 3).trans rfl⟩ (fun hHeld => ?_); refine with_tabW rect_Reduce.tab3 rect_Reduce.bits3 (fun HT_ HW_ => ?_)
    generalize wc.drew = w34 at BK178 BK179 HB hHeld ⊢
    refine pTT (i := 0) (N := some 27) HT_.out ?_
    refine pTT (i := 2) (N := some 29) HT_.out ?_
    refine pTT (i := 4) (N := some 31) HT_.out ?_
    refine pTT (i := 6) (N := some 33) HT_.out ?_
    refine pTT (i := 8) (N := some 35) HT_.out ?_
    refine pTT (i := 10) (N := some 37) HT_.out ?_
    refine pTT (i := 12) (N := some 39) HT_.out ?_
    refine pTT (i := 14) (N := some 41) HT_.out ?_
    refine take_ (i := 1) (N := some 28) (v := ?_) (a' := ?_) #[true, true, true, false, true, false, true, false, true, false, true, false, true, false, true, false, false, false] rfl rfl (take_ofW HT_.out HW_.out (by kernel_rfl)) (fun _ _ _ h => h) (Or.inl ⟨by rfl, ?_⟩) hHeld ?_ ?_
    rotate_left
    ·rintro w' ⟨s0, s1, s2, s3⟩
     go_simp
     with_reducible rfl
    rotate_left
    ·simp only [Act.put, List.setIfInBounds_toArray, List.set_cons_zero, List.set_cons_succ, i64_w, i32_w]
     rfl
    refine take_ (i := 5) (N := some 32) (v := ?_) (a' := ?_) #[true, true, true, false, true, true, true, false, true, false, true, false, true, false, true, false, false, false] rfl rfl (take_ofW HT_.out HW_.out (by kernel_rfl)) (fun _ _ _ h => h) (Or.inl ⟨by rfl, ?_⟩) hHeld ?_ ?_
    rotate_left
    ·rintro w' ⟨s0, s1, s2, s3⟩
     go_simp
     with_reducible rfl
    rotate_left
    ·simp only [Act.put, List.setIfInBounds_toArray, List.set_cons_zero, List.set_cons_succ, i64_w, i32_w]
     rfl
    refine take_ (i := 9) (N := some 36) (v := ?_) (a' := ?_) #[true, true, true, false, true, true, true, false, true, true, true, false, true, false, true, false, false, false] rfl rfl (take_ofW HT_.out HW_.out (by kernel_rfl)) (fun _ _ _ h => h) (Or.inl ⟨by rfl, ?_⟩) hHeld ?_ ?_
    rotate_left
    ·rintro w' ⟨s0, s1, s2, s3⟩
     go_simp
     with_reducible rfl
    rotate_left
    ·simp only [Act.put, List.setIfInBounds_toArray, List.set_cons_zero, List.set_cons_succ, i64_w, i32_w]
     rfl
    refine take_ (i := 13) (N := some 40) (v := ?_) (a' := ?_) #[true, true, true, false, true, true, true, false, true, true, true, false, true, true, true, false, false, false] rfl rfl (take_ofW HT_.out HW_.out (by kernel_rfl)) (fun _ _ _ h => h) (Or.inl ⟨by rfl, ?_⟩) hHeld ?_ ?_
    rotate_left
    ·rintro w' ⟨s0, s1, s2, s3⟩
     go_simp
     with_reducible rfl
    rotate_left
    ·simp only [Act.put, List.setIfInBounds_toArray, List.set_cons_zero, List.set_cons_succ, i64_w, i32_w]
     rfl
    refine one_ (i := 3) (N := some 30) #[true, true, true, true, true, true, true, false, true, true, true, false, true, true, true, false, false, false] rfl rfl (one_of HT_.out (by kernel_rfl)) (by decide) (fun K hK => ?_)
    refine goes_ Try.func81 (by kernel_rfl) rfl #[.int .i64 a0_0, .int .i64 a1] (by rfl) rfl rfl (by (try simp only [List.map_toArray, List.map_cons, List.map_nil]); first | done | rfl | (simp only [List.length_drop, List.length_take]; rfl)) ?_
    with_reducible refine (rect_CeilDiv.calls a0_0 a1 t181 _ A30.out).mono ?_
    rintro e w' ⟨rfl, ⟨nd, rfl⟩⟩
    refine ⟨_, rfl, ?_⟩
    refine hK.out _ _ ⟨(blk_cell BK178.out 0).trans rfl, (blk_cell BK178.out 1).trans rfl, (blk_cell BK178.out 2).trans rfl, (blk_cell BK178.out 3).trans rfl⟩ (fun hHeld => ?_)
    clear hK K
    refine nT ?_
    refine one_ (i := 7) (N := some 34) #[true, true, true, true, true, true, true, true, true, true, true, false, true, true, true, false, false, false] rfl rfl (one_of HT_.out (by kernel_rfl)) (by decide) (fun K hK => ?_)
    refine goes_ Try.func81 (by kernel_rfl) rfl #[.int .i64 a0_1, .int .i64 a2] (by rfl) rfl rfl (by (try simp only [List.map_toArray, List.map_cons, List.map_nil]); first | done | rfl | (simp only [List.length_drop, List.length_take]; rfl)) ?_
    with_reducible refine (rect_CeilDiv.calls a0_1 a2 t182 _ A31.out).mono ?_
    rintro e w' ⟨rfl, ⟨nd, rfl⟩⟩
    refine ⟨_, rfl, ?_⟩
    refine hK.out _ _ ⟨(blk_cell BK178.out 0).trans rfl, (blk_cell BK178.out 1).trans rfl, (blk_cell BK178.out 2).trans rfl, (blk_cell BK178.out 3).trans rfl⟩ (fun hHeld => ?_)
    clear hK K
    refine nT ?_
    refine one_ (i := 11) (N := some 38) #[true, true, true, true, true, true, true, true, true, true, true, true, true, true, true, false, false, false] rfl rfl (one_of HT_.out (by kernel_rfl)) (by decide) (fun K hK => ?_)
    refine goes_ Try.func81 (by kernel_rfl) rfl #[.int .i64 a0_2, .int .i64 a1] (by rfl) rfl rfl (by (try simp only [List.map_toArray, List.map_cons, List.map_nil]); first | done | rfl | (simp only [List.length_drop, List.length_take]; rfl)) ?_
    with_reducible refine (rect_CeilDiv.calls a0_2 a1 t183 _ A32.out).mono ?_
    rintro e w' ⟨rfl, ⟨nd, rfl⟩⟩
    refine ⟨_, rfl, ?_⟩
    refine hK.out _ _ ⟨(blk_cell BK178.out 0).trans rfl, (blk_cell BK178.out 1).trans rfl, (blk_cell BK178.out 2).trans rfl, (blk_cell BK178.out 3).trans rfl⟩ (fun hHeld => ?_)
    clear hK K
    refine nT ?_
    refine one_ (i := 15) (N := some 42) #[true, true, true, true, true, true, true, true, true, true, true, true, true, true, true, true, false, false] rfl rfl (one_of HT_.out (by kernel_rfl)) (by decide) (fun K hK => ?_)
    refine goes_ Try.func81 (by kernel_rfl) rfl #[.int .i64 a0_3, .int .i64 a2] (by rfl) rfl rfl (by (try simp only [List.map_toArray, List.map_cons, List.map_nil]); first | done | rfl | (simp only [List.length_drop, List.length_take]; rfl)) ?_
    with_reducible refine (rect_CeilDiv.calls a0_3 a2 t184 _ A33.out).mono ?_
    rintro e w' ⟨rfl, ⟨nd, rfl⟩⟩
    refine ⟨_, rfl, ?_⟩
    refine hK.out _ _ ⟨(blk_cell BK178.out 0).trans rfl, (blk_cell BK178.out 1).trans rfl, (blk_cell BK178.out 2).trans rfl, (blk_cell BK178.out 3).trans rfl⟩ (fun hHeld => ?_)
    clear hK K
    refine nT ?_
    refine pTT (i := 16) (N := some 43) HT_.out ?_
    refine one_ (i := 17) (N := none) #[true, true, true, true, true, true, true, true, true, true, true, true, true, true, true, true, true, true] rfl rfl (one_of HT_.out (by kernel_rfl)) (by decide) (fun K hK => ?_)
    have hs35 : w34.cell? ⟨gb179, 0, none⟩ = some (.int .i64 0) := (blk_cell BK179.out 0).trans rfl
    have hfs35 := blk_frozen BK179.out 0
    have hns35_0 := NB178_179.out
    have hms35_0 := NB179_178.out
    have hs36 : w34.cell? ⟨gb179, 1, none⟩ = some (.int .i64 0) := (blk_cell BK179.out 1).trans rfl
    have hfs36 := blk_frozen BK179.out 1
    have hns36_0 := NB178_179.out
    have hms36_0 := NB179_178.out
    have hs37 : w34.cell? ⟨gb179, 2, none⟩ = some (.int .i64 0) := (blk_cell BK179.out 2).trans rfl
    have hfs37 := blk_frozen BK179.out 2
    have hns37_0 := NB178_179.out
    have hms37_0 := NB179_178.out
    have hs38 : w34.cell? ⟨gb179, 3, none⟩ = some (.int .i64 0) := (blk_cell BK179.out 3).trans rfl
    have hfs38 := blk_frozen BK179.out 3
    have hns38_0 := NB178_179.out
    have hms38_0 := NB179_178.out
    refine skip_ (w1 := ?_) (by rfl) rfl ?_ ?_
    rotate_left
    ·go_simp
     rfl
    refine hK.out _ _ ⟨((cell_far (p := ⟨gb179, _, none⟩) NB178_179.out _).trans (((cell_far (p := ⟨gb179, _, none⟩) NB178_179.out _).trans (((cell_far (p := ⟨gb179, _, none⟩) NB178_179.out _).trans (((cell_far (p := ⟨gb179, _, none⟩) NB178_179.out _).trans (hHeld.1)))))))), ((cell_far (p := ⟨gb179, _, none⟩) NB178_179.out _).trans (((cell_far (p := ⟨gb179, _, none⟩) NB178_179.out _).trans (((cell_far (p := ⟨gb179, _, none⟩) NB178_179.out _).trans (((cell_far (p := ⟨gb179, _, none⟩) NB178_179.out _).trans (hHeld.2.1)))))))), ((cell_far (p := ⟨gb179, _, none⟩) NB178_179.out _).trans (((cell_far (p := ⟨gb179, _, none⟩) NB178_179.out _).trans (((cell_far (p := ⟨gb179, _, none⟩) NB178_179.out _).trans (((cell_far (p := ⟨gb179, _, none⟩) NB178_179.out _).trans (hHeld.2.2.1)))))))), ((cell_far (p := ⟨gb179, _, none⟩) NB178_179.out _).trans (((cell_far (p := ⟨gb179, _, none⟩) NB178_179.out _).trans (((cell_far (p := ⟨gb179, _, none⟩) NB178_179.out _).trans (((cell_far (p := ⟨gb179, _, none⟩) NB178_179.out _).trans (hHeld.2.2.2))))))))⟩ (fun hHeld => ?_)
    clear hK K
    refine done_ (done_of HT_.out (by kernel_rfl)) ?_
    try go_wp2
    refine bodyPost_ret (results_cell_row rfl _ _ gb179 23 #[.int .i64 t181, .int .i64 t182, .int .i64 t183, .int .i64 t184] (0, 0) _ rfl (by (with_reducible repeat (first | refine blk_drewN ?_ _ | refine blk_drew ?_ | refine blk_alloc ?_ _)); refine blk_put (cs := #[.int .i64 t181, .int .i64 t182, .int .i64 t183, .int .i64 0]) ?_ 3 _ rfl; (with_reducible repeat (first | refine blk_drewN ?_ _ | refine blk_drew ?_ | refine blk_alloc ?_ _)); refine blk_put (cs := #[.int .i64 t181, .int .i64 t182, .int .i64 0, .int .i64 0]) ?_ 2 _ rfl; (with_reducible repeat (first | refine blk_drewN ?_ _ | refine blk_drew ?_ | refine blk_alloc ?_ _)); refine blk_put (cs := #[.int .i64 t181, .int .i64 0, .int .i64 0, .int .i64 0]) ?_ 1 _ rfl; (with_reducible repeat (first | refine blk_drewN ?_ _ | refine blk_drew ?_ | refine blk_alloc ?_ _)); refine blk_put (cs := #[.int .i64 0, .int .i64 0, .int .i64 0, .int .i64 0]) ?_ 0 _ rfl; exact upK BK179.out) Try.underlying23 rfl (by kernel_rfl)) rfl ?_
    exact ⟨by first | rfl | (simp [errW_none, errW_some] <;> rfl) | (simp [*, errW_none, errW_some] <;> rfl), by repeat (first | (with_reducible first | exact HB.out | apply below_alloc | apply pw_below_drewN | apply below_drew1 | refine below_set ?_ GE178.out | refine below_set ?_ GE179.out) | exact HB.out)⟩
end Go.Proofs.Ytcnpekpgghppnaa.Q
namespace Go.Proofs.Ytcnpekpgghppnaa.Q
open Go.RowKit Go.Proofs.YtcnpekpgghppnaaW.PrintWords Go.Proofs.YtcnpekpgghppnaaW.PrintLast Go.Proofs.YtcnpekpgghppnaaW.PrintMore
attribute [local go_sem] max2_int min2_int max_two min_two max_three min_three max_four min_four
set_option linter.unusedVariables false
set_option linter.unusedSimpArgs false
def pyramid_Resolution.f (k : Nat) (a0_0 : Int) (a0_1 : Int) (a0_2 : Int) (a0_3 : Int) (a1 : Int) (a2 : Int) : Option (Int × Int × Int × Int) := (pyramid_validLevels.f a1).bind fun t187 => (if t187 = true then (if a2 < 0 then (some (0, 0, 0, 0)) else (if a2 > a1 then (some (0, 0, 0, 0)) else (if 0 ≤ (IntKind.u64.wrap (wrap64 (a1 - a2))) then ((rect_Reduce.f k a0_0 a0_1 a0_2 a0_3 (shl .i64 1 (IntKind.u64.wrap (wrap64 (a1 - a2)))) (shl .i64 1 (IntKind.u64.wrap (wrap64 (a1 - a2))))).bind fun bt188 => (some (bt188.1, bt188.2.1, bt188.2.2.1, bt188.2.2.2))) else (none)))) else (some (0, 0, 0, 0)))
set_option maxHeartbeats 8000000 in
set_option maxRecDepth 100000 in
theorem pyramid_Resolution.calls (k : Nat) (a0_0 : Int) (a0_1 : Int) (a0_2 : Int) (a0_3 : Int) (a1 : Int) (a2 : Int) (r1 : Int) (r2 : Int) (r3 : Int) (r4 : Int) (w : World) (h : pyramid_Resolution.f k a0_0 a0_1 a0_2 a0_3 a1 a2 = some (r1, r2, r3, r4)) :
  Calls Try.prog 33 #[.agg #[.int .i64 a0_0, .int .i64 a0_1, .int .i64 a0_2, .int .i64 a0_3], .int .i64 a1, .int .i64 a2] w fun e w' => e = .returned (.agg #[.int .i64 r1, .int .i64 r2, .int .i64 r3, .int .i64 r4]) ∧ Below w.heap.size w w' := by
 have hu23 := Try.underlying23
 have HB := Aside0.mk (Below.refl w.heap.size w)
 have H : ((pyramid_validLevels.f a1).bind fun t187 => (if t187 = true then (if a2 < 0 then (some (0, 0, 0, 0)) else (if a2 > a1 then (some (0, 0, 0, 0)) else (if 0 ≤ (IntKind.u64.wrap (wrap64 (a1 - a2))) then ((rect_Reduce.f k a0_0 a0_1 a0_2 a0_3 (shl .i64 1 (IntKind.u64.wrap (wrap64 (a1 - a2)))) (shl .i64 1 (IntKind.u64.wrap (wrap64 (a1 - a2))))).bind fun bt188 => (some (bt188.1, bt188.2.1, bt188.2.2.1, bt188.2.2.2))) else (none)))) else (some (0, 0, 0, 0)))) = some (r1, r2, r3, r4) := h
 clear h
 replace H := Option.bind_eq_some_iff.mp H
 obtain ⟨t187, A40, H⟩ := H
 replace H : (if t187 = true then (if a2 < 0 then (some (0, 0, 0, 0)) else (if a2 > a1 then (some (0, 0, 0, 0)) else (if 0 ≤ (IntKind.u64.wrap (wrap64 (a1 - a2))) then ((rect_Reduce.f k a0_0 a0_1 a0_2 a0_3 (shl .i64 1 (IntKind.u64.wrap (wrap64 (a1 - a2)))) (shl .i64 1 (IntKind.u64.wrap (wrap64 (a1 - a2))))).bind fun bt188 => (some (bt188.1, bt188.2.1, bt188.2.2.1, bt188.2.2.2))) else (none)))) else (some (0, 0, 0, 0))) = some (r1, r2, r3, r4) := H
 have A4 := Aside0.mk A40
 clear A40
 by_cases c5 : t187 = true
 ·subst c5
  have H1 : (if a2 < 0 then (some (0, 0, 0, 0)) else (if a2 > a1 then (some (0, 0, 0, 0)) else (if 0 ≤ (IntKind.u64.wrap (wrap64 (a1 - a2))) then ((rect_Reduce.f k a0_0 a0_1 a0_2 a0_3 (shl .i64 1 (IntKind.u64.wrap (wrap64 (a1 - a2)))) (shl .i64 1 (IntKind.u64.wrap (wrap64 (a1 - a2))))).bind fun bt188 => (some (bt188.1, bt188.2.1, bt188.2.2.1, bt188.2.2.2))) else (none)))) = some (r1, r2, r3, r4) := by rw [if_pos rfl] at H; exact H
  clear H
  have H := H1
  clear H1
  by_cases c6 : a2 < 0
  ·rw [if_pos c6] at H
   have c6b0 : decide (a2 < 0) = true := decide_eq_true c6
   clear c6
   simp only [Option.some.injEq, Prod.mk.injEq] at H
   obtain ⟨rfl, rfl, rfl, rfl⟩ := H
   go_enter Try.func33, Try.ntmps33
   go_wp2_with (first | ((with_reducible refine gate_dst (N := 3) rfl ?_); refine bT (N := 3) (#[.int .i64 a0_0, .int .i64 a0_1, .int .i64 a0_2, .int .i64 a0_3]) 23 ?_; intro gb185 hg w7 hbox hb; have n0_ := Aside0.mk (below_step (by repeat (first | (with_reducible first | exact HB.out | apply below_alloc | apply pw_below_drewN | apply below_drew1) | exact HB.out)) hb); have n1_ := Aside0.mk (hbox); have n2_ := Aside0.mk ((by rw [hg]; exact (below_size (by repeat (first | (with_reducible first | exact HB.out | apply below_alloc | apply pw_below_drewN | apply below_drew1) | exact HB.out))) : w.heap.size ≤ gb185)); have n3_ := Aside0.mk ((by rw [hg]; exact (below_size (by repeat (first | (with_reducible first | exact HB.out | apply below_alloc | apply pw_below_drewN | apply below_drew1) | exact HB.out))) : w.heap.size ≤ gb185)); clear HB; have HB := n0_; have BK185 := n1_; have GW185 := n2_; have GE185 := n3_; clear n0_ n1_ n2_ n3_; clear hb hbox hg) | ((with_reducible refine gate_dst (N := 6) rfl ?_); refine bT (N := 6) (#[.int .i64 0, .int .i64 0, .int .i64 0, .int .i64 0]) 23 ?_; intro gb186 hg w8 hbox hb; have n0_ := Aside0.mk (blk_below (g := gb185) (o := .cells #[.int .i64 a0_0, .int .i64 a0_1, .int .i64 a0_2, .int .i64 a0_3] 23 (0, 0)) (by exact upK BK185.out) hb); have n1_ := Aside0.mk (below_step (by repeat (first | (with_reducible first | exact HB.out | apply below_alloc | apply pw_below_drewN | apply below_drew1 | refine below_set ?_ GE185.out) | exact HB.out)) hb); have n2_ := Aside0.mk (hbox); have n3_ := Aside0.mk ((by rw [hg]; exact (below_size (by repeat (first | (with_reducible first | exact HB.out | apply below_alloc | apply pw_below_drewN | apply below_drew1 | refine below_set ?_ GE185.out) | exact HB.out))) : w.heap.size ≤ gb186)); have n4_ := Aside0.mk ((by rw [hg]; exact (below_size (by repeat (first | (with_reducible first | exact HB.out | apply below_alloc | apply pw_below_drewN | apply below_drew1 | refine below_set ?_ GE185.out) | exact HB.out))) : w.heap.size ≤ gb186)); have n5_ := Aside0.mk ((by rw [hg]; exact Nat.ne_of_lt (blk_lt (g := gb185) (o := .cells #[.int .i64 a0_0, .int .i64 a0_1, .int .i64 a0_2, .int .i64 a0_3] 23 (0, 0)) (by exact upK BK185.out)) : gb185 ≠ gb186)); have n6_ := Aside0.mk ((by rw [hg]; exact Nat.ne_of_gt (blk_lt (g := gb185) (o := .cells #[.int .i64 a0_0, .int .i64 a0_1, .int .i64 a0_2, .int .i64 a0_3] 23 (0, 0)) (by exact upK BK185.out)) : gb186 ≠ gb185)); clear BK185; clear HB; have BK185 := n0_; have HB := n1_; have BK186 := n2_; have GW186 := n3_; have GE186 := n4_; have NB185_186 := n5_; have NB186_185 := n6_; clear n0_ n1_ n2_ n3_ n4_ n5_ n6_; clear hb hbox hg) | ((with_reducible refine gate_callee (f := 27) rfl ?_); refine goesL_ (some 9) rfl rfl Try.func27 (by kernel_rfl) rfl #[.int .i64 a1] rfl (by (try simp only [List.map_toArray, List.map_cons, List.map_nil]); first | done | rfl | (simp only [List.length_drop, List.length_take]; rfl)) ?_; (with_reducible refine (pyramid_validLevels.calls a1 true _ A4.out).mono ?_); rintro e w' ⟨rfl, ⟨nd, rfl⟩⟩; refine ⟨_, rfl, ?_⟩; (try (rw [drewN_self w8]; generalize hq_ : World.drewN w8 _ = w8; have n0_ : Aside0 (w8.heap[gb185]? = some (.cells #[.int .i64 a0_0, .int .i64 a0_1, .int .i64 a0_2, .int .i64 a0_3] 23 (0, 0))) := ⟨by rw [← hq_]; exact (by exact upK BK185.out)⟩; have n1_ : Aside0 (w8.heap[gb186]? = some (.cells #[.int .i64 0, .int .i64 0, .int .i64 0, .int .i64 0] 23 (0, 0))) := ⟨by rw [← hq_]; exact (by exact upK BK186.out)⟩; have n2_ : Aside0 (Below w.heap.size w w8) := ⟨by rw [← hq_]; exact (by repeat (first | (with_reducible first | exact HB.out | apply below_alloc | apply pw_below_drewN | apply below_drew1 | refine below_set ?_ GE185.out | refine below_set ?_ GE186.out) | exact HB.out))⟩; clear BK185 BK186 HB hq_; have BK185 := n0_; have BK186 := n1_; have HB := n2_; clear n0_ n1_ n2_)); have hnb9 := NB186_185.out; have hnc9 := NB185_186.out; have hcz10_0 : w8.cell? ⟨gb186, 0, none⟩ = some (.int .i64 0) := (blk_cell BK186.out 0).trans rfl; have hcz10_1 : w8.cell? ⟨gb186, 1, none⟩ = some (.int .i64 0) := (blk_cell BK186.out 1).trans rfl; have hcz10_2 : w8.cell? ⟨gb186, 2, none⟩ = some (.int .i64 0) := (blk_cell BK186.out 2).trans rfl; have hcz10_3 : w8.cell? ⟨gb186, 3, none⟩ = some (.int .i64 0) := (blk_cell BK186.out 3).trans rfl; have hfz10_0 := blk_frozen BK186.out 0; have hfz10_1 := blk_frozen BK186.out 1; have hfz10_2 := blk_frozen BK186.out 2; have hfz10_3 := blk_frozen BK186.out 3))
   refine bodyPost_ret (results_cell_row rfl _ _ gb186 23 #[.int .i64 0, .int .i64 0, .int .i64 0, .int .i64 0] (0, 0) _ rfl (by (with_reducible repeat (first | refine blk_drewN ?_ _ | refine blk_drew ?_ | refine blk_alloc ?_ _)); refine blk_put (cs := #[.int .i64 0, .int .i64 0, .int .i64 0, .int .i64 0]) ?_ 3 _ rfl; (with_reducible repeat (first | refine blk_drewN ?_ _ | refine blk_drew ?_ | refine blk_alloc ?_ _)); refine blk_put (cs := #[.int .i64 0, .int .i64 0, .int .i64 0, .int .i64 0]) ?_ 2 _ rfl; (with_reducible repeat (first | refine blk_drewN ?_ _ | refine blk_drew ?_ | refine blk_alloc ?_ _)); refine blk_put (cs := #[.int .i64 0, .int .i64 0, .int .i64 0, .int .i64 0]) ?_ 1 _ rfl; (with_reducible repeat (first | refine blk_drewN ?_ _ | refine blk_drew ?_ | refine blk_alloc ?_ _)); refine blk_put (cs := #[.int .i64 0, .int .i64 0, .int .i64 0, .int .i64 0]) ?_ 0 _ rfl; exact upK BK186.out) Try.underlying23 rfl (by kernel_rfl)) rfl ?_
   exact ⟨by first | rfl | (simp [errW_none, errW_some] <;> rfl) | (simp [*, errW_none, errW_some] <;> rfl), by repeat (first | (with_reducible first | exact HB.out | apply below_alloc | apply pw_below_drewN | apply below_drew1 | refine below_set ?_ GE185.out | refine below_set ?_ GE186.out) | exact HB.out)⟩
  ·rw [if_neg c6] at H
   have c6b0 : decide (a2 < 0) = false := decide_eq_false c6
   clear c6
   by_cases c11 : a2 > a1
   ·rw [if_pos c11] at H
    have c11b0 : decide (a1 < a2) = true := decide_eq_true c11
    clear c11
    simp only [Option.some.injEq, Prod.mk.injEq] at H
    obtain ⟨rfl, rfl, rfl, rfl⟩ := H
    go_enter Try.func33, Try.ntmps33
    go_wp2_with (first | ((with_reducible refine gate_dst (N := 3) rfl ?_); refine bT (N := 3) (#[.int .i64 a0_0, .int .i64 a0_1, .int .i64 a0_2, .int .i64 a0_3]) 23 ?_; intro gb185 hg w12 hbox hb; have n0_ := Aside0.mk (below_step (by repeat (first | (with_reducible first | exact HB.out | apply below_alloc | apply pw_below_drewN | apply below_drew1) | exact HB.out)) hb); have n1_ := Aside0.mk (hbox); have n2_ := Aside0.mk ((by rw [hg]; exact (below_size (by repeat (first | (with_reducible first | exact HB.out | apply below_alloc | apply pw_below_drewN | apply below_drew1) | exact HB.out))) : w.heap.size ≤ gb185)); have n3_ := Aside0.mk ((by rw [hg]; exact (below_size (by repeat (first | (with_reducible first | exact HB.out | apply below_alloc | apply pw_below_drewN | apply below_drew1) | exact HB.out))) : w.heap.size ≤ gb185)); clear HB; have HB := n0_; have BK185 := n1_; have GW185 := n2_; have GE185 := n3_; clear n0_ n1_ n2_ n3_; clear hb hbox hg) | ((with_reducible refine gate_dst (N := 6) rfl ?_); refine bT (N := 6) (#[.int .i64 0, .int .i64 0, .int .i64 0, .int .i64 0]) 23 ?_; intro gb186 hg w13 hbox hb; have n0_ := Aside0.mk (blk_below (g := gb185) (o := .cells #[.int .i64 a0_0, .int .i64 a0_1, .int .i64 a0_2, .int .i64 a0_3] 23 (0, 0)) (by exact upK BK185.out) hb); have n1_ := Aside0.mk (below_step (by repeat (first | (with_reducible first | exact HB.out | apply below_alloc | apply pw_below_drewN | apply below_drew1 | refine below_set ?_ GE185.out) | exact HB.out)) hb); have n2_ := Aside0.mk (hbox); have n3_ := Aside0.mk ((by rw [hg]; exact (below_size (by repeat (first | (with_reducible first | exact HB.out | apply below_alloc | apply pw_below_drewN | apply below_drew1 | refine below_set ?_ GE185.out) | exact HB.out))) : w.heap.size ≤ gb186)); have n4_ := Aside0.mk ((by rw [hg]; exact (below_size (by repeat (first | (with_reducible first | exact HB.out | apply below_alloc | apply pw_below_drewN | apply below_drew1 | refine below_set ?_ GE185.out) | exact HB.out))) : w.heap.size ≤ gb186)); have n5_ := Aside0.mk ((by rw [hg]; exact Nat.ne_of_lt (blk_lt (g := gb185) (o := .cells #[.int .i64 a0_0, .int .i64 a0_1, .int .i64 a0_2, .int .i64 a0_3] 23 (0, 0)) (by exact upK BK185.out)) : gb185 ≠ gb186)); have n6_ := Aside0.mk ((by rw [hg]; exact Nat.ne_of_gt (blk_lt (g := gb185) (o := .cells #[.int .i64 a0_0, .int .i64 a0_1, .int .i64 a0_2, .int .i64 a0_3] 23 (0, 0)) (by exact upK BK185.out)) : gb186 ≠ gb185)); clear BK185; clear HB; have BK185 := n0_; have HB := n1_; have BK186 := n2_; have GW186 := n3_; have GE186 := n4_; have NB185_186 := n5_; have NB186_185 := n6_; clear n0_ n1_ n2_ n3_ n4_ n5_ n6_; clear hb hbox hg) | ((with_reducible refine gate_callee (f := 27) rfl ?_); refine goesL_ (some 9) rfl rfl Try.func27 (by kernel_rfl) rfl #[.int .i64 a1] rfl (by (try simp only [List.map_toArray, List.map_cons, List.map_nil]); first | done | rfl | (simp only [List.length_drop, List.length_take]; rfl)) ?_; (with_reducible refine (pyramid_validLevels.calls a1 true _ A4.out).mono ?_); rintro e w' ⟨rfl, ⟨nd, rfl⟩⟩; refine ⟨_, rfl, ?_⟩; (try (rw [drewN_self w13]; generalize hq_ : World.drewN w13 _ = w13; have n0_ : Aside0 (w13.heap[gb185]? = some (.cells #[.int .i64 a0_0, .int .i64 a0_1, .int .i64 a0_2, .int .i64 a0_3] 23 (0, 0))) := ⟨by rw [← hq_]; exact (by exact upK BK185.out)⟩; have n1_ : Aside0 (w13.heap[gb186]? = some (.cells #[.int .i64 0, .int .i64 0, .int .i64 0, .int .i64 0] 23 (0, 0))) := ⟨by rw [← hq_]; exact (by exact upK BK186.out)⟩; have n2_ : Aside0 (Below w.heap.size w w13) := ⟨by rw [← hq_]; exact (by repeat (first | (with_reducible first | exact HB.out | apply below_alloc | apply pw_below_drewN | apply below_drew1 | refine below_set ?_ GE185.out | refine below_set ?_ GE186.out) | exact HB.out))⟩; clear BK185 BK186 HB hq_; have BK185 := n0_; have BK186 := n1_; have HB := n2_; clear n0_ n1_ n2_)); have hnb14 := NB186_185.out; have hnc14 := NB185_186.out; have hcz15_0 : w13.cell? ⟨gb186, 0, none⟩ = some (.int .i64 0) := (blk_cell BK186.out 0).trans rfl; have hcz15_1 : w13.cell? ⟨gb186, 1, none⟩ = some (.int .i64 0) := (blk_cell BK186.out 1).trans rfl; have hcz15_2 : w13.cell? ⟨gb186, 2, none⟩ = some (.int .i64 0) := (blk_cell BK186.out 2).trans rfl; have hcz15_3 : w13.cell? ⟨gb186, 3, none⟩ = some (.int .i64 0) := (blk_cell BK186.out 3).trans rfl; have hfz15_0 := blk_frozen BK186.out 0; have hfz15_1 := blk_frozen BK186.out 1; have hfz15_2 := blk_frozen BK186.out 2; have hfz15_3 := blk_frozen BK186.out 3))
    refine bodyPost_ret (results_cell_row rfl _ _ gb186 23 #[.int .i64 0, .int .i64 0, .int .i64 0, .int .i64 0] (0, 0) _ rfl (by (with_reducible repeat (first | refine blk_drewN ?_ _ | refine blk_drew ?_ | refine blk_alloc ?_ _)); refine blk_put (cs := #[.int .i64 0, .int .i64 0, .int .i64 0, .int .i64 0]) ?_ 3 _ rfl; (with_reducible repeat (first | refine blk_drewN ?_ _ | refine blk_drew ?_ | refine blk_alloc ?_ _)); refine blk_put (cs := #[.int .i64 0, .int .i64 0, .int .i64 0, .int .i64 0]) ?_ 2 _ rfl; (with_reducible repeat (first | refine blk_drewN ?_ _ | refine blk_drew ?_ | refine blk_alloc ?_ _)); refine blk_put (cs := #[.int .i64 0, .int .i64 0, .int .i64 0, .int .i64 0]) ?_ 1 _ rfl; (with_reducible repeat (first | refine blk_drewN ?_ _ | refine blk_drew ?_ | refine blk_alloc ?_ _)); refine blk_put (cs := #[.int .i64 0, .int .i64 0, .int .i64 0, .int .i64 0]) ?_ 0 _ rfl; exact upK BK186.out) Try.underlying23 rfl (by kernel_rfl)) rfl ?_
    exact ⟨by first | rfl | (simp [errW_none, errW_some] <;> rfl) | (simp [*, errW_none, errW_some] <;> rfl), by repeat (first | (with_reducible first | exact HB.out | apply below_alloc | apply pw_below_drewN | apply below_drew1 | refine below_set ?_ GE185.out | refine below_set ?_ GE186.out) | exact HB.out)⟩
   ·rw [if_neg c11] at H
    have c11b0 : decide (a1 < a2) = false := decide_eq_false c11
    clear c11
    obtain ⟨ji16, hji16⟩ : ∃ j_ : Int, (IntKind.u64.wrap (wrap64 (a1 - a2))) = j_ := ⟨_, rfl⟩
    replace H : (if 0 ≤ (ji16) then ((rect_Reduce.f k a0_0 a0_1 a0_2 a0_3 (shl .i64 1 (ji16)) (shl .i64 1 (ji16))).bind fun bt188 => (some (bt188.1, bt188.2.1, bt188.2.2.1, bt188.2.2.2))) else (none)) = some (r1, r2, r3, r4) := by first | (rw [hji16] at H; exact H) | (simp only [hji16] at H ⊢; exact H)
    (try rw [hji16] at A4)
    by_cases c17 : 0 ≤ (ji16)
    ·rw [if_pos c17] at H
     have c17b0 := eq_true c17
     have c17b1 : decide (0 ≤ (ji16)) = true := decide_eq_true c17
     clear c17
     obtain ⟨ji18, hji18⟩ : ∃ j_ : Int, (shl .i64 1 (ji16)) = j_ := ⟨_, rfl⟩
     replace H : ((rect_Reduce.f k a0_0 a0_1 a0_2 a0_3 (ji18) (ji18)).bind fun bt188 => (some (bt188.1, bt188.2.1, bt188.2.2.1, bt188.2.2.2))) = some (r1, r2, r3, r4) := by first | (rw [hji18] at H; exact H) | (simp only [hji18] at H ⊢; exact H)
     (try rw [hji18] at A4)
     have hji18_ : (IntKind.i64.wrap (1 * 2 ^ min (ji16).toNat 64)) = ji18 := hji18
     have hji18z : (ji16) ≤ 64 → (IntKind.i64.wrap (1 * 2 ^ (ji16).toNat)) = ji18 := shl_small hji18
     have hji18u : (IntKind.i64.wrap (2 ^ min (ji16).toNat 64)) = ji18 := by have h_ := hji18_; rw [Int.one_mul] at h_; exact h_
     have hji18v : (ji16) ≤ 64 → (IntKind.i64.wrap (2 ^ (ji16).toNat)) = ji18 := fun hle_ => by have h_ := hji18z hle_; rw [Int.one_mul] at h_; exact h_
     have hji18y : (wrap64 (1 * 2 ^ min (ji16).toNat 64)) = ji18 := (i64_w _).symm.trans hji18_
     have hji18x : (ji16) ≤ 64 → (wrap64 (1 * 2 ^ (ji16).toNat)) = ji18 := fun h_ => (i64_w _).symm.trans (hji18z h_)
     replace H := Option.bind_eq_some_iff.mp H
     obtain ⟨⟨t188, t189, t190, t191⟩, A190, H⟩ := H
     replace H : (some (t188, t189, t190, t191)) = some (r1, r2, r3, r4) := H
     have A19 := Aside0.mk A190
     clear A190
     simp only [Option.some.injEq, Prod.mk.injEq] at H
     obtain ⟨rfl, rfl, rfl, rfl⟩ := H
     go_enter Try.func33, Try.ntmps33
     go_wp2_with (first | ((with_reducible refine gate_dst (N := 3) rfl ?_); refine bT (N := 3) (#[.int .i64 a0_0, .int .i64 a0_1, .int .i64 a0_2, .int .i64 a0_3]) 23 ?_; intro gb185 hg w20 hbox hb; have n0_ := Aside0.mk (below_step (by repeat (first | (with_reducible first | exact HB.out | apply below_alloc | apply pw_below_drewN | apply below_drew1) | exact HB.out)) hb); have n1_ := Aside0.mk (hbox); have n2_ := Aside0.mk ((by rw [hg]; exact (below_size (by repeat (first | (with_reducible first | exact HB.out | apply below_alloc | apply pw_below_drewN | apply below_drew1) | exact HB.out))) : w.heap.size ≤ gb185)); have n3_ := Aside0.mk ((by rw [hg]; exact (below_size (by repeat (first | (with_reducible first | exact HB.out | apply below_alloc | apply pw_below_drewN | apply below_drew1) | exact HB.out))) : w.heap.size ≤ gb185)); clear HB; have HB := n0_; have BK185 := n1_; have GW185 := n2_; have GE185 := n3_; clear n0_ n1_ n2_ n3_; clear hb hbox hg) | ((with_reducible refine gate_dst (N := 6) rfl ?_); refine bT (N := 6) (#[.int .i64 0, .int .i64 0, .int .i64 0, .int .i64 0]) 23 ?_; intro gb186 hg w21 hbox hb; have n0_ := Aside0.mk (blk_below (g := gb185) (o := .cells #[.int .i64 a0_0, .int .i64 a0_1, .int .i64 a0_2, .int .i64 a0_3] 23 (0, 0)) (by exact upK BK185.out) hb); have n1_ := Aside0.mk (below_step (by repeat (first | (with_reducible first | exact HB.out | apply below_alloc | apply pw_below_drewN | apply below_drew1 | refine below_set ?_ GE185.out) | exact HB.out)) hb); have n2_ := Aside0.mk (hbox); have n3_ := Aside0.mk ((by rw [hg]; exact (below_size (by repeat (first | (with_reducible first | exact HB.out | apply below_alloc | apply pw_below_drewN | apply below_drew1 | refine below_set ?_ GE185.out) | exact HB.out))) : w.heap.size ≤ gb186)); have n4_ := Aside0.mk ((by rw [hg]; exact (below_size (by repeat (first | (with_reducible first | exact HB.out | apply below_alloc | apply pw_below_drewN | apply below_drew1 | refine below_set ?_ GE185.out) | exact HB.out))) : w.heap.size ≤ gb186)); have n5_ := Aside0.mk ((by rw [hg]; exact Nat.ne_of_lt (blk_lt (g := gb185) (o := .cells #[.int .i64 a0_0, .int .i64 a0_1, .int .i64 a0_2, .int .i64 a0_3] 23 (0, 0)) (by exact upK BK185.out)) : gb185 ≠ gb186)); have n6_ := Aside0.mk ((by rw [hg]; exact Nat.ne_of_gt (blk_lt (g := gb185) (o := .cells #[.int .i64 a0_0, .int .i64 a0_1, .int .i64 a0_2, .int .i64 a0_3] 23 (0, 0)) (by exact upK BK185.out)) : gb186 ≠ gb185)); clear BK185; clear HB; have BK185 := n0_; have HB := n1_; have BK186 := n2_; have GW186 := n3_; have GE186 := n4_; have NB185_186 := n5_; have NB186_185 := n6_; clear n0_ n1_ n2_ n3_ n4_ n5_ n6_; clear hb hbox hg) | ((with_reducible refine gate_callee (f := 27) rfl ?_); refine goesL_ (some 9) rfl rfl Try.func27 (by kernel_rfl) rfl #[.int .i64 a1] rfl (by (try simp only [List.map_toArray, List.map_cons, List.map_nil]); first | done | rfl | (simp only [List.length_drop, List.length_take]; rfl)) ?_; (with_reducible refine (pyramid_validLevels.calls a1 true _ A4.out).mono ?_); rintro e w' ⟨rfl, ⟨nd, rfl⟩⟩; refine ⟨_, rfl, ?_⟩; (try (rw [drewN_self w21]; generalize hq_ : World.drewN w21 _ = w21; have n0_ : Aside0 (w21.heap[gb185]? = some (.cells #[.int .i64 a0_0, .int .i64 a0_1, .int .i64 a0_2, .int .i64 a0_3] 23 (0, 0))) := ⟨by rw [← hq_]; exact (by exact upK BK185.out)⟩; have n1_ : Aside0 (w21.heap[gb186]? = some (.cells #[.int .i64 0, .int .i64 0, .int .i64 0, .int .i64 0] 23 (0, 0))) := ⟨by rw [← hq_]; exact (by exact upK BK186.out)⟩; have n2_ : Aside0 (Below w.heap.size w w21) := ⟨by rw [← hq_]; exact (by repeat (first | (with_reducible first | exact HB.out | apply below_alloc | apply pw_below_drewN | apply below_drew1 | refine below_set ?_ GE185.out | refine below_set ?_ GE186.out) | exact HB.out))⟩; clear BK185 BK186 HB hq_; have BK185 := n0_; have BK186 := n1_; have HB := n2_; clear n0_ n1_ n2_)); have hnb22 := NB185_186.out; have hnc22 := NB186_185.out; have hcz23_0 : w21.cell? ⟨gb185, 0, none⟩ = some (.int .i64 a0_0) := (blk_cell BK185.out 0).trans rfl; have hcz23_1 : w21.cell? ⟨gb185, 1, none⟩ = some (.int .i64 a0_1) := (blk_cell BK185.out 1).trans rfl; have hcz23_2 : w21.cell? ⟨gb185, 2, none⟩ = some (.int .i64 a0_2) := (blk_cell BK185.out 2).trans rfl; have hcz23_3 : w21.cell? ⟨gb185, 3, none⟩ = some (.int .i64 a0_3) := (blk_cell BK185.out 3).trans rfl; have hfz23_0 := blk_frozen BK185.out 0; have hfz23_1 := blk_frozen BK185.out 1; have hfz23_2 := blk_frozen BK185.out 2; have hfz23_3 := blk_frozen BK185.out 3) | ((with_reducible refine gate_callee (f := 64) rfl ?_); refine goesL_ (some 29) rfl rfl Try.func64 (by kernel_rfl) rfl #[.agg #[.int .i64 a0_0, .int .i64 a0_1, .int .i64 a0_2, .int .i64 a0_3], .int .i64 ji18, .int .i64 ji18] rfl (by (try simp only [List.map_toArray, List.map_cons, List.map_nil]); first | done | (simp only [hji18]; rfl) | rfl | (simp only [List.length_drop, List.length_take]; rfl)) ?_; (with_reducible refine (rect_Reduce.calls k a0_0 a0_1 a0_2 a0_3 ji18 ji18 t188 t189 t190 t191 _ A19.out).mono ?_); rintro e w24 ⟨rfl, hb⟩; refine ⟨_, rfl, ?_⟩; have n0_ := Aside0.mk (blk_below (g := gb185) (o := .cells #[.int .i64 a0_0, .int .i64 a0_1, .int .i64 a0_2, .int .i64 a0_3] 23 (0, 0)) (by exact upK BK185.out) hb); have n1_ := Aside0.mk (blk_below (g := gb186) (o := .cells #[.int .i64 0, .int .i64 0, .int .i64 0, .int .i64 0] 23 (0, 0)) (by exact upK BK186.out) hb); have n2_ := Aside0.mk (below_step (by repeat (first | (with_reducible first | exact HB.out | apply below_alloc | apply pw_below_drewN | apply below_drew1 | refine below_set ?_ GE185.out | refine below_set ?_ GE186.out) | exact HB.out)) hb); clear BK185; clear BK186; clear HB; have BK185 := n0_; have BK186 := n1_; have HB := n2_; clear n0_ n1_ n2_; (try clear hb); (try clear hb2); (try clear hk); (try clear hi); have hcz25_0 : w24.cell? ⟨gb186, 0, none⟩ = some (.int .i64 0) := (blk_cell BK186.out 0).trans rfl; have hcz25_1 : w24.cell? ⟨gb186, 1, none⟩ = some (.int .i64 0) := (blk_cell BK186.out 1).trans rfl; have hcz25_2 : w24.cell? ⟨gb186, 2, none⟩ = some (.int .i64 0) := (blk_cell BK186.out 2).trans rfl; have hcz25_3 : w24.cell? ⟨gb186, 3, none⟩ = some (.int .i64 0) := (blk_cell BK186.out 3).trans rfl; have hfz25_0 := blk_frozen BK186.out 0; have hfz25_1 := blk_frozen BK186.out 1; have hfz25_2 := blk_frozen BK186.out 2; have hfz25_3 := blk_frozen BK186.out 3))
     refine bodyPost_ret (results_cell_row rfl _ _ gb186 23 #[.int .i64 t188, .int .i64 t189, .int .i64 t190, .int .i64 t191] (0, 0) _ rfl (by (with_reducible repeat (first | refine blk_drewN ?_ _ | refine blk_drew ?_ | refine blk_alloc ?_ _)); refine blk_put (cs := #[.int .i64 t188, .int .i64 t189, .int .i64 t190, .int .i64 0]) ?_ 3 _ rfl; (with_reducible repeat (first | refine blk_drewN ?_ _ | refine blk_drew ?_ | refine blk_alloc ?_ _)); refine blk_put (cs := #[.int .i64 t188, .int .i64 t189, .int .i64 0, .int .i64 0]) ?_ 2 _ rfl; (with_reducible repeat (first | refine blk_drewN ?_ _ | refine blk_drew ?_ | refine blk_alloc ?_ _)); refine blk_put (cs := #[.int .i64 t188, .int .i64 0, .int .i64 0, .int .i64 0]) ?_ 1 _ rfl; (with_reducible repeat (first | refine blk_drewN ?_ _ | refine blk_drew ?_ | refine blk_alloc ?_ _)); refine blk_put (cs := #[.int .i64 0, .int .i64 0, .int .i64 0, .int .i64 0]) ?_ 0 _ rfl; exact upK BK186.out) Try.underlying23 rfl (by kernel_rfl)) rfl ?_
     exact ⟨by first | rfl | (simp [errW_none, errW_some] <;> rfl) | (simp only [← hji16, ← hji18]; first | rfl | (simp [errW_none, errW_some] <;> rfl)) | (simp [*, errW_none, errW_some] <;> rfl), by repeat (first | (with_reducible first | exact HB.out | apply below_alloc | apply pw_below_drewN | apply below_drew1 | refine below_set ?_ GE185.out | refine below_set ?_ GE186.out) | exact HB.out)⟩
    ·rw [if_neg c17] at H
     exact absurd H (by simp)
 ·replace c5 := Bool.eq_false_iff.mpr c5
  subst c5
  have H1 : (some (0, 0, 0, 0)) = some (r1, r2, r3, r4) := by rw [if_neg (show ¬ (false = true) by decide)] at H; exact H
  clear H
  have H := H1
  clear H1
  simp only [Option.some.injEq, Prod.mk.injEq] at H
  obtain ⟨rfl, rfl, rfl, rfl⟩ := H
  go_enter Try.func33, Try.ntmps33
  go_wp2_with (first | ((with_reducible refine gate_dst (N := 3) rfl ?_); refine bT (N := 3) (#[.int .i64 a0_0, .int .i64 a0_1, .int .i64 a0_2, .int .i64 a0_3]) 23 ?_; intro gb185 hg w26 hbox hb; have n0_ := Aside0.mk (below_step (by repeat (first | (with_reducible first | exact HB.out | apply below_alloc | apply pw_below_drewN | apply below_drew1) | exact HB.out)) hb); have n1_ := Aside0.mk (hbox); have n2_ := Aside0.mk ((by rw [hg]; exact (below_size (by repeat (first | (with_reducible first | exact HB.out | apply below_alloc | apply pw_below_drewN | apply below_drew1) | exact HB.out))) : w.heap.size ≤ gb185)); have n3_ := Aside0.mk ((by rw [hg]; exact (below_size (by repeat (first | (with_reducible first | exact HB.out | apply below_alloc | apply pw_below_drewN | apply below_drew1) | exact HB.out))) : w.heap.size ≤ gb185)); clear HB; have HB := n0_; have BK185 := n1_; have GW185 := n2_; have GE185 := n3_; clear n0_ n1_ n2_ n3_; clear hb hbox hg) | ((with_reducible refine gate_dst (N := 6) rfl ?_); refine bT (N := 6) (#[.int .i64 0, .int .i64 0, .int .i64 0, .int .i64 0]) 23 ?_; intro gb186 hg w27 hbox hb; have n0_ := Aside0.mk (blk_below (g := gb185) (o := .cells #[.int .i64 a0_0, .int .i64 a0_1, .int .i64 a0_2, .int .i64 a0_3] 23 (0, 0)) (by exact upK BK185.out) hb); have n1_ := Aside0.mk (below_step (by repeat (first | (with_reducible first | exact HB.out | apply below_alloc | apply pw_below_drewN | apply below_drew1 | refine below_set ?_ GE185.out) | exact HB.out)) hb); have n2_ := Aside0.mk (hbox); have n3_ := Aside0.mk ((by rw [hg]; exact (below_size (by repeat (first | (with_reducible first | exact HB.out | apply below_alloc | apply pw_below_drewN | apply below_drew1 | refine below_set ?_ GE185.out) | exact HB.out))) : w.heap.size ≤ gb186)); have n4_ := Aside0.mk ((by rw [hg]; exact (below_size (by repeat (first | (with_reducible first | exact HB.out | apply below_alloc | apply pw_below_drewN | apply below_drew1 | refine below_set ?_ GE185.out) | exact HB.out))) : w.heap.size ≤ gb186)); have n5_ := Aside0.mk ((by rw [hg]; exact Nat.ne_of_lt (blk_lt (g := gb185) (o := .cells #[.int .i64 a0_0, .int .i64 a0_1, .int .i64 a0_2, .int .i64 a0_3] 23 (0, 0)) (by exact upK BK185.out)) : gb185 ≠ gb186)); have n6_ := Aside0.mk ((by rw [hg]; exact Nat.ne_of_gt (blk_lt (g := gb185) (o := .cells #[.int .i64 a0_0, .int .i64 a0_1, .int .i64 a0_2, .int .i64 a0_3] 23 (0, 0)) (by exact upK BK185.out)) : gb186 ≠ gb185)); clear BK185; clear HB; have BK185 := n0_; have HB := n1_; have BK186 := n2_; have GW186 := n3_; have GE186 := n4_; have NB185_186 := n5_; have NB186_185 := n6_; clear n0_ n1_ n2_ n3_ n4_ n5_ n6_; clear hb hbox hg) | ((with_reducible refine gate_callee (f := 27) rfl ?_); refine goesL_ (some 9) rfl rfl Try.func27 (by kernel_rfl) rfl #[.int .i64 a1] rfl (by (try simp only [List.map_toArray, List.map_cons, List.map_nil]); first | done | rfl | (simp only [List.length_drop, List.length_take]; rfl)) ?_; (with_reducible refine (pyramid_validLevels.calls a1 false _ A4.out).mono ?_); rintro e w' ⟨rfl, ⟨nd, rfl⟩⟩; refine ⟨_, rfl, ?_⟩; (try (rw [drewN_self w27]; generalize hq_ : World.drewN w27 _ = w27; have n0_ : Aside0 (w27.heap[gb185]? = some (.cells #[.int .i64 a0_0, .int .i64 a0_1, .int .i64 a0_2, .int .i64 a0_3] 23 (0, 0))) := ⟨by rw [← hq_]; exact (by exact upK BK185.out)⟩; have n1_ : Aside0 (w27.heap[gb186]? = some (.cells #[.int .i64 0, .int .i64 0, .int .i64 0, .int .i64 0] 23 (0, 0))) := ⟨by rw [← hq_]; exact (by exact upK BK186.out)⟩; have n2_ : Aside0 (Below w.heap.size w w27) := ⟨by rw [← hq_]; exact (by repeat (first | (with_reducible first | exact HB.out | apply below_alloc | apply pw_below_drewN | apply below_drew1 | refine below_set ?_ GE185.out | refine below_set ?_ GE186.out) | exact HB.out))⟩; clear BK185 BK186 HB hq_; have BK185 := n0_; have BK186 := n1_; have HB := n2_; clear n0_ n1_ n2_)); have hnb28 := NB186_185.out; have hnc28 := NB185_186.out; have hcz29_0 : w27.cell? ⟨gb186, 0, none⟩ = some (.int .i64 0) := (blk_cell BK186.out 0).trans rfl; have hcz29_1 : w27.cell? ⟨gb186, 1, none⟩ = some (.int .i64 0) := (blk_cell BK186.out 1).trans rfl; have hcz29_2 : w27.cell? ⟨gb186, 2, none⟩ = some (.int .i64 0) := (blk_cell BK186.out 2).trans rfl; have hcz29_3 : w27.cell? ⟨gb186, 3, none⟩ = some (.int .i64 0) := (blk_cell BK186.out 3).trans rfl; have hfz29_0 := blk_frozen BK186.out 0; have hfz29_1 := blk_frozen BK186.out 1; have hfz29_2 := blk_frozen BK186.out 2; have hfz29_3 := blk_frozen BK186.out 3))
  refine bodyPost_ret (results_cell_row rfl _ _ gb186 23 #[.int .i64 0, .int .i64 0, .int .i64 0, .int .i64 0] (0, 0) _ rfl (by (with_reducible repeat (first | refine blk_drewN ?_ _ | refine blk_drew ?_ | refine blk_alloc ?_ _)); refine blk_put (cs := #[.int .i64 0, .int .i64 0, .int .i64 0, .int .i64 0]) ?_ 3 _ rfl; (with_reducible repeat (first | refine blk_drewN ?_ _ | refine blk_drew ?_ | refine blk_alloc ?_ _)); refine blk_put (cs := #[.int .i64 0, .int .i64 0, .int .i64 0, .int .i64 0]) ?_ 2 _ rfl; (with_reducible repeat (first | refine blk_drewN ?_ _ | refine blk_drew ?_ | refine blk_alloc ?_ _)); refine blk_put (cs := #[.int .i64 0, .int .i64 0, .int .i64 0, .int .i64 0]) ?_ 1 _ rfl; (with_reducible repeat (first | refine blk_drewN ?_ _ | refine blk_drew ?_ | refine blk_alloc ?_ _)); refine blk_put (cs := #[.int .i64 0, .int .i64 0, .int .i64 0, .int .i64 0]) ?_ 0 _ rfl; exact upK BK186.out) Try.underlying23 rfl (by kernel_rfl)) rfl ?_
  exact ⟨by first | rfl | (simp [errW_none, errW_some] <;> rfl) | (simp [*, errW_none, errW_some] <;> rfl), by repeat (first | (with_reducible first | exact HB.out | apply below_alloc | apply pw_below_drewN | apply below_drew1 | refine below_set ?_ GE185.out | refine below_set ?_ GE186.out) | exact HB.out)⟩
end Go.Proofs.Ytcnpekpgghppnaa.Q
namespace Go.Proofs.Ytcnpekpgghppnaa.Q
open Go.RowKit Go.Proofs.YtcnpekpgghppnaaW.PrintWords Go.Proofs.YtcnpekpgghppnaaW.PrintLast Go.Proofs.YtcnpekpgghppnaaW.PrintMore
attribute [local go_sem] max2_int min2_int max_two min_two max_three min_three max_four min_four
set_option linter.unusedVariables false
set_option linter.unusedSimpArgs false
def pyramid_Count.f (a0 : Int) : Option (Int) := (pyramid_validLevels.f a0).bind fun t118 => (if t118 = true then (some (wrap64 ((wrap64 (3 * a0)) + 1))) else (some 0))
set_option maxHeartbeats 8000000 in
set_option maxRecDepth 100000 in
theorem pyramid_Count.calls (a0 : Int) (r : Int) (w : World) (h : pyramid_Count.f a0 = some r) :
  Calls Try.prog 29 #[.int .i64 a0] w fun e w' => e = .returned (.int .i64 r) ∧ Drawn0 w w' := by
 have H : ((pyramid_validLevels.f a0).bind fun t118 => (if t118 = true then (some (wrap64 ((wrap64 (3 * a0)) + 1))) else (some 0))) = some r := h
 clear h
 replace H := Option.bind_eq_some_iff.mp H
 obtain ⟨t118, A20, H⟩ := H
 replace H : (if t118 = true then (some (wrap64 ((wrap64 (3 * a0)) + 1))) else (some 0)) = some r := H
 have A2 := Aside0.mk A20
 clear A20
 by_cases c3 : t118 = true
 ·subst c3
  have H1 : (some (wrap64 ((wrap64 (3 * a0)) + 1))) = some r := by rw [if_pos rfl] at H; exact H
  clear H
  have H := H1
  clear H1
  obtain rfl := Option.some.inj H
  go_enter Try.func29, Try.ntmps29
  go_wp2_with (first | ((with_reducible refine gate_callee (f := 27) rfl ?_); refine goesL_ (some 4) rfl rfl Try.func27 (by kernel_rfl) rfl #[.int .i64 a0] rfl (by (try simp only [List.map_toArray, List.map_cons, List.map_nil]); first | done | rfl | (simp only [List.length_drop, List.length_take]; rfl)) ?_; (with_reducible refine (pyramid_validLevels.calls a0 true _ A2.out).mono ?_); rintro e w' ⟨rfl, ⟨nd, rfl⟩⟩; refine ⟨_, rfl, ?_⟩))
  go_ret
  exact ⟨by first | rfl | (simp; done) | (simp [*]; done), by repeat (first | exact Drawn0.refl _ | apply Drawn0.step)⟩
 ·replace c3 := Bool.eq_false_iff.mpr c3
  subst c3
  have H1 : (some 0) = some r := by rw [if_neg (show ¬ (false = true) by decide)] at H; exact H
  clear H
  have H := H1
  clear H1
  obtain rfl := Option.some.inj H
  go_enter Try.func29, Try.ntmps29
  go_wp2_with (first | ((with_reducible refine gate_callee (f := 27) rfl ?_); refine goesL_ (some 4) rfl rfl Try.func27 (by kernel_rfl) rfl #[.int .i64 a0] rfl (by (try simp only [List.map_toArray, List.map_cons, List.map_nil]); first | done | rfl | (simp only [List.length_drop, List.length_take]; rfl)) ?_; (with_reducible refine (pyramid_validLevels.calls a0 false _ A2.out).mono ?_); rintro e w' ⟨rfl, ⟨nd, rfl⟩⟩; refine ⟨_, rfl, ?_⟩))
  go_ret
  exact ⟨by first | rfl | (simp; done) | (simp [*]; done), by repeat (first | exact Drawn0.refl _ | apply Drawn0.step)⟩
end Go.Proofs.Ytcnpekpgghppnaa.Q
namespace Go.Proofs.Ytcnpekpgghppnaa.Q
open Go.RowKit Go.Proofs.YtcnpekpgghppnaaW.PrintWords Go.Proofs.YtcnpekpgghppnaaW.PrintLast Go.Proofs.YtcnpekpgghppnaaW.PrintMore
attribute [local go_sem] max2_int min2_int max_two min_two max_three min_three max_four min_four
set_option linter.unusedVariables false
set_option linter.unusedSimpArgs false
def pyramid_Place.j0 : Nat → Int → Int → Bool → Option (Int × Int × Bool)
 | 0, _, _, _ => none
 | k + 1, x0, x1, x15 => if x15 = true then (some (0, 0, false)) else (if x0 = 0 then (some (x1, 0, true)) else (some (wrap64 ((wrap64 (x1 - (wrap64 (Int.tdiv (wrap64 (x0 + 2)) 3)))) + 1), wrap64 ((wrap64 (x0 - (wrap64 (3 * (wrap64 (Int.tdiv (wrap64 (x0 + 2)) 3)))))) + 3), true)))
def pyramid_Place.f (k : Nat) (a0 : Int) (a1 : Int) : Option (Int × Int × Bool) := if a0 < 0 then (pyramid_Place.j0 k a0 a1 true) else ((pyramid_Count.f a1).bind fun t277 => (pyramid_Place.j0 k a0 a1 (decide (a0 ≥ t277))))
set_option maxHeartbeats 8000000 in
set_option maxRecDepth 100000 in
theorem pyramid_Place.calls (k : Nat) (a0 : Int) (a1 : Int) (r1 : Int) (r2 : Int) (r3 : Bool) (w : World) (h : pyramid_Place.f k a0 a1 = some (r1, r2, r3)) :
  Calls Try.prog 66 #[.int .i64 a0, .int .i64 a1] w fun e w' => e = .returned (.tuple #[.int .i64 r1, .int .i64 r2, .bool r3]) ∧ Drawn0 w w' := by
 have H : (if a0 < 0 then (pyramid_Place.j0 k a0 a1 true) else ((pyramid_Count.f a1).bind fun t277 => (pyramid_Place.j0 k a0 a1 (decide (a0 ≥ t277))))) = some (r1, r2, r3) := h
 clear h
 have HC3 := Aside0.mk H
 clear H
 go_enter Try.func66, Try.ntmps66
 go_upto_region 1 with (fail)
 go_cut [15] (fun v15 wc => ∃ (kq : Nat) (x15_2 : Bool), v15 = .bool x15_2 ∧ Aside0 (pyramid_Place.j0 kq a0 a1 x15_2 = some (r1, r2, r3)) ∧ Aside0 (kq ≤ k) ∧ Drawn0 w wc)
 case first =>
  have H := HC3.out
  clear HC3
  by_cases c4 : a0 < 0
  ·rw [if_pos c4] at H
   have c4b0 : decide (a0 < 0) = true := decide_eq_true c4
   clear c4
   (first | rw [c4b0] | (simp only [i64_w, i32_w]; rw [c4b0]) | skip)
   have H' := Aside0.mk H
   clear H
   go_wp2
   go_meet
   case rel => exact ⟨_, (true), (by first | rfl | (simp; done) | (simp [*]; done)), H', ⟨by first | omega | exact Nat.le_refl _⟩, by repeat (first | exact Drawn0.refl _ | apply Drawn0.step)⟩
  ·rw [if_neg c4] at H
   have c4b0 : decide (a0 < 0) = false := decide_eq_false c4
   clear c4
   (first | rw [c4b0] | (simp only [i64_w, i32_w]; rw [c4b0]) | skip)
   replace H := Option.bind_eq_some_iff.mp H
   obtain ⟨t277, A50, H⟩ := H
   replace H : (pyramid_Place.j0 k a0 a1 (decide (a0 ≥ t277))) = some (r1, r2, r3) := H
   have A5 := Aside0.mk A50
   clear A50
   have H' := Aside0.mk H
   clear H
   go_wp2_with (first | (go_at_call 29; (with_reducible refine (pyramid_Count.calls a1 t277 _ A5.out).mono ?_); rintro e w' ⟨rfl, ⟨nd, rfl⟩⟩))
   go_meet
   case rel => exact ⟨_, (decide (a0 ≥ t277)), (by first | rfl | (simp; done) | (simp [*]; done)), H', ⟨by first | omega | exact Nat.le_refl _⟩, by repeat (first | exact Drawn0.refl _ | apply Drawn0.step)⟩
 case rest =>
  clear HC3
  try clear p2
  try clear c4
  try clear c4b0
  obtain ⟨kq, x15_2, rfl, HA, HJ2, ⟨mc2, rfl⟩⟩ := hcut
  cases kq with
  | zero => exact absurd HA.out (by simp [pyramid_Place.j0])
  | succ kj2 =>
   have H := HA.out
   clear HA
   simp only [pyramid_Place.j0] at H
   by_cases c6 : x15_2 = true
   ·subst c6
    have H1 : (some (0, 0, false)) = some (r1, r2, r3) := by rw [if_pos rfl] at H; exact H
    clear H
    have H := H1
    clear H1
    simp only [Option.some.injEq, Prod.mk.injEq] at H
    obtain ⟨rfl, rfl, rfl⟩ := H
    go_wp2
    go_ret3
    exact ⟨by first | rfl | (simp; done) | (simp [*]; done), by repeat (first | exact Drawn0.refl _ | apply Drawn0.step)⟩
   ·replace c6 := Bool.eq_false_iff.mpr c6
    subst c6
    have H1 : (if a0 = 0 then (some (a1, 0, true)) else (some (wrap64 ((wrap64 (a1 - (wrap64 (Int.tdiv (wrap64 (a0 + 2)) 3)))) + 1), wrap64 ((wrap64 (a0 - (wrap64 (3 * (wrap64 (Int.tdiv (wrap64 (a0 + 2)) 3)))))) + 3), true))) = some (r1, r2, r3) := by rw [if_neg (show ¬ (false = true) by decide)] at H; exact H
    clear H
    have H := H1
    clear H1
    by_cases c7 : a0 = 0
    ·rw [if_pos c7] at H
     have c7b0 : (a0 == 0) = true := beq_iff_eq.mpr c7
     have c7b1 : (a0 != 0) = false := bne_eq_false_iff_eq.mpr c7
     clear c7
     simp only [Option.some.injEq, Prod.mk.injEq] at H
     obtain ⟨rfl, rfl, rfl⟩ := H
     go_wp2
     go_ret3
     exact ⟨by first | rfl | (simp; done) | (simp [*]; done), by repeat (first | exact Drawn0.refl _ | apply Drawn0.step)⟩
    ·rw [if_neg c7] at H
     have c7b0 : (a0 == 0) = false := beq_eq_false_iff_ne.mpr c7
     have c7b1 : (a0 != 0) = true := bne_iff_ne.mpr c7
     simp only [Option.some.injEq, Prod.mk.injEq] at H
     obtain ⟨rfl, rfl, rfl⟩ := H
     go_wp2
     go_ret3
     exact ⟨by first | rfl | (simp; done) | (simp [*]; done), by repeat (first | exact Drawn0.refl _ | apply Drawn0.step)⟩
end Go.Proofs.Ytcnpekpgghppnaa.Q
namespace Go.Proofs.Ytcnpekpgghppnaa.Q
open Go.RowKit Go.Proofs.YtcnpekpgghppnaaW.PrintWords Go.Proofs.YtcnpekpgghppnaaW.PrintLast Go.Proofs.YtcnpekpgghppnaaW.PrintMore
set_option linter.unusedVariables false
set_option linter.unusedSimpArgs false
set_option maxHeartbeats 8000000 in
theorem idx62_0 (w : World) (a0 b0 c0 d0 a1 b1 c1 d1 a2 b2 c2 d2 a3 b3 c3 d3 : Value) : (Instr.index 62 (.agg #[a0,b0,c0,d0,a1,b1,c1,d1,a2,b2,c2,d2,a3,b3,c3,d3]) (.int .i64 0)).run Try.prog w = .ok (.agg #[a0,b0,c0,d0]) w := by
 have hu := Try.underlying62
 unfold Instr.index
 go_simp
set_option maxHeartbeats 8000000 in
theorem idx62_1 (w : World) (a0 b0 c0 d0 a1 b1 c1 d1 a2 b2 c2 d2 a3 b3 c3 d3 : Value) : (Instr.index 62 (.agg #[a0,b0,c0,d0,a1,b1,c1,d1,a2,b2,c2,d2,a3,b3,c3,d3]) (.int .i64 1)).run Try.prog w = .ok (.agg #[a1,b1,c1,d1]) w := by
 have hu := Try.underlying62
 unfold Instr.index
 go_simp
set_option maxHeartbeats 8000000 in
theorem idx62_2 (w : World) (a0 b0 c0 d0 a1 b1 c1 d1 a2 b2 c2 d2 a3 b3 c3 d3 : Value) : (Instr.index 62 (.agg #[a0,b0,c0,d0,a1,b1,c1,d1,a2,b2,c2,d2,a3,b3,c3,d3]) (.int .i64 2)).run Try.prog w = .ok (.agg #[a2,b2,c2,d2]) w := by
 have hu := Try.underlying62
 unfold Instr.index
 go_simp
set_option maxHeartbeats 8000000 in
theorem idx62_3 (w : World) (a0 b0 c0 d0 a1 b1 c1 d1 a2 b2 c2 d2 a3 b3 c3 d3 : Value) : (Instr.index 62 (.agg #[a0,b0,c0,d0,a1,b1,c1,d1,a2,b2,c2,d2,a3,b3,c3,d3]) (.int .i64 3)).run Try.prog w = .ok (.agg #[a3,b3,c3,d3]) w := by
 have hu := Try.underlying62
 unfold Instr.index
 go_simp
attribute [local go_sem high] idx62_0 idx62_1 idx62_2 idx62_3
/-- The rectangle of the i-th subband. -/
def BandTo (x0 y0 x1 y1 n i : Int) (r : Int × Int × Int × Int) : Prop :=
 rect_Valid.f x0 y0 x1 y1 = some true ∧ ∃ (kp kr : Nat) (lv o : Int), pyramid_Place.f kp i n = some (lv, o, true) ∧ ((i = 0 ∧ pyramid_Resolution.f kr x0 y0 x1 y1 n 0 = some r) ∨ (i ≠ 0 ∧ ∃ (X0 Y0 X1 Y1 a0 a1 c0 c1 e0 e1 f0 f1 : Int), pyramid_Resolution.f kr x0 y0 x1 y1 n (wrap64 (wrap64 (n - lv) + 1)) = some (X0, Y0, X1, Y1) ∧ rect_Valid.f X0 Y0 X1 Y1 = some true ∧ bandsC X0 Y0 X1 Y1 4 = #[.int .i64 a0, .int .i64 e0, .int .i64 c0, .int .i64 f0, .int .i64 a1, .int .i64 e0, .int .i64 c1, .int .i64 f0, .int .i64 a0, .int .i64 e1, .int .i64 c0, .int .i64 f1, .int .i64 a1, .int .i64 e1, .int .i64 c1, .int .i64 f1] ∧ ((o = 1 ∧ r = (a1, e0, c1, f0)) ∨ (o = 2 ∧ r = (a0, e1, c0, f1)) ∨ (o = 3 ∧ r = (a1, e1, c1, f1)))))
set_option maxHeartbeats 8000000 in
set_option maxRecDepth 100000 in
theorem pyramid_Band.good (x0 y0 x1 y1 n i r0 r1 r2 r3 : Int) (w : World) (h : BandTo x0 y0 x1 y1 n i (r0, r1, r2, r3)) :
  Calls Try.prog 39 #[.agg #[.int .i64 x0, .int .i64 y0, .int .i64 x1, .int .i64 y1], .int .i64 n, .int .i64 i] w fun e w' => e = .returned (.agg #[.int .i64 r0, .int .i64 r1, .int .i64 r2, .int .i64 r3]) ∧ Below w.heap.size w w' := by
 obtain ⟨hrv, kp, kr, lv, o, hpl, hcs⟩ := h
 have HRV := Aside0.mk hrv
 have HPL := Aside0.mk hpl
 have HCS := Aside0.mk hcs
 clear hrv hpl hcs
 have K00 := Aside0.mk (Hold.nil w)
 go_enter Try.func39, Try.ntmps39
 go_upto_region 4 with (first
  | ((with_reducible refine gate_dst (N := 3) rfl ?_); refine bT (N := 3) (#[.int .i64 x0, .int .i64 y0, .int .i64 x1, .int .i64 y1]) 23 ?_; intro g3 hg W3 hbox hb; have K0 := Aside0.mk (K00.out.box (Nat.le_refl _) hg hbox hb trivial); clear hg hbox hb K00)
  | ((with_reducible refine gate_dst (N := 6) rfl ?_); refine bT (N := 6) (#[.int .i64 0, .int .i64 0, .int .i64 0, .int .i64 0]) 23 ?_; intro g6 hg W6 hbox hb; have K := Aside0.mk (K0.out.box (below_size K0.out.below) hg hbox hb trivial); clear hg hbox hb K0)
  | (go_at_call 66; (with_reducible refine (pyramid_Place.calls kp i n lv o true _ HPL.out).mono ?_); rintro _ w66 ⟨rfl, b⟩; replace K := Aside0.mk (K.out.call (below_size K.out.below) b.below); clear b)
  | ((with_reducible refine gate_dst (N := 20) rfl ?_); (try (refine gate_guard (by rfl) ?_; dsimp only)); refine load_ev rfl 23 (.tmp 3) rfl rfl (K.out.get 1 rfl) Try.underlying23 rfl ?_)
  | ((try (refine gate_guard (by rfl) ?_; dsimp only)); go_at_call 31; (with_reducible refine (rect_Valid.calls x0 y0 x1 y1 true _ HRV.out).mono ?_); rintro _ w31 ⟨rfl, b⟩; replace K := Aside0.mk (K.out.call (below_size K.out.below) b); clear b))
 clear HRV HPL
 have hcs := HCS.out
 clear HCS
 rcases hcs with ⟨hi, hrs⟩ | ⟨hi, X0, Y0, X1, Y1, a0, a1, c0, c1, e0, e1, f0, f1, hrs, hxv, hbc, ho⟩
 ·subst hi
  have HRS := Aside0.mk hrs
  clear hrs
  go_wp2_with (first
   | ((with_reducible refine gate_dst (N := 27) rfl ?_); refine load_ev rfl 23 (.tmp 3) rfl rfl (K.out.get 1 rfl) Try.underlying23 rfl ?_)
   | (go_at_call 33; (with_reducible refine (pyramid_Resolution.calls kr x0 y0 x1 y1 n 0 r0 r1 r2 r3 _ HRS.out).mono ?_); rintro _ w33 ⟨rfl, b⟩; replace K := Aside0.mk (K.out.call (below_size K.out.below) b); clear b)
   | ((with_reducible refine gate_store (t := 23) (p := 6) (v := .tmp 29) rfl ?_); refine store_ev rfl rfl 23 (.tmp 6) (.tmp 29) rfl rfl rfl (K.out.get 0 rfl) rfl rfl (by first | (kernel_rfl) | (simp [Value.oneCell'])) ?_; intro W6s hs; replace K := Aside0.mk (K.out.stored 0 rfl hs); clear hs))
  refine bodyPost_ret (results_single rfl (.cell g6 23 _ (0, 0) _ rfl (K.out.get 0 rfl) Try.underlying23 rfl (by kernel_rfl) .nil)) rfl ?_
  exact ⟨rfl, K.out.below⟩
 have b0 : decide (i = 0) = false := decide_eq_false hi
 have b1 : (i == 0) = false := beq_eq_false_iff_ne.mpr hi
 have HRS := Aside0.mk hrs
 have HXV := Aside0.mk hxv
 have HBC := Aside0.mk hbc
 clear hi hrs hxv hbc
 simp only [Prod.mk.injEq] at ho
 rcases ho with ⟨rfl, rfl, rfl, rfl, rfl⟩ | ⟨rfl, rfl, rfl, rfl, rfl⟩ | ⟨rfl, rfl, rfl, rfl, rfl⟩
 ·go_wp2_with (first
   | ((with_reducible refine gate_dst (N := 30) rfl ?_); refine load_ev rfl 23 (.tmp 3) rfl rfl (K.out.get 1 rfl) Try.underlying23 rfl ?_)
   | (go_at_call 33; (with_reducible refine (pyramid_Resolution.calls kr x0 y0 x1 y1 n (wrap64 (wrap64 (n - lv) + 1)) X0 Y0 X1 Y1 _ HRS.out).mono ?_); rintro _ w33 ⟨rfl, b⟩; replace K := Aside0.mk (K.out.call (below_size K.out.below) b); clear b)
   | (go_at_call 35; (with_reducible refine (dwt_Bands.good X0 Y0 X1 Y1 _ HXV.out).mono ?_); rintro _ w35 ⟨rfl, b⟩; rw [HBC.out]; replace K := Aside0.mk (K.out.call (below_size K.out.below) b); clear b)
   | ((with_reducible refine gate_store (t := 23) (p := 6) (v := .tmp 39) rfl ?_); refine store_ev rfl rfl 23 (.tmp 6) (.tmp 39) rfl rfl rfl (K.out.get 0 rfl) rfl rfl (by first | (kernel_rfl) | (simp [Value.oneCell'])) ?_; intro W6s hs; replace K := Aside0.mk (K.out.stored 0 rfl hs); clear hs))
  refine bodyPost_ret (results_single rfl (.cell g6 23 _ (0, 0) _ rfl (K.out.get 0 rfl) Try.underlying23 rfl (by kernel_rfl) .nil)) rfl ?_
  exact ⟨rfl, K.out.below⟩
 ·go_wp2_with (first
   | ((with_reducible refine gate_dst (N := 30) rfl ?_); refine load_ev rfl 23 (.tmp 3) rfl rfl (K.out.get 1 rfl) Try.underlying23 rfl ?_)
   | (go_at_call 33; (with_reducible refine (pyramid_Resolution.calls kr x0 y0 x1 y1 n (wrap64 (wrap64 (n - lv) + 1)) X0 Y0 X1 Y1 _ HRS.out).mono ?_); rintro _ w33 ⟨rfl, b⟩; replace K := Aside0.mk (K.out.call (below_size K.out.below) b); clear b)
   | (go_at_call 35; (with_reducible refine (dwt_Bands.good X0 Y0 X1 Y1 _ HXV.out).mono ?_); rintro _ w35 ⟨rfl, b⟩; rw [HBC.out]; replace K := Aside0.mk (K.out.call (below_size K.out.below) b); clear b)
   | ((with_reducible refine gate_store (t := 23) (p := 6) (v := .tmp 39) rfl ?_); refine store_ev rfl rfl 23 (.tmp 6) (.tmp 39) rfl rfl rfl (K.out.get 0 rfl) rfl rfl (by first | (kernel_rfl) | (simp [Value.oneCell'])) ?_; intro W6s hs; replace K := Aside0.mk (K.out.stored 0 rfl hs); clear hs))
  refine bodyPost_ret (results_single rfl (.cell g6 23 _ (0, 0) _ rfl (K.out.get 0 rfl) Try.underlying23 rfl (by kernel_rfl) .nil)) rfl ?_
  exact ⟨rfl, K.out.below⟩
 ·go_wp2_with (first
   | ((with_reducible refine gate_dst (N := 30) rfl ?_); refine load_ev rfl 23 (.tmp 3) rfl rfl (K.out.get 1 rfl) Try.underlying23 rfl ?_)
   | (go_at_call 33; (with_reducible refine (pyramid_Resolution.calls kr x0 y0 x1 y1 n (wrap64 (wrap64 (n - lv) + 1)) X0 Y0 X1 Y1 _ HRS.out).mono ?_); rintro _ w33 ⟨rfl, b⟩; replace K := Aside0.mk (K.out.call (below_size K.out.below) b); clear b)
   | (go_at_call 35; (with_reducible refine (dwt_Bands.good X0 Y0 X1 Y1 _ HXV.out).mono ?_); rintro _ w35 ⟨rfl, b⟩; rw [HBC.out]; replace K := Aside0.mk (K.out.call (below_size K.out.below) b); clear b)
   | ((with_reducible refine gate_store (t := 23) (p := 6) (v := .tmp 39) rfl ?_); refine store_ev rfl rfl 23 (.tmp 6) (.tmp 39) rfl rfl rfl (K.out.get 0 rfl) rfl rfl (by first | (kernel_rfl) | (simp [Value.oneCell'])) ?_; intro W6s hs; replace K := Aside0.mk (K.out.stored 0 rfl hs); clear hs))
  refine bodyPost_ret (results_single rfl (.cell g6 23 _ (0, 0) _ rfl (K.out.get 0 rfl) Try.underlying23 rfl (by kernel_rfl) .nil)) rfl ?_
  exact ⟨rfl, K.out.below⟩
end Go.Proofs.Ytcnpekpgghppnaa.Q
