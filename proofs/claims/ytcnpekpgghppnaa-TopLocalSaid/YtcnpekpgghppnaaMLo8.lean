/- Texts of this session (words and printed walks, merged by wip/tools/merge.py) for the statement of the claim. -/
import Derived.Test.YtcnpekpgghppnaaMLo1
import Derived.Test.YtcnpekpgghppnaaMLo7
import Derived.Test.YtcnpekpgghppnaaMLo6
import Derived.Test.YtcnpekpgghppnaaMLo2
import Derived.Test.YtcnpekpgghppnaaMLo3
import Derived.Test.YtcnpekpgghppnaaMLo5
namespace Go.Proofs.Ytcnpekpgghppnaa.Q
open Go.RowKit Go.Proofs.YtcnpekpgghppnaaW.PrintWords Go.Proofs.YtcnpekpgghppnaaW.PrintLast Go.Proofs.YtcnpekpgghppnaaW.PrintMore
set_option linter.unusedVariables false
set_option linter.unusedSimpArgs false
theorem flat_rows {w : Nat} (z : Nat → List Int) : ∀ m : Nat, (∀ i, i < m → (z i).length = w) → ∃ D : List Int, D.length = m * w ∧ ∀ i, i < m → rowOf w D i = z i
 | 0, h => ⟨[], by simp, fun i hi => absurd hi (Nat.not_lt_zero i)⟩
 | m + 1, h => by
  obtain ⟨D, h1, h2⟩ := flat_rows z m (fun i hi => h i (by omega))
  have e : (m + 1) * w = m * w + w := Nat.succ_mul m w
  refine ⟨D ++ z m, by rw [List.length_append, h1, h m (by omega), e], fun i hi => ?_⟩
  by_cases c : i = m
  ·subst c
   exact rowOf_new h1 (h i (by omega))
  ·have : (i + 1) * w ≤ m * w := Nat.mul_le_mul_right w (by omega)
   rw [rowOf_app (by omega)]
   exact h2 i (by omega)
theorem ev_len {y0 y1 : Int} {m lh hh : Nat} (hy : 0 ≤ y0) (hm : y1 = y0 + (m : Int)) (hlh : (lh : Int) = (y1 + 1) / 2 - (y0 + 1) / 2) (hhh : lh + hh = m) : (lh : Int) = evA y0 m ∧ (hh : Int) = odA y0 m := by
 unfold evA odA
 subst hm
 omega
/-- The columns of two halves put together, twice. -/
theorem half_pair {kk a c y0 y1 b : Int} {w m lh hh : Nat} {D D2 D' D2' : List Int} (hkk : 1 ≤ kk ∧ kk ≤ 3) (ha : 0 ≤ a ∧ c ≤ 4096) (hy : 0 ≤ y0 ∧ y1 ≤ 4096) (hw : c = a + (w : Int)) (hm : y1 = y0 + (m : Int)) (hl : m * w ≤ 1048576) (hlh : (lh : Int) = (y1 + 1) / 2 - (y0 + 1) / 2) (hhh : lh + hh = m)
  (hD : D.length = lh * w) (hD2 : D2.length = hh * w) (hD' : D'.length = lh * w) (hD2' : D2'.length = hh * w) (hb1 : 2 ≤ b) (hb2 : b ≤ 1125899906842624) (B : Bd b D) (B2 : Bd b D2) (B' : Bd b D') (B2' : Bd b D2') :
  ∃ H H', mcolsF kk 5000 a c y0 D D2 5000 a (List.replicate (m * w) 0) = some H ∧ mcolsF kk 5000 a c y0 D' D2' 5000 a (List.replicate (m * w) 0) = some H' ∧ H.length = m * w ∧ H'.length = m * w ∧ Bd (4 * b) H ∧ Bd (4 * b) H' ∧
   ∀ i j : Nat, i < m → j < w → (∀ i2 : Nat, i2 < m → -(reach kk + 1) ≤ (i2 : Int) - i → (i2 : Int) - i ≤ reach kk + 1 → jn y0 (colOf w lh D j) (colOf w hh D2 j) i2 = jn y0 (colOf w lh D' j) (colOf w hh D2' j) i2) → cell w H i j = cell w H' i j := by
 obtain ⟨el, eh⟩ := ev_len hy.1 hm hlh hhh
 have hx : ∀ j : Nat, ∃ p : List Int × List Int, invF kk 5000 y0 (colOf w lh D j) (colOf w hh D2 j) = some p.1 ∧ invF kk 5000 y0 (colOf w lh D' j) (colOf w hh D2' j) = some p.2 ∧ p.1.length = m ∧ p.2.length = m ∧ Bd (4 * b) p.1 ∧ Bd (4 * b) p.2 ∧ ∀ i : Nat, i < m → (∀ i2 : Nat, i2 < m → -(reach kk + 1) ≤ (i2 : Int) - i → (i2 : Int) - i ≤ reach kk + 1 → jn y0 (colOf w lh D j) (colOf w hh D2 j) i2 = jn y0 (colOf w lh D' j) (colOf w hh D2' j) i2) → rd p.1 (i : Int) = rd p.2 (i : Int) := by
  intro j
  obtain ⟨z, z', h1, h2, h3, h4, h5, h6, h7⟩ := inv_pair (kk := kk) (start := y0) (k := 5000) (n := m) (b := b) (lo := colOf w lh D j) (hi := colOf w hh D2 j) (lo' := colOf w lh D' j) (hi' := colOf w hh D2' j) hkk hy.1 (by omega) (by omega) (by omega) (by rw [colOf_len]; exact el) (by rw [colOf_len]; exact eh) (by rw [colOf_len, colOf_len]) (by rw [colOf_len, colOf_len]) hb1 hb2 (colOf_bd B (by omega)) (colOf_bd B2 (by omega)) (colOf_bd B' (by omega)) (colOf_bd B2' (by omega))
  exact ⟨(z, z'), h1, h2, h3, h4, h5, h6, h7⟩
 obtain ⟨g, hg⟩ := Classical.axiomOfChoice hx
 have hce := cnt_of (s := y0) (n := m) (l := lh) hy.1 (by omega) (by rw [hlh, hm])
 obtain ⟨H, t1, t2, t3⟩ := mcolsF_spec (kk := kk) (k := 5000) (w := w) (h := m) (lh := lh) (hh := hh) (x0 := a) (x1 := c) (y0 := y0) (D := D) (D2 := D2) (z := fun j => (g j).1) hw (by omega) (by omega) hD hD2 hl (by omega) (by omega) (by omega) hhh (B.mono (by omega)) (B2.mono (by omega)) hce (fun j hj => ⟨(hg j).1, (hg j).2.2.1⟩) 5000 0 (List.replicate (m * w) 0) (by omega) (by omega) (by simp)
 obtain ⟨H', t1', t2', t3'⟩ := mcolsF_spec (kk := kk) (k := 5000) (w := w) (h := m) (lh := lh) (hh := hh) (x0 := a) (x1 := c) (y0 := y0) (D := D') (D2 := D2') (z := fun j => (g j).2) hw (by omega) (by omega) hD' hD2' hl (by omega) (by omega) (by omega) hhh (B'.mono (by omega)) (B2'.mono (by omega)) hce (fun j hj => ⟨(hg j).2.1, (hg j).2.2.2.1⟩) 5000 0 (List.replicate (m * w) 0) (by omega) (by omega) (by simp)
 refine ⟨H, H', by simpa using t1, by simpa using t1', t2, t2', bd_cell t2 fun i j hi hj => ?_, bd_cell t2' fun i j hi hj => ?_, fun i j hi hj hall => ?_⟩
 ·rw [t3 i j hi hj, if_pos (by omega)]
  exact (hg j).2.2.2.2.1.at_ (by omega) i
 ·rw [t3' i j hi hj, if_pos (by omega)]
  exact (hg j).2.2.2.2.2.1.at_ (by omega) i
 ·rw [t3 i j hi hj, t3' i j hi hj, if_pos (by omega), if_pos (by omega)]
  exact (hg j).2.2.2.2.2.2 i hi hall
/-- The rows of two halves put together, twice. -/
theorem rows_pair {kk x0 y0 x1 y1 b : Int} {w m lw hw : Nat} {H0 H1 H0' H1' : List Int} (hkk : 1 ≤ kk ∧ kk ≤ 3) (hx : 0 ≤ x0 ∧ x1 ≤ 4096) (hy : 0 ≤ y0 ∧ y1 ≤ 4096) (hwx : x1 = x0 + (w : Int)) (hm : y1 = y0 + (m : Int)) (hl : m * w ≤ 1048576) (hlw : (lw : Int) = (x1 + 1) / 2 - (x0 + 1) / 2) (hhw : lw + hw = w)
  (h0 : H0.length = m * lw) (h1 : H1.length = m * hw) (h0' : H0'.length = m * lw) (h1' : H1'.length = m * hw) (hb1 : 2 ≤ b) (hb2 : b ≤ 1125899906842624) (B0 : Bd b H0) (B1 : Bd b H1) (B0' : Bd b H0') (B1' : Bd b H1') :
  ∃ G G', (∀ w0 w1 : Int, w0 = (lw : Int) → w1 = (hw : Int) → mrowsF kk 5000 w0 w1 x0 y0 y1 H0 H1 5000 y0 [] = some G ∧ mrowsF kk 5000 w0 w1 x0 y0 y1 H0' H1' 5000 y0 [] = some G') ∧ G.length = m * w ∧ G'.length = m * w ∧ Bd (4 * b) G ∧ Bd (4 * b) G' ∧
   ∀ i j : Nat, i < m → j < w → (∀ j2 : Nat, j2 < w → -(reach kk + 1) ≤ (j2 : Int) - j → (j2 : Int) - j ≤ reach kk + 1 → jn x0 (rowOf lw H0 i) (rowOf hw H1 i) j2 = jn x0 (rowOf lw H0' i) (rowOf hw H1' i) j2) → cell w G i j = cell w G' i j := by
 obtain ⟨el, eh⟩ := ev_len hx.1 hwx hlw hhw
 have hxx : ∀ i : Nat, ∃ p : List Int × List Int, i < m → invF kk 5000 x0 (rowOf lw H0 i) (rowOf hw H1 i) = some p.1 ∧ invF kk 5000 x0 (rowOf lw H0' i) (rowOf hw H1' i) = some p.2 ∧ p.1.length = w ∧ p.2.length = w ∧ Bd (4 * b) p.1 ∧ Bd (4 * b) p.2 ∧ ∀ j : Nat, j < w → (∀ j2 : Nat, j2 < w → -(reach kk + 1) ≤ (j2 : Int) - j → (j2 : Int) - j ≤ reach kk + 1 → jn x0 (rowOf lw H0 i) (rowOf hw H1 i) j2 = jn x0 (rowOf lw H0' i) (rowOf hw H1' i) j2) → rd p.1 (j : Int) = rd p.2 (j : Int) := by
  intro i
  by_cases hi : i < m
  ·obtain ⟨z, z', q1, q2, q3, q4, q5, q6, q7⟩ := inv_pair (kk := kk) (start := x0) (k := 5000) (n := w) (b := b) (lo := rowOf lw H0 i) (hi := rowOf hw H1 i) (lo' := rowOf lw H0' i) (hi' := rowOf hw H1' i) hkk hx.1 (by omega) (by omega) (by omega) (by rw [rowOf_len h0 hi]; exact el) (by rw [rowOf_len h1 hi]; exact eh) (by rw [rowOf_len h0 hi, rowOf_len h0' hi]) (by rw [rowOf_len h1 hi, rowOf_len h1' hi]) hb1 hb2 (rowOf_bd B0) (rowOf_bd B1) (rowOf_bd B0') (rowOf_bd B1')
   exact ⟨(z, z'), fun _ => ⟨q1, q2, q3, q4, q5, q6, q7⟩⟩
  ·exact ⟨([], []), fun h => absurd h hi⟩
 obtain ⟨g, hg⟩ := Classical.axiomOfChoice hxx
 obtain ⟨G, G1, G2⟩ := flat_rows (w := w) (fun i => (g i).1) m (fun i hi => (hg i hi).2.2.1)
 obtain ⟨G', G1', G2'⟩ := flat_rows (w := w) (fun i => (g i).2) m (fun i hi => (hg i hi).2.2.2.1)
 have hce := cnt_of (s := x0) (n := w) (l := lw) hx.1 (by omega) (by rw [hlw, hwx])
 refine ⟨G, G', fun w0 w1 e0 e1 => ⟨?_, ?_⟩, G1, G1', bd_cell G1 fun i j hi hj => ?_, bd_cell G1' fun i j hi hj => ?_, fun i j hi hj hall => ?_⟩
 ·have := mrowsF_spec (kk := kk) (k := 5000) (w := w) (h := m) (lw := lw) (hw := hw) (x0 := x0) (y0 := y0) (y1 := y1) (H0 := H0) (H1 := H1) (D := G) e0 e1 hm G1 h0 h1 hl (by omega) (by omega) (by omega) hhw (B0.mono (by omega)) (B1.mono (by omega)) hce (fun i hi => by rw [G2 i hi]; exact (hg i hi).1) 5000 0 (by omega) (by omega)
  simpa using this
 ·have := mrowsF_spec (kk := kk) (k := 5000) (w := w) (h := m) (lw := lw) (hw := hw) (x0 := x0) (y0 := y0) (y1 := y1) (H0 := H0') (H1 := H1') (D := G') e0 e1 hm G1' h0' h1' hl (by omega) (by omega) (by omega) hhw (B0'.mono (by omega)) (B1'.mono (by omega)) hce (fun i hi => by rw [G2' i hi]; exact (hg i hi).2.1) 5000 0 (by omega) (by omega)
  simpa using this
 ·rw [← rowOf_rd hj, G2 i hi]
  exact (hg i hi).2.2.2.2.1.at_ (by omega) j
 ·rw [← rowOf_rd hj, G2' i hi]
  exact (hg i hi).2.2.2.2.2.1.at_ (by omega) j
 ·rw [← rowOf_rd hj, ← rowOf_rd hj, G2 i hi, G2' i hi]
  exact (hg i hi).2.2.2.2.2.2 j hj hall
/-- Five cells, as they are. -/
def rawP : Kd (List Value) where
 sz := 5
 E := []
 K := fun _ x cs => cs = x ∧ x.length = 5 ∧ ∀ u ∈ x, u.oneCell' = true
 M := fun _ _ _ x cs => cs = x ∧ x.length = 5 ∧ ∀ u ∈ x, u.oneCell' = true
 K_len := fun h => by rw [h.1]; exact h.2.1
 K_one := fun h u hu => h.2.2 u (by rw [← h.1]; exact hu)
 K_below := fun _ h => h
 K_of_M := fun h => h
 M_mono := fun _ h => h
 M_bound := fun h => h
 M_move := fun _ h => h
 M_lower := fun _ h => h
/-- The row of planes so far (v), and what its planes hold. -/
structure Back (n : Nat) (w0 W : World) (v : Value) (qs : List (Value × Pl)) : Prop where
 row : Kd.R rawP 26 W n (fun _ => True) v (qs.map pcells)
 data : ∀ p ∈ qs, Kd.R (Kd.int .i64) 3 W n (fun _ => True) p.1 p.2.D
 below : Below n w0 W
theorem Back.nil (w : World) : Back w.heap.size w w (.slice none 0 0) [] := ⟨Kd.R_nil _ _ _ _ _, fun p hp => by simp at hp, Below.refl _ _⟩
theorem Back.call {n : Nat} {w0 W W' : World} {v : Value} {qs : List (Value × Pl)} (h : Back n w0 W v qs) (hn : n ≤ W.heap.size) (hb : Below W.heap.size W W') : Back n w0 W' v qs :=
 ⟨Kd.R_below h.row hb, fun p hp => Kd.R_below (h.data p hp) hb, h.below.trans (hb.mono hn)⟩
theorem Back.size {n : Nat} {w0 W : World} {v : Value} {qs : List (Value × Pl)} (h : Back n w0 W v qs) (hn : n = w0.heap.size) : n ≤ W.heap.size := by
 subst hn
 exact below_size h.below
theorem Back.add {n b : Nat} {w0 W W' : World} {v v' : Value} {qs : List (Value × Pl)} {q : Value × Pl} {ok : Nat → Prop} (h : Back n w0 W v qs) (hq : Kd.R (Kd.int .i64) 3 W b ok q.1 q.2.D) (hnb : n ≤ b) (hR : Kd.R rawP 26 W' n (fun _ => True) v' (qs.map pcells ++ [pcells q])) (hB : Below n w0 W') (hg : W.grownBy W' v.ownBlock) : Back n w0 W' v' (qs ++ [q]) := by
 have key : ∀ p : Value × List Int, Kd.R (Kd.int .i64) 3 W n (fun _ => True) p.1 p.2 → Kd.R (Kd.int .i64) 3 W' n (fun _ => True) p.1 p.2 := by
  intro p hp
  refine Kd.R_grown2 hp rfl hg fun k hk => ?_
  obtain ⟨cells, hc⟩ := Kd.R_typed h.row k hk
  exact Kd.R_ne hp hc (by decide)
 refine ⟨by rw [List.map_append]; exact hR, fun p hp => ?_, hB⟩
 rcases List.mem_append.mp hp with hp | hp
 ·exact key (p.1, p.2.D) (h.data p hp)
 ·obtain rfl : p = q := by simpa using hp
  exact key (p.1, p.2.D) (Kd.R_mono (Kd.R_lower hq hnb) (fun _ _ => trivial))
theorem Back.form {n : Nat} {w0 W : World} {v : Value} {qs : List (Value × Pl)} (h : Back n w0 W v qs) (hp : 0 < qs.length) : ∃ (gb cN : Nat), v = .slice (some ⟨gb, 0, none⟩) qs.length cN ∧ qs.length ≤ cN ∧ Bds W gb qs := by
 obtain ⟨gb, cN, e, _, _, _⟩ := Kd.R_form h.row (by simpa using hp)
 rw [List.length_map] at e
 have hr := h.row
 rw [e] at hr
 obtain ⟨_, h2, h3⟩ := Kd.R_reads' hr
 refine ⟨gb, cN, e, h2, ⟨fun j p hj => ?_, fun j p hj => ?_⟩⟩
 ·obtain ⟨ad, ha, hc⟩ := h3.2.2 (by simpa using hp)
  obtain rfl : (⟨gb, 0, none⟩ : Addr) = ad := Option.some.inj ha
  obtain ⟨c, c1, ⟨rfl, _⟩, c3⟩ := hc j (pcells p) (by rw [List.getElem?_map, hj]; rfl)
  intro i u hi
  have := c3 i u hi
  rw [add_plain] at this
  rw [Nat.mul_comm]
  exact this
 ·have hd := h.data p (List.mem_of_getElem? hj)
  obtain ⟨A, c, e⟩ := Kd.R_slice hd
  rw [e] at hd
  obtain ⟨_, k2, k3⟩ := Kd.R_reads' hd
  exact ⟨A, c, e, k2, k3⟩
theorem pcells_raw {W : World} {b : Nat} {ok : Nat → Prop} {A : Option Addr} {c : Nat} {q : Pl} : rawP.M W b ok (pcells (.slice A q.D.length c, q)) (pcells (.slice A q.D.length c, q)) := by
 refine ⟨rfl, rfl, fun u hu => ?_⟩
 simp only [pcells, List.mem_cons, List.not_mem_nil, or_false] at hu
 rcases hu with rfl | rfl | rfl | rfl | rfl <;> rfl
theorem Back.start (w : World) : Back w.heap.size w (w.alloc (.cells #[] 26)) (.slice (some ⟨w.heap.size, 0, none⟩) 0 0) [] := by
 have h := World.ownsRow_lit (base := w.heap.size) (e := 26) (size := 5) w #[] 0 (Nat.le_refl _) (by decide) rfl
 exact ⟨⟨fun _ _ => trivial, [], h, Reps.none _ _⟩, fun p hp => by simp at hp, below_alloc (Below.refl _ _) _⟩
/-- The planes of a block that is held. -/
theorem Hold.bds {n : Nat} {w0 W : World} {g : Nat} {ps : List (Value × Pl)} (h : Hold n w0 W [(g, 26, cellsOf ps)] (rowsOf ps)) : Bds W g ps := by
 refine ⟨fun j p hj => ?_, fun j p hj => ?_⟩
 ·intro i v hi
  rw [blk_cell (h.get 0 rfl) (5 * j + i)]
  exact cellsOf_get hj hi
 ·have hr := h.rowAt j (show (rowsOf ps)[j]? = some (p.1, p.2.D) by unfold rowsOf; rw [List.getElem?_map, hj]; rfl)
  obtain ⟨A, c, e⟩ := Kd.R_slice hr
  rw [e] at hr
  obtain ⟨_, k2, k3⟩ := Kd.R_reads' hr
  exact ⟨A, c, e, k2, k3⟩
/-- A row of one plane. -/
theorem one_C {W : World} {g : Nat} {x0 y0 x1 y1 : Int} {A : Option Addr} {c : Nat} {D : List Int} (hb : W.heap[g]? = some (.cells #[.int .i64 x0, .int .i64 y0, .int .i64 x1, .int .i64 y1, .slice A D.length c] 26 (0, 0))) (hc : D.length ≤ c) (hC : Kd.C (Kd.int .i64) W A D.length D) : Kd.C k26 W (some ⟨g, 0, none⟩) 1 [⟨⟨x0, y0, x1, y1⟩, D⟩] := by
 refine ⟨rfl, by decide, fun _ => ⟨_, rfl, fun j p hj => ?_⟩⟩
 match j, hj with
 | 0, hj =>
  obtain rfl := Option.some.inj hj
  refine ⟨_, rfl, k26_mk W ⟨⟨x0, y0, x1, y1⟩, D⟩ hc hC, fun i u hi => ?_⟩
  rw [add_plain, blk_cell hb (0 * k26.sz + i), Nat.zero_mul, Nat.zero_add]
  simpa using hi
 | j + 1, hj => simp at hj
/-- A rectangle: x0, y0, x1, y1. -/
abbrev Rt := Int × Int × Int × Int
def rcells (r : Rt) : List Value := [.int .i64 r.1, .int .i64 r.2.1, .int .i64 r.2.2.1, .int .i64 r.2.2.2]
def cellsR (l : List Rt) : Array Value := (l.flatMap rcells).toArray
theorem flatR_len (l : List Rt) : (l.flatMap rcells).length = 4 * l.length := by
 induction l with
 | nil => rfl
 | cons a l ih => rw [List.flatMap_cons, List.length_append, ih, List.length_cons]; show 4 + _ = _; omega
theorem cellsR_size (l : List Rt) : (cellsR l).size = 4 * l.length := flatR_len l
theorem flatR_get {l : List Rt} {p : Rt} {i : Nat} {v : Value} (hv : (rcells p)[i]? = some v) : ∀ {j : Nat}, l[j]? = some p → (l.flatMap rcells)[4 * j + i]? = some v := by
 induction l with
 | nil => intro j h; simp at h
 | cons a l ih =>
  intro j h
  have hi : i < 4 := by
   obtain ⟨h1, _⟩ := List.getElem?_eq_some_iff.mp hv
   exact h1
  rw [List.flatMap_cons]
  cases j with
  | zero =>
   obtain rfl : a = p := by simpa using h
   rw [List.getElem?_append_left (by show _ < 4; omega), Nat.mul_zero, Nat.zero_add]
   exact hv
  | succ j =>
   rw [List.getElem?_append_right (by show 4 ≤ _; omega)]
   have := ih (j := j) (by simpa using h)
   rw [← this]
   congr 1
   show 4 * (j + 1) + i - 4 = _
   omega
theorem cellsR_get {l : List Rt} {p : Rt} {i j : Nat} {v : Value} (h : l[j]? = some p) (hv : (rcells p)[i]? = some v) : (cellsR l)[4 * j + i]? = some v := by
 show (l.flatMap rcells).toArray[4 * j + i]? = _
 rw [List.getElem?_toArray]
 exact flatR_get hv h
theorem flatR_set {q : Rt} : ∀ {l : List Rt} {j : Nat}, j < l.length → (l.set j q).flatMap rcells = (l.flatMap rcells).take (4 * j) ++ rcells q ++ (l.flatMap rcells).drop (4 * j + 4)
 | [], j, h => by simp at h
 | a :: l, 0, h => by
  rw [List.set_cons_zero, List.flatMap_cons, List.flatMap_cons]
  simp [rcells]
 | a :: l, j + 1, h => by
  rw [List.set_cons_succ, List.flatMap_cons, List.flatMap_cons, flatR_set (by simpa using h), show 4 * (j + 1) = 4 + 4 * j by omega, show 4 + 4 * j + 4 = 4 + (4 * j + 4) by omega]
  have e1 : (rcells a ++ l.flatMap rcells).take (4 + 4 * j) = rcells a ++ (l.flatMap rcells).take (4 * j) := by
   rw [List.take_append, List.take_of_length_le (by show 4 ≤ _; omega)]
   congr 2
   show 4 + 4 * j - 4 = _
   omega
  have e2 : (rcells a ++ l.flatMap rcells).drop (4 + (4 * j + 4)) = (l.flatMap rcells).drop (4 * j + 4) := by
   rw [List.drop_append, List.drop_eq_nil_of_le (by show 4 ≤ _; omega), List.nil_append]
   congr 1
   show 4 + (4 * j + 4) - 4 = _
   omega
  rw [e1, e2]
  simp
theorem cellsR_set {l : List Rt} {q : Rt} {j : Nat} (h : j < l.length) : setA (cellsR l) (4 * j) (rcells q) = cellsR (l.set j q) := by
 apply Array.toList_inj.1
 rw [setA_at _ _ _ (by rw [cellsR_size]; show _ + 4 ≤ _; omega)]
 show _ = (l.set j q).flatMap rcells
 rw [flatR_set h]
 rfl
theorem made_rects (m : Nat) : madeCells #[.int .i64 0, .int .i64 0, .int .i64 0, .int .i64 0] (m * 4) = cellsR (List.replicate m (0, 0, 0, 0)) := by
 apply Array.ext_getElem?
 intro i
 by_cases hi : i < m * 4
 ·have h1 : i = 4 * (i / 4) + i % 4 := by omega
  have h2 : i / 4 < m := by omega
  have hr : (List.replicate m ((0, 0, 0, 0) : Rt))[i / 4]? = some (0, 0, 0, 0) := by rw [List.getElem?_replicate, if_pos h2]
  have h3 : i % 4 < 4 := Nat.mod_lt _ (by decide)
  rw [show (cellsR (List.replicate m (0, 0, 0, 0)))[i]? = (rcells (0, 0, 0, 0))[i % 4]? from by
   conv => lhs; rw [h1]
   rw [cellsR_get (v := (rcells (0, 0, 0, 0))[i % 4]) hr (List.getElem?_eq_getElem (by show _ < 4; exact h3)), List.getElem?_eq_getElem (by show _ < 4; exact h3)]
   rfl]
  unfold madeCells
  rw [Array.getElem?_map, Array.getElem?_range, if_pos hi]
  show some _ = _
  have : i % 4 = 0 ∨ i % 4 = 1 ∨ i % 4 = 2 ∨ i % 4 = 3 := by omega
  rcases this with h | h | h | h <;> simp [h, rcells]
 ·rw [Array.getElem?_eq_none (by rw [size_madeCells]; omega), Array.getElem?_eq_none (by rw [cellsR_size, List.length_replicate]; omega)]
theorem info23 : (Try.prog.info? 23).map (fun i => (i.zero, i.size, i.bytes)) = some (some (.agg #[(.int .i64 0), (.int .i64 0), (.int .i64 0), (.int .i64 0)]), 4, 32) := by kernel_rfl
section
variable {ops : Array Oper} {rest : List Oper} {o : Oper} {a : Act} {Q : Exit → Act → World → Prop} {W : World}
theorem make_rects_ev (hgd : o.guard = none) {N : Tmp} (_hd : o.dst = some N) (x y : Operand) (ho : o.op = .makeSlice 36 x y) (m : Nat) (hx : a.eval x = .int .i64 (m : Int)) (hy : a.eval y = .int .i64 (m : Int)) (hl : m ≤ 1000000)
  (h : ∀ g, g = W.heap.size → ∀ w1, w1.heap[g]? = some (.cells (cellsR (List.replicate m (0, 0, 0, 0))) 23 (0, 0)) → Below W.heap.size W w1 → wpList Try.prog ops Q rest (a.put o.dst (.slice (some ⟨g, 0, none⟩) m m)) w1) : wpList Try.prog ops Q (o :: rest) a W := by
 obtain ⟨i0, hi, hzz⟩ := Option.map_eq_some_iff.1 info23
 simp only [Prod.mk.injEq] at hzz
 obtain ⟨hz0, hz1, hz2⟩ := hzz
 have hr := run_make (P := Try.prog) W 36 23 i0 _ Try.underlying36 hi hz0 .i64 .i64 (m : Int) (m : Int) (by omega) (by omega) (by rw [hz2]; omega) (by omega)
 simp only [Int.toNat_natCast] at hr
 rw [hz1] at hr
 have hq : (Value.agg #[(.int .i64 0), (.int .i64 0), (.int .i64 0), (.int .i64 0)]).cells = #[.int .i64 0, .int .i64 0, .int .i64 0, .int .i64 0] := rfl
 rw [hq, made_rects] at hr
 refine Kd.event_run hgd (w1 := W.alloc (.cells (cellsR (List.replicate m (0, 0, 0, 0))) 23)) (v := .slice (some ⟨W.heap.size, 0, none⟩) m m) ?_ (h _ rfl _ (blk_new W _) (below_alloc (Below.refl _ _) _))
 simp [execOp, ho, hx, hy, hr]
end
/-- The three high subbands' rectangles of a rectangle, and the low one's. -/
def bLL (e : Rt) : Rt := ((e.1 + 1) / 2, (e.2.1 + 1) / 2, (e.2.2.1 + 1) / 2, (e.2.2.2 + 1) / 2)
def bHL (e : Rt) : Rt := (e.1 / 2, (e.2.1 + 1) / 2, e.2.2.1 / 2, (e.2.2.2 + 1) / 2)
def bLH (e : Rt) : Rt := ((e.1 + 1) / 2, e.2.1 / 2, (e.2.2.1 + 1) / 2, e.2.2.2 / 2)
def bHH (e : Rt) : Rt := (e.1 / 2, e.2.1 / 2, e.2.2.1 / 2, e.2.2.2 / 2)
/-- What is needed of the j-th subband, of the resolutions above q. -/
def needE (res q : Nat) (e : Nat → Rt) (j : Nat) : Rt := if 1 ≤ j ∧ q < (j + 2) / 3 ∧ (j + 2) / 3 ≤ res then (if j % 3 = 1 then bHL (e ((j + 2) / 3)) else if j % 3 = 2 then bLH (e ((j + 2) / 3)) else bHH (e ((j + 2) / 3))) else (0, 0, 0, 0)
def needP (n res q : Nat) (e : Nat → Rt) : List Rt := (List.range (3 * n + 1)).map (needE res q e)
theorem needP_len {n res q : Nat} {e : Nat → Rt} : (needP n res q e).length = 3 * n + 1 := by simp [needP]
theorem needP_get {n res q : Nat} {e : Nat → Rt} {j : Nat} (h : j < 3 * n + 1) : (needP n res q e)[j]? = some (needE res q e j) := by
 unfold needP
 rw [List.getElem?_map, List.getElem?_range h]
 rfl
theorem needP_top {n res : Nat} {e : Nat → Rt} : needP n res res e = List.replicate (3 * n + 1) (0, 0, 0, 0) := by
 apply List.ext_getElem?
 intro i
 by_cases h : i < 3 * n + 1
 ·rw [needP_get h, List.getElem?_replicate, if_pos h]
  unfold needE
  rw [if_neg (by omega)]
 ·rw [List.getElem?_eq_none (by rw [needP_len]; omega), List.getElem?_eq_none (by rw [List.length_replicate]; omega)]
theorem needP_step {n res q : Nat} {e : Nat → Rt} (hq : q < res) (hn : res ≤ n) : (((needP n res (q + 1) e).set (3 * q + 1) (bHL (e (q + 1)))).set (3 * q + 2) (bLH (e (q + 1)))).set (3 * q + 3) (bHH (e (q + 1))) = needP n res q e := by
 apply List.ext_getElem?
 intro i
 by_cases h : i < 3 * n + 1
 ·rw [needP_get h]
  by_cases c3 : 3 * q + 3 = i
  ·subst c3
   rw [List.getElem?_set_self (by simp [needP_len]; omega)]
   unfold needE
   rw [if_pos (by omega), if_neg (by omega), if_neg (by omega), show (3 * q + 3 + 2) / 3 = q + 1 by omega]
  ·rw [List.getElem?_set_ne c3]
   by_cases c2 : 3 * q + 2 = i
   ·subst c2
    rw [List.getElem?_set_self (by simp [needP_len]; omega)]
    unfold needE
    rw [if_pos (by omega), if_neg (by omega), if_pos (by omega), show (3 * q + 2 + 2) / 3 = q + 1 by omega]
   ·rw [List.getElem?_set_ne c2]
    by_cases c1 : 3 * q + 1 = i
    ·subst c1
     rw [List.getElem?_set_self (by simp [needP_len]; omega)]
     unfold needE
     rw [if_pos (by omega), if_pos (by omega), show (3 * q + 1 + 2) / 3 = q + 1 by omega]
    ·rw [List.getElem?_set_ne c1, needP_get h]
     unfold needE
     by_cases g : 1 ≤ i ∧ q + 1 < (i + 2) / 3 ∧ (i + 2) / 3 ≤ res
     ·rw [if_pos g, if_pos (show 1 ≤ i ∧ q < (i + 2) / 3 ∧ (i + 2) / 3 ≤ res by omega)]
     ·rw [if_neg g, if_neg (show ¬ (1 ≤ i ∧ q < (i + 2) / 3 ∧ (i + 2) / 3 ≤ res) by omega)]
 ·rw [List.getElem?_eq_none (by simp [needP_len]; omega), List.getElem?_eq_none (by rw [needP_len]; omega)]
/-- Two planes of one rectangle are alike in a rectangle. -/
def Alk (x0 y0 x1 y1 : Int) (D D' : List Int) (r : Rt) : Prop :=
 ∀ i j : Nat, i < (y1 - y0).toNat → j < (x1 - x0).toNat → r.1 ≤ x0 + j → x0 + j < r.2.2.1 → r.2.1 ≤ y0 + i → y0 + i < r.2.2.2 → cell (x1 - x0).toNat D i j = cell (x1 - x0).toNat D' i j
theorem jn_col {y0 : Int} {w lh hh i j m : Nat} {D D2 : List Int} (hy : 0 ≤ y0) (hlh : (lh : Int) = evA y0 m) (hhh : (hh : Int) = odA y0 m) (hi : i < m) : jn y0 (colOf w lh D j) (colOf w hh D2 j) i = if (y0 + i) % 2 = 0 then cell w D (evA y0 i).toNat j else cell w D2 (odA y0 i).toNat j := by
 unfold jn
 split
 ·rename_i p
  have h1 : 0 ≤ evA y0 i := by unfold evA; omega
  have h2 := ev_lt p hi
  obtain ⟨q, hq⟩ := Int.eq_ofNat_of_zero_le h1
  rw [hq, Int.toNat_natCast, colOf_rd (by omega)]
 ·rename_i p
  have h1 : 0 ≤ odA y0 i := by unfold odA; omega
  have h2 := od_lt p hi
  obtain ⟨q, hq⟩ := Int.eq_ofNat_of_zero_le h1
  rw [hq, Int.toNat_natCast, colOf_rd (by omega)]
theorem jn_row {x0 : Int} {lw uw i j w : Nat} {D D2 : List Int} (hx : 0 ≤ x0) (hlw : (lw : Int) = evA x0 w) (huw : (uw : Int) = odA x0 w) (hj : j < w) : jn x0 (rowOf lw D i) (rowOf uw D2 i) j = if (x0 + j) % 2 = 0 then cell lw D i (evA x0 j).toNat else cell uw D2 i (odA x0 j).toNat := by
 unfold jn
 split
 ·rename_i p
  have h1 : 0 ≤ evA x0 j := by unfold evA; omega
  have h2 := ev_lt p hj
  obtain ⟨q, hq⟩ := Int.eq_ofNat_of_zero_le h1
  rw [hq, Int.toNat_natCast, rowOf_rd (by omega)]
 ·rename_i p
  have h1 : 0 ≤ odA x0 j := by unfold odA; omega
  have h2 := od_lt p hj
  obtain ⟨q, hq⟩ := Int.eq_ofNat_of_zero_le h1
  rw [hq, Int.toNat_natCast, rowOf_rd (by omega)]
/-- Four planes put together, twice. -/
theorem merge_pair {kk x0 y0 x1 y1 b : Int} {D0 D1 D2 D3 D0' D1' D2' D3' : List Int} {e win : Rt} (hkk : 1 ≤ kk ∧ kk ≤ 3) (hx : 0 ≤ x0 ∧ x0 ≤ x1 ∧ x1 ≤ 4096) (hy : 0 ≤ y0 ∧ y0 ≤ y1 ∧ y1 ≤ 4096) (har : (x1 - x0) * (y1 - y0) ≤ 1048576)
  (v0 : PV ((x0 + 1) / 2) ((y0 + 1) / 2) ((x1 + 1) / 2) ((y1 + 1) / 2) D0) (v1 : PV (x0 / 2) ((y0 + 1) / 2) (x1 / 2) ((y1 + 1) / 2) D1) (v2 : PV ((x0 + 1) / 2) (y0 / 2) ((x1 + 1) / 2) (y1 / 2) D2) (v3 : PV (x0 / 2) (y0 / 2) (x1 / 2) (y1 / 2) D3)
  (v0' : PV ((x0 + 1) / 2) ((y0 + 1) / 2) ((x1 + 1) / 2) ((y1 + 1) / 2) D0') (v1' : PV (x0 / 2) ((y0 + 1) / 2) (x1 / 2) ((y1 + 1) / 2) D1') (v2' : PV ((x0 + 1) / 2) (y0 / 2) ((x1 + 1) / 2) (y1 / 2) D2') (v3' : PV (x0 / 2) (y0 / 2) (x1 / 2) (y1 / 2) D3')
  (hb1 : 2 ≤ b) (hb2 : b ≤ 281474976710656) (B0 : Bd b D0) (B1 : Bd b D1) (B2 : Bd b D2) (B3 : Bd b D3) (B0' : Bd b D0') (B1' : Bd b D1') (B2' : Bd b D2') (B3' : Bd b D3')
  (a0 : Alk ((x0 + 1) / 2) ((y0 + 1) / 2) ((x1 + 1) / 2) ((y1 + 1) / 2) D0 D0' (bLL e)) (a1 : Alk (x0 / 2) ((y0 + 1) / 2) (x1 / 2) ((y1 + 1) / 2) D1 D1' (bHL e)) (a2 : Alk ((x0 + 1) / 2) (y0 / 2) ((x1 + 1) / 2) (y1 / 2) D2 D2' (bLH e)) (a3 : Alk (x0 / 2) (y0 / 2) (x1 / 2) (y1 / 2) D3 D3' (bHH e))
  (hwxy : ∀ x y : Int, x0 ≤ x → x < x1 → y0 ≤ y → y < y1 → win.1 - (reach kk + 1) ≤ x → x < win.2.2.1 + (reach kk + 1) → win.2.1 - (reach kk + 1) ≤ y → y < win.2.2.2 + (reach kk + 1) → (e.1 ≤ x ∧ x < e.2.2.1) ∧ (e.2.1 ≤ y ∧ y < e.2.2.2)) :
  ∃ G G', MergeTo kk x0 y0 x1 y1 ((x0 + 1) / 2) (x0 / 2) ((x1 + 1) / 2) (x1 / 2) ((y0 + 1) / 2) (y0 / 2) ((y1 + 1) / 2) (y1 / 2) D0 D1 D2 D3 G ∧ MergeTo kk x0 y0 x1 y1 ((x0 + 1) / 2) (x0 / 2) ((x1 + 1) / 2) (x1 / 2) ((y0 + 1) / 2) (y0 / 2) ((y1 + 1) / 2) (y1 / 2) D0' D1' D2' D3' G' ∧
   PV x0 y0 x1 y1 G ∧ PV x0 y0 x1 y1 G' ∧ Bd (16 * b) G ∧ Bd (16 * b) G' ∧ Alk x0 y0 x1 y1 G G' win := by
 obtain ⟨w, hw⟩ := Int.eq_ofNat_of_zero_le (show 0 ≤ x1 - x0 by omega)
 obtain ⟨m, hm⟩ := Int.eq_ofNat_of_zero_le (show 0 ≤ y1 - y0 by omega)
 have hl : m * w ≤ 1048576 := by
  rw [hw, hm, ← Int.natCast_mul, Nat.mul_comm] at har
  omega
 obtain ⟨lw, hlw⟩ := Int.eq_ofNat_of_zero_le (show 0 ≤ (x1 + 1) / 2 - (x0 + 1) / 2 by omega)
 obtain ⟨uw, huw⟩ := Int.eq_ofNat_of_zero_le (show 0 ≤ x1 / 2 - x0 / 2 by omega)
 obtain ⟨lh, hlh⟩ := Int.eq_ofNat_of_zero_le (show 0 ≤ (y1 + 1) / 2 - (y0 + 1) / 2 by omega)
 obtain ⟨uh, huh⟩ := Int.eq_ofNat_of_zero_le (show 0 ≤ y1 / 2 - y0 / 2 by omega)
 have hw' : x1 = x0 + (w : Int) := by omega
 have hm' : y1 = y0 + (m : Int) := by omega
 have sw : lw + uw = w := by omega
 have sh : lh + uh = m := by omega
 have m1 : m * lw ≤ m * w := Nat.mul_le_mul_left m (by omega)
 have m2 : m * uw ≤ m * w := Nat.mul_le_mul_left m (by omega)
 obtain ⟨ex, ox⟩ := ev_len hx.1 hw' hlw.symm sw
 obtain ⟨ey, oy⟩ := ev_len hy.1 hm' hlh.symm sh
 have len : ∀ {p q r s : Int} {D : List Int} {a b : Nat}, PV p q r s D → r - p = (a : Int) → s - q = (b : Int) → D.length = b * a := by
  intro p q r s D a b h h1 h2
  have h3 := h.2.2.2
  rw [h1, h2, ← Int.natCast_mul, Nat.mul_comm] at h3
  omega
 obtain ⟨H0, H0', t1, t1', t2, t2', t3, t3', t4⟩ := half_pair (kk := kk) (a := (x0 + 1) / 2) (c := (x1 + 1) / 2) (y0 := y0) (y1 := y1) (b := b) (w := lw) (m := m) (lh := lh) (hh := uh) hkk (by omega) (by omega) (by omega) hm' (by omega) hlh.symm sh (len v0 hlw hlh) (len v2 hlw huh) (len v0' hlw hlh) (len v2' hlw huh) hb1 (by omega) B0 B2 B0' B2'
 obtain ⟨H1, H1', s1, s1', s2, s2', s3, s3', s4⟩ := half_pair (kk := kk) (a := x0 / 2) (c := x1 / 2) (y0 := y0) (y1 := y1) (b := b) (w := uw) (m := m) (lh := lh) (hh := uh) hkk (by omega) (by omega) (by omega) hm' (by omega) hlh.symm sh (len v1 huw hlh) (len v3 huw huh) (len v1' huw hlh) (len v3' huw huh) hb1 (by omega) B1 B3 B1' B3'
 obtain ⟨G, G', g1, g2, g2', g3, g3', g4⟩ := rows_pair (kk := kk) (x0 := x0) (y0 := y0) (x1 := x1) (y1 := y1) (b := 4 * b) (w := w) (m := m) (lw := lw) (hw := uw) hkk (by omega) (by omega) hw' hm' hl hlw.symm sw t2 s2 t2' s2' (by omega) (by omega) t3 s3 t3' s3'
 have V := PV.of_nat ⟨hx.1, hx.2.2⟩ ⟨hy.1, hy.2.2⟩ hw' hm' g2 hl
 have V' := PV.of_nat ⟨hx.1, hx.2.2⟩ ⟨hy.1, hy.2.2⟩ hw' hm' g2' hl
 have u0 : PV ((x0 + 1) / 2) y0 ((x1 + 1) / 2) y1 H0 := PV.of_nat (by omega) (by omega) (w := lw) (m := m) (by omega) (by omega) t2 (by omega)
 have u1 : PV (x0 / 2) y0 (x1 / 2) y1 H1 := PV.of_nat (by omega) (by omega) (w := uw) (m := m) (by omega) (by omega) s2 (by omega)
 have u0' : PV ((x0 + 1) / 2) y0 ((x1 + 1) / 2) y1 H0' := PV.of_nat (by omega) (by omega) (w := lw) (m := m) (by omega) (by omega) t2' (by omega)
 have u1' : PV (x0 / 2) y0 (x1 / 2) y1 H1' := PV.of_nat (by omega) (by omega) (w := uw) (m := m) (by omega) (by omega) s2' (by omega)
 have z4 := empty_of (x0 := (x0 + 1) / 2) (y0 := y0) (x1 := (x1 + 1) / 2) (y1 := y1) (w := lw) (m := m) (by omega) (by omega) (by omega) (by omega) (by omega)
 have z5 := empty_of (x0 := x0 / 2) (y0 := y0) (x1 := x1 / 2) (y1 := y1) (w := uw) (m := m) (by omega) (by omega) (by omega) (by omega) (by omega)
 have hbc := bands_of (x0 := x0) (y0 := y0) (x1 := x1) (y1 := y1) hx hy
 have hk := known_of hkk
 have hrv := rv_of hx hy
 have har2 := ra_of (x0 := x0) (y0 := y0) (x1 := x1) (y1 := y1) ⟨hx.1, hx.2.2⟩ ⟨hy.1, hy.2.2⟩ hw' hm' hl
 have exn : ∀ {p q r s : Int} {X : List Int}, PV p q r s X → Bd b X → dwt_exceeds.f 2000000 X 281474976710656 = some false := fun hv h => dexceeds_f (h.mono hb2) (by decide) (by decide) (by obtain ⟨_, _, _, _, h1, h2⟩ := hv.nat; omega) (by omega)
 have g1' := g1 ((x1 + 1) / 2 - (x0 + 1) / 2) (x1 / 2 - x0 / 2) hlw huw
 refine ⟨G, G', ?_, ?_, V, V', g3.mono (by omega), g3'.mono (by omega), ?_⟩
 ·exact ⟨5000, 5000, 1, 2000000, _, _, _, H0, H1, v0, exn v0 B0, v1, exn v1 B1, v2, exn v2 B2, v3, exn v3 B3, hx, hy, hrv, har2, by omega, hkk, hk, hbc, z4, t1, u0, z5, s1, u1, g1'.1⟩
 ·exact ⟨5000, 5000, 1, 2000000, _, _, _, H0', H1', v0', exn v0' B0', v1', exn v1' B1', v2', exn v2' B2', v3', exn v3' B3', hx, hy, hrv, har2, by omega, hkk, hk, hbc, z4, t1', u0', z5, s1', u1', g1'.2⟩
 ·intro i j hi hj k1 k2 k3 k4
  have ew : (x1 - x0).toNat = w := by omega
  have em : (y1 - y0).toNat = m := by omega
  rw [ew] at hj ⊢
  rw [em] at hi
  unfold Alk at a0 a1 a2 a3
  rw [show ((x1 + 1) / 2 - (x0 + 1) / 2).toNat = lw by omega] at a0 a2
  rw [show (x1 / 2 - x0 / 2).toNat = uw by omega] at a1 a3
  rw [show ((y1 + 1) / 2 - (y0 + 1) / 2).toNat = lh by omega] at a0 a1
  rw [show (y1 / 2 - y0 / 2).toNat = uh by omega] at a2 a3
  refine g4 i j hi hj fun j2 hj2 c1 c2 => ?_
  have hr0 := reach_le kk
  have hex := (hwxy (x0 + j2) (y0 + i) (by omega) (by omega) (by omega) (by omega) (by omega) (by omega) (by omega) (by omega)).1
  rw [jn_row hx.1 ex ox hj2, jn_row hx.1 ex ox hj2]
  by_cases p : (x0 + j2) % 2 = 0
  ·rw [if_pos p, if_pos p]
   have q1 := ev_lt p hj2
   have q2 : (0 : Int) ≤ evA x0 j2 := (ev_bd hx.1 (by omega) (by omega)).1
   obtain ⟨X, hX⟩ := Int.eq_ofNat_of_zero_le q2
   rw [hX, Int.toNat_natCast]
   refine t4 i X hi (by omega) fun i2 hi2 c3 c4 => ?_
   have hey := (hwxy (x0 + j2) (y0 + i2) (by omega) (by omega) (by omega) (by omega) (by omega) (by omega) (by omega) (by omega)).2
   rw [jn_col hy.1 ey oy hi2, jn_col hy.1 ey oy hi2]
   by_cases p2 : (y0 + i2) % 2 = 0
   ·rw [if_pos p2, if_pos p2]
    have q3 := ev_lt p2 hi2
    obtain ⟨Y, hY⟩ := Int.eq_ofNat_of_zero_le (ev_bd hy.1 (by omega) (show i2 ≤ 4096 by omega)).1
    rw [hY, Int.toNat_natCast]
    refine a0 Y X (by omega) (by omega) ?_ ?_ ?_ ?_ <;> (unfold evA at hX hY; unfold bLL; dsimp only; omega)
   ·rw [if_neg p2, if_neg p2]
    have q3 := od_lt p2 hi2
    obtain ⟨Y, hY⟩ := Int.eq_ofNat_of_zero_le (od_bd hy.1 (by omega) (show i2 ≤ 4096 by omega)).1
    rw [hY, Int.toNat_natCast]
    refine a2 Y X (by omega) (by omega) ?_ ?_ ?_ ?_ <;> (unfold evA at hX; unfold odA at hY; unfold bLH; dsimp only; omega)
  ·rw [if_neg p, if_neg p]
   have q1 := od_lt p hj2
   have q2 : (0 : Int) ≤ odA x0 j2 := (od_bd hx.1 (by omega) (by omega)).1
   obtain ⟨X, hX⟩ := Int.eq_ofNat_of_zero_le q2
   rw [hX, Int.toNat_natCast]
   refine s4 i X hi (by omega) fun i2 hi2 c3 c4 => ?_
   have hey := (hwxy (x0 + j2) (y0 + i2) (by omega) (by omega) (by omega) (by omega) (by omega) (by omega) (by omega) (by omega)).2
   rw [jn_col hy.1 ey oy hi2, jn_col hy.1 ey oy hi2]
   by_cases p2 : (y0 + i2) % 2 = 0
   ·rw [if_pos p2, if_pos p2]
    have q3 := ev_lt p2 hi2
    obtain ⟨Y, hY⟩ := Int.eq_ofNat_of_zero_le (ev_bd hy.1 (by omega) (show i2 ≤ 4096 by omega)).1
    rw [hY, Int.toNat_natCast]
    refine a1 Y X (by omega) (by omega) ?_ ?_ ?_ ?_ <;> (unfold odA at hX; unfold evA at hY; unfold bHL; dsimp only; omega)
   ·rw [if_neg p2, if_neg p2]
    have q3 := od_lt p2 hi2
    obtain ⟨Y, hY⟩ := Int.eq_ofNat_of_zero_le (od_bd hy.1 (by omega) (show i2 ≤ 4096 by omega)).1
    rw [hY, Int.toNat_natCast]
    refine a3 Y X (by omega) (by omega) ?_ ?_ ?_ ?_ <;> (unfold odA at hX hY; unfold bHH; dsimp only; omega)
/-- The subbands of a plane are what the synthesis wants, and it leads back. -/
theorem pyr_ok3 {kk : Int} (hkk : 1 ≤ kk ∧ kk ≤ 3) {n : Nat} (hn : n ≤ 5) {x0 y0 x1 y1 : Int} {D : List Int} (hv : PV x0 y0 x1 y1 D) (hb : Bd 262144 D) :
  ∃ (bs : List Pl) (u : Nat → Pl), Ana kk n ⟨x0, y0, x1, y1, D⟩ bs ∧ u n = ⟨x0, y0, x1, y1, D⟩ ∧ bs[0]? = some (u 0) ∧ (∀ q, q < n → SynStep kk x0 y0 x1 y1 (n : Int) bs q (u q) (u (q + 1))) ∧ (∀ (j : Nat) (b : Pl), bs[j]? = some b → BandOk x0 y0 x1 y1 (n : Int) j b ∧ Bd 2500000000 b.D ∧ b.D.length ≤ 1048576) ∧ (∀ q, q ≤ n → ((u q).x0 = cd (n - q) x0 ∧ (u q).y0 = cd (n - q) y0 ∧ (u q).x1 = cd (n - q) x1 ∧ (u q).y1 = cd (n - q) y1) ∧ Fit 2500000000 (u q)) ∧ ∀ q, q < n → Stp kk bs q (u q) (u (q + 1)) := by
 obtain ⟨⟨p1, p2, p3⟩, ⟨q1, q2, q3⟩, _, _⟩ := id hv
 have hx : 0 ≤ x0 ∧ x0 ≤ x1 ∧ x1 ≤ 4096 := ⟨p1, p2, p3⟩
 have hy : 0 ≤ y0 ∧ y0 ≤ y1 ∧ y1 ≤ 4096 := ⟨q1, q2, q3⟩
 obtain ⟨bs, u, i1, i2, i3, i4, i5, i6⟩ := ana_ok hkk n ⟨x0, y0, x1, y1, D⟩ hn ⟨hv, hb.mono (bta_le _).1⟩
 have hrect : ∀ d, d ≤ n → ((u (n - d)).x0 = cd d x0 ∧ (u (n - d)).y0 = cd d y0 ∧ (u (n - d)).x1 = cd d x1 ∧ (u (n - d)).y1 = cd d y1) := by
  intro d
  induction d with
  | zero => intro _; rw [Nat.sub_zero, i2, cd_zero, cd_zero, cd_zero, cd_zero]; exact ⟨rfl, rfl, rfl, rfl⟩
  | succ d ih =>
   intro hd
   obtain ⟨a1, a2, a3, a4⟩ := ih (by omega)
   obtain ⟨_, _, _, _, _, _, ⟨b1, b2, b3, b4⟩, _⟩ := i4 (n - (d + 1)) (by omega)
   rw [show n - (d + 1) + 1 = n - d by omega] at b1 b2 b3 b4
   rw [b1, b2, b3, b4, a1, a2, a3, a4, cd_succ (by omega), cd_succ (by omega), cd_succ (by omega), cd_succ (by omega)]
   exact ⟨rfl, rfl, rfl, rfl⟩
 have hr : ∀ q, q ≤ n → ((u q).x0 = cd (n - q) x0 ∧ (u q).y0 = cd (n - q) y0 ∧ (u q).x1 = cd (n - q) x1 ∧ (u q).y1 = cd (n - q) y1) := by
  intro q hq
  have := hrect (n - q) (by omega)
  rwa [show n - (n - q) = q by omega] at this
 have hres : ∀ q, q ≤ n → pyramid_Resolution.f 1 x0 y0 x1 y1 (n : Int) (q : Int) = some ((u q).x0, (u q).y0, (u q).x1, (u q).y1) := by
  intro q hq
  obtain ⟨a1, a2, a3, a4⟩ := hr q hq
  rw [res_of hn hq hx hy, a1, a2, a3, a4]
 refine ⟨bs, u, i1, i2, i3, ?_, ?_, fun q hq => ⟨hr q hq, i6 q hq⟩, i4⟩
 ·intro q hq
  obtain ⟨D1, D2, D3, s1, s2, s3, ⟨b1, b2, b3, b4⟩, s5⟩ := i4 q hq
  refine ⟨1, _, _, _, _, D1, D2, D3, ?_, ?_, s3, hres (q + 1) (by omega), s5⟩
  ·rw [s1, b2, b4]
  ·rw [s2, b1, b3]
 ·intro j b hj
  have hl := i1.len
  have hjl : j < 3 * n + 1 := by
   rw [← hl]
   exact (List.getElem?_eq_some_iff.mp hj).1
  have hbf := i5 b (List.mem_of_getElem? hj)
  have hlen : b.D.length ≤ 1048576 := by
   obtain ⟨w, m, _, _, h1, h2⟩ := hbf.1.nat
   omega
  refine ⟨⟨hbf.1, ?_, 2000000, pexceeds_f (hbf.2.mono (by decide)) (by decide) (by decide) (by omega) (by decide)⟩, hbf.2, hlen⟩
  refine ⟨rv_of hx hy, ?_⟩
  by_cases h0 : j = 0
  ·subst h0
   obtain rfl : b = u 0 := by
    rw [hj] at i3
    exact Option.some.inj i3
   exact ⟨1, 1, _, _, place_zero ⟨n, by omega⟩, Or.inl ⟨rfl, hres 0 (by omega)⟩⟩
  ·obtain ⟨q, o, e, ho1, ho3, hq⟩ : ∃ q o : Nat, j = 3 * q + o ∧ 1 ≤ o ∧ o ≤ 3 ∧ q < n := ⟨(j - 1) / 3, j - 3 * ((j - 1) / 3), by omega, by omega, by omega, by omega⟩
   subst e
   have hp := place_of ⟨n, by omega⟩ ⟨q, by omega⟩ hq ⟨o, by omega⟩ ho1
   simp only at hp
   obtain ⟨D1, D2, D3, s1, s2, s3, ⟨b1, b2, b3, b4⟩, s5⟩ := i4 q hq
   have hu := (i6 (q + 1) (by omega)).1
   obtain ⟨⟨t1, t2, t3⟩, ⟨t4, t5, t6⟩, _, _⟩ := hu
   refine ⟨1, 1, _, _, hp, Or.inr ⟨by omega, (u (q + 1)).x0, (u (q + 1)).y0, (u (q + 1)).x1, (u (q + 1)).y1, ((u (q + 1)).x0 + 1) / 2, (u (q + 1)).x0 / 2, ((u (q + 1)).x1 + 1) / 2, (u (q + 1)).x1 / 2, ((u (q + 1)).y0 + 1) / 2, (u (q + 1)).y0 / 2, ((u (q + 1)).y1 + 1) / 2, (u (q + 1)).y1 / 2, ?_, rv_of ⟨t1, t2, t3⟩ ⟨t4, t5, t6⟩, bands_of ⟨t1, t2, t3⟩ ⟨t4, t5, t6⟩, ?_⟩⟩
   ·rw [show wrap64 (wrap64 ((n : Int) - ((n - q : Nat) : Int)) + 1) = ((q + 1 : Nat) : Int) by unfold wrap64; omega]
    exact hres (q + 1) (by omega)
   ·have : o = 1 ∨ o = 2 ∨ o = 3 := by omega
    rcases this with rfl | rfl | rfl
    ·rw [s1] at hj
     obtain rfl := Option.some.inj hj
     exact Or.inl ⟨rfl, rfl⟩
    ·rw [s2] at hj
     obtain rfl := Option.some.inj hj
     exact Or.inr (Or.inl ⟨rfl, rfl⟩)
    ·rw [s3] at hj
     obtain rfl := Option.some.inj hj
     exact Or.inr (Or.inr ⟨rfl, rfl⟩)
/-- How large the numbers are, so many levels up. -/
def btu : Nat → Int
 | 0 => 2500000000
 | 1 => 40000000000
 | 2 => 640000000000
 | 3 => 10240000000000
 | 4 => 163840000000000
 | _ => 2621440000000000
theorem btu_step {q : Nat} (h : q < 5) : 16 * btu q = btu (q + 1) ∧ 2 ≤ btu q ∧ btu q ≤ 281474976710656 ∧ 2500000000 ≤ btu q := by
 have : q = 0 ∨ q = 1 ∨ q = 2 ∨ q = 3 ∨ q = 4 := by omega
 rcases this with rfl | rfl | rfl | rfl | rfl <;> decide
/-- A subband and what stands for it: of one rectangle, alike where it is needed. -/
structure Cut (b b' : Pl) (r : Rt) : Prop where
 rect : b'.x0 = b.x0 ∧ b'.y0 = b.y0 ∧ b'.x1 = b.x1 ∧ b'.y1 = b.y1
 pv : PV b.x0 b.y0 b.x1 b.y1 b.D
 pv' : PV b.x0 b.y0 b.x1 b.y1 b'.D
 bd : Bd 2500000000 b.D
 bd' : Bd 2500000000 b'.D
 alk : Alk b.x0 b.y0 b.x1 b.y1 b.D b'.D r
theorem syn_pair {kk : Int} (hkk : 1 ≤ kk ∧ kk ≤ 3) {n res : Nat} (hn : n ≤ 5) (hres : res ≤ n) {x0 y0 x1 y1 : Int} (hx : 0 ≤ x0 ∧ x0 ≤ x1 ∧ x1 ≤ 4096) (hy : 0 ≤ y0 ∧ y0 ≤ y1 ∧ y1 ≤ 4096) {bs bs' : List Pl} {e win : Nat → Rt}
  (har : ∀ q, q ≤ n → (cd (n - q) x1 - cd (n - q) x0) * (cd (n - q) y1 - cd (n - q) y0) ≤ 1048576)
  (h0 : ∃ b b', bs[0]? = some b ∧ bs'[0]? = some b' ∧ (b.x0 = cd n x0 ∧ b.y0 = cd n y0 ∧ b.x1 = cd n x1 ∧ b.y1 = cd n y1) ∧ Cut b b' (win 0))
  (hq : ∀ q, q < res → ∃ b1 b2 b3 b1' b2' b3', (bs[3 * q + 1]? = some b1 ∧ bs[3 * q + 2]? = some b2 ∧ bs[3 * q + 3]? = some b3) ∧ (bs'[3 * q + 1]? = some b1' ∧ bs'[3 * q + 2]? = some b2' ∧ bs'[3 * q + 3]? = some b3') ∧
   (b1.x0 = cd (n - (q + 1)) x0 / 2 ∧ b1.y0 = (cd (n - (q + 1)) y0 + 1) / 2 ∧ b1.x1 = cd (n - (q + 1)) x1 / 2 ∧ b1.y1 = (cd (n - (q + 1)) y1 + 1) / 2) ∧ (b2.x0 = (cd (n - (q + 1)) x0 + 1) / 2 ∧ b2.y0 = cd (n - (q + 1)) y0 / 2 ∧ b2.x1 = (cd (n - (q + 1)) x1 + 1) / 2 ∧ b2.y1 = cd (n - (q + 1)) y1 / 2) ∧ (b3.x0 = cd (n - (q + 1)) x0 / 2 ∧ b3.y0 = cd (n - (q + 1)) y0 / 2 ∧ b3.x1 = cd (n - (q + 1)) x1 / 2 ∧ b3.y1 = cd (n - (q + 1)) y1 / 2) ∧
   Cut b1 b1' (bHL (e (q + 1))) ∧ Cut b2 b2' (bLH (e (q + 1))) ∧ Cut b3 b3' (bHH (e (q + 1))) ∧ win q = bLL (e (q + 1)) ∧
   (∀ x y : Int, cd (n - (q + 1)) x0 ≤ x → x < cd (n - (q + 1)) x1 → cd (n - (q + 1)) y0 ≤ y → y < cd (n - (q + 1)) y1 → (win (q + 1)).1 - (reach kk + 1) ≤ x → x < (win (q + 1)).2.2.1 + (reach kk + 1) → (win (q + 1)).2.1 - (reach kk + 1) ≤ y → y < (win (q + 1)).2.2.2 + (reach kk + 1) → ((e (q + 1)).1 ≤ x ∧ x < (e (q + 1)).2.2.1) ∧ ((e (q + 1)).2.1 ≤ y ∧ y < (e (q + 1)).2.2.2))) :
  ∀ r, r ≤ res → ∃ u v : Nat → Pl, bs[0]? = some (u 0) ∧ bs'[0]? = some (v 0) ∧ (∀ q, q < r → SynStep kk x0 y0 x1 y1 (n : Int) bs q (u q) (u (q + 1))) ∧ (∀ q, q < r → SynStep kk x0 y0 x1 y1 (n : Int) bs' q (v q) (v (q + 1))) ∧ ∃ G G' : List Int, u r = ⟨cd (n - r) x0, cd (n - r) y0, cd (n - r) x1, cd (n - r) y1, G⟩ ∧ v r = ⟨cd (n - r) x0, cd (n - r) y0, cd (n - r) x1, cd (n - r) y1, G'⟩ ∧ PV (cd (n - r) x0) (cd (n - r) y0) (cd (n - r) x1) (cd (n - r) y1) G ∧ PV (cd (n - r) x0) (cd (n - r) y0) (cd (n - r) x1) (cd (n - r) y1) G' ∧ Bd (btu r) G ∧ Bd (btu r) G' ∧ Alk (cd (n - r) x0) (cd (n - r) y0) (cd (n - r) x1) (cd (n - r) y1) G G' (win r)
 | 0, hr => by
  obtain ⟨b, b', hb, hb', ⟨r1, r2, r3, r4⟩, hc⟩ := h0
  obtain ⟨⟨c1, c2, c3, c4⟩, pv, pv', bd, bd', alk⟩ := hc
  refine ⟨fun _ => b, fun _ => b', hb, hb', fun q h => absurd h (Nat.not_lt_zero q), fun q h => absurd h (Nat.not_lt_zero q), b.D, b'.D, ?_, ?_, ?_⟩
  ·show b = _
   rw [Nat.sub_zero, ← r1, ← r2, ← r3, ← r4]
  ·show b' = _
   rw [Nat.sub_zero, ← r1, ← r2, ← r3, ← r4, ← c1, ← c2, ← c3, ← c4]
  ·rw [Nat.sub_zero, ← r1, ← r2, ← r3, ← r4]
   exact ⟨pv, pv', bd, bd', alk⟩
 | q + 1, hr => by
  obtain ⟨u, v, i1, i2, i3, i4, G, G', i5, i6, i7, i8, i9, i10, i11⟩ := syn_pair hkk hn hres hx hy har h0 hq q (by omega)
  obtain ⟨b1, b2, b3, b1', b2', b3', ⟨j1, j2, j3⟩, ⟨j1', j2', j3'⟩, ⟨k1, k2, k3, k4⟩, ⟨l1, l2, l3, l4⟩, ⟨m1, m2, m3, m4⟩, C1, C2, C3, hwin, hwxy⟩ := hq q (by omega)
  obtain ⟨o1, o2, o3, o4⟩ := btu_step (q := q) (by omega)
  have eL : ∀ x : Int, cd (n - q) x = (cd (n - (q + 1)) x + 1) / 2 := fun x => by rw [show n - q = n - (q + 1) + 1 by omega, cd_succ (by omega)]
  have X := cd_le (d := n - (q + 1)) (by omega) hx.1 hx.2.1 hx.2.2
  have Y := cd_le (d := n - (q + 1)) (by omega) hy.1 hy.2.1 hy.2.2
  have hX0 : 0 ≤ cd (n - (q + 1)) x0 ∧ cd (n - (q + 1)) x0 ≤ cd (n - (q + 1)) x1 ∧ cd (n - (q + 1)) x1 ≤ 4096 := X
  have hY0 : 0 ≤ cd (n - (q + 1)) y0 ∧ cd (n - (q + 1)) y0 ≤ cd (n - (q + 1)) y1 ∧ cd (n - (q + 1)) y1 ≤ 4096 := Y
  rw [hwin] at i11
  rw [eL, eL, eL, eL] at i7 i8 i11
  have e1 := C1.pv; have e1' := C1.pv'; have g1 := C1.alk
  have e2 := C2.pv; have e2' := C2.pv'; have g2 := C2.alk
  have e3 := C3.pv; have e3' := C3.pv'; have g3 := C3.alk
  rw [k1, k2, k3, k4] at e1 e1' g1
  rw [l1, l2, l3, l4] at e2 e2' g2
  rw [m1, m2, m3, m4] at e3 e3' g3
  obtain ⟨H, H', n1, n2, n3, n4, n5, n6, n7⟩ := merge_pair hkk hX0 hY0 (har (q + 1) (by omega)) i7 e1 e2 e3 i8 e1' e2' e3' o2 o3 i9 (C1.bd.mono o4) (C2.bd.mono o4) (C3.bd.mono o4) i10 (C1.bd'.mono o4) (C2.bd'.mono o4) (C3.bd'.mono o4) i11 g1 g2 g3 hwxy
  rw [o1] at n5 n6
  have hrs := res_of hn (show q + 1 ≤ n by omega) hx hy
  refine ⟨fun k => if k ≤ q then u k else ⟨cd (n - (q + 1)) x0, cd (n - (q + 1)) y0, cd (n - (q + 1)) x1, cd (n - (q + 1)) y1, H⟩, fun k => if k ≤ q then v k else ⟨cd (n - (q + 1)) x0, cd (n - (q + 1)) y0, cd (n - (q + 1)) x1, cd (n - (q + 1)) y1, H'⟩, ?_, ?_, ?_, ?_, H, H', if_neg (by omega), if_neg (by omega), n3, n4, n5, n6, n7⟩
  ·show _ = some (if 0 ≤ q then u 0 else _)
   rw [if_pos (Nat.zero_le _)]
   exact i1
  ·show _ = some (if 0 ≤ q then v 0 else _)
   rw [if_pos (Nat.zero_le _)]
   exact i2
  ·intro p hp
   show SynStep kk x0 y0 x1 y1 (n : Int) bs p (if p ≤ q then u p else _) (if p + 1 ≤ q then u (p + 1) else _)
   rw [if_pos (show p ≤ q by omega)]
   by_cases c : p < q
   ·rw [if_pos (show p + 1 ≤ q by omega)]
    exact i3 p c
   ·obtain rfl : p = q := by omega
    rw [if_neg (show ¬ p + 1 ≤ p by omega), i5]
    refine ⟨1, b1.x0, b1.x1, b2.y0, b2.y1, b1.D, b2.D, b3.D, ?_, ?_, ?_, hrs, ?_⟩
    ·rw [j1]; show some b1 = some ⟨b1.x0, cd (n - p) y0, b1.x1, cd (n - p) y1, b1.D⟩
     rw [eL y0, eL y1, ← k2, ← k4]
    ·rw [j2]; show some b2 = some ⟨cd (n - p) x0, b2.y0, cd (n - p) x1, b2.y1, b2.D⟩
     rw [eL x0, eL x1, ← l1, ← l3]
    ·rw [j3, l2, l4, k1, k3, ← m1, ← m2, ← m3, ← m4]
    ·show MergeTo kk _ _ _ _ (cd (n - p) x0) b1.x0 (cd (n - p) x1) b1.x1 (cd (n - p) y0) b2.y0 (cd (n - p) y1) b2.y1 G b1.D b2.D b3.D H
     rw [eL, eL, eL, eL, k1, k3, l2, l4]
     exact n1
  ·intro p hp
   show SynStep kk x0 y0 x1 y1 (n : Int) bs' p (if p ≤ q then v p else _) (if p + 1 ≤ q then v (p + 1) else _)
   rw [if_pos (show p ≤ q by omega)]
   by_cases c : p < q
   ·rw [if_pos (show p + 1 ≤ q by omega)]
    exact i4 p c
   ·obtain rfl : p = q := by omega
    rw [if_neg (show ¬ p + 1 ≤ p by omega), i6]
    obtain ⟨c1, c2, c3, c4⟩ := C1.rect
    obtain ⟨d1, d2, d3, d4⟩ := C2.rect
    obtain ⟨f1, f2, f3, f4⟩ := C3.rect
    refine ⟨1, b1.x0, b1.x1, b2.y0, b2.y1, b1'.D, b2'.D, b3'.D, ?_, ?_, ?_, hrs, ?_⟩
    ·rw [j1']; show some b1' = some ⟨b1.x0, cd (n - p) y0, b1.x1, cd (n - p) y1, b1'.D⟩
     rw [eL y0, eL y1, ← k2, ← k4, ← c1, ← c2, ← c3, ← c4]
    ·rw [j2']; show some b2' = some ⟨cd (n - p) x0, b2.y0, cd (n - p) x1, b2.y1, b2'.D⟩
     rw [eL x0, eL x1, ← l1, ← l3, ← d1, ← d2, ← d3, ← d4]
    ·rw [j3', l2, l4, k1, k3, ← m1, ← m2, ← m3, ← m4, ← f1, ← f2, ← f3, ← f4]
    ·show MergeTo kk _ _ _ _ (cd (n - p) x0) b1.x0 (cd (n - p) x1) b1.x1 (cd (n - p) y0) b2.y0 (cd (n - p) y1) b2.y1 G' b1'.D b2'.D b3'.D H'
     rw [eL, eL, eL, eL, k1, k3, l2, l4]
     exact n2
/-- What the rows of a rectangle, from y on, leave of a plane's numbers. -/
def partF (wd ws x0 y0 s0 t0 r0 r1 u1 : Int) (S : List Int) : Nat → Int → List Int → Option (List Int)
  | 0, _, _ => none
  | k + 1, y, X => if y < u1 then partF wd ws x0 y0 s0 t0 r0 r1 u1 S k (y + 1) (splice X ((y - y0) * wd + r0 - x0).toNat ((S.drop ((y - t0) * ws + r0 - s0).toNat).take (r1 - r0).toNat)) else some X
theorem C_cut {w : World} {A D : Option Addr} {xs : List Int} {a m : Nat} (h : Kd.C (Kd.int .i64) w A xs.length xs) (hm : a + m ≤ xs.length) (hD : 0 < m → D = A.map (·.add a)) : Kd.C (Kd.int .i64) w D ((xs.drop a).take m).length ((xs.drop a).take m) := by
  have hl : ((xs.drop a).take m).length = m := by rw [List.length_take, List.length_drop]; omega
  refine ⟨rfl, by have := h.2.1; omega, fun hp => ?_⟩
  rw [hl] at hp
  obtain ⟨ad, hA, hc⟩ := h.2.2 (by omega)
  subst hA
  refine ⟨ad.add a, by rw [hD hp]; rfl, fun j p hj => ?_⟩
  have hjm : j < m := by have := (List.getElem?_eq_some_iff.mp hj).1; omega
  rw [List.getElem?_take_of_lt hjm, List.getElem?_drop] at hj
  obtain ⟨cc, c1, c2, c3⟩ := hc (a + j) p hj
  refine ⟨cc, c1, c2, fun i u hi => ?_⟩
  rw [add_add, show a + (j * (Kd.int .i64).sz + i) = (a + j) * (Kd.int .i64).sz + i from by show a + (j * 1 + i) = (a + j) * 1 + i; omega]
  exact c3 i u hi
set_option maxHeartbeats 8000000 in
set_option maxRecDepth 100000 in
theorem plane_part.good (k a c d : Nat) (x0 y0 x1 y1 s0 t0 s1 t1 r0 u0 r1 u1 : Int) (A : Option Addr) (X0 X1 S : List Int) (w0 w : World) (hB : Below w0.heap.size w0 w) (hR : Kd.R (Kd.int .i64) 3 w w0.heap.size (fun _ => True) (.slice (some ⟨a, 0, none⟩) X0.length c) X0) (hC : Kd.C (Kd.int .i64) w0 A S.length S) (hd : S.length ≤ d)
    (hx : 0 ≤ x0 ∧ x0 ≤ r0 ∧ r0 ≤ r1 ∧ r1 ≤ x1 ∧ x1 ≤ 4096) (hy : 0 ≤ y0 ∧ y0 ≤ u0 ∧ u1 ≤ y1 ∧ y1 ≤ 4096 ∧ u0 ≤ u1) (hs : 0 ≤ s0 ∧ s0 ≤ r0 ∧ r1 ≤ s1 ∧ s1 ≤ 4096) (ht : 0 ≤ t0 ∧ t0 ≤ u0 ∧ u1 ≤ t1 ∧ t1 ≤ 4096) (hX : (X0.length : Int) = (x1 - x0) * (y1 - y0) ∧ X0.length ≤ 1048576) (hS : (S.length : Int) = (s1 - s0) * (t1 - t0) ∧ S.length ≤ 1048576) (hF : partF (x1 - x0) (s1 - s0) x0 y0 s0 t0 r0 r1 u1 S k u0 X0 = some X1) :
    Calls Try.prog 38 #[.agg #[.int .i64 x0, .int .i64 y0, .int .i64 x1, .int .i64 y1, .slice (some ⟨a, 0, none⟩) X0.length c], .agg #[.int .i64 s0, .int .i64 t0, .int .i64 s1, .int .i64 t1, .slice A S.length d], .agg #[.int .i64 r0, .int .i64 u0, .int .i64 r1, .int .i64 u1]] w fun e w' => e = .returned (.tuple #[]) ∧ Kd.R (Kd.int .i64) 3 w' w0.heap.size (fun _ => True) (.slice (some ⟨a, 0, none⟩) X0.length c) X1 ∧ Kept w w' (fun k => k = a) ∧ Below w0.heap.size w0 w' := by
  have HF := Aside0.mk hF
  have HL := Aside0.mk hR
  have HC := Aside0.mk hC
  have HD := Aside0.mk hd
  have HB := Aside0.mk hB
  have HX := Aside0.mk hx
  have HY := Aside0.mk hy
  have HS := Aside0.mk hs
  have HT := Aside0.mk ht
  have HNX := Aside0.mk hX
  have HNS := Aside0.mk hS
  have HK := Aside0.mk (Kept.refl w (fun k => k = a))
  have HA := Aside0.mk (And.intro (show w0.heap.size ≤ a from Kd.R_base hR a rfl) (And.intro (Kd.R_lt hR a rfl) (show X0.length ≤ c from (Kd.R_reads' hR).2.1)))
  have HW := Aside0.mk (below_size hB)
  have hwd : wrap64 (x1 - x0) = x1 - x0 := wid (by omega) (by omega)
  have hws : wrap64 (s1 - s0) = s1 - s0 := wid (by omega) (by omega)
  have HWD := Aside0.mk (show ∀ D : List Int, plane_width.f x0 y0 x1 y1 D = some (x1 - x0) from fun D => by unfold plane_width.f; rw [hwd])
  have HWS := Aside0.mk (show ∀ D : List Int, plane_width.f s0 t0 s1 t1 D = some (s1 - s0) from fun D => by unfold plane_width.f; rw [hws])
  clear hF hR hC hd hB hx hy hs ht hX hS hwd hws
  have K00 := Aside0.mk (Hold.nil w)
  go_enter Try.func38, Try.ntmps38
  go_wp2_with (first
    | ((with_reducible refine gate_dst (N := 3) rfl ?_); refine bT (N := 3) (#[.int .i64 x0, .int .i64 y0, .int .i64 x1, .int .i64 y1, .slice (some ⟨a, 0, none⟩) X0.length c]) 26 ?_; intro g3 hg W3 hbox hb; have K1 := Aside0.mk (K00.out.box (Nat.le_refl _) hg hbox hb trivial); clear hg hbox hb K00)
    | ((with_reducible refine gate_dst (N := 4) rfl ?_); refine bT (N := 4) (#[.int .i64 s0, .int .i64 t0, .int .i64 s1, .int .i64 t1, .slice A S.length d]) 26 ?_; intro g4 hg W4 hbox hb; have K2 := Aside0.mk (K1.out.box (below_size K1.out.below) hg hbox hb trivial); clear hg hbox hb K1)
    | ((with_reducible refine gate_dst (N := 5) rfl ?_); refine bT (N := 5) (#[.int .i64 r0, .int .i64 u0, .int .i64 r1, .int .i64 u1]) 23 ?_; intro g5 hg W5 hbox hb; have K := Aside0.mk (K2.out.box (below_size K2.out.below) hg hbox hb trivial); clear hg hbox hb K2; have c1 : W5.cell? ⟨g5, 1, none⟩ = some (.int .i64 u0) := K.out.cell 0 rfl 1 rfl))
  replace HL := Aside0.mk (Kd.R_below HL.out K.out.below)
  replace HB := Aside0.mk (HB.out.trans (K.out.below.mono HW.out))
  replace HK := Aside0.mk (HK.out.below K.out.below)
  have HGN := Aside0.mk (show g3 ≠ a ∧ g4 ≠ a ∧ g5 ≠ a from ⟨fun e => by have := K.out.bks.ge 2 _ rfl; have := HA.out.2.1; omega, fun e => by have := K.out.bks.ge 1 _ rfl; have := HA.out.2.1; omega, fun e => by have := K.out.bks.ge 0 _ rfl; have := HA.out.2.1; omega⟩)
  have KB := Aside0.mk (show W5.heap[g5]? = some (.cells #[.int .i64 r0, .int .i64 u0, .int .i64 r1, .int .i64 u1] 23 (0, 0)) ∧ W5.heap[g4]? = some (.cells #[.int .i64 s0, .int .i64 t0, .int .i64 s1, .int .i64 t1, .slice A S.length d] 26 (0, 0)) ∧ W5.heap[g3]? = some (.cells #[.int .i64 x0, .int .i64 y0, .int .i64 x1, .int .i64 y1, .slice (some ⟨a, 0, none⟩) X0.length c] 26 (0, 0)) from ⟨K.out.get 0 rfl, K.out.get 1 rfl, K.out.get 2 rfl⟩)
  clear K c1
  go_loopg [6] k (fun kq v6 w' => ∃ (y : Int) (X : List Int), v6 = .int .i64 y ∧ Aside0 (u0 ≤ y ∧ y ≤ u1 ∧ X.length = X0.length) ∧ Aside0 (partF (x1 - x0) (s1 - s0) x0 y0 s0 t0 r0 r1 u1 S kq y X = some X1) ∧ Aside0 (w'.heap[g5]? = some (.cells #[.int .i64 r0, .int .i64 u0, .int .i64 r1, .int .i64 u1] 23 (0, 0)) ∧ w'.heap[g4]? = some (.cells #[.int .i64 s0, .int .i64 t0, .int .i64 s1, .int .i64 t1, .slice A S.length d] 26 (0, 0)) ∧ w'.heap[g3]? = some (.cells #[.int .i64 x0, .int .i64 y0, .int .i64 x1, .int .i64 y1, .slice (some ⟨a, 0, none⟩) X0.length c] 26 (0, 0))) ∧ Aside0 (Kd.R (Kd.int .i64) 3 w' w0.heap.size (fun _ => True) (.slice (some ⟨a, 0, none⟩) X0.length c) X) ∧ Aside0 (Kept w w' (fun k => k = a)) ∧ Aside0 (Below w0.heap.size w0 w'))
  case atStart => exact ⟨u0, X0, rfl, ⟨Int.le_refl _, by have := HY.out; omega, rfl⟩, HF, KB, HL, HK, HB⟩
  case round =>
  clear HF KB HL HK HB
  obtain ⟨y, X, rfl, HYY, HF, KB, HL, HK, HB⟩ := hrel
  cases gk with
  | zero => exact absurd HF.out (by simp [partF])
  | succ kk =>
  have hF := HF.out
  clear HF
  rw [partF.eq_2] at hF
  have c3 : wr.cell? ⟨g5, 3, none⟩ = some (.int .i64 u1) := (blk_cell KB.out.1 3).trans rfl
  by_cases hyu : y < u1
  rotate_left
  · rw [if_neg hyu] at hF
    obtain rfl := Option.some.inj hF
    have hb0 : decide (y < u1) = false := decide_eq_false hyu
    clear hF hyu
    go_wp2
    go_end0
    exact ⟨rfl, HL.out, HK.out, HB.out⟩
  rw [if_pos hyu] at hF
  have HF := Aside0.mk hF
  have hb0 : decide (y < u1) = true := decide_eq_true hyu
  have HYU := Aside0.mk hyu
  clear hF hyu
  go_upto_region 4 with (fail)
  clear c3 hb0
  obtain ⟨h, hh⟩ := Int.eq_ofNat_of_zero_le (show 0 ≤ y - y0 by have := HYY.out; have := HY.out; omega)
  obtain ⟨hs_, hhs⟩ := Int.eq_ofNat_of_zero_le (show 0 ≤ y - t0 by have := HYY.out; have := HT.out; omega)
  obtain ⟨i, hi⟩ : ∃ i : Int, i = (y - y0) * (x1 - x0) + r0 - x0 := ⟨_, rfl⟩
  obtain ⟨j, hj⟩ : ∃ j : Int, j = (y - t0) * (s1 - s0) + r0 - s0 := ⟨_, rfl⟩
  have bi : (y - y0) * (x1 - x0) + (x1 - x0) ≤ (X0.length : Int) ∧ 0 ≤ (y - y0) * (x1 - x0) := by
    have h1 := HX.out
    have h2 := HY.out
    have h3 := HYY.out
    have h4 := HYU.out
    refine ⟨?_, Int.mul_nonneg (by omega) (by omega)⟩
    rw [HNX.out.1, show (y - y0) * (x1 - x0) + (x1 - x0) = (y - y0 + 1) * (x1 - x0) by rw [Int.add_mul, Int.one_mul], Int.mul_comm (x1 - x0)]
    exact Int.mul_le_mul_of_nonneg_right (by omega) (by omega)
  have bj : (y - t0) * (s1 - s0) + (s1 - s0) ≤ (S.length : Int) ∧ 0 ≤ (y - t0) * (s1 - s0) := by
    have h1 := HS.out
    have h2 := HT.out
    have h3 := HYY.out
    have h4 := HYU.out
    have h5 := HX.out
    have h6 := HY.out
    refine ⟨?_, Int.mul_nonneg (by omega) (by omega)⟩
    rw [HNS.out.1, show (y - t0) * (s1 - s0) + (s1 - s0) = (y - t0 + 1) * (s1 - s0) by rw [Int.add_mul, Int.one_mul], Int.mul_comm (s1 - s0)]
    exact Int.mul_le_mul_of_nonneg_right (by omega) (by omega)
  have hwi : wrap64 (wrap64 (wrap64 (wrap64 (y - y0) * (x1 - x0)) + r0) - x0) = i := by
    have h1 := HX.out
    have h2 := HY.out
    have h3 := HYY.out
    have h5 := HNX.out.2
    rw [wid (n := y - y0) (by omega) (by omega), hi]
    generalize (y - y0) * (x1 - x0) = m at bi
    rw [wid (n := m) (by omega) (by omega), wid (n := m + r0) (by omega) (by omega), wid (n := m + r0 - x0) (by omega) (by omega)]
  have hwj : wrap64 (wrap64 (wrap64 (wrap64 (y - t0) * (s1 - s0)) + r0) - s0) = j := by
    have h1 := HS.out
    have h2 := HT.out
    have h3 := HYY.out
    have h5 := HNS.out.2
    have h6 := HX.out
    have h7 := HY.out
    rw [wid (n := y - t0) (by omega) (by omega), hj]
    generalize (y - t0) * (s1 - s0) = m at bj
    rw [wid (n := m) (by omega) (by omega), wid (n := m + r0) (by omega) (by omega), wid (n := m + r0 - s0) (by omega) (by omega)]
  have HI := Aside0.mk (show 0 ≤ i ∧ i + (r1 - r0) ≤ (X0.length : Int) by have h1 := HX.out; rw [hi]; omega)
  have HJ := Aside0.mk (show 0 ≤ j ∧ j + (r1 - r0) ≤ (S.length : Int) by have h1 := HS.out; rw [hj]; omega)
  rw [← hi, ← hj] at HF
  clear bi bj hi hj hh hhs
  go_cut [7] (fun v7 wc => v7 = .int .i64 i ∧ Aside0 (Below wr.heap.size wr wc))
  case first =>
    clear hwj
    have HWC := Aside0.mk (show ∀ W : World, Below wr.heap.size wr W → Calls Try.prog 65 #[.agg #[.int .i64 x0, .int .i64 y0, .int .i64 x1, .int .i64 y1, .slice (some ⟨a, 0, none⟩) X0.length c]] W fun e w' => e = .returned (.int .i64 (x1 - x0)) ∧ Below W.heap.size W w' from fun W hb => by
      have h := plane_width.calls x0 y0 x1 y1 (some ⟨a, 0, none⟩) c X (x1 - x0) W (Kd.R_reads' (Kd.R_below HL.out hb)).2.2 (by rw [HYY.out.2.2]; exact HA.out.2.2) (HWD.out X)
      rw [HYY.out.2.2] at h
      exact h)
    have b2 := Aside0.mk (below_drew1 (Below.refl wr.heap.size wr))
    replace KB := Aside0.mk (And.intro (blk_below KB.out.1 b2.out) (And.intro (blk_below KB.out.2.1 b2.out) (blk_below KB.out.2.2 b2.out)))
    refine start_ (n := 16) (S := fun w' => w'.heap[g5]? = some (.cells #[.int .i64 r0, .int .i64 u0, .int .i64 r1, .int .i64 u1] 23 (0, 0)) ∧ w'.heap[g4]? = some (.cells #[.int .i64 s0, .int .i64 t0, .int .i64 s1, .int .i64 t1, .slice A S.length d] 26 (0, 0)) ∧ w'.heap[g3]? = some (.cells #[.int .i64 x0, .int .i64 y0, .int .i64 x1, .int .i64 y1, .slice (some ⟨a, 0, none⟩) X0.length c] 26 (0, 0))) (ds := []) #[false, false, false, false, false, false, false, false, false, false, false, false, false, false, false, false] (by kernel_rfl) rfl rfl KB.out (fun hHeld0 => ?_)
    generalize hw2 : wr.drew = w2 at *
    clear hw2
    have hHeld := Aside0.mk hHeld0
    clear hHeld0
    refine pT (i := 0) (N := some 17) ?_
    refine pT (i := 1) (N := some 18) ?_
    refine pT (i := 2) (N := some 19) ?_
    refine take_ (i := 3) (N := some 20) (v := ?_) (a' := ?_) #[true, true, true, true, false, false, false, false, false, false, false, false, false, false, false, false] rfl rfl (by kernel_rfl) (fun _ _ _ h => h) (Or.inl ⟨by rfl, ?_⟩) hHeld.out ?_ ?_
    rotate_left
    · rintro w' ⟨s5, s4, s3⟩
      have sx : w'.cell? ⟨g3, 1, none⟩ = some (.int .i64 y0) := (blk_cell s3 1).trans rfl
      go_simp
      with_reducible rfl
    rotate_left
    · simp only [Act.put, List.setIfInBounds_toArray, List.set_cons_zero, List.set_cons_succ, i64_w, i32_w]
      rfl
    refine pT (i := 4) (N := some 21) ?_
    refine take_ (i := 5) (N := some 22) (v := .agg #[.int .i64 x0, .int .i64 y0, .int .i64 x1, .int .i64 y1, .slice (some ⟨a, 0, none⟩) X0.length c]) (a' := ?_) #[true, true, true, true, true, true, false, false, false, false, false, false, false, false, false, false] rfl rfl (by kernel_rfl) (fun _ _ _ h => h) (load_all_yields (by rfl) 26 (.tmp 3) rfl rfl (fun _ h => h.2.2) Try.underlying26 rfl rfl) hHeld.out ?_ ?_
    rotate_left
    · simp only [Act.put, List.setIfInBounds_toArray, List.set_cons_zero, List.set_cons_succ, i64_w, i32_w]
      rfl
    refine pT (i := 8) (N := some 25) ?_
    refine take_ (i := 9) (N := some 26) (v := ?_) (a' := ?_) #[true, true, true, true, true, true, false, false, true, true, false, false, false, false, false, false] rfl rfl (by kernel_rfl) (fun _ _ _ h => h) (Or.inl ⟨by rfl, ?_⟩) hHeld.out ?_ ?_
    rotate_left
    · rintro w' ⟨s5, s4, s3⟩
      have sx : w'.cell? ⟨g5, 0, none⟩ = some (.int .i64 r0) := (blk_cell s5 0).trans rfl
      go_simp
      with_reducible rfl
    rotate_left
    · simp only [Act.put, List.setIfInBounds_toArray, List.set_cons_zero, List.set_cons_succ, i64_w, i32_w]
      rfl
    refine pT (i := 11) (N := some 28) ?_
    refine pT (i := 12) (N := some 29) ?_
    refine take_ (i := 13) (N := some 30) (v := ?_) (a' := ?_) #[true, true, true, true, true, true, false, false, true, true, false, true, true, true, false, false] rfl rfl (by kernel_rfl) (fun _ _ _ h => h) (Or.inl ⟨by rfl, ?_⟩) hHeld.out ?_ ?_
    rotate_left
    · rintro w' ⟨s5, s4, s3⟩
      have sx : w'.cell? ⟨g3, 0, none⟩ = some (.int .i64 x0) := (blk_cell s3 0).trans rfl
      go_simp
      with_reducible rfl
    rotate_left
    · simp only [Act.put, List.setIfInBounds_toArray, List.set_cons_zero, List.set_cons_succ, i64_w, i32_w]
      rfl
    refine one_ (i := 6) (N := some 23) #[true, true, true, true, true, true, true, false, true, true, false, true, true, true, false, false] rfl rfl (by kernel_rfl) (by decide) (fun KC hK => ?_)
    refine goes_ Try.func65 (by kernel_rfl) rfl #[.agg #[.int .i64 x0, .int .i64 y0, .int .i64 x1, .int .i64 y1, .slice (some ⟨a, 0, none⟩) X0.length c]] (by rfl) rfl rfl (by simp only [List.map_toArray, List.map_cons, List.map_nil]; rfl) ?_
    refine (HWC.out _ b2.out).mono ?_
    rintro _ w3 ⟨rfl, bb⟩
    refine ⟨_, rfl, ?_⟩
    have b3 := Aside0.mk (b2.out.trans (bb.mono (below_size b2.out)))
    have KB3 := Aside0.mk (And.intro (blk_below KB.out.1 bb) (And.intro (blk_below KB.out.2.1 bb) (blk_below KB.out.2.2 bb)))
    clear bb hHeld
    refine hK.out _ _ KB3.out (fun hHeld0 => ?_)
    have hHeld := Aside0.mk hHeld0
    clear hHeld0
    clear hK KC
    refine nT ?_
    refine pT (i := 7) (N := some 24) ?_
    refine pT (i := 10) (N := some 27) ?_
    refine pT (i := 14) (N := some 31) ?_
    refine pT (i := 15) (N := some 7) ?_
    refine done_ (by kernel_rfl) ?_
    clear hHeld
    go_wp2
    go_meet
    case rel => exact ⟨by first | rfl | rw [hwi], ⟨b3.out⟩⟩
  case rest =>
  obtain ⟨rfl, bc⟩ := hcut
  replace KB := Aside0.mk (And.intro (blk_below KB.out.1 bc.out) (And.intro (blk_below KB.out.2.1 bc.out) (blk_below KB.out.2.2 bc.out)))
  replace HL := Aside0.mk (Kd.R_below HL.out bc.out)
  replace HB := Aside0.mk (HB.out.trans (bc.out.mono (below_size HB.out)))
  replace HK := Aside0.mk (HK.out.below bc.out)
  clear bc hwi
  obtain ⟨W1, hW1⟩ : ∃ W1, W1 = wc := ⟨wc, rfl⟩
  subst hW1
  go_upto_region 5 with (fail)
  go_cut [8] (fun v8 wc => v8 = .int .i64 j ∧ Aside0 (Below W1.heap.size W1 wc))
  case first =>
    have HWC := Aside0.mk (show ∀ W : World, Below W1.heap.size W1 W → Calls Try.prog 65 #[.agg #[.int .i64 s0, .int .i64 t0, .int .i64 s1, .int .i64 t1, .slice A S.length d]] W fun e w' => e = .returned (.int .i64 (s1 - s0)) ∧ Below W.heap.size W w' from fun W hb =>
      plane_width.calls s0 t0 s1 t1 A d S (s1 - s0) W (Kd.C_below HC.out (HB.out.trans (hb.mono (below_size HB.out)))) HD.out (HWS.out S))
    have b2 := Aside0.mk (below_drew1 (Below.refl W1.heap.size W1))
    replace KB := Aside0.mk (And.intro (blk_below KB.out.1 b2.out) (And.intro (blk_below KB.out.2.1 b2.out) (blk_below KB.out.2.2 b2.out)))
    refine start_ (n := 16) (S := fun w' => w'.heap[g5]? = some (.cells #[.int .i64 r0, .int .i64 u0, .int .i64 r1, .int .i64 u1] 23 (0, 0)) ∧ w'.heap[g4]? = some (.cells #[.int .i64 s0, .int .i64 t0, .int .i64 s1, .int .i64 t1, .slice A S.length d] 26 (0, 0)) ∧ w'.heap[g3]? = some (.cells #[.int .i64 x0, .int .i64 y0, .int .i64 x1, .int .i64 y1, .slice (some ⟨a, 0, none⟩) X0.length c] 26 (0, 0))) (ds := []) #[false, false, false, false, false, false, false, false, false, false, false, false, false, false, false, false] (by kernel_rfl) rfl rfl KB.out (fun hHeld0 => ?_)
    generalize hw2 : W1.drew = w2 at *
    clear hw2
    have hHeld := Aside0.mk hHeld0
    clear hHeld0
    refine pT (i := 0) (N := some 32) ?_
    refine pT (i := 1) (N := some 33) ?_
    refine pT (i := 2) (N := some 34) ?_
    refine take_ (i := 3) (N := some 35) (v := ?_) (a' := ?_) #[true, true, true, true, false, false, false, false, false, false, false, false, false, false, false, false] rfl rfl (by kernel_rfl) (fun _ _ _ h => h) (Or.inl ⟨by rfl, ?_⟩) hHeld.out ?_ ?_
    rotate_left
    · rintro w' ⟨s5, s4, s3⟩
      have sx : w'.cell? ⟨g4, 1, none⟩ = some (.int .i64 t0) := (blk_cell s4 1).trans rfl
      go_simp
      with_reducible rfl
    rotate_left
    · simp only [Act.put, List.setIfInBounds_toArray, List.set_cons_zero, List.set_cons_succ, i64_w, i32_w]
      rfl
    refine pT (i := 4) (N := some 36) ?_
    refine take_ (i := 5) (N := some 37) (v := .agg #[.int .i64 s0, .int .i64 t0, .int .i64 s1, .int .i64 t1, .slice A S.length d]) (a' := ?_) #[true, true, true, true, true, true, false, false, false, false, false, false, false, false, false, false] rfl rfl (by kernel_rfl) (fun _ _ _ h => h) (load_all_yields (by rfl) 26 (.tmp 4) rfl rfl (fun _ h => h.2.1) Try.underlying26 rfl rfl) hHeld.out ?_ ?_
    rotate_left
    · simp only [Act.put, List.setIfInBounds_toArray, List.set_cons_zero, List.set_cons_succ, i64_w, i32_w]
      rfl
    refine pT (i := 8) (N := some 40) ?_
    refine take_ (i := 9) (N := some 41) (v := ?_) (a' := ?_) #[true, true, true, true, true, true, false, false, true, true, false, false, false, false, false, false] rfl rfl (by kernel_rfl) (fun _ _ _ h => h) (Or.inl ⟨by rfl, ?_⟩) hHeld.out ?_ ?_
    rotate_left
    · rintro w' ⟨s5, s4, s3⟩
      have sx : w'.cell? ⟨g5, 0, none⟩ = some (.int .i64 r0) := (blk_cell s5 0).trans rfl
      go_simp
      with_reducible rfl
    rotate_left
    · simp only [Act.put, List.setIfInBounds_toArray, List.set_cons_zero, List.set_cons_succ, i64_w, i32_w]
      rfl
    refine pT (i := 11) (N := some 43) ?_
    refine pT (i := 12) (N := some 44) ?_
    refine take_ (i := 13) (N := some 45) (v := ?_) (a' := ?_) #[true, true, true, true, true, true, false, false, true, true, false, true, true, true, false, false] rfl rfl (by kernel_rfl) (fun _ _ _ h => h) (Or.inl ⟨by rfl, ?_⟩) hHeld.out ?_ ?_
    rotate_left
    · rintro w' ⟨s5, s4, s3⟩
      have sx : w'.cell? ⟨g4, 0, none⟩ = some (.int .i64 s0) := (blk_cell s4 0).trans rfl
      go_simp
      with_reducible rfl
    rotate_left
    · simp only [Act.put, List.setIfInBounds_toArray, List.set_cons_zero, List.set_cons_succ, i64_w, i32_w]
      rfl
    refine one_ (i := 6) (N := some 38) #[true, true, true, true, true, true, true, false, true, true, false, true, true, true, false, false] rfl rfl (by kernel_rfl) (by decide) (fun KC hK => ?_)
    refine goes_ Try.func65 (by kernel_rfl) rfl #[.agg #[.int .i64 s0, .int .i64 t0, .int .i64 s1, .int .i64 t1, .slice A S.length d]] (by rfl) rfl rfl (by simp only [List.map_toArray, List.map_cons, List.map_nil]; rfl) ?_
    refine (HWC.out _ b2.out).mono ?_
    rintro _ w3 ⟨rfl, bb⟩
    refine ⟨_, rfl, ?_⟩
    have b3 := Aside0.mk (b2.out.trans (bb.mono (below_size b2.out)))
    have KB3 := Aside0.mk (And.intro (blk_below KB.out.1 bb) (And.intro (blk_below KB.out.2.1 bb) (blk_below KB.out.2.2 bb)))
    clear bb hHeld
    refine hK.out _ _ KB3.out (fun hHeld0 => ?_)
    have hHeld := Aside0.mk hHeld0
    clear hHeld0
    clear hK KC
    refine nT ?_
    refine pT (i := 7) (N := some 39) ?_
    refine pT (i := 10) (N := some 42) ?_
    refine pT (i := 14) (N := some 46) ?_
    refine pT (i := 15) (N := some 8) ?_
    refine done_ (by kernel_rfl) ?_
    clear hHeld
    go_wp2
    go_meet
    case rel => exact ⟨by first | rfl | rw [hwj], ⟨b3.out⟩⟩
  case rest =>
  obtain ⟨rfl, bc⟩ := hcut
  replace KB := Aside0.mk (And.intro (blk_below KB.out.1 bc.out) (And.intro (blk_below KB.out.2.1 bc.out) (blk_below KB.out.2.2 bc.out)))
  replace HL := Aside0.mk (Kd.R_below HL.out bc.out)
  replace HB := Aside0.mk (HB.out.trans (bc.out.mono (below_size HB.out)))
  replace HK := Aside0.mk (HK.out.below bc.out)
  clear bc hwj
  go_upto_region 6 with (fail)
  obtain ⟨i3, hi3, _, hsz3, _⟩ := info_parts info3
  obtain ⟨e1, he1⟩ : ∃ e : Int, e = i + (r1 - r0) := ⟨_, rfl⟩
  obtain ⟨e2, he2⟩ : ∃ e : Int, e = j + (r1 - r0) := ⟨_, rfl⟩
  have hwe1 : wrap64 (wrap64 (i + r1) - r0) = e1 := by
    have h1 := HX.out
    have h2 := HI.out
    have h3 := HNX.out.2
    rw [he1, wid (n := i + r1) (by omega) (by omega), wid (n := i + r1 - r0) (by omega) (by omega)]
    omega
  have hwe2 : wrap64 (wrap64 (j + r1) - r0) = e2 := by
    have h1 := HX.out
    have h2 := HJ.out
    have h3 := HNS.out.2
    rw [he2, wid (n := j + r1) (by omega) (by omega), wid (n := j + r1 - r0) (by omega) (by omega)]
    omega
  have HE := Aside0.mk (And.intro (show e1 = i + (r1 - r0) from he1) (And.intro (show e2 = j + (r1 - r0) from he2) (show r0 ≤ r1 from HX.out.2.2.1)))
  obtain ⟨E1, hD1, hcut1⟩ := cut_own (P := Try.prog) 24 3 Try.underlying24 hi3 hsz3 (some ⟨a, 0, none⟩) X0.length c i e1 HI.out.1 (by have := HE.out; omega) (by have := HE.out; have := HI.out; omega) HA.out.2.2
  obtain ⟨E2, hD2, hcut2⟩ := cut_own (P := Try.prog) 24 3 Try.underlying24 hi3 hsz3 A S.length d j e2 HJ.out.1 (by have := HE.out; omega) (by have := HE.out; have := HJ.out; omega) HD.out
  have HYL := Aside0.mk (show ((S.drop j.toNat).take (r1 - r0).toNat).length = e2.toNat - j.toNat by rw [List.length_take, List.length_drop]; have := HE.out; have := HJ.out; omega)
  clear he1 he2 hi3 hsz3
  have b2 := below_drew1 (Below.refl wc.heap.size wc)
  replace KB := Aside0.mk (And.intro (blk_below KB.out.1 b2) (And.intro (blk_below KB.out.2.1 b2) (blk_below KB.out.2.2 b2)))
  replace HL := Aside0.mk (Kd.R_below HL.out b2)
  replace HB := Aside0.mk (HB.out.trans (b2.mono (below_size HB.out)))
  replace HK := Aside0.mk (HK.out.below b2)
  clear b2
  refine start_ (n := 23) (S := fun w' => w'.heap[g5]? = some (.cells #[.int .i64 r0, .int .i64 u0, .int .i64 r1, .int .i64 u1] 23 (0, 0)) ∧ w'.heap[g4]? = some (.cells #[.int .i64 s0, .int .i64 t0, .int .i64 s1, .int .i64 t1, .slice A S.length d] 26 (0, 0)) ∧ w'.heap[g3]? = some (.cells #[.int .i64 x0, .int .i64 y0, .int .i64 x1, .int .i64 y1, .slice (some ⟨a, 0, none⟩) X0.length c] 26 (0, 0))) (ds := []) #[false, false, false, false, false, false, false, false, false, false, false, false, false, false, false, false, false, false, false, false, false, false, false] (by kernel_rfl) rfl rfl KB.out (fun hHeld0 => ?_)
  generalize hw2 : wc.drew = w2 at *
  clear hw2
  have hHeld := Aside0.mk hHeld0
  clear hHeld0
  refine pT (i := 0) (N := some 47) ?_
  refine take_ (i := 1) (N := some 48) (v := ?_) (a' := ?_) #[true, true, false, false, false, false, false, false, false, false, false, false, false, false, false, false, false, false, false, false, false, false, false] rfl rfl (by kernel_rfl) (fun _ _ _ h => h) (Or.inl ⟨by rfl, ?_⟩) hHeld.out ?_ ?_
  rotate_left
  · rintro w' ⟨s5, s4, s3⟩
    have sx : w'.cell? ⟨g3, 4, none⟩ = some (.slice (some ⟨a, 0, none⟩) X0.length c) := (blk_cell s3 4).trans rfl
    go_simp
    with_reducible rfl
  rotate_left
  · simp only [Act.put, List.setIfInBounds_toArray, List.set_cons_zero, List.set_cons_succ, i64_w, i32_w]
    rfl
  refine pT (i := 2) (N := some 49) ?_
  refine pT (i := 3) (N := some 50) ?_
  refine pT (i := 4) (N := some 51) ?_
  refine take_ (i := 5) (N := some 52) (v := ?_) (a' := ?_) #[true, true, true, true, true, true, false, false, false, false, false, false, false, false, false, false, false, false, false, false, false, false, false] rfl rfl (by kernel_rfl) (fun _ _ _ h => h) (Or.inl ⟨by rfl, ?_⟩) hHeld.out ?_ ?_
  rotate_left
  · rintro w' ⟨s5, s4, s3⟩
    have sx : w'.cell? ⟨g5, 2, none⟩ = some (.int .i64 r1) := (blk_cell s5 2).trans rfl
    go_simp
    with_reducible rfl
  rotate_left
  · simp only [Act.put, List.setIfInBounds_toArray, List.set_cons_zero, List.set_cons_succ, i64_w, i32_w]
    rfl
  refine pT (i := 6) (N := some 53) ?_
  refine pT (i := 7) (N := some 54) ?_
  refine take_ (i := 8) (N := some 55) (v := ?_) (a' := ?_) #[true, true, true, true, true, true, true, true, true, false, false, false, false, false, false, false, false, false, false, false, false, false, false] rfl rfl (by kernel_rfl) (fun _ _ _ h => h) (Or.inl ⟨by rfl, ?_⟩) hHeld.out ?_ ?_
  rotate_left
  · rintro w' ⟨s5, s4, s3⟩
    have sx : w'.cell? ⟨g5, 0, none⟩ = some (.int .i64 r0) := (blk_cell s5 0).trans rfl
    go_simp
    with_reducible rfl
  rotate_left
  · simp only [Act.put, List.setIfInBounds_toArray, List.set_cons_zero, List.set_cons_succ, i64_w, i32_w]
    rfl
  refine pT (i := 9) (N := some 56) ?_
  refine pT (i := 10) (N := some 57) ?_
  refine pT (i := 11) (N := some 58) ?_
  refine take_ (i := 12) (N := some 59) (v := ?_) (a' := ?_) #[true, true, true, true, true, true, true, true, true, true, true, true, true, false, false, false, false, false, false, false, false, false, false] rfl rfl (by kernel_rfl) (fun _ _ _ h => h) (Or.inl ⟨by rfl, ?_⟩) hHeld.out ?_ ?_
  rotate_left
  · rintro w' ⟨s5, s4, s3⟩
    have sx : w'.cell? ⟨g4, 4, none⟩ = some (.slice A S.length d) := (blk_cell s4 4).trans rfl
    go_simp
    with_reducible rfl
  rotate_left
  · simp only [Act.put, List.setIfInBounds_toArray, List.set_cons_zero, List.set_cons_succ, i64_w, i32_w]
    rfl
  refine pT (i := 13) (N := some 60) ?_
  refine pT (i := 14) (N := some 61) ?_
  refine pT (i := 15) (N := some 62) ?_
  refine take_ (i := 16) (N := some 63) (v := ?_) (a' := ?_) #[true, true, true, true, true, true, true, true, true, true, true, true, true, true, true, true, true, false, false, false, false, false, false] rfl rfl (by kernel_rfl) (fun _ _ _ h => h) (Or.inl ⟨by rfl, ?_⟩) hHeld.out ?_ ?_
  rotate_left
  · rintro w' ⟨s5, s4, s3⟩
    have sx : w'.cell? ⟨g5, 2, none⟩ = some (.int .i64 r1) := (blk_cell s5 2).trans rfl
    go_simp
    with_reducible rfl
  rotate_left
  · simp only [Act.put, List.setIfInBounds_toArray, List.set_cons_zero, List.set_cons_succ, i64_w, i32_w]
    rfl
  refine pT (i := 17) (N := some 64) ?_
  refine pT (i := 18) (N := some 65) ?_
  refine take_ (i := 19) (N := some 66) (v := ?_) (a' := ?_) #[true, true, true, true, true, true, true, true, true, true, true, true, true, true, true, true, true, true, true, true, false, false, false] rfl rfl (by kernel_rfl) (fun _ _ _ h => h) (Or.inl ⟨by rfl, ?_⟩) hHeld.out ?_ ?_
  rotate_left
  · rintro w' ⟨s5, s4, s3⟩
    have sx : w'.cell? ⟨g5, 0, none⟩ = some (.int .i64 r0) := (blk_cell s5 0).trans rfl
    go_simp
    with_reducible rfl
  rotate_left
  · simp only [Act.put, List.setIfInBounds_toArray, List.set_cons_zero, List.set_cons_succ, i64_w, i32_w]
    rfl
  refine pT (i := 20) (N := some 67) ?_
  refine pT (i := 21) (N := some 68) ?_
  refine one_ (i := 22) (N := some 69) #[true, true, true, true, true, true, true, true, true, true, true, true, true, true, true, true, true, true, true, true, true, true, true] rfl rfl (by kernel_rfl) (by decide) (fun KC hK => ?_)
  refine step_copyR (P := Try.prog) (n := X0.length) (ys := (S.drop j.toNat).take (r1 - r0).toNat) rfl (.tmp 57) (.tmp 68) 24 24 rfl Try.underlying24 (by kernel_rfl) HL.out i.toNat (e1.toNat - i.toNat) _ hD1 (by have := HI.out; have := HE.out; omega) (C_cut (Kd.C_below HC.out HB.out) (by have := HJ.out; have := HE.out; omega) (fun h => hD2 (by have := HE.out; have := HJ.out; omega))) rfl (by rw [HYL.out]; rfl) ?_
  intro w7 hr hg
  have hm : e1.toNat - i.toNat = (r1 - r0).toNat := by have := HI.out; have := HE.out; omega
  rw [hm, List.take_take, Nat.min_self] at hr
  have HL' := Aside0.mk hr
  have HB' := Aside0.mk (HB.out.grown hg (below_size HB.out) (own_base (Kd.own_of_R HL.out)))
  have HK' := Aside0.mk (Kept.of_grown hg HK.out (fun k hk => .inl (by have : a = k := by simpa [Value.ownBlock] using hk
                                                                       exact this.symm)))
  have KB' := Aside0.mk (And.intro (blk_grown KB.out.1 hg (fun e => HGN.out.2.2 (by simpa [Value.ownBlock] using e))) (And.intro (blk_grown KB.out.2.1 hg (fun e => HGN.out.2.1 (by simpa [Value.ownBlock] using e))) (blk_grown KB.out.2.2 hg (fun e => HGN.out.1 (by simpa [Value.ownBlock] using e)))))
  clear HL HB HK KB hr hg hm hHeld
  have HL := HL'
  have HB := HB'
  have HK := HK'
  have KB := KB'
  clear HL' HB' HK' KB'
  refine hK.out _ _ KB.out (fun hHeld0 => ?_)
  have hHeld := Aside0.mk hHeld0
  clear hHeld0
  clear hK KC
  refine nT ?_
  refine done_ (by kernel_rfl) ?_
  clear hHeld
  go_wp2
  go_roundg kk
  case measure => omega
  case rel => exact ⟨_, _, rfl, ⟨by have := HYY.out; have := HYU.out; have := HY.out; unfold wrap64; omega, by have := HYY.out; have := HYU.out; have := HY.out; unfold wrap64; omega, by rw [length_splice _ _ _ (by rw [HYL.out]; have := HI.out; have := HJ.out; have := HE.out; have := HYY.out; omega)]; exact HYY.out.2.2⟩, by rw [show wrap64 (y + 1) = y + 1 by have := HYY.out; have := HYU.out; have := HY.out; unfold wrap64; omega]; exact HF, KB, HL, HK, HB⟩
theorem rd_splice {X ys : List Int} {off p : Nat} (h : off + ys.length ≤ X.length) : rd (splice X off ys) (p : Int) = if off ≤ p ∧ p < off + ys.length then rd ys ((p - off : Nat) : Int) else rd X (p : Int) := by
 unfold splice
 rw [rd_nat, rd_nat, rd_nat, List.getD_eq_getElem?_getD, List.getD_eq_getElem?_getD, List.getD_eq_getElem?_getD]
 have ht : (X.take off).length = off := by rw [List.length_take]; omega
 by_cases c1 : p < off
 ·rw [if_neg (by omega), List.getElem?_append_left (by rw [ht]; exact c1), List.getElem?_take_of_lt c1]
 ·rw [List.getElem?_append_right (by rw [ht]; omega), ht]
  by_cases c2 : p < off + ys.length
  ·rw [if_pos (by omega), List.getElem?_append_left (by omega)]
  ·rw [if_neg (by omega), List.getElem?_append_right (by omega), List.getElem?_drop, show off + ys.length + (p - off - ys.length) = p by omega]
theorem partF_spec {wd hd ws hs : Nat} {x0 y0 s0 t0 r0 r1 u0 u1 : Int} {S : List Int} (hx : x0 ≤ r0 ∧ r0 ≤ r1 ∧ r1 ≤ x0 + (wd : Int)) (hy : y0 ≤ u0 ∧ u1 ≤ y0 + (hd : Int)) (hs1 : s0 ≤ r0 ∧ r1 ≤ s0 + (ws : Int)) (ht : t0 ≤ u0 ∧ u1 ≤ t0 + (hs : Int)) (hS : S.length = hs * ws) :
  ∀ (k : Nat) (y : Int) (X : List Int), u0 ≤ y → y ≤ u1 → u1 - y < (k : Int) → X.length = hd * wd → ∃ Y, partF (wd : Int) (ws : Int) x0 y0 s0 t0 r0 r1 u1 S k y X = some Y ∧ Y.length = hd * wd ∧ ∀ i j : Nat, i < hd → j < wd → cell wd Y i j = if (y ≤ y0 + i ∧ y0 + i < u1) ∧ r0 ≤ x0 + j ∧ x0 + j < r1 then cell ws S (y0 + i - t0).toNat (x0 + j - s0).toNat else cell wd X i j
 | 0, y, X, h1, h2, h3, hX => by omega
 | k + 1, y, X, h1, h2, h3, hX => by
  rw [partF.eq_2]
  by_cases c : y < u1
  ·rw [if_pos c]
   obtain ⟨a, ha⟩ := Int.eq_ofNat_of_zero_le (show 0 ≤ y - y0 by omega)
   obtain ⟨p, hp⟩ := Int.eq_ofNat_of_zero_le (show 0 ≤ r0 - x0 by omega)
   obtain ⟨a2, ha2⟩ := Int.eq_ofNat_of_zero_le (show 0 ≤ y - t0 by omega)
   obtain ⟨p2, hp2⟩ := Int.eq_ofNat_of_zero_le (show 0 ≤ r0 - s0 by omega)
   obtain ⟨m, hm⟩ := Int.eq_ofNat_of_zero_le (show 0 ≤ r1 - r0 by omega)
   have e1 : ((y - y0) * (wd : Int) + r0 - x0).toNat = a * wd + p := by
    rw [show (y - y0) * (wd : Int) + r0 - x0 = ((a * wd + p : Nat) : Int) by rw [ha, Int.natCast_add, Int.natCast_mul]; omega, Int.toNat_natCast]
   have e2 : ((y - t0) * (ws : Int) + r0 - s0).toNat = a2 * ws + p2 := by
    rw [show (y - t0) * (ws : Int) + r0 - s0 = ((a2 * ws + p2 : Nat) : Int) by rw [ha2, Int.natCast_add, Int.natCast_mul]; omega, Int.toNat_natCast]
   rw [e1, e2, hm, Int.toNat_natCast]
   have ba : (a + 1) * wd ≤ hd * wd := Nat.mul_le_mul_right wd (by omega)
   have ba2 : (a2 + 1) * ws ≤ hs * ws := Nat.mul_le_mul_right ws (by omega)
   rw [Nat.succ_mul] at ba ba2
   have hl : ((S.drop (a2 * ws + p2)).take m).length = m := by rw [List.length_take, List.length_drop, hS]; omega
   have hfit : a * wd + p + ((S.drop (a2 * ws + p2)).take m).length ≤ X.length := by rw [hl, hX]; omega
   obtain ⟨Y, q1, q2, q3⟩ := partF_spec hx hy hs1 ht hS k (y + 1) (splice X (a * wd + p) ((S.drop (a2 * ws + p2)).take m)) (by omega) (by omega) (by omega) (by rw [length_splice _ _ _ hfit, hX])
   refine ⟨Y, q1, q2, fun i j hi hj => ?_⟩
   rw [q3 i j hi hj]
   by_cases c1 : (y + 1 ≤ y0 + i ∧ y0 + i < u1) ∧ r0 ≤ x0 + j ∧ x0 + j < r1
   ·rw [if_pos c1, if_pos (by omega)]
   ·rw [if_neg c1]
    unfold cell
    rw [rd_splice hfit, hl]
    by_cases c2 : (y ≤ y0 + i ∧ y0 + i < u1) ∧ r0 ≤ x0 + j ∧ x0 + j < r1
    ·have hia : i = a := by omega
     subst hia
     rw [if_pos c2, if_pos (by omega), rd_nat, List.getD_eq_getElem?_getD, List.getElem?_take_of_lt (by omega), List.getElem?_drop, rd_nat, List.getD_eq_getElem?_getD]
     congr 2
     rw [show (y0 + (i : Int) - t0).toNat = a2 by omega, show (x0 + (j : Int) - s0).toNat = p2 + (i * wd + j - (i * wd + p)) by omega]
     omega
    ·rw [if_neg c2]
     by_cases hia : i = a
     ·subst hia
      rw [if_neg (by omega)]
     ·have hne : ¬ (a * wd + p ≤ i * wd + j ∧ i * wd + j < a * wd + p + m) := by
       intro hh
       rcases Nat.lt_or_ge i a with g | g
       ·have : (i + 1) * wd ≤ a * wd := Nat.mul_le_mul_right wd g
        rw [Nat.succ_mul] at this
        omega
       ·have : (a + 1) * wd ≤ i * wd := Nat.mul_le_mul_right wd (by omega)
        rw [Nat.succ_mul] at this
        omega
      rw [if_neg hne]
  ·obtain rfl : y = u1 := by omega
   rw [if_neg c]
   exact ⟨X, rfl, hX, fun i j hi hj => by rw [if_neg (by omega)]⟩
end Go.Proofs.Ytcnpekpgghppnaa.Q
namespace Go.Proofs.Ytcnpekpgghppnaa.Q
open Go.RowKit Go.Proofs.YtcnpekpgghppnaaW.PrintWords Go.Proofs.YtcnpekpgghppnaaW.PrintLast Go.Proofs.YtcnpekpgghppnaaW.PrintMore
attribute [local go_sem] max2_int min2_int max_two min_two max_three min_three max_four min_four
set_option linter.unusedVariables false
set_option linter.unusedSimpArgs false
def rect_Empty.f (a0_0 : Int) (a0_1 : Int) (a0_2 : Int) (a0_3 : Int) : Option (Bool) := if a0_0 ≥ a0_2 then (some true) else (some (decide (a0_1 ≥ a0_3)))
set_option maxHeartbeats 8000000 in
set_option maxRecDepth 100000 in
theorem rect_Empty.calls (a0_0 : Int) (a0_1 : Int) (a0_2 : Int) (a0_3 : Int) (r : Bool) (w : World) (h : rect_Empty.f a0_0 a0_1 a0_2 a0_3 = some r) :
  Calls Try.prog 34 #[.agg #[.int .i64 a0_0, .int .i64 a0_1, .int .i64 a0_2, .int .i64 a0_3]] w fun e w' => e = .returned (.bool r) ∧ Below w.heap.size w w' := by
 have hu23 := Try.underlying23
 have HB := Aside0.mk (Below.refl w.heap.size w)
 have H : (if a0_0 ≥ a0_2 then (some true) else (some (decide (a0_1 ≥ a0_3)))) = some r := h
 clear h
 by_cases c2 : a0_0 ≥ a0_2
 ·rw [if_pos c2] at H
  have c2b0 : decide (a0_2 ≤ a0_0) = true := decide_eq_true c2
  clear c2
  obtain rfl := Option.some.inj H
  go_enter Try.func34, Try.ntmps34
  go_wp2_with (first | ((with_reducible refine gate_dst (N := 1) rfl ?_); refine bT (N := 1) (#[.int .i64 a0_0, .int .i64 a0_1, .int .i64 a0_2, .int .i64 a0_3]) 23 ?_; intro gb172 hg w3 hbox hb; have n0_ := Aside0.mk (below_step (by repeat (first | (with_reducible first | exact HB.out | apply below_alloc | apply pw_below_drewN | apply below_drew1) | exact HB.out)) hb); have n1_ := Aside0.mk (hbox); have n2_ := Aside0.mk ((by rw [hg]; exact (below_size (by repeat (first | (with_reducible first | exact HB.out | apply below_alloc | apply pw_below_drewN | apply below_drew1) | exact HB.out))) : w.heap.size ≤ gb172)); have n3_ := Aside0.mk ((by rw [hg]; exact (below_size (by repeat (first | (with_reducible first | exact HB.out | apply below_alloc | apply pw_below_drewN | apply below_drew1) | exact HB.out))) : w.heap.size ≤ gb172)); clear HB; have HB := n0_; have BK172 := n1_; have GW172 := n2_; have GE172 := n3_; clear n0_ n1_ n2_ n3_; clear hb hbox hg; have hcz4_0 : w3.cell? ⟨gb172, 0, none⟩ = some (.int .i64 a0_0) := (blk_cell BK172.out 0).trans rfl; have hcz4_1 : w3.cell? ⟨gb172, 1, none⟩ = some (.int .i64 a0_1) := (blk_cell BK172.out 1).trans rfl; have hcz4_2 : w3.cell? ⟨gb172, 2, none⟩ = some (.int .i64 a0_2) := (blk_cell BK172.out 2).trans rfl; have hcz4_3 : w3.cell? ⟨gb172, 3, none⟩ = some (.int .i64 a0_3) := (blk_cell BK172.out 3).trans rfl; have hfz4_0 := blk_frozen BK172.out 0; have hfz4_1 := blk_frozen BK172.out 1; have hfz4_2 := blk_frozen BK172.out 2; have hfz4_3 := blk_frozen BK172.out 3))
  go_ret
  exact ⟨by first | rfl | (simp [errW_none, errW_some] <;> rfl) | (simp [*, errW_none, errW_some] <;> rfl), by repeat (first | (with_reducible first | exact HB.out | apply below_alloc | apply pw_below_drewN | apply below_drew1 | refine below_set ?_ GE172.out) | exact HB.out)⟩
 ·rw [if_neg c2] at H
  have c2b0 : decide (a0_2 ≤ a0_0) = false := decide_eq_false c2
  clear c2
  obtain rfl := Option.some.inj H
  go_enter Try.func34, Try.ntmps34
  go_wp2_with (first | ((with_reducible refine gate_dst (N := 1) rfl ?_); refine bT (N := 1) (#[.int .i64 a0_0, .int .i64 a0_1, .int .i64 a0_2, .int .i64 a0_3]) 23 ?_; intro gb172 hg w5 hbox hb; have n0_ := Aside0.mk (below_step (by repeat (first | (with_reducible first | exact HB.out | apply below_alloc | apply pw_below_drewN | apply below_drew1) | exact HB.out)) hb); have n1_ := Aside0.mk (hbox); have n2_ := Aside0.mk ((by rw [hg]; exact (below_size (by repeat (first | (with_reducible first | exact HB.out | apply below_alloc | apply pw_below_drewN | apply below_drew1) | exact HB.out))) : w.heap.size ≤ gb172)); have n3_ := Aside0.mk ((by rw [hg]; exact (below_size (by repeat (first | (with_reducible first | exact HB.out | apply below_alloc | apply pw_below_drewN | apply below_drew1) | exact HB.out))) : w.heap.size ≤ gb172)); clear HB; have HB := n0_; have BK172 := n1_; have GW172 := n2_; have GE172 := n3_; clear n0_ n1_ n2_ n3_; clear hb hbox hg; have hcz6_0 : w5.cell? ⟨gb172, 0, none⟩ = some (.int .i64 a0_0) := (blk_cell BK172.out 0).trans rfl; have hcz6_1 : w5.cell? ⟨gb172, 1, none⟩ = some (.int .i64 a0_1) := (blk_cell BK172.out 1).trans rfl; have hcz6_2 : w5.cell? ⟨gb172, 2, none⟩ = some (.int .i64 a0_2) := (blk_cell BK172.out 2).trans rfl; have hcz6_3 : w5.cell? ⟨gb172, 3, none⟩ = some (.int .i64 a0_3) := (blk_cell BK172.out 3).trans rfl; have hfz6_0 := blk_frozen BK172.out 0; have hfz6_1 := blk_frozen BK172.out 1; have hfz6_2 := blk_frozen BK172.out 2; have hfz6_3 := blk_frozen BK172.out 3))
  go_ret
  exact ⟨by first | rfl | (simp [errW_none, errW_some] <;> rfl) | (simp [*, errW_none, errW_some] <;> rfl), by repeat (first | (with_reducible first | exact HB.out | apply below_alloc | apply pw_below_drewN | apply below_drew1 | refine below_set ?_ GE172.out) | exact HB.out)⟩
end Go.Proofs.Ytcnpekpgghppnaa.Q
namespace Go.Proofs.Ytcnpekpgghppnaa.Q
open Go.RowKit Go.Proofs.YtcnpekpgghppnaaW.PrintWords Go.Proofs.YtcnpekpgghppnaaW.PrintLast Go.Proofs.YtcnpekpgghppnaaW.PrintMore
attribute [local go_sem] max2_int min2_int max_two min_two max_three min_three max_four min_four
set_option linter.unusedVariables false
set_option linter.unusedSimpArgs false
def rect_Intersect.f (a0_0 : Int) (a0_1 : Int) (a0_2 : Int) (a0_3 : Int) (a1_0 : Int) (a1_1 : Int) (a1_2 : Int) (a1_3 : Int) : Option (Int × Int × Int × Int) := (rect_Empty.f (mx a0_0 a1_0) (mx a0_1 a1_1) (mn a0_2 a1_2) (mn a0_3 a1_3)).bind fun t177 => (if t177 = true then (some (0, 0, 0, 0)) else (some (mx a0_0 a1_0, mx a0_1 a1_1, mn a0_2 a1_2, mn a0_3 a1_3)))
set_option maxHeartbeats 8000000 in
set_option maxRecDepth 100000 in
theorem rect_Intersect.calls (a0_0 : Int) (a0_1 : Int) (a0_2 : Int) (a0_3 : Int) (a1_0 : Int) (a1_1 : Int) (a1_2 : Int) (a1_3 : Int) (r1 : Int) (r2 : Int) (r3 : Int) (r4 : Int) (w : World) (h : rect_Intersect.f a0_0 a0_1 a0_2 a0_3 a1_0 a1_1 a1_2 a1_3 = some (r1, r2, r3, r4)) :
  Calls Try.prog 32 #[.agg #[.int .i64 a0_0, .int .i64 a0_1, .int .i64 a0_2, .int .i64 a0_3], .agg #[.int .i64 a1_0, .int .i64 a1_1, .int .i64 a1_2, .int .i64 a1_3]] w fun e w' => e = .returned (.agg #[.int .i64 r1, .int .i64 r2, .int .i64 r3, .int .i64 r4]) ∧ Below w.heap.size w w' := by
 have hu23 := Try.underlying23
 have HB := Aside0.mk (Below.refl w.heap.size w)
 have H : ((rect_Empty.f (mx a0_0 a1_0) (mx a0_1 a1_1) (mn a0_2 a1_2) (mn a0_3 a1_3)).bind fun t177 => (if t177 = true then (some (0, 0, 0, 0)) else (some (mx a0_0 a1_0, mx a0_1 a1_1, mn a0_2 a1_2, mn a0_3 a1_3)))) = some (r1, r2, r3, r4) := h
 clear h
 obtain ⟨ji3, hji3⟩ : ∃ j_ : Int, (mx a0_0 a1_0) = j_ := ⟨_, rfl⟩
 replace H : ((rect_Empty.f (ji3) (mx a0_1 a1_1) (mn a0_2 a1_2) (mn a0_3 a1_3)).bind fun t177 => (if t177 = true then (some (0, 0, 0, 0)) else (some (ji3, mx a0_1 a1_1, mn a0_2 a1_2, mn a0_3 a1_3)))) = some (r1, r2, r3, r4) := by first | (rw [hji3] at H; exact H) | (simp only [hji3] at H ⊢; exact H)
 have hji3_ : (if a0_0 < a1_0 then a1_0 else a0_0) = ji3 := hji3
 obtain ⟨ji4, hji4⟩ : ∃ j_ : Int, (mx a0_1 a1_1) = j_ := ⟨_, rfl⟩
 replace H : ((rect_Empty.f (ji3) (ji4) (mn a0_2 a1_2) (mn a0_3 a1_3)).bind fun t177 => (if t177 = true then (some (0, 0, 0, 0)) else (some (ji3, ji4, mn a0_2 a1_2, mn a0_3 a1_3)))) = some (r1, r2, r3, r4) := by first | (rw [hji4] at H; exact H) | (simp only [hji4] at H ⊢; exact H)
 have hji4_ : (if a0_1 < a1_1 then a1_1 else a0_1) = ji4 := hji4
 obtain ⟨ji5, hji5⟩ : ∃ j_ : Int, (mn a0_2 a1_2) = j_ := ⟨_, rfl⟩
 replace H : ((rect_Empty.f (ji3) (ji4) (ji5) (mn a0_3 a1_3)).bind fun t177 => (if t177 = true then (some (0, 0, 0, 0)) else (some (ji3, ji4, ji5, mn a0_3 a1_3)))) = some (r1, r2, r3, r4) := by first | (rw [hji5] at H; exact H) | (simp only [hji5] at H ⊢; exact H)
 have hji5_ : (if a1_2 < a0_2 then a1_2 else a0_2) = ji5 := hji5
 obtain ⟨ji6, hji6⟩ : ∃ j_ : Int, (mn a0_3 a1_3) = j_ := ⟨_, rfl⟩
 replace H : ((rect_Empty.f (ji3) (ji4) (ji5) (ji6)).bind fun t177 => (if t177 = true then (some (0, 0, 0, 0)) else (some (ji3, ji4, ji5, ji6)))) = some (r1, r2, r3, r4) := by first | (rw [hji6] at H; exact H) | (simp only [hji6] at H ⊢; exact H)
 have hji6_ : (if a1_3 < a0_3 then a1_3 else a0_3) = ji6 := hji6
 replace H := Option.bind_eq_some_iff.mp H
 obtain ⟨t177, A70, H⟩ := H
 replace H : (if t177 = true then (some (0, 0, 0, 0)) else (some (ji3, ji4, ji5, ji6))) = some (r1, r2, r3, r4) := H
 have A7 := Aside0.mk A70
 clear A70
 by_cases c8 : t177 = true
 ·subst c8
  have H1 : (some (0, 0, 0, 0)) = some (r1, r2, r3, r4) := by rw [if_pos rfl] at H; exact H
  clear H
  have H := H1
  clear H1
  simp only [Option.some.injEq, Prod.mk.injEq] at H
  obtain ⟨rfl, rfl, rfl, rfl⟩ := H
  go_enter Try.func32, Try.ntmps32
  go_wp2_with (first | ((with_reducible refine gate_dst (N := 2) rfl ?_); refine bT (N := 2) (#[.int .i64 a0_0, .int .i64 a0_1, .int .i64 a0_2, .int .i64 a0_3]) 23 ?_; intro gb173 hg w9 hbox hb; have n0_ := Aside0.mk (below_step (by repeat (first | (with_reducible first | exact HB.out | apply below_alloc | apply pw_below_drewN | apply below_drew1) | exact HB.out)) hb); have n1_ := Aside0.mk (hbox); have n2_ := Aside0.mk ((by rw [hg]; exact (below_size (by repeat (first | (with_reducible first | exact HB.out | apply below_alloc | apply pw_below_drewN | apply below_drew1) | exact HB.out))) : w.heap.size ≤ gb173)); have n3_ := Aside0.mk ((by rw [hg]; exact (below_size (by repeat (first | (with_reducible first | exact HB.out | apply below_alloc | apply pw_below_drewN | apply below_drew1) | exact HB.out))) : w.heap.size ≤ gb173)); clear HB; have HB := n0_; have BK173 := n1_; have GW173 := n2_; have GE173 := n3_; clear n0_ n1_ n2_ n3_; clear hb hbox hg) | ((with_reducible refine gate_dst (N := 3) rfl ?_); refine bT (N := 3) (#[.int .i64 a1_0, .int .i64 a1_1, .int .i64 a1_2, .int .i64 a1_3]) 23 ?_; intro gb174 hg w10 hbox hb; have n0_ := Aside0.mk (blk_below (g := gb173) (o := .cells #[.int .i64 a0_0, .int .i64 a0_1, .int .i64 a0_2, .int .i64 a0_3] 23 (0, 0)) (by exact upK BK173.out) hb); have n1_ := Aside0.mk (below_step (by repeat (first | (with_reducible first | exact HB.out | apply below_alloc | apply pw_below_drewN | apply below_drew1 | refine below_set ?_ GE173.out) | exact HB.out)) hb); have n2_ := Aside0.mk (hbox); have n3_ := Aside0.mk ((by rw [hg]; exact (below_size (by repeat (first | (with_reducible first | exact HB.out | apply below_alloc | apply pw_below_drewN | apply below_drew1 | refine below_set ?_ GE173.out) | exact HB.out))) : w.heap.size ≤ gb174)); have n4_ := Aside0.mk ((by rw [hg]; exact (below_size (by repeat (first | (with_reducible first | exact HB.out | apply below_alloc | apply pw_below_drewN | apply below_drew1 | refine below_set ?_ GE173.out) | exact HB.out))) : w.heap.size ≤ gb174)); have n5_ := Aside0.mk ((by rw [hg]; exact Nat.ne_of_lt (blk_lt (g := gb173) (o := .cells #[.int .i64 a0_0, .int .i64 a0_1, .int .i64 a0_2, .int .i64 a0_3] 23 (0, 0)) (by exact upK BK173.out)) : gb173 ≠ gb174)); have n6_ := Aside0.mk ((by rw [hg]; exact Nat.ne_of_gt (blk_lt (g := gb173) (o := .cells #[.int .i64 a0_0, .int .i64 a0_1, .int .i64 a0_2, .int .i64 a0_3] 23 (0, 0)) (by exact upK BK173.out)) : gb174 ≠ gb173)); clear BK173; clear HB; have BK173 := n0_; have HB := n1_; have BK174 := n2_; have GW174 := n3_; have GE174 := n4_; have NB173_174 := n5_; have NB174_173 := n6_; clear n0_ n1_ n2_ n3_ n4_ n5_ n6_; clear hb hbox hg) | ((with_reducible refine gate_dst (N := 4) rfl ?_); refine bT (N := 4) (#[.int .i64 0, .int .i64 0, .int .i64 0, .int .i64 0]) 23 ?_; intro gb175 hg w11 hbox hb; have n0_ := Aside0.mk (blk_below (g := gb173) (o := .cells #[.int .i64 a0_0, .int .i64 a0_1, .int .i64 a0_2, .int .i64 a0_3] 23 (0, 0)) (by exact upK BK173.out) hb); have n1_ := Aside0.mk (blk_below (g := gb174) (o := .cells #[.int .i64 a1_0, .int .i64 a1_1, .int .i64 a1_2, .int .i64 a1_3] 23 (0, 0)) (by exact upK BK174.out) hb); have n2_ := Aside0.mk (below_step (by repeat (first | (with_reducible first | exact HB.out | apply below_alloc | apply pw_below_drewN | apply below_drew1 | refine below_set ?_ GE173.out | refine below_set ?_ GE174.out) | exact HB.out)) hb); have n3_ := Aside0.mk (hbox); have n4_ := Aside0.mk ((by rw [hg]; exact (below_size (by repeat (first | (with_reducible first | exact HB.out | apply below_alloc | apply pw_below_drewN | apply below_drew1 | refine below_set ?_ GE173.out | refine below_set ?_ GE174.out) | exact HB.out))) : w.heap.size ≤ gb175)); have n5_ := Aside0.mk ((by rw [hg]; exact (below_size (by repeat (first | (with_reducible first | exact HB.out | apply below_alloc | apply pw_below_drewN | apply below_drew1 | refine below_set ?_ GE173.out | refine below_set ?_ GE174.out) | exact HB.out))) : w.heap.size ≤ gb175)); have n6_ := Aside0.mk ((by rw [hg]; exact Nat.ne_of_lt (blk_lt (g := gb173) (o := .cells #[.int .i64 a0_0, .int .i64 a0_1, .int .i64 a0_2, .int .i64 a0_3] 23 (0, 0)) (by exact upK BK173.out)) : gb173 ≠ gb175)); have n7_ := Aside0.mk ((by rw [hg]; exact Nat.ne_of_gt (blk_lt (g := gb173) (o := .cells #[.int .i64 a0_0, .int .i64 a0_1, .int .i64 a0_2, .int .i64 a0_3] 23 (0, 0)) (by exact upK BK173.out)) : gb175 ≠ gb173)); have n8_ := Aside0.mk ((by rw [hg]; exact Nat.ne_of_lt (blk_lt (g := gb174) (o := .cells #[.int .i64 a1_0, .int .i64 a1_1, .int .i64 a1_2, .int .i64 a1_3] 23 (0, 0)) (by exact upK BK174.out)) : gb174 ≠ gb175)); have n9_ := Aside0.mk ((by rw [hg]; exact Nat.ne_of_gt (blk_lt (g := gb174) (o := .cells #[.int .i64 a1_0, .int .i64 a1_1, .int .i64 a1_2, .int .i64 a1_3] 23 (0, 0)) (by exact upK BK174.out)) : gb175 ≠ gb174)); clear BK173; clear BK174; clear HB; have BK173 := n0_; have BK174 := n1_; have HB := n2_; have BK175 := n3_; have GW175 := n4_; have GE175 := n5_; have NB173_175 := n6_; have NB175_173 := n7_; have NB174_175 := n8_; have NB175_174 := n9_; clear n0_ n1_ n2_ n3_ n4_ n5_ n6_ n7_ n8_ n9_; clear hb hbox hg; have hnb12 := NB173_174.out; have hnc12 := NB174_173.out; have hnb13 := NB173_175.out; have hnc13 := NB175_173.out; have hcz14_0 : w11.cell? ⟨gb173, 0, none⟩ = some (.int .i64 a0_0) := (blk_cell BK173.out 0).trans rfl; have hcz14_1 : w11.cell? ⟨gb173, 1, none⟩ = some (.int .i64 a0_1) := (blk_cell BK173.out 1).trans rfl; have hcz14_2 : w11.cell? ⟨gb173, 2, none⟩ = some (.int .i64 a0_2) := (blk_cell BK173.out 2).trans rfl; have hcz14_3 : w11.cell? ⟨gb173, 3, none⟩ = some (.int .i64 a0_3) := (blk_cell BK173.out 3).trans rfl; have hfz14_0 := blk_frozen BK173.out 0; have hfz14_1 := blk_frozen BK173.out 1; have hfz14_2 := blk_frozen BK173.out 2; have hfz14_3 := blk_frozen BK173.out 3; have hnb15 := NB174_175.out; have hnc15 := NB175_174.out; have hcz16_0 : w11.cell? ⟨gb174, 0, none⟩ = some (.int .i64 a1_0) := (blk_cell BK174.out 0).trans rfl; have hcz16_1 : w11.cell? ⟨gb174, 1, none⟩ = some (.int .i64 a1_1) := (blk_cell BK174.out 1).trans rfl; have hcz16_2 : w11.cell? ⟨gb174, 2, none⟩ = some (.int .i64 a1_2) := (blk_cell BK174.out 2).trans rfl; have hcz16_3 : w11.cell? ⟨gb174, 3, none⟩ = some (.int .i64 a1_3) := (blk_cell BK174.out 3).trans rfl; have hfz16_0 := blk_frozen BK174.out 0; have hfz16_1 := blk_frozen BK174.out 1; have hfz16_2 := blk_frozen BK174.out 2; have hfz16_3 := blk_frozen BK174.out 3) | ((with_reducible refine gate_dst (N := 5) rfl ?_); refine bT (N := 5) (#[.int .i64 0, .int .i64 0, .int .i64 0, .int .i64 0]) 23 ?_; intro gb176 hg w17 hbox hb; have n0_ := Aside0.mk (blk_below (g := gb173) (o := .cells #[.int .i64 a0_0, .int .i64 a0_1, .int .i64 a0_2, .int .i64 a0_3] 23 (0, 0)) (by exact upK BK173.out) hb); have n1_ := Aside0.mk (blk_below (g := gb174) (o := .cells #[.int .i64 a1_0, .int .i64 a1_1, .int .i64 a1_2, .int .i64 a1_3] 23 (0, 0)) (by exact upK BK174.out) hb); have n2_ := Aside0.mk (blk_below (g := gb175) (o := .cells #[.int .i64 0, .int .i64 0, .int .i64 0, .int .i64 0] 23 (0, 0)) (by exact upK BK175.out) hb); have n3_ := Aside0.mk (below_step (by repeat (first | (with_reducible first | exact HB.out | apply below_alloc | apply pw_below_drewN | apply below_drew1 | refine below_set ?_ GE173.out | refine below_set ?_ GE174.out | refine below_set ?_ GE175.out) | exact HB.out)) hb); have n4_ := Aside0.mk (hbox); have n5_ := Aside0.mk ((by rw [hg]; exact (below_size (by repeat (first | (with_reducible first | exact HB.out | apply below_alloc | apply pw_below_drewN | apply below_drew1 | refine below_set ?_ GE173.out | refine below_set ?_ GE174.out | refine below_set ?_ GE175.out) | exact HB.out))) : w.heap.size ≤ gb176)); have n6_ := Aside0.mk ((by rw [hg]; exact (below_size (by repeat (first | (with_reducible first | exact HB.out | apply below_alloc | apply pw_below_drewN | apply below_drew1 | refine below_set ?_ GE173.out | refine below_set ?_ GE174.out | refine below_set ?_ GE175.out) | exact HB.out))) : w.heap.size ≤ gb176)); have n7_ := Aside0.mk ((by rw [hg]; exact Nat.ne_of_lt (blk_lt (g := gb173) (o := .cells #[.int .i64 a0_0, .int .i64 a0_1, .int .i64 a0_2, .int .i64 a0_3] 23 (0, 0)) (by exact upK BK173.out)) : gb173 ≠ gb176)); have n8_ := Aside0.mk ((by rw [hg]; exact Nat.ne_of_gt (blk_lt (g := gb173) (o := .cells #[.int .i64 a0_0, .int .i64 a0_1, .int .i64 a0_2, .int .i64 a0_3] 23 (0, 0)) (by exact upK BK173.out)) : gb176 ≠ gb173)); have n9_ := Aside0.mk ((by rw [hg]; exact Nat.ne_of_lt (blk_lt (g := gb174) (o := .cells #[.int .i64 a1_0, .int .i64 a1_1, .int .i64 a1_2, .int .i64 a1_3] 23 (0, 0)) (by exact upK BK174.out)) : gb174 ≠ gb176)); have n10_ := Aside0.mk ((by rw [hg]; exact Nat.ne_of_gt (blk_lt (g := gb174) (o := .cells #[.int .i64 a1_0, .int .i64 a1_1, .int .i64 a1_2, .int .i64 a1_3] 23 (0, 0)) (by exact upK BK174.out)) : gb176 ≠ gb174)); have n11_ := Aside0.mk ((by rw [hg]; exact Nat.ne_of_lt (blk_lt (g := gb175) (o := .cells #[.int .i64 0, .int .i64 0, .int .i64 0, .int .i64 0] 23 (0, 0)) (by exact upK BK175.out)) : gb175 ≠ gb176)); have n12_ := Aside0.mk ((by rw [hg]; exact Nat.ne_of_gt (blk_lt (g := gb175) (o := .cells #[.int .i64 0, .int .i64 0, .int .i64 0, .int .i64 0] 23 (0, 0)) (by exact upK BK175.out)) : gb176 ≠ gb175)); clear BK173; clear BK174; clear BK175; clear HB; have BK173 := n0_; have BK174 := n1_; have BK175 := n2_; have HB := n3_; have BK176 := n4_; have GW176 := n5_; have GE176 := n6_; have NB173_176 := n7_; have NB176_173 := n8_; have NB174_176 := n9_; have NB176_174 := n10_; have NB175_176 := n11_; have NB176_175 := n12_; clear n0_ n1_ n2_ n3_ n4_ n5_ n6_ n7_ n8_ n9_ n10_ n11_ n12_; clear hb hbox hg; have hnb18 := NB176_173.out; have hnc18 := NB173_176.out; have hnb19 := NB176_174.out; have hnc19 := NB174_176.out; have hnb20 := NB176_175.out; have hnc20 := NB175_176.out; have hcz21_0 : w17.cell? ⟨gb176, 0, none⟩ = some (.int .i64 0) := (blk_cell BK176.out 0).trans rfl; have hcz21_1 : w17.cell? ⟨gb176, 1, none⟩ = some (.int .i64 0) := (blk_cell BK176.out 1).trans rfl; have hcz21_2 : w17.cell? ⟨gb176, 2, none⟩ = some (.int .i64 0) := (blk_cell BK176.out 2).trans rfl; have hcz21_3 : w17.cell? ⟨gb176, 3, none⟩ = some (.int .i64 0) := (blk_cell BK176.out 3).trans rfl; have hfz21_0 := blk_frozen BK176.out 0; have hfz21_1 := blk_frozen BK176.out 1; have hfz21_2 := blk_frozen BK176.out 2; have hfz21_3 := blk_frozen BK176.out 3) | ((with_reducible refine gate_callee (f := 34) rfl ?_); refine goesL_ (some 28) rfl rfl Try.func34 (by kernel_rfl) rfl #[.agg #[.int .i64 ji3, .int .i64 ji4, .int .i64 ji5, .int .i64 ji6]] rfl (by (try simp only [List.map_toArray, List.map_cons, List.map_nil]); first | done | (simp only [hji3, hji4, hji5, hji6]; rfl) | rfl | (simp only [List.length_drop, List.length_take]; rfl)) ?_; (with_reducible refine (rect_Empty.calls ji3 ji4 ji5 ji6 true _ A7.out).mono ?_); rintro e w22 ⟨rfl, hb⟩; refine ⟨_, rfl, ?_⟩; have n0_ := Aside0.mk (blk_below (g := gb173) (o := .cells #[.int .i64 a0_0, .int .i64 a0_1, .int .i64 a0_2, .int .i64 a0_3] 23 (0, 0)) (by (with_reducible repeat (first | refine blk_drewN ?_ _ | refine blk_drew ?_ | refine blk_alloc ?_ _)); refine blk_far ?_ NB173_176.out _; (with_reducible repeat (first | refine blk_drewN ?_ _ | refine blk_drew ?_ | refine blk_alloc ?_ _)); refine blk_far ?_ NB173_176.out _; (with_reducible repeat (first | refine blk_drewN ?_ _ | refine blk_drew ?_ | refine blk_alloc ?_ _)); refine blk_far ?_ NB173_176.out _; (with_reducible repeat (first | refine blk_drewN ?_ _ | refine blk_drew ?_ | refine blk_alloc ?_ _)); refine blk_far ?_ NB173_176.out _; exact upK BK173.out) hb); have n1_ := Aside0.mk (blk_below (g := gb174) (o := .cells #[.int .i64 a1_0, .int .i64 a1_1, .int .i64 a1_2, .int .i64 a1_3] 23 (0, 0)) (by (with_reducible repeat (first | refine blk_drewN ?_ _ | refine blk_drew ?_ | refine blk_alloc ?_ _)); refine blk_far ?_ NB174_176.out _; (with_reducible repeat (first | refine blk_drewN ?_ _ | refine blk_drew ?_ | refine blk_alloc ?_ _)); refine blk_far ?_ NB174_176.out _; (with_reducible repeat (first | refine blk_drewN ?_ _ | refine blk_drew ?_ | refine blk_alloc ?_ _)); refine blk_far ?_ NB174_176.out _; (with_reducible repeat (first | refine blk_drewN ?_ _ | refine blk_drew ?_ | refine blk_alloc ?_ _)); refine blk_far ?_ NB174_176.out _; exact upK BK174.out) hb); have n2_ := Aside0.mk (blk_below (g := gb175) (o := .cells #[.int .i64 0, .int .i64 0, .int .i64 0, .int .i64 0] 23 (0, 0)) (by (with_reducible repeat (first | refine blk_drewN ?_ _ | refine blk_drew ?_ | refine blk_alloc ?_ _)); refine blk_far ?_ NB175_176.out _; (with_reducible repeat (first | refine blk_drewN ?_ _ | refine blk_drew ?_ | refine blk_alloc ?_ _)); refine blk_far ?_ NB175_176.out _; (with_reducible repeat (first | refine blk_drewN ?_ _ | refine blk_drew ?_ | refine blk_alloc ?_ _)); refine blk_far ?_ NB175_176.out _; (with_reducible repeat (first | refine blk_drewN ?_ _ | refine blk_drew ?_ | refine blk_alloc ?_ _)); refine blk_far ?_ NB175_176.out _; exact upK BK175.out) hb); have n3_ := Aside0.mk (blk_below (g := gb176) (o := .cells #[.int .i64 ji3, .int .i64 ji4, .int .i64 ji5, .int .i64 ji6] 23 (0, 0)) (by (with_reducible repeat (first | refine blk_drewN ?_ _ | refine blk_drew ?_ | refine blk_alloc ?_ _)); refine blk_put (cs := #[.int .i64 ji3, .int .i64 ji4, .int .i64 ji5, .int .i64 0]) ?_ 3 _ rfl; (with_reducible repeat (first | refine blk_drewN ?_ _ | refine blk_drew ?_ | refine blk_alloc ?_ _)); refine blk_put (cs := #[.int .i64 ji3, .int .i64 ji4, .int .i64 0, .int .i64 0]) ?_ 2 _ rfl; (with_reducible repeat (first | refine blk_drewN ?_ _ | refine blk_drew ?_ | refine blk_alloc ?_ _)); refine blk_put (cs := #[.int .i64 ji3, .int .i64 0, .int .i64 0, .int .i64 0]) ?_ 1 _ rfl; (with_reducible repeat (first | refine blk_drewN ?_ _ | refine blk_drew ?_ | refine blk_alloc ?_ _)); refine blk_put (cs := #[.int .i64 0, .int .i64 0, .int .i64 0, .int .i64 0]) ?_ 0 _ rfl; exact upK BK176.out) hb); have n4_ := Aside0.mk (below_step (by repeat (first | (with_reducible first | exact HB.out | apply below_alloc | apply pw_below_drewN | apply below_drew1 | refine below_set ?_ GE173.out | refine below_set ?_ GE174.out | refine below_set ?_ GE175.out | refine below_set ?_ GE176.out) | exact HB.out)) hb); clear BK173; clear BK174; clear BK175; clear BK176; clear HB; have BK173 := n0_; have BK174 := n1_; have BK175 := n2_; have BK176 := n3_; have HB := n4_; clear n0_ n1_ n2_ n3_ n4_; (try clear hb); (try clear hb2); (try clear hk); (try clear hi); have hcz23_0 : w22.cell? ⟨gb175, 0, none⟩ = some (.int .i64 0) := (blk_cell BK175.out 0).trans rfl; have hcz23_1 : w22.cell? ⟨gb175, 1, none⟩ = some (.int .i64 0) := (blk_cell BK175.out 1).trans rfl; have hcz23_2 : w22.cell? ⟨gb175, 2, none⟩ = some (.int .i64 0) := (blk_cell BK175.out 2).trans rfl; have hcz23_3 : w22.cell? ⟨gb175, 3, none⟩ = some (.int .i64 0) := (blk_cell BK175.out 3).trans rfl; have hfz23_0 := blk_frozen BK175.out 0; have hfz23_1 := blk_frozen BK175.out 1; have hfz23_2 := blk_frozen BK175.out 2; have hfz23_3 := blk_frozen BK175.out 3))
  refine bodyPost_ret (results_cell_row rfl _ _ gb175 23 #[.int .i64 0, .int .i64 0, .int .i64 0, .int .i64 0] (0, 0) _ rfl (by (with_reducible repeat (first | refine blk_drewN ?_ _ | refine blk_drew ?_ | refine blk_alloc ?_ _)); refine blk_put (cs := #[.int .i64 0, .int .i64 0, .int .i64 0, .int .i64 0]) ?_ 3 _ rfl; (with_reducible repeat (first | refine blk_drewN ?_ _ | refine blk_drew ?_ | refine blk_alloc ?_ _)); refine blk_put (cs := #[.int .i64 0, .int .i64 0, .int .i64 0, .int .i64 0]) ?_ 2 _ rfl; (with_reducible repeat (first | refine blk_drewN ?_ _ | refine blk_drew ?_ | refine blk_alloc ?_ _)); refine blk_put (cs := #[.int .i64 0, .int .i64 0, .int .i64 0, .int .i64 0]) ?_ 1 _ rfl; (with_reducible repeat (first | refine blk_drewN ?_ _ | refine blk_drew ?_ | refine blk_alloc ?_ _)); refine blk_put (cs := #[.int .i64 0, .int .i64 0, .int .i64 0, .int .i64 0]) ?_ 0 _ rfl; exact upK BK175.out) Try.underlying23 rfl (by kernel_rfl)) rfl ?_
  exact ⟨by first | rfl | (simp [errW_none, errW_some] <;> rfl) | (simp only [← hji3, ← hji4, ← hji5, ← hji6]; first | rfl | (simp [errW_none, errW_some] <;> rfl)) | (simp [*, errW_none, errW_some] <;> rfl), by repeat (first | (with_reducible first | exact HB.out | apply below_alloc | apply pw_below_drewN | apply below_drew1 | refine below_set ?_ GE173.out | refine below_set ?_ GE174.out | refine below_set ?_ GE175.out | refine below_set ?_ GE176.out) | exact HB.out)⟩
 ·replace c8 := Bool.eq_false_iff.mpr c8
  subst c8
  have H1 : (some (ji3, ji4, ji5, ji6)) = some (r1, r2, r3, r4) := by rw [if_neg (show ¬ (false = true) by decide)] at H; exact H
  clear H
  have H := H1
  clear H1
  simp only [Option.some.injEq, Prod.mk.injEq] at H
  obtain ⟨rfl, rfl, rfl, rfl⟩ := H
  go_enter Try.func32, Try.ntmps32
  go_wp2_with (first | ((with_reducible refine gate_dst (N := 2) rfl ?_); refine bT (N := 2) (#[.int .i64 a0_0, .int .i64 a0_1, .int .i64 a0_2, .int .i64 a0_3]) 23 ?_; intro gb173 hg w24 hbox hb; have n0_ := Aside0.mk (below_step (by repeat (first | (with_reducible first | exact HB.out | apply below_alloc | apply pw_below_drewN | apply below_drew1) | exact HB.out)) hb); have n1_ := Aside0.mk (hbox); have n2_ := Aside0.mk ((by rw [hg]; exact (below_size (by repeat (first | (with_reducible first | exact HB.out | apply below_alloc | apply pw_below_drewN | apply below_drew1) | exact HB.out))) : w.heap.size ≤ gb173)); have n3_ := Aside0.mk ((by rw [hg]; exact (below_size (by repeat (first | (with_reducible first | exact HB.out | apply below_alloc | apply pw_below_drewN | apply below_drew1) | exact HB.out))) : w.heap.size ≤ gb173)); clear HB; have HB := n0_; have BK173 := n1_; have GW173 := n2_; have GE173 := n3_; clear n0_ n1_ n2_ n3_; clear hb hbox hg) | ((with_reducible refine gate_dst (N := 3) rfl ?_); refine bT (N := 3) (#[.int .i64 a1_0, .int .i64 a1_1, .int .i64 a1_2, .int .i64 a1_3]) 23 ?_; intro gb174 hg w25 hbox hb; have n0_ := Aside0.mk (blk_below (g := gb173) (o := .cells #[.int .i64 a0_0, .int .i64 a0_1, .int .i64 a0_2, .int .i64 a0_3] 23 (0, 0)) (by exact upK BK173.out) hb); have n1_ := Aside0.mk (below_step (by repeat (first | (with_reducible first | exact HB.out | apply below_alloc | apply pw_below_drewN | apply below_drew1 | refine below_set ?_ GE173.out) | exact HB.out)) hb); have n2_ := Aside0.mk (hbox); have n3_ := Aside0.mk ((by rw [hg]; exact (below_size (by repeat (first | (with_reducible first | exact HB.out | apply below_alloc | apply pw_below_drewN | apply below_drew1 | refine below_set ?_ GE173.out) | exact HB.out))) : w.heap.size ≤ gb174)); have n4_ := Aside0.mk ((by rw [hg]; exact (below_size (by repeat (first | (with_reducible first | exact HB.out | apply below_alloc | apply pw_below_drewN | apply below_drew1 | refine below_set ?_ GE173.out) | exact HB.out))) : w.heap.size ≤ gb174)); have n5_ := Aside0.mk ((by rw [hg]; exact Nat.ne_of_lt (blk_lt (g := gb173) (o := .cells #[.int .i64 a0_0, .int .i64 a0_1, .int .i64 a0_2, .int .i64 a0_3] 23 (0, 0)) (by exact upK BK173.out)) : gb173 ≠ gb174)); have n6_ := Aside0.mk ((by rw [hg]; exact Nat.ne_of_gt (blk_lt (g := gb173) (o := .cells #[.int .i64 a0_0, .int .i64 a0_1, .int .i64 a0_2, .int .i64 a0_3] 23 (0, 0)) (by exact upK BK173.out)) : gb174 ≠ gb173)); clear BK173; clear HB; have BK173 := n0_; have HB := n1_; have BK174 := n2_; have GW174 := n3_; have GE174 := n4_; have NB173_174 := n5_; have NB174_173 := n6_; clear n0_ n1_ n2_ n3_ n4_ n5_ n6_; clear hb hbox hg) | ((with_reducible refine gate_dst (N := 4) rfl ?_); refine bT (N := 4) (#[.int .i64 0, .int .i64 0, .int .i64 0, .int .i64 0]) 23 ?_; intro gb175 hg w26 hbox hb; have n0_ := Aside0.mk (blk_below (g := gb173) (o := .cells #[.int .i64 a0_0, .int .i64 a0_1, .int .i64 a0_2, .int .i64 a0_3] 23 (0, 0)) (by exact upK BK173.out) hb); have n1_ := Aside0.mk (blk_below (g := gb174) (o := .cells #[.int .i64 a1_0, .int .i64 a1_1, .int .i64 a1_2, .int .i64 a1_3] 23 (0, 0)) (by exact upK BK174.out) hb); have n2_ := Aside0.mk (below_step (by repeat (first | (with_reducible first | exact HB.out | apply below_alloc | apply pw_below_drewN | apply below_drew1 | refine below_set ?_ GE173.out | refine below_set ?_ GE174.out) | exact HB.out)) hb); have n3_ := Aside0.mk (hbox); have n4_ := Aside0.mk ((by rw [hg]; exact (below_size (by repeat (first | (with_reducible first | exact HB.out | apply below_alloc | apply pw_below_drewN | apply below_drew1 | refine below_set ?_ GE173.out | refine below_set ?_ GE174.out) | exact HB.out))) : w.heap.size ≤ gb175)); have n5_ := Aside0.mk ((by rw [hg]; exact (below_size (by repeat (first | (with_reducible first | exact HB.out | apply below_alloc | apply pw_below_drewN | apply below_drew1 | refine below_set ?_ GE173.out | refine below_set ?_ GE174.out) | exact HB.out))) : w.heap.size ≤ gb175)); have n6_ := Aside0.mk ((by rw [hg]; exact Nat.ne_of_lt (blk_lt (g := gb173) (o := .cells #[.int .i64 a0_0, .int .i64 a0_1, .int .i64 a0_2, .int .i64 a0_3] 23 (0, 0)) (by exact upK BK173.out)) : gb173 ≠ gb175)); have n7_ := Aside0.mk ((by rw [hg]; exact Nat.ne_of_gt (blk_lt (g := gb173) (o := .cells #[.int .i64 a0_0, .int .i64 a0_1, .int .i64 a0_2, .int .i64 a0_3] 23 (0, 0)) (by exact upK BK173.out)) : gb175 ≠ gb173)); have n8_ := Aside0.mk ((by rw [hg]; exact Nat.ne_of_lt (blk_lt (g := gb174) (o := .cells #[.int .i64 a1_0, .int .i64 a1_1, .int .i64 a1_2, .int .i64 a1_3] 23 (0, 0)) (by exact upK BK174.out)) : gb174 ≠ gb175)); have n9_ := Aside0.mk ((by rw [hg]; exact Nat.ne_of_gt (blk_lt (g := gb174) (o := .cells #[.int .i64 a1_0, .int .i64 a1_1, .int .i64 a1_2, .int .i64 a1_3] 23 (0, 0)) (by exact upK BK174.out)) : gb175 ≠ gb174)); clear BK173; clear BK174; clear HB; have BK173 := n0_; have BK174 := n1_; have HB := n2_; have BK175 := n3_; have GW175 := n4_; have GE175 := n5_; have NB173_175 := n6_; have NB175_173 := n7_; have NB174_175 := n8_; have NB175_174 := n9_; clear n0_ n1_ n2_ n3_ n4_ n5_ n6_ n7_ n8_ n9_; clear hb hbox hg; have hnb27 := NB173_174.out; have hnc27 := NB174_173.out; have hnb28 := NB173_175.out; have hnc28 := NB175_173.out; have hcz29_0 : w26.cell? ⟨gb173, 0, none⟩ = some (.int .i64 a0_0) := (blk_cell BK173.out 0).trans rfl; have hcz29_1 : w26.cell? ⟨gb173, 1, none⟩ = some (.int .i64 a0_1) := (blk_cell BK173.out 1).trans rfl; have hcz29_2 : w26.cell? ⟨gb173, 2, none⟩ = some (.int .i64 a0_2) := (blk_cell BK173.out 2).trans rfl; have hcz29_3 : w26.cell? ⟨gb173, 3, none⟩ = some (.int .i64 a0_3) := (blk_cell BK173.out 3).trans rfl; have hfz29_0 := blk_frozen BK173.out 0; have hfz29_1 := blk_frozen BK173.out 1; have hfz29_2 := blk_frozen BK173.out 2; have hfz29_3 := blk_frozen BK173.out 3; have hnb30 := NB174_175.out; have hnc30 := NB175_174.out; have hcz31_0 : w26.cell? ⟨gb174, 0, none⟩ = some (.int .i64 a1_0) := (blk_cell BK174.out 0).trans rfl; have hcz31_1 : w26.cell? ⟨gb174, 1, none⟩ = some (.int .i64 a1_1) := (blk_cell BK174.out 1).trans rfl; have hcz31_2 : w26.cell? ⟨gb174, 2, none⟩ = some (.int .i64 a1_2) := (blk_cell BK174.out 2).trans rfl; have hcz31_3 : w26.cell? ⟨gb174, 3, none⟩ = some (.int .i64 a1_3) := (blk_cell BK174.out 3).trans rfl; have hfz31_0 := blk_frozen BK174.out 0; have hfz31_1 := blk_frozen BK174.out 1; have hfz31_2 := blk_frozen BK174.out 2; have hfz31_3 := blk_frozen BK174.out 3) | ((with_reducible refine gate_dst (N := 5) rfl ?_); refine bT (N := 5) (#[.int .i64 0, .int .i64 0, .int .i64 0, .int .i64 0]) 23 ?_; intro gb176 hg w32 hbox hb; have n0_ := Aside0.mk (blk_below (g := gb173) (o := .cells #[.int .i64 a0_0, .int .i64 a0_1, .int .i64 a0_2, .int .i64 a0_3] 23 (0, 0)) (by exact upK BK173.out) hb); have n1_ := Aside0.mk (blk_below (g := gb174) (o := .cells #[.int .i64 a1_0, .int .i64 a1_1, .int .i64 a1_2, .int .i64 a1_3] 23 (0, 0)) (by exact upK BK174.out) hb); have n2_ := Aside0.mk (blk_below (g := gb175) (o := .cells #[.int .i64 0, .int .i64 0, .int .i64 0, .int .i64 0] 23 (0, 0)) (by exact upK BK175.out) hb); have n3_ := Aside0.mk (below_step (by repeat (first | (with_reducible first | exact HB.out | apply below_alloc | apply pw_below_drewN | apply below_drew1 | refine below_set ?_ GE173.out | refine below_set ?_ GE174.out | refine below_set ?_ GE175.out) | exact HB.out)) hb); have n4_ := Aside0.mk (hbox); have n5_ := Aside0.mk ((by rw [hg]; exact (below_size (by repeat (first | (with_reducible first | exact HB.out | apply below_alloc | apply pw_below_drewN | apply below_drew1 | refine below_set ?_ GE173.out | refine below_set ?_ GE174.out | refine below_set ?_ GE175.out) | exact HB.out))) : w.heap.size ≤ gb176)); have n6_ := Aside0.mk ((by rw [hg]; exact (below_size (by repeat (first | (with_reducible first | exact HB.out | apply below_alloc | apply pw_below_drewN | apply below_drew1 | refine below_set ?_ GE173.out | refine below_set ?_ GE174.out | refine below_set ?_ GE175.out) | exact HB.out))) : w.heap.size ≤ gb176)); have n7_ := Aside0.mk ((by rw [hg]; exact Nat.ne_of_lt (blk_lt (g := gb173) (o := .cells #[.int .i64 a0_0, .int .i64 a0_1, .int .i64 a0_2, .int .i64 a0_3] 23 (0, 0)) (by exact upK BK173.out)) : gb173 ≠ gb176)); have n8_ := Aside0.mk ((by rw [hg]; exact Nat.ne_of_gt (blk_lt (g := gb173) (o := .cells #[.int .i64 a0_0, .int .i64 a0_1, .int .i64 a0_2, .int .i64 a0_3] 23 (0, 0)) (by exact upK BK173.out)) : gb176 ≠ gb173)); have n9_ := Aside0.mk ((by rw [hg]; exact Nat.ne_of_lt (blk_lt (g := gb174) (o := .cells #[.int .i64 a1_0, .int .i64 a1_1, .int .i64 a1_2, .int .i64 a1_3] 23 (0, 0)) (by exact upK BK174.out)) : gb174 ≠ gb176)); have n10_ := Aside0.mk ((by rw [hg]; exact Nat.ne_of_gt (blk_lt (g := gb174) (o := .cells #[.int .i64 a1_0, .int .i64 a1_1, .int .i64 a1_2, .int .i64 a1_3] 23 (0, 0)) (by exact upK BK174.out)) : gb176 ≠ gb174)); have n11_ := Aside0.mk ((by rw [hg]; exact Nat.ne_of_lt (blk_lt (g := gb175) (o := .cells #[.int .i64 0, .int .i64 0, .int .i64 0, .int .i64 0] 23 (0, 0)) (by exact upK BK175.out)) : gb175 ≠ gb176)); have n12_ := Aside0.mk ((by rw [hg]; exact Nat.ne_of_gt (blk_lt (g := gb175) (o := .cells #[.int .i64 0, .int .i64 0, .int .i64 0, .int .i64 0] 23 (0, 0)) (by exact upK BK175.out)) : gb176 ≠ gb175)); clear BK173; clear BK174; clear BK175; clear HB; have BK173 := n0_; have BK174 := n1_; have BK175 := n2_; have HB := n3_; have BK176 := n4_; have GW176 := n5_; have GE176 := n6_; have NB173_176 := n7_; have NB176_173 := n8_; have NB174_176 := n9_; have NB176_174 := n10_; have NB175_176 := n11_; have NB176_175 := n12_; clear n0_ n1_ n2_ n3_ n4_ n5_ n6_ n7_ n8_ n9_ n10_ n11_ n12_; clear hb hbox hg; have hnb33 := NB176_173.out; have hnc33 := NB173_176.out; have hnb34 := NB176_174.out; have hnc34 := NB174_176.out; have hnb35 := NB176_175.out; have hnc35 := NB175_176.out; have hcz36_0 : w32.cell? ⟨gb176, 0, none⟩ = some (.int .i64 0) := (blk_cell BK176.out 0).trans rfl; have hcz36_1 : w32.cell? ⟨gb176, 1, none⟩ = some (.int .i64 0) := (blk_cell BK176.out 1).trans rfl; have hcz36_2 : w32.cell? ⟨gb176, 2, none⟩ = some (.int .i64 0) := (blk_cell BK176.out 2).trans rfl; have hcz36_3 : w32.cell? ⟨gb176, 3, none⟩ = some (.int .i64 0) := (blk_cell BK176.out 3).trans rfl; have hfz36_0 := blk_frozen BK176.out 0; have hfz36_1 := blk_frozen BK176.out 1; have hfz36_2 := blk_frozen BK176.out 2; have hfz36_3 := blk_frozen BK176.out 3) | ((with_reducible refine gate_callee (f := 34) rfl ?_); refine goesL_ (some 28) rfl rfl Try.func34 (by kernel_rfl) rfl #[.agg #[.int .i64 ji3, .int .i64 ji4, .int .i64 ji5, .int .i64 ji6]] rfl (by (try simp only [List.map_toArray, List.map_cons, List.map_nil]); first | done | (simp only [hji3, hji4, hji5, hji6]; rfl) | rfl | (simp only [List.length_drop, List.length_take]; rfl)) ?_; (with_reducible refine (rect_Empty.calls ji3 ji4 ji5 ji6 false _ A7.out).mono ?_); rintro e w37 ⟨rfl, hb⟩; refine ⟨_, rfl, ?_⟩; have n0_ := Aside0.mk (blk_below (g := gb173) (o := .cells #[.int .i64 a0_0, .int .i64 a0_1, .int .i64 a0_2, .int .i64 a0_3] 23 (0, 0)) (by (with_reducible repeat (first | refine blk_drewN ?_ _ | refine blk_drew ?_ | refine blk_alloc ?_ _)); refine blk_far ?_ NB173_176.out _; (with_reducible repeat (first | refine blk_drewN ?_ _ | refine blk_drew ?_ | refine blk_alloc ?_ _)); refine blk_far ?_ NB173_176.out _; (with_reducible repeat (first | refine blk_drewN ?_ _ | refine blk_drew ?_ | refine blk_alloc ?_ _)); refine blk_far ?_ NB173_176.out _; (with_reducible repeat (first | refine blk_drewN ?_ _ | refine blk_drew ?_ | refine blk_alloc ?_ _)); refine blk_far ?_ NB173_176.out _; exact upK BK173.out) hb); have n1_ := Aside0.mk (blk_below (g := gb174) (o := .cells #[.int .i64 a1_0, .int .i64 a1_1, .int .i64 a1_2, .int .i64 a1_3] 23 (0, 0)) (by (with_reducible repeat (first | refine blk_drewN ?_ _ | refine blk_drew ?_ | refine blk_alloc ?_ _)); refine blk_far ?_ NB174_176.out _; (with_reducible repeat (first | refine blk_drewN ?_ _ | refine blk_drew ?_ | refine blk_alloc ?_ _)); refine blk_far ?_ NB174_176.out _; (with_reducible repeat (first | refine blk_drewN ?_ _ | refine blk_drew ?_ | refine blk_alloc ?_ _)); refine blk_far ?_ NB174_176.out _; (with_reducible repeat (first | refine blk_drewN ?_ _ | refine blk_drew ?_ | refine blk_alloc ?_ _)); refine blk_far ?_ NB174_176.out _; exact upK BK174.out) hb); have n2_ := Aside0.mk (blk_below (g := gb175) (o := .cells #[.int .i64 0, .int .i64 0, .int .i64 0, .int .i64 0] 23 (0, 0)) (by (with_reducible repeat (first | refine blk_drewN ?_ _ | refine blk_drew ?_ | refine blk_alloc ?_ _)); refine blk_far ?_ NB175_176.out _; (with_reducible repeat (first | refine blk_drewN ?_ _ | refine blk_drew ?_ | refine blk_alloc ?_ _)); refine blk_far ?_ NB175_176.out _; (with_reducible repeat (first | refine blk_drewN ?_ _ | refine blk_drew ?_ | refine blk_alloc ?_ _)); refine blk_far ?_ NB175_176.out _; (with_reducible repeat (first | refine blk_drewN ?_ _ | refine blk_drew ?_ | refine blk_alloc ?_ _)); refine blk_far ?_ NB175_176.out _; exact upK BK175.out) hb); have n3_ := Aside0.mk (blk_below (g := gb176) (o := .cells #[.int .i64 ji3, .int .i64 ji4, .int .i64 ji5, .int .i64 ji6] 23 (0, 0)) (by (with_reducible repeat (first | refine blk_drewN ?_ _ | refine blk_drew ?_ | refine blk_alloc ?_ _)); refine blk_put (cs := #[.int .i64 ji3, .int .i64 ji4, .int .i64 ji5, .int .i64 0]) ?_ 3 _ rfl; (with_reducible repeat (first | refine blk_drewN ?_ _ | refine blk_drew ?_ | refine blk_alloc ?_ _)); refine blk_put (cs := #[.int .i64 ji3, .int .i64 ji4, .int .i64 0, .int .i64 0]) ?_ 2 _ rfl; (with_reducible repeat (first | refine blk_drewN ?_ _ | refine blk_drew ?_ | refine blk_alloc ?_ _)); refine blk_put (cs := #[.int .i64 ji3, .int .i64 0, .int .i64 0, .int .i64 0]) ?_ 1 _ rfl; (with_reducible repeat (first | refine blk_drewN ?_ _ | refine blk_drew ?_ | refine blk_alloc ?_ _)); refine blk_put (cs := #[.int .i64 0, .int .i64 0, .int .i64 0, .int .i64 0]) ?_ 0 _ rfl; exact upK BK176.out) hb); have n4_ := Aside0.mk (below_step (by repeat (first | (with_reducible first | exact HB.out | apply below_alloc | apply pw_below_drewN | apply below_drew1 | refine below_set ?_ GE173.out | refine below_set ?_ GE174.out | refine below_set ?_ GE175.out | refine below_set ?_ GE176.out) | exact HB.out)) hb); clear BK173; clear BK174; clear BK175; clear BK176; clear HB; have BK173 := n0_; have BK174 := n1_; have BK175 := n2_; have BK176 := n3_; have HB := n4_; clear n0_ n1_ n2_ n3_ n4_; (try clear hb); (try clear hb2); (try clear hk); (try clear hi); have hcz38_0 : w37.cell? ⟨gb176, 0, none⟩ = some (.int .i64 ji3) := (blk_cell BK176.out 0).trans rfl; have hcz38_1 : w37.cell? ⟨gb176, 1, none⟩ = some (.int .i64 ji4) := (blk_cell BK176.out 1).trans rfl; have hcz38_2 : w37.cell? ⟨gb176, 2, none⟩ = some (.int .i64 ji5) := (blk_cell BK176.out 2).trans rfl; have hcz38_3 : w37.cell? ⟨gb176, 3, none⟩ = some (.int .i64 ji6) := (blk_cell BK176.out 3).trans rfl; have hfz38_0 := blk_frozen BK176.out 0; have hfz38_1 := blk_frozen BK176.out 1; have hfz38_2 := blk_frozen BK176.out 2; have hfz38_3 := blk_frozen BK176.out 3; have hcz39_0 : w37.cell? ⟨gb175, 0, none⟩ = some (.int .i64 0) := (blk_cell BK175.out 0).trans rfl; have hcz39_1 : w37.cell? ⟨gb175, 1, none⟩ = some (.int .i64 0) := (blk_cell BK175.out 1).trans rfl; have hcz39_2 : w37.cell? ⟨gb175, 2, none⟩ = some (.int .i64 0) := (blk_cell BK175.out 2).trans rfl; have hcz39_3 : w37.cell? ⟨gb175, 3, none⟩ = some (.int .i64 0) := (blk_cell BK175.out 3).trans rfl; have hfz39_0 := blk_frozen BK175.out 0; have hfz39_1 := blk_frozen BK175.out 1; have hfz39_2 := blk_frozen BK175.out 2; have hfz39_3 := blk_frozen BK175.out 3))
  refine bodyPost_ret (results_cell_row rfl _ _ gb175 23 #[.int .i64 ji3, .int .i64 ji4, .int .i64 ji5, .int .i64 ji6] (0, 0) _ rfl (by (with_reducible repeat (first | refine blk_drewN ?_ _ | refine blk_drew ?_ | refine blk_alloc ?_ _)); refine blk_put (cs := #[.int .i64 ji3, .int .i64 ji4, .int .i64 ji5, .int .i64 0]) ?_ 3 _ rfl; (with_reducible repeat (first | refine blk_drewN ?_ _ | refine blk_drew ?_ | refine blk_alloc ?_ _)); refine blk_put (cs := #[.int .i64 ji3, .int .i64 ji4, .int .i64 0, .int .i64 0]) ?_ 2 _ rfl; (with_reducible repeat (first | refine blk_drewN ?_ _ | refine blk_drew ?_ | refine blk_alloc ?_ _)); refine blk_put (cs := #[.int .i64 ji3, .int .i64 0, .int .i64 0, .int .i64 0]) ?_ 1 _ rfl; (with_reducible repeat (first | refine blk_drewN ?_ _ | refine blk_drew ?_ | refine blk_alloc ?_ _)); refine blk_put (cs := #[.int .i64 0, .int .i64 0, .int .i64 0, .int .i64 0]) ?_ 0 _ rfl; exact upK BK175.out) Try.underlying23 rfl (by kernel_rfl)) rfl ?_
  exact ⟨by first | rfl | (simp [errW_none, errW_some] <;> rfl) | (simp only [← hji3, ← hji4, ← hji5, ← hji6]; first | rfl | (simp [errW_none, errW_some] <;> rfl)) | (simp [*, errW_none, errW_some] <;> rfl), by repeat (first | (with_reducible first | exact HB.out | apply below_alloc | apply pw_below_drewN | apply below_drew1 | refine below_set ?_ GE173.out | refine below_set ?_ GE174.out | refine below_set ?_ GE175.out | refine below_set ?_ GE176.out) | exact HB.out)⟩
end Go.Proofs.Ytcnpekpgghppnaa.Q
