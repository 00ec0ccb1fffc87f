/- Texts of this session (words and printed walks, merged by wip/tools/merge.py) for the statement of the claim. -/
import Derived.Test.YtcnpekpgghppnaaMTr7
import Derived.Test.YtcnpekpgghppnaaMTr1
import Derived.Test.YtcnpekpgghppnaaMTr2
import Derived.Test.YtcnpekpgghppnaaMTr5
import Derived.Test.YtcnpekpgghppnaaMTr6
import Derived.Test.YtcnpekpgghppnaaMTr3
/- A row of planes that grows, told by its raw cells; the planes' numbers are held beside it. -/
namespace Go.Proofs.Ytcnpekpgghppnaa.Q
open Go.RowKit Go.Proofs.YtcnpekpgghppnaaW.PrintWords Go.Proofs.YtcnpekpgghppnaaW.PrintLast Go.Proofs.YtcnpekpgghppnaaW.PrintMore
set_option linter.unusedVariables false
set_option linter.unusedSimpArgs false

/-- Five cells, as they are. -/
def rawP : Kd (List Value) where
  sz := 5
  E := []
  K := fun _ x cs => cs = x ∧ x.length = 5 ∧ ∀ u ∈ x, u.oneCell' = true
  M := fun _ _ _ x cs => cs = x ∧ x.length = 5 ∧ ∀ u ∈ x, u.oneCell' = true
  K_len := fun h => by rw [h.1]; exact h.2.1
  K_one := fun h u hu => h.2.2 u (by rw [← h.1]; exact hu)
  K_below := fun _ h => h
  K_of_M := fun h => h
  M_mono := fun _ h => h
  M_bound := fun h => h
  M_move := fun _ h => h
  M_lower := fun _ h => h
/-- The row of planes so far (v), and what its planes hold. -/
structure Back (n : Nat) (w0 W : World) (v : Value) (qs : List (Value × Pl)) : Prop where
  row : Kd.R rawP 26 W n (fun _ => True) v (qs.map pcells)
  data : ∀ p ∈ qs, Kd.R (Kd.int .i64) 3 W n (fun _ => True) p.1 p.2.D
  below : Below n w0 W
theorem Back.nil (w : World) : Back w.heap.size w w (.slice none 0 0) [] := ⟨Kd.R_nil _ _ _ _ _, fun p hp => by simp at hp, Below.refl _ _⟩
theorem Back.call {n : Nat} {w0 W W' : World} {v : Value} {qs : List (Value × Pl)} (h : Back n w0 W v qs) (hn : n ≤ W.heap.size) (hb : Below W.heap.size W W') : Back n w0 W' v qs :=
  ⟨Kd.R_below h.row hb, fun p hp => Kd.R_below (h.data p hp) hb, h.below.trans (hb.mono hn)⟩
theorem Back.size {n : Nat} {w0 W : World} {v : Value} {qs : List (Value × Pl)} (h : Back n w0 W v qs) (hn : n = w0.heap.size) : n ≤ W.heap.size := by
  subst hn
  exact below_size h.below
theorem Back.add {n b : Nat} {w0 W W' : World} {v v' : Value} {qs : List (Value × Pl)} {q : Value × Pl} {ok : Nat → Prop} (h : Back n w0 W v qs) (hq : Kd.R (Kd.int .i64) 3 W b ok q.1 q.2.D) (hnb : n ≤ b) (hR : Kd.R rawP 26 W' n (fun _ => True) v' (qs.map pcells ++ [pcells q])) (hB : Below n w0 W') (hg : W.grownBy W' v.ownBlock) : Back n w0 W' v' (qs ++ [q]) := by
  have key : ∀ p : Value × List Int, Kd.R (Kd.int .i64) 3 W n (fun _ => True) p.1 p.2 → Kd.R (Kd.int .i64) 3 W' n (fun _ => True) p.1 p.2 := by
    intro p hp
    refine Kd.R_grown2 hp rfl hg fun k hk => ?_
    obtain ⟨cells, hc⟩ := Kd.R_typed h.row k hk
    exact Kd.R_ne hp hc (by decide)
  refine ⟨by rw [List.map_append]; exact hR, fun p hp => ?_, hB⟩
  rcases List.mem_append.mp hp with hp | hp
  · exact key (p.1, p.2.D) (h.data p hp)
  · obtain rfl : p = q := by simpa using hp
    exact key (p.1, p.2.D) (Kd.R_mono (Kd.R_lower hq hnb) (fun _ _ => trivial))
theorem Back.form {n : Nat} {w0 W : World} {v : Value} {qs : List (Value × Pl)} (h : Back n w0 W v qs) (hp : 0 < qs.length) : ∃ (gb cN : Nat), v = .slice (some ⟨gb, 0, none⟩) qs.length cN ∧ qs.length ≤ cN ∧ Bds W gb qs := by
  obtain ⟨gb, cN, e, _, _, _⟩ := Kd.R_form h.row (by simpa using hp)
  rw [List.length_map] at e
  have hr := h.row
  rw [e] at hr
  obtain ⟨_, h2, h3⟩ := Kd.R_reads' hr
  refine ⟨gb, cN, e, h2, ⟨fun j p hj => ?_, fun j p hj => ?_⟩⟩
  · obtain ⟨ad, ha, hc⟩ := h3.2.2 (by simpa using hp)
    obtain rfl : (⟨gb, 0, none⟩ : Addr) = ad := Option.some.inj ha
    obtain ⟨c, c1, ⟨rfl, _⟩, c3⟩ := hc j (pcells p) (by rw [List.getElem?_map, hj]; rfl)
    intro i u hi
    have := c3 i u hi
    rw [add_plain] at this
    rw [Nat.mul_comm]
    exact this
  · have hd := h.data p (List.mem_of_getElem? hj)
    obtain ⟨A, c, e⟩ := Kd.R_slice hd
    rw [e] at hd
    obtain ⟨_, k2, k3⟩ := Kd.R_reads' hd
    exact ⟨A, c, e, k2, k3⟩
theorem pcells_raw {W : World} {b : Nat} {ok : Nat → Prop} {A : Option Addr} {c : Nat} {q : Pl} : rawP.M W b ok (pcells (.slice A q.D.length c, q)) (pcells (.slice A q.D.length c, q)) := by
  refine ⟨rfl, rfl, fun u hu => ?_⟩
  simp only [pcells, List.mem_cons, List.not_mem_nil, or_false] at hu
  rcases hu with rfl | rfl | rfl | rfl | rfl <;> rfl
theorem Back.start (w : World) : Back w.heap.size w (w.alloc (.cells #[] 26)) (.slice (some ⟨w.heap.size, 0, none⟩) 0 0) [] := by
  have h := World.ownsRow_lit (base := w.heap.size) (e := 26) (size := 5) w #[] 0 (Nat.le_refl _) (by decide) rfl
  exact ⟨⟨fun _ _ => trivial, [], h, Reps.none _ _⟩, fun p hp => by simp at hp, below_alloc (Below.refl _ _) _⟩
/-- The planes of a block that is held. -/
theorem Hold.bds {n : Nat} {w0 W : World} {g : Nat} {ps : List (Value × Pl)} (h : Hold n w0 W [(g, 26, cellsOf ps)] (rowsOf ps)) : Bds W g ps := by
  refine ⟨fun j p hj => ?_, fun j p hj => ?_⟩
  · intro i v hi
    rw [blk_cell (h.get 0 rfl) (5 * j + i)]
    exact cellsOf_get hj hi
  · have hr := h.rowAt j (show (rowsOf ps)[j]? = some (p.1, p.2.D) by unfold rowsOf; rw [List.getElem?_map, hj]; rfl)
    obtain ⟨A, c, e⟩ := Kd.R_slice hr
    rw [e] at hr
    obtain ⟨_, k2, k3⟩ := Kd.R_reads' hr
    exact ⟨A, c, e, k2, k3⟩
/-- A row of one plane. -/
theorem one_C {W : World} {g : Nat} {x0 y0 x1 y1 : Int} {A : Option Addr} {c : Nat} {D : List Int} (hb : W.heap[g]? = some (.cells #[.int .i64 x0, .int .i64 y0, .int .i64 x1, .int .i64 y1, .slice A D.length c] 26 (0, 0))) (hc : D.length ≤ c) (hC : Kd.C (Kd.int .i64) W A D.length D) : Kd.C k26 W (some ⟨g, 0, none⟩) 1 [⟨⟨x0, y0, x1, y1⟩, D⟩] := by
  refine ⟨rfl, by decide, fun _ => ⟨_, rfl, fun j p hj => ?_⟩⟩
  match j, hj with
  | 0, hj =>
    obtain rfl := Option.some.inj hj
    refine ⟨_, rfl, k26_mk W ⟨⟨x0, y0, x1, y1⟩, D⟩ hc hC, fun i u hi => ?_⟩
    rw [add_plain, blk_cell hb (0 * k26.sz + i), Nat.zero_mul, Nat.zero_add]
    simpa using hi
  | j + 1, hj => simp at hj
end Go.Proofs.Ytcnpekpgghppnaa.Q

/- A row of planes that grows, whose planes' numbers lie apart from one another. -/
namespace Go.Proofs.Ytcnpekpgghppnaa.Q
open Go.RowKit Go.Proofs.YtcnpekpgghppnaaW.PrintWords Go.Proofs.YtcnpekpgghppnaaW.PrintLast Go.Proofs.YtcnpekpgghppnaaW.PrintMore
set_option linter.unusedVariables false
set_option linter.unusedSimpArgs false

structure Back2 (n : Nat) (w0 W : World) (v : Value) (qs : List (Value × Pl)) : Prop where
  row : Kd.R rawP 26 W n (fun _ => True) v (qs.map pcells)
  hold : Hold n w0 W [] (rowsOf qs.reverse)
theorem Back2.nil (w : World) : Back2 w.heap.size w w (.slice none 0 0) [] := ⟨Kd.R_nil _ _ _ _ _, Hold.nil w⟩
theorem Back2.call {n : Nat} {w0 W W' : World} {v : Value} {qs : List (Value × Pl)} (h : Back2 n w0 W v qs) (hn : n ≤ W.heap.size) (hb : Below W.heap.size W W') : Back2 n w0 W' v qs :=
  ⟨Kd.R_below h.row hb, h.hold.call hn hb⟩
theorem Back2.add {n : Nat} {w0 W1 W W' : World} {v v' : Value} {qs : List (Value × Pl)} {q : Value × Pl} (h : Back2 n w0 W1 v qs) (hn : n ≤ W1.heap.size) (hq : Hold W1.heap.size W1 W [] [(q.1, q.2.D)]) (hR : Kd.R rawP 26 W' n (fun _ => True) v' (qs.map pcells ++ [pcells q])) (hB : Below n w0 W') (hg : W.grownBy W' v.ownBlock) : Back2 n w0 W' v' (qs ++ [q]) := by
  refine ⟨by rw [List.map_append]; exact hR, ?_⟩
  have hj := h.hold.join hn hq
  have hr := Kd.R_below h.row hq.below
  rw [List.reverse_append]
  refine Hold.moved (r := rowsOf ([q].reverse ++ qs.reverse)) hj ⟨fun i b h => by simp at h, fun i j b c _ h => by simp at h, fun i b h => by simp at h, hB⟩ fun i p hi k hk => ?_
  have hp := hj.row i p hi
  refine hg.block k (Kd.R_lt hp k hk) fun e => ?_
  obtain ⟨cells, hc⟩ := Kd.R_typed hr k e.symm
  exact Kd.R_ne hp hc (by decide) hk.symm
/-- The block of the row, held. -/
theorem Back2.open_ {n : Nat} {w0 W : World} {v : Value} {qs : List (Value × Pl)} (h : Back2 n w0 W v qs) (hp : 0 < qs.length) : ∃ (gb cN : Nat) (cs : Array Value), v = .slice (some ⟨gb, 0, none⟩) qs.length cN ∧ qs.length ≤ cN ∧ Hold n w0 W [(gb, 26, cs)] (rowsOf qs.reverse) ∧ ∀ (j : Nat) (p : Value × Pl), qs[j]? = some p → ∀ (i : Nat) (u : Value), (pcells p)[i]? = some u → cs[5 * j + i]? = some u := by
  obtain ⟨gb, cN, e, hb, hl, cs, hc⟩ := Kd.R_form h.row (by simpa using hp)
  rw [List.length_map] at e
  have hr := h.row
  rw [e] at hr
  obtain ⟨_, h2, h3⟩ := Kd.R_reads' hr
  refine ⟨gb, cN, cs, e, h2, ⟨⟨fun i b hi => ?_, fun i j b c hij hi hj => ?_, fun i b hi => ?_, h.hold.below⟩, fun i j b p hi hj => ?_, h.hold.row, h.hold.apart⟩, fun j p hj i u hi => ?_⟩
  · match i, hi with
    | 0, hi => cases hi; exact hc
    | i + 1, hi => simp at hi
  · match i, hi, j, hj with
    | 0, _, 0, _ => exact absurd rfl hij
    | i + 1, hi, _, _ => simp at hi
    | 0, _, j + 1, hj => simp at hj
  · match i, hi with
    | 0, hi => cases hi; exact hb
    | i + 1, hi => simp at hi
  · match i, hi with
    | 0, hi => cases hi; exact fun e2 => Kd.R_ne (h.hold.row j p hj) hc (by decide) e2.symm
    | i + 1, hi => simp at hi
  · obtain ⟨ad, ha, hcc⟩ := h3.2.2 (by simpa using hp)
    obtain rfl : (⟨gb, 0, none⟩ : Addr) = ad := Option.some.inj ha
    obtain ⟨c, c1, ⟨rfl, _⟩, c3⟩ := hcc j (pcells p) (by rw [List.getElem?_map, hj]; rfl)
    have := c3 i u hi
    rw [add_plain, blk_cell hc] at this
    rw [Nat.mul_comm]
    exact this
/-- What is held is what a reader wants. -/
theorem bds_of_hold {n : Nat} {w0 W : World} {gb : Nat} {cs : Array Value} {qs : List (Value × Pl)} {r : List (Value × List Int)} (h : Hold n w0 W [(gb, 26, cs)] r) (hcs : ∀ (j : Nat) (p : Value × Pl), qs[j]? = some p → ∀ (i : Nat) (u : Value), (pcells p)[i]? = some u → cs[5 * j + i]? = some u) (hr : ∀ p ∈ qs, ∃ i : Nat, r[i]? = some (p.1, p.2.D)) : Bds W gb qs := by
  refine ⟨fun j p hj i v hi => ?_, fun j p hj => ?_⟩
  · rw [blk_cell (h.get 0 rfl) (5 * j + i)]
    exact hcs j p hj i v hi
  · obtain ⟨i, hi⟩ := hr p (List.mem_of_getElem? hj)
    have hR := h.rowAt i hi
    obtain ⟨A, c, e⟩ := Kd.R_slice hR
    rw [e] at hR
    obtain ⟨_, k2, k3⟩ := Kd.R_reads' hR
    exact ⟨A, c, e, k2, k3⟩
/-- A row of planes, as the printed contracts want it. -/
def toS (p : Value × Pl) : S26 := ⟨⟨p.2.x0, p.2.y0, p.2.x1, p.2.y1⟩, p.2.D⟩
theorem bds_C {W : World} {gb : Nat} {ps : List (Value × Pl)} (h : Bds W gb ps) (hl : ps.length ≤ 1000) : Kd.C k26 W (some ⟨gb, 0, none⟩) ps.length (ps.map toS) := by
  refine ⟨by simp, by omega, fun _ => ⟨_, rfl, fun j s hj => ?_⟩⟩
  rw [List.getElem?_map] at hj
  obtain ⟨p, hp, rfl⟩ := Option.map_eq_some_iff.mp hj
  obtain ⟨A, c, e, hc, hC⟩ := h.data j p hp
  have hcs := h.cells j p hp
  unfold pcells at hcs
  rw [e] at hcs
  refine ⟨_, rfl, k26_mk W (toS p) hc hC, fun i u hi => ?_⟩
  rw [add_plain, show j * k26.sz = 5 * j from by show j * 5 = _; omega]
  exact hcs i u hi
/-- A built slice of nothing. -/
theorem built_none (w : World) : Kd.R (Kd.int .i64) 3 (w.alloc (.cells #[] 3)) w.heap.size (fun _ => True) (.slice (some ⟨w.heap.size, 0, none⟩) 0 0) [] := by
  have h := World.ownsRow_lit (base := w.heap.size) (e := 3) (size := 1) w #[] 0 (Nat.le_refl _) (by decide) rfl
  exact ⟨fun _ _ => trivial, [], h, Reps.none _ _⟩
end Go.Proofs.Ytcnpekpgghppnaa.Q

namespace Go.Proofs.Ytcnpekpgghppnaa.Q
open Go.RowKit Go.Proofs.YtcnpekpgghppnaaW.PrintWords Go.Proofs.YtcnpekpgghppnaaW.PrintLast Go.Proofs.YtcnpekpgghppnaaW.PrintMore
attribute [local go_sem] max2_int min2_int max_two min_two max_three min_three max_four min_four   -- for this text's walks alone
set_option linter.unusedVariables false
set_option linter.unusedSimpArgs false

/-! ### color_known: function 72 -/
def color_known.f (a0 : Int) : Option (Bool) := if a0 = 0 then (some true) else (if a0 = 1 then (some true) else (some (a0 == 2)))
set_option maxHeartbeats 8000000 in
set_option maxRecDepth 100000 in
theorem color_known.calls (a0 : Int) (r : Bool) (w : World) (h : color_known.f a0 = some r) :
    Calls Try.prog 72 #[.int .i64 a0] w fun e w' => e = .returned (.bool r) ∧ Drawn0 w w' := by
  have H : (if a0 = 0 then (some true) else (if a0 = 1 then (some true) else (some (a0 == 2)))) = some r := h
  clear h
  by_cases c2 : a0 = 0
  · rw [if_pos c2] at H
    have c2b0 : (a0 == 0) = true := beq_iff_eq.mpr c2
    have c2b1 : (a0 != 0) = false := bne_eq_false_iff_eq.mpr c2
    clear c2
    obtain rfl := Option.some.inj H
    go_enter Try.func72, Try.ntmps72
    go_wp2
    go_ret
    exact ⟨by first | rfl | (simp; done) | (simp [*]; done), by repeat (first | exact Drawn0.refl _ | apply Drawn0.step)⟩
  · rw [if_neg c2] at H
    have c2b0 : (a0 == 0) = false := beq_eq_false_iff_ne.mpr c2
    have c2b1 : (a0 != 0) = true := bne_iff_ne.mpr c2
    by_cases c3 : a0 = 1
    · rw [if_pos c3] at H
      have c3b0 : (a0 == 1) = true := beq_iff_eq.mpr c3
      have c3b1 : (a0 != 1) = false := bne_eq_false_iff_eq.mpr c3
      clear c3
      obtain rfl := Option.some.inj H
      go_enter Try.func72, Try.ntmps72
      go_wp2
      go_ret
      exact ⟨by first | rfl | (simp; done) | (simp [*]; done), by repeat (first | exact Drawn0.refl _ | apply Drawn0.step)⟩
    · rw [if_neg c3] at H
      have c3b0 : (a0 == 1) = false := beq_eq_false_iff_ne.mpr c3
      have c3b1 : (a0 != 1) = true := bne_iff_ne.mpr c3
      obtain rfl := Option.some.inj H
      go_enter Try.func72, Try.ntmps72
      go_wp2
      go_ret
      exact ⟨by first | rfl | (simp; done) | (simp [*]; done), by repeat (first | exact Drawn0.refl _ | apply Drawn0.step)⟩

end Go.Proofs.Ytcnpekpgghppnaa.Q

/- The plain law of a line: what is transformed forward is restored, and how large the halves' numbers are. -/
namespace Go.Proofs.Ytcnpekpgghppnaa.Q
open Go.RowKit Go.Proofs.YtcnpekpgghppnaaW.PrintWords Go.Proofs.YtcnpekpgghppnaaW.PrintLast Go.Proofs.YtcnpekpgghppnaaW.PrintMore
set_option linter.unusedVariables false
set_option linter.unusedSimpArgs false

theorem rd_nat (xs : List Int) (i : Nat) : rd xs (i : Int) = xs.getD i 0 := by simp [rd]
theorem rd_mem {xs : List Int} {i : Nat} (h : i < xs.length) : rd xs (i : Int) ∈ xs := by
  rw [rd_nat, List.getD_eq_getElem?_getD, List.getElem?_eq_getElem h]
  exact List.getElem_mem h
theorem ext_rd {xs ys : List Int} (hl : xs.length = ys.length) (h : ∀ j : Nat, j < xs.length → rd xs (j : Int) = rd ys (j : Int)) : xs = ys := by
  apply List.ext_getElem hl
  intro j h1 h2
  have := h j h1
  rw [rd_nat, rd_nat, List.getD_eq_getElem?_getD, List.getD_eq_getElem?_getD, List.getElem?_eq_getElem h1, List.getElem?_eq_getElem h2] at this
  exact this
theorem rd_set_same {xs : List Int} {i : Nat} (h : i < xs.length) (v : Int) : rd (xs.set i v) (i : Int) = v := by
  rw [rd_nat, List.getD_eq_getElem?_getD, List.getElem?_set_self h]
  rfl
theorem rd_set_ne {xs : List Int} {i j : Nat} (h : i ≠ j) (v : Int) : rd (xs.set i v) (j : Int) = rd xs (j : Int) := by
  rw [rd_nat, rd_nat, List.getD_eq_getElem?_getD, List.getD_eq_getElem?_getD, List.getElem?_set_ne h]
theorem tmod_par {s i : Int} (h0 : 0 ≤ s) (h1 : s ≤ 4096) (h2 : 0 ≤ i) (h3 : i ≤ 100000) : Int.tmod (wrap64 (s + i)) 2 = (s + i) % 2 := by
  rw [show wrap64 (s + i) = s + i by unfold wrap64; omega, Int.tmod_eq_emod_of_nonneg (by omega)]
/-- All numbers of a list lie within a bound. -/
def Bd (b : Int) (xs : List Int) : Prop := ∀ v ∈ xs, -b ≤ v ∧ v ≤ b
theorem Bd.at_ {b : Int} {xs : List Int} (h : Bd b xs) (hb : 0 ≤ b) (i : Nat) : -b ≤ rd xs (i : Int) ∧ rd xs (i : Int) ≤ b := by
  by_cases hi : i < xs.length
  · exact h _ (rd_mem hi)
  · rw [rd_nat, List.getD_eq_getElem?_getD, List.getElem?_eq_none (by omega)]
    show -b ≤ 0 ∧ 0 ≤ b
    omega
theorem Bd.of_rd {b : Int} {xs : List Int} (h : ∀ i : Nat, i < xs.length → -b ≤ rd xs (i : Int) ∧ rd xs (i : Int) ≤ b) : Bd b xs := by
  intro v hv
  obtain ⟨i, hi, rfl⟩ := List.getElem_of_mem hv
  have := h i hi
  rwa [rd_nat, List.getD_eq_getElem?_getD, List.getElem?_eq_getElem hi] at this

/-! ### the mirror -/
theorem mir_in {k : Nat} {last i : Int} (h0 : 0 ≤ i) (h1 : i ≤ last) : mirF (k + 1) last i = some i := by
  rw [mirF.eq_2, if_neg (by omega), if_neg (by omega)]
theorem mir_neg {k : Nat} {last i : Int} (h0 : i < 0) (h1 : -100000000 ≤ i) : mirF (k + 1) last i = mirF k last (-i) := by
  rw [mirF.eq_2, if_pos h0, show wrap64 (-i) = -i by unfold wrap64; omega]
theorem mir_pos {k : Nat} {last i : Int} (h0 : 0 ≤ i) (h1 : last < i) (h2 : 0 ≤ last) (h3 : i ≤ 100000000) : mirF (k + 1) last i = mirF k last (2 * last - i) := by
  rw [mirF.eq_2, if_neg (by omega), if_pos (by omega), show wrap64 (wrap64 (2 * last) - i) = 2 * last - i by unfold wrap64; omega]
theorem mirF_ok (k : Nat) (last i : Int) (hk : 6 ≤ k) (h1 : 1 ≤ last) (h2 : last ≤ 1000000) (h3 : -3 ≤ i) (h4 : i ≤ last + 3) : ∃ m, mirF k last i = some m ∧ 0 ≤ m ∧ m ≤ last ∧ (m - i) % 2 = 0 := by
  obtain ⟨k, rfl⟩ : ∃ q, k = q + 1 + 1 + 1 + 1 + 1 + 1 := ⟨k - 6, by omega⟩
  by_cases c0 : i < 0
  · rw [mir_neg c0 (by omega)]
    by_cases c1 : -i ≤ last
    · exact ⟨_, mir_in (by omega) c1, by omega, c1, by omega⟩
    · rw [mir_pos (by omega) (by omega) (by omega) (by omega)]
      by_cases c2 : 2 * last - -i < 0
      · rw [mir_neg c2 (by omega)]
        exact ⟨_, mir_in (by omega) (by omega), by omega, by omega, by omega⟩
      · exact ⟨_, mir_in (by omega) (by omega), by omega, by omega, by omega⟩
  · by_cases c1 : i ≤ last
    · exact ⟨_, mir_in (by omega) c1, by omega, c1, by omega⟩
    · rw [mir_pos (by omega) (by omega) (by omega) (by omega)]
      by_cases c2 : 2 * last - i < 0
      · rw [mir_neg c2 (by omega)]
        by_cases c3 : -(2 * last - i) ≤ last
        · exact ⟨_, mir_in (by omega) c3, by omega, c3, by omega⟩
        · rw [mir_pos (by omega) (by omega) (by omega) (by omega)]
          exact ⟨_, mir_in (by omega) (by omega), by omega, by omega, by omega⟩
      · exact ⟨_, mir_in (by omega) (by omega), by omega, by omega, by omega⟩
theorem atF_ok (k n : Nat) (i : Int) (hk : 6 ≤ k) (h1 : 2 ≤ n) (h2 : n ≤ 1000000) (h3 : -3 ≤ i) (h4 : i ≤ (n : Int) + 2) : ∃ m : Nat, m < n ∧ ((m : Int) - i) % 2 = 0 ∧ ∀ xs : List Int, xs.length = n → atF k xs i = some (rd xs (m : Int)) := by
  obtain ⟨m, hm, a, b, c⟩ := mirF_ok k ((n : Int) - 1) i hk (by omega) (by omega) h3 (by omega)
  obtain ⟨q, rfl⟩ := Int.eq_ofNat_of_zero_le a
  refine ⟨q, by omega, c, fun xs hx => ?_⟩
  unfold atF
  rw [hx, show wrap64 ((n : Int) - 1) = (n : Int) - 1 by unfold wrap64; omega, hm]
  simp only [Option.bind_some]
  rw [if_pos (by omega)]

/-! ### what is predicted, what is updated -/
/-- A function of a line that depends on the numbers of the other parity alone. -/
structure Oth (fq : List Int → Int → Option Int) (start par : Int) (n : Nat) : Prop where
  ex : ∀ xs : List Int, xs.length = n → ∀ i : Nat, i < n → (start + i) % 2 = par → ∃ v, fq xs i = some v
  loc : ∀ xs ys : List Int, xs.length = n → ys.length = n → (∀ j : Nat, j < n → (start + j) % 2 ≠ par → rd xs (j : Int) = rd ys (j : Int)) → ∀ i : Nat, i < n → (start + i) % 2 = par → fq xs i = fq ys i
theorem w1 {i : Nat} {c : Int} (h : i ≤ 1000000) (h0 : -3 ≤ c) (h1 : c ≤ 3) : wrap64 ((i : Int) + c) = (i : Int) + c := by unfold wrap64; omega
theorem w2 {i : Nat} {c : Int} (h : i ≤ 1000000) (h0 : -3 ≤ c) (h1 : c ≤ 3) : wrap64 ((i : Int) - c) = (i : Int) - c := by unfold wrap64; omega
/-- The mirrored places near a place. -/
theorem near (k n i : Nat) (c : Int) (hk : 6 ≤ k) (h1 : 2 ≤ n) (h2 : n ≤ 1000000) (hi : i < n) (hc : c = -3 ∨ c = -1 ∨ c = 1 ∨ c = 3) : ∃ m : Nat, m < n ∧ ((m : Int) - i) % 2 = 1 ∧ ∀ xs : List Int, xs.length = n → atF k xs ((i : Int) + c) = some (rd xs (m : Int)) := by
  obtain ⟨m, a, b, h⟩ := atF_ok k n ((i : Int) + c) hk h1 h2 (by omega) (by omega)
  exact ⟨m, a, by omega, h⟩
theorem pr_ok (kk : Int) (k n : Nat) (start par : Int) (hkk : 1 ≤ kk ∧ kk ≤ 3) (hk : 6 ≤ k) (h1 : 2 ≤ n) (h2 : n ≤ 1000000) : ∀ i : Nat, i < n → ∃ a b c d : Nat, (a < n ∧ ((a : Int) - i) % 2 = 1) ∧ (b < n ∧ ((b : Int) - i) % 2 = 1) ∧ (c < n ∧ ((c : Int) - i) % 2 = 1) ∧ (d < n ∧ ((d : Int) - i) % 2 = 1) ∧ ∀ xs : List Int, xs.length = n → prF kk k xs (i : Int) = some (if kk = 1 then rd xs (a : Int) else if kk = 2 then wrap64 (rd xs (a : Int) + rd xs (b : Int)) / 2 else wrap64 (wrap64 (wrap64 (9 * wrap64 (rd xs (a : Int) + rd xs (b : Int))) - wrap64 (rd xs (c : Int) + rd xs (d : Int))) + 8) / 16) := by
  intro i hi
  obtain ⟨a, a1, a2, a3⟩ := near k n i (-1) hk h1 h2 hi (by omega)
  obtain ⟨b, b1, b2, b3⟩ := near k n i 1 hk h1 h2 hi (by omega)
  obtain ⟨c, c1, c2, c3⟩ := near k n i (-3) hk h1 h2 hi (by omega)
  obtain ⟨d, d1, d2, d3⟩ := near k n i 3 hk h1 h2 hi (by omega)
  refine ⟨a, b, c, d, ⟨a1, a2⟩, ⟨b1, b2⟩, ⟨c1, c2⟩, ⟨d1, d2⟩, fun xs hx => ?_⟩
  have A := a3 xs hx
  have B := b3 xs hx
  have C := c3 xs hx
  have D := d3 xs hx
  rw [show (i : Int) + -1 = (i : Int) - 1 by omega] at A
  rw [show (i : Int) + -3 = (i : Int) - 3 by omega] at C
  unfold prF
  by_cases e1 : kk = 1
  · rw [if_pos e1, if_pos e1]
    unfold pr1F
    rw [w2 (by omega) (by omega) (by omega), A]
  · rw [if_neg e1, if_neg e1]
    by_cases e2 : kk = 2
    · rw [if_pos e2, if_pos e2]
      unfold pr2F
      rw [w2 (by omega) (by omega) (by omega), w1 (by omega) (by omega) (by omega), A, B]
      rfl
    · rw [if_neg e2, if_neg e2]
      unfold pr3F
      rw [w2 (by omega) (by omega) (by omega), w1 (by omega) (by omega) (by omega), w2 (by omega) (by omega) (by omega), w1 (by omega) (by omega) (by omega), A, B, C, D]
      rfl
theorem up_ok (kk : Int) (k n : Nat) (start par : Int) (hkk : 1 ≤ kk ∧ kk ≤ 3) (hk : 6 ≤ k) (h1 : 2 ≤ n) (h2 : n ≤ 1000000) : ∀ i : Nat, i < n → ∃ a b : Nat, (a < n ∧ ((a : Int) - i) % 2 = 1) ∧ (b < n ∧ ((b : Int) - i) % 2 = 1) ∧ ∀ xs : List Int, xs.length = n → upF kk k xs (i : Int) = some (if kk = 1 then rd xs (b : Int) / 2 else wrap64 (wrap64 (rd xs (a : Int) + rd xs (b : Int)) + 2) / 4) := by
  intro i hi
  obtain ⟨a, a1, a2, a3⟩ := near k n i (-1) hk h1 h2 hi (by omega)
  obtain ⟨b, b1, b2, b3⟩ := near k n i 1 hk h1 h2 hi (by omega)
  refine ⟨a, b, ⟨a1, a2⟩, ⟨b1, b2⟩, fun xs hx => ?_⟩
  have A := a3 xs hx
  have B := b3 xs hx
  rw [show (i : Int) + -1 = (i : Int) - 1 by omega] at A
  unfold upF
  by_cases e1 : kk = 1
  · rw [if_pos e1, if_pos e1]
    unfold up1F
    rw [w1 (by omega) (by omega) (by omega), B]
    rfl
  · rw [if_neg e1, if_neg e1]
    unfold up2F
    rw [w2 (by omega) (by omega) (by omega), w1 (by omega) (by omega) (by omega), A, B]
    rfl
theorem pr_oth (kk : Int) (k n : Nat) (start par : Int) (hkk : 1 ≤ kk ∧ kk ≤ 3) (hk : 6 ≤ k) (h1 : 2 ≤ n) (h2 : n ≤ 1000000) : Oth (prF kk k) start par n :=
  ⟨fun xs hx i hi _ => by
    obtain ⟨a, b, c, d, _, _, _, _, h⟩ := pr_ok kk k n start par hkk hk h1 h2 i hi
    exact ⟨_, h xs hx⟩, fun xs ys hx hy hj i hi hp => by
    obtain ⟨a, b, c, d, ha, hb, hc, hd, h⟩ := pr_ok kk k n start par hkk hk h1 h2 i hi
    rw [h xs hx, h ys hy, hj a ha.1 (by omega), hj b hb.1 (by omega), hj c hc.1 (by omega), hj d hd.1 (by omega)]⟩
theorem up_oth (kk : Int) (k n : Nat) (start par : Int) (hkk : 1 ≤ kk ∧ kk ≤ 3) (hk : 6 ≤ k) (h1 : 2 ≤ n) (h2 : n ≤ 1000000) : Oth (upF kk k) start par n :=
  ⟨fun xs hx i hi _ => by
    obtain ⟨a, b, _, _, h⟩ := up_ok kk k n start par hkk hk h1 h2 i hi
    exact ⟨_, h xs hx⟩, fun xs ys hx hy hj i hi hp => by
    obtain ⟨a, b, ha, hb, h⟩ := up_ok kk k n start par hkk hk h1 h2 i hi
    rw [h xs hx, h ys hy, hj a ha.1 (by omega), hj b hb.1 (by omega)]⟩
theorem pr_bound {kk : Int} {k n : Nat} {C v : Int} (hkk : 1 ≤ kk ∧ kk ≤ 3) (hk : 6 ≤ k) (h1 : 2 ≤ n) (h2 : n ≤ 1000000) (hC : 0 ≤ C) (hC1 : C ≤ 1152921504606846976 / 16) {xs : List Int} (hx : xs.length = n) (hb : Bd C xs) {i : Nat} (hi : i < n) (h : prF kk k xs (i : Int) = some v) : -(5 * C + 2) ≤ 4 * v ∧ 4 * v ≤ 5 * C + 2 := by
  obtain ⟨a, b, c, d, _, _, _, _, h'⟩ := pr_ok kk k n 0 0 hkk hk h1 h2 i hi
  rw [h' xs hx] at h
  have A := hb.at_ hC a
  have B := hb.at_ hC b
  have Cc := hb.at_ hC c
  have D := hb.at_ hC d
  generalize rd xs (a : Int) = a at *
  generalize rd xs (b : Int) = b at *
  generalize rd xs (c : Int) = c at *
  generalize rd xs (d : Int) = d at *
  obtain rfl := Option.some.inj h
  by_cases e1 : kk = 1
  · rw [if_pos e1]; omega
  · rw [if_neg e1]
    by_cases e2 : kk = 2
    · rw [if_pos e2, show wrap64 (a + b) = a + b by unfold wrap64; omega]; omega
    · rw [if_neg e2, show wrap64 (wrap64 (wrap64 (9 * wrap64 (a + b)) - wrap64 (c + d)) + 8) = 9 * (a + b) - (c + d) + 8 by unfold wrap64; omega]; omega
theorem up_bound {kk : Int} {k n : Nat} {C v : Int} {start : Int} (hkk : 1 ≤ kk ∧ kk ≤ 3) (hk : 6 ≤ k) (h1 : 2 ≤ n) (h2 : n ≤ 1000000) (hC : 0 ≤ C) (hC1 : C ≤ 1152921504606846976 / 4) {xs : List Int} (hx : xs.length = n) (hb : ∀ j : Nat, j < n → (start + j) % 2 ≠ 0 → -C ≤ rd xs (j : Int) ∧ rd xs (j : Int) ≤ C) {i : Nat} (hi : i < n) (hp : (start + i) % 2 = 0) (h : upF kk k xs (i : Int) = some v) : -(2 * C + 2) ≤ 4 * v ∧ 4 * v ≤ 2 * C + 2 := by
  obtain ⟨a, b, ha, hb', h'⟩ := up_ok kk k n 0 0 hkk hk h1 h2 i hi
  rw [h' xs hx] at h
  have A := hb a ha.1 (by omega)
  have B := hb b hb'.1 (by omega)
  generalize rd xs (a : Int) = a at *
  generalize rd xs (b : Int) = b at *
  obtain rfl := Option.some.inj h
  by_cases e1 : kk = 1
  · rw [if_pos e1]; omega
  · rw [if_neg e1, show wrap64 (wrap64 (a + b) + 2) = a + b + 2 by unfold wrap64; omega]; omega

/-! ### a step -/
theorem stepF_spec {fq : List Int → Int → Option Int} {start par sg : Int} {n : Nat} (hs0 : 0 ≤ start) (hs1 : start ≤ 4096) (hn : n ≤ 4096) (ho : Oth fq start par n) :
    ∀ (k i : Nat) (xs : List Int), xs.length = n → i ≤ n → n < k + i → ∃ ys, stepF fq start par sg k (i : Int) xs = some ys ∧ ys.length = n ∧ (∀ j : Nat, j < i → rd ys (j : Int) = rd xs (j : Int)) ∧ ∀ j : Nat, i ≤ j → j < n → ((start + j) % 2 ≠ par → rd ys (j : Int) = rd xs (j : Int)) ∧ ((start + j) % 2 = par → ∃ v, fq xs (j : Int) = some v ∧ rd ys (j : Int) = wrap64 (rd xs (j : Int) + wrap64 (sg * v)))
  | 0, i, xs, hx, hi, hk => by omega
  | k + 1, i, xs, hx, hi, hk => by
    rw [stepF.eq_2]
    by_cases c : i < n
    · rw [if_pos (by omega), if_pos (by omega), tmod_par hs0 hs1 (by omega) (by omega)]
      have hw : wrap64 ((i : Int) + 1) = ((i + 1 : Nat) : Int) := by unfold wrap64; omega
      by_cases p : (start + i) % 2 = par
      · rw [if_pos p]
        obtain ⟨v, hv⟩ := ho.ex xs hx i c p
        rw [hv]
        simp only [Option.bind_some]
        rw [hw, Int.toNat_natCast]
        obtain ⟨ys, h1, h2, h3, h4⟩ := stepF_spec hs0 hs1 hn ho k (i + 1) (xs.set i (wrap64 (rd xs i + wrap64 (sg * v)))) (by rw [List.length_set, hx]) (by omega) (by omega)
        refine ⟨ys, h1, h2, fun j hj => by rw [h3 j (by omega), rd_set_ne (by omega)], fun j hj hjn => ?_⟩
        by_cases e : j = i
        · subst e
          rw [h3 j (by omega), rd_set_same (by omega)]
          exact ⟨fun h => absurd p h, fun _ => ⟨v, hv, rfl⟩⟩
        · have := h4 j (by omega) hjn
          rw [rd_set_ne (by omega)] at this
          refine ⟨this.1, fun hp => ?_⟩
          obtain ⟨u, hu, hr⟩ := this.2 hp
          refine ⟨u, ?_, hr⟩
          rw [← hu]
          refine ho.loc _ _ hx (by rw [List.length_set, hx]) (fun q _ hq => ?_) j hjn hp
          rw [rd_set_ne (by intro e; subst e; exact hq p)]
      · rw [if_neg p, hw]
        obtain ⟨ys, h1, h2, h3, h4⟩ := stepF_spec hs0 hs1 hn ho k (i + 1) xs hx (by omega) (by omega)
        refine ⟨ys, h1, h2, fun j hj => h3 j (by omega), fun j hj hjn => ?_⟩
        by_cases e : j = i
        · subst e
          exact ⟨fun _ => h3 j (by omega), fun h => absurd h p⟩
        · exact h4 j (by omega) hjn
    · rw [if_neg (by omega)]
      exact ⟨xs, rfl, hx, fun _ _ => rfl, fun j hj hjn => by omega⟩
theorem step_back {fq : List Int → Int → Option Int} {start par sg : Int} {n k : Nat} (hs0 : 0 ≤ start) (hs1 : start ≤ 4096) (hn : n ≤ 4096) (ho : Oth fq start par n) (hk : n < k) (hsg : sg = 1 ∨ sg = -1) {xs ys : List Int} (hx : xs.length = n) (hb : Bd 9223372036854775807 xs) (h : stepF fq start par sg k 0 xs = some ys) : stepF fq start par (-sg) k 0 ys = some xs := by
  obtain ⟨ys', h1, h2, _, h4⟩ := stepF_spec (sg := sg) hs0 hs1 hn ho k 0 xs hx (by omega) (by omega)
  obtain rfl : ys' = ys := by
    have := h1.symm.trans h
    exact Option.some.inj this
  obtain ⟨zs, g1, g2, _, g4⟩ := stepF_spec (sg := -sg) hs0 hs1 hn ho k 0 ys' h2 (by omega) (by omega)
  rw [show (0 : Int) = ((0 : Nat) : Int) from rfl, g1]
  congr 1
  refine ext_rd (by rw [g2, hx]) fun j hj => ?_
  have a := h4 j (by omega) (by omega)
  have b := g4 j (by omega) (by omega)
  by_cases p : (start + j) % 2 = par
  · obtain ⟨v, hv, e1⟩ := a.2 p
    obtain ⟨u, hu, e2⟩ := b.2 p
    have : fq xs j = fq ys' j := ho.loc _ _ hx h2 (fun q hq hp => ((h4 q (by omega) hq).1 hp).symm) j (by omega) p
    rw [← this, hv] at hu
    obtain rfl := Option.some.inj hu
    rw [e2, e1]
    have := hb.at_ (by decide) j
    generalize rd xs (j : Int) = x at *
    rcases hsg with rfl | rfl <;> · unfold wrap64; omega
  · rw [b.1 p, a.1 p]

/-! ### apart and together -/
theorem splitF_spec {start : Int} {n : Nat} {z : List Int} (hs0 : 0 ≤ start) (hs1 : start ≤ 4096) (hn : n ≤ 4096) (hz : z.length = n) :
    ∀ (k i : Nat) (lo hi : List Int), i ≤ n → n < k + i → lo.length + hi.length ≤ i → ∃ lo1 hi1, splitF start z k (i : Int) lo hi = some (lo ++ lo1, hi ++ hi1) ∧ lo1.length + hi1.length = n - i ∧ (lo1.length : Int) = (start + n + 1) / 2 - (start + i + 1) / 2 ∧ (∀ v ∈ lo1, v ∈ z) ∧ (∀ v ∈ hi1, v ∈ z) ∧ ∀ (L H : List Int) (a b : Nat) (x : List Int), L.drop a = lo1 → H.drop b = hi1 → x.length = n → a + b ≤ i → joinF start L H (n : Int) k (i : Int) (a : Int) (b : Int) x = some (x.take i ++ z.drop i)
  | 0, i, lo, hi, h1, h2, h3 => by omega
  | k + 1, i, lo, hi, h1, h2, h3 => by
    rw [splitF.eq_2]
    by_cases c : i < n
    · rw [if_pos (by omega), if_pos (by omega), if_pos (by omega), tmod_par hs0 hs1 (by omega) (by omega)]
      have hw : wrap64 ((i : Int) + 1) = ((i + 1 : Nat) : Int) := by unfold wrap64; omega
      have hzd : z.drop i = rd z (i : Int) :: z.drop (i + 1) := by
        rw [List.drop_eq_getElem_cons (by omega), rd_nat, List.getD_eq_getElem?_getD, List.getElem?_eq_getElem (by omega)]
        rfl
      have hset : ∀ (x : List Int), x.length = n → (x.set i (rd z (i : Int))).take (i + 1) ++ z.drop (i + 1) = x.take i ++ z.drop i := by
        intro x hx
        rw [hzd, List.take_succ_eq_append_getElem (by simp; omega), List.take_set_of_le (Nat.le_refl _)]
        simp
      have hat : ∀ (L : List Int) (a : Nat) (l : List Int), L.drop a = rd z (i : Int) :: l → a < L.length ∧ rd L (a : Int) = rd z (i : Int) ∧ L.drop (a + 1) = l := by
        intro L a l h
        have ha : a < L.length := by
          have := congrArg List.length h
          simp at this
          omega
        rw [List.drop_eq_getElem_cons ha] at h
        have h' := List.cons.inj h
        refine ⟨ha, ?_, h'.2⟩
        rw [rd_nat, List.getD_eq_getElem?_getD, List.getElem?_eq_getElem ha]
        exact h'.1
      by_cases p : (start + i) % 2 = 0
      · rw [if_pos p, hw]
        obtain ⟨lo1, hi1, e1, e2, e3, e4, e5, e6⟩ := splitF_spec hs0 hs1 hn hz k (i + 1) (lo ++ [rd z i]) hi (by omega) (by omega) (by simp; omega)
        refine ⟨rd z i :: lo1, hi1, by rw [e1]; simp, by simp; omega, by simp; omega, ?_, e5, ?_⟩
        · intro v hv
          rcases List.mem_cons.mp hv with rfl | hv
          · exact rd_mem (by omega)
          · exact e4 v hv
        · intro L H a b x hL hH hx hab
          obtain ⟨q1, q2, q3⟩ := hat L a lo1 hL
          rw [joinF.eq_2, if_pos (by omega), if_pos (by omega), tmod_par hs0 hs1 (by omega) (by omega), if_pos p, if_pos (by omega), hw, show wrap64 ((a : Int) + 1) = ((a + 1 : Nat) : Int) by unfold wrap64; omega, q2, Int.toNat_natCast,
            e6 L H (a + 1) b _ q3 hH (by rw [List.length_set, hx]) (by omega), hset x hx]
      · rw [if_neg p, hw]
        obtain ⟨lo1, hi1, e1, e2, e3, e4, e5, e6⟩ := splitF_spec hs0 hs1 hn hz k (i + 1) lo (hi ++ [rd z i]) (by omega) (by omega) (by simp; omega)
        refine ⟨lo1, rd z i :: hi1, by rw [e1]; simp, by simp; omega, by omega, e4, ?_, ?_⟩
        · intro v hv
          rcases List.mem_cons.mp hv with rfl | hv
          · exact rd_mem (by omega)
          · exact e5 v hv
        · intro L H a b x hL hH hx hab
          obtain ⟨q1, q2, q3⟩ := hat H b hi1 hH
          rw [joinF.eq_2, if_pos (by omega), if_pos (by omega), tmod_par hs0 hs1 (by omega) (by omega), if_neg p, if_pos (by omega), hw, show wrap64 ((b : Int) + 1) = ((b + 1 : Nat) : Int) by unfold wrap64; omega, q2, Int.toNat_natCast,
            e6 L H a (b + 1) _ hL q3 (by rw [List.length_set, hx]) (by omega), hset x hx]
    · rw [if_neg (by omega)]
      have : i = n := by omega
      subst this
      refine ⟨[], [], by simp, by simp, by simp, by simp, by simp, ?_⟩
      intro L H a b x hL hH hx hab
      rw [joinF.eq_2, if_neg (by omega), ← hx, List.take_length, hx, ← hz, List.drop_length, List.append_nil]

/-! ### a line -/
theorem split_join {start : Int} {n k : Nat} {z : List Int} (hs0 : 0 ≤ start) (hs1 : start ≤ 4096) (hn : n ≤ 4096) (hz : z.length = n) (hk : n < k) : ∃ lo hi, splitF start z k 0 [] [] = some (lo, hi) ∧ lo.length + hi.length = n ∧ (lo.length : Int) = (start + n + 1) / 2 - (start + 1) / 2 ∧ (∀ v ∈ lo, v ∈ z) ∧ (∀ v ∈ hi, v ∈ z) ∧ joinF start lo hi ((lo.length + hi.length : Nat) : Int) k 0 0 0 (List.replicate (lo.length + hi.length) 0) = some z := by
  obtain ⟨lo, hi, e1, e2, e3, e4, e5, e6⟩ := splitF_spec hs0 hs1 hn hz k 0 [] [] (by omega) (by omega) (by simp)
  refine ⟨lo, hi, by simpa using e1, by omega, by simpa using e3, e4, e5, ?_⟩
  rw [e2]
  have := e6 lo hi 0 0 (List.replicate n 0) rfl rfl (by simp) (by omega)
  simpa using this
theorem fwd_ok (kk : Int) (start : Int) (k : Nat) (xs : List Int) (b : Int) (hkk : 1 ≤ kk ∧ kk ≤ 3) (hs0 : 0 ≤ start) (hs1 : start ≤ 4096) (hn : xs.length ≤ 4096) (hk : 4096 < k) (hb1 : 1 ≤ b) (hb2 : b ≤ 17592186044416) (hb : Bd (2 * b) xs) :
    ∃ lo hi, fwdF kk k start xs = some (lo, hi) ∧ lo.length + hi.length = xs.length ∧ (lo.length : Int) = (start + xs.length + 1) / 2 - (start + 1) / 2 ∧ Bd (5 * b) lo ∧ Bd (5 * b) hi ∧ invF kk k start lo hi = some xs := by
  unfold fwdF invF
  obtain ⟨n, hxn⟩ : ∃ n, xs.length = n := ⟨_, rfl⟩
  by_cases c : 1 < xs.length
  · rw [if_pos (by omega)]
    rw [hxn] at c hn
    have op := pr_oth kk k n start 1 hkk (by omega) (by omega) (by omega)
    have ou := up_oth kk k n start 0 hkk (by omega) (by omega) (by omega)
    obtain ⟨y, y1, y2, _, y4⟩ := stepF_spec (sg := -1) hs0 hs1 hn op k 0 xs hxn (by omega) (by omega)
    obtain ⟨z, z1, z2, _, z4⟩ := stepF_spec (sg := 1) hs0 hs1 hn ou k 0 y y2 (by omega) (by omega)
    rw [show ((0 : Nat) : Int) = 0 from rfl] at y1 z1
    obtain ⟨lo, hi, s1, s2, s3, s4, s5, s6⟩ := split_join hs0 hs1 hn z2 (k := k) (by omega)
    have hyb : ∀ j : Nat, j < n → (start + j) % 2 ≠ 0 → 4 * rd y (j : Int) ≤ 18 * b + 2 ∧ -(18 * b + 2) ≤ 4 * rd y (j : Int) := by
      intro j hj hp
      obtain ⟨v, hv, e⟩ := (y4 j (by omega) hj).2 (by omega)
      have hv' := pr_bound hkk (by omega) (by omega) (by omega) (by omega) (by omega) hxn hb hj hv
      have hx := hb.at_ (by omega) j
      rw [e, show wrap64 (rd xs (j : Int) + wrap64 (-1 * v)) = rd xs (j : Int) - v by unfold wrap64; omega]
      omega
    have hzb : Bd (5 * b) z := by
      refine Bd.of_rd fun j hj => ?_
      rw [z2] at hj
      by_cases p : (start + j) % 2 = 0
      · obtain ⟨v, hv, e⟩ := (z4 j (by omega) hj).2 p
        have hv' := up_bound (C := (18 * b + 2) / 4) hkk (by omega) (by omega) (by omega) (by omega) (by omega) y2 (fun q hq hp => by have := hyb q hq hp; omega) hj p hv
        have hx := hb.at_ (by omega) j
        have hy := (y4 j (by omega) hj).1 (by omega)
        rw [e, hy, show wrap64 (rd xs (j : Int) + wrap64 (1 * v)) = rd xs (j : Int) + v by unfold wrap64; omega]
        omega
      · rw [(z4 j (by omega) hj).1 p]
        have := hyb j hj p
        omega
    have hyB : Bd 9223372036854775807 y := by
      refine Bd.of_rd fun j hj => ?_
      rw [y2] at hj
      by_cases p : (start + j) % 2 = 0
      · rw [(y4 j (by omega) hj).1 (by omega)]
        have hx := hb.at_ (by omega) j
        omega
      · have := hyb j hj p
        omega
    refine ⟨lo, hi, by rw [y1, Option.bind_some, z1, Option.bind_some, s1], by omega, by rw [hxn]; exact s3, fun v hv => hzb v (s4 v hv), fun v hv => hzb v (s5 v hv), ?_⟩
    rw [s6, Option.bind_some, if_pos (by omega), step_back (sg := 1) hs0 hs1 hn ou (by omega) (Or.inl rfl) y2 hyB z1, Option.bind_some]
    exact step_back (sg := -1) hs0 hs1 hn op (by omega) (Or.inr rfl) hxn (fun v hv => by have := hb v hv; omega) y1
  · rw [if_neg (by omega)]
    rw [hxn] at c hn
    obtain ⟨lo, hi, s1, s2, s3, s4, s5, s6⟩ := split_join hs0 hs1 hn hxn (k := k) (by omega)
    refine ⟨lo, hi, s1, by omega, by rw [hxn]; exact s3, fun v hv => by have := hb v (s4 v hv); omega, fun v hv => by have := hb v (s5 v hv); omega, ?_⟩
    rw [s6, Option.bind_some, if_neg (by omega)]
end Go.Proofs.Ytcnpekpgghppnaa.Q

/- The plain law of rows and columns: what the two-dimensional transform takes apart is put together again. -/
namespace Go.Proofs.Ytcnpekpgghppnaa.Q
open Go.RowKit Go.Proofs.YtcnpekpgghppnaaW.PrintWords Go.Proofs.YtcnpekpgghppnaaW.PrintLast Go.Proofs.YtcnpekpgghppnaaW.PrintMore
set_option linter.unusedVariables false
set_option linter.unusedSimpArgs false

/-! ### bounds -/
theorem wid {n : Int} (h0 : -4611686018427387904 ≤ n) (h1 : n ≤ 4611686018427387904) : wrap64 n = n := by unfold wrap64; omega
theorem bounded_l0 {b : Int} {xs : List Int} (hb : Bd b xs) (h0 : 0 ≤ b) (h1 : b ≤ 4611686018427387904) (hn : xs.length ≤ 4611686018427387904) : ∀ (k i : Nat), i ≤ xs.length → xs.length < k + i → lift_bounded.l0 k b xs (xs.length : Int) (i : Int) = some true
  | 0, i, hi, hk => by omega
  | k + 1, i, hi, hk => by
    rw [lift_bounded.l0.eq_2]
    by_cases c : i < xs.length
    · have := hb.at_ h0 i
      rw [if_pos (by omega), if_pos (by omega), if_pos (by omega), if_neg (by rw [wid (by omega) (by omega)]; omega), if_neg (by omega), show wrap64 ((i : Int) + 1) = ((i + 1 : Nat) : Int) from wid (by omega) (by omega)]
      exact bounded_l0 hb h0 h1 hn k (i + 1) (by omega) (by omega)
    · rw [if_neg (by omega)]
theorem bounded_f {b : Int} {xs : List Int} {k : Nat} (hb : Bd b xs) (h0 : 0 ≤ b) (h1 : b ≤ 4611686018427387904) (hn : xs.length < k) (hk : k ≤ 4611686018427387904) : lift_bounded.f k xs b = some true :=
  bounded_l0 hb h0 h1 (by omega) k 0 (by omega) (by omega)
theorem dexceeds_l0 {b : Int} {xs : List Int} (hb : Bd b xs) (h0 : 0 ≤ b) (h1 : b ≤ 4611686018427387904) (hn : xs.length ≤ 4611686018427387904) : ∀ (k i : Nat), i ≤ xs.length → xs.length < k + i → dwt_exceeds.l0 k b xs (xs.length : Int) (i : Int) = some false
  | 0, i, hi, hk => by omega
  | k + 1, i, hi, hk => by
    rw [dwt_exceeds.l0.eq_2]
    by_cases c : i < xs.length
    · have := hb.at_ h0 i
      rw [if_pos (by omega), if_pos (by omega), if_pos (by omega), if_neg (by omega), if_neg (by rw [wid (by omega) (by omega)]; omega), show wrap64 ((i : Int) + 1) = ((i + 1 : Nat) : Int) from wid (by omega) (by omega)]
      exact dexceeds_l0 hb h0 h1 hn k (i + 1) (by omega) (by omega)
    · rw [if_neg (by omega)]
theorem dexceeds_f {b : Int} {xs : List Int} {k : Nat} (hb : Bd b xs) (h0 : 0 ≤ b) (h1 : b ≤ 4611686018427387904) (hn : xs.length < k) (hk : k ≤ 4611686018427387904) : dwt_exceeds.f k xs b = some false :=
  dexceeds_l0 hb h0 h1 (by omega) k 0 (by omega) (by omega)
theorem pexceeds_l0 {b : Int} {xs : List Int} (hb : Bd b xs) (h0 : 0 ≤ b) (h1 : b ≤ 4611686018427387904) (hn : xs.length ≤ 4611686018427387904) : ∀ (k i : Nat), i ≤ xs.length → xs.length < k + i → pyramid_exceeds.l0 k b xs (xs.length : Int) (i : Int) = some false
  | 0, i, hi, hk => by omega
  | k + 1, i, hi, hk => by
    rw [pyramid_exceeds.l0.eq_2]
    by_cases c : i < xs.length
    · have := hb.at_ h0 i
      rw [if_pos (by omega), if_pos (by omega), if_pos (by omega), if_neg (by omega), if_neg (by rw [wid (by omega) (by omega)]; omega), show wrap64 ((i : Int) + 1) = ((i + 1 : Nat) : Int) from wid (by omega) (by omega)]
      exact pexceeds_l0 hb h0 h1 hn k (i + 1) (by omega) (by omega)
    · rw [if_neg (by omega)]
theorem pexceeds_f {b : Int} {xs : List Int} {k : Nat} (hb : Bd b xs) (h0 : 0 ≤ b) (h1 : b ≤ 4611686018427387904) (hn : xs.length < k) (hk : k ≤ 4611686018427387904) : pyramid_exceeds.f k xs b = some false :=
  pexceeds_l0 hb h0 h1 (by omega) k 0 (by omega) (by omega)
theorem Bd.mono {b c : Int} {xs : List Int} (h : Bd b xs) (hc : b ≤ c) : Bd c xs := fun v hv => by have := h v hv; omega

/-! ### cells -/
/-- The j-th number of the i-th row. -/
def cell (w : Nat) (D : List Int) (i j : Nat) : Int := rd D ((i * w + j : Nat) : Int)
theorem in_rows {h w i j : Nat} (hi : i < h) (hj : j < w) : i * w + j < h * w := by
  have : (i + 1) * w ≤ h * w := Nat.mul_le_mul_right w hi
  rw [Nat.succ_mul] at this
  omega
theorem ext_cell {w h : Nat} {D E : List Int} (hD : D.length = h * w) (hE : E.length = h * w) (H : ∀ i j : Nat, i < h → j < w → cell w D i j = cell w E i j) : D = E := by
  refine ext_rd (by rw [hD, hE]) fun p hp => ?_
  rw [hD] at hp
  have hw : 0 < w := by
    rcases Nat.eq_zero_or_pos w with e | e
    · subst e; simp at hp
    · exact e
  have h1 : p / w < h := Nat.div_lt_of_lt_mul (by rwa [Nat.mul_comm] at hp)
  have h2 := H (p / w) (p % w) h1 (Nat.mod_lt _ hw)
  unfold cell at h2
  rwa [show p / w * w + p % w = p from by rw [Nat.mul_comm]; exact Nat.div_add_mod p w] at h2
theorem place_ne {w i j a b : Nat} (hj : j < w) (hb : b < w) (h : ¬ (i = a ∧ j = b)) : i * w + j ≠ a * w + b := by
  intro e
  apply h
  have h1 : (i * w + j) % w = (a * w + b) % w := by rw [e]
  have h2 : (i * w + j) / w = (a * w + b) / w := by rw [e]
  rw [Nat.add_comm, Nat.add_comm (a * w), Nat.add_mul_mod_self_right, Nat.add_mul_mod_self_right, Nat.mod_eq_of_lt hj, Nat.mod_eq_of_lt hb] at h1
  rw [Nat.add_comm, Nat.add_comm (a * w), Nat.add_mul_div_right _ _ (by omega), Nat.add_mul_div_right _ _ (by omega), Nat.div_eq_of_lt hj, Nat.div_eq_of_lt hb] at h2
  omega
/-- A column. -/
def colOf (w h : Nat) (D : List Int) (j : Nat) : List Int := (List.range h).map fun i => cell w D i j
theorem colOf_len (w h : Nat) (D : List Int) (j : Nat) : (colOf w h D j).length = h := by simp [colOf]
theorem colOf_rd {w h : Nat} {D : List Int} {i j : Nat} (hi : i < h) : rd (colOf w h D j) (i : Int) = cell w D i j := by
  rw [rd_nat, List.getD_eq_getElem?_getD, colOf, List.getElem?_map, List.getElem?_range hi]
  rfl
theorem colOf_bd {b : Int} {w h : Nat} {D : List Int} {j : Nat} (hb : Bd b D) (h0 : 0 ≤ b) : Bd b (colOf w h D j) := Bd.of_rd fun i hi => by
  rw [colOf_len] at hi
  rw [colOf_rd hi]
  exact hb.at_ h0 _
/-- A row. -/
def rowOf (w : Nat) (D : List Int) (i : Nat) : List Int := List.take w (List.drop (i * w) D)
theorem rowOf_len {w h : Nat} {D : List Int} (hD : D.length = h * w) {i : Nat} (hi : i < h) : (rowOf w D i).length = w := by
  have : (i + 1) * w ≤ h * w := Nat.mul_le_mul_right w hi
  rw [Nat.succ_mul] at this
  rw [rowOf, List.length_take, List.length_drop, hD]
  omega
theorem rowOf_bd {b : Int} {w : Nat} {D : List Int} {i : Nat} (hb : Bd b D) : Bd b (rowOf w D i) := fun v hv => hb v (List.mem_of_mem_drop (List.mem_of_mem_take hv))
theorem rowOf_rd {w : Nat} {D : List Int} {i j : Nat} (hj : j < w) : rd (rowOf w D i) (j : Int) = cell w D i j := by
  unfold rowOf cell
  rw [rd_nat, rd_nat, List.getD_eq_getElem?_getD, List.getD_eq_getElem?_getD, List.getElem?_take_of_lt hj, List.getElem?_drop]
theorem colF_spec {w h : Nat} {D : List Int} (hD : D.length = h * w) (hm : h * w ≤ 1048576) (hw : w ≤ 4096) (hh : h ≤ 4096) {j : Nat} (hj : j < w) :
    ∀ (k i : Nat) (acc : List Int), i ≤ h → h < k + i → acc.length = i → colF (w : Int) D k ((i * w + j : Nat) : Int) acc = some (acc ++ ((List.range h).drop i).map fun i => cell w D i j)
  | 0, i, acc, h1, h2, h3 => by omega
  | k + 1, i, acc, h1, h2, h3 => by
    rw [colF.eq_2]
    by_cases c : i < h
    · have hp := in_rows c hj
      have e : (i + 1) * w = i * w + w := Nat.succ_mul i w
      rw [if_pos (by omega), if_pos (by omega), if_pos (by omega), show wrap64 (((i * w + j : Nat) : Int) + (w : Int)) = (((i + 1) * w + j : Nat) : Int) by rw [e, wid (by omega) (by omega)]; omega,
        colF_spec hD hm hw hh hj k (i + 1) _ (by omega) (by omega) (by simp [h3])]
      rw [List.append_assoc]
      congr 2
      rw [List.drop_eq_getElem_cons (l := List.range h) (i := i) (by simpa using c), List.map_cons, List.getElem_range]
      rfl
    · obtain rfl : i = h := by omega
      rw [if_neg (by omega), List.drop_of_length_le (by simp)]
      simp
theorem colF_ok {w h : Nat} {D : List Int} (hD : D.length = h * w) (hm : h * w ≤ 1048576) (hw : w ≤ 4096) (hh : h ≤ 4096) {j k : Nat} (hj : j < w) (hk : h < k) : colF (w : Int) D k (j : Int) [] = some (colOf w h D j) := by
  have := colF_spec hD hm hw hh hj k 0 [] (by omega) (by omega) rfl
  simpa [colOf] using this
theorem setF_spec {w h : Nat} (hm : h * w ≤ 1048576) (hw : w ≤ 4096) (hh : h ≤ 4096) {x0 : Int} (h0 : 0 ≤ x0) (h1 : x0 ≤ 4096) {j : Nat} (hj : j < w) {col : List Int} (hc : col.length = h) :
    ∀ (k i : Nat) (D : List Int), D.length = h * w → i ≤ h → h < k + i → ∃ E, setF (x0 + (j : Int)) x0 (w : Int) col k (i : Int) D = some E ∧ E.length = h * w ∧ ∀ a b : Nat, a < h → b < w → cell w E a b = if b = j ∧ i ≤ a then rd col (a : Int) else cell w D a b
  | 0, i, D, hD, h1, h2 => by omega
  | k + 1, i, D, hD, h1, h2 => by
    rw [setF.eq_2]
    by_cases c : i < h
    · have hp := in_rows c hj
      have hca : colAt (x0 + (j : Int)) x0 (w : Int) (i : Int) = ((i * w + j : Nat) : Int) := by
        unfold colAt
        rw [← Int.natCast_mul]
        generalize i * w = p at hp
        rw [wid (n := (p : Int)) (by omega) (by omega), wid (n := (p : Int) + (x0 + (j : Int))) (by omega) (by omega), wid (n := (p : Int) + (x0 + (j : Int)) - x0) (by omega) (by omega)]
        omega
      rw [if_pos (by omega), if_pos (by omega), hca]
      clear hca
      rw [if_pos (by omega), show wrap64 ((i : Int) + 1) = ((i + 1 : Nat) : Int) from wid (by omega) (by omega), Int.toNat_natCast]
      obtain ⟨E, e1, e2, e3⟩ := setF_spec hm hw hh h0 (by omega) hj hc k (i + 1) (D.set (i * w + j) (rd col (i : Int))) (by rw [List.length_set, hD]) (by omega) (by omega)
      refine ⟨E, e1, e2, fun a b ha hb => ?_⟩
      rw [e3 a b ha hb]
      by_cases q : b = j ∧ i + 1 ≤ a
      · rw [if_pos q, if_pos ⟨q.1, by omega⟩]
      · rw [if_neg q]
        by_cases q2 : b = j ∧ i ≤ a
        · obtain ⟨rfl, q3⟩ := q2
          obtain rfl : a = i := by omega
          rw [if_pos ⟨rfl, Nat.le_refl _⟩]
          unfold cell
          rw [rd_set_same (by omega)]
        · rw [if_neg q2]
          unfold cell
          rw [rd_set_ne (place_ne hj hb (by omega))]
    · obtain rfl : i = h := by omega
      rw [if_neg (by omega)]
      exact ⟨D, rfl, hD, fun a b ha hb => by rw [if_neg (by omega)]⟩
theorem setF_ok {w h : Nat} (hm : h * w ≤ 1048576) (hw : w ≤ 4096) (hh : h ≤ 4096) {x0 : Int} (h0 : 0 ≤ x0) (h1 : x0 ≤ 4096) {j k : Nat} (hj : j < w) {col : List Int} (hc : col.length = h) {D : List Int} (hD : D.length = h * w) (hk : h < k) : ∃ E, setF (x0 + (j : Int)) x0 (w : Int) col k 0 D = some E ∧ E.length = h * w ∧ ∀ a b : Nat, a < h → b < w → cell w E a b = if b = j then rd col (a : Int) else cell w D a b := by
  obtain ⟨E, e1, e2, e3⟩ := setF_spec hm hw hh h0 h1 hj hc k 0 D hD (by omega) (by omega)
  refine ⟨E, e1, e2, fun a b ha hb => ?_⟩
  rw [e3 a b ha hb]
  by_cases q : b = j
  · rw [if_pos ⟨q, by omega⟩, if_pos q]
  · rw [if_neg (by omega), if_neg q]

/-! ### columns -/
theorem colsF_spec {kk : Int} {k w h lh hh : Nat} {x0 x1 y0 : Int} {D : List Int} {lo hi : Nat → List Int} (hx1 : x1 = x0 + (w : Int)) (h0 : 0 ≤ x0) (h1 : x1 ≤ 4096) (hD : D.length = h * w) (hm : h * w ≤ 1048576) (hh4 : h ≤ 4096) (hk : 4096 < k) (hk2 : k ≤ 1000000) (hs : lh + hh = h)
    (hb : Bd 281474976710656 D) (hf : ∀ j, j < w → fwdF kk k y0 (colOf w h D j) = some (lo j, hi j) ∧ (lo j).length = lh ∧ (hi j).length = hh) :
    ∀ (f j : Nat) (E1 E2 : List Int), j ≤ w → w < f + j → E1.length = lh * w → E2.length = hh * w → ∃ F1 F2, colsF kk k x0 x1 y0 D f (x0 + (j : Int)) E1 E2 = some (F1, F2) ∧ F1.length = lh * w ∧ F2.length = hh * w ∧ (∀ a b : Nat, a < lh → b < w → cell w F1 a b = if j ≤ b then rd (lo b) (a : Int) else cell w E1 a b) ∧ (∀ a b : Nat, a < hh → b < w → cell w F2 a b = if j ≤ b then rd (hi b) (a : Int) else cell w E2 a b)
  | 0, j, E1, E2, hj, hfj, _, _ => by omega
  | f + 1, j, E1, E2, hj, hfj, hE1, hE2 => by
    rw [colsF.eq_2]
    by_cases c : j < w
    · have l1 : lh * w ≤ h * w := Nat.mul_le_mul_right w (by omega)
      have l2 : hh * w ≤ h * w := Nat.mul_le_mul_right w (by omega)
      obtain ⟨g1, g2, g3⟩ := hf j c
      rw [if_pos (by omega), show x1 - x0 = (w : Int) by omega, show x0 + (j : Int) - x0 = (j : Int) by omega, colF_ok hD hm (by omega) hh4 c (by omega), Option.bind_some,
        if_pos ⟨bounded_f (colOf_bd hb (by decide)) (by decide) (by decide) (by rw [colOf_len]; omega) (by omega), by rw [colOf_len]; omega⟩, g1, Option.bind_some, wid (n := (w : Int)) (by omega) (by omega)]
      obtain ⟨M1, m1, m2, m3⟩ := setF_ok (h := lh) (k := k) (by omega) (by omega) (by omega) h0 (by omega) c g2 hE1 (by omega)
      obtain ⟨M2, n1, n2, n3⟩ := setF_ok (h := hh) (k := k) (by omega) (by omega) (by omega) h0 (by omega) c g3 hE2 (by omega)
      rw [m1, Option.bind_some, n1, Option.bind_some, show x0 + (j : Int) + 1 = x0 + ((j + 1 : Nat) : Int) by omega]
      obtain ⟨F1, F2, r1, r2, r3, r4, r5⟩ := colsF_spec hx1 h0 h1 hD hm hh4 hk hk2 hs hb hf f (j + 1) M1 M2 (by omega) (by omega) m2 n2
      refine ⟨F1, F2, r1, r2, r3, fun a b ha hb' => ?_, fun a b ha hb' => ?_⟩
      · rw [r4 a b ha hb', m3 a b ha hb']
        by_cases q : j + 1 ≤ b
        · rw [if_pos q, if_pos (by omega)]
        · rw [if_neg q]
          by_cases q2 : b = j
          · rw [if_pos q2, if_pos (by omega), q2]
          · rw [if_neg q2, if_neg (by omega)]
      · rw [r5 a b ha hb', n3 a b ha hb']
        by_cases q : j + 1 ≤ b
        · rw [if_pos q, if_pos (by omega)]
        · rw [if_neg q]
          by_cases q2 : b = j
          · rw [if_pos q2, if_pos (by omega), q2]
          · rw [if_neg q2, if_neg (by omega)]
    · obtain rfl : j = w := by omega
      rw [if_neg (by omega)]
      exact ⟨E1, E2, rfl, hE1, hE2, fun a b ha hb' => by rw [if_neg (by omega)], fun a b ha hb' => by rw [if_neg (by omega)]⟩
theorem mcolsF_spec {kk : Int} {k w h lh hh : Nat} {x0 x1 y0 : Int} {D D2 : List Int} {z : Nat → List Int} (hx1 : x1 = x0 + (w : Int)) (h0 : 0 ≤ x0) (h1 : x1 ≤ 4096) (hD : D.length = lh * w) (hD2 : D2.length = hh * w) (hm : h * w ≤ 1048576) (hh4 : h ≤ 4096) (hk : 4096 < k) (hk2 : k ≤ 1000000) (hs : lh + hh = h)
    (hb : Bd 1125899906842624 D) (hb2 : Bd 1125899906842624 D2) (hce : cntE y0 (h : Int) = (lh : Int)) (hf : ∀ j, j < w → invF kk k y0 (colOf w lh D j) (colOf w hh D2 j) = some (z j) ∧ (z j).length = h) :
    ∀ (f j : Nat) (E : List Int), j ≤ w → w < f + j → E.length = h * w → ∃ F, mcolsF kk k x0 x1 y0 D D2 f (x0 + (j : Int)) E = some F ∧ F.length = h * w ∧ (∀ a b : Nat, a < h → b < w → cell w F a b = if j ≤ b then rd (z b) (a : Int) else cell w E a b)
  | 0, j, E, hj, hfj, _ => by omega
  | f + 1, j, E, hj, hfj, hE => by
    rw [mcolsF.eq_2]
    by_cases c : j < w
    · have l1 : lh * w ≤ h * w := Nat.mul_le_mul_right w (by omega)
      have l2 : hh * w ≤ h * w := Nat.mul_le_mul_right w (by omega)
      obtain ⟨g1, g2⟩ := hf j c
      rw [if_pos (by omega), show x1 - x0 = (w : Int) by omega, show x0 + (j : Int) - x0 = (j : Int) by omega, colF_ok hD (by omega) (by omega) (by omega) c (by omega), Option.bind_some, colF_ok hD2 (by omega) (by omega) (by omega) c (by omega), Option.bind_some,
        if_pos ⟨by rw [colOf_len, colOf_len]; omega, by rw [colOf_len, colOf_len, hs]; exact hce, bounded_f (colOf_bd hb (by decide)) (by decide) (by decide) (by rw [colOf_len]; omega) (by omega), bounded_f (colOf_bd hb2 (by decide)) (by decide) (by decide) (by rw [colOf_len]; omega) (by omega)⟩,
        g1, Option.bind_some, wid (n := (w : Int)) (by omega) (by omega)]
      obtain ⟨M1, m1, m2, m3⟩ := setF_ok (h := h) (k := k) (by omega) (by omega) (by omega) h0 (by omega) c g2 hE (by omega)
      rw [m1, Option.bind_some, show x0 + (j : Int) + 1 = x0 + ((j + 1 : Nat) : Int) by omega]
      obtain ⟨F, r1, r2, r4⟩ := mcolsF_spec hx1 h0 h1 hD hD2 hm hh4 hk hk2 hs hb hb2 hce hf f (j + 1) M1 (by omega) (by omega) m2
      refine ⟨F, r1, r2, fun a b ha hb' => ?_⟩
      rw [r4 a b ha hb', m3 a b ha hb']
      by_cases q : j + 1 ≤ b
      · rw [if_pos q, if_pos (by omega)]
      · rw [if_neg q]
        by_cases q2 : b = j
        · rw [if_pos q2, if_pos (by omega), q2]
        · rw [if_neg q2, if_neg (by omega)]
    · obtain rfl : j = w := by omega
      rw [if_neg (by omega)]
      exact ⟨E, rfl, hE, fun a b ha hb' => by rw [if_neg (by omega)]⟩

/-! ### rows -/
theorem rowOf_app {w : Nat} {P L : List Int} {i : Nat} (h : (i + 1) * w ≤ P.length) : rowOf w (P ++ L) i = rowOf w P i := by
  rw [Nat.succ_mul] at h
  unfold rowOf
  rw [List.drop_append_of_le_length (by omega), List.take_append_of_le_length (by rw [List.length_drop]; omega)]
theorem rowOf_new {w : Nat} {P L : List Int} {i : Nat} (h : P.length = i * w) (hL : L.length = w) : rowOf w (P ++ L) i = L := by
  unfold rowOf
  rw [← h, List.drop_left, ← hL, List.take_length]
theorem rowsF_spec {kk : Int} {k w h lw hw : Nat} {x0 x1 y0 y1 : Int} {D : List Int} {lo hi : Nat → List Int} (hx1 : x1 = x0 + (w : Int)) (hy1 : y1 = y0 + (h : Int)) (hD : D.length = h * w) (hm : h * w ≤ 1048576) (hw4 : w ≤ 4096) (hk : 4096 < k) (hk2 : k ≤ 1000000) (hs : lw + hw = w)
    (hb : Bd 281474976710656 D) (hf : ∀ i, i < h → fwdF kk k x0 (rowOf w D i) = some (lo i, hi i) ∧ (lo i).length = lw ∧ (hi i).length = hw) :
    ∀ (f i : Nat) (P Q : List Int), i ≤ h → h < f + i → P.length = i * lw → Q.length = i * hw → (∀ a, a < i → rowOf lw P a = lo a ∧ rowOf hw Q a = hi a) → ∃ P' Q', rowsF kk k x0 x1 y0 y1 D f (y0 + (i : Int)) P Q = some (P', Q') ∧ P'.length = h * lw ∧ Q'.length = h * hw ∧ ∀ a, a < h → rowOf lw P' a = lo a ∧ rowOf hw Q' a = hi a
  | 0, i, P, Q, h1, h2, h3, h4, h5 => by omega
  | f + 1, i, P, Q, h1, h2, h3, h4, h5 => by
    rw [rowsF.eq_2]
    by_cases c : i < h
    · have hr : List.take (x1 - x0).toNat (List.drop ((y0 + (i : Int) - y0) * (x1 - x0)).toNat D) = rowOf w D i := by
        rw [show x1 - x0 = (w : Int) by omega, show y0 + (i : Int) - y0 = (i : Int) by omega, ← Int.natCast_mul, Int.toNat_natCast, Int.toNat_natCast]
        rfl
      have hl := rowOf_len hD c
      obtain ⟨g1, g2, g3⟩ := hf i c
      have l1 : (i + 1) * lw ≤ h * w := Nat.mul_le_mul (by omega) (by omega)
      have l2 : (i + 1) * hw ≤ h * w := Nat.mul_le_mul (by omega) (by omega)
      have e1 : (i + 1) * lw = i * lw + lw := Nat.succ_mul _ _
      have e2 : (i + 1) * hw = i * hw + hw := Nat.succ_mul _ _
      rw [if_pos (by omega), hr, if_pos ⟨bounded_f (rowOf_bd hb) (by decide) (by decide) (by rw [hl]; omega) (by omega), by rw [hl]; omega⟩, g1, Option.bind_some, if_pos ⟨by show P.length + (lo i).length ≤ _; omega, by show Q.length + (hi i).length ≤ _; omega⟩, show y0 + (i : Int) + 1 = y0 + ((i + 1 : Nat) : Int) by omega]
      refine rowsF_spec hx1 hy1 hD hm hw4 hk hk2 hs hb hf f (i + 1) (P ++ lo i) (Q ++ hi i) (by omega) (by omega) (by rw [List.length_append]; omega) (by rw [List.length_append]; omega) fun a ha => ?_
      by_cases q : a = i
      · subst q
        exact ⟨rowOf_new h3 g2, rowOf_new h4 g3⟩
      · have m1 : (a + 1) * lw ≤ i * lw := Nat.mul_le_mul_right _ (by omega)
        have m2 : (a + 1) * hw ≤ i * hw := Nat.mul_le_mul_right _ (by omega)
        rw [rowOf_app (by omega), rowOf_app (by omega)]
        exact h5 a (by omega)
    · obtain rfl : i = h := by omega
      rw [if_neg (by omega)]
      exact ⟨P, Q, rfl, h3, h4, h5⟩
theorem mrowsF_spec {kk : Int} {k w h lw hw : Nat} {w0 w1 x0 y0 y1 : Int} {H0 H1 D : List Int} (hw0 : w0 = (lw : Int)) (hw1 : w1 = (hw : Int)) (hy1 : y1 = y0 + (h : Int)) (hD : D.length = h * w) (hH0 : H0.length = h * lw) (hH1 : H1.length = h * hw) (hm : h * w ≤ 1048576) (hw4 : w ≤ 4096) (hk : 4096 < k) (hk2 : k ≤ 1000000) (hs : lw + hw = w)
    (hb : Bd 1125899906842624 H0) (hb2 : Bd 1125899906842624 H1) (hce : cntE x0 (w : Int) = (lw : Int)) (hf : ∀ i, i < h → invF kk k x0 (rowOf lw H0 i) (rowOf hw H1 i) = some (rowOf w D i)) :
    ∀ (f i : Nat), i ≤ h → h < f + i → mrowsF kk k w0 w1 x0 y0 y1 H0 H1 f (y0 + (i : Int)) (D.take (i * w)) = some D
  | 0, i, h1, h2 => by omega
  | f + 1, i, h1, h2 => by
    rw [mrowsF.eq_2]
    by_cases c : i < h
    · have hr0 : List.take w0.toNat (List.drop ((y0 + (i : Int) - y0) * w0).toNat H0) = rowOf lw H0 i := by
        rw [hw0, show y0 + (i : Int) - y0 = (i : Int) by omega, ← Int.natCast_mul, Int.toNat_natCast, Int.toNat_natCast]
        rfl
      have hr1 : List.take w1.toNat (List.drop ((y0 + (i : Int) - y0) * w1).toNat H1) = rowOf hw H1 i := by
        rw [hw1, show y0 + (i : Int) - y0 = (i : Int) by omega, ← Int.natCast_mul, Int.toNat_natCast, Int.toNat_natCast]
        rfl
      have n0 := rowOf_len hH0 c
      have n1 := rowOf_len hH1 c
      have n2 := rowOf_len hD c
      have l1 : (i + 1) * w ≤ h * w := Nat.mul_le_mul_right w c
      have e1 : (i + 1) * w = i * w + w := Nat.succ_mul _ _
      rw [if_pos (by omega), hr0, hr1, if_pos ⟨by omega, by rw [n0, n1, hs]; exact hce, bounded_f (rowOf_bd hb) (by decide) (by decide) (by rw [n0]; omega) (by omega), bounded_f (rowOf_bd hb2) (by decide) (by decide) (by rw [n1]; omega) (by omega)⟩, hf i c, Option.bind_some,
        if_pos (by rw [List.length_take, n2]; omega), show y0 + (i : Int) + 1 = y0 + ((i + 1 : Nat) : Int) by omega]
      have : D.take (i * w) ++ rowOf w D i = D.take ((i + 1) * w) := by
        unfold rowOf
        rw [e1, List.take_add]
      rw [this]
      exact mrowsF_spec hw0 hw1 hy1 hD hH0 hH1 hm hw4 hk hk2 hs hb hb2 hce hf f (i + 1) (by omega) (by omega)
    · obtain rfl : i = h := by omega
      rw [if_neg (by omega), ← hD, List.take_length]
end Go.Proofs.Ytcnpekpgghppnaa.Q

/- color.check of three planes that are alright. Printed by wip/tools of this session. -/
namespace Go.Proofs.Ytcnpekpgghppnaa.Q
open Go.RowKit Go.Proofs.YtcnpekpgghppnaaW.PrintWords Go.Proofs.YtcnpekpgghppnaaW.PrintLast Go.Proofs.YtcnpekpgghppnaaW.PrintMore
set_option linter.unusedVariables false
set_option linter.unusedSimpArgs false

attribute [local go_sem high] eqA23_same
/-- Planes of one rectangle, with numbers that are not too large. -/
def Alike (x0 y0 x1 y1 b : Int) (ps : List (Value × Pl)) : Prop := ∀ (j : Nat) (p : Value × Pl), ps[j]? = some p → (p.2.x0 = x0 ∧ p.2.y0 = y0 ∧ p.2.x1 = x1 ∧ p.2.y1 = y1) ∧ PV x0 y0 x1 y1 p.2.D ∧ Bd b p.2.D
theorem wid_big {i : Int} (h0 : 0 ≤ i) (h1 : i ≤ 9223372036854775806) : wrap64 (i + 1) = i + 1 := by unfold wrap64; omega
set_option maxHeartbeats 8000000 in
set_option maxRecDepth 100000 in
theorem color_check.good (t x0 y0 x1 y1 bd : Int) (ps : List (Value × Pl)) (gb cN : Nat) (w : World) (ht : t = 0 ∨ t = 1 ∨ t = 2) (hbd : Bds w gb ps) (hn3 : ps.length = 3 ∧ 3 ≤ cN) (hal : Alike x0 y0 x1 y1 bd ps) (hb0 : 0 ≤ bd ∧ bd ≤ 4611686018427387904) :
    Calls Try.prog 51 #[.int .i64 t, .slice (some ⟨gb, 0, none⟩) 3 cN, .int .i64 bd] w fun e w' => e = .returned (.int .i64 0) ∧ Below w.heap.size w w' := by
  have HBD := Aside0.mk hbd
  have HN3 := Aside0.mk hn3
  have HAL := Aside0.mk hal
  have HB0 := Aside0.mk hb0
  have HKN := Aside0.mk (show color_known.f t = some true by unfold color_known.f; rcases ht with rfl | rfl | rfl <;> decide)
  have HT := Aside0.mk ht
  have h3c : 3 ≤ cN := hn3.2
  have hnb : wrap64 (-bd) = -bd := wid (by omega) (by omega)
  have h3c' : (3 ≤ cN) = True := eq_true h3c
  have h3i : ((3 : Int) ≤ (cN : Int)) = True := eq_true (by omega)
  have HR0 := Aside0.mk (show w.rangeAt gb 0 [.int .i64 x0, .int .i64 y0, .int .i64 x1, .int .i64 y1] by
    obtain ⟨p, hp⟩ : ∃ p, ps[0]? = some p := ⟨_, List.getElem?_eq_getElem (show 0 < ps.length by omega)⟩
    obtain ⟨⟨rfl, rfl, rfl, rfl⟩, _, _⟩ := hal 0 p hp
    intro i v hi
    refine hbd.cells 0 p hp i v ?_
    rcases i with _ | _ | _ | _ | i <;> first | exact hi | (simp at hi))
  clear hbd hn3 hal hb0 ht h3c
  have B0 := Aside0.mk (Below.refl w.heap.size w)
  go_enter Try.func51, Try.ntmps51
  go_upto_region 4 with (first
    | (go_at_call 72; (with_reducible refine (color_known.calls t true _ HKN.out).mono ?_); rintro _ w72 ⟨rfl, b⟩; have B0' := Aside0.mk (B0.out.trans (b.below.mono (below_size B0.out))); clear B0; have B0 := B0'; clear B0'; clear b))
  go_loopg [20] 4 (fun kq v20 w' => ∃ j : Nat, v20 = .int .i64 (j : Int) ∧ j + kq = 4 ∧ Aside0 (Below w.heap.size w w'))
  case atStart => exact ⟨0, rfl, rfl, B0⟩
  case round =>
  clear B0
  obtain ⟨j, rfl, hj, HB⟩ := hrel
  obtain ⟨W1, hW1⟩ : ∃ W1, W1 = wr := ⟨wr, rfl⟩
  subst hW1
  by_cases hj3 : j < 3
  · obtain ⟨f0, hf0⟩ : ∃ f0, gk = f0 + 1 := ⟨gk - 1, by omega⟩
    subst hf0
    have hb0 : decide ((j : Int) < 3) = true := decide_eq_true (by omega)
    have p0 : (0 ≤ (j : Int)) = True := eq_true (by omega)
    have p1 : ((j : Int) < 3) = True := eq_true (by omega)
    have p2 : (j < 3) = True := eq_true hj3
    have hwj : wrap64 ((j : Int) + 1) = ((j + 1 : Nat) : Int) := by unfold wrap64; omega
    obtain ⟨p, hp⟩ : ∃ p, ps[j]? = some p := ⟨_, List.getElem?_eq_getElem (show j < ps.length by have := HN3.out; omega)⟩
    obtain ⟨⟨e0, e1, e2, e3⟩, hpv, hpb⟩ := HAL.out j p hp
    have hrg := HBD.out.cells j p hp
    obtain ⟨Aq, cq, hv, hcq⟩ := HBD.out.data j p hp
    obtain ⟨pv, q0, q1, q2, q3, Dq⟩ := p
    dsimp only at hv hcq e0 e1 e2 e3 hpv hpb
    subst hv e0 e1 e2 e3
    have HRG := Aside0.mk (show w.rangeAt gb (j * 5) [.int .i64 q0, .int .i64 q1, .int .i64 q2, .int .i64 q3, .slice Aq Dq.length cq] by rw [Nat.mul_comm]; exact hrg)
    have HCQ := Aside0.mk hcq
    have HPV := Aside0.mk hpv
    have HPB := Aside0.mk hpb
    clear hrg hcq hpv hpb
    have K0 := Aside0.mk (Hold.nil W1)
    go_wp2_with (first
      | ((with_reducible refine gate_dst (N := 23) rfl ?_); refine load_range_ev (cs := [.int .i64 q0, .int .i64 q1, .int .i64 q2, .int .i64 q3, .slice Aq Dq.length cq]) rfl 26 (.tmp 22) rfl rfl (range_below HRG.out HB.out) Try.underlying26 rfl rfl ?_)
      | ((with_reducible refine gate_dst (N := 8) rfl ?_); refine box_event ?hg (N := 8) ?hd (cs := #[.int .i64 0, .int .i64 0, .int .i64 0, .int .i64 0, .slice none 0 0]) (t := 26) ?hr ?_; (case hd => rfl); (case hg => rfl); (case hr => first | (go_simp; done) | (go_simp; rfl)); intro g8 hg W8 hbox hb; have K := Aside0.mk (K0.out.box (Nat.le_refl _) hg hbox hb trivial); clear hg hbox hb K0)
      | ((with_reducible refine gate_store (t := 26) (p := 8) (v := .tmp 23) rfl ?_); refine store_ev rfl rfl 26 (.tmp 8) (.tmp 23) rfl rfl rfl (K.out.get 0 rfl) rfl rfl (by first | (kernel_rfl) | (simp [Value.oneCell'])) ?_; intro W8s hs; have K' := Aside0.mk (K.out.stored 0 rfl hs); clear K; have K := K'; clear K'; clear hs)
      | ((with_reducible refine gate_dst (N := 24) rfl ?_); refine load_ev rfl 26 (.tmp 8) rfl rfl (K.out.get 0 rfl) Try.underlying26 rfl ?_)
      | (go_at_call 25; (with_reducible refine (plane_Valid.calls q0 q1 q2 q3 Aq cq Dq true _ (Kd.C_below HCQ.out.2 (HB.out.trans (K.out.below.mono (below_size HB.out)))) HCQ.out.1 HPV.out.valid).mono ?_); rintro _ w25 ⟨rfl, b⟩; have K' := Aside0.mk (K.out.call (below_size K.out.below) b); clear K; have K := K'; clear K'; clear b))
    go_roundg f0
    case measure => omega
    case rel => exact ⟨j + 1, by first | rfl | rw [hwj], by omega, ⟨HB.out.trans (K.out.below.mono (below_size HB.out))⟩⟩
  · have hb0 : decide ((j : Int) < 3) = false := decide_eq_false (by omega)
    have hb0' : decide (j < 3) = false := decide_eq_false hj3
    clear hj hj3
    have ht := HT.out
    by_cases h0 : t = 0
    · subst h0
      go_wp2
      go_ret
      exact ⟨rfl, HB.out⟩
    have ht0 : decide (t = 0) = false := decide_eq_false h0
    have ht1 : (t == 0) = false := beq_eq_false_iff_ne.mpr h0
    clear ht h0 HT
    have B1 := Aside0.mk (HB.out)
    clear HB
    go_upto_region 14 with (fail)
    clear hb0 hb0' ht0 ht1
    go_loopg [36] 4 (fun kq v36 w' => ∃ j : Nat, v36 = .int .i64 (j : Int) ∧ j + kq = 4 ∧ Aside0 (Below w.heap.size w w'))
    case atStart => exact ⟨0, rfl, rfl, B1⟩
    case round =>
    clear B1
    obtain ⟨j, rfl, hj, HB⟩ := hrel
    obtain ⟨W1, hW1⟩ : ∃ W1, W1 = wr := ⟨wr, rfl⟩
    subst hW1
    by_cases hj3 : j < 3
    · obtain ⟨f0, hf0⟩ : ∃ f0, gk = f0 + 1 := ⟨gk - 1, by omega⟩
      subst hf0
      have hb0 : decide ((j : Int) < 3) = true := decide_eq_true (by omega)
      have p0 : (0 ≤ (j : Int)) = True := eq_true (by omega)
      have p1 : ((j : Int) < 3) = True := eq_true (by omega)
      have p2 : (j < 3) = True := eq_true hj3
      have hwj : wrap64 ((j : Int) + 1) = ((j + 1 : Nat) : Int) := by unfold wrap64; omega
      obtain ⟨p, hp⟩ : ∃ p, ps[j]? = some p := ⟨_, List.getElem?_eq_getElem (show j < ps.length by have := HN3.out; omega)⟩
      obtain ⟨⟨e0, e1, e2, e3⟩, hpv, hpb⟩ := HAL.out j p hp
      have hrg := HBD.out.cells j p hp
      obtain ⟨Aq, cq, hv, hcq⟩ := HBD.out.data j p hp
      obtain ⟨pv, q0, q1, q2, q3, Dq⟩ := p
      dsimp only at hv hcq e0 e1 e2 e3 hpv hpb
      subst hv e0 e1 e2 e3
      have HRG := Aside0.mk (show w.rangeAt gb (j * 5) [.int .i64 q0, .int .i64 q1, .int .i64 q2, .int .i64 q3, .slice Aq Dq.length cq] by rw [Nat.mul_comm]; exact hrg)
      have HCQ := Aside0.mk hcq
      have HPV := Aside0.mk hpv
      have HPB := Aside0.mk hpb
      clear hrg hcq hpv hpb
      have K0 := Aside0.mk (Hold.nil W1)
      go_upto_region 16 with (first
        | ((with_reducible refine gate_dst (N := 39) rfl ?_); refine load_range_ev (cs := [.int .i64 q0, .int .i64 q1, .int .i64 q2, .int .i64 q3, .slice Aq Dq.length cq]) rfl 26 (.tmp 38) rfl rfl (range_below HRG.out HB.out) Try.underlying26 rfl rfl ?_)
        | ((with_reducible refine gate_dst (N := 10) rfl ?_); refine box_event ?hg (N := 10) ?hd (cs := #[.int .i64 0, .int .i64 0, .int .i64 0, .int .i64 0, .slice none 0 0]) (t := 26) ?hr ?_; (case hd => rfl); (case hg => rfl); (case hr => first | (go_simp; done) | (go_simp; rfl)); intro g10 hg W10 hbox hb; have K := Aside0.mk (K0.out.box (Nat.le_refl _) hg hbox hb trivial); clear hg hbox hb K0)
        | ((with_reducible refine gate_store (t := 26) (p := 10) (v := .tmp 39) rfl ?_); refine store_ev rfl rfl 26 (.tmp 10) (.tmp 39) rfl rfl rfl (K.out.get 0 rfl) rfl rfl (by first | (kernel_rfl) | (simp [Value.oneCell'])) ?_; intro W10s hs; have K' := Aside0.mk (K.out.stored 0 rfl hs); clear K; have K := K'; clear K'; clear hs))
      clear p0 p1 p2
      have K' := Aside0.mk (K.out.drew)
      clear K
      have K := K'
      clear K'
      have HB' := Aside0.mk (HB.out.trans (K.out.below.mono (below_size HB.out)))
      clear HB
      have HB := HB'
      clear HB'
      refine start_ (n := 7) (S := fun w' => w'.heap[g10]? = some (.cells #[.int .i64 q0, .int .i64 q1, .int .i64 q2, .int .i64 q3, .slice Aq Dq.length cq] 26 (0, 0)) ∧ w'.rangeAt gb 0 [.int .i64 q0, .int .i64 q1, .int .i64 q2, .int .i64 q3]) (ds := []) #[false, false, false, false, false, false, false] (by kernel_rfl) rfl rfl ⟨K.out.get 0 rfl, range_below HR0.out HB.out⟩ (fun hHeld0 => ?_)
      generalize hw2 : W10s.drew = w2 at *
      clear hw2
      have hHeld := Aside0.mk hHeld0
      clear hHeld0
      refine pure_ (i := 0) (N := some 40) (v := ?_) (a' := ?_) #[true, false, false, false, false, false, false] rfl rfl (by kernel_rfl) (fun _ _ _ h => h) (Or.inl ⟨by rfl, ?_⟩) ?_ ?_
      rotate_left
      · intro w'
        go_simp
        with_reducible rfl
      rotate_left
      · simp only [Act.put, List.setIfInBounds_toArray, List.set_cons_zero, List.set_cons_succ, i64_w, i32_w]
        rfl
      refine take_ (i := 1) (N := some 41) (v := .agg #[.int .i64 q0, .int .i64 q1, .int .i64 q2, .int .i64 q3]) (a' := ?_) #[true, true, false, false, false, false, false] rfl rfl (by kernel_rfl) (fun _ _ _ h => h) (load_mid_yields (i := 0) (cs := #[.int .i64 q0, .int .i64 q1, .int .i64 q2, .int .i64 q3]) (by rfl) 23 (.tmp 40) rfl rfl (fun _ h => h.1) (fun j v hj => by rcases j with _ | _ | _ | _ | j <;> first | exact hj | (simp at hj)) Try.underlying23 rfl rfl) hHeld.out ?_ ?_
      rotate_left
      · simp only [Act.put, List.setIfInBounds_toArray, List.set_cons_zero, List.set_cons_succ, i64_w, i32_w]
        rfl
      refine pure_ (i := 2) (N := some 42) (v := ?_) (a' := ?_) #[true, true, true, false, false, false, false] rfl rfl (by kernel_rfl) (fun _ _ _ h => h) (Or.inl ⟨by rfl, ?_⟩) ?_ ?_
      rotate_left
      · intro w'
        go_simp
        with_reducible rfl
      rotate_left
      · simp only [Act.put, List.setIfInBounds_toArray, List.set_cons_zero, List.set_cons_succ, i64_w, i32_w]
        rfl
      refine pure_ (i := 3) (N := some 43) (v := ?_) (a' := ?_) #[true, true, true, true, false, false, false] rfl rfl (by kernel_rfl) (fun _ _ _ h => h) (Or.inl ⟨by rfl, ?_⟩) ?_ ?_
      rotate_left
      · intro w'
        go_simp
        with_reducible rfl
      rotate_left
      · simp only [Act.put, List.setIfInBounds_toArray, List.set_cons_zero, List.set_cons_succ, i64_w, i32_w]
        rfl
      refine pure_ (i := 4) (N := some 44) (v := ?_) (a' := ?_) #[true, true, true, true, true, false, false] rfl rfl (by kernel_rfl) (fun _ _ _ h => h) (Or.inl ⟨by rfl, ?_⟩) ?_ ?_
      rotate_left
      · intro w'
        go_simp
        with_reducible rfl
      rotate_left
      · simp only [Act.put, List.setIfInBounds_toArray, List.set_cons_zero, List.set_cons_succ, i64_w, i32_w]
        rfl
      refine take_ (i := 5) (N := some 45) (v := .agg #[.int .i64 q0, .int .i64 q1, .int .i64 q2, .int .i64 q3]) (a' := ?_) #[true, true, true, true, true, true, false] rfl rfl (by kernel_rfl) (fun _ _ _ h => h) (load_range_yields (cs := [.int .i64 q0, .int .i64 q1, .int .i64 q2, .int .i64 q3]) (by rfl) 23 (.tmp 44) rfl rfl (fun _ h => h.2) Try.underlying23 rfl rfl) hHeld.out ?_ ?_
      rotate_left
      · simp only [Act.put, List.setIfInBounds_toArray, List.set_cons_zero, List.set_cons_succ, i64_w, i32_w]
        rfl
      refine pure_ (i := 6) (N := some 46) (v := ?_) (a' := ?_) #[true, true, true, true, true, true, true] rfl rfl (by kernel_rfl) (fun _ _ _ h => h) (Or.inl ⟨by rfl, ?_⟩) ?_ ?_
      rotate_left
      · intro w'
        go_simp
        with_reducible rfl
      rotate_left
      · simp only [Act.put, List.setIfInBounds_toArray, List.set_cons_zero, List.set_cons_succ, i64_w, i32_w]
        rfl
      refine done_ (by kernel_rfl) ?_
      clear hHeld
      go_wp2
      go_roundg f0
      case measure => omega
      case rel => exact ⟨j + 1, by first | rfl | rw [hwj], by omega, ⟨HB.out⟩⟩
    · have hb0 : decide ((j : Int) < 3) = false := decide_eq_false (by omega)
      have hb0' : decide (j < 3) = false := decide_eq_false hj3
      clear hj hj3
      have B2 := Aside0.mk (HB.out)
      clear HB
      go_upto_region 20 with (fail)
      clear hb0 hb0'
      go_loopg [51] 4 (fun kq v51 w' => ∃ j : Nat, v51 = .int .i64 (j : Int) ∧ j + kq = 4 ∧ Aside0 (Below w.heap.size w w'))
      case atStart => exact ⟨0, rfl, rfl, B2⟩
      case round =>
      clear B2
      obtain ⟨j, rfl, hj, HB⟩ := hrel
      obtain ⟨W1, hW1⟩ : ∃ W1, W1 = wr := ⟨wr, rfl⟩
      subst hW1
      by_cases hj3 : j < 3
      · obtain ⟨f0, hf0⟩ : ∃ f0, gk = f0 + 1 := ⟨gk - 1, by omega⟩
        subst hf0
        have hb0 : decide ((j : Int) < 3) = true := decide_eq_true (by omega)
        have p0 : (0 ≤ (j : Int)) = True := eq_true (by omega)
        have p1 : ((j : Int) < 3) = True := eq_true (by omega)
        have p2 : (j < 3) = True := eq_true hj3
        have hwj : wrap64 ((j : Int) + 1) = ((j + 1 : Nat) : Int) := by unfold wrap64; omega
        have HJ := Aside0.mk (And.intro hj hj3)
        obtain ⟨p, hp⟩ : ∃ p, ps[j]? = some p := ⟨_, List.getElem?_eq_getElem (show j < ps.length by have := HN3.out; omega)⟩
        obtain ⟨⟨e0, e1, e2, e3⟩, hpv, hpb⟩ := HAL.out j p hp
        have hrg := HBD.out.cells j p hp
        obtain ⟨Aq, cq, hv, hcq⟩ := HBD.out.data j p hp
        obtain ⟨pv, q0, q1, q2, q3, Dq⟩ := p
        dsimp only at hv hcq e0 e1 e2 e3 hpv hpb
        subst hv e0 e1 e2 e3
        have HRG := Aside0.mk (show w.rangeAt gb (j * 5) [.int .i64 q0, .int .i64 q1, .int .i64 q2, .int .i64 q3, .slice Aq Dq.length cq] by rw [Nat.mul_comm]; exact hrg)
        have HCQ := Aside0.mk hcq
        have HPV := Aside0.mk hpv
        have HPB := Aside0.mk hpb
        clear hrg hcq hpv hpb
        clear hj hj3
        have K0 := Aside0.mk (Hold.nil W1)
        go_upto_region 23 with (first
          | ((with_reducible refine gate_dst (N := 54) rfl ?_); refine load_range_ev (cs := [.int .i64 q0, .int .i64 q1, .int .i64 q2, .int .i64 q3, .slice Aq Dq.length cq]) rfl 26 (.tmp 53) rfl rfl (range_below HRG.out HB.out) Try.underlying26 rfl rfl ?_)
          | ((with_reducible refine gate_dst (N := 12) rfl ?_); refine box_event ?hg (N := 12) ?hd (cs := #[.int .i64 0, .int .i64 0, .int .i64 0, .int .i64 0, .slice none 0 0]) (t := 26) ?hr ?_; (case hd => rfl); (case hg => rfl); (case hr => first | (go_simp; done) | (go_simp; rfl)); intro g12 hg W12 hbox hb; have K := Aside0.mk (K0.out.box (Nat.le_refl _) hg hbox hb trivial); clear hg hbox hb K0)
          | ((with_reducible refine gate_store (t := 26) (p := 12) (v := .tmp 54) rfl ?_); refine store_ev rfl rfl 26 (.tmp 12) (.tmp 54) rfl rfl rfl (K.out.get 0 rfl) rfl rfl (by first | (kernel_rfl) | (simp [Value.oneCell'])) ?_; intro W12s hs; have K' := Aside0.mk (K.out.stored 0 rfl hs); clear K; have K := K'; clear K'; clear hs; have p12 : W12s.cell? ⟨g12, 4, none⟩ = some (.slice Aq Dq.length cq) := K.out.cell 0 rfl 4 rfl))
        clear p0 p1 p2 p12 hb0
        have B3 := Aside0.mk (HB.out.trans (K.out.below.mono (below_size HB.out)))
        clear HB K
        go_loopg [58] Dq.length (fun kq v58 w' => ∃ i : Int, v58 = .int .i64 i ∧ (0 ≤ i ∧ i + (kq : Int) = (Dq.length : Int)) ∧ Aside0 (Below w.heap.size w w'))
        case atStart => exact ⟨0, rfl, ⟨Int.le_refl _, by omega⟩, B3⟩
        case round =>
        clear B3
        obtain ⟨i, rfl, ⟨hi0, hik⟩, HB⟩ := hrel
        by_cases hil : i < (Dq.length : Int)
        · obtain ⟨f1, hf1⟩ : ∃ f1, gk = f1 + 1 := ⟨gk - 1, by omega⟩
          subst hf1
          have hb0 : decide (i < (Dq.length : Int)) = true := decide_eq_true hil
          have p0 : (0 ≤ i) = True := eq_true hi0
          have p1 : (i < (Dq.length : Int)) = True := eq_true hil
          obtain ⟨ad, e0, hx⟩ := Kd.at_int (Kd.C_below HCQ.out.2 HB.out) i hi0 hil
          have hmx := HCQ.out.2.2.1
          have hw1 : wrap64 (i + 1) = i + 1 := wid_big (by omega) (by omega)
          have hb := HPB.out.at_ HB0.out.1 i.toNat
          rw [Int.toNat_of_nonneg hi0] at hb
          have q0 : decide (bd < rd Dq i) = false := decide_eq_false (by omega)
          have q1 : decide (rd Dq i < -bd) = false := decide_eq_false (by omega)
          have HIX := Aside0.mk (And.intro hi0 (And.intro (show i < (Dq.length : Int) from hil) hik))
          clear hi0 hil hik hmx hb
          subst e0
          go_wp2
          go_roundg f1
          case measure => omega
          case rel => exact ⟨_, by first | rfl | rw [hw1], ⟨by have := HIX.out; omega, by have := HIX.out; omega⟩, HB⟩
        · have hb0 : decide (i < (Dq.length : Int)) = false := decide_eq_false hil
          clear hi0 hik hil
          go_wp2
          go_roundg f0
          case measure => omega
          case rel => exact ⟨j + 1, by first | rfl | rw [hwj], by have := HJ.out; omega, HB⟩
      · have hb0 : decide ((j : Int) < 3) = false := decide_eq_false (by omega)
        have hb0' : decide (j < 3) = false := decide_eq_false hj3
        clear hj hj3
        go_wp2
        go_ret
        exact ⟨rfl, HB.out⟩
end Go.Proofs.Ytcnpekpgghppnaa.Q

namespace Go.Proofs.Ytcnpekpgghppnaa.Q
open Go.RowKit Go.Proofs.YtcnpekpgghppnaaW.PrintWords Go.Proofs.YtcnpekpgghppnaaW.PrintLast Go.Proofs.YtcnpekpgghppnaaW.PrintMore
attribute [local go_sem] max2_int min2_int max_two min_two max_three min_three max_four min_four   -- for this text's walks alone
set_option linter.unusedVariables false
set_option linter.unusedSimpArgs false

/-! ### color_quarter: function 73 -/
def color_quarter.f (a0 : Int) : Option (Int) := some (a0 / 4)
set_option maxHeartbeats 8000000 in
set_option maxRecDepth 100000 in
theorem color_quarter.calls (a0 : Int) (r : Int) (w : World) (h : color_quarter.f a0 = some r) :
    Calls Try.prog 73 #[.int .i64 a0] w fun e w' => e = .returned (.int .i64 r) ∧ Drawn0 w w' := by
  have H : (some (a0 / 4)) = some r := h
  clear h
  obtain rfl := Option.some.inj H
  go_enter Try.func73, Try.ntmps73
  go_wp2
  go_ret
  exact ⟨by first | rfl | (simp; done) | (simp [*]; done), by repeat (first | exact Drawn0.refl _ | apply Drawn0.step)⟩

end Go.Proofs.Ytcnpekpgghppnaa.Q

namespace Go.Proofs.Ytcnpekpgghppnaa.Q
open Go.RowKit Go.Proofs.YtcnpekpgghppnaaW.PrintWords Go.Proofs.YtcnpekpgghppnaaW.PrintLast Go.Proofs.YtcnpekpgghppnaaW.PrintMore
attribute [local go_sem] max2_int min2_int max_two min_two max_three min_three max_four min_four   -- for this text's walks alone
set_option linter.unusedVariables false
set_option linter.unusedSimpArgs false

/-! ### color_half: function 74 -/
def color_half.f (a0 : Int) : Option (Int) := some (a0 / 2)
set_option maxHeartbeats 8000000 in
set_option maxRecDepth 100000 in
theorem color_half.calls (a0 : Int) (r : Int) (w : World) (h : color_half.f a0 = some r) :
    Calls Try.prog 74 #[.int .i64 a0] w fun e w' => e = .returned (.int .i64 r) ∧ Drawn0 w w' := by
  have H : (some (a0 / 2)) = some r := h
  clear h
  obtain rfl := Option.some.inj H
  go_enter Try.func74, Try.ntmps74
  go_wp2
  go_ret
  exact ⟨by first | rfl | (simp; done) | (simp [*]; done), by repeat (first | exact Drawn0.refl _ | apply Drawn0.step)⟩

end Go.Proofs.Ytcnpekpgghppnaa.Q

/- color.forward, color.inverse: a pixel. Printed by wip/tools of this session. -/
namespace Go.Proofs.Ytcnpekpgghppnaa.Q
open Go.RowKit Go.Proofs.YtcnpekpgghppnaaW.PrintWords Go.Proofs.YtcnpekpgghppnaaW.PrintLast Go.Proofs.YtcnpekpgghppnaaW.PrintMore
set_option linter.unusedVariables false
set_option linter.unusedSimpArgs false

def fwdPx (t a b c : Int) : Int × Int × Int :=
  if t = 1 then (wrap64 (wrap64 (a + wrap64 (2 * b)) + c) / 4, wrap64 (c - b), wrap64 (a - b))
  else if t = 2 then (wrap64 (wrap64 (c + wrap64 (a - c) / 2) + wrap64 (b - wrap64 (c + wrap64 (a - c) / 2)) / 2), wrap64 (a - c), wrap64 (b - wrap64 (c + wrap64 (a - c) / 2)))
  else (a, b, c)
def invPx (t a b c : Int) : Int × Int × Int :=
  if t = 1 then (wrap64 (c + wrap64 (a - wrap64 (b + c) / 4)), wrap64 (a - wrap64 (b + c) / 4), wrap64 (b + wrap64 (a - wrap64 (b + c) / 4)))
  else if t = 2 then (wrap64 (wrap64 (wrap64 (a - c / 2) - b / 2) + b), wrap64 (c + wrap64 (a - c / 2)), wrap64 (wrap64 (a - c / 2) - b / 2))
  else (a, b, c)
/-- Function F turns a pixel by fq. -/
def PixFn (F : Nat) (fq : Int → Int → Int → Int → Int × Int × Int) : Prop := ∀ (t a b c : Int) (w : World), (t = 0 ∨ t = 1 ∨ t = 2) → Calls Try.prog F #[.int .i64 t, .agg #[.int .i64 a, .int .i64 b, .int .i64 c]] w fun e w' => e = .returned (.agg #[.int .i64 (fq t a b c).1, .int .i64 (fq t a b c).2.1, .int .i64 (fq t a b c).2.2]) ∧ Below w.heap.size w w'
set_option maxHeartbeats 8000000 in
set_option maxRecDepth 100000 in
theorem fwd_0 (a b c : Int) (w : World) : Calls Try.prog 53 #[.int .i64 0, .agg #[.int .i64 a, .int .i64 b, .int .i64 c]] w fun e w' => e = .returned (.agg #[.int .i64 a, .int .i64 b, .int .i64 c]) ∧ Below w.heap.size w w' := by
  have K00 := Aside0.mk (Hold.nil w)
  go_enter Try.func53, Try.ntmps53
  go_wp2_with (first
    | ((with_reducible refine gate_dst (N := 3) rfl ?_); refine box_event ?hg (N := 3) ?hd (cs := #[.int .i64 a, .int .i64 b, .int .i64 c]) (t := 95) ?hr ?_; (case hd => rfl); (case hg => rfl); (case hr => first | (go_simp; done) | (go_simp; rfl)); intro g3 hg W3 hbox hb; have K1 := Aside0.mk (K00.out.box (Nat.le_refl _) hg hbox hb trivial); clear hg hbox hb K00)
    | ((with_reducible refine gate_dst (N := 4) rfl ?_); refine box_event ?hg (N := 4) ?hd (cs := #[.int .i64 0, .int .i64 0, .int .i64 0]) (t := 95) ?hr ?_; (case hd => rfl); (case hg => rfl); (case hr => first | (go_simp; done) | (go_simp; rfl)); intro g4 hg W4 hbox hb; have K := Aside0.mk (K1.out.box (below_size K1.out.below) hg hbox hb trivial); clear hg hbox hb K1)
    | ((with_reducible refine gate_dst (N := 55) rfl ?_); refine load_all_ev rfl 95 (.tmp 3) rfl rfl (K.out.get 1 rfl) Try.underlying95 rfl rfl ?_)
    | ((with_reducible refine gate_store (t := 95) (p := 4) (v := .tmp 55) rfl ?_); refine store_ev rfl rfl 95 (.tmp 4) (.tmp 55) rfl rfl rfl (K.out.get 0 rfl) rfl rfl (by first | (kernel_rfl) | (simp [Value.oneCell'])) ?_; intro W9 hs; have K' := Aside0.mk (K.out.stored 0 rfl hs); clear K; have K := K'; clear K'; clear hs))
  refine bodyPost_ret (results_single rfl (.cell g4 95 _ (0, 0) _ rfl (K.out.get 0 rfl) Try.underlying95 rfl (by kernel_rfl) .nil)) rfl ?_
  exact ⟨rfl, K.out.below⟩
set_option maxHeartbeats 8000000 in
set_option maxRecDepth 100000 in
theorem inv_0 (a b c : Int) (w : World) : Calls Try.prog 54 #[.int .i64 0, .agg #[.int .i64 a, .int .i64 b, .int .i64 c]] w fun e w' => e = .returned (.agg #[.int .i64 a, .int .i64 b, .int .i64 c]) ∧ Below w.heap.size w w' := by
  have K00 := Aside0.mk (Hold.nil w)
  go_enter Try.func54, Try.ntmps54
  go_wp2_with (first
    | ((with_reducible refine gate_dst (N := 3) rfl ?_); refine box_event ?hg (N := 3) ?hd (cs := #[.int .i64 a, .int .i64 b, .int .i64 c]) (t := 95) ?hr ?_; (case hd => rfl); (case hg => rfl); (case hr => first | (go_simp; done) | (go_simp; rfl)); intro g3 hg W3 hbox hb; have K1 := Aside0.mk (K00.out.box (Nat.le_refl _) hg hbox hb trivial); clear hg hbox hb K00)
    | ((with_reducible refine gate_dst (N := 4) rfl ?_); refine box_event ?hg (N := 4) ?hd (cs := #[.int .i64 0, .int .i64 0, .int .i64 0]) (t := 95) ?hr ?_; (case hd => rfl); (case hg => rfl); (case hr => first | (go_simp; done) | (go_simp; rfl)); intro g4 hg W4 hbox hb; have K := Aside0.mk (K1.out.box (below_size K1.out.below) hg hbox hb trivial); clear hg hbox hb K1)
    | ((with_reducible refine gate_dst (N := 53) rfl ?_); refine load_all_ev rfl 95 (.tmp 3) rfl rfl (K.out.get 1 rfl) Try.underlying95 rfl rfl ?_)
    | ((with_reducible refine gate_store (t := 95) (p := 4) (v := .tmp 53) rfl ?_); refine store_ev rfl rfl 95 (.tmp 4) (.tmp 53) rfl rfl rfl (K.out.get 0 rfl) rfl rfl (by first | (kernel_rfl) | (simp [Value.oneCell'])) ?_; intro W9 hs; have K' := Aside0.mk (K.out.stored 0 rfl hs); clear K; have K := K'; clear K'; clear hs))
  refine bodyPost_ret (results_single rfl (.cell g4 95 _ (0, 0) _ rfl (K.out.get 0 rfl) Try.underlying95 rfl (by kernel_rfl) .nil)) rfl ?_
  exact ⟨rfl, K.out.below⟩
set_option maxHeartbeats 8000000 in
set_option maxRecDepth 100000 in
theorem fwd_1 (a b c : Int) (w : World) : Calls Try.prog 53 #[.int .i64 1, .agg #[.int .i64 a, .int .i64 b, .int .i64 c]] w fun e w' => e = .returned (.agg #[.int .i64 (wrap64 (wrap64 (a + wrap64 (2 * b)) + c) / 4), .int .i64 (wrap64 (c - b)), .int .i64 (wrap64 (a - b))]) ∧ Below w.heap.size w w' := by
  have K00 := Aside0.mk (Hold.nil w)
  go_enter Try.func53, Try.ntmps53
  go_upto_region 3 with (first
    | ((with_reducible refine gate_dst (N := 3) rfl ?_); refine box_event ?hg (N := 3) ?hd (cs := #[.int .i64 a, .int .i64 b, .int .i64 c]) (t := 95) ?hr ?_; (case hd => rfl); (case hg => rfl); (case hr => first | (go_simp; done) | (go_simp; rfl)); intro g3 hg W3 hbox hb; have K1 := Aside0.mk (K00.out.box (Nat.le_refl _) hg hbox hb trivial); clear hg hbox hb K00)
    | ((with_reducible refine gate_dst (N := 4) rfl ?_); refine box_event ?hg (N := 4) ?hd (cs := #[.int .i64 0, .int .i64 0, .int .i64 0]) (t := 95) ?hr ?_; (case hd => rfl); (case hg => rfl); (case hr => first | (go_simp; done) | (go_simp; rfl)); intro g4 hg W4 hbox hb; have K := Aside0.mk (K1.out.box (below_size K1.out.below) hg hbox hb trivial); clear hg hbox hb K1))
  have K' := Aside0.mk (K.out.drew)
  clear K
  have K := K'
  clear K'
  refine start_ (n := 22) (S := fun w' => w'.heap[g3]? = some (.cells #[.int .i64 a, .int .i64 b, .int .i64 c] 95 (0, 0))) (ds := [21]) #[false, false, false, false, false, false, false, false, false, false, false, false, false, false, false, false, false, false, false, false, false, false] (by kernel_rfl) rfl rfl (K.out.get 1 rfl) (fun hHeld0 => ?_)
  generalize hw2 : W4.drew = w2 at *
  clear hw2
  have hHeld := Aside0.mk hHeld0
  clear hHeld0
  refine pure_ (i := 0) (N := some 11) (v := ?_) (a' := ?_) #[true, false, false, false, false, false, false, false, false, false, false, false, false, false, false, false, false, false, false, false, false, false] rfl rfl (by kernel_rfl) (fun _ _ _ h => h) (Or.inl ⟨by rfl, ?_⟩) ?_ ?_
  rotate_left
  · intro w'
    go_simp
    with_reducible rfl
  rotate_left
  · simp only [Act.put, List.setIfInBounds_toArray, List.set_cons_zero, List.set_cons_succ, i64_w, i32_w]
    rfl
  refine take_ (i := 1) (N := some 12) (v := ?_) (a' := ?_) #[true, true, false, false, false, false, false, false, false, false, false, false, false, false, false, false, false, false, false, false, false, false] rfl rfl (by kernel_rfl) (fun _ _ _ h => h) (Or.inl ⟨by rfl, ?_⟩) hHeld.out ?_ ?_
  rotate_left
  · rintro w' s0
    have sx : w'.cell? ⟨g3, 0, none⟩ = some (.int .i64 a) := (blk_cell s0 0).trans rfl
    go_simp
    with_reducible rfl
  rotate_left
  · simp only [Act.put, List.setIfInBounds_toArray, List.set_cons_zero, List.set_cons_succ, i64_w, i32_w]
    rfl
  refine pure_ (i := 2) (N := some 13) (v := ?_) (a' := ?_) #[true, true, true, false, false, false, false, false, false, false, false, false, false, false, false, false, false, false, false, false, false, false] rfl rfl (by kernel_rfl) (fun _ _ _ h => h) (Or.inl ⟨by rfl, ?_⟩) ?_ ?_
  rotate_left
  · intro w'
    go_simp
    with_reducible rfl
  rotate_left
  · simp only [Act.put, List.setIfInBounds_toArray, List.set_cons_zero, List.set_cons_succ, i64_w, i32_w]
    rfl
  refine take_ (i := 3) (N := some 14) (v := ?_) (a' := ?_) #[true, true, true, true, false, false, false, false, false, false, false, false, false, false, false, false, false, false, false, false, false, false] rfl rfl (by kernel_rfl) (fun _ _ _ h => h) (Or.inl ⟨by rfl, ?_⟩) hHeld.out ?_ ?_
  rotate_left
  · rintro w' s0
    have sx : w'.cell? ⟨g3, 1, none⟩ = some (.int .i64 b) := (blk_cell s0 1).trans rfl
    go_simp
    with_reducible rfl
  rotate_left
  · simp only [Act.put, List.setIfInBounds_toArray, List.set_cons_zero, List.set_cons_succ, i64_w, i32_w]
    rfl
  refine pure_ (i := 4) (N := some 15) (v := ?_) (a' := ?_) #[true, true, true, true, true, false, false, false, false, false, false, false, false, false, false, false, false, false, false, false, false, false] rfl rfl (by kernel_rfl) (fun _ _ _ h => h) (Or.inl ⟨by rfl, ?_⟩) ?_ ?_
  rotate_left
  · intro w'
    go_simp
    with_reducible rfl
  rotate_left
  · simp only [Act.put, List.setIfInBounds_toArray, List.set_cons_zero, List.set_cons_succ, i64_w, i32_w]
    rfl
  refine pure_ (i := 5) (N := some 16) (v := ?_) (a' := ?_) #[true, true, true, true, true, true, false, false, false, false, false, false, false, false, false, false, false, false, false, false, false, false] rfl rfl (by kernel_rfl) (fun _ _ _ h => h) (Or.inl ⟨by rfl, ?_⟩) ?_ ?_
  rotate_left
  · intro w'
    go_simp
    with_reducible rfl
  rotate_left
  · simp only [Act.put, List.setIfInBounds_toArray, List.set_cons_zero, List.set_cons_succ, i64_w, i32_w]
    rfl
  refine pure_ (i := 6) (N := some 17) (v := ?_) (a' := ?_) #[true, true, true, true, true, true, true, false, false, false, false, false, false, false, false, false, false, false, false, false, false, false] rfl rfl (by kernel_rfl) (fun _ _ _ h => h) (Or.inl ⟨by rfl, ?_⟩) ?_ ?_
  rotate_left
  · intro w'
    go_simp
    with_reducible rfl
  rotate_left
  · simp only [Act.put, List.setIfInBounds_toArray, List.set_cons_zero, List.set_cons_succ, i64_w, i32_w]
    rfl
  refine take_ (i := 7) (N := some 18) (v := ?_) (a' := ?_) #[true, true, true, true, true, true, true, true, false, false, false, false, false, false, false, false, false, false, false, false, false, false] rfl rfl (by kernel_rfl) (fun _ _ _ h => h) (Or.inl ⟨by rfl, ?_⟩) hHeld.out ?_ ?_
  rotate_left
  · rintro w' s0
    have sx : w'.cell? ⟨g3, 2, none⟩ = some (.int .i64 c) := (blk_cell s0 2).trans rfl
    go_simp
    with_reducible rfl
  rotate_left
  · simp only [Act.put, List.setIfInBounds_toArray, List.set_cons_zero, List.set_cons_succ, i64_w, i32_w]
    rfl
  refine pure_ (i := 8) (N := some 19) (v := ?_) (a' := ?_) #[true, true, true, true, true, true, true, true, true, false, false, false, false, false, false, false, false, false, false, false, false, false] rfl rfl (by kernel_rfl) (fun _ _ _ h => h) (Or.inl ⟨by rfl, ?_⟩) ?_ ?_
  rotate_left
  · intro w'
    go_simp
    with_reducible rfl
  rotate_left
  · simp only [Act.put, List.setIfInBounds_toArray, List.set_cons_zero, List.set_cons_succ, i64_w, i32_w]
    rfl
  refine pure_ (i := 10) (N := some 21) (v := ?_) (a' := ?_) #[true, true, true, true, true, true, true, true, true, false, true, false, false, false, false, false, false, false, false, false, false, false] rfl rfl (by kernel_rfl) (fun _ _ _ h => h) (Or.inl ⟨by rfl, ?_⟩) ?_ ?_
  rotate_left
  · intro w'
    go_simp
    with_reducible rfl
  rotate_left
  · simp only [Act.put, List.setIfInBounds_toArray, List.set_cons_zero, List.set_cons_succ, i64_w, i32_w]
    rfl
  refine take_ (i := 11) (N := some 22) (v := ?_) (a' := ?_) #[true, true, true, true, true, true, true, true, true, false, true, true, false, false, false, false, false, false, false, false, false, false] rfl rfl (by kernel_rfl) (fun _ _ _ h => h) (Or.inl ⟨by rfl, ?_⟩) hHeld.out ?_ ?_
  rotate_left
  · rintro w' s0
    have sx : w'.cell? ⟨g3, 2, none⟩ = some (.int .i64 c) := (blk_cell s0 2).trans rfl
    go_simp
    with_reducible rfl
  rotate_left
  · simp only [Act.put, List.setIfInBounds_toArray, List.set_cons_zero, List.set_cons_succ, i64_w, i32_w]
    rfl
  refine pure_ (i := 12) (N := some 23) (v := ?_) (a' := ?_) #[true, true, true, true, true, true, true, true, true, false, true, true, true, false, false, false, false, false, false, false, false, false] rfl rfl (by kernel_rfl) (fun _ _ _ h => h) (Or.inl ⟨by rfl, ?_⟩) ?_ ?_
  rotate_left
  · intro w'
    go_simp
    with_reducible rfl
  rotate_left
  · simp only [Act.put, List.setIfInBounds_toArray, List.set_cons_zero, List.set_cons_succ, i64_w, i32_w]
    rfl
  refine take_ (i := 13) (N := some 24) (v := ?_) (a' := ?_) #[true, true, true, true, true, true, true, true, true, false, true, true, true, true, false, false, false, false, false, false, false, false] rfl rfl (by kernel_rfl) (fun _ _ _ h => h) (Or.inl ⟨by rfl, ?_⟩) hHeld.out ?_ ?_
  rotate_left
  · rintro w' s0
    have sx : w'.cell? ⟨g3, 1, none⟩ = some (.int .i64 b) := (blk_cell s0 1).trans rfl
    go_simp
    with_reducible rfl
  rotate_left
  · simp only [Act.put, List.setIfInBounds_toArray, List.set_cons_zero, List.set_cons_succ, i64_w, i32_w]
    rfl
  refine pure_ (i := 14) (N := some 25) (v := ?_) (a' := ?_) #[true, true, true, true, true, true, true, true, true, false, true, true, true, true, true, false, false, false, false, false, false, false] rfl rfl (by kernel_rfl) (fun _ _ _ h => h) (Or.inl ⟨by rfl, ?_⟩) ?_ ?_
  rotate_left
  · intro w'
    go_simp
    with_reducible rfl
  rotate_left
  · simp only [Act.put, List.setIfInBounds_toArray, List.set_cons_zero, List.set_cons_succ, i64_w, i32_w]
    rfl
  refine pure_ (i := 15) (N := some 26) (v := ?_) (a' := ?_) #[true, true, true, true, true, true, true, true, true, false, true, true, true, true, true, true, false, false, false, false, false, false] rfl rfl (by kernel_rfl) (fun _ _ _ h => h) (Or.inl ⟨by rfl, ?_⟩) ?_ ?_
  rotate_left
  · intro w'
    go_simp
    with_reducible rfl
  rotate_left
  · simp only [Act.put, List.setIfInBounds_toArray, List.set_cons_zero, List.set_cons_succ, i64_w, i32_w]
    rfl
  refine take_ (i := 16) (N := some 27) (v := ?_) (a' := ?_) #[true, true, true, true, true, true, true, true, true, false, true, true, true, true, true, true, true, false, false, false, false, false] rfl rfl (by kernel_rfl) (fun _ _ _ h => h) (Or.inl ⟨by rfl, ?_⟩) hHeld.out ?_ ?_
  rotate_left
  · rintro w' s0
    have sx : w'.cell? ⟨g3, 0, none⟩ = some (.int .i64 a) := (blk_cell s0 0).trans rfl
    go_simp
    with_reducible rfl
  rotate_left
  · simp only [Act.put, List.setIfInBounds_toArray, List.set_cons_zero, List.set_cons_succ, i64_w, i32_w]
    rfl
  refine pure_ (i := 17) (N := some 28) (v := ?_) (a' := ?_) #[true, true, true, true, true, true, true, true, true, false, true, true, true, true, true, true, true, true, false, false, false, false] rfl rfl (by kernel_rfl) (fun _ _ _ h => h) (Or.inl ⟨by rfl, ?_⟩) ?_ ?_
  rotate_left
  · intro w'
    go_simp
    with_reducible rfl
  rotate_left
  · simp only [Act.put, List.setIfInBounds_toArray, List.set_cons_zero, List.set_cons_succ, i64_w, i32_w]
    rfl
  refine take_ (i := 18) (N := some 29) (v := ?_) (a' := ?_) #[true, true, true, true, true, true, true, true, true, false, true, true, true, true, true, true, true, true, true, false, false, false] rfl rfl (by kernel_rfl) (fun _ _ _ h => h) (Or.inl ⟨by rfl, ?_⟩) hHeld.out ?_ ?_
  rotate_left
  · rintro w' s0
    have sx : w'.cell? ⟨g3, 1, none⟩ = some (.int .i64 b) := (blk_cell s0 1).trans rfl
    go_simp
    with_reducible rfl
  rotate_left
  · simp only [Act.put, List.setIfInBounds_toArray, List.set_cons_zero, List.set_cons_succ, i64_w, i32_w]
    rfl
  refine pure_ (i := 19) (N := some 30) (v := ?_) (a' := ?_) #[true, true, true, true, true, true, true, true, true, false, true, true, true, true, true, true, true, true, true, true, false, false] rfl rfl (by kernel_rfl) (fun _ _ _ h => h) (Or.inl ⟨by rfl, ?_⟩) ?_ ?_
  rotate_left
  · intro w'
    go_simp
    with_reducible rfl
  rotate_left
  · simp only [Act.put, List.setIfInBounds_toArray, List.set_cons_zero, List.set_cons_succ, i64_w, i32_w]
    rfl
  refine one_ (i := 9) (N := some 20) #[true, true, true, true, true, true, true, true, true, true, true, true, true, true, true, true, true, true, true, true, false, false] rfl rfl (by kernel_rfl) (by decide) (fun KC hK => ?_)
  refine goes_ Try.func73 (by kernel_rfl) rfl #[.int .i64 (wrap64 (wrap64 (a + wrap64 (2 * b)) + c))] (by rfl) rfl rfl (by simp only [List.map_toArray, List.map_cons, List.map_nil]; rfl) ?_
  refine (color_quarter.calls (wrap64 (wrap64 (a + wrap64 (2 * b)) + c)) (wrap64 (wrap64 (a + wrap64 (2 * b)) + c) / 4) _ rfl).mono ?_
  rintro _ w3 ⟨rfl, bb⟩
  refine ⟨_, rfl, ?_⟩
  have K' := Aside0.mk (K.out.call (below_size K.out.below) bb.below)
  clear K
  have K := K'
  clear K'
  clear bb hHeld
  refine hK.out _ _ (K.out.get 1 rfl) (fun hHeld0 => ?_)
  have hHeld := Aside0.mk hHeld0
  clear hHeld0
  clear hK KC
  refine norm_ (a' := ?_) ?_ ?_
  rotate_left
  · show Act.put _ (some 20) _ = _
    simp only [Act.put, List.setIfInBounds_toArray, List.set_cons_zero, List.set_cons_succ, i64_w, i32_w]
    rfl
  refine pure_ (i := 20) (N := some 31) (v := ?_) (a' := ?_) #[true, true, true, true, true, true, true, true, true, true, true, true, true, true, true, true, true, true, true, true, true, false] rfl rfl (by kernel_rfl) (fun _ _ _ h => h) (Or.inl ⟨by rfl, ?_⟩) ?_ ?_
  rotate_left
  · intro w'
    go_simp
    with_reducible rfl
  rotate_left
  · simp only [Act.put, List.setIfInBounds_toArray, List.set_cons_zero, List.set_cons_succ, i64_w, i32_w]
    rfl
  refine last_ (i := 21) (N := none) #[true, true, true, true, true, true, true, true, true, true, true, true, true, true, true, true, true, true, true, true, true, true] rfl rfl (by kernel_rfl) (by decide) (fun KC hK => ?_)
  refine store_step (cs := #[.int .i64 (wrap64 (wrap64 (a + wrap64 (2 * b)) + c) / 4), .int .i64 (wrap64 (c - b)), .int .i64 (wrap64 (a - b))]) (by rfl) rfl 95 (.tmp 4) (.tmp 31) rfl rfl (by kernel_rfl) (K.out.get 0 rfl) rfl rfl (by first | (kernel_rfl) | (simp [Value.oneCell'])) ?_
  intro WS hs
  refine hK.out _ _ ?_
  have K' := Aside0.mk (K.out.stored 0 rfl hs)
  clear K
  have K := K'
  clear K'
  clear hK KC hs hHeld
  refine done_ (by kernel_rfl) ?_
  go_wp2
  refine bodyPost_ret (results_single rfl (.cell g4 95 _ (0, 0) _ rfl (K.out.get 0 rfl) Try.underlying95 rfl (by kernel_rfl) .nil)) rfl ?_
  exact ⟨rfl, K.out.below⟩
set_option maxHeartbeats 8000000 in
set_option maxRecDepth 100000 in
theorem fwd_2 (a b c : Int) (w : World) : Calls Try.prog 53 #[.int .i64 2, .agg #[.int .i64 a, .int .i64 b, .int .i64 c]] w fun e w' => e = .returned (.agg #[.int .i64 (wrap64 (wrap64 (c + wrap64 (a - c) / 2) + wrap64 (b - wrap64 (c + wrap64 (a - c) / 2)) / 2)), .int .i64 (wrap64 (a - c)), .int .i64 (wrap64 (b - wrap64 (c + wrap64 (a - c) / 2)))]) ∧ Below w.heap.size w w' := by
  have K00 := Aside0.mk (Hold.nil w)
  go_enter Try.func53, Try.ntmps53
  go_upto_region 6 with (first
    | ((with_reducible refine gate_dst (N := 3) rfl ?_); refine box_event ?hg (N := 3) ?hd (cs := #[.int .i64 a, .int .i64 b, .int .i64 c]) (t := 95) ?hr ?_; (case hd => rfl); (case hg => rfl); (case hr => first | (go_simp; done) | (go_simp; rfl)); intro g3 hg W3 hbox hb; have K1 := Aside0.mk (K00.out.box (Nat.le_refl _) hg hbox hb trivial); clear hg hbox hb K00)
    | ((with_reducible refine gate_dst (N := 4) rfl ?_); refine box_event ?hg (N := 4) ?hd (cs := #[.int .i64 0, .int .i64 0, .int .i64 0]) (t := 95) ?hr ?_; (case hd => rfl); (case hg => rfl); (case hr => first | (go_simp; done) | (go_simp; rfl)); intro g4 hg W4 hbox hb; have K := Aside0.mk (K1.out.box (below_size K1.out.below) hg hbox hb trivial); clear hg hbox hb K1; have c0 : W4.cell? ⟨g3, 0, none⟩ = some (.int .i64 a) := K.out.cell 1 rfl 0 rfl; have c1 : W4.cell? ⟨g3, 1, none⟩ = some (.int .i64 b) := K.out.cell 1 rfl 1 rfl; have c2 : W4.cell? ⟨g3, 2, none⟩ = some (.int .i64 c) := K.out.cell 1 rfl 2 rfl))
  clear c0 c1 c2
  go_cut [6] (fun v6 wc => v6 = .int .i64 (wrap64 (c + wrap64 (a - c) / 2)) ∧ Aside0 (Hold w.heap.size w wc [(g4, 95, #[.int .i64 0, .int .i64 0, .int .i64 0]), (g3, 95, #[.int .i64 a, .int .i64 b, .int .i64 c])] []))
  case first =>
    have K' := Aside0.mk (K.out.drew)
    clear K
    have K := K'
    clear K'
    refine start_ (n := 6) (S := fun w' => w'.heap[g3]? = some (.cells #[.int .i64 a, .int .i64 b, .int .i64 c] 95 (0, 0))) (ds := []) #[false, false, false, false, false, false] (by kernel_rfl) rfl rfl (K.out.get 1 rfl) (fun hHeld0 => ?_)
    generalize hw2 : W4.drew = w2 at *
    clear hw2
    have hHeld := Aside0.mk hHeld0
    clear hHeld0
    refine pure_ (i := 0) (N := some 39) (v := ?_) (a' := ?_) #[true, false, false, false, false, false] rfl rfl (by kernel_rfl) (fun _ _ _ h => h) (Or.inl ⟨by rfl, ?_⟩) ?_ ?_
    rotate_left
    · intro w'
      go_simp
      with_reducible rfl
    rotate_left
    · simp only [Act.put, List.setIfInBounds_toArray, List.set_cons_zero, List.set_cons_succ, i64_w, i32_w]
      rfl
    refine take_ (i := 1) (N := some 40) (v := ?_) (a' := ?_) #[true, true, false, false, false, false] rfl rfl (by kernel_rfl) (fun _ _ _ h => h) (Or.inl ⟨by rfl, ?_⟩) hHeld.out ?_ ?_
    rotate_left
    · rintro w' s0
      have sx : w'.cell? ⟨g3, 2, none⟩ = some (.int .i64 c) := (blk_cell s0 2).trans rfl
      go_simp
      with_reducible rfl
    rotate_left
    · simp only [Act.put, List.setIfInBounds_toArray, List.set_cons_zero, List.set_cons_succ, i64_w, i32_w]
      rfl
    refine pure_ (i := 2) (N := some 41) (v := ?_) (a' := ?_) #[true, true, true, false, false, false] rfl rfl (by kernel_rfl) (fun _ _ _ h => h) (Or.inl ⟨by rfl, ?_⟩) ?_ ?_
    rotate_left
    · intro w'
      go_simp
      with_reducible rfl
    rotate_left
    · simp only [Act.put, List.setIfInBounds_toArray, List.set_cons_zero, List.set_cons_succ, i64_w, i32_w]
      rfl
    refine one_ (i := 3) (N := some 42) #[true, true, true, true, false, false] rfl rfl (by kernel_rfl) (by decide) (fun KC hK => ?_)
    refine goes_ Try.func74 (by kernel_rfl) rfl #[.int .i64 (wrap64 (a - c))] (by rfl) rfl rfl (by simp only [List.map_toArray, List.map_cons, List.map_nil]; rfl) ?_
    refine (color_half.calls (wrap64 (a - c)) (wrap64 (a - c) / 2) _ rfl).mono ?_
    rintro _ w3 ⟨rfl, bb⟩
    refine ⟨_, rfl, ?_⟩
    have K' := Aside0.mk (K.out.call (below_size K.out.below) bb.below)
    clear K
    have K := K'
    clear K'
    clear bb hHeld
    refine hK.out _ _ (K.out.get 1 rfl) (fun hHeld0 => ?_)
    have hHeld := Aside0.mk hHeld0
    clear hHeld0
    clear hK KC
    refine norm_ (a' := ?_) ?_ ?_
    rotate_left
    · show Act.put _ (some 42) _ = _
      simp only [Act.put, List.setIfInBounds_toArray, List.set_cons_zero, List.set_cons_succ, i64_w, i32_w]
      rfl
    refine pure_ (i := 4) (N := some 43) (v := ?_) (a' := ?_) #[true, true, true, true, true, false] rfl rfl (by kernel_rfl) (fun _ _ _ h => h) (Or.inl ⟨by rfl, ?_⟩) ?_ ?_
    rotate_left
    · intro w'
      go_simp
      with_reducible rfl
    rotate_left
    · simp only [Act.put, List.setIfInBounds_toArray, List.set_cons_zero, List.set_cons_succ, i64_w, i32_w]
      rfl
    refine pure_ (i := 5) (N := some 6) (v := ?_) (a' := ?_) #[true, true, true, true, true, true] rfl rfl (by kernel_rfl) (fun _ _ _ h => h) (Or.inl ⟨by rfl, ?_⟩) ?_ ?_
    rotate_left
    · intro w'
      go_simp
      with_reducible rfl
    rotate_left
    · simp only [Act.put, List.setIfInBounds_toArray, List.set_cons_zero, List.set_cons_succ, i64_w, i32_w]
      rfl
    refine done_ (by kernel_rfl) ?_
    clear hHeld
    go_wp2
    go_meet
    case rel => exact ⟨rfl, ⟨K.out⟩⟩
  case rest =>
  obtain ⟨rfl, K⟩ := hcut
  have c1 : wc.cell? ⟨g3, 1, none⟩ = some (.int .i64 b) := K.out.cell 1 rfl 1 rfl
  go_wp2_with (first
    | (go_at_call 74; (with_reducible refine (color_half.calls (wrap64 (b - wrap64 (c + wrap64 (a - c) / 2))) (wrap64 (b - wrap64 (c + wrap64 (a - c) / 2)) / 2) _ rfl).mono ?_); rintro _ w74 ⟨rfl, bb⟩; have K' := Aside0.mk (K.out.call (below_size K.out.below) bb.below); clear K; have K := K'; clear K'; clear bb)
    | ((with_reducible refine gate_store (t := 95) (p := 4) (v := .tmp 54) rfl ?_); refine store_ev rfl rfl 95 (.tmp 4) (.tmp 54) rfl rfl rfl (K.out.get 0 rfl) rfl rfl (by first | (kernel_rfl) | (simp [Value.oneCell'])) ?_; intro W9 hs; have K' := Aside0.mk (K.out.stored 0 rfl hs); clear K; have K := K'; clear K'; clear hs))
  refine bodyPost_ret (results_single rfl (.cell g4 95 _ (0, 0) _ rfl (K.out.get 0 rfl) Try.underlying95 rfl (by kernel_rfl) .nil)) rfl ?_
  exact ⟨rfl, K.out.below⟩
set_option maxHeartbeats 8000000 in
set_option maxRecDepth 100000 in
theorem inv_1 (a b c : Int) (w : World) : Calls Try.prog 54 #[.int .i64 1, .agg #[.int .i64 a, .int .i64 b, .int .i64 c]] w fun e w' => e = .returned (.agg #[.int .i64 (wrap64 (c + wrap64 (a - wrap64 (b + c) / 4))), .int .i64 (wrap64 (a - wrap64 (b + c) / 4)), .int .i64 (wrap64 (b + wrap64 (a - wrap64 (b + c) / 4)))]) ∧ Below w.heap.size w w' := by
  have K00 := Aside0.mk (Hold.nil w)
  go_enter Try.func54, Try.ntmps54
  go_upto_region 3 with (first
    | ((with_reducible refine gate_dst (N := 3) rfl ?_); refine box_event ?hg (N := 3) ?hd (cs := #[.int .i64 a, .int .i64 b, .int .i64 c]) (t := 95) ?hr ?_; (case hd => rfl); (case hg => rfl); (case hr => first | (go_simp; done) | (go_simp; rfl)); intro g3 hg W3 hbox hb; have K1 := Aside0.mk (K00.out.box (Nat.le_refl _) hg hbox hb trivial); clear hg hbox hb K00)
    | ((with_reducible refine gate_dst (N := 4) rfl ?_); refine box_event ?hg (N := 4) ?hd (cs := #[.int .i64 0, .int .i64 0, .int .i64 0]) (t := 95) ?hr ?_; (case hd => rfl); (case hg => rfl); (case hr => first | (go_simp; done) | (go_simp; rfl)); intro g4 hg W4 hbox hb; have K := Aside0.mk (K1.out.box (below_size K1.out.below) hg hbox hb trivial); clear hg hbox hb K1))
  go_cut [5] (fun v5 wc => v5 = .int .i64 (wrap64 (a - wrap64 (b + c) / 4)) ∧ Aside0 (Hold w.heap.size w wc [(g4, 95, #[.int .i64 0, .int .i64 0, .int .i64 0]), (g3, 95, #[.int .i64 a, .int .i64 b, .int .i64 c])] []))
  case first =>
    have K' := Aside0.mk (K.out.drew)
    clear K
    have K := K'
    clear K'
    refine start_ (n := 10) (S := fun w' => w'.heap[g3]? = some (.cells #[.int .i64 a, .int .i64 b, .int .i64 c] 95 (0, 0))) (ds := []) #[false, false, false, false, false, false, false, false, false, false] (by kernel_rfl) rfl rfl (K.out.get 1 rfl) (fun hHeld0 => ?_)
    generalize hw2 : W4.drew = w2 at *
    clear hw2
    have hHeld := Aside0.mk hHeld0
    clear hHeld0
    refine pure_ (i := 0) (N := some 11) (v := ?_) (a' := ?_) #[true, false, false, false, false, false, false, false, false, false] rfl rfl (by kernel_rfl) (fun _ _ _ h => h) (Or.inl ⟨by rfl, ?_⟩) ?_ ?_
    rotate_left
    · intro w'
      go_simp
      with_reducible rfl
    rotate_left
    · simp only [Act.put, List.setIfInBounds_toArray, List.set_cons_zero, List.set_cons_succ, i64_w, i32_w]
      rfl
    refine take_ (i := 1) (N := some 12) (v := ?_) (a' := ?_) #[true, true, false, false, false, false, false, false, false, false] rfl rfl (by kernel_rfl) (fun _ _ _ h => h) (Or.inl ⟨by rfl, ?_⟩) hHeld.out ?_ ?_
    rotate_left
    · rintro w' s0
      have sx : w'.cell? ⟨g3, 0, none⟩ = some (.int .i64 a) := (blk_cell s0 0).trans rfl
      go_simp
      with_reducible rfl
    rotate_left
    · simp only [Act.put, List.setIfInBounds_toArray, List.set_cons_zero, List.set_cons_succ, i64_w, i32_w]
      rfl
    refine pure_ (i := 2) (N := some 13) (v := ?_) (a' := ?_) #[true, true, true, false, false, false, false, false, false, false] rfl rfl (by kernel_rfl) (fun _ _ _ h => h) (Or.inl ⟨by rfl, ?_⟩) ?_ ?_
    rotate_left
    · intro w'
      go_simp
      with_reducible rfl
    rotate_left
    · simp only [Act.put, List.setIfInBounds_toArray, List.set_cons_zero, List.set_cons_succ, i64_w, i32_w]
      rfl
    refine take_ (i := 3) (N := some 14) (v := ?_) (a' := ?_) #[true, true, true, true, false, false, false, false, false, false] rfl rfl (by kernel_rfl) (fun _ _ _ h => h) (Or.inl ⟨by rfl, ?_⟩) hHeld.out ?_ ?_
    rotate_left
    · rintro w' s0
      have sx : w'.cell? ⟨g3, 1, none⟩ = some (.int .i64 b) := (blk_cell s0 1).trans rfl
      go_simp
      with_reducible rfl
    rotate_left
    · simp only [Act.put, List.setIfInBounds_toArray, List.set_cons_zero, List.set_cons_succ, i64_w, i32_w]
      rfl
    refine pure_ (i := 4) (N := some 15) (v := ?_) (a' := ?_) #[true, true, true, true, true, false, false, false, false, false] rfl rfl (by kernel_rfl) (fun _ _ _ h => h) (Or.inl ⟨by rfl, ?_⟩) ?_ ?_
    rotate_left
    · intro w'
      go_simp
      with_reducible rfl
    rotate_left
    · simp only [Act.put, List.setIfInBounds_toArray, List.set_cons_zero, List.set_cons_succ, i64_w, i32_w]
      rfl
    refine take_ (i := 5) (N := some 16) (v := ?_) (a' := ?_) #[true, true, true, true, true, true, false, false, false, false] rfl rfl (by kernel_rfl) (fun _ _ _ h => h) (Or.inl ⟨by rfl, ?_⟩) hHeld.out ?_ ?_
    rotate_left
    · rintro w' s0
      have sx : w'.cell? ⟨g3, 2, none⟩ = some (.int .i64 c) := (blk_cell s0 2).trans rfl
      go_simp
      with_reducible rfl
    rotate_left
    · simp only [Act.put, List.setIfInBounds_toArray, List.set_cons_zero, List.set_cons_succ, i64_w, i32_w]
      rfl
    refine pure_ (i := 6) (N := some 17) (v := ?_) (a' := ?_) #[true, true, true, true, true, true, true, false, false, false] rfl rfl (by kernel_rfl) (fun _ _ _ h => h) (Or.inl ⟨by rfl, ?_⟩) ?_ ?_
    rotate_left
    · intro w'
      go_simp
      with_reducible rfl
    rotate_left
    · simp only [Act.put, List.setIfInBounds_toArray, List.set_cons_zero, List.set_cons_succ, i64_w, i32_w]
      rfl
    refine one_ (i := 7) (N := some 18) #[true, true, true, true, true, true, true, true, false, false] rfl rfl (by kernel_rfl) (by decide) (fun KC hK => ?_)
    refine goes_ Try.func73 (by kernel_rfl) rfl #[.int .i64 (wrap64 (b + c))] (by rfl) rfl rfl (by simp only [List.map_toArray, List.map_cons, List.map_nil]; rfl) ?_
    refine (color_quarter.calls (wrap64 (b + c)) (wrap64 (b + c) / 4) _ rfl).mono ?_
    rintro _ w3 ⟨rfl, bb⟩
    refine ⟨_, rfl, ?_⟩
    have K' := Aside0.mk (K.out.call (below_size K.out.below) bb.below)
    clear K
    have K := K'
    clear K'
    clear bb hHeld
    refine hK.out _ _ (K.out.get 1 rfl) (fun hHeld0 => ?_)
    have hHeld := Aside0.mk hHeld0
    clear hHeld0
    clear hK KC
    refine norm_ (a' := ?_) ?_ ?_
    rotate_left
    · show Act.put _ (some 18) _ = _
      simp only [Act.put, List.setIfInBounds_toArray, List.set_cons_zero, List.set_cons_succ, i64_w, i32_w]
      rfl
    refine pure_ (i := 8) (N := some 19) (v := ?_) (a' := ?_) #[true, true, true, true, true, true, true, true, true, false] rfl rfl (by kernel_rfl) (fun _ _ _ h => h) (Or.inl ⟨by rfl, ?_⟩) ?_ ?_
    rotate_left
    · intro w'
      go_simp
      with_reducible rfl
    rotate_left
    · simp only [Act.put, List.setIfInBounds_toArray, List.set_cons_zero, List.set_cons_succ, i64_w, i32_w]
      rfl
    refine pure_ (i := 9) (N := some 5) (v := ?_) (a' := ?_) #[true, true, true, true, true, true, true, true, true, true] rfl rfl (by kernel_rfl) (fun _ _ _ h => h) (Or.inl ⟨by rfl, ?_⟩) ?_ ?_
    rotate_left
    · intro w'
      go_simp
      with_reducible rfl
    rotate_left
    · simp only [Act.put, List.setIfInBounds_toArray, List.set_cons_zero, List.set_cons_succ, i64_w, i32_w]
      rfl
    refine done_ (by kernel_rfl) ?_
    clear hHeld
    go_wp2
    go_meet
    case rel => exact ⟨rfl, ⟨K.out⟩⟩
  case rest =>
  obtain ⟨rfl, K⟩ := hcut
  have c1 : wc.cell? ⟨g3, 1, none⟩ = some (.int .i64 b) := K.out.cell 1 rfl 1 rfl
  have c2 : wc.cell? ⟨g3, 2, none⟩ = some (.int .i64 c) := K.out.cell 1 rfl 2 rfl
  go_wp2_with (first
    | ((with_reducible refine gate_store (t := 95) (p := 4) (v := .tmp 29) rfl ?_); refine store_ev rfl rfl 95 (.tmp 4) (.tmp 29) rfl rfl rfl (K.out.get 0 rfl) rfl rfl (by first | (kernel_rfl) | (simp [Value.oneCell'])) ?_; intro W9 hs; have K' := Aside0.mk (K.out.stored 0 rfl hs); clear K; have K := K'; clear K'; clear hs))
  refine bodyPost_ret (results_single rfl (.cell g4 95 _ (0, 0) _ rfl (K.out.get 0 rfl) Try.underlying95 rfl (by kernel_rfl) .nil)) rfl ?_
  exact ⟨rfl, K.out.below⟩
set_option maxHeartbeats 8000000 in
set_option maxRecDepth 100000 in
theorem inv_2 (a b c : Int) (w : World) : Calls Try.prog 54 #[.int .i64 2, .agg #[.int .i64 a, .int .i64 b, .int .i64 c]] w fun e w' => e = .returned (.agg #[.int .i64 (wrap64 (wrap64 (wrap64 (a - c / 2) - b / 2) + b)), .int .i64 (wrap64 (c + wrap64 (a - c / 2))), .int .i64 (wrap64 (wrap64 (a - c / 2) - b / 2))]) ∧ Below w.heap.size w w' := by
  have K00 := Aside0.mk (Hold.nil w)
  go_enter Try.func54, Try.ntmps54
  go_upto_region 6 with (first
    | ((with_reducible refine gate_dst (N := 3) rfl ?_); refine box_event ?hg (N := 3) ?hd (cs := #[.int .i64 a, .int .i64 b, .int .i64 c]) (t := 95) ?hr ?_; (case hd => rfl); (case hg => rfl); (case hr => first | (go_simp; done) | (go_simp; rfl)); intro g3 hg W3 hbox hb; have K1 := Aside0.mk (K00.out.box (Nat.le_refl _) hg hbox hb trivial); clear hg hbox hb K00)
    | ((with_reducible refine gate_dst (N := 4) rfl ?_); refine box_event ?hg (N := 4) ?hd (cs := #[.int .i64 0, .int .i64 0, .int .i64 0]) (t := 95) ?hr ?_; (case hd => rfl); (case hg => rfl); (case hr => first | (go_simp; done) | (go_simp; rfl)); intro g4 hg W4 hbox hb; have K := Aside0.mk (K1.out.box (below_size K1.out.below) hg hbox hb trivial); clear hg hbox hb K1))
  go_cut [6] (fun v6 wc => v6 = .int .i64 (wrap64 (a - c / 2)) ∧ Aside0 (Hold w.heap.size w wc [(g4, 95, #[.int .i64 0, .int .i64 0, .int .i64 0]), (g3, 95, #[.int .i64 a, .int .i64 b, .int .i64 c])] []))
  case first =>
    have K' := Aside0.mk (K.out.drew)
    clear K
    have K := K'
    clear K'
    refine start_ (n := 7) (S := fun w' => w'.heap[g3]? = some (.cells #[.int .i64 a, .int .i64 b, .int .i64 c] 95 (0, 0))) (ds := []) #[false, false, false, false, false, false, false] (by kernel_rfl) rfl rfl (K.out.get 1 rfl) (fun hHeld0 => ?_)
    generalize hw2 : W4.drew = w2 at *
    clear hw2
    have hHeld := Aside0.mk hHeld0
    clear hHeld0
    refine pure_ (i := 0) (N := some 32) (v := ?_) (a' := ?_) #[true, false, false, false, false, false, false] rfl rfl (by kernel_rfl) (fun _ _ _ h => h) (Or.inl ⟨by rfl, ?_⟩) ?_ ?_
    rotate_left
    · intro w'
      go_simp
      with_reducible rfl
    rotate_left
    · simp only [Act.put, List.setIfInBounds_toArray, List.set_cons_zero, List.set_cons_succ, i64_w, i32_w]
      rfl
    refine take_ (i := 1) (N := some 33) (v := ?_) (a' := ?_) #[true, true, false, false, false, false, false] rfl rfl (by kernel_rfl) (fun _ _ _ h => h) (Or.inl ⟨by rfl, ?_⟩) hHeld.out ?_ ?_
    rotate_left
    · rintro w' s0
      have sx : w'.cell? ⟨g3, 0, none⟩ = some (.int .i64 a) := (blk_cell s0 0).trans rfl
      go_simp
      with_reducible rfl
    rotate_left
    · simp only [Act.put, List.setIfInBounds_toArray, List.set_cons_zero, List.set_cons_succ, i64_w, i32_w]
      rfl
    refine pure_ (i := 2) (N := some 34) (v := ?_) (a' := ?_) #[true, true, true, false, false, false, false] rfl rfl (by kernel_rfl) (fun _ _ _ h => h) (Or.inl ⟨by rfl, ?_⟩) ?_ ?_
    rotate_left
    · intro w'
      go_simp
      with_reducible rfl
    rotate_left
    · simp only [Act.put, List.setIfInBounds_toArray, List.set_cons_zero, List.set_cons_succ, i64_w, i32_w]
      rfl
    refine take_ (i := 3) (N := some 35) (v := ?_) (a' := ?_) #[true, true, true, true, false, false, false] rfl rfl (by kernel_rfl) (fun _ _ _ h => h) (Or.inl ⟨by rfl, ?_⟩) hHeld.out ?_ ?_
    rotate_left
    · rintro w' s0
      have sx : w'.cell? ⟨g3, 2, none⟩ = some (.int .i64 c) := (blk_cell s0 2).trans rfl
      go_simp
      with_reducible rfl
    rotate_left
    · simp only [Act.put, List.setIfInBounds_toArray, List.set_cons_zero, List.set_cons_succ, i64_w, i32_w]
      rfl
    refine one_ (i := 4) (N := some 36) #[true, true, true, true, true, false, false] rfl rfl (by kernel_rfl) (by decide) (fun KC hK => ?_)
    refine goes_ Try.func74 (by kernel_rfl) rfl #[.int .i64 (c)] (by rfl) rfl rfl (by simp only [List.map_toArray, List.map_cons, List.map_nil]; rfl) ?_
    refine (color_half.calls (c) (c / 2) _ rfl).mono ?_
    rintro _ w3 ⟨rfl, bb⟩
    refine ⟨_, rfl, ?_⟩
    have K' := Aside0.mk (K.out.call (below_size K.out.below) bb.below)
    clear K
    have K := K'
    clear K'
    clear bb hHeld
    refine hK.out _ _ (K.out.get 1 rfl) (fun hHeld0 => ?_)
    have hHeld := Aside0.mk hHeld0
    clear hHeld0
    clear hK KC
    refine norm_ (a' := ?_) ?_ ?_
    rotate_left
    · show Act.put _ (some 36) _ = _
      simp only [Act.put, List.setIfInBounds_toArray, List.set_cons_zero, List.set_cons_succ, i64_w, i32_w]
      rfl
    refine pure_ (i := 5) (N := some 37) (v := ?_) (a' := ?_) #[true, true, true, true, true, true, false] rfl rfl (by kernel_rfl) (fun _ _ _ h => h) (Or.inl ⟨by rfl, ?_⟩) ?_ ?_
    rotate_left
    · intro w'
      go_simp
      with_reducible rfl
    rotate_left
    · simp only [Act.put, List.setIfInBounds_toArray, List.set_cons_zero, List.set_cons_succ, i64_w, i32_w]
      rfl
    refine pure_ (i := 6) (N := some 6) (v := ?_) (a' := ?_) #[true, true, true, true, true, true, true] rfl rfl (by kernel_rfl) (fun _ _ _ h => h) (Or.inl ⟨by rfl, ?_⟩) ?_ ?_
    rotate_left
    · intro w'
      go_simp
      with_reducible rfl
    rotate_left
    · simp only [Act.put, List.setIfInBounds_toArray, List.set_cons_zero, List.set_cons_succ, i64_w, i32_w]
      rfl
    refine done_ (by kernel_rfl) ?_
    clear hHeld
    go_wp2
    go_meet
    case rel => exact ⟨rfl, ⟨K.out⟩⟩
  case rest =>
  obtain ⟨rfl, K⟩ := hcut
  have c1 : wc.cell? ⟨g3, 1, none⟩ = some (.int .i64 b) := K.out.cell 1 rfl 1 rfl
  have c2 : wc.cell? ⟨g3, 2, none⟩ = some (.int .i64 c) := K.out.cell 1 rfl 2 rfl
  go_wp2_with (first
    | (go_at_call 74; (with_reducible refine (color_half.calls b (b / 2) _ rfl).mono ?_); rintro _ w74 ⟨rfl, bb⟩; have K' := Aside0.mk (K.out.call (below_size K.out.below) bb.below); clear K; have K := K'; clear K'; clear bb; have d1 : w74.cell? ⟨g3, 1, none⟩ = some (.int .i64 b) := K.out.cell 1 rfl 1 rfl; have d2 : w74.cell? ⟨g3, 2, none⟩ = some (.int .i64 c) := K.out.cell 1 rfl 2 rfl)
    | ((with_reducible refine gate_store (t := 95) (p := 4) (v := .tmp 52) rfl ?_); refine store_ev rfl rfl 95 (.tmp 4) (.tmp 52) rfl rfl rfl (K.out.get 0 rfl) rfl rfl (by first | (kernel_rfl) | (simp [Value.oneCell'])) ?_; intro W9 hs; have K' := Aside0.mk (K.out.stored 0 rfl hs); clear K; have K := K'; clear K'; clear hs))
  refine bodyPost_ret (results_single rfl (.cell g4 95 _ (0, 0) _ rfl (K.out.get 0 rfl) Try.underlying95 rfl (by kernel_rfl) .nil)) rfl ?_
  exact ⟨rfl, K.out.below⟩
theorem fwd_pix : PixFn 53 fwdPx := by
  intro t a b c w ht
  rcases ht with rfl | rfl | rfl
  · exact fwd_0 a b c w
  · exact fwd_1 a b c w
  · exact fwd_2 a b c w
theorem inv_pix : PixFn 54 invPx := by
  intro t a b c w ht
  rcases ht with rfl | rfl | rfl
  · exact inv_0 a b c w
  · exact inv_1 a b c w
  · exact inv_2 a b c w
end Go.Proofs.Ytcnpekpgghppnaa.Q
