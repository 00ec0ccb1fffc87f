/- Texts of this session (words and printed walks, merged by wip/tools/merge.py) for the statement of the claim. -/
import Derived.Test.YtihfopblmjgfaaaMEnc1
import Derived.Test.YtihfopblmjgfaaaMEnc6
/- Printed walk, shortened (wip/tools/unmerge.py). -/
namespace Go.Proofs.Ytihfopblmjgfaaa.Q
open Go.RowKit Go.Proofs.YtihfopblmjgfaaaW.PrintWords Go.Proofs.YtihfopblmjgfaaaW.PrintLast Go.Proofs.YtihfopblmjgfaaaW.PrintMore
attribute [local go_sem] max2_int min2_int max_two min_two max_three min_three max_four min_four   -- for this text's walks alone
set_option linter.unusedVariables false
set_option linter.unusedSimpArgs false

/-! ### waveletlaw29_same: function 42 -/
def waveletlaw29_same.l0 : Nat → List Int → List Int → Int → Int → Option (Bool)
  | 0, _, _, _, _ => none
  | k + 1, x0, x1, x12, x13 => if x13 < x12 then (if 0 ≤ x13 then (if x13 < (x0.length : Int) then (if x13 < (x1.length : Int) then (if (rd x0 x13) = (rd x1 x13) then (waveletlaw29_same.l0 k x0 x1 x12 (wrap64 (x13 + 1))) else (some false)) else (none)) else (none)) else (none)) else (some true)
def waveletlaw29_same.f (k : Nat) (l0 : List Int) (l1 : List Int) : Option (Bool) := if (l0.length : Int) = (l1.length : Int) then (waveletlaw29_same.l0 k l0 l1 (l0.length : Int) 0) else (some false)
theorem waveletlaw29_same.mono_l : ∀ k, (∀ y0 y1 y2 y3, LeO (waveletlaw29_same.l0 k y0 y1 y2 y3) (waveletlaw29_same.l0 (k + 1) y0 y1 y2 y3))
  | 0 => fun _ _ _ _ r h => by simp [waveletlaw29_same.l0] at h
  | k + 1 => by
    have ih0 := waveletlaw29_same.mono_l k
    · intro y0 y1 y2 y3
      unfold waveletlaw29_same.l0
      repeat' first
      | (with_reducible exact ih0 _ _ _ _)
      | (with_reducible exact LeO.refl _)
      | (with_reducible exact LeO.none _)
      | (with_reducible refine LeO.ite ?_ ?_)
      | (with_reducible refine LeO.bind ?_ (fun _ => ?_))
      | exact ih0 _ _ _ _
      | exact LeO.none _
      | refine LeO.ite ?_ ?_
      | refine LeO.bind ?_ (fun _ => ?_)
theorem waveletlaw29_same.mono : ∀ a0 a1 k, LeO (waveletlaw29_same.f k a0 a1) (waveletlaw29_same.f (k + 1) a0 a1) := by
  intro a0 a1 k
  have ih0 := waveletlaw29_same.mono_l k
  unfold waveletlaw29_same.f
  repeat' first
      | (with_reducible exact ih0 _ _ _ _)
      | (with_reducible exact LeO.refl _)
      | (with_reducible exact LeO.none _)
      | (with_reducible refine LeO.ite ?_ ?_)
      | (with_reducible refine LeO.bind ?_ (fun _ => ?_))
      | exact ih0 _ _ _ _
      | exact LeO.none _
      | refine LeO.ite ?_ ?_
      | refine LeO.bind ?_ (fun _ => ?_)
set_option maxHeartbeats 8000000 in
set_option maxRecDepth 100000 in
theorem waveletlaw29_same.calls (k : Nat) (A0 : Option Addr) (c0 : Nat) (l0 : List Int) (A1 : Option Addr) (c1 : Nat) (l1 : List Int) (r : Bool) (w : World) (hr0 : Kd.C (Kd.int .u8) w A0 l0.length l0) (hc0 : l0.length ≤ c0) (hr1 : Kd.C (Kd.int .u8) w A1 l1.length l1) (hc1 : l1.length ≤ c1) (h : waveletlaw29_same.f k l0 l1 = some r) :
    Calls Try.prog 42 #[.slice A0 l0.length c0, .slice A1 l1.length c1] w fun e w' => e = .returned (.bool r) ∧ Drawn0 w w' := by
  have HR0 := Aside0.mk hr0
  have HC0 := Aside0.mk hc0
  clear hr0 hc0
  have HR1 := Aside0.mk hr1
  have HC1 := Aside0.mk hc1
  clear hr1 hc1
  have H : (if (l0.length : Int) = (l1.length : Int) then (waveletlaw29_same.l0 k l0 l1 (l0.length : Int) 0) else (some false)) = some r := h
  clear h
  by_cases c3 : (l0.length : Int) = (l1.length : Int)
  · rw [if_pos c3] at H
    have c3b0 : ((l0.length : Int) == (l1.length : Int)) = true := beq_iff_eq.mpr c3
    have c3b1 : ((l0.length : Int) != (l1.length : Int)) = false := bne_eq_false_iff_eq.mpr c3
    have c3b2 : (l0.length == l1.length) = true := by first | simpa using c3 | (simp at c3 ⊢; omega)
    clear c3
    have H' := Aside0.mk H
    clear H
    go_enter Try.func42, Try.ntmps42
    go_wp2
    repeat (go_quiet (fail); try go_wp2)
    go_loopg [13] k (fun kq v13 w' => ∃ (x13_1 : Int), v13 = .int .i64 x13_1 ∧ Aside0 (waveletlaw29_same.l0 kq l0 l1 (l0.length : Int) x13_1 = some r) ∧ Aside0 (kq ≤ k) ∧ Drawn0 w w')
    case atStart => exact ⟨(0), (by first | rfl | (simp; done) | (simp [*]; done)), H', ⟨Nat.le_refl _⟩, by repeat (first | exact Drawn0.refl _ | apply Drawn0.step)⟩
    case round =>
      clear H'
      try clear c1
      try clear p2
      try clear c3
      try clear c3b0
      try clear c3b1
      try clear c3b2
      obtain ⟨x13_1, rfl, HA, HK1, ⟨m1, rfl⟩⟩ := hrel
      cases gk with
      | zero => exact absurd HA.out (by simp [waveletlaw29_same.l0])
      | succ k1 =>
        have H := HA.out
        clear HA
        simp only [waveletlaw29_same.l0] at H
        by_cases c4 : x13_1 < (l0.length : Int)
        · rw [if_pos c4] at H
          have c4b0 : decide (x13_1 < (l0.length : Int)) = true := decide_eq_true c4
          clear c4
          by_cases c5 : 0 ≤ x13_1
          · rw [if_pos c5] at H
            have c5b0 : decide (0 ≤ x13_1) = true := decide_eq_true c5
            clear c5
            by_cases c6 : x13_1 < (l0.length : Int)
            · rw [if_pos c6] at H
              have c6b0 : decide (x13_1 < (l0.length : Int)) = true := decide_eq_true c6
              clear c6
              by_cases c7 : x13_1 < (l1.length : Int)
              · rw [if_pos c7] at H
                have c7b0 : decide (x13_1 < (l1.length : Int)) = true := decide_eq_true c7
                clear c7
                by_cases c8 : (rd l0 x13_1) = (rd l1 x13_1)
                · rw [if_pos c8] at H
                  have c8b0 : ((rd l0 x13_1) == (rd l1 x13_1)) = true := beq_iff_eq.mpr c8
                  have c8b1 : ((rd l0 x13_1) != (rd l1 x13_1)) = false := bne_eq_false_iff_eq.mpr c8
                  clear c8
                  have H' := Aside0.mk H
                  clear H
                  have p165 : 0 ≤ (x13_1 : Int) := of_decide_eq_true (by first | (with_reducible assumption) | assumption)
                  have q165 : x13_1 < (l0.length : Int) := of_decide_eq_true (by first | (with_reducible assumption) | assumption)
                  obtain ⟨ad165, e165, hx165_0⟩ := Kd.at_int HR0.out x13_1 p165 q165
                  cases e165
                  replace p165 := eq_true p165
                  replace q165 := eq_true q165
                  have p166 : 0 ≤ (x13_1 : Int) := of_decide_eq_true (by first | (with_reducible assumption) | assumption)
                  have q166 : x13_1 < (l1.length : Int) := of_decide_eq_true (by first | (with_reducible assumption) | assumption)
                  obtain ⟨ad166, e166, hx166_0⟩ := Kd.at_int HR1.out x13_1 p166 q166
                  cases e166
                  replace p166 := eq_true p166
                  replace q166 := eq_true q166
                  go_wp2
                  repeat (go_quiet (fail); try go_wp2)
                  go_roundg k1
                  case measure => have := HK1.out; omega
                  case rel => exact ⟨(wrap64 (x13_1 + 1)), (by first | rfl | (simp; done) | (simp [*]; done)), H', ⟨by have := HK1.out; omega⟩, by repeat (first | exact Drawn0.refl _ | apply Drawn0.step)⟩
                · rw [if_neg c8] at H
                  have c8b0 : ((rd l0 x13_1) == (rd l1 x13_1)) = false := beq_eq_false_iff_ne.mpr c8
                  have c8b1 : ((rd l0 x13_1) != (rd l1 x13_1)) = true := bne_iff_ne.mpr c8
                  obtain rfl := Option.some.inj H
                  have p165 : 0 ≤ (x13_1 : Int) := of_decide_eq_true (by first | (with_reducible assumption) | assumption)
                  have q165 : x13_1 < (l0.length : Int) := of_decide_eq_true (by first | (with_reducible assumption) | assumption)
                  obtain ⟨ad165, e165, hx165_0⟩ := Kd.at_int HR0.out x13_1 p165 q165
                  cases e165
                  replace p165 := eq_true p165
                  replace q165 := eq_true q165
                  have p166 : 0 ≤ (x13_1 : Int) := of_decide_eq_true (by first | (with_reducible assumption) | assumption)
                  have q166 : x13_1 < (l1.length : Int) := of_decide_eq_true (by first | (with_reducible assumption) | assumption)
                  obtain ⟨ad166, e166, hx166_0⟩ := Kd.at_int HR1.out x13_1 p166 q166
                  cases e166
                  replace p166 := eq_true p166
                  replace q166 := eq_true q166
                  go_wp2
                  repeat (go_quiet (fail); try go_wp2)
                  go_ret
                  exact ⟨by first | rfl | (simp; done) | (simp [*]; done), by repeat (first | exact Drawn0.refl _ | apply Drawn0.step)⟩
              · rw [if_neg c7] at H
                exact absurd H (by simp)
            · rw [if_neg c6] at H
              exact absurd H (by simp)
          · rw [if_neg c5] at H
            exact absurd H (by simp)
        · rw [if_neg c4] at H
          have c4b0 : decide (x13_1 < (l0.length : Int)) = false := decide_eq_false c4
          clear c4
          obtain rfl := Option.some.inj H
          go_wp2
          repeat (go_quiet (fail); try go_wp2)
          go_ret
          exact ⟨by first | rfl | (simp; done) | (simp [*]; done), by repeat (first | exact Drawn0.refl _ | apply Drawn0.step)⟩
  · rw [if_neg c3] at H
    have c3b0 : ((l0.length : Int) == (l1.length : Int)) = false := beq_eq_false_iff_ne.mpr c3
    have c3b1 : ((l0.length : Int) != (l1.length : Int)) = true := bne_iff_ne.mpr c3
    have c3b2 : (l0.length == l1.length) = false := by first | simpa using c3 | (simp at c3 ⊢; omega)
    obtain rfl := Option.some.inj H
    go_enter Try.func42, Try.ntmps42
    go_wp2
    repeat (go_quiet (fail); try go_wp2)
    go_ret
    exact ⟨by first | rfl | (simp; done) | (simp [*]; done), by repeat (first | exact Drawn0.refl _ | apply Drawn0.step)⟩

end Go.Proofs.Ytihfopblmjgfaaa.Q

/- Printed walk, shortened (wip/tools/unmerge.py). -/
namespace Go.Proofs.Ytihfopblmjgfaaa.Q
open Go.RowKit Go.Proofs.YtihfopblmjgfaaaW.PrintWords Go.Proofs.YtihfopblmjgfaaaW.PrintLast Go.Proofs.YtihfopblmjgfaaaW.PrintMore
attribute [local go_sem] max2_int min2_int max_two min_two max_three min_three max_four min_four   -- for this text's walks alone
set_option linter.unusedVariables false
set_option linter.unusedSimpArgs false

/-! ### waveletlaw29_awake: function 12 -/
def waveletlaw29_awake.f (k : Nat)  : Option (Bool) := (headseg_Quant.f k 0 0 0 0 0 ([] : List (S89)) 0 0 false false false false false false false false (([1, 256] : List Int)) 16 0).bind fun bt170 => ((headseg_Tile.f k 1 0 2 300).bind fun bt176 => ((headseg_Lengths.f k 65445 ([] : List Int)).bind fun bt182 => ((headseg_ParseTile.f k bt176.1 bt176.2.1).bind fun bt186 => ((waveletlaw29_same.f k bt170.2.1 (([16, 2, 0, 0, 0, 255] : List Int))).bind fun t194 => (if t194 = true then ((waveletlaw29_same.f k bt176.2.1 (([0, 1, 0, 2, 0, 0, 1, 44] : List Int))).bind fun t198 => (if t198 = true then (if (bt182.1.length : Int) = 1 then (if 0 < (bt182.1.length : Int) then ((waveletlaw29_same.f k ((rd_T26 bt182.1 0).f1) (([0] : List Int))).bind fun t203 => (if t203 = true then (if bt170.2.2 = 0 then (if bt176.2.2 = 0 then (if bt182.2 = 0 then (if bt186.2.2.2.2 = 0 then (if bt186.1 = 1 then (if bt186.2.1 = 0 then (if bt186.2.2.1 = 2 then (if bt186.2.2.2.1 = 300 then (if bt170.1 = 65443 then (some (bt176.1 == 65456)) else (some false)) else (some false)) else (some false)) else (some false)) else (some false)) else (some false)) else (some false)) else (some false)) else (some false)) else (some false))) else (none)) else (some false)) else (some false))) else (some false))))))
theorem waveletlaw29_awake.mono : ∀ k, LeO (waveletlaw29_awake.f k ) (waveletlaw29_awake.f (k + 1) ) := by
  intro  k
  unfold waveletlaw29_awake.f
  repeat' first
      | (with_reducible exact headseg_Lengths.mono _ _ _)
      | (with_reducible exact headseg_ParseTile.mono _ _ _)
      | (with_reducible exact headseg_Quant.mono _ _ _ _ _ _ _ _ _ _ _ _ _ _ _ _ _ _ _ _)
      | (with_reducible exact headseg_Tile.mono _ _ _ _ _)
      | (with_reducible exact waveletlaw29_same.mono _ _ _)
      | (with_reducible exact LeO.refl _)
      | (with_reducible exact LeO.none _)
      | (with_reducible refine LeO.ite ?_ ?_)
      | (with_reducible refine LeO.bind ?_ (fun _ => ?_))
      | exact headseg_Lengths.mono _ _ _
      | exact headseg_ParseTile.mono _ _ _
      | exact headseg_Quant.mono _ _ _ _ _ _ _ _ _ _ _ _ _ _ _ _ _ _ _ _
      | exact headseg_Tile.mono _ _ _ _ _
      | exact waveletlaw29_same.mono _ _ _
      | exact LeO.none _
      | refine LeO.ite ?_ ?_
      | refine LeO.bind ?_ (fun _ => ?_)
set_option maxHeartbeats 8000000 in
set_option maxRecDepth 100000 in
theorem waveletlaw29_awake.calls_ (k : Nat)  (r : Bool) (hr_ : r = true) (w : World) (h : waveletlaw29_awake.f k  = some r) :
    Calls Try.prog 12 #[] w fun e w' => e = .returned (.bool r) ∧ Below w.heap.size w w' := by
  have hu55 := Try.underlying55
  have hu26 := Try.underlying26
  have HB := Aside0.mk (Below.refl w.heap.size w)
  have H : ((headseg_Quant.f k 0 0 0 0 0 ([] : List (S89)) 0 0 false false false false false false false false (([1, 256] : List Int)) 16 0).bind fun bt170 => ((headseg_Tile.f k 1 0 2 300).bind fun bt176 => ((headseg_Lengths.f k 65445 ([] : List Int)).bind fun bt182 => ((headseg_ParseTile.f k bt176.1 bt176.2.1).bind fun bt186 => ((waveletlaw29_same.f k bt170.2.1 (([16, 2, 0, 0, 0, 255] : List Int))).bind fun t194 => (if t194 = true then ((waveletlaw29_same.f k bt176.2.1 (([0, 1, 0, 2, 0, 0, 1, 44] : List Int))).bind fun t198 => (if t198 = true then (if (bt182.1.length : Int) = 1 then (if 0 < (bt182.1.length : Int) then ((waveletlaw29_same.f k ((rd_T26 bt182.1 0).f1) (([0] : List Int))).bind fun t203 => (if t203 = true then (if bt170.2.2 = 0 then (if bt176.2.2 = 0 then (if bt182.2 = 0 then (if bt186.2.2.2.2 = 0 then (if bt186.1 = 1 then (if bt186.2.1 = 0 then (if bt186.2.2.1 = 2 then (if bt186.2.2.2.1 = 300 then (if bt170.1 = 65443 then (some (bt176.1 == 65456)) else (some false)) else (some false)) else (some false)) else (some false)) else (some false)) else (some false)) else (some false)) else (some false)) else (some false)) else (some false))) else (none)) else (some false)) else (some false))) else (some false))))))) = some r := h
  clear h
  obtain ⟨y167, hy167⟩ : ∃ y_ : List Int, y_ = (([1, 256] : List Int)) := ⟨_, rfl⟩
  replace H : ((headseg_Quant.f k 0 0 0 0 0 ([] : List (S89)) 0 0 false false false false false false false false y167 16 0).bind fun bt170 => ((headseg_Tile.f k 1 0 2 300).bind fun bt176 => ((headseg_Lengths.f k 65445 ([] : List Int)).bind fun bt182 => ((headseg_ParseTile.f k bt176.1 bt176.2.1).bind fun bt186 => ((waveletlaw29_same.f k bt170.2.1 (([16, 2, 0, 0, 0, 255] : List Int))).bind fun t194 => (if t194 = true then ((waveletlaw29_same.f k bt176.2.1 (([0, 1, 0, 2, 0, 0, 1, 44] : List Int))).bind fun t198 => (if t198 = true then (if (bt182.1.length : Int) = 1 then (if 0 < (bt182.1.length : Int) then ((waveletlaw29_same.f k ((rd_T26 bt182.1 0).f1) (([0] : List Int))).bind fun t203 => (if t203 = true then (if bt170.2.2 = 0 then (if bt176.2.2 = 0 then (if bt182.2 = 0 then (if bt186.2.2.2.2 = 0 then (if bt186.1 = 1 then (if bt186.2.1 = 0 then (if bt186.2.2.1 = 2 then (if bt186.2.2.2.1 = 300 then (if bt170.1 = 65443 then (some (bt176.1 == 65456)) else (some false)) else (some false)) else (some false)) else (some false)) else (some false)) else (some false)) else (some false)) else (some false)) else (some false)) else (some false))) else (none)) else (some false)) else (some false))) else (some false))))))) = some r := by first | (rw [hy167]; with_reducible exact H) | (have H2_ := (Option.bind_some _ _).symm.trans H; rw [hy167]; with_reducible exact H2_) | (have H2_ := (Option.bind_some _ _).symm.trans H; with_reducible exact H2_) | with_reducible exact H | (rw [hy167]; exact H) | exact H
  have Ny167 := Aside0.mk hy167
  clear hy167
  replace H := Option.bind_eq_some_iff.mp H
  obtain ⟨⟨t170, t171, t174⟩, A10, H⟩ := H
  replace H : ((headseg_Tile.f k 1 0 2 300).bind fun bt176 => ((headseg_Lengths.f k 65445 ([] : List Int)).bind fun bt182 => ((headseg_ParseTile.f k bt176.1 bt176.2.1).bind fun bt186 => ((waveletlaw29_same.f k t171 (([16, 2, 0, 0, 0, 255] : List Int))).bind fun t194 => (if t194 = true then ((waveletlaw29_same.f k bt176.2.1 (([0, 1, 0, 2, 0, 0, 1, 44] : List Int))).bind fun t198 => (if t198 = true then (if (bt182.1.length : Int) = 1 then (if 0 < (bt182.1.length : Int) then ((waveletlaw29_same.f k ((rd_T26 bt182.1 0).f1) (([0] : List Int))).bind fun t203 => (if t203 = true then (if t174 = 0 then (if bt176.2.2 = 0 then (if bt182.2 = 0 then (if bt186.2.2.2.2 = 0 then (if bt186.1 = 1 then (if bt186.2.1 = 0 then (if bt186.2.2.1 = 2 then (if bt186.2.2.2.1 = 300 then (if t170 = 65443 then (some (bt176.1 == 65456)) else (some false)) else (some false)) else (some false)) else (some false)) else (some false)) else (some false)) else (some false)) else (some false)) else (some false)) else (some false))) else (none)) else (some false)) else (some false))) else (some false)))))) = some r := H
  have A1 := Aside0.mk A10
  clear A10
  replace H := Option.bind_eq_some_iff.mp H
  obtain ⟨⟨t176, t177, t180⟩, A20, H⟩ := H
  replace H : ((headseg_Lengths.f k 65445 ([] : List Int)).bind fun bt182 => ((headseg_ParseTile.f k t176 t177).bind fun bt186 => ((waveletlaw29_same.f k t171 (([16, 2, 0, 0, 0, 255] : List Int))).bind fun t194 => (if t194 = true then ((waveletlaw29_same.f k t177 (([0, 1, 0, 2, 0, 0, 1, 44] : List Int))).bind fun t198 => (if t198 = true then (if (bt182.1.length : Int) = 1 then (if 0 < (bt182.1.length : Int) then ((waveletlaw29_same.f k ((rd_T26 bt182.1 0).f1) (([0] : List Int))).bind fun t203 => (if t203 = true then (if t174 = 0 then (if t180 = 0 then (if bt182.2 = 0 then (if bt186.2.2.2.2 = 0 then (if bt186.1 = 1 then (if bt186.2.1 = 0 then (if bt186.2.2.1 = 2 then (if bt186.2.2.2.1 = 300 then (if t170 = 65443 then (some (t176 == 65456)) else (some false)) else (some false)) else (some false)) else (some false)) else (some false)) else (some false)) else (some false)) else (some false)) else (some false)) else (some false))) else (none)) else (some false)) else (some false))) else (some false))))) = some r := H
  have A2 := Aside0.mk A20
  clear A20
  replace H := Option.bind_eq_some_iff.mp H
  obtain ⟨⟨t182, t183⟩, A30, H⟩ := H
  replace H : ((headseg_ParseTile.f k t176 t177).bind fun bt186 => ((waveletlaw29_same.f k t171 (([16, 2, 0, 0, 0, 255] : List Int))).bind fun t194 => (if t194 = true then ((waveletlaw29_same.f k t177 (([0, 1, 0, 2, 0, 0, 1, 44] : List Int))).bind fun t198 => (if t198 = true then (if (t182.length : Int) = 1 then (if 0 < (t182.length : Int) then ((waveletlaw29_same.f k ((rd_T26 t182 0).f1) (([0] : List Int))).bind fun t203 => (if t203 = true then (if t174 = 0 then (if t180 = 0 then (if t183 = 0 then (if bt186.2.2.2.2 = 0 then (if bt186.1 = 1 then (if bt186.2.1 = 0 then (if bt186.2.2.1 = 2 then (if bt186.2.2.2.1 = 300 then (if t170 = 65443 then (some (t176 == 65456)) else (some false)) else (some false)) else (some false)) else (some false)) else (some false)) else (some false)) else (some false)) else (some false)) else (some false)) else (some false))) else (none)) else (some false)) else (some false))) else (some false)))) = some r := H
  have A3 := Aside0.mk A30
  clear A30
  replace H := Option.bind_eq_some_iff.mp H
  obtain ⟨⟨t186, t187, t188, t189, t190⟩, A40, H⟩ := H
  replace H : ((waveletlaw29_same.f k t171 (([16, 2, 0, 0, 0, 255] : List Int))).bind fun t194 => (if t194 = true then ((waveletlaw29_same.f k t177 (([0, 1, 0, 2, 0, 0, 1, 44] : List Int))).bind fun t198 => (if t198 = true then (if (t182.length : Int) = 1 then (if 0 < (t182.length : Int) then ((waveletlaw29_same.f k ((rd_T26 t182 0).f1) (([0] : List Int))).bind fun t203 => (if t203 = true then (if t174 = 0 then (if t180 = 0 then (if t183 = 0 then (if t190 = 0 then (if t186 = 1 then (if t187 = 0 then (if t188 = 2 then (if t189 = 300 then (if t170 = 65443 then (some (t176 == 65456)) else (some false)) else (some false)) else (some false)) else (some false)) else (some false)) else (some false)) else (some false)) else (some false)) else (some false)) else (some false))) else (none)) else (some false)) else (some false))) else (some false))) = some r := H
  have A4 := Aside0.mk A40
  clear A40
  obtain ⟨y191, hy191⟩ : ∃ y_ : List Int, y_ = (([16, 2, 0, 0, 0, 255] : List Int)) := ⟨_, rfl⟩
  replace H : ((waveletlaw29_same.f k t171 y191).bind fun t194 => (if t194 = true then ((waveletlaw29_same.f k t177 (([0, 1, 0, 2, 0, 0, 1, 44] : List Int))).bind fun t198 => (if t198 = true then (if (t182.length : Int) = 1 then (if 0 < (t182.length : Int) then ((waveletlaw29_same.f k ((rd_T26 t182 0).f1) (([0] : List Int))).bind fun t203 => (if t203 = true then (if t174 = 0 then (if t180 = 0 then (if t183 = 0 then (if t190 = 0 then (if t186 = 1 then (if t187 = 0 then (if t188 = 2 then (if t189 = 300 then (if t170 = 65443 then (some (t176 == 65456)) else (some false)) else (some false)) else (some false)) else (some false)) else (some false)) else (some false)) else (some false)) else (some false)) else (some false)) else (some false))) else (none)) else (some false)) else (some false))) else (some false))) = some r := by first | (rw [hy191]; with_reducible exact H) | (have H2_ := (Option.bind_some _ _).symm.trans H; rw [hy191]; with_reducible exact H2_) | (have H2_ := (Option.bind_some _ _).symm.trans H; with_reducible exact H2_) | with_reducible exact H | (rw [hy191]; exact H) | exact H
  have Ny191 := Aside0.mk hy191
  clear hy191
  replace H := Option.bind_eq_some_iff.mp H
  obtain ⟨t194, A50, H⟩ := H
  replace H : (if t194 = true then ((waveletlaw29_same.f k t177 (([0, 1, 0, 2, 0, 0, 1, 44] : List Int))).bind fun t198 => (if t198 = true then (if (t182.length : Int) = 1 then (if 0 < (t182.length : Int) then ((waveletlaw29_same.f k ((rd_T26 t182 0).f1) (([0] : List Int))).bind fun t203 => (if t203 = true then (if t174 = 0 then (if t180 = 0 then (if t183 = 0 then (if t190 = 0 then (if t186 = 1 then (if t187 = 0 then (if t188 = 2 then (if t189 = 300 then (if t170 = 65443 then (some (t176 == 65456)) else (some false)) else (some false)) else (some false)) else (some false)) else (some false)) else (some false)) else (some false)) else (some false)) else (some false)) else (some false))) else (none)) else (some false)) else (some false))) else (some false)) = some r := H
  have A5 := Aside0.mk A50
  clear A50
  by_cases c6 : t194 = true
  · subst c6
    have H1 : ((waveletlaw29_same.f k t177 (([0, 1, 0, 2, 0, 0, 1, 44] : List Int))).bind fun t198 => (if t198 = true then (if (t182.length : Int) = 1 then (if 0 < (t182.length : Int) then ((waveletlaw29_same.f k ((rd_T26 t182 0).f1) (([0] : List Int))).bind fun t203 => (if t203 = true then (if t174 = 0 then (if t180 = 0 then (if t183 = 0 then (if t190 = 0 then (if t186 = 1 then (if t187 = 0 then (if t188 = 2 then (if t189 = 300 then (if t170 = 65443 then (some (t176 == 65456)) else (some false)) else (some false)) else (some false)) else (some false)) else (some false)) else (some false)) else (some false)) else (some false)) else (some false)) else (some false))) else (none)) else (some false)) else (some false))) = some r := by rw [if_pos rfl] at H; exact H
    clear H
    have H := H1
    clear H1
    obtain ⟨y195, hy195⟩ : ∃ y_ : List Int, y_ = (([0, 1, 0, 2, 0, 0, 1, 44] : List Int)) := ⟨_, rfl⟩
    replace H : ((waveletlaw29_same.f k t177 y195).bind fun t198 => (if t198 = true then (if (t182.length : Int) = 1 then (if 0 < (t182.length : Int) then ((waveletlaw29_same.f k ((rd_T26 t182 0).f1) (([0] : List Int))).bind fun t203 => (if t203 = true then (if t174 = 0 then (if t180 = 0 then (if t183 = 0 then (if t190 = 0 then (if t186 = 1 then (if t187 = 0 then (if t188 = 2 then (if t189 = 300 then (if t170 = 65443 then (some (t176 == 65456)) else (some false)) else (some false)) else (some false)) else (some false)) else (some false)) else (some false)) else (some false)) else (some false)) else (some false)) else (some false))) else (none)) else (some false)) else (some false))) = some r := by first | (rw [hy195]; with_reducible exact H) | (have H2_ := (Option.bind_some _ _).symm.trans H; rw [hy195]; with_reducible exact H2_) | (have H2_ := (Option.bind_some _ _).symm.trans H; with_reducible exact H2_) | with_reducible exact H | (rw [hy195]; exact H) | exact H
    have Ny195 := Aside0.mk hy195
    clear hy195
    replace H := Option.bind_eq_some_iff.mp H
    obtain ⟨t198, A70, H⟩ := H
    replace H : (if t198 = true then (if (t182.length : Int) = 1 then (if 0 < (t182.length : Int) then ((waveletlaw29_same.f k ((rd_T26 t182 0).f1) (([0] : List Int))).bind fun t203 => (if t203 = true then (if t174 = 0 then (if t180 = 0 then (if t183 = 0 then (if t190 = 0 then (if t186 = 1 then (if t187 = 0 then (if t188 = 2 then (if t189 = 300 then (if t170 = 65443 then (some (t176 == 65456)) else (some false)) else (some false)) else (some false)) else (some false)) else (some false)) else (some false)) else (some false)) else (some false)) else (some false)) else (some false))) else (none)) else (some false)) else (some false)) = some r := H
    have A7 := Aside0.mk A70
    clear A70
    by_cases c8 : t198 = true
    · subst c8
      have H1 : (if (t182.length : Int) = 1 then (if 0 < (t182.length : Int) then ((waveletlaw29_same.f k ((rd_T26 t182 0).f1) (([0] : List Int))).bind fun t203 => (if t203 = true then (if t174 = 0 then (if t180 = 0 then (if t183 = 0 then (if t190 = 0 then (if t186 = 1 then (if t187 = 0 then (if t188 = 2 then (if t189 = 300 then (if t170 = 65443 then (some (t176 == 65456)) else (some false)) else (some false)) else (some false)) else (some false)) else (some false)) else (some false)) else (some false)) else (some false)) else (some false)) else (some false))) else (none)) else (some false)) = some r := by rw [if_pos rfl] at H; exact H
      clear H
      have H := H1
      clear H1
      by_cases c9 : (t182.length : Int) = 1
      · rw [if_pos c9] at H
        have c9b0 : ((t182.length : Int) == 1) = true := beq_iff_eq.mpr c9
        have c9b1 : ((t182.length : Int) != 1) = false := bne_eq_false_iff_eq.mpr c9
        clear c9
        by_cases c10 : 0 < (t182.length : Int)
        · rw [if_pos c10] at H
          have c10b0 : decide (0 < (t182.length : Int)) = true := decide_eq_true c10
          have c10b1 : decide (0 < t182.length) = true := decide_eq_true (by omega)
          clear c10
          obtain ⟨y200, hy200⟩ : ∃ y_ : List Int, y_ = (([0] : List Int)) := ⟨_, rfl⟩
          replace H : ((waveletlaw29_same.f k ((rd_T26 t182 0).f1) y200).bind fun t203 => (if t203 = true then (if t174 = 0 then (if t180 = 0 then (if t183 = 0 then (if t190 = 0 then (if t186 = 1 then (if t187 = 0 then (if t188 = 2 then (if t189 = 300 then (if t170 = 65443 then (some (t176 == 65456)) else (some false)) else (some false)) else (some false)) else (some false)) else (some false)) else (some false)) else (some false)) else (some false)) else (some false)) else (some false))) = some r := by first | (rw [hy200]; with_reducible exact H) | (have H2_ := (Option.bind_some _ _).symm.trans H; rw [hy200]; with_reducible exact H2_) | (have H2_ := (Option.bind_some _ _).symm.trans H; with_reducible exact H2_) | with_reducible exact H | (rw [hy200]; exact H) | exact H
          have Ny200 := Aside0.mk hy200
          clear hy200
          replace H := Option.bind_eq_some_iff.mp H
          obtain ⟨t203, A110, H⟩ := H
          replace H : (if t203 = true then (if t174 = 0 then (if t180 = 0 then (if t183 = 0 then (if t190 = 0 then (if t186 = 1 then (if t187 = 0 then (if t188 = 2 then (if t189 = 300 then (if t170 = 65443 then (some (t176 == 65456)) else (some false)) else (some false)) else (some false)) else (some false)) else (some false)) else (some false)) else (some false)) else (some false)) else (some false)) else (some false)) = some r := H
          have A11 := Aside0.mk A110
          clear A110
          by_cases c12 : t203 = true
          · subst c12
            have H1 : (if t174 = 0 then (if t180 = 0 then (if t183 = 0 then (if t190 = 0 then (if t186 = 1 then (if t187 = 0 then (if t188 = 2 then (if t189 = 300 then (if t170 = 65443 then (some (t176 == 65456)) else (some false)) else (some false)) else (some false)) else (some false)) else (some false)) else (some false)) else (some false)) else (some false)) else (some false)) = some r := by rw [if_pos rfl] at H; exact H
            clear H
            have H := H1
            clear H1
            by_cases c13 : t174 = 0
            · rw [if_pos c13] at H
              have c13b0 : (t174 == 0) = true := beq_iff_eq.mpr c13
              have c13b1 : (t174 != 0) = false := bne_eq_false_iff_eq.mpr c13
              clear c13
              by_cases c14 : t180 = 0
              · rw [if_pos c14] at H
                have c14b0 : (t180 == 0) = true := beq_iff_eq.mpr c14
                have c14b1 : (t180 != 0) = false := bne_eq_false_iff_eq.mpr c14
                clear c14
                by_cases c15 : t183 = 0
                · rw [if_pos c15] at H
                  have c15b0 : (t183 == 0) = true := beq_iff_eq.mpr c15
                  have c15b1 : (t183 != 0) = false := bne_eq_false_iff_eq.mpr c15
                  clear c15
                  by_cases c16 : t190 = 0
                  · rw [if_pos c16] at H
                    have c16b0 : (t190 == 0) = true := beq_iff_eq.mpr c16
                    have c16b1 : (t190 != 0) = false := bne_eq_false_iff_eq.mpr c16
                    clear c16
                    by_cases c17 : t186 = 1
                    · rw [if_pos c17] at H
                      have c17b0 : (t186 == 1) = true := beq_iff_eq.mpr c17
                      have c17b1 : (t186 != 1) = false := bne_eq_false_iff_eq.mpr c17
                      clear c17
                      by_cases c18 : t187 = 0
                      · rw [if_pos c18] at H
                        have c18b0 : (t187 == 0) = true := beq_iff_eq.mpr c18
                        have c18b1 : (t187 != 0) = false := bne_eq_false_iff_eq.mpr c18
                        clear c18
                        by_cases c19 : t188 = 2
                        · rw [if_pos c19] at H
                          have c19b0 : (t188 == 2) = true := beq_iff_eq.mpr c19
                          have c19b1 : (t188 != 2) = false := bne_eq_false_iff_eq.mpr c19
                          clear c19
                          by_cases c20 : t189 = 300
                          · rw [if_pos c20] at H
                            have c20b0 : (t189 == 300) = true := beq_iff_eq.mpr c20
                            have c20b1 : (t189 != 300) = false := bne_eq_false_iff_eq.mpr c20
                            clear c20
                            by_cases c21 : t170 = 65443
                            · rw [if_pos c21] at H
                              have c21b0 : (t170 == 65443) = true := beq_iff_eq.mpr c21
                              have c21b1 : (t170 != 65443) = false := bne_eq_false_iff_eq.mpr c21
                              clear c21
                              obtain rfl := Option.some.inj H
                              go_enter Try.func12, Try.ntmps12
                              go_wp2_with (first | ((with_reducible refine gate_dst (N := 13) rfl ?_); (try (refine gate_guard (by rfl) ?_; dsimp only)); refine Kd.R_lit (Kd.int .i64) _ 3 ?hg (N := 13) ?hd (xs := ([1, 256] : List Int)) (inner := [.int .i64 1, .int .i64 256]) (ok := fun _ => True) (okp := fun _ => True) ?hr ?hp (fun _ hk => hk) trivial (Below.refl _ _) (Nat.le_refl _) (by simp) ?_; (case hd => rfl); (case hg => rfl); (case hr => first | (go_simp; done) | (go_simp; rfl)); (case hp => exact (Reps.one (show Kd.M (Kd.int .i64) _ _ _ 1 [.int .i64 1] from rfl) (Reps.one (show Kd.M (Kd.int .i64) _ _ _ 256 [.int .i64 256] from rfl) (Reps.none _ _)))); intro v168 w22 ho23 hb hg_ hnew_; clear hg_ hnew_; (first | rw [← Ny167.out] at ho23 | (simp only [Int.reduceToNat] at ho23; rw [← Ny167.out] at ho23)); have HO169 := Aside0.mk (Kd.R_lower ho23 (below_size (upB HB.out))); replace HB := Aside0.mk (below_step (upB HB.out) hb); clear hb ho23; obtain ⟨Ao24, co24, eo24⟩ := Kd.R_slice HO169.out; subst eo24) | ((with_reducible refine gate_callee (f := 28) rfl ?_); refine goesL_ (some 15) rfl rfl Try.func28 (by kernel_rfl) rfl #[.agg #[.int .i64 0, .int .i64 0, .int .i64 0, .int .i64 0, .int .i64 0, .slice none 0 0, .int .i64 0, .int .i64 0, .bool false, .bool false, .bool false, .bool false, .bool false, .bool false, .bool false, .bool false, .slice Ao24 y167.length co24, .int .i64 16, .int .i64 0]] rfl upL ?_; (refine (headseg_Quant.calls k 0 0 0 0 0 _ _ ([] : List (S89)) 0 0 false false false false false false false false _ _ y167 16 0 t170 t171 t174 _ ?side1 ?side2 ?side3 ?side4 A1.out).mono ?_); (case side1 => exact Kd.C_nil _ _); (case side2 => exact Nat.le_refl _); (case side3 => repeat (first | exact (Kd.R_reads' HO169.out).2.2 | (with_reducible refine Kd.C_alloc ?_ _) | (with_reducible refine Kd.C_drewN ?_ _) | (with_reducible refine Kd.C_drew ?_))); (case side4 => exact (Kd.R_reads' HO169.out).2.1); rintro e w25 ⟨v172, rfl, ho0, hb⟩; refine ⟨_, rfl, ?_⟩; replace HO169 := Aside0.mk (Kd.R_below (upR HO169.out) hb); have HO173 := Aside0.mk (Kd.R_lower ho0 (below_size (upB HB.out))); replace HB := Aside0.mk (below_step (upB HB.out) hb); (try clear hb; try clear hb2; try clear hk; try clear hi; try clear ho0)) | ((with_reducible refine gate_dst (N := 1) rfl ?_); (try (refine gate_guard (by rfl) ?_; dsimp only)); refine box_event ?hg (N := 1) ?hd (cs := #[.int .i64 0, .slice none 0 0]) (t := 26) ?hr ?_; (case hd => rfl); (case hg => rfl); (case hr => first | (go_simp; done) | (go_simp; rfl)); intro gb175 hg w26 hbox hb; replace HO169 := Aside0.mk (Kd.R_below (upR HO169.out) hb); replace HO173 := Aside0.mk (Kd.R_below (upR HO173.out) hb); have BK175 := Aside0.mk (hbox); have GW175 := Aside0.mk ((by rw [hg]; exact (below_size (upB HB.out)) : w.heap.size ≤ gb175)); have GE175 := Aside0.mk ((by rw [hg]; exact (below_size (upB HB.out)) : w.heap.size ≤ gb175)); replace HB := Aside0.mk (below_step (upB HB.out) hb); clear hb hbox hg; have hcz27_0 : w26.cell? ⟨gb175, 0, none⟩ = some (.int .i64 0) := bc BK175 0; have hcz27_1 : w26.cell? ⟨gb175, 1, none⟩ = some (.slice none 0 0) := bc BK175 1; have hfz27_0 := blk_frozen BK175.out 0; have hfz27_1 := blk_frozen BK175.out 1; obtain ⟨Ao28, co28, eo28⟩ := Kd.R_slice HO173.out; subst eo28) | ((with_reducible refine gate_callee (f := 18) rfl ?_); refine goesL_ (some 19) rfl rfl Try.func18 (by kernel_rfl) rfl #[.int .i64 1, .int .i64 0, .int .i64 2, .int .i64 300] rfl upL ?_; (with_reducible refine (headseg_Tile.calls k 1 0 2 300 t176 t177 t180 _ A2.out).mono ?_); rintro e w29 ⟨v178, rfl, ho0, hb⟩; refine ⟨_, rfl, ?_⟩; replace HO169 := Aside0.mk (Kd.R_below (by (with_reducible repeat (first | apply Kd.R_alloc | apply Kd.R_drewN | apply Kd.R_drew)); exact (Kd.R_mono (Kd.R_far (Kd.R_far (Kd.R_types HO169.out BK175.out (by decide)) (fun _ hk => hk.2) _) (fun _ hk => hk.2) _) (fun _ h_ => h_.1))) hb); have HO179 := Aside0.mk (Kd.R_lower (Kd.R_new' ho0 (Kd.R_lt (by (with_reducible repeat (first | apply Kd.R_alloc | apply Kd.R_drewN | apply Kd.R_drew)); exact (Kd.R_mono (Kd.R_far (Kd.R_far (Kd.R_types HO173.out BK175.out (by decide)) (fun _ hk => hk.2) _) (fun _ hk => hk.2) _) (fun _ h_ => h_.1))))) (below_size (upB HB.out))); replace HO173 := Aside0.mk (Kd.R_elder' (by (with_reducible repeat (first | apply Kd.R_alloc | apply Kd.R_drewN | apply Kd.R_drew)); exact (Kd.R_mono (Kd.R_far (Kd.R_far (Kd.R_types HO173.out BK175.out (by decide)) (fun _ hk => hk.2) _) (fun _ hk => hk.2) _) (fun _ h_ => h_.1))) (Kd.R_base ho0) hb); replace BK175 := Aside0.mk (blk_below (g := gb175) (o := .cells #[.int .i64 t170, .slice Ao28 t171.length co28] 26 (0, 0)) (by (with_reducible repeat (first | refine blk_drewN ?_ _ | refine blk_drew ?_ | refine blk_alloc ?_ _)); refine blk_put (cs := #[.int .i64 t170, .slice none 0 0]) ?_ 1 _ rfl; (with_reducible repeat (first | refine blk_drewN ?_ _ | refine blk_drew ?_ | refine blk_alloc ?_ _)); refine blk_put (cs := #[.int .i64 0, .slice none 0 0]) ?_ 0 _ rfl; (with_reducible repeat (first | refine blk_drewN ?_ _ | refine blk_drew ?_ | refine blk_alloc ?_ _)); exact BK175.out) hb); replace HB := Aside0.mk (below_step (upB HB.out) hb); (try clear hb; try clear hb2; try clear hk; try clear hi; try clear ho0)) | ((with_reducible refine gate_dst (N := 3) rfl ?_); (try (refine gate_guard (by rfl) ?_; dsimp only)); refine box_event ?hg (N := 3) ?hd (cs := #[.int .i64 0, .slice none 0 0]) (t := 26) ?hr ?_; (case hd => rfl); (case hg => rfl); (case hr => first | (go_simp; done) | (go_simp; rfl)); intro gb181 hg w30 hbox hb; replace HO169 := Aside0.mk (Kd.R_below (upR HO169.out) hb); replace HO173 := Aside0.mk (Kd.R_below (upR HO173.out) hb); replace HO179 := Aside0.mk (Kd.R_below (upR HO179.out) hb); have BK181 := Aside0.mk (hbox); have GW181 := Aside0.mk ((by rw [hg]; exact (below_size (upB HB.out)) : w.heap.size ≤ gb181)); have GE181 := Aside0.mk ((by rw [hg]; exact (below_size (upB HB.out)) : w.heap.size ≤ gb181)); replace HB := Aside0.mk (below_step (upB HB.out) hb); have NB175_181 := Aside0.mk ((by rw [hg]; exact Nat.ne_of_lt (blk_lt (upK BK175.out)) : gb175 ≠ gb181)); have NB181_175 := Aside0.mk ((by rw [hg]; exact Nat.ne_of_gt (blk_lt (upK BK175.out)) : gb181 ≠ gb175)); replace BK175 := Aside0.mk (blk_below (g := gb175) (o := .cells #[.int .i64 t170, .slice Ao28 t171.length co28] 26 (0, 0)) (upK BK175.out) hb); clear hb hbox hg; have hnb31 := NB181_175.out; have hnc31 := NB175_181.out; have hcz32_0 : w30.cell? ⟨gb181, 0, none⟩ = some (.int .i64 0) := bc BK181 0; have hcz32_1 : w30.cell? ⟨gb181, 1, none⟩ = some (.slice none 0 0) := bc BK181 1; have hfz32_0 := blk_frozen BK181.out 0; have hfz32_1 := blk_frozen BK181.out 1; obtain ⟨Ao33, co33, eo33⟩ := Kd.R_slice HO179.out; subst eo33) | ((with_reducible refine gate_callee (f := 22) rfl ?_); refine goesL_ (some 23) rfl rfl Try.func22 (by kernel_rfl) rfl #[.int .i64 65445, .slice none 0 0] rfl upL ?_; (refine (headseg_Lengths.calls k 65445 _ _ ([] : List Int) t182 t183 _ ?side1 ?side2 A3.out).mono ?_); (case side1 => exact Kd.C_nil _ _); (case side2 => exact Nat.le_refl _); rintro e w34 ⟨v184, rfl, ho0, hb⟩; refine ⟨_, rfl, ?_⟩; replace HO169 := Aside0.mk (Kd.R_below (by (with_reducible repeat (first | apply Kd.R_alloc | apply Kd.R_drewN | apply Kd.R_drew)); exact (Kd.R_mono (Kd.R_far (Kd.R_far (Kd.R_types HO169.out BK181.out (by decide)) (fun _ hk => hk.2) _) (fun _ hk => hk.2) _) (fun _ h_ => h_.1))) hb); have HO185 := Aside0.mk (Kd.S_lower (Kd.S_newB (Kd.S_newB (Kd.S_new' (Kd.S_new' ho0 (Kd.R_lt (by (with_reducible repeat (first | apply Kd.R_alloc | apply Kd.R_drewN | apply Kd.R_drew)); exact (Kd.R_mono (Kd.R_far (Kd.R_far (Kd.R_types HO173.out BK181.out (by decide)) (fun _ hk => hk.2) _) (fun _ hk => hk.2) _) (fun _ h_ => h_.1))))) (Kd.R_lt (by (with_reducible repeat (first | apply Kd.R_alloc | apply Kd.R_drewN | apply Kd.R_drew)); exact (Kd.R_mono (Kd.R_far (Kd.R_far (Kd.R_types HO179.out BK181.out (by decide)) (fun _ hk => hk.2) _) (fun _ hk => hk.2) _) (fun _ h_ => h_.1))))) (g := gb175) (o := .cells #[.int .i64 t170, .slice Ao28 t171.length co28] 26 (0, 0)) (by (with_reducible repeat (first | refine blk_far ?_ NB175_181.out _ | refine blk_drewN ?_ _ | refine blk_drew ?_ | refine blk_alloc ?_ _)); exact BK175.out)) (g := gb181) (o := .cells #[.int .i64 t176, .slice Ao33 t177.length co33] 26 (0, 0)) (by (with_reducible repeat (first | refine blk_drewN ?_ _ | refine blk_drew ?_ | refine blk_alloc ?_ _)); refine blk_put (cs := #[.int .i64 t176, .slice none 0 0]) ?_ 1 _ rfl; (with_reducible repeat (first | refine blk_drewN ?_ _ | refine blk_drew ?_ | refine blk_alloc ?_ _)); refine blk_put (cs := #[.int .i64 0, .slice none 0 0]) ?_ 0 _ rfl; (with_reducible repeat (first | refine blk_drewN ?_ _ | refine blk_drew ?_ | refine blk_alloc ?_ _)); exact BK181.out)) (below_size (upB HB.out))); replace HO173 := Aside0.mk (Kd.R_below (by (with_reducible repeat (first | apply Kd.R_alloc | apply Kd.R_drewN | apply Kd.R_drew)); exact (Kd.R_mono (Kd.R_far (Kd.R_far (Kd.R_types HO173.out BK181.out (by decide)) (fun _ hk => hk.2) _) (fun _ hk => hk.2) _) (fun _ h_ => h_.1))) hb); replace HO179 := Aside0.mk (Kd.R_below (by (with_reducible repeat (first | apply Kd.R_alloc | apply Kd.R_drewN | apply Kd.R_drew)); exact (Kd.R_mono (Kd.R_far (Kd.R_far (Kd.R_types HO179.out BK181.out (by decide)) (fun _ hk => hk.2) _) (fun _ hk => hk.2) _) (fun _ h_ => h_.1))) hb); replace BK175 := Aside0.mk (blk_below (g := gb175) (o := .cells #[.int .i64 t170, .slice Ao28 t171.length co28] 26 (0, 0)) (by (with_reducible repeat (first | refine blk_far ?_ NB175_181.out _ | refine blk_drewN ?_ _ | refine blk_drew ?_ | refine blk_alloc ?_ _)); exact BK175.out) hb); replace BK181 := Aside0.mk (blk_below (g := gb181) (o := .cells #[.int .i64 t176, .slice Ao33 t177.length co33] 26 (0, 0)) (by (with_reducible repeat (first | refine blk_drewN ?_ _ | refine blk_drew ?_ | refine blk_alloc ?_ _)); refine blk_put (cs := #[.int .i64 t176, .slice none 0 0]) ?_ 1 _ rfl; (with_reducible repeat (first | refine blk_drewN ?_ _ | refine blk_drew ?_ | refine blk_alloc ?_ _)); refine blk_put (cs := #[.int .i64 0, .slice none 0 0]) ?_ 0 _ rfl; (with_reducible repeat (first | refine blk_drewN ?_ _ | refine blk_drew ?_ | refine blk_alloc ?_ _)); exact BK181.out) hb); replace HB := Aside0.mk (below_step (upB HB.out) hb); (try clear hb; try clear hb2; try clear hk; try clear hi; try clear ho0); have hcz35_0 : w34.cell? ⟨gb181, 0, none⟩ = some (.int .i64 t176) := bc BK181 0; have hcz35_1 : w34.cell? ⟨gb181, 1, none⟩ = some (.slice Ao33 t177.length co33) := bc BK181 1; have hfz35_0 := blk_frozen BK181.out 0; have hfz35_1 := blk_frozen BK181.out 1) | ((with_reducible refine gate_callee (f := 20) rfl ?_); refine goesL_ (some 28) rfl rfl Try.func20 (by kernel_rfl) rfl #[.agg #[.int .i64 t176, .slice Ao33 t177.length co33]] rfl upL ?_; (with_reducible refine (headseg_ParseTile.calls k t176 _ _ t177 t186 t187 t188 t189 t190 _ ?side1 ?side2 A4.out).mono ?_); (case side1 => repeat (first | exact (Kd.R_reads' HO179.out).2.2 | (with_reducible refine Kd.C_alloc ?_ _) | (with_reducible refine Kd.C_drewN ?_ _) | (with_reducible refine Kd.C_drew ?_))); (case side2 => exact (Kd.R_reads' HO179.out).2.1); rintro e w36 ⟨rfl, hb⟩; refine ⟨_, rfl, ?_⟩; replace HO169 := Aside0.mk (Kd.R_below (upR HO169.out) hb); replace HO173 := Aside0.mk (Kd.R_below (upR HO173.out) hb); replace HO179 := Aside0.mk (Kd.R_below (upR HO179.out) hb); replace HO185 := Aside0.mk (Kd.S_below (by (with_reducible repeat (first | apply Kd.S_alloc | apply Kd.S_drewN | apply Kd.S_drew)); exact HO185.out) hb); replace BK175 := Aside0.mk (blk_below (g := gb175) (o := .cells #[.int .i64 t170, .slice Ao28 t171.length co28] 26 (0, 0)) (upK BK175.out) hb); replace BK181 := Aside0.mk (blk_below (g := gb181) (o := .cells #[.int .i64 t176, .slice Ao33 t177.length co33] 26 (0, 0)) (upK BK181.out) hb); replace HB := Aside0.mk (below_step (upB HB.out) hb); (try clear hb; try clear hb2; try clear hk; try clear hi); have hcz37_0 : w36.cell? ⟨gb175, 0, none⟩ = some (.int .i64 t170) := bc BK175 0; have hcz37_1 : w36.cell? ⟨gb175, 1, none⟩ = some (.slice Ao28 t171.length co28) := bc BK175 1; have hfz37_0 := blk_frozen BK175.out 0; have hfz37_1 := blk_frozen BK175.out 1) | ((with_reducible refine gate_dst (N := 36) rfl ?_); (try (refine gate_guard (by rfl) ?_; dsimp only)); refine Kd.R_lit (Kd.int .u8) _ 5 ?hg (N := 36) ?hd (xs := ([16, 2, 0, 0, 0, 255] : List Int)) (inner := [.int .u8 16, .int .u8 2, .int .u8 0, .int .u8 0, .int .u8 0, .int .u8 255]) (ok := fun _ => True) (okp := fun _ => True) ?hr ?hp (fun _ hk => hk) trivial (Below.refl _ _) (Nat.le_refl _) (by simp) ?_; (case hd => rfl); (case hg => rfl); (case hr => first | (go_simp; done) | (go_simp; rfl)); (case hp => exact (Reps.one (show Kd.M (Kd.int .u8) _ _ _ 16 [.int .u8 16] from rfl) (Reps.one (show Kd.M (Kd.int .u8) _ _ _ 2 [.int .u8 2] from rfl) (Reps.one (show Kd.M (Kd.int .u8) _ _ _ 0 [.int .u8 0] from rfl) (Reps.one (show Kd.M (Kd.int .u8) _ _ _ 0 [.int .u8 0] from rfl) (Reps.one (show Kd.M (Kd.int .u8) _ _ _ 0 [.int .u8 0] from rfl) (Reps.one (show Kd.M (Kd.int .u8) _ _ _ 255 [.int .u8 255] from rfl) (Reps.none _ _)))))))); intro v192 w38 ho39 hb hg_ hnew_; clear hg_ hnew_; (first | rw [← Ny191.out] at ho39 | (simp only [Int.reduceToNat] at ho39; rw [← Ny191.out] at ho39)); replace HO169 := Aside0.mk (Kd.R_below (upR HO169.out) hb); replace HO185 := Aside0.mk (Kd.S_elder' (by (with_reducible repeat (first | apply Kd.S_alloc | apply Kd.S_drewN | apply Kd.S_drew)); exact HO185.out) (Kd.R_base ho39) hb); have HO193 := Aside0.mk (Kd.R_lower (Kd.R_new' (Kd.R_new' ho39 (Kd.R_lt (upR HO173.out))) (Kd.R_lt (upR HO179.out))) (below_size (upB HB.out))); replace HO173 := Aside0.mk (Kd.R_elder' (upR HO173.out) (Kd.R_base ho39) hb); replace HO179 := Aside0.mk (Kd.R_elder' (upR HO179.out) (Kd.R_base ho39) hb); replace BK175 := Aside0.mk (blk_below (g := gb175) (o := .cells #[.int .i64 t170, .slice Ao28 t171.length co28] 26 (0, 0)) (upK BK175.out) hb); replace BK181 := Aside0.mk (blk_below (g := gb181) (o := .cells #[.int .i64 t176, .slice Ao33 t177.length co33] 26 (0, 0)) (upK BK181.out) hb); replace HB := Aside0.mk (below_step (upB HB.out) hb); clear hb ho39; obtain ⟨Ao40, co40, eo40⟩ := Kd.R_slice HO193.out; subst eo40) | ((with_reducible refine gate_callee (f := 42) rfl ?_); refine goesL_ (some 37) rfl rfl Try.func42 (by kernel_rfl) rfl #[.slice Ao28 t171.length co28, .slice Ao40 y191.length co40] rfl upL ?_; (with_reducible refine (waveletlaw29_same.calls k _ _ t171 _ _ y191 true _ ?side1 ?side2 ?side3 ?side4 A5.out).mono ?_); (case side1 => repeat (first | exact (Kd.R_reads' HO173.out).2.2 | (with_reducible refine Kd.C_alloc ?_ _) | (with_reducible refine Kd.C_drewN ?_ _) | (with_reducible refine Kd.C_drew ?_))); (case side2 => exact (Kd.R_reads' HO173.out).2.1); (case side3 => repeat (first | exact (Kd.R_reads' HO193.out).2.2 | (with_reducible refine Kd.C_alloc ?_ _) | (with_reducible refine Kd.C_drewN ?_ _) | (with_reducible refine Kd.C_drew ?_))); (case side4 => exact (Kd.R_reads' HO193.out).2.1); rintro e w' ⟨rfl, ⟨nd, rfl⟩⟩; refine ⟨_, rfl, ?_⟩; have hcz41_0 : w38.cell? ⟨gb181, 0, none⟩ = some (.int .i64 t176) := bc BK181 0; have hcz41_1 : w38.cell? ⟨gb181, 1, none⟩ = some (.slice Ao33 t177.length co33) := bc BK181 1; have hfz41_0 := blk_frozen BK181.out 0; have hfz41_1 := blk_frozen BK181.out 1) | ((with_reducible refine gate_dst (N := 42) rfl ?_); (try (refine gate_guard (by rfl) ?_; dsimp only)); refine Kd.R_lit (Kd.int .u8) _ 5 ?hg (N := 42) ?hd (xs := ([0, 1, 0, 2, 0, 0, 1, 44] : List Int)) (inner := [.int .u8 0, .int .u8 1, .int .u8 0, .int .u8 2, .int .u8 0, .int .u8 0, .int .u8 1, .int .u8 44]) (ok := fun _ => True) (okp := fun _ => True) ?hr ?hp (fun _ hk => hk) trivial (Below.refl _ _) (Nat.le_refl _) (by simp) ?_; (case hd => rfl); (case hg => rfl); (case hr => first | (go_simp; done) | (go_simp; rfl)); (case hp => exact (Reps.one (show Kd.M (Kd.int .u8) _ _ _ 0 [.int .u8 0] from rfl) (Reps.one (show Kd.M (Kd.int .u8) _ _ _ 1 [.int .u8 1] from rfl) (Reps.one (show Kd.M (Kd.int .u8) _ _ _ 0 [.int .u8 0] from rfl) (Reps.one (show Kd.M (Kd.int .u8) _ _ _ 2 [.int .u8 2] from rfl) (Reps.one (show Kd.M (Kd.int .u8) _ _ _ 0 [.int .u8 0] from rfl) (Reps.one (show Kd.M (Kd.int .u8) _ _ _ 0 [.int .u8 0] from rfl) (Reps.one (show Kd.M (Kd.int .u8) _ _ _ 1 [.int .u8 1] from rfl) (Reps.one (show Kd.M (Kd.int .u8) _ _ _ 44 [.int .u8 44] from rfl) (Reps.none _ _)))))))))); intro v196 w42 ho43 hb hg_ hnew_; clear hg_ hnew_; (first | rw [← Ny195.out] at ho43 | (simp only [Int.reduceToNat] at ho43; rw [← Ny195.out] at ho43)); replace HO169 := Aside0.mk (Kd.R_below (upR HO169.out) hb); replace HO185 := Aside0.mk (Kd.S_elder' (by (with_reducible repeat (first | apply Kd.S_alloc | apply Kd.S_drewN | apply Kd.S_drew)); exact HO185.out) (Kd.R_base ho43) hb); have HO197 := Aside0.mk (Kd.R_lower (Kd.R_new' (Kd.R_new' (Kd.R_new' ho43 (Kd.R_lt (upR HO173.out))) (Kd.R_lt (upR HO179.out))) (Kd.R_lt (upR HO193.out))) (below_size (upB HB.out))); replace HO173 := Aside0.mk (Kd.R_elder' (upR HO173.out) (Kd.R_base ho43) hb); replace HO179 := Aside0.mk (Kd.R_elder' (upR HO179.out) (Kd.R_base ho43) hb); replace HO193 := Aside0.mk (Kd.R_elder' (upR HO193.out) (Kd.R_base ho43) hb); replace BK175 := Aside0.mk (blk_below (g := gb175) (o := .cells #[.int .i64 t170, .slice Ao28 t171.length co28] 26 (0, 0)) (upK BK175.out) hb); replace BK181 := Aside0.mk (blk_below (g := gb181) (o := .cells #[.int .i64 t176, .slice Ao33 t177.length co33] 26 (0, 0)) (upK BK181.out) hb); replace HB := Aside0.mk (below_step (upB HB.out) hb); clear hb ho43; obtain ⟨Ao44, co44, eo44⟩ := Kd.R_slice HO197.out; subst eo44) | (go_at_call 42; (with_reducible refine (waveletlaw29_same.calls k _ _ t177 _ _ y195 true _ ?side1 ?side2 ?side3 ?side4 A7.out).mono ?_); (case side1 => repeat (first | exact (Kd.R_reads' HO179.out).2.2 | (with_reducible refine Kd.C_alloc ?_ _) | (with_reducible refine Kd.C_drewN ?_ _) | (with_reducible refine Kd.C_drew ?_))); (case side2 => exact (Kd.R_reads' HO179.out).2.1); (case side3 => repeat (first | exact (Kd.R_reads' HO197.out).2.2 | (with_reducible refine Kd.C_alloc ?_ _) | (with_reducible refine Kd.C_drewN ?_ _) | (with_reducible refine Kd.C_drew ?_))); (case side4 => exact (Kd.R_reads' HO197.out).2.1); rintro e w' ⟨rfl, ⟨nd, rfl⟩⟩; obtain ⟨Ao45, co45, eo45⟩ := Kd.S_slice HO185.out; subst eo45; have p199 : 0 ≤ (0 : Int) := (by omega); have q199 : 0 < (t182.length : Int) := of_decide_eq_true (by first | (with_reducible assumption) | assumption); obtain ⟨ad199, A199_1, c199_1, e199, hx199_0, hx199_1, hl199_1, hi199_1⟩ := at_T26 (Kd.S_reads' HO185.out).2.2 0 p199 q199; cases e199; obtain ⟨ce199, hce199, hMe199, hcc199⟩ := Kd.S_get HO185.out z26 0 p199 (by first | exact q199 | exact of_decide_eq_true (by first | (with_reducible assumption) | assumption) | (have e_ := (Kd.S_reads' HO185.out).1; omega)); obtain ⟨ve199_1, rfl, ge199_1⟩ := k26_openM hMe199; have hv199_1 := hcc199 1 _ rfl; rw [add_field _ _ 1 (by omega)] at hv199_1; replace hv199_1 := Option.some.inj (hv199_1.symm.trans hx199_1); rw [hv199_1] at ge199_1; have HL199_1 := Aside0.mk (show Kd.R (Kd.int .u8) 5 _ _ _ _ ((rd_T26 t182 0).f1) from ge199_1); clear hv199_1 ge199_1; clear hcc199 hce199; have qi199 : (0 < t182.length) = True := eq_true (by omega); (try rw [show ((0 : Int)).toNat = 0 from rfl] at hx199_0); (try rw [show 0 * 2 = 0 from rfl] at hx199_0); (try rw [Addr.add_zero'] at hx199_0); (try rw [show ((0 : Int)).toNat = 0 from rfl] at hx199_1); (try rw [show 0 * 2 = 0 from rfl] at hx199_1); (try rw [Addr.add_zero'] at hx199_1); have HR199_1 := Aside0.mk hi199_1; have HC199_1 := Aside0.mk hl199_1; clear hi199_1 hl199_1; replace p199 := eq_true p199; replace q199 := eq_true q199) | ((with_reducible refine gate_dst (N := 56) rfl ?_); (try (refine gate_guard (by rfl) ?_; dsimp only)); refine Kd.R_lit (Kd.int .u8) _ 5 ?hg (N := 56) ?hd (xs := ([0] : List Int)) (inner := [.int .u8 0]) (ok := fun _ => True) (okp := fun _ => True) ?hr ?hp (fun _ hk => hk) trivial (Below.refl _ _) (Nat.le_refl _) (by simp) ?_; (case hd => rfl); (case hg => rfl); (case hr => first | (go_simp; done) | (go_simp; rfl)); (case hp => exact (Reps.one (show Kd.M (Kd.int .u8) _ _ _ 0 [.int .u8 0] from rfl) (Reps.none _ _))); intro v201 w46 ho47 hb hg_ hnew_; clear hg_ hnew_; (first | rw [← Ny200.out] at ho47 | (simp only [Int.reduceToNat] at ho47; rw [← Ny200.out] at ho47)); replace HO169 := Aside0.mk (Kd.R_below (upR HO169.out) hb); replace HO185 := Aside0.mk (Kd.S_elder' (by (with_reducible repeat (first | apply Kd.S_alloc | apply Kd.S_drewN | apply Kd.S_drew)); exact HO185.out) (Kd.R_base ho47) hb); have HO202 := Aside0.mk (Kd.R_lower (Kd.R_new' (Kd.R_new' (Kd.R_new' (Kd.R_new' (Kd.R_new' ho47 (Kd.R_lt (upR HO173.out))) (Kd.R_lt (upR HO179.out))) (Kd.R_lt (upR HO193.out))) (Kd.R_lt (upR HO197.out))) (Kd.R_lt (upR HL199_1.out))) (below_size (upB HB.out))); replace HO173 := Aside0.mk (Kd.R_elder' (upR HO173.out) (Kd.R_base ho47) hb); replace HO179 := Aside0.mk (Kd.R_elder' (upR HO179.out) (Kd.R_base ho47) hb); replace HO193 := Aside0.mk (Kd.R_elder' (upR HO193.out) (Kd.R_base ho47) hb); replace HO197 := Aside0.mk (Kd.R_elder' (upR HO197.out) (Kd.R_base ho47) hb); replace HL199_1 := Aside0.mk (Kd.R_elder' (upR HL199_1.out) (Kd.R_base ho47) hb); replace BK175 := Aside0.mk (blk_below (g := gb175) (o := .cells #[.int .i64 t170, .slice Ao28 t171.length co28] 26 (0, 0)) (upK BK175.out) hb); replace BK181 := Aside0.mk (blk_below (g := gb181) (o := .cells #[.int .i64 t176, .slice Ao33 t177.length co33] 26 (0, 0)) (upK BK181.out) hb); replace HR199_1 := Aside0.mk (Kd.C_below (upC HR199_1.out) hb); replace HB := Aside0.mk (below_step (upB HB.out) hb); clear hb ho47; obtain ⟨Ao48, co48, eo48⟩ := Kd.R_slice HO202.out; subst eo48) | (go_at_call 42; (with_reducible refine (waveletlaw29_same.calls k _ _ ((rd_T26 t182 0).f1) _ _ y200 true _ ?side1 ?side2 ?side3 ?side4 A11.out).mono ?_); (case side1 => repeat (first | exact (upC HR199_1.out) | (with_reducible refine Kd.C_alloc ?_ _) | (with_reducible refine Kd.C_drewN ?_ _) | (with_reducible refine Kd.C_drew ?_))); (case side2 => exact HC199_1.out); (case side3 => repeat (first | exact (Kd.R_reads' HO202.out).2.2 | (with_reducible refine Kd.C_alloc ?_ _) | (with_reducible refine Kd.C_drewN ?_ _) | (with_reducible refine Kd.C_drew ?_))); (case side4 => exact (Kd.R_reads' HO202.out).2.1); rintro e w' ⟨rfl, ⟨nd, rfl⟩⟩; have hcz49_0 : w46.cell? ⟨gb175, 0, none⟩ = some (.int .i64 t170) := bc BK175 0; have hcz49_1 : w46.cell? ⟨gb175, 1, none⟩ = some (.slice Ao28 t171.length co28) := bc BK175 1; have hfz49_0 := blk_frozen BK175.out 0; have hfz49_1 := blk_frozen BK175.out 1; have hcz50_0 : w46.cell? ⟨gb181, 0, none⟩ = some (.int .i64 t176) := bc BK181 0; have hcz50_1 : w46.cell? ⟨gb181, 1, none⟩ = some (.slice Ao33 t177.length co33) := bc BK181 1; have hfz50_0 := blk_frozen BK181.out 0; have hfz50_1 := blk_frozen BK181.out 1))
                              go_ret
                              exact ⟨by first | rfl | (simp [errW_none, errW_some] <;> rfl) | (simp [*, errW_none, errW_some] <;> rfl), by repeat (first | (with_reducible first | exact HB.out | apply below_alloc | apply pw_below_drewN | apply below_drew1 | refine below_set ?_ GE175.out | refine below_set ?_ GE181.out) | exact HB.out)⟩
                            · rw [if_neg c21] at H
                              exact absurd (Option.some.inj H) (by rw [hr_]; decide)
                          · rw [if_neg c20] at H
                            exact absurd (Option.some.inj H) (by rw [hr_]; decide)
                        · rw [if_neg c19] at H
                          exact absurd (Option.some.inj H) (by rw [hr_]; decide)
                      · rw [if_neg c18] at H
                        exact absurd (Option.some.inj H) (by rw [hr_]; decide)
                    · rw [if_neg c17] at H
                      exact absurd (Option.some.inj H) (by rw [hr_]; decide)
                  · rw [if_neg c16] at H
                    exact absurd (Option.some.inj H) (by rw [hr_]; decide)
                · rw [if_neg c15] at H
                  exact absurd (Option.some.inj H) (by rw [hr_]; decide)
              · rw [if_neg c14] at H
                exact absurd (Option.some.inj H) (by rw [hr_]; decide)
            · rw [if_neg c13] at H
              exact absurd (Option.some.inj H) (by rw [hr_]; decide)
          · replace c12 := Bool.eq_false_iff.mpr c12
            subst c12
            have H1 : (some false) = some r := by rw [if_neg (show ¬ (false = true) by decide)] at H; exact H
            exact absurd (Option.some.inj H1) (by rw [hr_]; decide)
        · rw [if_neg c10] at H
          exact absurd H (by simp)
      · rw [if_neg c9] at H
        exact absurd (Option.some.inj H) (by rw [hr_]; decide)
    · replace c8 := Bool.eq_false_iff.mpr c8
      subst c8
      have H1 : (some false) = some r := by rw [if_neg (show ¬ (false = true) by decide)] at H; exact H
      exact absurd (Option.some.inj H1) (by rw [hr_]; decide)
  · replace c6 := Bool.eq_false_iff.mpr c6
    subst c6
    have H1 : (some false) = some r := by rw [if_neg (show ¬ (false = true) by decide)] at H; exact H
    exact absurd (Option.some.inj H1) (by rw [hr_]; decide)
theorem waveletlaw29_awake.calls (k : Nat)  (r : Bool) (w : World) (h : waveletlaw29_awake.f k  = some r) :
    Calls Try.prog 12 #[] w fun e w' => e = .returned (.bool r) ∧ Below w.heap.size w w' := by
  have e_ : waveletlaw29_awake.f 100 = some true := by kernel_rfl
  have hr_ : r = true := Option.some.inj ((at_rounds waveletlaw29_awake.mono (Nat.le_max_left k 100) h).symm.trans (at_rounds waveletlaw29_awake.mono (Nat.le_max_right k 100) e_))
  exact waveletlaw29_awake.calls_ k r hr_ w h
end Go.Proofs.Ytihfopblmjgfaaa.Q

namespace Go.Proofs.Ytihfopblmjgfaaa.Q
open Go.RowKit Go.Proofs.YtihfopblmjgfaaaW.PrintWords Go.Proofs.YtihfopblmjgfaaaW.PrintLast Go.Proofs.YtihfopblmjgfaaaW.PrintMore
attribute [local go_sem] max2_int min2_int max_two min_two max_three min_three max_four min_four   -- for this text's walks alone
set_option linter.unusedVariables false
set_option linter.unusedSimpArgs false

/-! ### headseg_ParseComment: function 15 -/
def headseg_ParseComment.f (a0_0 : Int) (l0_1 : List Int) : Option (ByteArray × Int) := if a0_0 = 65444 then (if (l0_1.length : Int) > 65533 then (some ((⟨#[]⟩ : ByteArray), 5)) else (some (strOfNums l0_1, 0))) else (some ((⟨#[]⟩ : ByteArray), 11))
set_option maxHeartbeats 8000000 in
set_option maxRecDepth 100000 in
theorem headseg_ParseComment.calls (a0_0 : Int) (A0_1 : Option Addr) (c0_1 : Nat) (l0_1 : List Int) (r1 : ByteArray) (r2 : Int) (w : World) (hr0_1 : Kd.C (Kd.int .u8) w A0_1 l0_1.length l0_1) (hc0_1 : l0_1.length ≤ c0_1) (h : headseg_ParseComment.f a0_0 l0_1 = some (r1, r2)) :
    Calls Try.prog 15 #[.agg #[.int .i64 a0_0, .slice A0_1 l0_1.length c0_1]] w fun e w' => e = .returned (.tuple #[.string r1, .int .i64 r2]) ∧ Below w.heap.size w w' := by
  have hu26 := Try.underlying26
  have HR0_1 := Aside0.mk hr0_1
  have HC0_1 := Aside0.mk hc0_1
  clear hr0_1 hc0_1
  have HB := Aside0.mk (Below.refl w.heap.size w)
  have H : (if a0_0 = 65444 then (if (l0_1.length : Int) > 65533 then (some ((⟨#[]⟩ : ByteArray), 5)) else (some (strOfNums l0_1, 0))) else (some ((⟨#[]⟩ : ByteArray), 11))) = some (r1, r2) := h
  clear h
  by_cases c2 : a0_0 = 65444
  · rw [if_pos c2] at H
    have c2b0 : (a0_0 == 65444) = true := beq_iff_eq.mpr c2
    have c2b1 : (a0_0 != 65444) = false := bne_eq_false_iff_eq.mpr c2
    clear c2
    by_cases c3 : (l0_1.length : Int) > 65533
    · rw [if_pos c3] at H
      have c3b0 : decide (65533 < (l0_1.length : Int)) = true := decide_eq_true c3
      have c3b1 : decide (65533 < l0_1.length) = true := decide_eq_true (by omega)
      clear c3
      simp only [Option.some.injEq, Prod.mk.injEq] at H
      obtain ⟨rfl, rfl⟩ := H
      go_enter Try.func15, Try.ntmps15
      go_wp2_with (first | ((with_reducible refine gate_dst (N := 1) rfl ?_); refine box_event ?hg (N := 1) ?hd (cs := #[.int .i64 a0_0, .slice A0_1 l0_1.length c0_1]) (t := 26) ?hr ?_; (case hd => rfl); (case hg => rfl); (case hr => first | (go_simp; done) | (go_simp; rfl)); intro gb212 hg w4 hbox hb; have n0_ := Aside0.mk (below_step (by repeat (first | (with_reducible first | exact HB.out | apply below_alloc | apply pw_below_drewN | apply below_drew1) | exact HB.out)) hb); have n1_ := Aside0.mk (hbox); have n2_ := Aside0.mk ((by rw [hg]; exact (below_size (by repeat (first | (with_reducible first | exact HB.out | apply below_alloc | apply pw_below_drewN | apply below_drew1) | exact HB.out))) : w.heap.size ≤ gb212)); have n3_ := Aside0.mk ((by rw [hg]; exact (below_size (by repeat (first | (with_reducible first | exact HB.out | apply below_alloc | apply pw_below_drewN | apply below_drew1) | exact HB.out))) : w.heap.size ≤ gb212)); clear HB; have HB := n0_; have BK212 := n1_; have GW212 := n2_; have GE212 := n3_; clear n0_ n1_ n2_ n3_; clear hb hbox hg; have hcz5_0 : w4.cell? ⟨gb212, 0, none⟩ = some (.int .i64 a0_0) := (blk_cell BK212.out 0).trans rfl; have hcz5_1 : w4.cell? ⟨gb212, 1, none⟩ = some (.slice A0_1 l0_1.length c0_1) := (blk_cell BK212.out 1).trans rfl; have hfz5_0 := blk_frozen BK212.out 0; have hfz5_1 := blk_frozen BK212.out 1))
      go_ret2
      exact ⟨by first | rfl | (simp [errW_none, errW_some] <;> rfl) | (simp [*, errW_none, errW_some] <;> rfl), by repeat (first | (with_reducible first | exact HB.out | apply below_alloc | apply pw_below_drewN | apply below_drew1 | refine below_set ?_ GE212.out) | exact HB.out)⟩
    · rw [if_neg c3] at H
      have c3b0 : decide (65533 < (l0_1.length : Int)) = false := decide_eq_false c3
      have c3b1 : decide (65533 < l0_1.length) = false := decide_eq_false (by omega)
      clear c3
      simp only [Option.some.injEq, Prod.mk.injEq] at H
      obtain ⟨rfl, rfl⟩ := H
      go_enter Try.func15, Try.ntmps15
      go_wp2_with (first | ((with_reducible refine gate_dst (N := 1) rfl ?_); refine box_event ?hg (N := 1) ?hd (cs := #[.int .i64 a0_0, .slice A0_1 l0_1.length c0_1]) (t := 26) ?hr ?_; (case hd => rfl); (case hg => rfl); (case hr => first | (go_simp; done) | (go_simp; rfl)); intro gb212 hg w6 hbox hb; have n0_ := Aside0.mk (below_step (by repeat (first | (with_reducible first | exact HB.out | apply below_alloc | apply pw_below_drewN | apply below_drew1) | exact HB.out)) hb); have n1_ := Aside0.mk (hbox); have n2_ := Aside0.mk ((by rw [hg]; exact (below_size (by repeat (first | (with_reducible first | exact HB.out | apply below_alloc | apply pw_below_drewN | apply below_drew1) | exact HB.out))) : w.heap.size ≤ gb212)); have n3_ := Aside0.mk ((by rw [hg]; exact (below_size (by repeat (first | (with_reducible first | exact HB.out | apply below_alloc | apply pw_below_drewN | apply below_drew1) | exact HB.out))) : w.heap.size ≤ gb212)); clear HB; have HB := n0_; have BK212 := n1_; have GW212 := n2_; have GE212 := n3_; clear n0_ n1_ n2_ n3_; clear hb hbox hg; have hcz7_0 : w6.cell? ⟨gb212, 0, none⟩ = some (.int .i64 a0_0) := (blk_cell BK212.out 0).trans rfl; have hcz7_1 : w6.cell? ⟨gb212, 1, none⟩ = some (.slice A0_1 l0_1.length c0_1) := (blk_cell BK212.out 1).trans rfl; have hfz7_0 := blk_frozen BK212.out 0; have hfz7_1 := blk_frozen BK212.out 1; have hcv8 := Kd.C_string (P := Try.prog) (A := A0_1) (c := c0_1) Try.underlying24 Try.underlying5 Try.underlying9 (Kd.C_below HR0_1.out HB.out)))
      go_ret2
      exact ⟨by first | rfl | (simp [errW_none, errW_some] <;> rfl) | (simp [*, errW_none, errW_some] <;> rfl), by repeat (first | (with_reducible first | exact HB.out | apply below_alloc | apply pw_below_drewN | apply below_drew1 | refine below_set ?_ GE212.out) | exact HB.out)⟩
  · rw [if_neg c2] at H
    have c2b0 : (a0_0 == 65444) = false := beq_eq_false_iff_ne.mpr c2
    have c2b1 : (a0_0 != 65444) = true := bne_iff_ne.mpr c2
    simp only [Option.some.injEq, Prod.mk.injEq] at H
    obtain ⟨rfl, rfl⟩ := H
    go_enter Try.func15, Try.ntmps15
    go_wp2_with (first | ((with_reducible refine gate_dst (N := 1) rfl ?_); refine box_event ?hg (N := 1) ?hd (cs := #[.int .i64 a0_0, .slice A0_1 l0_1.length c0_1]) (t := 26) ?hr ?_; (case hd => rfl); (case hg => rfl); (case hr => first | (go_simp; done) | (go_simp; rfl)); intro gb212 hg w9 hbox hb; have n0_ := Aside0.mk (below_step (by repeat (first | (with_reducible first | exact HB.out | apply below_alloc | apply pw_below_drewN | apply below_drew1) | exact HB.out)) hb); have n1_ := Aside0.mk (hbox); have n2_ := Aside0.mk ((by rw [hg]; exact (below_size (by repeat (first | (with_reducible first | exact HB.out | apply below_alloc | apply pw_below_drewN | apply below_drew1) | exact HB.out))) : w.heap.size ≤ gb212)); have n3_ := Aside0.mk ((by rw [hg]; exact (below_size (by repeat (first | (with_reducible first | exact HB.out | apply below_alloc | apply pw_below_drewN | apply below_drew1) | exact HB.out))) : w.heap.size ≤ gb212)); clear HB; have HB := n0_; have BK212 := n1_; have GW212 := n2_; have GE212 := n3_; clear n0_ n1_ n2_ n3_; clear hb hbox hg; have hcz10_0 : w9.cell? ⟨gb212, 0, none⟩ = some (.int .i64 a0_0) := (blk_cell BK212.out 0).trans rfl; have hcz10_1 : w9.cell? ⟨gb212, 1, none⟩ = some (.slice A0_1 l0_1.length c0_1) := (blk_cell BK212.out 1).trans rfl; have hfz10_0 := blk_frozen BK212.out 0; have hfz10_1 := blk_frozen BK212.out 1))
    go_ret2
    exact ⟨by first | rfl | (simp [errW_none, errW_some] <;> rfl) | (simp [*, errW_none, errW_some] <;> rfl), by repeat (first | (with_reducible first | exact HB.out | apply below_alloc | apply pw_below_drewN | apply below_drew1 | refine below_set ?_ GE212.out) | exact HB.out)⟩

end Go.Proofs.Ytihfopblmjgfaaa.Q

/- Printed walk, shortened (wip/tools/unmerge.py). -/
namespace Go.Proofs.Ytihfopblmjgfaaa.Q
open Go.RowKit Go.Proofs.YtihfopblmjgfaaaW.PrintWords Go.Proofs.YtihfopblmjgfaaaW.PrintLast Go.Proofs.YtihfopblmjgfaaaW.PrintMore
attribute [local go_sem] max2_int min2_int max_two min_two max_three min_three max_four min_four   -- for this text's walks alone
set_option linter.unusedVariables false
set_option linter.unusedSimpArgs false

/-! ### waveletlaw29_sameSegment: function 17 -/
def waveletlaw29_sameSegment.f (k : Nat) (a0_0 : Int) (l0_1 : List Int) (a1_0 : Int) (l1_1 : List Int) : Option (Bool) := if a0_0 = a1_0 then ((waveletlaw29_same.f k l0_1 l1_1).bind fun t216 => (some t216)) else (some false)
theorem waveletlaw29_sameSegment.mono : ∀ a0 a1 a2 a3 k, LeO (waveletlaw29_sameSegment.f k a0 a1 a2 a3) (waveletlaw29_sameSegment.f (k + 1) a0 a1 a2 a3) := by
  intro a0 a1 a2 a3 k
  unfold waveletlaw29_sameSegment.f
  repeat' first
      | (with_reducible exact waveletlaw29_same.mono _ _ _)
      | (with_reducible exact LeO.refl _)
      | (with_reducible exact LeO.none _)
      | (with_reducible refine LeO.ite ?_ ?_)
      | (with_reducible refine LeO.bind ?_ (fun _ => ?_))
      | exact waveletlaw29_same.mono _ _ _
      | exact LeO.none _
      | refine LeO.ite ?_ ?_
      | refine LeO.bind ?_ (fun _ => ?_)
set_option maxHeartbeats 8000000 in
set_option maxRecDepth 100000 in
theorem waveletlaw29_sameSegment.calls (k : Nat) (a0_0 : Int) (A0_1 : Option Addr) (c0_1 : Nat) (l0_1 : List Int) (a1_0 : Int) (A1_1 : Option Addr) (c1_1 : Nat) (l1_1 : List Int) (r : Bool) (w : World) (hr0_1 : Kd.C (Kd.int .u8) w A0_1 l0_1.length l0_1) (hc0_1 : l0_1.length ≤ c0_1) (hr1_1 : Kd.C (Kd.int .u8) w A1_1 l1_1.length l1_1) (hc1_1 : l1_1.length ≤ c1_1) (h : waveletlaw29_sameSegment.f k a0_0 l0_1 a1_0 l1_1 = some r) :
    Calls Try.prog 17 #[.agg #[.int .i64 a0_0, .slice A0_1 l0_1.length c0_1], .agg #[.int .i64 a1_0, .slice A1_1 l1_1.length c1_1]] w fun e w' => e = .returned (.bool r) ∧ Below w.heap.size w w' := by
  have hu26 := Try.underlying26
  have HR0_1 := Aside0.mk hr0_1
  have HC0_1 := Aside0.mk hc0_1
  clear hr0_1 hc0_1
  have HR1_1 := Aside0.mk hr1_1
  have HC1_1 := Aside0.mk hc1_1
  clear hr1_1 hc1_1
  have HB := Aside0.mk (Below.refl w.heap.size w)
  have H : (if a0_0 = a1_0 then ((waveletlaw29_same.f k l0_1 l1_1).bind fun t216 => (some t216)) else (some false)) = some r := h
  clear h
  by_cases c3 : a0_0 = a1_0
  · rw [if_pos c3] at H
    have c3b0 : (a0_0 == a1_0) = true := beq_iff_eq.mpr c3
    have c3b1 : (a0_0 != a1_0) = false := bne_eq_false_iff_eq.mpr c3
    clear c3
    replace H := Option.bind_eq_some_iff.mp H
    obtain ⟨t216, A40, H⟩ := H
    replace H : (some t216) = some r := H
    have A4 := Aside0.mk A40
    clear A40
    obtain rfl := Option.some.inj H
    go_enter Try.func17, Try.ntmps17
    go_wp2_with (first | ((with_reducible refine gate_dst (N := 2) rfl ?_); refine box_event ?hg (N := 2) ?hd (cs := #[.int .i64 a0_0, .slice A0_1 l0_1.length c0_1]) (t := 26) ?hr ?_; (case hd => rfl); (case hg => rfl); (case hr => first | (go_simp; done) | (go_simp; rfl)); intro gb214 hg w5 hbox hb; have BK214 := Aside0.mk (hbox); have GW214 := Aside0.mk ((by rw [hg]; exact (below_size (upB HB.out)) : w.heap.size ≤ gb214)); have GE214 := Aside0.mk ((by rw [hg]; exact (below_size (upB HB.out)) : w.heap.size ≤ gb214)); replace HB := Aside0.mk (below_step (upB HB.out) hb); clear hb hbox hg) | ((with_reducible refine gate_dst (N := 3) rfl ?_); refine box_event ?hg (N := 3) ?hd (cs := #[.int .i64 a1_0, .slice A1_1 l1_1.length c1_1]) (t := 26) ?hr ?_; (case hd => rfl); (case hg => rfl); (case hr => first | (go_simp; done) | (go_simp; rfl)); intro gb215 hg w6 hbox hb; have BK215 := Aside0.mk (hbox); have GW215 := Aside0.mk ((by rw [hg]; exact (below_size (upB HB.out)) : w.heap.size ≤ gb215)); have GE215 := Aside0.mk ((by rw [hg]; exact (below_size (upB HB.out)) : w.heap.size ≤ gb215)); replace HB := Aside0.mk (below_step (upB HB.out) hb); have NB214_215 := Aside0.mk ((by rw [hg]; exact Nat.ne_of_lt (blk_lt (upK BK214.out)) : gb214 ≠ gb215)); have NB215_214 := Aside0.mk ((by rw [hg]; exact Nat.ne_of_gt (blk_lt (upK BK214.out)) : gb215 ≠ gb214)); replace BK214 := Aside0.mk (blk_below (g := gb214) (o := .cells #[.int .i64 a0_0, .slice A0_1 l0_1.length c0_1] 26 (0, 0)) (upK BK214.out) hb); clear hb hbox hg; have hnb7 := NB214_215.out; have hnc7 := NB215_214.out; have hcz8_0 : w6.cell? ⟨gb214, 0, none⟩ = some (.int .i64 a0_0) := bc BK214 0; have hcz8_1 : w6.cell? ⟨gb214, 1, none⟩ = some (.slice A0_1 l0_1.length c0_1) := bc BK214 1; have hfz8_0 := blk_frozen BK214.out 0; have hfz8_1 := blk_frozen BK214.out 1; have hcz9_0 : w6.cell? ⟨gb215, 0, none⟩ = some (.int .i64 a1_0) := bc BK215 0; have hcz9_1 : w6.cell? ⟨gb215, 1, none⟩ = some (.slice A1_1 l1_1.length c1_1) := bc BK215 1; have hfz9_0 := blk_frozen BK215.out 0; have hfz9_1 := blk_frozen BK215.out 1) | (go_at_call 42; (with_reducible refine (waveletlaw29_same.calls k _ _ l0_1 _ _ l1_1 t216 _ ?side1 ?side2 ?side3 ?side4 A4.out).mono ?_); (case side1 => repeat (first | exact (Kd.C_below HR0_1.out HB.out) | (with_reducible refine Kd.C_alloc ?_ _) | (with_reducible refine Kd.C_drewN ?_ _) | (with_reducible refine Kd.C_drew ?_))); (case side2 => exact HC0_1.out); (case side3 => repeat (first | exact (Kd.C_below HR1_1.out HB.out) | (with_reducible refine Kd.C_alloc ?_ _) | (with_reducible refine Kd.C_drewN ?_ _) | (with_reducible refine Kd.C_drew ?_))); (case side4 => exact HC1_1.out); rintro e w' ⟨rfl, ⟨nd, rfl⟩⟩))
    go_ret
    exact ⟨by first | rfl | (simp [errW_none, errW_some] <;> rfl) | (simp [*, errW_none, errW_some] <;> rfl), by repeat (first | (with_reducible first | exact HB.out | apply below_alloc | apply pw_below_drewN | apply below_drew1 | refine below_set ?_ GE214.out | refine below_set ?_ GE215.out) | exact HB.out)⟩
  · rw [if_neg c3] at H
    have c3b0 : (a0_0 == a1_0) = false := beq_eq_false_iff_ne.mpr c3
    have c3b1 : (a0_0 != a1_0) = true := bne_iff_ne.mpr c3
    obtain rfl := Option.some.inj H
    go_enter Try.func17, Try.ntmps17
    go_wp2_with (first | ((with_reducible refine gate_dst (N := 2) rfl ?_); refine box_event ?hg (N := 2) ?hd (cs := #[.int .i64 a0_0, .slice A0_1 l0_1.length c0_1]) (t := 26) ?hr ?_; (case hd => rfl); (case hg => rfl); (case hr => first | (go_simp; done) | (go_simp; rfl)); intro gb214 hg w10 hbox hb; have BK214 := Aside0.mk (hbox); have GW214 := Aside0.mk ((by rw [hg]; exact (below_size (upB HB.out)) : w.heap.size ≤ gb214)); have GE214 := Aside0.mk ((by rw [hg]; exact (below_size (upB HB.out)) : w.heap.size ≤ gb214)); replace HB := Aside0.mk (below_step (upB HB.out) hb); clear hb hbox hg) | ((with_reducible refine gate_dst (N := 3) rfl ?_); refine box_event ?hg (N := 3) ?hd (cs := #[.int .i64 a1_0, .slice A1_1 l1_1.length c1_1]) (t := 26) ?hr ?_; (case hd => rfl); (case hg => rfl); (case hr => first | (go_simp; done) | (go_simp; rfl)); intro gb215 hg w11 hbox hb; have BK215 := Aside0.mk (hbox); have GW215 := Aside0.mk ((by rw [hg]; exact (below_size (upB HB.out)) : w.heap.size ≤ gb215)); have GE215 := Aside0.mk ((by rw [hg]; exact (below_size (upB HB.out)) : w.heap.size ≤ gb215)); replace HB := Aside0.mk (below_step (upB HB.out) hb); have NB214_215 := Aside0.mk ((by rw [hg]; exact Nat.ne_of_lt (blk_lt (upK BK214.out)) : gb214 ≠ gb215)); have NB215_214 := Aside0.mk ((by rw [hg]; exact Nat.ne_of_gt (blk_lt (upK BK214.out)) : gb215 ≠ gb214)); replace BK214 := Aside0.mk (blk_below (g := gb214) (o := .cells #[.int .i64 a0_0, .slice A0_1 l0_1.length c0_1] 26 (0, 0)) (upK BK214.out) hb); clear hb hbox hg; have hnb12 := NB214_215.out; have hnc12 := NB215_214.out; have hcz13_0 : w11.cell? ⟨gb214, 0, none⟩ = some (.int .i64 a0_0) := bc BK214 0; have hcz13_1 : w11.cell? ⟨gb214, 1, none⟩ = some (.slice A0_1 l0_1.length c0_1) := bc BK214 1; have hfz13_0 := blk_frozen BK214.out 0; have hfz13_1 := blk_frozen BK214.out 1; have hcz14_0 : w11.cell? ⟨gb215, 0, none⟩ = some (.int .i64 a1_0) := bc BK215 0; have hcz14_1 : w11.cell? ⟨gb215, 1, none⟩ = some (.slice A1_1 l1_1.length c1_1) := bc BK215 1; have hfz14_0 := blk_frozen BK215.out 0; have hfz14_1 := blk_frozen BK215.out 1))
    go_ret
    exact ⟨by first | rfl | (simp [errW_none, errW_some] <;> rfl) | (simp [*, errW_none, errW_some] <;> rfl), by repeat (first | (with_reducible first | exact HB.out | apply below_alloc | apply pw_below_drewN | apply below_drew1 | refine below_set ?_ GE214.out | refine below_set ?_ GE215.out) | exact HB.out)⟩

end Go.Proofs.Ytihfopblmjgfaaa.Q
