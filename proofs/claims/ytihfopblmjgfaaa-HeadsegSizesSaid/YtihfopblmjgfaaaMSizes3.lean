/- Texts of this session (words and printed walks, merged by wip/tools/merge.py) for the statement of the claim. -/
import Derived.Test.YtihfopblmjgfaaaMSizes1
import Derived.Test.YtihfopblmjgfaaaMSizes2
namespace Go.Proofs.Ytihfopblmjgfaaa.Q
open Go.RowKit Go.Proofs.YtihfopblmjgfaaaW.PrintWords Go.Proofs.YtihfopblmjgfaaaW.PrintLast Go.Proofs.YtihfopblmjgfaaaW.PrintMore
attribute [local go_sem] max2_int min2_int max_two min_two max_three min_three max_four min_four   -- for this text's walks alone
set_option linter.unusedVariables false
set_option linter.unusedSimpArgs false

/-! ### waveletlaw29_awake: function 12 -/
def waveletlaw29_awake.f (k : Nat)  : Option (Bool) := (headseg_Quant.f k 0 0 0 0 0 ([] : List (S89)) 0 0 false false false false false false false false (([1, 256] : List Int)) 16 0).bind fun bt170 => ((headseg_Tile.f k 1 0 2 300).bind fun bt176 => ((headseg_Lengths.f k 65445 ([] : List Int)).bind fun bt182 => ((headseg_ParseTile.f k bt176.1 bt176.2.1).bind fun bt186 => ((waveletlaw29_same.f k bt170.2.1 (([16, 2, 0, 0, 0, 255] : List Int))).bind fun t194 => (if t194 = true then ((waveletlaw29_same.f k bt176.2.1 (([0, 1, 0, 2, 0, 0, 1, 44] : List Int))).bind fun t198 => (if t198 = true then (if (bt182.1.length : Int) = 1 then (if 0 < (bt182.1.length : Int) then ((waveletlaw29_same.f k ((rd_T26 bt182.1 0).f1) (([0] : List Int))).bind fun t203 => (if t203 = true then (if bt170.2.2 = 0 then (if bt176.2.2 = 0 then (if bt182.2 = 0 then (if bt186.2.2.2.2 = 0 then (if bt186.1 = 1 then (if bt186.2.1 = 0 then (if bt186.2.2.1 = 2 then (if bt186.2.2.2.1 = 300 then (if bt170.1 = 65443 then (some (bt176.1 == 65456)) else (some false)) else (some false)) else (some false)) else (some false)) else (some false)) else (some false)) else (some false)) else (some false)) else (some false)) else (some false))) else (none)) else (some false)) else (some false))) else (some false))))))
theorem waveletlaw29_awake.mono : ∀ k, LeO (waveletlaw29_awake.f k ) (waveletlaw29_awake.f (k + 1) ) := by
  intro  k
  unfold waveletlaw29_awake.f
  repeat' first
      | (with_reducible exact headseg_Lengths.mono _ _ _)
      | (with_reducible exact headseg_ParseTile.mono _ _ _)
      | (with_reducible exact headseg_Quant.mono _ _ _ _ _ _ _ _ _ _ _ _ _ _ _ _ _ _ _ _)
      | (with_reducible exact headseg_Tile.mono _ _ _ _ _)
      | (with_reducible exact waveletlaw29_same.mono _ _ _)
      | (with_reducible exact LeO.refl _)
      | (with_reducible exact LeO.none _)
      | (with_reducible refine LeO.ite ?_ ?_)
      | (with_reducible refine LeO.bind ?_ (fun _ => ?_))
      | exact headseg_Lengths.mono _ _ _
      | exact headseg_ParseTile.mono _ _ _
      | exact headseg_Quant.mono _ _ _ _ _ _ _ _ _ _ _ _ _ _ _ _ _ _ _ _
      | exact headseg_Tile.mono _ _ _ _ _
      | exact waveletlaw29_same.mono _ _ _
      | exact LeO.none _
      | refine LeO.ite ?_ ?_
      | refine LeO.bind ?_ (fun _ => ?_)
set_option maxHeartbeats 8000000 in
set_option maxRecDepth 100000 in
theorem waveletlaw29_awake.calls_ (k : Nat)  (r : Bool) (hr_ : r = true) (w : World) (h : waveletlaw29_awake.f k  = some r) :
    Calls Try.prog 12 #[] w fun e w' => e = .returned (.bool r) ∧ Below w.heap.size w w' := by
  have hu55 := Try.underlying55
  have hu26 := Try.underlying26
  have HB := Aside0.mk (Below.refl w.heap.size w)
  have H : ((headseg_Quant.f k 0 0 0 0 0 ([] : List (S89)) 0 0 false false false false false false false false (([1, 256] : List Int)) 16 0).bind fun bt170 => ((headseg_Tile.f k 1 0 2 300).bind fun bt176 => ((headseg_Lengths.f k 65445 ([] : List Int)).bind fun bt182 => ((headseg_ParseTile.f k bt176.1 bt176.2.1).bind fun bt186 => ((waveletlaw29_same.f k bt170.2.1 (([16, 2, 0, 0, 0, 255] : List Int))).bind fun t194 => (if t194 = true then ((waveletlaw29_same.f k bt176.2.1 (([0, 1, 0, 2, 0, 0, 1, 44] : List Int))).bind fun t198 => (if t198 = true then (if (bt182.1.length : Int) = 1 then (if 0 < (bt182.1.length : Int) then ((waveletlaw29_same.f k ((rd_T26 bt182.1 0).f1) (([0] : List Int))).bind fun t203 => (if t203 = true then (if bt170.2.2 = 0 then (if bt176.2.2 = 0 then (if bt182.2 = 0 then (if bt186.2.2.2.2 = 0 then (if bt186.1 = 1 then (if bt186.2.1 = 0 then (if bt186.2.2.1 = 2 then (if bt186.2.2.2.1 = 300 then (if bt170.1 = 65443 then (some (bt176.1 == 65456)) else (some false)) else (some false)) else (some false)) else (some false)) else (some false)) else (some false)) else (some false)) else (some false)) else (some false)) else (some false))) else (none)) else (some false)) else (some false))) else (some false))))))) = some r := h
  clear h
  obtain ⟨y167, hy167⟩ : ∃ y_ : List Int, y_ = (([1, 256] : List Int)) := ⟨_, rfl⟩
  replace H : ((headseg_Quant.f k 0 0 0 0 0 ([] : List (S89)) 0 0 false false false false false false false false y167 16 0).bind fun bt170 => ((headseg_Tile.f k 1 0 2 300).bind fun bt176 => ((headseg_Lengths.f k 65445 ([] : List Int)).bind fun bt182 => ((headseg_ParseTile.f k bt176.1 bt176.2.1).bind fun bt186 => ((waveletlaw29_same.f k bt170.2.1 (([16, 2, 0, 0, 0, 255] : List Int))).bind fun t194 => (if t194 = true then ((waveletlaw29_same.f k bt176.2.1 (([0, 1, 0, 2, 0, 0, 1, 44] : List Int))).bind fun t198 => (if t198 = true then (if (bt182.1.length : Int) = 1 then (if 0 < (bt182.1.length : Int) then ((waveletlaw29_same.f k ((rd_T26 bt182.1 0).f1) (([0] : List Int))).bind fun t203 => (if t203 = true then (if bt170.2.2 = 0 then (if bt176.2.2 = 0 then (if bt182.2 = 0 then (if bt186.2.2.2.2 = 0 then (if bt186.1 = 1 then (if bt186.2.1 = 0 then (if bt186.2.2.1 = 2 then (if bt186.2.2.2.1 = 300 then (if bt170.1 = 65443 then (some (bt176.1 == 65456)) else (some false)) else (some false)) else (some false)) else (some false)) else (some false)) else (some false)) else (some false)) else (some false)) else (some false)) else (some false))) else (none)) else (some false)) else (some false))) else (some false))))))) = some r := by first | (rw [hy167]; with_reducible exact H) | (have H2_ := (Option.bind_some _ _).symm.trans H; rw [hy167]; with_reducible exact H2_) | (have H2_ := (Option.bind_some _ _).symm.trans H; with_reducible exact H2_) | with_reducible exact H | (rw [hy167]; exact H) | exact H
  have Ny167 := Aside0.mk hy167
  clear hy167
  replace H := Option.bind_eq_some_iff.mp H
  obtain ⟨⟨t170, t171, t174⟩, A10, H⟩ := H
  replace H : ((headseg_Tile.f k 1 0 2 300).bind fun bt176 => ((headseg_Lengths.f k 65445 ([] : List Int)).bind fun bt182 => ((headseg_ParseTile.f k bt176.1 bt176.2.1).bind fun bt186 => ((waveletlaw29_same.f k t171 (([16, 2, 0, 0, 0, 255] : List Int))).bind fun t194 => (if t194 = true then ((waveletlaw29_same.f k bt176.2.1 (([0, 1, 0, 2, 0, 0, 1, 44] : List Int))).bind fun t198 => (if t198 = true then (if (bt182.1.length : Int) = 1 then (if 0 < (bt182.1.length : Int) then ((waveletlaw29_same.f k ((rd_T26 bt182.1 0).f1) (([0] : List Int))).bind fun t203 => (if t203 = true then (if t174 = 0 then (if bt176.2.2 = 0 then (if bt182.2 = 0 then (if bt186.2.2.2.2 = 0 then (if bt186.1 = 1 then (if bt186.2.1 = 0 then (if bt186.2.2.1 = 2 then (if bt186.2.2.2.1 = 300 then (if t170 = 65443 then (some (bt176.1 == 65456)) else (some false)) else (some false)) else (some false)) else (some false)) else (some false)) else (some false)) else (some false)) else (some false)) else (some false)) else (some false))) else (none)) else (some false)) else (some false))) else (some false)))))) = some r := H
  have A1 := Aside0.mk A10
  clear A10
  replace H := Option.bind_eq_some_iff.mp H
  obtain ⟨⟨t176, t177, t180⟩, A20, H⟩ := H
  replace H : ((headseg_Lengths.f k 65445 ([] : List Int)).bind fun bt182 => ((headseg_ParseTile.f k t176 t177).bind fun bt186 => ((waveletlaw29_same.f k t171 (([16, 2, 0, 0, 0, 255] : List Int))).bind fun t194 => (if t194 = true then ((waveletlaw29_same.f k t177 (([0, 1, 0, 2, 0, 0, 1, 44] : List Int))).bind fun t198 => (if t198 = true then (if (bt182.1.length : Int) = 1 then (if 0 < (bt182.1.length : Int) then ((waveletlaw29_same.f k ((rd_T26 bt182.1 0).f1) (([0] : List Int))).bind fun t203 => (if t203 = true then (if t174 = 0 then (if t180 = 0 then (if bt182.2 = 0 then (if bt186.2.2.2.2 = 0 then (if bt186.1 = 1 then (if bt186.2.1 = 0 then (if bt186.2.2.1 = 2 then (if bt186.2.2.2.1 = 300 then (if t170 = 65443 then (some (t176 == 65456)) else (some false)) else (some false)) else (some false)) else (some false)) else (some false)) else (some false)) else (some false)) else (some false)) else (some false)) else (some false))) else (none)) else (some false)) else (some false))) else (some false))))) = some r := H
  have A2 := Aside0.mk A20
  clear A20
  replace H := Option.bind_eq_some_iff.mp H
  obtain ⟨⟨t182, t183⟩, A30, H⟩ := H
  replace H : ((headseg_ParseTile.f k t176 t177).bind fun bt186 => ((waveletlaw29_same.f k t171 (([16, 2, 0, 0, 0, 255] : List Int))).bind fun t194 => (if t194 = true then ((waveletlaw29_same.f k t177 (([0, 1, 0, 2, 0, 0, 1, 44] : List Int))).bind fun t198 => (if t198 = true then (if (t182.length : Int) = 1 then (if 0 < (t182.length : Int) then ((waveletlaw29_same.f k ((rd_T26 t182 0).f1) (([0] : List Int))).bind fun t203 => (if t203 = true then (if t174 = 0 then (if t180 = 0 then (if t183 = 0 then (if bt186.2.2.2.2 = 0 then (if bt186.1 = 1 then (if bt186.2.1 = 0 then (if bt186.2.2.1 = 2 then (if bt186.2.2.2.1 = 300 then (if t170 = 65443 then (some (t176 == 65456)) else (some false)) else (some false)) else (some false)) else (some false)) else (some false)) else (some false)) else (some false)) else (some false)) else (some false)) else (some false))) else (none)) else (some false)) else (some false))) else (some false)))) = some r := H
  have A3 := Aside0.mk A30
  clear A30
  replace H := Option.bind_eq_some_iff.mp H
  obtain ⟨⟨t186, t187, t188, t189, t190⟩, A40, H⟩ := H
  replace H : ((waveletlaw29_same.f k t171 (([16, 2, 0, 0, 0, 255] : List Int))).bind fun t194 => (if t194 = true then ((waveletlaw29_same.f k t177 (([0, 1, 0, 2, 0, 0, 1, 44] : List Int))).bind fun t198 => (if t198 = true then (if (t182.length : Int) = 1 then (if 0 < (t182.length : Int) then ((waveletlaw29_same.f k ((rd_T26 t182 0).f1) (([0] : List Int))).bind fun t203 => (if t203 = true then (if t174 = 0 then (if t180 = 0 then (if t183 = 0 then (if t190 = 0 then (if t186 = 1 then (if t187 = 0 then (if t188 = 2 then (if t189 = 300 then (if t170 = 65443 then (some (t176 == 65456)) else (some false)) else (some false)) else (some false)) else (some false)) else (some false)) else (some false)) else (some false)) else (some false)) else (some false)) else (some false))) else (none)) else (some false)) else (some false))) else (some false))) = some r := H
  have A4 := Aside0.mk A40
  clear A40
  obtain ⟨y191, hy191⟩ : ∃ y_ : List Int, y_ = (([16, 2, 0, 0, 0, 255] : List Int)) := ⟨_, rfl⟩
  replace H : ((waveletlaw29_same.f k t171 y191).bind fun t194 => (if t194 = true then ((waveletlaw29_same.f k t177 (([0, 1, 0, 2, 0, 0, 1, 44] : List Int))).bind fun t198 => (if t198 = true then (if (t182.length : Int) = 1 then (if 0 < (t182.length : Int) then ((waveletlaw29_same.f k ((rd_T26 t182 0).f1) (([0] : List Int))).bind fun t203 => (if t203 = true then (if t174 = 0 then (if t180 = 0 then (if t183 = 0 then (if t190 = 0 then (if t186 = 1 then (if t187 = 0 then (if t188 = 2 then (if t189 = 300 then (if t170 = 65443 then (some (t176 == 65456)) else (some false)) else (some false)) else (some false)) else (some false)) else (some false)) else (some false)) else (some false)) else (some false)) else (some false)) else (some false))) else (none)) else (some false)) else (some false))) else (some false))) = some r := by first | (rw [hy191]; with_reducible exact H) | (have H2_ := (Option.bind_some _ _).symm.trans H; rw [hy191]; with_reducible exact H2_) | (have H2_ := (Option.bind_some _ _).symm.trans H; with_reducible exact H2_) | with_reducible exact H | (rw [hy191]; exact H) | exact H
  have Ny191 := Aside0.mk hy191
  clear hy191
  replace H := Option.bind_eq_some_iff.mp H
  obtain ⟨t194, A50, H⟩ := H
  replace H : (if t194 = true then ((waveletlaw29_same.f k t177 (([0, 1, 0, 2, 0, 0, 1, 44] : List Int))).bind fun t198 => (if t198 = true then (if (t182.length : Int) = 1 then (if 0 < (t182.length : Int) then ((waveletlaw29_same.f k ((rd_T26 t182 0).f1) (([0] : List Int))).bind fun t203 => (if t203 = true then (if t174 = 0 then (if t180 = 0 then (if t183 = 0 then (if t190 = 0 then (if t186 = 1 then (if t187 = 0 then (if t188 = 2 then (if t189 = 300 then (if t170 = 65443 then (some (t176 == 65456)) else (some false)) else (some false)) else (some false)) else (some false)) else (some false)) else (some false)) else (some false)) else (some false)) else (some false)) else (some false))) else (none)) else (some false)) else (some false))) else (some false)) = some r := H
  have A5 := Aside0.mk A50
  clear A50
  by_cases c6 : t194 = true
  · subst c6
    have H1 : ((waveletlaw29_same.f k t177 (([0, 1, 0, 2, 0, 0, 1, 44] : List Int))).bind fun t198 => (if t198 = true then (if (t182.length : Int) = 1 then (if 0 < (t182.length : Int) then ((waveletlaw29_same.f k ((rd_T26 t182 0).f1) (([0] : List Int))).bind fun t203 => (if t203 = true then (if t174 = 0 then (if t180 = 0 then (if t183 = 0 then (if t190 = 0 then (if t186 = 1 then (if t187 = 0 then (if t188 = 2 then (if t189 = 300 then (if t170 = 65443 then (some (t176 == 65456)) else (some false)) else (some false)) else (some false)) else (some false)) else (some false)) else (some false)) else (some false)) else (some false)) else (some false)) else (some false))) else (none)) else (some false)) else (some false))) = some r := by rw [if_pos rfl] at H; exact H
    clear H
    have H := H1
    clear H1
    obtain ⟨y195, hy195⟩ : ∃ y_ : List Int, y_ = (([0, 1, 0, 2, 0, 0, 1, 44] : List Int)) := ⟨_, rfl⟩
    replace H : ((waveletlaw29_same.f k t177 y195).bind fun t198 => (if t198 = true then (if (t182.length : Int) = 1 then (if 0 < (t182.length : Int) then ((waveletlaw29_same.f k ((rd_T26 t182 0).f1) (([0] : List Int))).bind fun t203 => (if t203 = true then (if t174 = 0 then (if t180 = 0 then (if t183 = 0 then (if t190 = 0 then (if t186 = 1 then (if t187 = 0 then (if t188 = 2 then (if t189 = 300 then (if t170 = 65443 then (some (t176 == 65456)) else (some false)) else (some false)) else (some false)) else (some false)) else (some false)) else (some false)) else (some false)) else (some false)) else (some false)) else (some false))) else (none)) else (some false)) else (some false))) = some r := by first | (rw [hy195]; with_reducible exact H) | (have H2_ := (Option.bind_some _ _).symm.trans H; rw [hy195]; with_reducible exact H2_) | (have H2_ := (Option.bind_some _ _).symm.trans H; with_reducible exact H2_) | with_reducible exact H | (rw [hy195]; exact H) | exact H
    have Ny195 := Aside0.mk hy195
    clear hy195
    replace H := Option.bind_eq_some_iff.mp H
    obtain ⟨t198, A70, H⟩ := H
    replace H : (if t198 = true then (if (t182.length : Int) = 1 then (if 0 < (t182.length : Int) then ((waveletlaw29_same.f k ((rd_T26 t182 0).f1) (([0] : List Int))).bind fun t203 => (if t203 = true then (if t174 = 0 then (if t180 = 0 then (if t183 = 0 then (if t190 = 0 then (if t186 = 1 then (if t187 = 0 then (if t188 = 2 then (if t189 = 300 then (if t170 = 65443 then (some (t176 == 65456)) else (some false)) else (some false)) else (some false)) else (some false)) else (some false)) else (some false)) else (some false)) else (some false)) else (some false)) else (some false))) else (none)) else (some false)) else (some false)) = some r := H
    have A7 := Aside0.mk A70
    clear A70
    by_cases c8 : t198 = true
    · subst c8
      have H1 : (if (t182.length : Int) = 1 then (if 0 < (t182.length : Int) then ((waveletlaw29_same.f k ((rd_T26 t182 0).f1) (([0] : List Int))).bind fun t203 => (if t203 = true then (if t174 = 0 then (if t180 = 0 then (if t183 = 0 then (if t190 = 0 then (if t186 = 1 then (if t187 = 0 then (if t188 = 2 then (if t189 = 300 then (if t170 = 65443 then (some (t176 == 65456)) else (some false)) else (some false)) else (some false)) else (some false)) else (some false)) else (some false)) else (some false)) else (some false)) else (some false)) else (some false))) else (none)) else (some false)) = some r := by rw [if_pos rfl] at H; exact H
      clear H
      have H := H1
      clear H1
      by_cases c9 : (t182.length : Int) = 1
      · rw [if_pos c9] at H
        have c9b0 : ((t182.length : Int) == 1) = true := beq_iff_eq.mpr c9
        have c9b1 : ((t182.length : Int) != 1) = false := bne_eq_false_iff_eq.mpr c9
        clear c9
        by_cases c10 : 0 < (t182.length : Int)
        · rw [if_pos c10] at H
          have c10b0 : decide (0 < (t182.length : Int)) = true := decide_eq_true c10
          have c10b1 : decide (0 < t182.length) = true := decide_eq_true (by omega)
          clear c10
          obtain ⟨y200, hy200⟩ : ∃ y_ : List Int, y_ = (([0] : List Int)) := ⟨_, rfl⟩
          replace H : ((waveletlaw29_same.f k ((rd_T26 t182 0).f1) y200).bind fun t203 => (if t203 = true then (if t174 = 0 then (if t180 = 0 then (if t183 = 0 then (if t190 = 0 then (if t186 = 1 then (if t187 = 0 then (if t188 = 2 then (if t189 = 300 then (if t170 = 65443 then (some (t176 == 65456)) else (some false)) else (some false)) else (some false)) else (some false)) else (some false)) else (some false)) else (some false)) else (some false)) else (some false)) else (some false))) = some r := by first | (rw [hy200]; with_reducible exact H) | (have H2_ := (Option.bind_some _ _).symm.trans H; rw [hy200]; with_reducible exact H2_) | (have H2_ := (Option.bind_some _ _).symm.trans H; with_reducible exact H2_) | with_reducible exact H | (rw [hy200]; exact H) | exact H
          have Ny200 := Aside0.mk hy200
          clear hy200
          replace H := Option.bind_eq_some_iff.mp H
          obtain ⟨t203, A110, H⟩ := H
          replace H : (if t203 = true then (if t174 = 0 then (if t180 = 0 then (if t183 = 0 then (if t190 = 0 then (if t186 = 1 then (if t187 = 0 then (if t188 = 2 then (if t189 = 300 then (if t170 = 65443 then (some (t176 == 65456)) else (some false)) else (some false)) else (some false)) else (some false)) else (some false)) else (some false)) else (some false)) else (some false)) else (some false)) else (some false)) = some r := H
          have A11 := Aside0.mk A110
          clear A110
          by_cases c12 : t203 = true
          · subst c12
            have H1 : (if t174 = 0 then (if t180 = 0 then (if t183 = 0 then (if t190 = 0 then (if t186 = 1 then (if t187 = 0 then (if t188 = 2 then (if t189 = 300 then (if t170 = 65443 then (some (t176 == 65456)) else (some false)) else (some false)) else (some false)) else (some false)) else (some false)) else (some false)) else (some false)) else (some false)) else (some false)) = some r := by rw [if_pos rfl] at H; exact H
            clear H
            have H := H1
            clear H1
            by_cases c13 : t174 = 0
            · rw [if_pos c13] at H
              have c13b0 : (t174 == 0) = true := beq_iff_eq.mpr c13
              have c13b1 : (t174 != 0) = false := bne_eq_false_iff_eq.mpr c13
              clear c13
              by_cases c14 : t180 = 0
              · rw [if_pos c14] at H
                have c14b0 : (t180 == 0) = true := beq_iff_eq.mpr c14
                have c14b1 : (t180 != 0) = false := bne_eq_false_iff_eq.mpr c14
                clear c14
                by_cases c15 : t183 = 0
                · rw [if_pos c15] at H
                  have c15b0 : (t183 == 0) = true := beq_iff_eq.mpr c15
                  have c15b1 : (t183 != 0) = false := bne_eq_false_iff_eq.mpr c15
                  clear c15
                  by_cases c16 : t190 = 0
                  · rw [if_pos c16] at H
                    have c16b0 : (t190 == 0) = true := beq_iff_eq.mpr c16
                    have c16b1 : (t190 != 0) = false := bne_eq_false_iff_eq.mpr c16
                    clear c16
                    by_cases c17 : t186 = 1
                    · rw [if_pos c17] at H
                      have c17b0 : (t186 == 1) = true := beq_iff_eq.mpr c17
                      have c17b1 : (t186 != 1) = false := bne_eq_false_iff_eq.mpr c17
                      clear c17
                      by_cases c18 : t187 = 0
                      · rw [if_pos c18] at H
                        have c18b0 : (t187 == 0) = true := beq_iff_eq.mpr c18
                        have c18b1 : (t187 != 0) = false := bne_eq_false_iff_eq.mpr c18
                        clear c18
                        by_cases c19 : t188 = 2
                        · rw [if_pos c19] at H
                          have c19b0 : (t188 == 2) = true := beq_iff_eq.mpr c19
                          have c19b1 : (t188 != 2) = false := bne_eq_false_iff_eq.mpr c19
                          clear c19
                          by_cases c20 : t189 = 300
                          · rw [if_pos c20] at H
                            have c20b0 : (t189 == 300) = true := beq_iff_eq.mpr c20
                            have c20b1 : (t189 != 300) = false := bne_eq_false_iff_eq.mpr c20
                            clear c20
                            by_cases c21 : t170 = 65443
                            · rw [if_pos c21] at H
                              have c21b0 : (t170 == 65443) = true := beq_iff_eq.mpr c21
                              have c21b1 : (t170 != 65443) = false := bne_eq_false_iff_eq.mpr c21
                              clear c21
                              obtain rfl := Option.some.inj H
                              go_enter Try.func12, Try.ntmps12
                              go_wp2_with (first | ((with_reducible refine gate_dst (N := 13) rfl ?_); (try (refine gate_guard (by rfl) ?_; dsimp only)); refine Kd.R_lit (Kd.int .i64) _ 3 ?hg (N := 13) ?hd (xs := ([1, 256] : List Int)) (inner := [.int .i64 1, .int .i64 256]) (ok := fun _ => True) (okp := fun _ => True) ?hr ?hp (fun _ hk => hk) trivial (Below.refl _ _) (Nat.le_refl _) (by simp) ?_; (case hd => rfl); (case hg => rfl); (case hr => first | (go_simp; done) | (go_simp; rfl)); (case hp => exact (Reps.one (show Kd.M (Kd.int .i64) _ _ _ 1 [.int .i64 1] from rfl) (Reps.one (show Kd.M (Kd.int .i64) _ _ _ 256 [.int .i64 256] from rfl) (Reps.none _ _)))); intro v168 w22 ho23 hb hg_ hnew_; clear hg_ hnew_; (first | rw [← Ny167.out] at ho23 | (simp only [Int.reduceToNat] at ho23; rw [← Ny167.out] at ho23)); have HO169 := Aside0.mk (Kd.R_lower ho23 (below_size (upB HB.out))); replace HB := Aside0.mk (below_step (upB HB.out) hb); clear hb ho23; obtain ⟨Ao24, co24, eo24⟩ := Kd.R_slice HO169.out; subst eo24) | ((with_reducible refine gate_callee (f := 28) rfl ?_); refine goesL_ (some 15) rfl rfl Try.func28 (by kernel_rfl) rfl #[.agg #[.int .i64 0, .int .i64 0, .int .i64 0, .int .i64 0, .int .i64 0, .slice none 0 0, .int .i64 0, .int .i64 0, .bool false, .bool false, .bool false, .bool false, .bool false, .bool false, .bool false, .bool false, .slice Ao24 y167.length co24, .int .i64 16, .int .i64 0]] rfl upL ?_; (refine (headseg_Quant.calls k 0 0 0 0 0 _ _ ([] : List (S89)) 0 0 false false false false false false false false _ _ y167 16 0 t170 t171 t174 _ ?side1 ?side2 ?side3 ?side4 A1.out).mono ?_); (case side1 => exact Kd.C_nil _ _); (case side2 => exact Nat.le_refl _); (case side3 => repeat (first | exact (Kd.R_reads' HO169.out).2.2 | (with_reducible refine Kd.C_alloc ?_ _) | (with_reducible refine Kd.C_drewN ?_ _) | (with_reducible refine Kd.C_drew ?_))); (case side4 => exact (Kd.R_reads' HO169.out).2.1); rintro e w25 ⟨v172, rfl, ho0, hb⟩; refine ⟨_, rfl, ?_⟩; replace HO169 := Aside0.mk (Kd.R_below (upR HO169.out) hb); have HO173 := Aside0.mk (Kd.R_lower ho0 (below_size (upB HB.out))); replace HB := Aside0.mk (below_step (upB HB.out) hb); (try clear hb; try clear hb2; try clear hk; try clear hi; try clear ho0)) | ((with_reducible refine gate_dst (N := 1) rfl ?_); (try (refine gate_guard (by rfl) ?_; dsimp only)); refine box_event ?hg (N := 1) ?hd (cs := #[.int .i64 0, .slice none 0 0]) (t := 26) ?hr ?_; (case hd => rfl); (case hg => rfl); (case hr => first | (go_simp; done) | (go_simp; rfl)); intro gb175 hg w26 hbox hb; replace HO169 := Aside0.mk (Kd.R_below (upR HO169.out) hb); replace HO173 := Aside0.mk (Kd.R_below (upR HO173.out) hb); have BK175 := Aside0.mk (hbox); have GW175 := Aside0.mk ((by rw [hg]; exact (below_size (upB HB.out)) : w.heap.size ≤ gb175)); have GE175 := Aside0.mk ((by rw [hg]; exact (below_size (upB HB.out)) : w.heap.size ≤ gb175)); replace HB := Aside0.mk (below_step (upB HB.out) hb); clear hb hbox hg; have hcz27_0 : w26.cell? ⟨gb175, 0, none⟩ = some (.int .i64 0) := bc BK175 0; have hcz27_1 : w26.cell? ⟨gb175, 1, none⟩ = some (.slice none 0 0) := bc BK175 1; have hfz27_0 := blk_frozen BK175.out 0; have hfz27_1 := blk_frozen BK175.out 1; obtain ⟨Ao28, co28, eo28⟩ := Kd.R_slice HO173.out; subst eo28) | ((with_reducible refine gate_callee (f := 18) rfl ?_); refine goesL_ (some 19) rfl rfl Try.func18 (by kernel_rfl) rfl #[.int .i64 1, .int .i64 0, .int .i64 2, .int .i64 300] rfl upL ?_; (with_reducible refine (headseg_Tile.calls k 1 0 2 300 t176 t177 t180 _ A2.out).mono ?_); rintro e w29 ⟨v178, rfl, ho0, hb⟩; refine ⟨_, rfl, ?_⟩; replace HO169 := Aside0.mk (Kd.R_below (by (with_reducible repeat (first | apply Kd.R_alloc | apply Kd.R_drewN | apply Kd.R_drew)); exact (Kd.R_mono (Kd.R_far (Kd.R_far (Kd.R_types HO169.out BK175.out (by decide)) (fun _ hk => hk.2) _) (fun _ hk => hk.2) _) (fun _ h_ => h_.1))) hb); have HO179 := Aside0.mk (Kd.R_lower (Kd.R_new' ho0 (Kd.R_lt (by (with_reducible repeat (first | apply Kd.R_alloc | apply Kd.R_drewN | apply Kd.R_drew)); exact (Kd.R_mono (Kd.R_far (Kd.R_far (Kd.R_types HO173.out BK175.out (by decide)) (fun _ hk => hk.2) _) (fun _ hk => hk.2) _) (fun _ h_ => h_.1))))) (below_size (upB HB.out))); replace HO173 := Aside0.mk (Kd.R_elder' (by (with_reducible repeat (first | apply Kd.R_alloc | apply Kd.R_drewN | apply Kd.R_drew)); exact (Kd.R_mono (Kd.R_far (Kd.R_far (Kd.R_types HO173.out BK175.out (by decide)) (fun _ hk => hk.2) _) (fun _ hk => hk.2) _) (fun _ h_ => h_.1))) (Kd.R_base ho0) hb); replace BK175 := Aside0.mk (blk_below (g := gb175) (o := .cells #[.int .i64 t170, .slice Ao28 t171.length co28] 26 (0, 0)) (by (with_reducible repeat (first | refine blk_drewN ?_ _ | refine blk_drew ?_ | refine blk_alloc ?_ _)); refine blk_put (cs := #[.int .i64 t170, .slice none 0 0]) ?_ 1 _ rfl; (with_reducible repeat (first | refine blk_drewN ?_ _ | refine blk_drew ?_ | refine blk_alloc ?_ _)); refine blk_put (cs := #[.int .i64 0, .slice none 0 0]) ?_ 0 _ rfl; (with_reducible repeat (first | refine blk_drewN ?_ _ | refine blk_drew ?_ | refine blk_alloc ?_ _)); exact BK175.out) hb); replace HB := Aside0.mk (below_step (upB HB.out) hb); (try clear hb; try clear hb2; try clear hk; try clear hi; try clear ho0)) | ((with_reducible refine gate_dst (N := 3) rfl ?_); (try (refine gate_guard (by rfl) ?_; dsimp only)); refine box_event ?hg (N := 3) ?hd (cs := #[.int .i64 0, .slice none 0 0]) (t := 26) ?hr ?_; (case hd => rfl); (case hg => rfl); (case hr => first | (go_simp; done) | (go_simp; rfl)); intro gb181 hg w30 hbox hb; replace HO169 := Aside0.mk (Kd.R_below (upR HO169.out) hb); replace HO173 := Aside0.mk (Kd.R_below (upR HO173.out) hb); replace HO179 := Aside0.mk (Kd.R_below (upR HO179.out) hb); have BK181 := Aside0.mk (hbox); have GW181 := Aside0.mk ((by rw [hg]; exact (below_size (upB HB.out)) : w.heap.size ≤ gb181)); have GE181 := Aside0.mk ((by rw [hg]; exact (below_size (upB HB.out)) : w.heap.size ≤ gb181)); replace HB := Aside0.mk (below_step (upB HB.out) hb); have NB175_181 := Aside0.mk ((by rw [hg]; exact Nat.ne_of_lt (blk_lt (upK BK175.out)) : gb175 ≠ gb181)); have NB181_175 := Aside0.mk ((by rw [hg]; exact Nat.ne_of_gt (blk_lt (upK BK175.out)) : gb181 ≠ gb175)); replace BK175 := Aside0.mk (blk_below (g := gb175) (o := .cells #[.int .i64 t170, .slice Ao28 t171.length co28] 26 (0, 0)) (upK BK175.out) hb); clear hb hbox hg; have hnb31 := NB181_175.out; have hnc31 := NB175_181.out; have hcz32_0 : w30.cell? ⟨gb181, 0, none⟩ = some (.int .i64 0) := bc BK181 0; have hcz32_1 : w30.cell? ⟨gb181, 1, none⟩ = some (.slice none 0 0) := bc BK181 1; have hfz32_0 := blk_frozen BK181.out 0; have hfz32_1 := blk_frozen BK181.out 1; obtain ⟨Ao33, co33, eo33⟩ := Kd.R_slice HO179.out; subst eo33) | ((with_reducible refine gate_callee (f := 22) rfl ?_); refine goesL_ (some 23) rfl rfl Try.func22 (by kernel_rfl) rfl #[.int .i64 65445, .slice none 0 0] rfl upL ?_; (refine (headseg_Lengths.calls k 65445 _ _ ([] : List Int) t182 t183 _ ?side1 ?side2 A3.out).mono ?_); (case side1 => exact Kd.C_nil _ _); (case side2 => exact Nat.le_refl _); rintro e w34 ⟨v184, rfl, ho0, hb⟩; refine ⟨_, rfl, ?_⟩; replace HO169 := Aside0.mk (Kd.R_below (by (with_reducible repeat (first | apply Kd.R_alloc | apply Kd.R_drewN | apply Kd.R_drew)); exact (Kd.R_mono (Kd.R_far (Kd.R_far (Kd.R_types HO169.out BK181.out (by decide)) (fun _ hk => hk.2) _) (fun _ hk => hk.2) _) (fun _ h_ => h_.1))) hb); have HO185 := Aside0.mk (Kd.S_lower (Kd.S_newB (Kd.S_newB (Kd.S_new' (Kd.S_new' ho0 (Kd.R_lt (by (with_reducible repeat (first | apply Kd.R_alloc | apply Kd.R_drewN | apply Kd.R_drew)); exact (Kd.R_mono (Kd.R_far (Kd.R_far (Kd.R_types HO173.out BK181.out (by decide)) (fun _ hk => hk.2) _) (fun _ hk => hk.2) _) (fun _ h_ => h_.1))))) (Kd.R_lt (by (with_reducible repeat (first | apply Kd.R_alloc | apply Kd.R_drewN | apply Kd.R_drew)); exact (Kd.R_mono (Kd.R_far (Kd.R_far (Kd.R_types HO179.out BK181.out (by decide)) (fun _ hk => hk.2) _) (fun _ hk => hk.2) _) (fun _ h_ => h_.1))))) (g := gb175) (o := .cells #[.int .i64 t170, .slice Ao28 t171.length co28] 26 (0, 0)) (by (with_reducible repeat (first | refine blk_far ?_ NB175_181.out _ | refine blk_drewN ?_ _ | refine blk_drew ?_ | refine blk_alloc ?_ _)); exact BK175.out)) (g := gb181) (o := .cells #[.int .i64 t176, .slice Ao33 t177.length co33] 26 (0, 0)) (by (with_reducible repeat (first | refine blk_drewN ?_ _ | refine blk_drew ?_ | refine blk_alloc ?_ _)); refine blk_put (cs := #[.int .i64 t176, .slice none 0 0]) ?_ 1 _ rfl; (with_reducible repeat (first | refine blk_drewN ?_ _ | refine blk_drew ?_ | refine blk_alloc ?_ _)); refine blk_put (cs := #[.int .i64 0, .slice none 0 0]) ?_ 0 _ rfl; (with_reducible repeat (first | refine blk_drewN ?_ _ | refine blk_drew ?_ | refine blk_alloc ?_ _)); exact BK181.out)) (below_size (upB HB.out))); replace HO173 := Aside0.mk (Kd.R_below (by (with_reducible repeat (first | apply Kd.R_alloc | apply Kd.R_drewN | apply Kd.R_drew)); exact (Kd.R_mono (Kd.R_far (Kd.R_far (Kd.R_types HO173.out BK181.out (by decide)) (fun _ hk => hk.2) _) (fun _ hk => hk.2) _) (fun _ h_ => h_.1))) hb); replace HO179 := Aside0.mk (Kd.R_below (by (with_reducible repeat (first | apply Kd.R_alloc | apply Kd.R_drewN | apply Kd.R_drew)); exact (Kd.R_mono (Kd.R_far (Kd.R_far (Kd.R_types HO179.out BK181.out (by decide)) (fun _ hk => hk.2) _) (fun _ hk => hk.2) _) (fun _ h_ => h_.1))) hb); replace BK175 := Aside0.mk (blk_below (g := gb175) (o := .cells #[.int .i64 t170, .slice Ao28 t171.length co28] 26 (0, 0)) (by (with_reducible repeat (first | refine blk_far ?_ NB175_181.out _ | refine blk_drewN ?_ _ | refine blk_drew ?_ | refine blk_alloc ?_ _)); exact BK175.out) hb); replace BK181 := Aside0.mk (blk_below (g := gb181) (o := .cells #[.int .i64 t176, .slice Ao33 t177.length co33] 26 (0, 0)) (by (with_reducible repeat (first | refine blk_drewN ?_ _ | refine blk_drew ?_ | refine blk_alloc ?_ _)); refine blk_put (cs := #[.int .i64 t176, .slice none 0 0]) ?_ 1 _ rfl; (with_reducible repeat (first | refine blk_drewN ?_ _ | refine blk_drew ?_ | refine blk_alloc ?_ _)); refine blk_put (cs := #[.int .i64 0, .slice none 0 0]) ?_ 0 _ rfl; (with_reducible repeat (first | refine blk_drewN ?_ _ | refine blk_drew ?_ | refine blk_alloc ?_ _)); exact BK181.out) hb); replace HB := Aside0.mk (below_step (upB HB.out) hb); (try clear hb; try clear hb2; try clear hk; try clear hi; try clear ho0); have hcz35_0 : w34.cell? ⟨gb181, 0, none⟩ = some (.int .i64 t176) := bc BK181 0; have hcz35_1 : w34.cell? ⟨gb181, 1, none⟩ = some (.slice Ao33 t177.length co33) := bc BK181 1; have hfz35_0 := blk_frozen BK181.out 0; have hfz35_1 := blk_frozen BK181.out 1) | ((with_reducible refine gate_callee (f := 20) rfl ?_); refine goesL_ (some 28) rfl rfl Try.func20 (by kernel_rfl) rfl #[.agg #[.int .i64 t176, .slice Ao33 t177.length co33]] rfl upL ?_; (with_reducible refine (headseg_ParseTile.calls k t176 _ _ t177 t186 t187 t188 t189 t190 _ ?side1 ?side2 A4.out).mono ?_); (case side1 => repeat (first | exact (Kd.R_reads' HO179.out).2.2 | (with_reducible refine Kd.C_alloc ?_ _) | (with_reducible refine Kd.C_drewN ?_ _) | (with_reducible refine Kd.C_drew ?_))); (case side2 => exact (Kd.R_reads' HO179.out).2.1); rintro e w36 ⟨rfl, hb⟩; refine ⟨_, rfl, ?_⟩; replace HO169 := Aside0.mk (Kd.R_below (upR HO169.out) hb); replace HO173 := Aside0.mk (Kd.R_below (upR HO173.out) hb); replace HO179 := Aside0.mk (Kd.R_below (upR HO179.out) hb); replace HO185 := Aside0.mk (Kd.S_below (by (with_reducible repeat (first | apply Kd.S_alloc | apply Kd.S_drewN | apply Kd.S_drew)); exact HO185.out) hb); replace BK175 := Aside0.mk (blk_below (g := gb175) (o := .cells #[.int .i64 t170, .slice Ao28 t171.length co28] 26 (0, 0)) (upK BK175.out) hb); replace BK181 := Aside0.mk (blk_below (g := gb181) (o := .cells #[.int .i64 t176, .slice Ao33 t177.length co33] 26 (0, 0)) (upK BK181.out) hb); replace HB := Aside0.mk (below_step (upB HB.out) hb); (try clear hb; try clear hb2; try clear hk; try clear hi); have hcz37_0 : w36.cell? ⟨gb175, 0, none⟩ = some (.int .i64 t170) := bc BK175 0; have hcz37_1 : w36.cell? ⟨gb175, 1, none⟩ = some (.slice Ao28 t171.length co28) := bc BK175 1; have hfz37_0 := blk_frozen BK175.out 0; have hfz37_1 := blk_frozen BK175.out 1) | ((with_reducible refine gate_dst (N := 36) rfl ?_); (try (refine gate_guard (by rfl) ?_; dsimp only)); refine Kd.R_lit (Kd.int .u8) _ 5 ?hg (N := 36) ?hd (xs := ([16, 2, 0, 0, 0, 255] : List Int)) (inner := [.int .u8 16, .int .u8 2, .int .u8 0, .int .u8 0, .int .u8 0, .int .u8 255]) (ok := fun _ => True) (okp := fun _ => True) ?hr ?hp (fun _ hk => hk) trivial (Below.refl _ _) (Nat.le_refl _) (by simp) ?_; (case hd => rfl); (case hg => rfl); (case hr => first | (go_simp; done) | (go_simp; rfl)); (case hp => exact (Reps.one (show Kd.M (Kd.int .u8) _ _ _ 16 [.int .u8 16] from rfl) (Reps.one (show Kd.M (Kd.int .u8) _ _ _ 2 [.int .u8 2] from rfl) (Reps.one (show Kd.M (Kd.int .u8) _ _ _ 0 [.int .u8 0] from rfl) (Reps.one (show Kd.M (Kd.int .u8) _ _ _ 0 [.int .u8 0] from rfl) (Reps.one (show Kd.M (Kd.int .u8) _ _ _ 0 [.int .u8 0] from rfl) (Reps.one (show Kd.M (Kd.int .u8) _ _ _ 255 [.int .u8 255] from rfl) (Reps.none _ _)))))))); intro v192 w38 ho39 hb hg_ hnew_; clear hg_ hnew_; (first | rw [← Ny191.out] at ho39 | (simp only [Int.reduceToNat] at ho39; rw [← Ny191.out] at ho39)); replace HO169 := Aside0.mk (Kd.R_below (upR HO169.out) hb); replace HO185 := Aside0.mk (Kd.S_elder' (by (with_reducible repeat (first | apply Kd.S_alloc | apply Kd.S_drewN | apply Kd.S_drew)); exact HO185.out) (Kd.R_base ho39) hb); have HO193 := Aside0.mk (Kd.R_lower (Kd.R_new' (Kd.R_new' ho39 (Kd.R_lt (upR HO173.out))) (Kd.R_lt (upR HO179.out))) (below_size (upB HB.out))); replace HO173 := Aside0.mk (Kd.R_elder' (upR HO173.out) (Kd.R_base ho39) hb); replace HO179 := Aside0.mk (Kd.R_elder' (upR HO179.out) (Kd.R_base ho39) hb); replace BK175 := Aside0.mk (blk_below (g := gb175) (o := .cells #[.int .i64 t170, .slice Ao28 t171.length co28] 26 (0, 0)) (upK BK175.out) hb); replace BK181 := Aside0.mk (blk_below (g := gb181) (o := .cells #[.int .i64 t176, .slice Ao33 t177.length co33] 26 (0, 0)) (upK BK181.out) hb); replace HB := Aside0.mk (below_step (upB HB.out) hb); clear hb ho39; obtain ⟨Ao40, co40, eo40⟩ := Kd.R_slice HO193.out; subst eo40) | ((with_reducible refine gate_callee (f := 42) rfl ?_); refine goesL_ (some 37) rfl rfl Try.func42 (by kernel_rfl) rfl #[.slice Ao28 t171.length co28, .slice Ao40 y191.length co40] rfl upL ?_; (with_reducible refine (waveletlaw29_same.calls k _ _ t171 _ _ y191 true _ ?side1 ?side2 ?side3 ?side4 A5.out).mono ?_); (case side1 => repeat (first | exact (Kd.R_reads' HO173.out).2.2 | (with_reducible refine Kd.C_alloc ?_ _) | (with_reducible refine Kd.C_drewN ?_ _) | (with_reducible refine Kd.C_drew ?_))); (case side2 => exact (Kd.R_reads' HO173.out).2.1); (case side3 => repeat (first | exact (Kd.R_reads' HO193.out).2.2 | (with_reducible refine Kd.C_alloc ?_ _) | (with_reducible refine Kd.C_drewN ?_ _) | (with_reducible refine Kd.C_drew ?_))); (case side4 => exact (Kd.R_reads' HO193.out).2.1); rintro e w' ⟨rfl, ⟨nd, rfl⟩⟩; refine ⟨_, rfl, ?_⟩; have hcz41_0 : w38.cell? ⟨gb181, 0, none⟩ = some (.int .i64 t176) := bc BK181 0; have hcz41_1 : w38.cell? ⟨gb181, 1, none⟩ = some (.slice Ao33 t177.length co33) := bc BK181 1; have hfz41_0 := blk_frozen BK181.out 0; have hfz41_1 := blk_frozen BK181.out 1) | ((with_reducible refine gate_dst (N := 42) rfl ?_); (try (refine gate_guard (by rfl) ?_; dsimp only)); refine Kd.R_lit (Kd.int .u8) _ 5 ?hg (N := 42) ?hd (xs := ([0, 1, 0, 2, 0, 0, 1, 44] : List Int)) (inner := [.int .u8 0, .int .u8 1, .int .u8 0, .int .u8 2, .int .u8 0, .int .u8 0, .int .u8 1, .int .u8 44]) (ok := fun _ => True) (okp := fun _ => True) ?hr ?hp (fun _ hk => hk) trivial (Below.refl _ _) (Nat.le_refl _) (by simp) ?_; (case hd => rfl); (case hg => rfl); (case hr => first | (go_simp; done) | (go_simp; rfl)); (case hp => exact (Reps.one (show Kd.M (Kd.int .u8) _ _ _ 0 [.int .u8 0] from rfl) (Reps.one (show Kd.M (Kd.int .u8) _ _ _ 1 [.int .u8 1] from rfl) (Reps.one (show Kd.M (Kd.int .u8) _ _ _ 0 [.int .u8 0] from rfl) (Reps.one (show Kd.M (Kd.int .u8) _ _ _ 2 [.int .u8 2] from rfl) (Reps.one (show Kd.M (Kd.int .u8) _ _ _ 0 [.int .u8 0] from rfl) (Reps.one (show Kd.M (Kd.int .u8) _ _ _ 0 [.int .u8 0] from rfl) (Reps.one (show Kd.M (Kd.int .u8) _ _ _ 1 [.int .u8 1] from rfl) (Reps.one (show Kd.M (Kd.int .u8) _ _ _ 44 [.int .u8 44] from rfl) (Reps.none _ _)))))))))); intro v196 w42 ho43 hb hg_ hnew_; clear hg_ hnew_; (first | rw [← Ny195.out] at ho43 | (simp only [Int.reduceToNat] at ho43; rw [← Ny195.out] at ho43)); replace HO169 := Aside0.mk (Kd.R_below (upR HO169.out) hb); replace HO185 := Aside0.mk (Kd.S_elder' (by (with_reducible repeat (first | apply Kd.S_alloc | apply Kd.S_drewN | apply Kd.S_drew)); exact HO185.out) (Kd.R_base ho43) hb); have HO197 := Aside0.mk (Kd.R_lower (Kd.R_new' (Kd.R_new' (Kd.R_new' ho43 (Kd.R_lt (upR HO173.out))) (Kd.R_lt (upR HO179.out))) (Kd.R_lt (upR HO193.out))) (below_size (upB HB.out))); replace HO173 := Aside0.mk (Kd.R_elder' (upR HO173.out) (Kd.R_base ho43) hb); replace HO179 := Aside0.mk (Kd.R_elder' (upR HO179.out) (Kd.R_base ho43) hb); replace HO193 := Aside0.mk (Kd.R_elder' (upR HO193.out) (Kd.R_base ho43) hb); replace BK175 := Aside0.mk (blk_below (g := gb175) (o := .cells #[.int .i64 t170, .slice Ao28 t171.length co28] 26 (0, 0)) (upK BK175.out) hb); replace BK181 := Aside0.mk (blk_below (g := gb181) (o := .cells #[.int .i64 t176, .slice Ao33 t177.length co33] 26 (0, 0)) (upK BK181.out) hb); replace HB := Aside0.mk (below_step (upB HB.out) hb); clear hb ho43; obtain ⟨Ao44, co44, eo44⟩ := Kd.R_slice HO197.out; subst eo44) | (go_at_call 42; (with_reducible refine (waveletlaw29_same.calls k _ _ t177 _ _ y195 true _ ?side1 ?side2 ?side3 ?side4 A7.out).mono ?_); (case side1 => repeat (first | exact (Kd.R_reads' HO179.out).2.2 | (with_reducible refine Kd.C_alloc ?_ _) | (with_reducible refine Kd.C_drewN ?_ _) | (with_reducible refine Kd.C_drew ?_))); (case side2 => exact (Kd.R_reads' HO179.out).2.1); (case side3 => repeat (first | exact (Kd.R_reads' HO197.out).2.2 | (with_reducible refine Kd.C_alloc ?_ _) | (with_reducible refine Kd.C_drewN ?_ _) | (with_reducible refine Kd.C_drew ?_))); (case side4 => exact (Kd.R_reads' HO197.out).2.1); rintro e w' ⟨rfl, ⟨nd, rfl⟩⟩; obtain ⟨Ao45, co45, eo45⟩ := Kd.S_slice HO185.out; subst eo45; have p199 : 0 ≤ (0 : Int) := (by omega); have q199 : 0 < (t182.length : Int) := of_decide_eq_true (by first | (with_reducible assumption) | assumption); obtain ⟨ad199, A199_1, c199_1, e199, hx199_0, hx199_1, hl199_1, hi199_1⟩ := at_T26 (Kd.S_reads' HO185.out).2.2 0 p199 q199; cases e199; obtain ⟨ce199, hce199, hMe199, hcc199⟩ := Kd.S_get HO185.out z26 0 p199 (by first | exact q199 | exact of_decide_eq_true (by first | (with_reducible assumption) | assumption) | (have e_ := (Kd.S_reads' HO185.out).1; omega)); obtain ⟨ve199_1, rfl, ge199_1⟩ := k26_openM hMe199; have hv199_1 := hcc199 1 _ rfl; rw [add_field _ _ 1 (by omega)] at hv199_1; replace hv199_1 := Option.some.inj (hv199_1.symm.trans hx199_1); rw [hv199_1] at ge199_1; have HL199_1 := Aside0.mk (show Kd.R (Kd.int .u8) 5 _ _ _ _ ((rd_T26 t182 0).f1) from ge199_1); clear hv199_1 ge199_1; clear hcc199 hce199; have qi199 : (0 < t182.length) = True := eq_true (by omega); (try rw [show ((0 : Int)).toNat = 0 from rfl] at hx199_0); (try rw [show 0 * 2 = 0 from rfl] at hx199_0); (try rw [Addr.add_zero'] at hx199_0); (try rw [show ((0 : Int)).toNat = 0 from rfl] at hx199_1); (try rw [show 0 * 2 = 0 from rfl] at hx199_1); (try rw [Addr.add_zero'] at hx199_1); have HR199_1 := Aside0.mk hi199_1; have HC199_1 := Aside0.mk hl199_1; clear hi199_1 hl199_1; replace p199 := eq_true p199; replace q199 := eq_true q199) | ((with_reducible refine gate_dst (N := 56) rfl ?_); (try (refine gate_guard (by rfl) ?_; dsimp only)); refine Kd.R_lit (Kd.int .u8) _ 5 ?hg (N := 56) ?hd (xs := ([0] : List Int)) (inner := [.int .u8 0]) (ok := fun _ => True) (okp := fun _ => True) ?hr ?hp (fun _ hk => hk) trivial (Below.refl _ _) (Nat.le_refl _) (by simp) ?_; (case hd => rfl); (case hg => rfl); (case hr => first | (go_simp; done) | (go_simp; rfl)); (case hp => exact (Reps.one (show Kd.M (Kd.int .u8) _ _ _ 0 [.int .u8 0] from rfl) (Reps.none _ _))); intro v201 w46 ho47 hb hg_ hnew_; clear hg_ hnew_; (first | rw [← Ny200.out] at ho47 | (simp only [Int.reduceToNat] at ho47; rw [← Ny200.out] at ho47)); replace HO169 := Aside0.mk (Kd.R_below (upR HO169.out) hb); replace HO185 := Aside0.mk (Kd.S_elder' (by (with_reducible repeat (first | apply Kd.S_alloc | apply Kd.S_drewN | apply Kd.S_drew)); exact HO185.out) (Kd.R_base ho47) hb); have HO202 := Aside0.mk (Kd.R_lower (Kd.R_new' (Kd.R_new' (Kd.R_new' (Kd.R_new' (Kd.R_new' ho47 (Kd.R_lt (upR HO173.out))) (Kd.R_lt (upR HO179.out))) (Kd.R_lt (upR HO193.out))) (Kd.R_lt (upR HO197.out))) (Kd.R_lt (upR HL199_1.out))) (below_size (upB HB.out))); replace HO173 := Aside0.mk (Kd.R_elder' (upR HO173.out) (Kd.R_base ho47) hb); replace HO179 := Aside0.mk (Kd.R_elder' (upR HO179.out) (Kd.R_base ho47) hb); replace HO193 := Aside0.mk (Kd.R_elder' (upR HO193.out) (Kd.R_base ho47) hb); replace HO197 := Aside0.mk (Kd.R_elder' (upR HO197.out) (Kd.R_base ho47) hb); replace HL199_1 := Aside0.mk (Kd.R_elder' (upR HL199_1.out) (Kd.R_base ho47) hb); replace BK175 := Aside0.mk (blk_below (g := gb175) (o := .cells #[.int .i64 t170, .slice Ao28 t171.length co28] 26 (0, 0)) (upK BK175.out) hb); replace BK181 := Aside0.mk (blk_below (g := gb181) (o := .cells #[.int .i64 t176, .slice Ao33 t177.length co33] 26 (0, 0)) (upK BK181.out) hb); replace HR199_1 := Aside0.mk (Kd.C_below (upC HR199_1.out) hb); replace HB := Aside0.mk (below_step (upB HB.out) hb); clear hb ho47; obtain ⟨Ao48, co48, eo48⟩ := Kd.R_slice HO202.out; subst eo48) | (go_at_call 42; (with_reducible refine (waveletlaw29_same.calls k _ _ ((rd_T26 t182 0).f1) _ _ y200 true _ ?side1 ?side2 ?side3 ?side4 A11.out).mono ?_); (case side1 => repeat (first | exact (upC HR199_1.out) | (with_reducible refine Kd.C_alloc ?_ _) | (with_reducible refine Kd.C_drewN ?_ _) | (with_reducible refine Kd.C_drew ?_))); (case side2 => exact HC199_1.out); (case side3 => repeat (first | exact (Kd.R_reads' HO202.out).2.2 | (with_reducible refine Kd.C_alloc ?_ _) | (with_reducible refine Kd.C_drewN ?_ _) | (with_reducible refine Kd.C_drew ?_))); (case side4 => exact (Kd.R_reads' HO202.out).2.1); rintro e w' ⟨rfl, ⟨nd, rfl⟩⟩; have hcz49_0 : w46.cell? ⟨gb175, 0, none⟩ = some (.int .i64 t170) := bc BK175 0; have hcz49_1 : w46.cell? ⟨gb175, 1, none⟩ = some (.slice Ao28 t171.length co28) := bc BK175 1; have hfz49_0 := blk_frozen BK175.out 0; have hfz49_1 := blk_frozen BK175.out 1; have hcz50_0 : w46.cell? ⟨gb181, 0, none⟩ = some (.int .i64 t176) := bc BK181 0; have hcz50_1 : w46.cell? ⟨gb181, 1, none⟩ = some (.slice Ao33 t177.length co33) := bc BK181 1; have hfz50_0 := blk_frozen BK181.out 0; have hfz50_1 := blk_frozen BK181.out 1))
                              go_ret
                              exact ⟨by first | rfl | (simp [errW_none, errW_some] <;> rfl) | (simp [*, errW_none, errW_some] <;> rfl), by repeat (first | (with_reducible first | exact HB.out | apply below_alloc | apply pw_below_drewN | apply below_drew1 | refine below_set ?_ GE175.out | refine below_set ?_ GE181.out) | exact HB.out)⟩
                            · rw [if_neg c21] at H
                              exact absurd (Option.some.inj H) (by rw [hr_]; decide)
                          · rw [if_neg c20] at H
                            exact absurd (Option.some.inj H) (by rw [hr_]; decide)
                        · rw [if_neg c19] at H
                          exact absurd (Option.some.inj H) (by rw [hr_]; decide)
                      · rw [if_neg c18] at H
                        exact absurd (Option.some.inj H) (by rw [hr_]; decide)
                    · rw [if_neg c17] at H
                      exact absurd (Option.some.inj H) (by rw [hr_]; decide)
                  · rw [if_neg c16] at H
                    exact absurd (Option.some.inj H) (by rw [hr_]; decide)
                · rw [if_neg c15] at H
                  exact absurd (Option.some.inj H) (by rw [hr_]; decide)
              · rw [if_neg c14] at H
                exact absurd (Option.some.inj H) (by rw [hr_]; decide)
            · rw [if_neg c13] at H
              exact absurd (Option.some.inj H) (by rw [hr_]; decide)
          · replace c12 := Bool.eq_false_iff.mpr c12
            subst c12
            have H1 : (some false) = some r := by rw [if_neg (show ¬ (false = true) by decide)] at H; exact H
            exact absurd (Option.some.inj H1) (by rw [hr_]; decide)
        · rw [if_neg c10] at H
          exact absurd H (by simp)
      · rw [if_neg c9] at H
        exact absurd (Option.some.inj H) (by rw [hr_]; decide)
    · replace c8 := Bool.eq_false_iff.mpr c8
      subst c8
      have H1 : (some false) = some r := by rw [if_neg (show ¬ (false = true) by decide)] at H; exact H
      exact absurd (Option.some.inj H1) (by rw [hr_]; decide)
  · replace c6 := Bool.eq_false_iff.mpr c6
    subst c6
    have H1 : (some false) = some r := by rw [if_neg (show ¬ (false = true) by decide)] at H; exact H
    exact absurd (Option.some.inj H1) (by rw [hr_]; decide)
theorem waveletlaw29_awake.calls (k : Nat)  (r : Bool) (w : World) (h : waveletlaw29_awake.f k  = some r) :
    Calls Try.prog 12 #[] w fun e w' => e = .returned (.bool r) ∧ Below w.heap.size w w' := by
  have e_ : waveletlaw29_awake.f 100 = some true := by kernel_rfl
  have hr_ : r = true := Option.some.inj ((at_rounds waveletlaw29_awake.mono (Nat.le_max_left k 100) h).symm.trans (at_rounds waveletlaw29_awake.mono (Nat.le_max_right k 100) e_))
  exact waveletlaw29_awake.calls_ k r hr_ w h
end Go.Proofs.Ytihfopblmjgfaaa.Q

namespace Go.Proofs.Ytihfopblmjgfaaa.Q
open Go.RowKit Go.Proofs.YtihfopblmjgfaaaW.PrintWords Go.Proofs.YtihfopblmjgfaaaW.PrintLast Go.Proofs.YtihfopblmjgfaaaW.PrintMore
attribute [local go_sem] max2_int min2_int max_two min_two max_three min_three max_four min_four   -- for this text's walks alone
set_option linter.unusedVariables false
set_option linter.unusedSimpArgs false

/-! ### waveletlaw29_sameSegment: function 17 -/
def waveletlaw29_sameSegment.f (k : Nat) (a0_0 : Int) (l0_1 : List Int) (a1_0 : Int) (l1_1 : List Int) : Option (Bool) := if a0_0 = a1_0 then ((waveletlaw29_same.f k l0_1 l1_1).bind fun t216 => (some t216)) else (some false)
theorem waveletlaw29_sameSegment.mono : ∀ a0 a1 a2 a3 k, LeO (waveletlaw29_sameSegment.f k a0 a1 a2 a3) (waveletlaw29_sameSegment.f (k + 1) a0 a1 a2 a3) := by
  intro a0 a1 a2 a3 k
  unfold waveletlaw29_sameSegment.f
  repeat' first
      | (with_reducible exact waveletlaw29_same.mono _ _ _)
      | (with_reducible exact LeO.refl _)
      | (with_reducible exact LeO.none _)
      | (with_reducible refine LeO.ite ?_ ?_)
      | (with_reducible refine LeO.bind ?_ (fun _ => ?_))
      | exact waveletlaw29_same.mono _ _ _
      | exact LeO.none _
      | refine LeO.ite ?_ ?_
      | refine LeO.bind ?_ (fun _ => ?_)
set_option maxHeartbeats 8000000 in
set_option maxRecDepth 100000 in
theorem waveletlaw29_sameSegment.calls (k : Nat) (a0_0 : Int) (A0_1 : Option Addr) (c0_1 : Nat) (l0_1 : List Int) (a1_0 : Int) (A1_1 : Option Addr) (c1_1 : Nat) (l1_1 : List Int) (r : Bool) (w : World) (hr0_1 : Kd.C (Kd.int .u8) w A0_1 l0_1.length l0_1) (hc0_1 : l0_1.length ≤ c0_1) (hr1_1 : Kd.C (Kd.int .u8) w A1_1 l1_1.length l1_1) (hc1_1 : l1_1.length ≤ c1_1) (h : waveletlaw29_sameSegment.f k a0_0 l0_1 a1_0 l1_1 = some r) :
    Calls Try.prog 17 #[.agg #[.int .i64 a0_0, .slice A0_1 l0_1.length c0_1], .agg #[.int .i64 a1_0, .slice A1_1 l1_1.length c1_1]] w fun e w' => e = .returned (.bool r) ∧ Below w.heap.size w w' := by
  have hu26 := Try.underlying26
  have HR0_1 := Aside0.mk hr0_1
  have HC0_1 := Aside0.mk hc0_1
  clear hr0_1 hc0_1
  have HR1_1 := Aside0.mk hr1_1
  have HC1_1 := Aside0.mk hc1_1
  clear hr1_1 hc1_1
  have HB := Aside0.mk (Below.refl w.heap.size w)
  have H : (if a0_0 = a1_0 then ((waveletlaw29_same.f k l0_1 l1_1).bind fun t216 => (some t216)) else (some false)) = some r := h
  clear h
  by_cases c3 : a0_0 = a1_0
  · rw [if_pos c3] at H
    have c3b0 : (a0_0 == a1_0) = true := beq_iff_eq.mpr c3
    have c3b1 : (a0_0 != a1_0) = false := bne_eq_false_iff_eq.mpr c3
    clear c3
    replace H := Option.bind_eq_some_iff.mp H
    obtain ⟨t216, A40, H⟩ := H
    replace H : (some t216) = some r := H
    have A4 := Aside0.mk A40
    clear A40
    obtain rfl := Option.some.inj H
    go_enter Try.func17, Try.ntmps17
    go_wp2_with (first | ((with_reducible refine gate_dst (N := 2) rfl ?_); refine box_event ?hg (N := 2) ?hd (cs := #[.int .i64 a0_0, .slice A0_1 l0_1.length c0_1]) (t := 26) ?hr ?_; (case hd => rfl); (case hg => rfl); (case hr => first | (go_simp; done) | (go_simp; rfl)); intro gb214 hg w5 hbox hb; have BK214 := Aside0.mk (hbox); have GW214 := Aside0.mk ((by rw [hg]; exact (below_size (upB HB.out)) : w.heap.size ≤ gb214)); have GE214 := Aside0.mk ((by rw [hg]; exact (below_size (upB HB.out)) : w.heap.size ≤ gb214)); replace HB := Aside0.mk (below_step (upB HB.out) hb); clear hb hbox hg) | ((with_reducible refine gate_dst (N := 3) rfl ?_); refine box_event ?hg (N := 3) ?hd (cs := #[.int .i64 a1_0, .slice A1_1 l1_1.length c1_1]) (t := 26) ?hr ?_; (case hd => rfl); (case hg => rfl); (case hr => first | (go_simp; done) | (go_simp; rfl)); intro gb215 hg w6 hbox hb; have BK215 := Aside0.mk (hbox); have GW215 := Aside0.mk ((by rw [hg]; exact (below_size (upB HB.out)) : w.heap.size ≤ gb215)); have GE215 := Aside0.mk ((by rw [hg]; exact (below_size (upB HB.out)) : w.heap.size ≤ gb215)); replace HB := Aside0.mk (below_step (upB HB.out) hb); have NB214_215 := Aside0.mk ((by rw [hg]; exact Nat.ne_of_lt (blk_lt (upK BK214.out)) : gb214 ≠ gb215)); have NB215_214 := Aside0.mk ((by rw [hg]; exact Nat.ne_of_gt (blk_lt (upK BK214.out)) : gb215 ≠ gb214)); replace BK214 := Aside0.mk (blk_below (g := gb214) (o := .cells #[.int .i64 a0_0, .slice A0_1 l0_1.length c0_1] 26 (0, 0)) (upK BK214.out) hb); clear hb hbox hg; have hnb7 := NB214_215.out; have hnc7 := NB215_214.out; have hcz8_0 : w6.cell? ⟨gb214, 0, none⟩ = some (.int .i64 a0_0) := bc BK214 0; have hcz8_1 : w6.cell? ⟨gb214, 1, none⟩ = some (.slice A0_1 l0_1.length c0_1) := bc BK214 1; have hfz8_0 := blk_frozen BK214.out 0; have hfz8_1 := blk_frozen BK214.out 1; have hcz9_0 : w6.cell? ⟨gb215, 0, none⟩ = some (.int .i64 a1_0) := bc BK215 0; have hcz9_1 : w6.cell? ⟨gb215, 1, none⟩ = some (.slice A1_1 l1_1.length c1_1) := bc BK215 1; have hfz9_0 := blk_frozen BK215.out 0; have hfz9_1 := blk_frozen BK215.out 1) | (go_at_call 42; (with_reducible refine (waveletlaw29_same.calls k _ _ l0_1 _ _ l1_1 t216 _ ?side1 ?side2 ?side3 ?side4 A4.out).mono ?_); (case side1 => repeat (first | exact (Kd.C_below HR0_1.out HB.out) | (with_reducible refine Kd.C_alloc ?_ _) | (with_reducible refine Kd.C_drewN ?_ _) | (with_reducible refine Kd.C_drew ?_))); (case side2 => exact HC0_1.out); (case side3 => repeat (first | exact (Kd.C_below HR1_1.out HB.out) | (with_reducible refine Kd.C_alloc ?_ _) | (with_reducible refine Kd.C_drewN ?_ _) | (with_reducible refine Kd.C_drew ?_))); (case side4 => exact HC1_1.out); rintro e w' ⟨rfl, ⟨nd, rfl⟩⟩))
    go_ret
    exact ⟨by first | rfl | (simp [errW_none, errW_some] <;> rfl) | (simp [*, errW_none, errW_some] <;> rfl), by repeat (first | (with_reducible first | exact HB.out | apply below_alloc | apply pw_below_drewN | apply below_drew1 | refine below_set ?_ GE214.out | refine below_set ?_ GE215.out) | exact HB.out)⟩
  · rw [if_neg c3] at H
    have c3b0 : (a0_0 == a1_0) = false := beq_eq_false_iff_ne.mpr c3
    have c3b1 : (a0_0 != a1_0) = true := bne_iff_ne.mpr c3
    obtain rfl := Option.some.inj H
    go_enter Try.func17, Try.ntmps17
    go_wp2_with (first | ((with_reducible refine gate_dst (N := 2) rfl ?_); refine box_event ?hg (N := 2) ?hd (cs := #[.int .i64 a0_0, .slice A0_1 l0_1.length c0_1]) (t := 26) ?hr ?_; (case hd => rfl); (case hg => rfl); (case hr => first | (go_simp; done) | (go_simp; rfl)); intro gb214 hg w10 hbox hb; have BK214 := Aside0.mk (hbox); have GW214 := Aside0.mk ((by rw [hg]; exact (below_size (upB HB.out)) : w.heap.size ≤ gb214)); have GE214 := Aside0.mk ((by rw [hg]; exact (below_size (upB HB.out)) : w.heap.size ≤ gb214)); replace HB := Aside0.mk (below_step (upB HB.out) hb); clear hb hbox hg) | ((with_reducible refine gate_dst (N := 3) rfl ?_); refine box_event ?hg (N := 3) ?hd (cs := #[.int .i64 a1_0, .slice A1_1 l1_1.length c1_1]) (t := 26) ?hr ?_; (case hd => rfl); (case hg => rfl); (case hr => first | (go_simp; done) | (go_simp; rfl)); intro gb215 hg w11 hbox hb; have BK215 := Aside0.mk (hbox); have GW215 := Aside0.mk ((by rw [hg]; exact (below_size (upB HB.out)) : w.heap.size ≤ gb215)); have GE215 := Aside0.mk ((by rw [hg]; exact (below_size (upB HB.out)) : w.heap.size ≤ gb215)); replace HB := Aside0.mk (below_step (upB HB.out) hb); have NB214_215 := Aside0.mk ((by rw [hg]; exact Nat.ne_of_lt (blk_lt (upK BK214.out)) : gb214 ≠ gb215)); have NB215_214 := Aside0.mk ((by rw [hg]; exact Nat.ne_of_gt (blk_lt (upK BK214.out)) : gb215 ≠ gb214)); replace BK214 := Aside0.mk (blk_below (g := gb214) (o := .cells #[.int .i64 a0_0, .slice A0_1 l0_1.length c0_1] 26 (0, 0)) (upK BK214.out) hb); clear hb hbox hg; have hnb12 := NB214_215.out; have hnc12 := NB215_214.out; have hcz13_0 : w11.cell? ⟨gb214, 0, none⟩ = some (.int .i64 a0_0) := bc BK214 0; have hcz13_1 : w11.cell? ⟨gb214, 1, none⟩ = some (.slice A0_1 l0_1.length c0_1) := bc BK214 1; have hfz13_0 := blk_frozen BK214.out 0; have hfz13_1 := blk_frozen BK214.out 1; have hcz14_0 : w11.cell? ⟨gb215, 0, none⟩ = some (.int .i64 a1_0) := bc BK215 0; have hcz14_1 : w11.cell? ⟨gb215, 1, none⟩ = some (.slice A1_1 l1_1.length c1_1) := bc BK215 1; have hfz14_0 := blk_frozen BK215.out 0; have hfz14_1 := blk_frozen BK215.out 1))
    go_ret
    exact ⟨by first | rfl | (simp [errW_none, errW_some] <;> rfl) | (simp [*, errW_none, errW_some] <;> rfl), by repeat (first | (with_reducible first | exact HB.out | apply below_alloc | apply pw_below_drewN | apply below_drew1 | refine below_set ?_ GE214.out | refine below_set ?_ GE215.out) | exact HB.out)⟩

end Go.Proofs.Ytihfopblmjgfaaa.Q

namespace Go.Proofs.Ytihfopblmjgfaaa.Q
open Go.RowKit Go.Proofs.YtihfopblmjgfaaaW.PrintWords Go.Proofs.YtihfopblmjgfaaaW.PrintLast Go.Proofs.YtihfopblmjgfaaaW.PrintMore
attribute [local go_sem] max2_int min2_int max_two min_two max_three min_three max_four min_four   -- for this text's walks alone
set_option linter.unusedVariables false
set_option linter.unusedSimpArgs false

/-! ### rect_Valid: function 67 -/
def rect_Valid.f (a0_0 : Int) (a0_1 : Int) (a0_2 : Int) (a0_3 : Int) : Option (Bool) := if 0 ≤ a0_0 then (if a0_0 ≤ a0_2 then (if a0_2 ≤ 4096 then (if 0 ≤ a0_1 then (if a0_1 ≤ a0_3 then (some (decide (a0_3 ≤ 4096))) else (some false)) else (some false)) else (some false)) else (some false)) else (some false)
set_option maxHeartbeats 8000000 in
set_option maxRecDepth 100000 in
theorem rect_Valid.calls (a0_0 : Int) (a0_1 : Int) (a0_2 : Int) (a0_3 : Int) (r : Bool) (w : World) (h : rect_Valid.f a0_0 a0_1 a0_2 a0_3 = some r) :
    Calls Try.prog 67 #[.agg #[.int .i64 a0_0, .int .i64 a0_1, .int .i64 a0_2, .int .i64 a0_3]] w fun e w' => e = .returned (.bool r) ∧ Below w.heap.size w w' := by
  have hu64 := Try.underlying64
  have HB := Aside0.mk (Below.refl w.heap.size w)
  have H : (if 0 ≤ a0_0 then (if a0_0 ≤ a0_2 then (if a0_2 ≤ 4096 then (if 0 ≤ a0_1 then (if a0_1 ≤ a0_3 then (some (decide (a0_3 ≤ 4096))) else (some false)) else (some false)) else (some false)) else (some false)) else (some false)) = some r := h
  clear h
  by_cases c2 : 0 ≤ a0_0
  · rw [if_pos c2] at H
    have c2b0 : decide (0 ≤ a0_0) = true := decide_eq_true c2
    clear c2
    by_cases c3 : a0_0 ≤ a0_2
    · rw [if_pos c3] at H
      have c3b0 : decide (a0_0 ≤ a0_2) = true := decide_eq_true c3
      clear c3
      by_cases c4 : a0_2 ≤ 4096
      · rw [if_pos c4] at H
        have c4b0 : decide (a0_2 ≤ 4096) = true := decide_eq_true c4
        clear c4
        by_cases c5 : 0 ≤ a0_1
        · rw [if_pos c5] at H
          have c5b0 : decide (0 ≤ a0_1) = true := decide_eq_true c5
          clear c5
          by_cases c6 : a0_1 ≤ a0_3
          · rw [if_pos c6] at H
            have c6b0 : decide (a0_1 ≤ a0_3) = true := decide_eq_true c6
            clear c6
            obtain rfl := Option.some.inj H
            go_enter Try.func67, Try.ntmps67
            go_wp2_with (first | ((with_reducible refine gate_dst (N := 1) rfl ?_); refine box_event ?hg (N := 1) ?hd (cs := #[.int .i64 a0_0, .int .i64 a0_1, .int .i64 a0_2, .int .i64 a0_3]) (t := 64) ?hr ?_; (case hd => rfl); (case hg => rfl); (case hr => first | (go_simp; done) | (go_simp; rfl)); intro gb749 hg w7 hbox hb; have BK749 := Aside0.mk (hbox); have GW749 := Aside0.mk ((by rw [hg]; exact (below_size (upB HB.out)) : w.heap.size ≤ gb749)); have GE749 := Aside0.mk ((by rw [hg]; exact (below_size (upB HB.out)) : w.heap.size ≤ gb749)); replace HB := Aside0.mk (below_step (upB HB.out) hb); clear hb hbox hg; have hcz8_0 : w7.cell? ⟨gb749, 0, none⟩ = some (.int .i64 a0_0) := bc BK749 0; have hcz8_1 : w7.cell? ⟨gb749, 1, none⟩ = some (.int .i64 a0_1) := bc BK749 1; have hcz8_2 : w7.cell? ⟨gb749, 2, none⟩ = some (.int .i64 a0_2) := bc BK749 2; have hcz8_3 : w7.cell? ⟨gb749, 3, none⟩ = some (.int .i64 a0_3) := bc BK749 3; have hfz8_0 := blk_frozen BK749.out 0; have hfz8_1 := blk_frozen BK749.out 1; have hfz8_2 := blk_frozen BK749.out 2; have hfz8_3 := blk_frozen BK749.out 3))
            go_ret
            exact ⟨by first | rfl | (simp [errW_none, errW_some] <;> rfl) | (simp [*, errW_none, errW_some] <;> rfl), by repeat (first | (with_reducible first | exact HB.out | apply below_alloc | apply pw_below_drewN | apply below_drew1 | refine below_set ?_ GE749.out) | exact HB.out)⟩
          · rw [if_neg c6] at H
            have c6b0 : decide (a0_1 ≤ a0_3) = false := decide_eq_false c6
            clear c6
            obtain rfl := Option.some.inj H
            go_enter Try.func67, Try.ntmps67
            go_wp2_with (first | ((with_reducible refine gate_dst (N := 1) rfl ?_); refine box_event ?hg (N := 1) ?hd (cs := #[.int .i64 a0_0, .int .i64 a0_1, .int .i64 a0_2, .int .i64 a0_3]) (t := 64) ?hr ?_; (case hd => rfl); (case hg => rfl); (case hr => first | (go_simp; done) | (go_simp; rfl)); intro gb749 hg w9 hbox hb; have BK749 := Aside0.mk (hbox); have GW749 := Aside0.mk ((by rw [hg]; exact (below_size (upB HB.out)) : w.heap.size ≤ gb749)); have GE749 := Aside0.mk ((by rw [hg]; exact (below_size (upB HB.out)) : w.heap.size ≤ gb749)); replace HB := Aside0.mk (below_step (upB HB.out) hb); clear hb hbox hg; have hcz10_0 : w9.cell? ⟨gb749, 0, none⟩ = some (.int .i64 a0_0) := bc BK749 0; have hcz10_1 : w9.cell? ⟨gb749, 1, none⟩ = some (.int .i64 a0_1) := bc BK749 1; have hcz10_2 : w9.cell? ⟨gb749, 2, none⟩ = some (.int .i64 a0_2) := bc BK749 2; have hcz10_3 : w9.cell? ⟨gb749, 3, none⟩ = some (.int .i64 a0_3) := bc BK749 3; have hfz10_0 := blk_frozen BK749.out 0; have hfz10_1 := blk_frozen BK749.out 1; have hfz10_2 := blk_frozen BK749.out 2; have hfz10_3 := blk_frozen BK749.out 3))
            go_ret
            exact ⟨by first | rfl | (simp [errW_none, errW_some] <;> rfl) | (simp [*, errW_none, errW_some] <;> rfl), by repeat (first | (with_reducible first | exact HB.out | apply below_alloc | apply pw_below_drewN | apply below_drew1 | refine below_set ?_ GE749.out) | exact HB.out)⟩
        · rw [if_neg c5] at H
          have c5b0 : decide (0 ≤ a0_1) = false := decide_eq_false c5
          clear c5
          obtain rfl := Option.some.inj H
          go_enter Try.func67, Try.ntmps67
          go_wp2_with (first | ((with_reducible refine gate_dst (N := 1) rfl ?_); refine box_event ?hg (N := 1) ?hd (cs := #[.int .i64 a0_0, .int .i64 a0_1, .int .i64 a0_2, .int .i64 a0_3]) (t := 64) ?hr ?_; (case hd => rfl); (case hg => rfl); (case hr => first | (go_simp; done) | (go_simp; rfl)); intro gb749 hg w11 hbox hb; have BK749 := Aside0.mk (hbox); have GW749 := Aside0.mk ((by rw [hg]; exact (below_size (upB HB.out)) : w.heap.size ≤ gb749)); have GE749 := Aside0.mk ((by rw [hg]; exact (below_size (upB HB.out)) : w.heap.size ≤ gb749)); replace HB := Aside0.mk (below_step (upB HB.out) hb); clear hb hbox hg; have hcz12_0 : w11.cell? ⟨gb749, 0, none⟩ = some (.int .i64 a0_0) := bc BK749 0; have hcz12_1 : w11.cell? ⟨gb749, 1, none⟩ = some (.int .i64 a0_1) := bc BK749 1; have hcz12_2 : w11.cell? ⟨gb749, 2, none⟩ = some (.int .i64 a0_2) := bc BK749 2; have hcz12_3 : w11.cell? ⟨gb749, 3, none⟩ = some (.int .i64 a0_3) := bc BK749 3; have hfz12_0 := blk_frozen BK749.out 0; have hfz12_1 := blk_frozen BK749.out 1; have hfz12_2 := blk_frozen BK749.out 2; have hfz12_3 := blk_frozen BK749.out 3))
          go_ret
          exact ⟨by first | rfl | (simp [errW_none, errW_some] <;> rfl) | (simp [*, errW_none, errW_some] <;> rfl), by repeat (first | (with_reducible first | exact HB.out | apply below_alloc | apply pw_below_drewN | apply below_drew1 | refine below_set ?_ GE749.out) | exact HB.out)⟩
      · rw [if_neg c4] at H
        have c4b0 : decide (a0_2 ≤ 4096) = false := decide_eq_false c4
        clear c4
        obtain rfl := Option.some.inj H
        go_enter Try.func67, Try.ntmps67
        go_wp2_with (first | ((with_reducible refine gate_dst (N := 1) rfl ?_); refine box_event ?hg (N := 1) ?hd (cs := #[.int .i64 a0_0, .int .i64 a0_1, .int .i64 a0_2, .int .i64 a0_3]) (t := 64) ?hr ?_; (case hd => rfl); (case hg => rfl); (case hr => first | (go_simp; done) | (go_simp; rfl)); intro gb749 hg w13 hbox hb; have BK749 := Aside0.mk (hbox); have GW749 := Aside0.mk ((by rw [hg]; exact (below_size (upB HB.out)) : w.heap.size ≤ gb749)); have GE749 := Aside0.mk ((by rw [hg]; exact (below_size (upB HB.out)) : w.heap.size ≤ gb749)); replace HB := Aside0.mk (below_step (upB HB.out) hb); clear hb hbox hg; have hcz14_0 : w13.cell? ⟨gb749, 0, none⟩ = some (.int .i64 a0_0) := bc BK749 0; have hcz14_1 : w13.cell? ⟨gb749, 1, none⟩ = some (.int .i64 a0_1) := bc BK749 1; have hcz14_2 : w13.cell? ⟨gb749, 2, none⟩ = some (.int .i64 a0_2) := bc BK749 2; have hcz14_3 : w13.cell? ⟨gb749, 3, none⟩ = some (.int .i64 a0_3) := bc BK749 3; have hfz14_0 := blk_frozen BK749.out 0; have hfz14_1 := blk_frozen BK749.out 1; have hfz14_2 := blk_frozen BK749.out 2; have hfz14_3 := blk_frozen BK749.out 3))
        go_ret
        exact ⟨by first | rfl | (simp [errW_none, errW_some] <;> rfl) | (simp [*, errW_none, errW_some] <;> rfl), by repeat (first | (with_reducible first | exact HB.out | apply below_alloc | apply pw_below_drewN | apply below_drew1 | refine below_set ?_ GE749.out) | exact HB.out)⟩
    · rw [if_neg c3] at H
      have c3b0 : decide (a0_0 ≤ a0_2) = false := decide_eq_false c3
      clear c3
      obtain rfl := Option.some.inj H
      go_enter Try.func67, Try.ntmps67
      go_wp2_with (first | ((with_reducible refine gate_dst (N := 1) rfl ?_); refine box_event ?hg (N := 1) ?hd (cs := #[.int .i64 a0_0, .int .i64 a0_1, .int .i64 a0_2, .int .i64 a0_3]) (t := 64) ?hr ?_; (case hd => rfl); (case hg => rfl); (case hr => first | (go_simp; done) | (go_simp; rfl)); intro gb749 hg w15 hbox hb; have BK749 := Aside0.mk (hbox); have GW749 := Aside0.mk ((by rw [hg]; exact (below_size (upB HB.out)) : w.heap.size ≤ gb749)); have GE749 := Aside0.mk ((by rw [hg]; exact (below_size (upB HB.out)) : w.heap.size ≤ gb749)); replace HB := Aside0.mk (below_step (upB HB.out) hb); clear hb hbox hg; have hcz16_0 : w15.cell? ⟨gb749, 0, none⟩ = some (.int .i64 a0_0) := bc BK749 0; have hcz16_1 : w15.cell? ⟨gb749, 1, none⟩ = some (.int .i64 a0_1) := bc BK749 1; have hcz16_2 : w15.cell? ⟨gb749, 2, none⟩ = some (.int .i64 a0_2) := bc BK749 2; have hcz16_3 : w15.cell? ⟨gb749, 3, none⟩ = some (.int .i64 a0_3) := bc BK749 3; have hfz16_0 := blk_frozen BK749.out 0; have hfz16_1 := blk_frozen BK749.out 1; have hfz16_2 := blk_frozen BK749.out 2; have hfz16_3 := blk_frozen BK749.out 3))
      go_ret
      exact ⟨by first | rfl | (simp [errW_none, errW_some] <;> rfl) | (simp [*, errW_none, errW_some] <;> rfl), by repeat (first | (with_reducible first | exact HB.out | apply below_alloc | apply pw_below_drewN | apply below_drew1 | refine below_set ?_ GE749.out) | exact HB.out)⟩
  · rw [if_neg c2] at H
    have c2b0 : decide (0 ≤ a0_0) = false := decide_eq_false c2
    clear c2
    obtain rfl := Option.some.inj H
    go_enter Try.func67, Try.ntmps67
    go_wp2_with (first | ((with_reducible refine gate_dst (N := 1) rfl ?_); refine box_event ?hg (N := 1) ?hd (cs := #[.int .i64 a0_0, .int .i64 a0_1, .int .i64 a0_2, .int .i64 a0_3]) (t := 64) ?hr ?_; (case hd => rfl); (case hg => rfl); (case hr => first | (go_simp; done) | (go_simp; rfl)); intro gb749 hg w17 hbox hb; have BK749 := Aside0.mk (hbox); have GW749 := Aside0.mk ((by rw [hg]; exact (below_size (upB HB.out)) : w.heap.size ≤ gb749)); have GE749 := Aside0.mk ((by rw [hg]; exact (below_size (upB HB.out)) : w.heap.size ≤ gb749)); replace HB := Aside0.mk (below_step (upB HB.out) hb); clear hb hbox hg; have hcz18_0 : w17.cell? ⟨gb749, 0, none⟩ = some (.int .i64 a0_0) := bc BK749 0; have hcz18_1 : w17.cell? ⟨gb749, 1, none⟩ = some (.int .i64 a0_1) := bc BK749 1; have hcz18_2 : w17.cell? ⟨gb749, 2, none⟩ = some (.int .i64 a0_2) := bc BK749 2; have hcz18_3 : w17.cell? ⟨gb749, 3, none⟩ = some (.int .i64 a0_3) := bc BK749 3; have hfz18_0 := blk_frozen BK749.out 0; have hfz18_1 := blk_frozen BK749.out 1; have hfz18_2 := blk_frozen BK749.out 2; have hfz18_3 := blk_frozen BK749.out 3))
    go_ret
    exact ⟨by first | rfl | (simp [errW_none, errW_some] <;> rfl) | (simp [*, errW_none, errW_some] <;> rfl), by repeat (first | (with_reducible first | exact HB.out | apply below_alloc | apply pw_below_drewN | apply below_drew1 | refine below_set ?_ GE749.out) | exact HB.out)⟩

end Go.Proofs.Ytihfopblmjgfaaa.Q

namespace Go.Proofs.Ytihfopblmjgfaaa.Q
open Go.RowKit Go.Proofs.YtihfopblmjgfaaaW.PrintWords Go.Proofs.YtihfopblmjgfaaaW.PrintLast Go.Proofs.YtihfopblmjgfaaaW.PrintMore
attribute [local go_sem] max2_int min2_int max_two min_two max_three min_three max_four min_four   -- for this text's walks alone
set_option linter.unusedVariables false
set_option linter.unusedSimpArgs false

/-! ### rect_Empty: function 68 -/
def rect_Empty.f (a0_0 : Int) (a0_1 : Int) (a0_2 : Int) (a0_3 : Int) : Option (Bool) := if a0_0 ≥ a0_2 then (some true) else (some (decide (a0_1 ≥ a0_3)))
set_option maxHeartbeats 8000000 in
set_option maxRecDepth 100000 in
theorem rect_Empty.calls (a0_0 : Int) (a0_1 : Int) (a0_2 : Int) (a0_3 : Int) (r : Bool) (w : World) (h : rect_Empty.f a0_0 a0_1 a0_2 a0_3 = some r) :
    Calls Try.prog 68 #[.agg #[.int .i64 a0_0, .int .i64 a0_1, .int .i64 a0_2, .int .i64 a0_3]] w fun e w' => e = .returned (.bool r) ∧ Below w.heap.size w w' := by
  have hu64 := Try.underlying64
  have HB := Aside0.mk (Below.refl w.heap.size w)
  have H : (if a0_0 ≥ a0_2 then (some true) else (some (decide (a0_1 ≥ a0_3)))) = some r := h
  clear h
  by_cases c2 : a0_0 ≥ a0_2
  · rw [if_pos c2] at H
    have c2b0 : decide (a0_2 ≤ a0_0) = true := decide_eq_true c2
    clear c2
    obtain rfl := Option.some.inj H
    go_enter Try.func68, Try.ntmps68
    go_wp2_with (first | ((with_reducible refine gate_dst (N := 1) rfl ?_); refine box_event ?hg (N := 1) ?hd (cs := #[.int .i64 a0_0, .int .i64 a0_1, .int .i64 a0_2, .int .i64 a0_3]) (t := 64) ?hr ?_; (case hd => rfl); (case hg => rfl); (case hr => first | (go_simp; done) | (go_simp; rfl)); intro gb750 hg w3 hbox hb; have BK750 := Aside0.mk (hbox); have GW750 := Aside0.mk ((by rw [hg]; exact (below_size (upB HB.out)) : w.heap.size ≤ gb750)); have GE750 := Aside0.mk ((by rw [hg]; exact (below_size (upB HB.out)) : w.heap.size ≤ gb750)); replace HB := Aside0.mk (below_step (upB HB.out) hb); clear hb hbox hg; have hcz4_0 : w3.cell? ⟨gb750, 0, none⟩ = some (.int .i64 a0_0) := bc BK750 0; have hcz4_1 : w3.cell? ⟨gb750, 1, none⟩ = some (.int .i64 a0_1) := bc BK750 1; have hcz4_2 : w3.cell? ⟨gb750, 2, none⟩ = some (.int .i64 a0_2) := bc BK750 2; have hcz4_3 : w3.cell? ⟨gb750, 3, none⟩ = some (.int .i64 a0_3) := bc BK750 3; have hfz4_0 := blk_frozen BK750.out 0; have hfz4_1 := blk_frozen BK750.out 1; have hfz4_2 := blk_frozen BK750.out 2; have hfz4_3 := blk_frozen BK750.out 3))
    go_ret
    exact ⟨by first | rfl | (simp [errW_none, errW_some] <;> rfl) | (simp [*, errW_none, errW_some] <;> rfl), by repeat (first | (with_reducible first | exact HB.out | apply below_alloc | apply pw_below_drewN | apply below_drew1 | refine below_set ?_ GE750.out) | exact HB.out)⟩
  · rw [if_neg c2] at H
    have c2b0 : decide (a0_2 ≤ a0_0) = false := decide_eq_false c2
    clear c2
    obtain rfl := Option.some.inj H
    go_enter Try.func68, Try.ntmps68
    go_wp2_with (first | ((with_reducible refine gate_dst (N := 1) rfl ?_); refine box_event ?hg (N := 1) ?hd (cs := #[.int .i64 a0_0, .int .i64 a0_1, .int .i64 a0_2, .int .i64 a0_3]) (t := 64) ?hr ?_; (case hd => rfl); (case hg => rfl); (case hr => first | (go_simp; done) | (go_simp; rfl)); intro gb750 hg w5 hbox hb; have BK750 := Aside0.mk (hbox); have GW750 := Aside0.mk ((by rw [hg]; exact (below_size (upB HB.out)) : w.heap.size ≤ gb750)); have GE750 := Aside0.mk ((by rw [hg]; exact (below_size (upB HB.out)) : w.heap.size ≤ gb750)); replace HB := Aside0.mk (below_step (upB HB.out) hb); clear hb hbox hg; have hcz6_0 : w5.cell? ⟨gb750, 0, none⟩ = some (.int .i64 a0_0) := bc BK750 0; have hcz6_1 : w5.cell? ⟨gb750, 1, none⟩ = some (.int .i64 a0_1) := bc BK750 1; have hcz6_2 : w5.cell? ⟨gb750, 2, none⟩ = some (.int .i64 a0_2) := bc BK750 2; have hcz6_3 : w5.cell? ⟨gb750, 3, none⟩ = some (.int .i64 a0_3) := bc BK750 3; have hfz6_0 := blk_frozen BK750.out 0; have hfz6_1 := blk_frozen BK750.out 1; have hfz6_2 := blk_frozen BK750.out 2; have hfz6_3 := blk_frozen BK750.out 3))
    go_ret
    exact ⟨by first | rfl | (simp [errW_none, errW_some] <;> rfl) | (simp [*, errW_none, errW_some] <;> rfl), by repeat (first | (with_reducible first | exact HB.out | apply below_alloc | apply pw_below_drewN | apply below_drew1 | refine below_set ?_ GE750.out) | exact HB.out)⟩

end Go.Proofs.Ytihfopblmjgfaaa.Q

namespace Go.Proofs.Ytihfopblmjgfaaa.Q
open Go.RowKit Go.Proofs.YtihfopblmjgfaaaW.PrintWords Go.Proofs.YtihfopblmjgfaaaW.PrintLast Go.Proofs.YtihfopblmjgfaaaW.PrintMore
attribute [local go_sem] max2_int min2_int max_two min_two max_three min_three max_four min_four   -- for this text's walks alone
set_option linter.unusedVariables false
set_option linter.unusedSimpArgs false

/-! ### params_within: function 69 -/
def params_within.l0 : Nat → Int → Int → List Int → Int → Int → Option (Bool)
  | 0, _, _, _, _, _ => none
  | k + 1, x0, x1, x9, x10, x11 => if x11 < x10 then (if 0 ≤ x11 then (if x11 < (x9.length : Int) then (if (rd x9 x11) < x0 then (some false) else (if (rd x9 x11) > x1 then (some false) else (params_within.l0 k x0 x1 x9 x10 (wrap64 (x11 + 1))))) else (none)) else (none)) else (some true)
def params_within.f (k : Nat) (a0 : Int) (a1 : Int) (l2 : List Int) : Option (Bool) := params_within.l0 k a0 a1 l2 (l2.length : Int) 0
theorem params_within.mono_l : ∀ k, (∀ y0 y1 y2 y3 y4, LeO (params_within.l0 k y0 y1 y2 y3 y4) (params_within.l0 (k + 1) y0 y1 y2 y3 y4))
  | 0 => fun _ _ _ _ _ r h => by simp [params_within.l0] at h
  | k + 1 => by
    have ih0 := params_within.mono_l k
    · intro y0 y1 y2 y3 y4
      unfold params_within.l0
      repeat' first
      | (with_reducible exact ih0 _ _ _ _ _)
      | (with_reducible exact LeO.refl _)
      | (with_reducible exact LeO.none _)
      | (with_reducible refine LeO.ite ?_ ?_)
      | (with_reducible refine LeO.bind ?_ (fun _ => ?_))
      | exact ih0 _ _ _ _ _
      | exact LeO.none _
      | refine LeO.ite ?_ ?_
      | refine LeO.bind ?_ (fun _ => ?_)
theorem params_within.mono : ∀ a0 a1 a2 k, LeO (params_within.f k a0 a1 a2) (params_within.f (k + 1) a0 a1 a2) := by
  intro a0 a1 a2 k
  have ih0 := params_within.mono_l k
  unfold params_within.f
  repeat' first
      | (with_reducible exact ih0 _ _ _ _ _)
      | (with_reducible exact LeO.refl _)
      | (with_reducible exact LeO.none _)
      | (with_reducible refine LeO.ite ?_ ?_)
      | (with_reducible refine LeO.bind ?_ (fun _ => ?_))
      | exact ih0 _ _ _ _ _
      | exact LeO.none _
      | refine LeO.ite ?_ ?_
      | refine LeO.bind ?_ (fun _ => ?_)
set_option maxHeartbeats 8000000 in
set_option maxRecDepth 100000 in
theorem params_within.calls (k : Nat) (a0 : Int) (a1 : Int) (A2 : Option Addr) (c2 : Nat) (l2 : List Int) (r : Bool) (w : World) (hr2 : Kd.C (Kd.int .i64) w A2 l2.length l2) (hc2 : l2.length ≤ c2) (h : params_within.f k a0 a1 l2 = some r) :
    Calls Try.prog 69 #[.int .i64 a0, .int .i64 a1, .slice A2 l2.length c2] w fun e w' => e = .returned (.bool r) ∧ Drawn0 w w' := by
  have HR2 := Aside0.mk hr2
  have HC2 := Aside0.mk hc2
  clear hr2 hc2
  have H : (params_within.l0 k a0 a1 l2 (l2.length : Int) 0) = some r := h
  clear h
  have H' := Aside0.mk H
  clear H
  go_enter Try.func69, Try.ntmps69
  go_wp2
  go_loopg [11] k (fun kq v11 w' => ∃ (x11_1 : Int), v11 = .int .i64 x11_1 ∧ Aside0 (params_within.l0 kq a0 a1 l2 (l2.length : Int) x11_1 = some r) ∧ Aside0 (kq ≤ k) ∧ Drawn0 w w')
  case atStart => exact ⟨(0), (by first | rfl | (simp; done) | (simp [*]; done)), H', ⟨Nat.le_refl _⟩, by repeat (first | exact Drawn0.refl _ | apply Drawn0.step)⟩
  case round =>
    clear H'
    try clear c2
    try clear p2
    obtain ⟨x11_1, rfl, HA, HK1, ⟨m1, rfl⟩⟩ := hrel
    cases gk with
    | zero => exact absurd HA.out (by simp [params_within.l0])
    | succ k1 =>
      have H := HA.out
      clear HA
      simp only [params_within.l0] at H
      by_cases c4 : x11_1 < (l2.length : Int)
      · rw [if_pos c4] at H
        have c4b0 : decide (x11_1 < (l2.length : Int)) = true := decide_eq_true c4
        clear c4
        by_cases c5 : 0 ≤ x11_1
        · rw [if_pos c5] at H
          have c5b0 : decide (0 ≤ x11_1) = true := decide_eq_true c5
          clear c5
          by_cases c6 : x11_1 < (l2.length : Int)
          · rw [if_pos c6] at H
            have c6b0 : decide (x11_1 < (l2.length : Int)) = true := decide_eq_true c6
            clear c6
            by_cases c7 : (rd l2 x11_1) < a0
            · rw [if_pos c7] at H
              have c7b0 : decide ((rd l2 x11_1) < a0) = true := decide_eq_true c7
              clear c7
              obtain rfl := Option.some.inj H
              have p751 : 0 ≤ (x11_1 : Int) := of_decide_eq_true (by first | (with_reducible assumption) | assumption)
              have q751 : x11_1 < (l2.length : Int) := of_decide_eq_true (by first | (with_reducible assumption) | assumption)
              obtain ⟨ad751, e751, hx751_0⟩ := Kd.at_int HR2.out x11_1 p751 q751
              cases e751
              replace p751 := eq_true p751
              replace q751 := eq_true q751
              go_wp2
              go_ret
              exact ⟨by first | rfl | (simp; done) | (simp [*]; done), by repeat (first | exact Drawn0.refl _ | apply Drawn0.step)⟩
            · rw [if_neg c7] at H
              have c7b0 : decide ((rd l2 x11_1) < a0) = false := decide_eq_false c7
              clear c7
              by_cases c8 : (rd l2 x11_1) > a1
              · rw [if_pos c8] at H
                have c8b0 : decide (a1 < (rd l2 x11_1)) = true := decide_eq_true c8
                clear c8
                obtain rfl := Option.some.inj H
                have p751 : 0 ≤ (x11_1 : Int) := of_decide_eq_true (by first | (with_reducible assumption) | assumption)
                have q751 : x11_1 < (l2.length : Int) := of_decide_eq_true (by first | (with_reducible assumption) | assumption)
                obtain ⟨ad751, e751, hx751_0⟩ := Kd.at_int HR2.out x11_1 p751 q751
                cases e751
                replace p751 := eq_true p751
                replace q751 := eq_true q751
                go_wp2
                go_ret
                exact ⟨by first | rfl | (simp; done) | (simp [*]; done), by repeat (first | exact Drawn0.refl _ | apply Drawn0.step)⟩
              · rw [if_neg c8] at H
                have c8b0 : decide (a1 < (rd l2 x11_1)) = false := decide_eq_false c8
                clear c8
                have H' := Aside0.mk H
                clear H
                have p751 : 0 ≤ (x11_1 : Int) := of_decide_eq_true (by first | (with_reducible assumption) | assumption)
                have q751 : x11_1 < (l2.length : Int) := of_decide_eq_true (by first | (with_reducible assumption) | assumption)
                obtain ⟨ad751, e751, hx751_0⟩ := Kd.at_int HR2.out x11_1 p751 q751
                cases e751
                replace p751 := eq_true p751
                replace q751 := eq_true q751
                go_wp2
                go_roundg k1
                case measure => have := HK1.out; omega
                case rel => exact ⟨(wrap64 (x11_1 + 1)), (by first | rfl | (simp; done) | (simp [*]; done)), H', ⟨by have := HK1.out; omega⟩, by repeat (first | exact Drawn0.refl _ | apply Drawn0.step)⟩
          · rw [if_neg c6] at H
            exact absurd H (by simp)
        · rw [if_neg c5] at H
          exact absurd H (by simp)
      · rw [if_neg c4] at H
        have c4b0 : decide (x11_1 < (l2.length : Int)) = false := decide_eq_false c4
        clear c4
        obtain rfl := Option.some.inj H
        go_wp2
        go_ret
        exact ⟨by first | rfl | (simp; done) | (simp [*]; done), by repeat (first | exact Drawn0.refl _ | apply Drawn0.step)⟩

end Go.Proofs.Ytihfopblmjgfaaa.Q

namespace Go.Proofs.Ytihfopblmjgfaaa.Q
open Go.RowKit Go.Proofs.YtihfopblmjgfaaaW.PrintWords Go.Proofs.YtihfopblmjgfaaaW.PrintLast Go.Proofs.YtihfopblmjgfaaaW.PrintMore
attribute [local go_sem] max2_int min2_int max_two min_two max_three min_three max_four min_four   -- for this text's walks alone
set_option linter.unusedVariables false
set_option linter.unusedSimpArgs false

/-! ### rect_CeilDiv: function 71 -/
def rect_CeilDiv.f (a0 : Int) (a1 : Int) : Option (Int) := if a1 < 1 then (some 0) else (if a1 = 0 then (none) else (if (Int.tmod a0 a1) > 0 then (some (wrap64 ((wrap64 (Int.tdiv a0 a1)) + 1))) else (some (wrap64 (Int.tdiv a0 a1)))))
set_option maxHeartbeats 8000000 in
set_option maxRecDepth 100000 in
theorem rect_CeilDiv.calls (a0 : Int) (a1 : Int) (r : Int) (w : World) (h : rect_CeilDiv.f a0 a1 = some r) :
    Calls Try.prog 71 #[.int .i64 a0, .int .i64 a1] w fun e w' => e = .returned (.int .i64 r) ∧ Drawn0 w w' := by
  have H : (if a1 < 1 then (some 0) else (if a1 = 0 then (none) else (if (Int.tmod a0 a1) > 0 then (some (wrap64 ((wrap64 (Int.tdiv a0 a1)) + 1))) else (some (wrap64 (Int.tdiv a0 a1)))))) = some r := h
  clear h
  by_cases c3 : a1 < 1
  · rw [if_pos c3] at H
    have c3b0 : decide (a1 < 1) = true := decide_eq_true c3
    clear c3
    obtain rfl := Option.some.inj H
    go_enter Try.func71, Try.ntmps71
    go_wp2
    go_ret
    exact ⟨by first | rfl | (simp; done) | (simp [*]; done), by repeat (first | exact Drawn0.refl _ | apply Drawn0.step)⟩
  · rw [if_neg c3] at H
    have c3b0 : decide (a1 < 1) = false := decide_eq_false c3
    clear c3
    by_cases c4 : a1 = 0
    · rw [if_pos c4] at H
      exact absurd H (by simp)
    · rw [if_neg c4] at H
      have c4b0 : (a1 == 0) = false := beq_eq_false_iff_ne.mpr c4
      have c4b1 : (a1 != 0) = true := bne_iff_ne.mpr c4
      by_cases c5 : (Int.tmod a0 a1) > 0
      · rw [if_pos c5] at H
        have c5b0 : decide (0 < (Int.tmod a0 a1)) = true := decide_eq_true c5
        clear c5
        obtain rfl := Option.some.inj H
        go_enter Try.func71, Try.ntmps71
        go_wp2
        go_ret
        exact ⟨by first | rfl | (simp; done) | (simp [*]; done), by repeat (first | exact Drawn0.refl _ | apply Drawn0.step)⟩
      · rw [if_neg c5] at H
        have c5b0 : decide (0 < (Int.tmod a0 a1)) = false := decide_eq_false c5
        clear c5
        obtain rfl := Option.some.inj H
        go_enter Try.func71, Try.ntmps71
        go_wp2
        go_ret
        exact ⟨by first | rfl | (simp; done) | (simp [*]; done), by repeat (first | exact Drawn0.refl _ | apply Drawn0.step)⟩

end Go.Proofs.Ytihfopblmjgfaaa.Q

namespace Go.Proofs.Ytihfopblmjgfaaa.Q
open Go.RowKit Go.Proofs.YtihfopblmjgfaaaW.PrintWords Go.Proofs.YtihfopblmjgfaaaW.PrintLast Go.Proofs.YtihfopblmjgfaaaW.PrintMore
attribute [local go_sem] max2_int min2_int max_two min_two max_three min_three max_four min_four   -- for this text's walks alone
set_option linter.unusedVariables false
set_option linter.unusedSimpArgs false

/-! ### rect_Reduce: function 70 -/
def rect_Reduce.j0 : Nat → Int → Int → Bool → Int → Int → Int → Int → Option (Int × Int × Int × Int)
  | 0, _, _, _, _, _, _, _ => none
  | k + 1, x1, x2, x25, x753000, x753001, x753002, x753003 => if x25 = true then (some (0, 0, 0, 0)) else ((rect_CeilDiv.f x753000 x1).bind fun t755 => ((rect_CeilDiv.f x753001 x2).bind fun t756 => ((rect_CeilDiv.f x753002 x1).bind fun t757 => ((rect_CeilDiv.f x753003 x2).bind fun t758 => (some (t755, t756, t757, t758))))))
def rect_Reduce.f (k : Nat) (a0_0 : Int) (a0_1 : Int) (a0_2 : Int) (a0_3 : Int) (a1 : Int) (a2 : Int) : Option (Int × Int × Int × Int) := (rect_Valid.f a0_0 a0_1 a0_2 a0_3).bind fun t754 => (if t754 = true then (if a1 < 1 then (rect_Reduce.j0 k a1 a2 true a0_0 a0_1 a0_2 a0_3) else (if a1 > 4096 then (rect_Reduce.j0 k a1 a2 true a0_0 a0_1 a0_2 a0_3) else (if a2 < 1 then (rect_Reduce.j0 k a1 a2 true a0_0 a0_1 a0_2 a0_3) else (rect_Reduce.j0 k a1 a2 (decide (a2 > 4096)) a0_0 a0_1 a0_2 a0_3)))) else (rect_Reduce.j0 k a1 a2 true a0_0 a0_1 a0_2 a0_3))
theorem rect_Reduce.mono_l : ∀ k, (∀ y0 y1 y2 y3 y4 y5 y6, LeO (rect_Reduce.j0 k y0 y1 y2 y3 y4 y5 y6) (rect_Reduce.j0 (k + 1) y0 y1 y2 y3 y4 y5 y6))
  | 0 => fun _ _ _ _ _ _ _ r h => by simp [rect_Reduce.j0] at h
  | k + 1 => by
    have ih0 := rect_Reduce.mono_l k
    · intro y0 y1 y2 y3 y4 y5 y6
      unfold rect_Reduce.j0
      repeat' first
      | (with_reducible exact ih0 _ _ _ _ _ _ _)
      | (with_reducible exact LeO.refl _)
      | (with_reducible exact LeO.none _)
      | (with_reducible refine LeO.ite ?_ ?_)
      | (with_reducible refine LeO.bind ?_ (fun _ => ?_))
      | exact ih0 _ _ _ _ _ _ _
      | exact LeO.none _
      | refine LeO.ite ?_ ?_
      | refine LeO.bind ?_ (fun _ => ?_)
theorem rect_Reduce.mono : ∀ a0 a1 a2 a3 a4 a5 k, LeO (rect_Reduce.f k a0 a1 a2 a3 a4 a5) (rect_Reduce.f (k + 1) a0 a1 a2 a3 a4 a5) := by
  intro a0 a1 a2 a3 a4 a5 k
  have ih0 := rect_Reduce.mono_l k
  unfold rect_Reduce.f
  repeat' first
      | (with_reducible exact ih0 _ _ _ _ _ _ _)
      | (with_reducible exact LeO.refl _)
      | (with_reducible exact LeO.none _)
      | (with_reducible refine LeO.ite ?_ ?_)
      | (with_reducible refine LeO.bind ?_ (fun _ => ?_))
      | exact ih0 _ _ _ _ _ _ _
      | exact LeO.none _
      | refine LeO.ite ?_ ?_
      | refine LeO.bind ?_ (fun _ => ?_)
def rect_Reduce.T3 : Bool × List (List Nat × List Nat) := (true, [([], []), ([0], [0]), ([], []), ([1, 2], [1, 2]), ([], []), ([4], [4]), ([], []), ([5, 6, 3], [5, 6]), ([], []), ([8], [8]), ([], []), ([9, 10, 7], [9, 10]), ([], []), ([12], [12]), ([], []), ([13, 14, 11], [13, 14]), ([3, 7, 11, 15], [3, 7, 11, 15]), ([16, 15, 0, 1, 2, 3, 4, 5, 6, 7, 8, 9, 10, 11, 12, 13, 14, 15, 16], [16])])
def rect_Reduce.B3 : List Nat := [0, 1, 0, 7, 0, 16, 0, 127, 0, 256, 0, 2047, 0, 4096, 0, 32767, 65535, 131071]
theorem rect_Reduce.tab3 : rtab .any (opsOf Try.f70 3) = rect_Reduce.T3 := by kernel_rfl
theorem rect_Reduce.bits3 : waitsOk rect_Reduce.T3.2 rect_Reduce.B3 = true := by kernel_rfl
set_option maxHeartbeats 8000000 in
set_option maxRecDepth 100000 in
theorem rect_Reduce.calls (k : Nat) (a0_0 : Int) (a0_1 : Int) (a0_2 : Int) (a0_3 : Int) (a1 : Int) (a2 : Int) (r1 : Int) (r2 : Int) (r3 : Int) (r4 : Int) (w : World) (h : rect_Reduce.f k a0_0 a0_1 a0_2 a0_3 a1 a2 = some (r1, r2, r3, r4)) :
    Calls Try.prog 70 #[.agg #[.int .i64 a0_0, .int .i64 a0_1, .int .i64 a0_2, .int .i64 a0_3], .int .i64 a1, .int .i64 a2] w fun e w' => e = .returned (.agg #[.int .i64 r1, .int .i64 r2, .int .i64 r3, .int .i64 r4]) ∧ Below w.heap.size w w' := by
  have hu64 := Try.underlying64
  have HB := Aside0.mk (Below.refl w.heap.size w)
  have H : ((rect_Valid.f a0_0 a0_1 a0_2 a0_3).bind fun t754 => (if t754 = true then (if a1 < 1 then (rect_Reduce.j0 k a1 a2 true a0_0 a0_1 a0_2 a0_3) else (if a1 > 4096 then (rect_Reduce.j0 k a1 a2 true a0_0 a0_1 a0_2 a0_3) else (if a2 < 1 then (rect_Reduce.j0 k a1 a2 true a0_0 a0_1 a0_2 a0_3) else (rect_Reduce.j0 k a1 a2 (decide (a2 > 4096)) a0_0 a0_1 a0_2 a0_3)))) else (rect_Reduce.j0 k a1 a2 true a0_0 a0_1 a0_2 a0_3))) = some (r1, r2, r3, r4) := h
  clear h
  have HC4 := Aside0.mk H
  clear H
  go_enter Try.func70, Try.ntmps70
  go_upto_region 1 with (first | ((with_reducible refine gate_dst (N := 3) rfl ?_); refine box_event ?hg (N := 3) ?hd (cs := #[.int .i64 a0_0, .int .i64 a0_1, .int .i64 a0_2, .int .i64 a0_3]) (t := 64) ?hr ?_; (case hd => rfl); (case hg => rfl); (case hr => first | (go_simp; done) | (go_simp; rfl)); intro gb752 hg w5 hbox hb; have BK752 := Aside0.mk (hbox); have GW752 := Aside0.mk ((by rw [hg]; exact (below_size (upB HB.out)) : w.heap.size ≤ gb752)); have GE752 := Aside0.mk ((by rw [hg]; exact (below_size (upB HB.out)) : w.heap.size ≤ gb752)); replace HB := Aside0.mk (below_step (upB HB.out) hb); clear hb hbox hg) | ((with_reducible refine gate_dst (N := 6) rfl ?_); refine box_event ?hg (N := 6) ?hd (cs := #[.int .i64 0, .int .i64 0, .int .i64 0, .int .i64 0]) (t := 64) ?hr ?_; (case hd => rfl); (case hg => rfl); (case hr => first | (go_simp; done) | (go_simp; rfl)); intro gb753 hg w6 hbox hb; have BK753 := Aside0.mk (hbox); have GW753 := Aside0.mk ((by rw [hg]; exact (below_size (upB HB.out)) : w.heap.size ≤ gb753)); have GE753 := Aside0.mk ((by rw [hg]; exact (below_size (upB HB.out)) : w.heap.size ≤ gb753)); replace HB := Aside0.mk (below_step (upB HB.out) hb); have NB752_753 := Aside0.mk ((by rw [hg]; exact Nat.ne_of_lt (blk_lt (upK BK752.out)) : gb752 ≠ gb753)); have NB753_752 := Aside0.mk ((by rw [hg]; exact Nat.ne_of_gt (blk_lt (upK BK752.out)) : gb753 ≠ gb752)); replace BK752 := Aside0.mk (blk_below (g := gb752) (o := .cells #[.int .i64 a0_0, .int .i64 a0_1, .int .i64 a0_2, .int .i64 a0_3] 64 (0, 0)) (upK BK752.out) hb); clear hb hbox hg))
  (try simp only [Act.put, List.setIfInBounds_toArray, List.set_cons_zero, List.set_cons_succ])
  go_cut [25] (fun v25 wc => ∃ (kq : Nat) (x25_3 : Bool), v25 = .bool x25_3 ∧ Aside0 (rect_Reduce.j0 kq a1 a2 x25_3 a0_0 a0_1 a0_2 a0_3 = some (r1, r2, r3, r4)) ∧ Aside0 (kq ≤ k) ∧ Aside0 (wc.heap[gb752]? = some (.cells #[.int .i64 a0_0, .int .i64 a0_1, .int .i64 a0_2, .int .i64 a0_3] 64 (0, 0))) ∧ Aside0 (wc.heap[gb753]? = some (.cells #[.int .i64 0, .int .i64 0, .int .i64 0, .int .i64 0] 64 (0, 0))) ∧ Aside0 (Below w.heap.size w wc))
  case first =>
    have H := HC4.out
    clear HC4
    replace H := Option.bind_eq_some_iff.mp H
    obtain ⟨t754, A70, H⟩ := H
    replace H : (if t754 = true then (if a1 < 1 then (rect_Reduce.j0 k a1 a2 true a0_0 a0_1 a0_2 a0_3) else (if a1 > 4096 then (rect_Reduce.j0 k a1 a2 true a0_0 a0_1 a0_2 a0_3) else (if a2 < 1 then (rect_Reduce.j0 k a1 a2 true a0_0 a0_1 a0_2 a0_3) else (rect_Reduce.j0 k a1 a2 (decide (a2 > 4096)) a0_0 a0_1 a0_2 a0_3)))) else (rect_Reduce.j0 k a1 a2 true a0_0 a0_1 a0_2 a0_3)) = some (r1, r2, r3, r4) := H
    have A7 := Aside0.mk A70
    clear A70
    by_cases c8 : t754 = true
    · subst c8
      have H1 : (if a1 < 1 then (rect_Reduce.j0 k a1 a2 true a0_0 a0_1 a0_2 a0_3) else (if a1 > 4096 then (rect_Reduce.j0 k a1 a2 true a0_0 a0_1 a0_2 a0_3) else (if a2 < 1 then (rect_Reduce.j0 k a1 a2 true a0_0 a0_1 a0_2 a0_3) else (rect_Reduce.j0 k a1 a2 (decide (a2 > 4096)) a0_0 a0_1 a0_2 a0_3)))) = some (r1, r2, r3, r4) := by rw [if_pos rfl] at H; exact H
      clear H
      have H := H1
      clear H1
      by_cases c9 : a1 < 1
      · rw [if_pos c9] at H
        have c9b0 : decide (a1 < 1) = true := decide_eq_true c9
        clear c9
        (first | rw [c9b0] | (simp only [i64_w, i32_w]; rw [c9b0]) | skip)
        have H' := Aside0.mk H
        clear H
        have hnb10 := NB752_753.out
        have hnc10 := NB753_752.out
        have hcz11_0 : w6.cell? ⟨gb752, 0, none⟩ = some (.int .i64 a0_0) := bc BK752 0
        have hcz11_1 : w6.cell? ⟨gb752, 1, none⟩ = some (.int .i64 a0_1) := bc BK752 1
        have hcz11_2 : w6.cell? ⟨gb752, 2, none⟩ = some (.int .i64 a0_2) := bc BK752 2
        have hcz11_3 : w6.cell? ⟨gb752, 3, none⟩ = some (.int .i64 a0_3) := bc BK752 3
        have hfz11_0 := blk_frozen BK752.out 0
        have hfz11_1 := blk_frozen BK752.out 1
        have hfz11_2 := blk_frozen BK752.out 2
        have hfz11_3 := blk_frozen BK752.out 3
        go_wp2_with (first | ((with_reducible refine gate_callee (f := 67) rfl ?_); refine goesL_ (some 8) rfl rfl Try.func67 (by kernel_rfl) rfl #[.agg #[.int .i64 a0_0, .int .i64 a0_1, .int .i64 a0_2, .int .i64 a0_3]] rfl upL ?_; (with_reducible refine (rect_Valid.calls a0_0 a0_1 a0_2 a0_3 true _ A7.out).mono ?_); rintro e w12 ⟨rfl, hb⟩; refine ⟨_, rfl, ?_⟩; replace BK752 := Aside0.mk (blk_below (g := gb752) (o := .cells #[.int .i64 a0_0, .int .i64 a0_1, .int .i64 a0_2, .int .i64 a0_3] 64 (0, 0)) (upK BK752.out) hb); replace BK753 := Aside0.mk (blk_below (g := gb753) (o := .cells #[.int .i64 0, .int .i64 0, .int .i64 0, .int .i64 0] 64 (0, 0)) (upK BK753.out) hb); replace HB := Aside0.mk (below_step (upB HB.out) hb); (try clear hb; try clear hb2; try clear hk; try clear hi)))
        go_meet
        case rel => exact ⟨_, (true), (by first | rfl | (simp; done) | (simp [*]; done)), H', ⟨by first | omega | exact Nat.le_refl _⟩, ⟨by (with_reducible repeat (first | refine blk_drewN ?_ _ | refine blk_drew ?_ | refine blk_alloc ?_ _)); exact BK752.out⟩, ⟨by (with_reducible repeat (first | refine blk_drewN ?_ _ | refine blk_drew ?_ | refine blk_alloc ?_ _)); exact BK753.out⟩, ⟨by repeat (first | (with_reducible first | exact HB.out | apply below_alloc | apply pw_below_drewN | apply below_drew1 | refine below_set ?_ GE752.out | refine below_set ?_ GE753.out) | exact HB.out)⟩⟩
      · rw [if_neg c9] at H
        have c9b0 : decide (a1 < 1) = false := decide_eq_false c9
        clear c9
        (first | rw [c9b0] | (simp only [i64_w, i32_w]; rw [c9b0]) | skip)
        by_cases c13 : a1 > 4096
        · rw [if_pos c13] at H
          have c13b0 : decide (4096 < a1) = true := decide_eq_true c13
          clear c13
          have H' := Aside0.mk H
          clear H
          have hnb14 := NB752_753.out
          have hnc14 := NB753_752.out
          have hcz15_0 : w6.cell? ⟨gb752, 0, none⟩ = some (.int .i64 a0_0) := bc BK752 0
          have hcz15_1 : w6.cell? ⟨gb752, 1, none⟩ = some (.int .i64 a0_1) := bc BK752 1
          have hcz15_2 : w6.cell? ⟨gb752, 2, none⟩ = some (.int .i64 a0_2) := bc BK752 2
          have hcz15_3 : w6.cell? ⟨gb752, 3, none⟩ = some (.int .i64 a0_3) := bc BK752 3
          have hfz15_0 := blk_frozen BK752.out 0
          have hfz15_1 := blk_frozen BK752.out 1
          have hfz15_2 := blk_frozen BK752.out 2
          have hfz15_3 := blk_frozen BK752.out 3
          go_wp2_with (first | ((with_reducible refine gate_callee (f := 67) rfl ?_); refine goesL_ (some 8) rfl rfl Try.func67 (by kernel_rfl) rfl #[.agg #[.int .i64 a0_0, .int .i64 a0_1, .int .i64 a0_2, .int .i64 a0_3]] rfl upL ?_; (with_reducible refine (rect_Valid.calls a0_0 a0_1 a0_2 a0_3 true _ A7.out).mono ?_); rintro e w16 ⟨rfl, hb⟩; refine ⟨_, rfl, ?_⟩; replace BK752 := Aside0.mk (blk_below (g := gb752) (o := .cells #[.int .i64 a0_0, .int .i64 a0_1, .int .i64 a0_2, .int .i64 a0_3] 64 (0, 0)) (upK BK752.out) hb); replace BK753 := Aside0.mk (blk_below (g := gb753) (o := .cells #[.int .i64 0, .int .i64 0, .int .i64 0, .int .i64 0] 64 (0, 0)) (upK BK753.out) hb); replace HB := Aside0.mk (below_step (upB HB.out) hb); (try clear hb; try clear hb2; try clear hk; try clear hi)))
          go_meet
          case rel => exact ⟨_, (true), (by first | rfl | (simp; done) | (simp [*]; done)), H', ⟨by first | omega | exact Nat.le_refl _⟩, ⟨by (with_reducible repeat (first | refine blk_drewN ?_ _ | refine blk_drew ?_ | refine blk_alloc ?_ _)); exact BK752.out⟩, ⟨by (with_reducible repeat (first | refine blk_drewN ?_ _ | refine blk_drew ?_ | refine blk_alloc ?_ _)); exact BK753.out⟩, ⟨by repeat (first | (with_reducible first | exact HB.out | apply below_alloc | apply pw_below_drewN | apply below_drew1 | refine below_set ?_ GE752.out | refine below_set ?_ GE753.out) | exact HB.out)⟩⟩
        · rw [if_neg c13] at H
          have c13b0 : decide (4096 < a1) = false := decide_eq_false c13
          clear c13
          by_cases c17 : a2 < 1
          · rw [if_pos c17] at H
            have c17b0 : decide (a2 < 1) = true := decide_eq_true c17
            clear c17
            have H' := Aside0.mk H
            clear H
            have hnb18 := NB752_753.out
            have hnc18 := NB753_752.out
            have hcz19_0 : w6.cell? ⟨gb752, 0, none⟩ = some (.int .i64 a0_0) := bc BK752 0
            have hcz19_1 : w6.cell? ⟨gb752, 1, none⟩ = some (.int .i64 a0_1) := bc BK752 1
            have hcz19_2 : w6.cell? ⟨gb752, 2, none⟩ = some (.int .i64 a0_2) := bc BK752 2
            have hcz19_3 : w6.cell? ⟨gb752, 3, none⟩ = some (.int .i64 a0_3) := bc BK752 3
            have hfz19_0 := blk_frozen BK752.out 0
            have hfz19_1 := blk_frozen BK752.out 1
            have hfz19_2 := blk_frozen BK752.out 2
            have hfz19_3 := blk_frozen BK752.out 3
            go_wp2_with (first | ((with_reducible refine gate_callee (f := 67) rfl ?_); refine goesL_ (some 8) rfl rfl Try.func67 (by kernel_rfl) rfl #[.agg #[.int .i64 a0_0, .int .i64 a0_1, .int .i64 a0_2, .int .i64 a0_3]] rfl upL ?_; (with_reducible refine (rect_Valid.calls a0_0 a0_1 a0_2 a0_3 true _ A7.out).mono ?_); rintro e w20 ⟨rfl, hb⟩; refine ⟨_, rfl, ?_⟩; replace BK752 := Aside0.mk (blk_below (g := gb752) (o := .cells #[.int .i64 a0_0, .int .i64 a0_1, .int .i64 a0_2, .int .i64 a0_3] 64 (0, 0)) (upK BK752.out) hb); replace BK753 := Aside0.mk (blk_below (g := gb753) (o := .cells #[.int .i64 0, .int .i64 0, .int .i64 0, .int .i64 0] 64 (0, 0)) (upK BK753.out) hb); replace HB := Aside0.mk (below_step (upB HB.out) hb); (try clear hb; try clear hb2; try clear hk; try clear hi)))
            go_meet
            case rel => exact ⟨_, (true), (by first | rfl | (simp; done) | (simp [*]; done)), H', ⟨by first | omega | exact Nat.le_refl _⟩, ⟨by (with_reducible repeat (first | refine blk_drewN ?_ _ | refine blk_drew ?_ | refine blk_alloc ?_ _)); exact BK752.out⟩, ⟨by (with_reducible repeat (first | refine blk_drewN ?_ _ | refine blk_drew ?_ | refine blk_alloc ?_ _)); exact BK753.out⟩, ⟨by repeat (first | (with_reducible first | exact HB.out | apply below_alloc | apply pw_below_drewN | apply below_drew1 | refine below_set ?_ GE752.out | refine below_set ?_ GE753.out) | exact HB.out)⟩⟩
          · rw [if_neg c17] at H
            have c17b0 : decide (a2 < 1) = false := decide_eq_false c17
            clear c17
            have H' := Aside0.mk H
            clear H
            have hnb21 := NB752_753.out
            have hnc21 := NB753_752.out
            have hcz22_0 : w6.cell? ⟨gb752, 0, none⟩ = some (.int .i64 a0_0) := bc BK752 0
            have hcz22_1 : w6.cell? ⟨gb752, 1, none⟩ = some (.int .i64 a0_1) := bc BK752 1
            have hcz22_2 : w6.cell? ⟨gb752, 2, none⟩ = some (.int .i64 a0_2) := bc BK752 2
            have hcz22_3 : w6.cell? ⟨gb752, 3, none⟩ = some (.int .i64 a0_3) := bc BK752 3
            have hfz22_0 := blk_frozen BK752.out 0
            have hfz22_1 := blk_frozen BK752.out 1
            have hfz22_2 := blk_frozen BK752.out 2
            have hfz22_3 := blk_frozen BK752.out 3
            go_wp2_with (first | ((with_reducible refine gate_callee (f := 67) rfl ?_); refine goesL_ (some 8) rfl rfl Try.func67 (by kernel_rfl) rfl #[.agg #[.int .i64 a0_0, .int .i64 a0_1, .int .i64 a0_2, .int .i64 a0_3]] rfl upL ?_; (with_reducible refine (rect_Valid.calls a0_0 a0_1 a0_2 a0_3 true _ A7.out).mono ?_); rintro e w23 ⟨rfl, hb⟩; refine ⟨_, rfl, ?_⟩; replace BK752 := Aside0.mk (blk_below (g := gb752) (o := .cells #[.int .i64 a0_0, .int .i64 a0_1, .int .i64 a0_2, .int .i64 a0_3] 64 (0, 0)) (upK BK752.out) hb); replace BK753 := Aside0.mk (blk_below (g := gb753) (o := .cells #[.int .i64 0, .int .i64 0, .int .i64 0, .int .i64 0] 64 (0, 0)) (upK BK753.out) hb); replace HB := Aside0.mk (below_step (upB HB.out) hb); (try clear hb; try clear hb2; try clear hk; try clear hi)))
            go_meet
            case rel => exact ⟨_, (decide (a2 > 4096)), (by first | rfl | (simp; done) | (simp [*]; done)), H', ⟨by first | omega | exact Nat.le_refl _⟩, ⟨by (with_reducible repeat (first | refine blk_drewN ?_ _ | refine blk_drew ?_ | refine blk_alloc ?_ _)); exact BK752.out⟩, ⟨by (with_reducible repeat (first | refine blk_drewN ?_ _ | refine blk_drew ?_ | refine blk_alloc ?_ _)); exact BK753.out⟩, ⟨by repeat (first | (with_reducible first | exact HB.out | apply below_alloc | apply pw_below_drewN | apply below_drew1 | refine below_set ?_ GE752.out | refine below_set ?_ GE753.out) | exact HB.out)⟩⟩
    · replace c8 := Bool.eq_false_iff.mpr c8
      subst c8
      have H1 : (rect_Reduce.j0 k a1 a2 true a0_0 a0_1 a0_2 a0_3) = some (r1, r2, r3, r4) := by rw [if_neg (show ¬ (false = true) by decide)] at H; exact H
      clear H
      have H := H1
      clear H1
      have H' := Aside0.mk H
      clear H
      have hnb24 := NB752_753.out
      have hnc24 := NB753_752.out
      have hcz25_0 : w6.cell? ⟨gb752, 0, none⟩ = some (.int .i64 a0_0) := bc BK752 0
      have hcz25_1 : w6.cell? ⟨gb752, 1, none⟩ = some (.int .i64 a0_1) := bc BK752 1
      have hcz25_2 : w6.cell? ⟨gb752, 2, none⟩ = some (.int .i64 a0_2) := bc BK752 2
      have hcz25_3 : w6.cell? ⟨gb752, 3, none⟩ = some (.int .i64 a0_3) := bc BK752 3
      have hfz25_0 := blk_frozen BK752.out 0
      have hfz25_1 := blk_frozen BK752.out 1
      have hfz25_2 := blk_frozen BK752.out 2
      have hfz25_3 := blk_frozen BK752.out 3
      go_wp2_with (first | ((with_reducible refine gate_callee (f := 67) rfl ?_); refine goesL_ (some 8) rfl rfl Try.func67 (by kernel_rfl) rfl #[.agg #[.int .i64 a0_0, .int .i64 a0_1, .int .i64 a0_2, .int .i64 a0_3]] rfl upL ?_; (with_reducible refine (rect_Valid.calls a0_0 a0_1 a0_2 a0_3 false _ A7.out).mono ?_); rintro e w26 ⟨rfl, hb⟩; refine ⟨_, rfl, ?_⟩; replace BK752 := Aside0.mk (blk_below (g := gb752) (o := .cells #[.int .i64 a0_0, .int .i64 a0_1, .int .i64 a0_2, .int .i64 a0_3] 64 (0, 0)) (upK BK752.out) hb); replace BK753 := Aside0.mk (blk_below (g := gb753) (o := .cells #[.int .i64 0, .int .i64 0, .int .i64 0, .int .i64 0] 64 (0, 0)) (upK BK753.out) hb); replace HB := Aside0.mk (below_step (upB HB.out) hb); (try clear hb; try clear hb2; try clear hk; try clear hi)))
      go_meet
      case rel => exact ⟨_, (true), (by first | rfl | (simp; done) | (simp [*]; done)), H', ⟨by first | omega | exact Nat.le_refl _⟩, ⟨by (with_reducible repeat (first | refine blk_drewN ?_ _ | refine blk_drew ?_ | refine blk_alloc ?_ _)); exact BK752.out⟩, ⟨by (with_reducible repeat (first | refine blk_drewN ?_ _ | refine blk_drew ?_ | refine blk_alloc ?_ _)); exact BK753.out⟩, ⟨by repeat (first | (with_reducible first | exact HB.out | apply below_alloc | apply pw_below_drewN | apply below_drew1 | refine below_set ?_ GE752.out | refine below_set ?_ GE753.out) | exact HB.out)⟩⟩
  case rest =>
    clear HC4
    try clear c1
    try clear c2
    try clear p2
    try clear c6
    try clear c7
    try clear c8
    try clear c9
    try clear c9b0
    try clear c10
    try clear c13
    try clear c13b0
    try clear c14
    try clear c17
    try clear c17b0
    try clear c18
    try clear c21
    try clear c24
    try clear hcz11_0
    try clear hcz11_1
    try clear hcz11_2
    try clear hcz11_3
    try clear hcz15_0
    try clear hcz15_1
    try clear hcz15_2
    try clear hcz15_3
    try clear hcz19_0
    try clear hcz19_1
    try clear hcz19_2
    try clear hcz19_3
    try clear hcz22_0
    try clear hcz22_1
    try clear hcz22_2
    try clear hcz22_3
    try clear hcz25_0
    try clear hcz25_1
    try clear hcz25_2
    try clear hcz25_3
    try clear hfz11_0
    try clear hfz11_1
    try clear hfz11_2
    try clear hfz11_3
    try clear hfz15_0
    try clear hfz15_1
    try clear hfz15_2
    try clear hfz15_3
    try clear hfz19_0
    try clear hfz19_1
    try clear hfz19_2
    try clear hfz19_3
    try clear hfz22_0
    try clear hfz22_1
    try clear hfz22_2
    try clear hfz22_3
    try clear hfz25_0
    try clear hfz25_1
    try clear hfz25_2
    try clear hfz25_3
    obtain ⟨kq, x25_3, rfl, HA, HJ3, BK752, BK753, HB⟩ := hcut
    cases kq with
    | zero => exact absurd HA.out (by simp [rect_Reduce.j0])
    | succ kj3 =>
      have H := HA.out
      clear HA
      simp only [rect_Reduce.j0] at H
      by_cases c27 : x25_3 = true
      · subst c27
        have H1 : (some (0, 0, 0, 0)) = some (r1, r2, r3, r4) := by rw [if_pos rfl] at H; exact H
        clear H
        have H := H1
        clear H1
        simp only [Option.some.injEq, Prod.mk.injEq] at H
        obtain ⟨rfl, rfl, rfl, rfl⟩ := H
        have hnb28 := NB753_752.out
        have hnc28 := NB752_753.out
        have hcz29_0 : wc.cell? ⟨gb753, 0, none⟩ = some (.int .i64 0) := bc BK753 0
        have hcz29_1 : wc.cell? ⟨gb753, 1, none⟩ = some (.int .i64 0) := bc BK753 1
        have hcz29_2 : wc.cell? ⟨gb753, 2, none⟩ = some (.int .i64 0) := bc BK753 2
        have hcz29_3 : wc.cell? ⟨gb753, 3, none⟩ = some (.int .i64 0) := bc BK753 3
        have hfz29_0 := blk_frozen BK753.out 0
        have hfz29_1 := blk_frozen BK753.out 1
        have hfz29_2 := blk_frozen BK753.out 2
        have hfz29_3 := blk_frozen BK753.out 3
        go_wp2
        refine bodyPost_ret (results_cell_row rfl _ _ gb753 64 #[.int .i64 0, .int .i64 0, .int .i64 0, .int .i64 0] (0, 0) _ rfl (by (with_reducible repeat (first | refine blk_drewN ?_ _ | refine blk_drew ?_ | refine blk_alloc ?_ _)); refine blk_put (cs := #[.int .i64 0, .int .i64 0, .int .i64 0, .int .i64 0]) ?_ 3 _ rfl; (with_reducible repeat (first | refine blk_drewN ?_ _ | refine blk_drew ?_ | refine blk_alloc ?_ _)); refine blk_put (cs := #[.int .i64 0, .int .i64 0, .int .i64 0, .int .i64 0]) ?_ 2 _ rfl; (with_reducible repeat (first | refine blk_drewN ?_ _ | refine blk_drew ?_ | refine blk_alloc ?_ _)); refine blk_put (cs := #[.int .i64 0, .int .i64 0, .int .i64 0, .int .i64 0]) ?_ 1 _ rfl; (with_reducible repeat (first | refine blk_drewN ?_ _ | refine blk_drew ?_ | refine blk_alloc ?_ _)); refine blk_put (cs := #[.int .i64 0, .int .i64 0, .int .i64 0, .int .i64 0]) ?_ 0 _ rfl; (with_reducible repeat (first | refine blk_drewN ?_ _ | refine blk_drew ?_ | refine blk_alloc ?_ _)); exact BK753.out) Try.underlying64 rfl (by kernel_rfl)) rfl ?_
        exact ⟨by first | rfl | (simp [errW_none, errW_some] <;> rfl) | (simp [*, errW_none, errW_some] <;> rfl), by repeat (first | (with_reducible first | exact HB.out | apply below_alloc | apply pw_below_drewN | apply below_drew1 | refine below_set ?_ GE752.out | refine below_set ?_ GE753.out) | exact HB.out)⟩
      · replace c27 := Bool.eq_false_iff.mpr c27
        subst c27
        have H1 : ((rect_CeilDiv.f a0_0 a1).bind fun t755 => ((rect_CeilDiv.f a0_1 a2).bind fun t756 => ((rect_CeilDiv.f a0_2 a1).bind fun t757 => ((rect_CeilDiv.f a0_3 a2).bind fun t758 => (some (t755, t756, t757, t758)))))) = some (r1, r2, r3, r4) := by rw [if_neg (show ¬ (false = true) by decide)] at H; exact H
        clear H
        have H := H1
        clear H1
        replace H := Option.bind_eq_some_iff.mp H
        obtain ⟨t755, A300, H⟩ := H
        replace H : ((rect_CeilDiv.f a0_1 a2).bind fun t756 => ((rect_CeilDiv.f a0_2 a1).bind fun t757 => ((rect_CeilDiv.f a0_3 a2).bind fun t758 => (some (t755, t756, t757, t758))))) = some (r1, r2, r3, r4) := H
        have A30 := Aside0.mk A300
        clear A300
        replace H := Option.bind_eq_some_iff.mp H
        obtain ⟨t756, A310, H⟩ := H
        replace H : ((rect_CeilDiv.f a0_2 a1).bind fun t757 => ((rect_CeilDiv.f a0_3 a2).bind fun t758 => (some (t755, t756, t757, t758)))) = some (r1, r2, r3, r4) := H
        have A31 := Aside0.mk A310
        clear A310
        replace H := Option.bind_eq_some_iff.mp H
        obtain ⟨t757, A320, H⟩ := H
        replace H : ((rect_CeilDiv.f a0_3 a2).bind fun t758 => (some (t755, t756, t757, t758))) = some (r1, r2, r3, r4) := H
        have A32 := Aside0.mk A320
        clear A320
        replace H := Option.bind_eq_some_iff.mp H
        obtain ⟨t758, A330, H⟩ := H
        replace H : (some (t755, t756, t757, t758)) = some (r1, r2, r3, r4) := H
        have A33 := Aside0.mk A330
        clear A330
        simp only [Option.some.injEq, Prod.mk.injEq] at H
        obtain ⟨rfl, rfl, rfl, rfl⟩ := H
        try go_wp2
        replace BK752 := Aside0.mk (blk_drew BK752.out)
        replace BK753 := Aside0.mk (blk_drew BK753.out)
        replace HB := Aside0.mk (below_drew1 HB.out)
        refine start_ (n := 18) (S := fun w' => w'.cell? ⟨gb752, 0, none⟩ = some (.int .i64 a0_0) ∧ w'.cell? ⟨gb752, 1, none⟩ = some (.int .i64 a0_1) ∧ w'.cell? ⟨gb752, 2, none⟩ = some (.int .i64 a0_2) ∧ w'.cell? ⟨gb752, 3, none⟩ = some (.int .i64 a0_3)) (ds := []) #[false, false, false, false, false, false, false, false, false, false, false, false, false, false, false, false, false, false] (by kernel_rfl) rfl rfl ⟨bc BK752 0, bc BK752 1, bc BK752 2, bc BK752 3⟩ (fun hHeld => ?_); refine with_tabW rect_Reduce.tab3 rect_Reduce.bits3 (fun HT_ HW_ => ?_)
        generalize wc.drew = w34 at BK752 BK753 HB hHeld ⊢
        refine puX 0 27 (MK [1, 17]) HT_.out ?_
        refine puX 2 29 (MK [1, 1, 1, 15]) HT_.out ?_
        refine puX 4 31 (MK [1, 1, 1, 1, 1, 13]) HT_.out ?_
        refine puX 6 33 (MK [1, 1, 1, 1, 1, 1, 1, 11]) HT_.out ?_
        refine puX 8 35 (MK [1, 1, 1, 1, 1, 1, 1, 1, 1, 9]) HT_.out ?_
        refine puX 10 37 (MK [1, 1, 1, 1, 1, 1, 1, 1, 1, 1, 1, 7]) HT_.out ?_
        refine puX 12 39 (MK [1, 1, 1, 1, 1, 1, 1, 1, 1, 1, 1, 1, 1, 5]) HT_.out ?_
        refine puX 14 41 (MK [1, 1, 1, 1, 1, 1, 1, 1, 1, 1, 1, 1, 1, 1, 1, 3]) HT_.out ?_
        refine taX 1 28 (MK [3, 1, 1, 1, 1, 1, 1, 1, 1, 1, 1, 1, 1, 3]) HT_.out HW_.out hHeld ?_
        refine taX 5 32 (MK [3, 1, 3, 1, 1, 1, 1, 1, 1, 1, 1, 3]) HT_.out HW_.out hHeld ?_
        refine taX 9 36 (MK [3, 1, 3, 1, 3, 1, 1, 1, 1, 3]) HT_.out HW_.out hHeld ?_
        refine taX 13 40 (MK [3, 1, 3, 1, 3, 1, 3, 3]) HT_.out HW_.out hHeld ?_
        refine onX 3 30 (MK [7, 1, 3, 1, 3, 3]) HT_.out (fun K hK => ?_)
        refine goes_ Try.func71 (by kernel_rfl) rfl #[.int .i64 a0_0, .int .i64 a1] (by rfl) rfl rfl upL ?_
        with_reducible refine (rect_CeilDiv.calls a0_0 a1 t755 _ A30.out).mono ?_
        rintro e w' ⟨rfl, ⟨nd, rfl⟩⟩
        refine ⟨_, rfl, ?_⟩
        refine hK.out _ _ ⟨bc BK752 0, bc BK752 1, bc BK752 2, bc BK752 3⟩ (fun hHeld => ?_)
        clear hK K
        refine noX ?_
        refine onX 7 34 (MK [11, 1, 3, 3]) HT_.out (fun K hK => ?_)
        refine goes_ Try.func71 (by kernel_rfl) rfl #[.int .i64 a0_1, .int .i64 a2] (by rfl) rfl rfl upL ?_
        with_reducible refine (rect_CeilDiv.calls a0_1 a2 t756 _ A31.out).mono ?_
        rintro e w' ⟨rfl, ⟨nd, rfl⟩⟩
        refine ⟨_, rfl, ?_⟩
        refine hK.out _ _ ⟨bc BK752 0, bc BK752 1, bc BK752 2, bc BK752 3⟩ (fun hHeld => ?_)
        clear hK K
        refine noX ?_
        refine onX 11 38 (MK [15, 3]) HT_.out (fun K hK => ?_)
        refine goes_ Try.func71 (by kernel_rfl) rfl #[.int .i64 a0_2, .int .i64 a1] (by rfl) rfl rfl upL ?_
        with_reducible refine (rect_CeilDiv.calls a0_2 a1 t757 _ A32.out).mono ?_
        rintro e w' ⟨rfl, ⟨nd, rfl⟩⟩
        refine ⟨_, rfl, ?_⟩
        refine hK.out _ _ ⟨bc BK752 0, bc BK752 1, bc BK752 2, bc BK752 3⟩ (fun hHeld => ?_)
        clear hK K
        refine noX ?_
        refine onX 15 42 (MK [16, 2]) HT_.out (fun K hK => ?_)
        refine goes_ Try.func71 (by kernel_rfl) rfl #[.int .i64 a0_3, .int .i64 a2] (by rfl) rfl rfl upL ?_
        with_reducible refine (rect_CeilDiv.calls a0_3 a2 t758 _ A33.out).mono ?_
        rintro e w' ⟨rfl, ⟨nd, rfl⟩⟩
        refine ⟨_, rfl, ?_⟩
        refine hK.out _ _ ⟨bc BK752 0, bc BK752 1, bc BK752 2, bc BK752 3⟩ (fun hHeld => ?_)
        clear hK K
        refine noX ?_
        refine puX 16 43 (MK [17, 1]) HT_.out ?_
        refine one_ (i := 17) (N := none) #[true, true, true, true, true, true, true, true, true, true, true, true, true, true, true, true, true, true] rfl rfl (one_of HT_.out (by kernel_rfl)) (by decide) (fun K hK => ?_)
        have hs35 : w34.cell? ⟨gb753, 0, none⟩ = some (.int .i64 0) := bc BK753 0
        have hfs35 := blk_frozen BK753.out 0
        have hns35_0 := NB752_753.out
        have hms35_0 := NB753_752.out
        have hs36 : w34.cell? ⟨gb753, 1, none⟩ = some (.int .i64 0) := bc BK753 1
        have hfs36 := blk_frozen BK753.out 1
        have hns36_0 := NB752_753.out
        have hms36_0 := NB753_752.out
        have hs37 : w34.cell? ⟨gb753, 2, none⟩ = some (.int .i64 0) := bc BK753 2
        have hfs37 := blk_frozen BK753.out 2
        have hns37_0 := NB752_753.out
        have hms37_0 := NB753_752.out
        have hs38 : w34.cell? ⟨gb753, 3, none⟩ = some (.int .i64 0) := bc BK753 3
        have hfs38 := blk_frozen BK753.out 3
        have hns38_0 := NB752_753.out
        have hms38_0 := NB753_752.out
        refine skip_ (w1 := ?_) (by rfl) rfl ?_ ?_
        rotate_left
        · go_simp
          rfl
        refine hK.out _ _ ⟨((cell_far (p := ⟨gb753, _, none⟩) NB752_753.out _).trans (((cell_far (p := ⟨gb753, _, none⟩) NB752_753.out _).trans (((cell_far (p := ⟨gb753, _, none⟩) NB752_753.out _).trans (((cell_far (p := ⟨gb753, _, none⟩) NB752_753.out _).trans (hHeld.1)))))))), ((cell_far (p := ⟨gb753, _, none⟩) NB752_753.out _).trans (((cell_far (p := ⟨gb753, _, none⟩) NB752_753.out _).trans (((cell_far (p := ⟨gb753, _, none⟩) NB752_753.out _).trans (((cell_far (p := ⟨gb753, _, none⟩) NB752_753.out _).trans (hHeld.2.1)))))))), ((cell_far (p := ⟨gb753, _, none⟩) NB752_753.out _).trans (((cell_far (p := ⟨gb753, _, none⟩) NB752_753.out _).trans (((cell_far (p := ⟨gb753, _, none⟩) NB752_753.out _).trans (((cell_far (p := ⟨gb753, _, none⟩) NB752_753.out _).trans (hHeld.2.2.1)))))))), ((cell_far (p := ⟨gb753, _, none⟩) NB752_753.out _).trans (((cell_far (p := ⟨gb753, _, none⟩) NB752_753.out _).trans (((cell_far (p := ⟨gb753, _, none⟩) NB752_753.out _).trans (((cell_far (p := ⟨gb753, _, none⟩) NB752_753.out _).trans (hHeld.2.2.2))))))))⟩ (fun hHeld => ?_)
        clear hK K
        refine done_ (done_of HT_.out (by kernel_rfl)) ?_
        try go_wp2
        refine bodyPost_ret (results_cell_row rfl _ _ gb753 64 #[.int .i64 t755, .int .i64 t756, .int .i64 t757, .int .i64 t758] (0, 0) _ rfl (by (with_reducible repeat (first | refine blk_drewN ?_ _ | refine blk_drew ?_ | refine blk_alloc ?_ _)); refine blk_put (cs := #[.int .i64 t755, .int .i64 t756, .int .i64 t757, .int .i64 0]) ?_ 3 _ rfl; (with_reducible repeat (first | refine blk_drewN ?_ _ | refine blk_drew ?_ | refine blk_alloc ?_ _)); refine blk_put (cs := #[.int .i64 t755, .int .i64 t756, .int .i64 0, .int .i64 0]) ?_ 2 _ rfl; (with_reducible repeat (first | refine blk_drewN ?_ _ | refine blk_drew ?_ | refine blk_alloc ?_ _)); refine blk_put (cs := #[.int .i64 t755, .int .i64 0, .int .i64 0, .int .i64 0]) ?_ 1 _ rfl; (with_reducible repeat (first | refine blk_drewN ?_ _ | refine blk_drew ?_ | refine blk_alloc ?_ _)); refine blk_put (cs := #[.int .i64 0, .int .i64 0, .int .i64 0, .int .i64 0]) ?_ 0 _ rfl; (with_reducible repeat (first | refine blk_drewN ?_ _ | refine blk_drew ?_ | refine blk_alloc ?_ _)); exact BK753.out) Try.underlying64 rfl (by kernel_rfl)) rfl ?_
        exact ⟨by first | rfl | (simp [errW_none, errW_some] <;> rfl) | (simp [*, errW_none, errW_some] <;> rfl), by repeat (first | (with_reducible first | exact HB.out | apply below_alloc | apply pw_below_drewN | apply below_drew1 | refine below_set ?_ GE752.out | refine below_set ?_ GE753.out) | exact HB.out)⟩

end Go.Proofs.Ytihfopblmjgfaaa.Q

namespace Go.Proofs.Ytihfopblmjgfaaa.Q
open Go.RowKit Go.Proofs.YtihfopblmjgfaaaW.PrintWords Go.Proofs.YtihfopblmjgfaaaW.PrintLast Go.Proofs.YtihfopblmjgfaaaW.PrintMore
attribute [local go_sem] max2_int min2_int max_two min_two max_three min_three max_four min_four   -- for this text's walks alone
set_option linter.unusedVariables false
set_option linter.unusedSimpArgs false

/-! ### rect_FloorDiv: function 72 -/
def rect_FloorDiv.f (a0 : Int) (a1 : Int) : Option (Int) := if a1 < 1 then (some 0) else (if a1 = 0 then (none) else (if (Int.tmod a0 a1) < 0 then (some (wrap64 ((wrap64 (Int.tdiv a0 a1)) - 1))) else (some (wrap64 (Int.tdiv a0 a1)))))
set_option maxHeartbeats 8000000 in
set_option maxRecDepth 100000 in
theorem rect_FloorDiv.calls (a0 : Int) (a1 : Int) (r : Int) (w : World) (h : rect_FloorDiv.f a0 a1 = some r) :
    Calls Try.prog 72 #[.int .i64 a0, .int .i64 a1] w fun e w' => e = .returned (.int .i64 r) ∧ Drawn0 w w' := by
  have H : (if a1 < 1 then (some 0) else (if a1 = 0 then (none) else (if (Int.tmod a0 a1) < 0 then (some (wrap64 ((wrap64 (Int.tdiv a0 a1)) - 1))) else (some (wrap64 (Int.tdiv a0 a1)))))) = some r := h
  clear h
  by_cases c3 : a1 < 1
  · rw [if_pos c3] at H
    have c3b0 : decide (a1 < 1) = true := decide_eq_true c3
    clear c3
    obtain rfl := Option.some.inj H
    go_enter Try.func72, Try.ntmps72
    go_wp2
    go_ret
    exact ⟨by first | rfl | (simp; done) | (simp [*]; done), by repeat (first | exact Drawn0.refl _ | apply Drawn0.step)⟩
  · rw [if_neg c3] at H
    have c3b0 : decide (a1 < 1) = false := decide_eq_false c3
    clear c3
    by_cases c4 : a1 = 0
    · rw [if_pos c4] at H
      exact absurd H (by simp)
    · rw [if_neg c4] at H
      have c4b0 : (a1 == 0) = false := beq_eq_false_iff_ne.mpr c4
      have c4b1 : (a1 != 0) = true := bne_iff_ne.mpr c4
      by_cases c5 : (Int.tmod a0 a1) < 0
      · rw [if_pos c5] at H
        have c5b0 : decide ((Int.tmod a0 a1) < 0) = true := decide_eq_true c5
        clear c5
        obtain rfl := Option.some.inj H
        go_enter Try.func72, Try.ntmps72
        go_wp2
        go_ret
        exact ⟨by first | rfl | (simp; done) | (simp [*]; done), by repeat (first | exact Drawn0.refl _ | apply Drawn0.step)⟩
      · rw [if_neg c5] at H
        have c5b0 : decide ((Int.tmod a0 a1) < 0) = false := decide_eq_false c5
        clear c5
        obtain rfl := Option.some.inj H
        go_enter Try.func72, Try.ntmps72
        go_wp2
        go_ret
        exact ⟨by first | rfl | (simp; done) | (simp [*]; done), by repeat (first | exact Drawn0.refl _ | apply Drawn0.step)⟩

end Go.Proofs.Ytihfopblmjgfaaa.Q

namespace Go.Proofs.Ytihfopblmjgfaaa.Q
open Go.RowKit Go.Proofs.YtihfopblmjgfaaaW.PrintWords Go.Proofs.YtihfopblmjgfaaaW.PrintLast Go.Proofs.YtihfopblmjgfaaaW.PrintMore
attribute [local go_sem] max2_int min2_int max_two min_two max_three min_three max_four min_four   -- for this text's walks alone
set_option linter.unusedVariables false
set_option linter.unusedSimpArgs false

/-! ### rect_Area: function 73 -/
def rect_Area.f (a0_0 : Int) (a0_1 : Int) (a0_2 : Int) (a0_3 : Int) : Option (Int) := (rect_Valid.f a0_0 a0_1 a0_2 a0_3).bind fun t760 => (if t760 = true then (some (wrap64 ((wrap64 (a0_2 - a0_0)) * (wrap64 (a0_3 - a0_1))))) else (some 0))
set_option maxHeartbeats 8000000 in
set_option maxRecDepth 100000 in
theorem rect_Area.calls (a0_0 : Int) (a0_1 : Int) (a0_2 : Int) (a0_3 : Int) (r : Int) (w : World) (h : rect_Area.f a0_0 a0_1 a0_2 a0_3 = some r) :
    Calls Try.prog 73 #[.agg #[.int .i64 a0_0, .int .i64 a0_1, .int .i64 a0_2, .int .i64 a0_3]] w fun e w' => e = .returned (.int .i64 r) ∧ Below w.heap.size w w' := by
  have hu64 := Try.underlying64
  have HB := Aside0.mk (Below.refl w.heap.size w)
  have H : ((rect_Valid.f a0_0 a0_1 a0_2 a0_3).bind fun t760 => (if t760 = true then (some (wrap64 ((wrap64 (a0_2 - a0_0)) * (wrap64 (a0_3 - a0_1))))) else (some 0))) = some r := h
  clear h
  replace H := Option.bind_eq_some_iff.mp H
  obtain ⟨t760, A20, H⟩ := H
  replace H : (if t760 = true then (some (wrap64 ((wrap64 (a0_2 - a0_0)) * (wrap64 (a0_3 - a0_1))))) else (some 0)) = some r := H
  have A2 := Aside0.mk A20
  clear A20
  by_cases c3 : t760 = true
  · subst c3
    have H1 : (some (wrap64 ((wrap64 (a0_2 - a0_0)) * (wrap64 (a0_3 - a0_1))))) = some r := by rw [if_pos rfl] at H; exact H
    clear H
    have H := H1
    clear H1
    obtain rfl := Option.some.inj H
    go_enter Try.func73, Try.ntmps73
    go_wp2_with (first | ((with_reducible refine gate_dst (N := 1) rfl ?_); refine box_event ?hg (N := 1) ?hd (cs := #[.int .i64 a0_0, .int .i64 a0_1, .int .i64 a0_2, .int .i64 a0_3]) (t := 64) ?hr ?_; (case hd => rfl); (case hg => rfl); (case hr => first | (go_simp; done) | (go_simp; rfl)); intro gb759 hg w4 hbox hb; have BK759 := Aside0.mk (hbox); have GW759 := Aside0.mk ((by rw [hg]; exact (below_size (upB HB.out)) : w.heap.size ≤ gb759)); have GE759 := Aside0.mk ((by rw [hg]; exact (below_size (upB HB.out)) : w.heap.size ≤ gb759)); replace HB := Aside0.mk (below_step (upB HB.out) hb); clear hb hbox hg; have hcz5_0 : w4.cell? ⟨gb759, 0, none⟩ = some (.int .i64 a0_0) := bc BK759 0; have hcz5_1 : w4.cell? ⟨gb759, 1, none⟩ = some (.int .i64 a0_1) := bc BK759 1; have hcz5_2 : w4.cell? ⟨gb759, 2, none⟩ = some (.int .i64 a0_2) := bc BK759 2; have hcz5_3 : w4.cell? ⟨gb759, 3, none⟩ = some (.int .i64 a0_3) := bc BK759 3; have hfz5_0 := blk_frozen BK759.out 0; have hfz5_1 := blk_frozen BK759.out 1; have hfz5_2 := blk_frozen BK759.out 2; have hfz5_3 := blk_frozen BK759.out 3) | ((with_reducible refine gate_callee (f := 67) rfl ?_); refine goesL_ (some 4) rfl rfl Try.func67 (by kernel_rfl) rfl #[.agg #[.int .i64 a0_0, .int .i64 a0_1, .int .i64 a0_2, .int .i64 a0_3]] rfl upL ?_; (with_reducible refine (rect_Valid.calls a0_0 a0_1 a0_2 a0_3 true _ A2.out).mono ?_); rintro e w6 ⟨rfl, hb⟩; refine ⟨_, rfl, ?_⟩; replace BK759 := Aside0.mk (blk_below (g := gb759) (o := .cells #[.int .i64 a0_0, .int .i64 a0_1, .int .i64 a0_2, .int .i64 a0_3] 64 (0, 0)) (upK BK759.out) hb); replace HB := Aside0.mk (below_step (upB HB.out) hb); (try clear hb; try clear hb2; try clear hk; try clear hi); have hcz7_0 : w6.cell? ⟨gb759, 0, none⟩ = some (.int .i64 a0_0) := bc BK759 0; have hcz7_1 : w6.cell? ⟨gb759, 1, none⟩ = some (.int .i64 a0_1) := bc BK759 1; have hcz7_2 : w6.cell? ⟨gb759, 2, none⟩ = some (.int .i64 a0_2) := bc BK759 2; have hcz7_3 : w6.cell? ⟨gb759, 3, none⟩ = some (.int .i64 a0_3) := bc BK759 3; have hfz7_0 := blk_frozen BK759.out 0; have hfz7_1 := blk_frozen BK759.out 1; have hfz7_2 := blk_frozen BK759.out 2; have hfz7_3 := blk_frozen BK759.out 3))
    go_ret
    exact ⟨by first | rfl | (simp [errW_none, errW_some] <;> rfl) | (simp [*, errW_none, errW_some] <;> rfl), by repeat (first | (with_reducible first | exact HB.out | apply below_alloc | apply pw_below_drewN | apply below_drew1 | refine below_set ?_ GE759.out) | exact HB.out)⟩
  · replace c3 := Bool.eq_false_iff.mpr c3
    subst c3
    have H1 : (some 0) = some r := by rw [if_neg (show ¬ (false = true) by decide)] at H; exact H
    clear H
    have H := H1
    clear H1
    obtain rfl := Option.some.inj H
    go_enter Try.func73, Try.ntmps73
    go_wp2_with (first | ((with_reducible refine gate_dst (N := 1) rfl ?_); refine box_event ?hg (N := 1) ?hd (cs := #[.int .i64 a0_0, .int .i64 a0_1, .int .i64 a0_2, .int .i64 a0_3]) (t := 64) ?hr ?_; (case hd => rfl); (case hg => rfl); (case hr => first | (go_simp; done) | (go_simp; rfl)); intro gb759 hg w8 hbox hb; have BK759 := Aside0.mk (hbox); have GW759 := Aside0.mk ((by rw [hg]; exact (below_size (upB HB.out)) : w.heap.size ≤ gb759)); have GE759 := Aside0.mk ((by rw [hg]; exact (below_size (upB HB.out)) : w.heap.size ≤ gb759)); replace HB := Aside0.mk (below_step (upB HB.out) hb); clear hb hbox hg; have hcz9_0 : w8.cell? ⟨gb759, 0, none⟩ = some (.int .i64 a0_0) := bc BK759 0; have hcz9_1 : w8.cell? ⟨gb759, 1, none⟩ = some (.int .i64 a0_1) := bc BK759 1; have hcz9_2 : w8.cell? ⟨gb759, 2, none⟩ = some (.int .i64 a0_2) := bc BK759 2; have hcz9_3 : w8.cell? ⟨gb759, 3, none⟩ = some (.int .i64 a0_3) := bc BK759 3; have hfz9_0 := blk_frozen BK759.out 0; have hfz9_1 := blk_frozen BK759.out 1; have hfz9_2 := blk_frozen BK759.out 2; have hfz9_3 := blk_frozen BK759.out 3) | ((with_reducible refine gate_callee (f := 67) rfl ?_); refine goesL_ (some 4) rfl rfl Try.func67 (by kernel_rfl) rfl #[.agg #[.int .i64 a0_0, .int .i64 a0_1, .int .i64 a0_2, .int .i64 a0_3]] rfl upL ?_; (with_reducible refine (rect_Valid.calls a0_0 a0_1 a0_2 a0_3 false _ A2.out).mono ?_); rintro e w10 ⟨rfl, hb⟩; refine ⟨_, rfl, ?_⟩; replace BK759 := Aside0.mk (blk_below (g := gb759) (o := .cells #[.int .i64 a0_0, .int .i64 a0_1, .int .i64 a0_2, .int .i64 a0_3] 64 (0, 0)) (upK BK759.out) hb); replace HB := Aside0.mk (below_step (upB HB.out) hb); (try clear hb; try clear hb2; try clear hk; try clear hi)))
    go_ret
    exact ⟨by first | rfl | (simp [errW_none, errW_some] <;> rfl) | (simp [*, errW_none, errW_some] <;> rfl), by repeat (first | (with_reducible first | exact HB.out | apply below_alloc | apply pw_below_drewN | apply below_drew1 | refine below_set ?_ GE759.out) | exact HB.out)⟩

end Go.Proofs.Ytihfopblmjgfaaa.Q
